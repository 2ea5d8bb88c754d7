import PyProof.Rows.All
import Wide.All
import OpenK.AllK
import Wide.FinOn
import HandS.ForMost
import HandS.ForExc
import HandS.Evl
import HandS.WideBits
import HandS.IsInst
import HandS.Small
import HandS.More
import HandS.Walk
import KE.GoesEnum
import KE.GoesMore
import HandS.Property
import HandS.Conv
import PyProof.LongRange
import HandS.TryMany
import HandS.TryOnly
import HandS.ExcOwn
import HandS.WordsDict
import KE.SortKeyHeap
import KE.SortData
import HandS.Sort
import HandS.SortKw
import PyProof.WalksMore
import HandS.OwnEq
import OpenK.KOps
import HandS.Style
import HandS.Star
import KE.KDictCopyH
import PySem.Challenge.RW_weekfeasts_k13_things_that_hold
import KE.KEqSeq
import HandS.SortInts
/-! WMath: the plain law. Rules as data, their days, figures as numbers. -/
set_option Elab.async false
set_option linter.all false
namespace WF

/-- a rule, as data -/
inductive Rl where
  | wk (k : Int) | fs (k : Int) | md (k : Int)
  | bh (r : Rl) (b : Int)
  | bo (x y : Rl) | ei (x y : Rl) | wo (x y : Rl)
  deriving DecidableEq, Inhabited

/-- is day d one of the rule, in the land (w, m) -/
def Rl.day (w m : Int) : Rl → Int → Bool
  | .wk k, d => d % w == k % w
  | .fs k, d => d % w == k % w && decide (d % m < w)
  | .md k, d => d % m == k % m
  | .bh r b, d => r.day w m (d - b)
  | .bo x y, d => x.day w m d && y.day w m d
  | .ei x y, d => x.day w m d || y.day w m d
  | .wo x y, d => x.day w m d && !y.day w m d
def Rl.parts : Rl → Nat
  | .wk _ | .fs _ | .md _ => 1
  | .bh r _ => 1 + r.parts
  | .bo x y | .ei x y | .wo x y => 1 + x.parts + y.parts
def Rl.bys : Rl → Nat
  | .wk _ | .fs _ | .md _ => 0
  | .bh r b => b.natAbs + r.bys
  | .bo x y | .ei x y | .wo x y => x.bys + y.bys
/-- the numbers in it are such as may stand -/
def Rl.fit : Rl → Bool
  | .wk k | .fs k => decide (-2 ≤ k ∧ k ≤ 1)
  | .md k => decide (-3 ≤ k ∧ k ≤ 2)
  | .bh r b => decide (b = -2 ∨ b = -1 ∨ b = 1 ∨ b = 2) && r.fit
  | .bo x y | .ei x y | .wo x y => x.fit && y.fit
/-- a calendar's rows -/
abbrev Rows := List (Rl × Bool)
def addRow (w m : Int) (f : Int → Bool) (r : Rl × Bool) : Int → Bool := fun d =>
  f d || (r.1.day w m d && !(r.2 && f d)) || (r.2 && (r.1.day w m (d - 1) && f (d - 1)))
def calDay (w m : Int) (rows : Rows) : Int → Bool := rows.foldl (addRow w m) fun _ => false

/-! ### all goes round -/
def Per (N : Int) (p : Int → Bool) : Prop := ∀ d, p (d + N) = p d
theorem Per.sub {N : Int} {p : Int → Bool} (h : Per N p) (d : Int) : p (d - N) = p d := by
  have := h (d - N)
  rw [Int.sub_add_cancel] at this
  exact this.symm
theorem Per.mulN {N : Int} {p : Int → Bool} (h : Per N p) (d : Int) : ∀ k : Nat, p (d + N * (k : Int)) = p d
  | 0 => by simp
  | k + 1 => by
    have e : d + N * ((k + 1 : Nat) : Int) = (d + N * (k : Int)) + N := by
      rw [Int.natCast_add, Int.mul_add]; simp; omega
    rw [e, h, Per.mulN h d k]
theorem Per.mul {N : Int} {p : Int → Bool} (h : Per N p) (d k : Int) : p (d + N * k) = p d := by
  rcases Int.le_total 0 k with hk | hk
  · obtain ⟨n, rfl⟩ := Int.eq_ofNat_of_zero_le hk
    exact h.mulN d n
  · obtain ⟨n, hn⟩ := Int.eq_ofNat_of_zero_le (show 0 ≤ -k by omega)
    have e : k = -(n : Int) := by omega
    have := h.mulN (d + N * k) n
    have e2 : d + N * k + N * (n : Int) = d := by
      rw [e, Int.mul_neg]; omega
    rw [e2] at this
    exact this.symm
theorem Per.emod {N : Int} {p : Int → Bool} (h : Per N p) (d : Int) : p (d % N) = p d := by
  have e : d % N = d + N * (-(d / N)) := by
    have := Int.emod_add_mul_ediv d N
    rw [Int.mul_neg]; omega
  rw [e, h.mul]
theorem rl_per (w m : Int) : ∀ r : Rl, Per (w * m) (r.day w m)
  | .wk k => fun d => by
    show (((d + w * m) % w == k % w) = (d % w == k % w))
    rw [Int.add_mul_emod_self_left]
  | .fs k => fun d => by
    show (((d + w * m) % w == k % w && decide ((d + w * m) % m < w)) = (d % w == k % w && decide (d % m < w)))
    rw [Int.add_mul_emod_self_left, Int.mul_comm w m, Int.add_mul_emod_self_left]
  | .md k => fun d => by
    show (((d + w * m) % m == k % m) = (d % m == k % m))
    rw [Int.mul_comm w m, Int.add_mul_emod_self_left]
  | .bh r b => fun d => by
    show r.day w m (d + w * m - b) = r.day w m (d - b)
    rw [show d + w * m - b = d - b + w * m by omega]
    exact rl_per w m r _
  | .bo x y => fun d => by
    show (x.day w m (d + w * m) && y.day w m (d + w * m)) = _
    rw [rl_per w m x d, rl_per w m y d]; rfl
  | .ei x y => fun d => by
    show (x.day w m (d + w * m) || y.day w m (d + w * m)) = _
    rw [rl_per w m x d, rl_per w m y d]; rfl
  | .wo x y => fun d => by
    show (x.day w m (d + w * m) && !y.day w m (d + w * m)) = _
    rw [rl_per w m x d, rl_per w m y d]; rfl
theorem add_per {w m : Int} {f : Int → Bool} (h : Per (w * m) f) (r : Rl × Bool) : Per (w * m) (addRow w m f r) := fun d => by
  unfold addRow
  rw [h d, rl_per w m r.1 d, show d + w * m - 1 = d - 1 + w * m by omega, h (d - 1), rl_per w m r.1 (d - 1)]
theorem fold_per {w m : Int} : ∀ (rows : Rows) {f : Int → Bool}, Per (w * m) f → Per (w * m) (rows.foldl (addRow w m) f)
  | [], _, h => h
  | r :: rows, _, h => fold_per rows (add_per h r)
theorem cal_per (w m : Int) (rows : Rows) : Per (w * m) (calDay w m rows) := fold_per rows fun _ => rfl

/-! ### figures -/
/-- the figure of N days: bit d tells p d -/
def figN : Nat → (Int → Bool) → Nat
  | 0, _ => 0
  | n + 1, p => figN n p + (if p (n : Int) then 2 ^ n else 0)
theorem figN_lt : ∀ (n : Nat) (p : Int → Bool), figN n p < 2 ^ n
  | 0, _ => by simp [figN]
  | n + 1, p => by
    have := figN_lt n p
    unfold figN
    rw [Nat.pow_succ]
    split <;> omega
theorem figN_bit : ∀ (n : Nat) (p : Int → Bool) (d : Nat), (figN n p).testBit d = (decide (d < n) && p (d : Int))
  | 0, p, d => by simp [figN]
  | n + 1, p, d => by
    unfold figN
    have hl := figN_lt n p
    have ih := figN_bit n p d
    by_cases hp : p (n : Int) = true
    · rw [if_pos hp, Nat.add_comm]
      rcases Nat.lt_trichotomy d n with h | h | h
      · rw [Nat.testBit_two_pow_add_gt h, ih, decide_eq_true h, decide_eq_true (Nat.lt_succ_of_lt h)]
      · subst h
        rw [Nat.testBit_two_pow_add_eq, Nat.testBit_lt_two_pow hl, hp, decide_eq_true (Nat.lt_succ_self d)]; rfl
      · have hz : 2 ^ n + figN n p < 2 ^ d := by
          have h1 : 2 ^ (n + 1) ≤ 2 ^ d := Nat.pow_le_pow_right (by decide) h
          rw [Nat.pow_succ] at h1
          omega
        rw [Nat.testBit_lt_two_pow hz, decide_eq_false (by omega)]; rfl
    · rw [if_neg hp, Nat.add_zero, ih]
      rcases Nat.lt_trichotomy d n with h | h | h
      · rw [decide_eq_true h, decide_eq_true (Nat.lt_succ_of_lt h)]
      · subst h
        rw [decide_eq_false (Nat.lt_irrefl d)]
        simp at hp
        rw [hp]; simp
      · rw [decide_eq_false (by omega), decide_eq_false (by omega)]
theorem figN_eq {N n : Nat} {p : Int → Bool} (hl : n < 2 ^ N) (h : ∀ d, d < N → n.testBit d = p (d : Int)) : n = figN N p := by
  apply Nat.eq_of_testBit_eq
  intro d
  rw [figN_bit]
  by_cases hd : d < N
  · rw [h d hd, decide_eq_true hd]; rfl
  · rw [decide_eq_false hd, Nat.testBit_lt_two_pow (Nat.lt_of_lt_of_le hl (Nat.pow_le_pow_right (by decide) (by omega)))]; rfl
theorem figN_congr {N : Nat} {p q : Int → Bool} (h : ∀ d : Nat, d < N → p (d : Int) = q (d : Int)) : figN N p = figN N q :=
  figN_eq (figN_lt _ _) fun d hd => by rw [figN_bit, decide_eq_true hd, h d hd]; rfl
theorem figN_and (N : Nat) (p q : Int → Bool) : figN N p &&& figN N q = figN N fun d => p d && q d :=
  figN_eq (Nat.lt_of_le_of_lt Nat.and_le_left (figN_lt _ _)) fun d hd => by rw [Nat.testBit_and, figN_bit, figN_bit, decide_eq_true hd]; rfl
theorem figN_wo : ∀ (N : Nat) (p q : Int → Bool), figN N p = figN N (fun d => p d && !q d) + figN N (fun d => p d && q d)
  | 0, _, _ => rfl
  | n + 1, p, q => by
    unfold figN
    have ih := figN_wo n p q
    cases hp : p (n : Int) <;> cases hq : q (n : Int) <;> simp [hp, hq] <;> omega
theorem figN_orE : ∀ (N : Nat) (p q : Int → Bool), figN N (fun d => p d || q d) + figN N (fun d => p d && q d) = figN N p + figN N q
  | 0, _, _ => rfl
  | n + 1, p, q => by
    unfold figN
    have ih := figN_orE n p q
    cases hp : p (n : Int) <;> cases hq : q (n : Int) <;> simp [hp, hq] <;> omega
theorem figN_xorE : ∀ (N : Nat) (p q : Int → Bool), figN N (fun d => p d ^^ q d) + 2 * figN N (fun d => p d && q d) = figN N p + figN N q
  | 0, _, _ => rfl
  | n + 1, p, q => by
    unfold figN
    have ih := figN_xorE n p q
    cases hp : p (n : Int) <;> cases hq : q (n : Int) <;> simp [hp, hq] <;> omega

/-! ### one that is turned -/
def maskN (N : Nat) : Nat := 2 ^ N - 1
theorem turn_fig {N b : Nat} {p : Int → Bool} (hp : Per (N : Int) p) (hb : b < N) :
    (figN N p * 2 ^ b) % 2 ^ N ||| (figN N p * 2 ^ b) / 2 ^ N = figN N fun d => p (d - (b : Int)) := by
  have h1 : (figN N p * 2 ^ b) / 2 ^ N < 2 ^ N := by
    apply Nat.div_lt_of_lt_mul
    have := figN_lt N p
    have h2 : 2 ^ b < 2 ^ N := Nat.pow_lt_pow_right (by decide) hb
    exact Nat.mul_lt_mul'' this h2
  refine figN_eq (Nat.or_lt_two_pow (Nat.mod_lt _ (Nat.two_pow_pos _)) h1) fun d hd => ?_
  rw [Nat.testBit_or, Nat.testBit_mod_two_pow, ← Nat.shiftLeft_eq, ← Nat.shiftRight_eq_div_pow, Nat.testBit_shiftRight, Nat.testBit_shiftLeft, Nat.testBit_shiftLeft, figN_bit, figN_bit, decide_eq_true hd]
  have e1 : decide (N + d ≥ b) = true := decide_eq_true (by omega)
  rw [e1]
  by_cases hbd : b ≤ d
  · have e2 : decide (d ≥ b) = true := decide_eq_true hbd
    have e3 : decide (d - b < N) = true := decide_eq_true (by omega)
    have e4 : decide (N + d - b < N) = false := decide_eq_false (by omega)
    rw [e2, e3, e4, show ((d - b : Nat) : Int) = (d : Int) - (b : Int) by omega]
    simp
  · have e2 : decide (d ≥ b) = false := decide_eq_false (by omega)
    have e4 : decide (N + d - b < N) = true := decide_eq_true (by omega)
    rw [e2, e4, show ((N + d - b : Nat) : Int) = ((d : Int) - (b : Int)) + (N : Int) by omega, hp]
    simp
/-! ### a sum of powers whose exponents rise -/
theorem fig_step {n e : Nat} {p : Int → Bool} (hb : ∀ d : Nat, d < e → n ≤ d → p (d : Int) = false) (he : p (e : Int) = true) (hn : n ≤ e) : figN n p + 2 ^ e = figN (e + 1) p := by
  have h : ∀ k, n + k ≤ e → figN (n + k) p = figN n p := by
    intro k
    induction k with
    | zero => intro _; rfl
    | succ k ih =>
      intro hk
      show figN (n + k) p + (if p ((n + k : Nat) : Int) then 2 ^ (n + k) else 0) = figN n p
      rw [hb (n + k) (by omega) (by omega), ih (by omega)]
      simp
  have := h (e - n) (by omega)
  rw [show n + (e - n) = e by omega] at this
  show _ = figN e p + (if p (e : Int) then 2 ^ e else 0)
  rw [he, this]; simp
theorem fig_more {n m : Nat} {p : Int → Bool} (h : ∀ d : Nat, n ≤ d → d < m → p (d : Int) = false) (hn : n ≤ m) : figN m p = figN n p := by
  have g : ∀ k, n + k ≤ m → figN (n + k) p = figN n p := by
    intro k
    induction k with
    | zero => intro _; rfl
    | succ k ih =>
      intro hk
      show figN (n + k) p + (if p ((n + k : Nat) : Int) then 2 ^ (n + k) else 0) = figN n p
      rw [h (n + k) (by omega) (by omega), ih (by omega)]
      simp
  have := g (m - n) (by omega)
  rwa [show n + (m - n) = m by omega] at this
/-- a block with just one day -/
theorem fig_block {n e n' : Nat} {p : Int → Bool} (h1 : n ≤ e) (h2 : e < n') (he : p (e : Int) = true) (ho : ∀ d : Nat, n ≤ d → d < n' → d ≠ e → p (d : Int) = false) : figN n p + 2 ^ e = figN n' p := by
  rw [fig_step (fun d hd hn => ho d hn (by omega) (by omega)) he h1]
  exact (fig_more (n := e + 1) (m := n') (fun d h3 h4 => ho d (by omega) h4 (by omega)) (by omega)).symm
theorem fig_blocks {L : Nat} {e : Nat → Nat} {p : Int → Bool} : ∀ T : Nat, (∀ t, t < T → L * t ≤ e t ∧ e t < L * (t + 1) ∧ ∀ d : Nat, L * t ≤ d → d < L * (t + 1) → (p (d : Int) = true ↔ d = e t)) →
    (((List.range T).map fun t => 2 ^ e t).sum = figN (L * T) p)
  | 0, _ => by simp [figN]
  | T + 1, h => by
    obtain ⟨h1, h2, h3⟩ := h T (Nat.lt_succ_self T)
    rw [List.range_succ, List.map_append, List.sum_append, fig_blocks T fun t ht => h t (Nat.lt_succ_of_lt ht)]
    simp only [List.map_cons, List.map_nil, List.sum_cons, List.sum_nil, Nat.add_zero]
    refine fig_block h1 h2 ((h3 (e T) h1 h2).mpr rfl) fun d hd hd' hne => ?_
    cases hp : p (d : Int) with
    | false => rfl
    | true => exact absurd ((h3 d hd hd').mp hp) hne
/-- days that come by a step -/
theorem every_fig {w : Nat} (k : Int) (hw : 0 < w) (T : Nat) : (((List.range T).map fun t => 2 ^ ((k % (w : Int)).toNat + w * t)).sum = figN (w * T) fun d => d % (w : Int) == k % (w : Int)) := by
  have h0 : 0 ≤ k % (w : Int) := Int.emod_nonneg _ (by omega)
  have h1 : k % (w : Int) < (w : Int) := Int.emod_lt_of_pos _ (by omega)
  refine fig_blocks T fun t _ => ⟨by omega, by rw [Nat.mul_add]; omega, fun d hd hd' => ?_⟩
  rw [beq_iff_eq]
  have hd'' : d < w * t + w := by rw [Nat.mul_add, Nat.mul_one] at hd'; exact hd'
  have e : (d : Int) % (w : Int) = (d : Int) - (w : Int) * (t : Int) := by
    have : (d : Int) = ((d : Int) - (w : Int) * (t : Int)) + (w : Int) * (t : Int) := by omega
    rw [this, Int.add_mul_emod_self_left, Int.emod_eq_of_lt]
    · omega
    · have : ((w * t : Nat) : Int) = (w : Int) * (t : Int) := Int.natCast_mul w t
      omega
    · have : ((w * t : Nat) : Int) = (w : Int) * (t : Int) := Int.natCast_mul w t
      omega
  have q : ((w * t : Nat) : Int) = (w : Int) * (t : Int) := Int.natCast_mul w t
  rw [e]
  omega
theorem first_fig {w m : Nat} (k : Int) (hw : 0 < w) (hm : w < m) (T : Nat) :
    (((List.range T).map fun (t : Nat) => 2 ^ (m * t + ((k - (m : Int) * (t : Int)) % (w : Int)).toNat)).sum = figN (m * T) fun d => d % (w : Int) == k % (w : Int) && decide (d % (m : Int) < (w : Int))) := by
  refine fig_blocks T fun t _ => ?_
  have h0 : 0 ≤ (k - (m : Int) * (t : Int)) % (w : Int) := Int.emod_nonneg _ (by omega)
  have h1 : (k - (m : Int) * (t : Int)) % (w : Int) < (w : Int) := Int.emod_lt_of_pos _ (by omega)
  have q : ((m * t : Nat) : Int) = (m : Int) * (t : Int) := Int.natCast_mul m t
  refine ⟨by omega, by rw [Nat.mul_add]; omega, fun d hd hd' => ?_⟩
  have hd'' : d < m * t + m := by rw [Nat.mul_add, Nat.mul_one] at hd'; exact hd'
  have e : (d : Int) % (m : Int) = (d : Int) - (m : Int) * (t : Int) := by
    have : (d : Int) = ((d : Int) - (m : Int) * (t : Int)) + (m : Int) * (t : Int) := by omega
    rw [this, Int.add_mul_emod_self_left, Int.emod_eq_of_lt]
    · omega
    · omega
    · omega
  rw [Bool.and_eq_true, beq_iff_eq, decide_eq_true_iff, e]
  constructor
  · rintro ⟨a, b⟩
    have : (k - (m : Int) * (t : Int)) % (w : Int) = (d : Int) - (m : Int) * (t : Int) := by
      rw [Int.sub_emod, ← a, ← Int.sub_emod, Int.emod_eq_of_lt (by omega) b]
    omega
  · intro hde
    have hx : (d : Int) - (m : Int) * (t : Int) = (k - (m : Int) * (t : Int)) % (w : Int) := by omega
    refine ⟨?_, by omega⟩
    have : (d : Int) = ((k - (m : Int) * (t : Int)) % (w : Int)) + (m : Int) * (t : Int) := by omega
    rw [this, Int.add_emod, Int.emod_emod, ← Int.add_emod, Int.sub_add_cancel]

/-! ### what is counted -/
def daysN (N : Nat) (p : Int → Bool) : List Nat := (List.range N).filter fun (d : Nat) => p (d : Int)
theorem daysN_mem {N d : Nat} {p : Int → Bool} : d ∈ daysN N p ↔ d < N ∧ p (d : Int) = true := by
  unfold daysN
  rw [List.mem_filter, List.mem_range]
theorem daysN_len (N : Nat) (p : Int → Bool) : (daysN N p).length ≤ N := by
  unfold daysN
  have h := List.length_filter_le (fun (d : Nat) => p (d : Int)) (List.range N)
  rwa [List.length_range] at h
theorem daysN_nodup (N : Nat) (p : Int → Bool) : (daysN N p).Nodup := List.Pairwise.filter _ List.nodup_range
theorem nodup_len : ∀ {l1 l2 : List Nat}, l1.Nodup → l2.Nodup → (∀ x, x ∈ l1 ↔ x ∈ l2) → l1.length = l2.length := fun {l1 l2} h1 h2 h =>
  ((List.perm_ext_iff_of_nodup h1 h2).mpr h).length_eq

theorem figN_zero {N : Nat} {q : Int → Bool} (h : ∀ d : Nat, d < N → q (d : Int) = false) : figN N q = 0 := by
  have := fig_more (n := 0) (m := N) (p := q) (fun d _ hd => h d hd) (Nat.zero_le _)
  rw [this]; rfl
theorem least : ∀ (N : Nat) (q : Nat → Bool), (∃ d, d < N ∧ q d = true) → ∃ j, j < N ∧ q j = true ∧ ∀ d, d < j → q d = false
  | 0, _, ⟨_, h, _⟩ => absurd h (Nat.not_lt_zero _)
  | n + 1, q, ⟨d, h, hd⟩ => by
    by_cases h0 : ∃ d, d < n ∧ q d = true
    · obtain ⟨j, h1, h2, h3⟩ := least n q h0
      exact ⟨j, by omega, h2, h3⟩
    · refine ⟨d, h, hd, fun e he => ?_⟩
      cases hq : q e with
      | false => rfl
      | true => exact absurd ⟨e, by omega, hq⟩ h0
theorem fig_one {N j : Nat} (hj : j < N) : 2 ^ j = figN N fun d => d == (j : Int) := by
  have := fig_block (n := 0) (e := j) (n' := N) (p := fun d => d == (j : Int)) (Nat.zero_le _) hj (by simp) (fun d _ _ hne => by
    rw [beq_eq_false_iff_ne]; omega)
  rw [← this]; simp [figN]
theorem fig_low {N : Nat} {q : Int → Bool} (h : 0 < figN N q) : ∃ j a : Nat, j < N ∧ q (j : Int) = true ∧ (∀ d : Nat, d < j → q (d : Int) = false) ∧ figN N q = 2 ^ j * (2 * a + 1) := by
  have hex : ∃ d, d < N ∧ (fun (d : Nat) => q (d : Int)) d = true := by
    apply Classical.byContradiction
    intro hn
    have := figN_zero (N := N) (q := q) fun d hd => by
      cases hq : q (d : Int) with
      | false => rfl
      | true => exact absurd ⟨d, hd, hq⟩ hn
    omega
  obtain ⟨j, h1, h2, h3⟩ := least N (fun (d : Nat) => q (d : Int)) hex
  refine ⟨j, figN N q / 2 ^ (j + 1), h1, h2, h3, ?_⟩
  have hm : figN N q % 2 ^ (j + 1) = 2 ^ j := by
    apply Nat.eq_of_testBit_eq
    intro d
    rw [Nat.testBit_mod_two_pow, figN_bit, Nat.testBit_two_pow]
    by_cases hd : d < j
    · have : q (d : Int) = false := h3 d hd
      rw [this]; simp; omega
    · by_cases hd2 : d = j
      · subst hd2
        have h2' : q (d : Int) = true := h2
        rw [h2']; simp; omega
      · rw [decide_eq_false (show ¬ d < j + 1 by omega)]; simp; omega
  have := Nat.div_add_mod (figN N q) (2 ^ (j + 1))
  rw [hm] at this
  generalize figN N q / 2 ^ (j + 1) = a at this ⊢
  rw [← this, Nat.mul_add, Nat.mul_one, Nat.pow_succ, Nat.mul_assoc]
theorem daysN_succ (n : Nat) (p : Int → Bool) : daysN (n + 1) p = daysN n p ++ (if p (n : Int) then [n] else []) := by
  unfold daysN
  rw [List.range_succ, List.filter_append]
  congr 1
  by_cases h : p (n : Int) = true
  · rw [if_pos h, List.filter_cons, if_pos h]; rfl
  · rw [if_neg h, List.filter_cons, if_neg h]; rfl
theorem daysN_more {i j : Nat} {p : Int → Bool} (h : ∀ d : Nat, i ≤ d → d < j → p (d : Int) = false) (hij : i ≤ j) : daysN j p = daysN i p := by
  have g : ∀ k, i + k ≤ j → daysN (i + k) p = daysN i p := by
    intro k
    induction k with
    | zero => intro _; rfl
    | succ k ih =>
      intro hk
      rw [show i + (k + 1) = (i + k) + 1 by omega, daysN_succ, h (i + k) (by omega) (by omega), ih (by omega)]
      simp
  have := g (j - i) (by omega)
  rwa [show i + (j - i) = j by omega] at this
end WF

set_option Elab.async false
set_option linter.all false
set_option maxRecDepth 100000
set_option maxHeartbeats 2000000
/-! WLayer: further words over the hand layer: a def by its name with its promise (Dn), readings that evaluate (ev_..) -/
namespace WF
open PySem L2 Evl
/-! ### a def of the text, by its name: where it stands, its promise -/
structure Dn (P : Program) (w : World) (K : PySem.W.Frag) (mg : Str → Option Value) (base : Heap) (CX : CXT) (x : Str) (k : Nat) (ps : List Str) (sp : Sp) : Prop where
  ex : ∃ (f : Addr) (fd : FuncData), mg x = some (.ref f) ∧ PySem.W.keepIn K (.ref f) = true ∧ FnOk P w K mg base CX k f fd ps sp ∧ Binds K fd ps []
structure FunAt (K : PySem.W.Frag) (mg : Str → Option Value) (x : Str) (st : Stmt) (ps : List Str) : Prop where
  ex : ∃ (f : Addr) (fd : FuncData), mg x = some (.ref f) ∧ Fun K x x st f fd ∧ Binds K fd ps []
section
variable {P : Program} {w : World} {K : PySem.W.Frag} {mg : Str → Option Value} {base : Heap} {CX : CXT} {x : Str} {k : Nat} {ps : List Str} {sp : Sp} {st : Stmt}
theorem FunAt.dn (F : FunAt K mg x st ps) (h : ∀ f fd, Fun K x x st f fd → mg x = some (.ref f) → Binds K fd ps [] → FnOk P w K mg base CX k f fd ps sp) : Dn P w K mg base CX x k ps sp := by
  obtain ⟨f, fd, h1, h2, h3⟩ := F.ex
  exact ⟨f, fd, h1, h2.kp, h f fd h2 h1 h3, h3⟩
theorem Dn.mono {j : Nat} (D : Dn P w K mg base CX x j ps sp) (h : j ≤ k) : Dn P w K mg base CX x k ps sp := by
  obtain ⟨f, fd, h1, h2, h3, h4⟩ := D.ex
  exact ⟨f, fd, h1, h2, h3.mono h, h4⟩
end
theorem fnok_none {P : Program} {w : World} {K : PySem.W.Frag} {mg : Str → Option Value} {base : Heap} {CX : CXT} {k : Nat} {f : Addr} {fd : FuncData} {ps : List Str} {sp : Sp} (h : ∀ vs H Q E, ¬ sp vs H Q E) : FnOk P w K mg base CX k f fd ps sp :=
  ⟨fun vs H Q E q => (h vs H Q E q).elim, fun _ _ _ _ _ _ _ _ _ _ _ _ _ q => (h _ _ _ _ q).elim⟩
section
variable {X : Cx} {CX : CXT} {x : Str} {k : Nat} {ps : List Str} {sp : Sp} {E : XK} {e : Expr} {es : List Expr} {p pos : Pos} {t : TA}
theorem pe_fn (D : Dn X.prog X.w X.K X.mg X.base CX x k ps sp) (hr : Room k X.A) (hx : Passes CX X E) (hg : Gl X x) (ha : PA X (e :: es) t) (hdb : (x == ("__debug__" : Str)) = false := by decide)
    (he : starEach (e :: es) X.env = (false, eval e X.env) :: starEach es X.env := by rfl) (hpl : (backTo pos (starEach es X.env)).any (·.1) = false := by rfl) : PE X (.Call (.Name x p) (e :: es) [] pos) (tCall sp [] E t) := by
  obtain ⟨f, fd, h1, h2, h3, h4⟩ := D.ex
  exact pe_call h3 hr hg h1 h2 h4 .nil hx ha hdb he hpl
end
/-! ### rules within a comprehension: the written part by its own name -/
section
variable {X : Cx} {K : PySem.W.Frag}
theorem ix_tupK (hK : X.K = K := by rfl) : IxR X (rIxT K) := by
  subst hK
  exact ix_tup
theorem ix_listK (hK : X.K = K := by rfl) : IxR X (rIxL K) := by
  subst hK
  exact ix_list
theorem op_in_seqK (hK : X.K = K := by rfl) : OpR X (compareOp .In) (rIn K false) := by
  subst hK
  exact op_in_seq
theorem op_notIn_seqK (hK : X.K = K := by rfl) : OpR X (compareOp .NotIn) (rIn K true) := by
  subst hK
  exact op_notIn_seq
theorem call_len_seqK (hK : X.K = K := by rfl) : CallR X (.builtin "len") (rLenS K) := by
  subst hK
  exact call_len_seq
theorem call_isiK1 (hK : X.K = K := by rfl) : CallR X (.builtin "isinstance") (rIsi K) := by
  subst hK
  exact call_isi
theorem pe_fldK {e : Expr} {f : Str} {ta : TE} {pos : Pos} (he : PE X e ta) (hb : attributeBase e f X.env (eval e X.env) = eval e X.env) (hK : X.K = K := by rfl) : PE X (.Attribute e f pos) (tFld K ta f) := by
  subst hK
  exact pe_fld he hb
theorem pg_tupK {es : List Expr} {k : Nat} {t : TGs} {n : Nat} {pos : Pos} (hc : X.calm = true) (h : PGs X es t) (hn : (assignEach es X.env).length = n := by rfl) (hst : (assignEach es X.env).findIdx? (·.1) = none := by rfl) (hK : X.K = K := by rfl) :
    PG X (.Tuple es k pos) (gTup K n t) := by
  subst hK
  exact pg_tup hc h hn hst
end
/-! ### readings -/
section
variable {K : PySem.W.Frag} {σ : L2.St} {H H' : Hp} {ta tb tc te : TE} {x y z v : V} {r r' : R2} {t u : TT}
theorem given_all (n : Nat) (v : Nat → V) : given n (fun _ => true) v = (List.range n).map v := by
  unfold given
  rw [List.filter_eq_self.mpr]
  intro _ _; rfl
theorem et_yes : EvT tYes σ H true := fun H1 _ _ q => q H1 (Ex.refl H1)
theorem ev_sum {ta : TE} {ns : List Int} (h : EvL ta σ H (ns.map V.int)) : Ev (tCB (rSum K) (tCons ta tNil)) σ H (.int ns.sum) := fun H1 e Q q =>
  h H1 e _ fun p H2 _ e2 h2 => ⟨p, ns, rfl, sq_of h2, q H2 e2⟩
theorem ev_sumR {ta : TE} {n : Nat} (v : Nat → Int) (h : EvL ta σ H ((List.range n).map fun i => V.int (v i))) : Ev (tCB (rSum K) (tCons ta tNil)) σ H (.int ((List.range n).map v).sum) := by
  refine ev_sum ?_
  rw [List.map_map]
  exact h
/-- the items of a comprehension over range(n) without a test -/
theorem el_rng {ta : TA} {j : Nat} {vs : List Nat} {n : Int} (v : Nat → V) (h : EvA ta σ H [.int n]) (hn : 0 ≤ n ∧ n ≤ 40000) (hw : ∀ x, wipe ((wipe σ vs).set j (some x)) vs = wipe σ vs)
    (he : ∀ (i : Nat) H1, Ex H H1 → (i : Int) < n → Ev te ((wipe σ vs).set j (some (.int (i : Int)))) H1 (v i)) :
    EvL (tLc (iRng1 ta) (gName j) tYes te vs) σ H ((List.range n.toNat).map v) := by
  have := el_lcR1 (fun _ => true) v h hn hw (fun _ _ _ _ => et_yes) (fun i H1 e hi _ => he i H1 e hi)
  rwa [given_all] at this
theorem et_cmp {b : Bool} (ha : Ev ta σ H x) (hb : Ev tb σ H y) (hr : RV r x y H (.bl b)) : EvT (tTest (tOp r ta tb)) σ H b := et_test (ev_op ha hb hr)
/-- a call whose promise is a value -/
theorem spV {sp : Sp} {vs : List V} (h : ∀ H1, Ex H H1 → ∀ (Q : VK) (E : XK), RetV z H1 Q → sp vs H1 Q E) : SpV sp (vs ++ []) H z := fun H1 e Q q E => by
  rw [List.append_nil]
  exact h H1 e Q E q
theorem spL {sp : Sp} {vs xs : List V} (h : ∀ H1, Ex H H1 → ∀ (Q : VK) (E : XK), RetL xs H1 Q → sp vs H1 Q E) : SpL sp (vs ++ []) H xs := fun H1 e Q q E => by
  rw [List.append_nil]
  exact h H1 e Q E q
theorem s_par {D : Ends} {i j : Nat} {ta : TA} (h : EvA ta σ H [x, y]) (k : ∀ H1, Ex H H1 → D.nx ((σ.set i (some x)).set j (some y)) H1) : tPar i j ta D σ H := h H (Ex.refl H) _ fun H1 e => ⟨x, y, rfl, k H1 e⟩
theorem q_par {D : Ends} {i j : Nat} {ta : TA} {tz : TS} (h : EvA ta σ H [x, y]) (k : ∀ H1, Ex H H1 → tz D ((σ.set i (some x)).set j (some y)) H1) : tSeq (tPar i j ta) tz D σ H := s_par (D := { D with nx := tz D }) h k
theorem s_asgT {D : Ends} {i j : Nat} {a : Addr} (h : Ev te σ H (.ref a)) (ht : SqT K H a [x, y]) (k : ∀ H1, Ex H H1 → D.nx ((σ.set i (some x)).set j (some y)) H1) : tAsg te (gTup K 2 (gCons (gName i) (gCons (gName j) gNil))) D σ H :=
  h H (Ex.refl H) _ fun H1 e => ⟨a, [x, y], rfl, ex_t e ht, rfl, _, _, rfl, _, _, rfl, rfl, k H1 e⟩
theorem q_asgT {D : Ends} {i j : Nat} {a : Addr} {tz : TS} (h : Ev te σ H (.ref a)) (ht : SqT K H a [x, y]) (k : ∀ H1, Ex H H1 → tz D ((σ.set i (some x)).set j (some y)) H1) : tSeq (tAsg te (gTup K 2 (gCons (gName i) (gCons (gName j) gNil)))) tz D σ H := s_asgT (D := { D with nx := tz D }) h ht k
theorem q_yes {D : Ends} {tu tw tz : TS} (h : EvT t σ H true) (k : ∀ H1, Ex H H1 → tu { D with nx := tz D } σ H1) : tSeq (tIfS t tu tw) tz D σ H := q_if h (fun _ => k) (fun hb => nomatch hb)
theorem q_no {D : Ends} {tu tw tz : TS} (h : EvT t σ H false) (k : ∀ H1, Ex H H1 → tw { D with nx := tz D } σ H1) : tSeq (tIfS t tu tw) tz D σ H := q_if h (fun hb => nomatch hb) (fun _ => k)
/-- an if without else, not gone into -/
theorem q_not {D : Ends} {tu tz : TS} (h : EvT t σ H false) (k : ∀ H1, Ex H H1 → tz D σ H1) : tSeq (tIfS t tu tNext) tz D σ H := q_no h k
theorem s_yes {D : Ends} {tu tw : TS} (h : EvT t σ H true) (k : ∀ H1, Ex H H1 → tu D σ H1) : tIfS t tu tw D σ H := s_if h (fun _ => k) (fun hb => nomatch hb)
theorem s_no {D : Ends} {tu tw : TS} (h : EvT t σ H false) (k : ∀ H1, Ex H H1 → tw D σ H1) : tIfS t tu tw D σ H := s_if h (fun hb => nomatch hb) (fun _ => k)
theorem et_str {a b : Str} {c : Bool} (h : Ev ta σ H (.str a)) (hc : decide (a = b) = c) : EvT (tTest (tOp rEq ta (tC (.str b)))) σ H c := et_is (et_cmp h ev_c (rv_eq rfl)) (by
  rw [← hc]
  by_cases q : a = b
  · rw [q, decide_eq_true rfl, decide_eq_true rfl]
  · rw [decide_eq_false q, decide_eq_false]
    intro z
    injection z with z
    exact q z)
theorem ev_ifT (h : EvT t σ H true) (h1 : Ev ta σ H v) : Ev (tIf t ta tb) σ H v := ev_if h (fun _ => h1) (fun hb => nomatch hb)
theorem ev_ifF (h : EvT t σ H false) (h1 : Ev tb σ H v) : Ev (tIf t ta tb) σ H v := ev_if h (fun hb => nomatch hb) (fun _ => h1)
theorem ev_ixT {p : Addr} {xs : List V} {i : Int} (h : Ev ta σ H (.ref p)) (hs : SqT K H p xs) (ha : atI xs i = some v) : Ev (tOp (rIxT K) ta (tC (.int i))) σ H v := ev_op h ev_c (rv_ixT hs ha)
theorem ru_inv {i : Int} : RU (rU fun i => .int (Builtin.bitNot i)) (.int i) H (.int (Builtin.bitNot i)) := fun H1 _ _ q => ⟨i, rfl, q H1 (Ex.refl H1)⟩
theorem ev_fld {a C dx : Addr} {fs : List (Str × V)} {f : Str} (h : Ev ta σ H (.ref a)) (ho : H a = some (.ins C dx fs)) (hc : Cls K C) (hn : NoAttr K C f) (hl : fs.lookup f = some v) : Ev (tFld K ta f) σ H v := fun H1 e Q q =>
  h H1 e _ fun H2 e2 => ⟨a, C, dx, fs, v, rfl, e2 _ _ (e _ _ ho), hc, hn, hl, q H2 e2⟩
theorem ev_bits {i : Int} (h : Ev te σ H (.int i)) : Ev (tBits te) σ H (.int (Builtin.Int.intBits i : Nat)) := fun H1 e Q q => h H1 e _ fun H2 e2 => ⟨i, rfl, q H2 e2⟩
theorem el_is {xs ys : List V} (h : EvL te σ H xs) (e : xs = ys) : EvL te σ H ys := e ▸ h
theorem et_or1 (h : EvT t σ H true) : EvT (tOr t u) σ H true := et_or (a := true) (b := true) h fun q => nomatch q
theorem et_and0 (h : EvT t σ H false) : EvT (tAnd t u) σ H false := et_and (a := false) (b := false) h fun q => nomatch q
theorem ev_and0 (h : Ev ta σ H (.bl false)) : Ev (tAndV ta tb) σ H (.bl false) := ev_andV (a := false) (b := false) h fun q => nomatch q
theorem eu_ifT {xs : List V} (h : EvT t σ H true) (h1 : EvU ta σ H xs) : EvU (tIf t ta tb) σ H xs := fun H1 e Q q => h H1 e _ fun H2 e2 => by
  show ta σ H2 Q
  exact h1 H2 (e.trans e2) Q fun p H3 hp e3 h3 => q p H3 (fresh_back e2 hp) (e2.trans e3) h3
theorem eu_ifF {xs : List V} (h : EvT t σ H false) (h1 : EvU tb σ H xs) : EvU (tIf t ta tb) σ H xs := fun H1 e Q q => h H1 e _ fun H2 e2 => by
  show tb σ H2 Q
  exact h1 H2 (e.trans e2) Q fun p H3 hp e3 h3 => q p H3 (fresh_back e2 hp) (e2.trans e3) h3
theorem el_ifT {xs : List V} (h : EvT t σ H true) (h1 : EvL ta σ H xs) : EvL (tIf t ta tb) σ H xs := fun H1 e Q q => h H1 e _ fun H2 e2 => by
  show ta σ H2 Q
  exact h1 H2 (e.trans e2) Q fun p H3 hp e3 h3 => q p H3 (fresh_back e2 hp) (e2.trans e3) h3
theorem el_ifF {xs : List V} (h : EvT t σ H false) (h1 : EvL tb σ H xs) : EvL (tIf t ta tb) σ H xs := fun H1 e Q q => h H1 e _ fun H2 e2 => by
  show tb σ H2 Q
  exact h1 H2 (e.trans e2) Q fun p H3 hp e3 h3 => q p H3 (fresh_back e2 hp) (e2.trans e3) h3
/-- x = f(..), whatever f's promise is -/
theorem s_call {sp : Sp} {E : XK} {ta : TA} {D : Ends} {i : Nat} {vs : List V} (h : EvA ta σ H vs) (k : ∀ H1, Ex H H1 → sp vs H1 (fun x H2 => D.nx (σ.set i (some x)) H2) E) : tAsg (tCall sp [] E ta) (gName i) D σ H :=
  h H (Ex.refl H) _ fun H1 e => by
    rw [List.append_nil]
    exact k H1 e
theorem q_call {sp : Sp} {E : XK} {ta : TA} {tz : TS} {D : Ends} {i : Nat} {vs : List V} (h : EvA ta σ H vs) (k : ∀ H1, Ex H H1 → sp vs H1 (fun x H2 => tz D (σ.set i (some x)) H2) E) : tSeq (tAsg (tCall sp [] E ta) (gName i)) tz D σ H := s_call (D := { D with nx := tz D }) h k
/-- return f(..) -/
theorem s_retC {sp : Sp} {E : XK} {ta : TA} {D : Ends} {vs : List V} (h : EvA ta σ H vs) (k : ∀ H1, Ex H H1 → sp vs H1 D.rt E) : tRet (tCall sp [] E ta) D σ H :=
  h H (Ex.refl H) _ fun H1 e => by
    rw [List.append_nil]
    exact k H1 e
theorem rv_isN : RV (fun x y H Q => y = .non ∧ Q (.bl (decide (x = .non))) H) x .non H (.bl (decide (x = .non))) := fun H1 _ _ q => ⟨rfl, q H1 (Ex.refl H1)⟩
theorem rv_notN : RV (fun x y H Q => y = .non ∧ Q (.bl (!decide (x = .non))) H) x .non H (.bl (!decide (x = .non))) := fun H1 _ _ q => ⟨rfl, q H1 (Ex.refl H1)⟩
theorem cast_sum (l : List Nat) : ((l.map fun (n : Nat) => (n : Int))).sum = ((l.sum : Nat) : Int) := by
  induction l with
  | nil => rfl
  | cons a l ih => rw [List.map_cons, List.sum_cons, List.sum_cons, ih, Int.natCast_add]
theorem cast_sumR (n : Nat) (v : Nat → Nat) : ((List.range n).map fun i => ((v i : Nat) : Int)).sum = (((List.range n).map v).sum : Nat) := by
  rw [← cast_sum, List.map_map]
  rfl
end
end WF

set_option Elab.async false
set_option linter.all false
set_option maxRecDepth 100000
set_option maxHeartbeats 2000000
/-! WBits: the program's bit operators upon figures -/
namespace WF
open PySem L2 Evl PyProof.Rows PySem.W Bits
theorem fig_and (N : Nat) (p q : Int → Bool) : Builtin.bitAnd (figN N p : Int) (figN N q : Int) = (figN N fun d => p d && q d : Nat) := by
  rw [bitAnd_pp (Int.natCast_nonneg _) (Int.natCast_nonneg _), Int.toNat_natCast, Int.toNat_natCast, figN_and]
theorem fig_wo (N : Nat) (p q : Int → Bool) : Builtin.bitAnd (figN N p : Int) (Builtin.bitNot (figN N q : Int)) = (figN N fun d => p d && !q d : Nat) := by
  rw [bitAnd_not, fig_and]
  have := figN_wo N p q
  omega
theorem fig_or (N : Nat) (p q : Int → Bool) : Builtin.bitOr (figN N p : Int) (figN N q : Int) = (figN N fun d => p d || q d : Nat) := by
  rw [bitOr_and, fig_and]
  have := figN_orE N p q
  omega
theorem fig_xor (N : Nat) (p q : Int → Bool) : Builtin.bitXor (figN N p : Int) (figN N q : Int) = (figN N fun d => p d ^^ q d : Nat) := by
  rw [bitXor_and, fig_and]
  have := figN_xorE N p q
  omega
theorem fig_bits (N : Nat) (p : Int → Bool) : Builtin.Int.intBits (figN N p : Int) ≤ N := intBits_le_iff.mpr (by
  show figN N p < 2 ^ N
  exact figN_lt N p)
theorem bits_pow (j : Nat) : Builtin.Int.intBits ((2 ^ j : Nat) : Int) = j + 1 := by
  apply Nat.le_antisymm
  · exact intBits_le_iff.mpr (by
      show 2 ^ j < 2 ^ (j + 1)
      exact Nat.pow_lt_pow_right (by decide) (Nat.lt_succ_self j))
  · apply Classical.byContradiction
    intro h
    have := (intBits_le_iff (m := j) (x := ((2 ^ j : Nat) : Int))).mp (by omega)
    exact Nat.lt_irrefl _ (show 2 ^ j < 2 ^ j from this)
theorem bits_one : Builtin.Int.intBits 1 = 1 := by decide +kernel
theorem fig_turn {N b : Nat} {p : Int → Bool} (hp : Per (N : Int) p) (hb : b < N) :
    Builtin.bitOr (Builtin.bitAnd ((figN N p : Int) * 2 ^ b) (1 * 2 ^ N - 1)) ((figN N p : Int) * 2 ^ b / 2 ^ N) = (figN N fun d => p (d - (b : Int)) : Nat) := by
  rw [Int.one_mul, kbt_mask]
  have e : (figN N p : Int) * 2 ^ b = ((figN N p * 2 ^ b : Nat) : Int) := by rw [Int.natCast_mul, Int.natCast_pow]; rfl
  have e2 : (2 : Int) ^ N = ((2 ^ N : Nat) : Int) := by rw [Int.natCast_pow]; rfl
  rw [e, e2, ← Int.natCast_emod, ← Int.natCast_ediv, bitOr_pp (Int.natCast_nonneg _) (Int.natCast_nonneg _), Int.toNat_natCast, Int.toNat_natCast, turn_fig hp hb]
end WF

set_option Elab.async false
set_option linter.all false
set_option maxRecDepth 100000
set_option maxHeartbeats 2000000
/-! WRule: rules, calendars' rows, lands as they lie in the heap -/
namespace WF
open PySem L2 Evl
/-- at v lies the rule r -/
inductive RlAt (K : PySem.W.Frag) (H : Hp) : V → Rl → Prop where
  | wk {p : Addr} {k : Int} : SqT K H p [.str "weekday", .int k] → RlAt K H (.ref p) (.wk k)
  | fs {p : Addr} {k : Int} : SqT K H p [.str "first", .int k] → RlAt K H (.ref p) (.fs k)
  | md {p : Addr} {k : Int} : SqT K H p [.str "monthday", .int k] → RlAt K H (.ref p) (.md k)
  | bh {p : Addr} {v : V} {r : Rl} {b : Int} : SqT K H p [.str "behind", v, .int b] → RlAt K H v r → RlAt K H (.ref p) (.bh r b)
  | bo {p : Addr} {u v : V} {x y : Rl} : SqT K H p [.str "both", u, v] → RlAt K H u x → RlAt K H v y → RlAt K H (.ref p) (.bo x y)
  | ei {p : Addr} {u v : V} {x y : Rl} : SqT K H p [.str "either", u, v] → RlAt K H u x → RlAt K H v y → RlAt K H (.ref p) (.ei x y)
  | wo {p : Addr} {u v : V} {x y : Rl} : SqT K H p [.str "without", u, v] → RlAt K H u x → RlAt K H v y → RlAt K H (.ref p) (.wo x y)
theorem RlAt.mono {K : PySem.W.Frag} {H H' : Hp} {v : V} {r : Rl} (e : Ex H H') (h : RlAt K H v r) : RlAt K H' v r := by
  induction h with
  | wk h => exact .wk (ex_t e h)
  | fs h => exact .fs (ex_t e h)
  | md h => exact .md (ex_t e h)
  | bh h _ i => exact .bh (ex_t e h) i
  | bo h _ _ i j => exact .bo (ex_t e h) i j
  | ei h _ _ i j => exact .ei (ex_t e h) i j
  | wo h _ _ i j => exact .wo (ex_t e h) i j
def Rl.dep : Rl → Nat
  | .wk _ | .fs _ | .md _ => 0
  | .bh r _ => r.dep + 1
  | .bo x y | .ei x y | .wo x y => max x.dep y.dep + 1
theorem dep_parts : ∀ r : Rl, r.dep + 1 ≤ r.parts
  | .wk _ | .fs _ | .md _ => Nat.le_refl _
  | .bh r _ => by have := dep_parts r; simp only [Rl.dep, Rl.parts]; omega
  | .bo x y | .ei x y | .wo x y => by have := dep_parts x; have := dep_parts y; simp only [Rl.dep, Rl.parts]; omega
/-- a land of which one reckons -/
structure LandOk (w m : Nat) : Prop where
  w2 : 2 ≤ w
  wm : w < m
  m6 : m ≤ 6000
  n5 : w * m ≤ 10000
theorem LandOk.pos {w m : Nat} (h : LandOk w m) : 0 < w * m := Nat.mul_pos (by have := h.w2; omega) (by have := h.wm; omega)
/-! ### objects -/
def feastF (v : V) (n : Int) : List (Str × V) := putF "bys" (.int n) (putF "told" v [])
theorem tb_ne : ¬ (("told" : Str) = "bys") := by decide +kernel
theorem bt_ne : ¬ (("bys" : Str) = "told") := by decide +kernel
theorem feastF_told (v : V) (n : Int) : (feastF v n).lookup ("told" : Str) = some v := by
  unfold feastF
  rw [lookup_putF, if_neg tb_ne, lookup_putF, if_pos rfl]
theorem feastF_bys (v : V) (n : Int) : (feastF v n).lookup ("bys" : Str) = some (.int n) := by
  unfold feastF
  rw [lookup_putF, if_pos rfl]
theorem feastF_no (v : V) (n : Int) {m : Str} (h1 : ¬ m = "told") (h2 : ¬ m = "bys") : (feastF v n).lookup m = none := by
  unfold feastF
  rw [lookup_putF, if_neg h2, lookup_putF, if_neg h1]
  all_goals rfl
/-- at p a feast of the rule r -/
def FeastAt (K : PySem.W.Frag) (CF : Addr) (H : Hp) (p : Addr) (r : Rl) : Prop := ∃ dx v, H p = some (.ins CF dx (feastF v r.bys)) ∧ RlAt K H v r
theorem FeastAt.mono {K : PySem.W.Frag} {CF p : Addr} {H H' : Hp} {r : Rl} (e : Ex H H') (h : FeastAt K CF H p r) : FeastAt K CF H' p r := by
  obtain ⟨dx, v, h1, h2⟩ := h
  exact ⟨dx, v, e _ _ h1, h2.mono e⟩
/-- a row: a pair of a feast and a truth -/
def RowAt (K : PySem.W.Frag) (CF : Addr) (H : Hp) (x : V) (r : Rl × Bool) : Prop := ∃ p q, x = .ref p ∧ SqT K H p [.ref q, .bl r.2] ∧ FeastAt K CF H q r.1
theorem RowAt.mono {K : PySem.W.Frag} {CF : Addr} {H H' : Hp} {x : V} {r : Rl × Bool} (e : Ex H H') (h : RowAt K CF H x r) : RowAt K CF H' x r := by
  obtain ⟨p, q, h0, h1, h2⟩ := h
  exact ⟨p, q, h0, ex_t e h1, h2.mono e⟩
/-- the items xs are rows -/
def RowsL (K : PySem.W.Frag) (CF : Addr) (H : Hp) : List V → Rows → Prop
  | [], [] => True
  | x :: xs, r :: rs => RowAt K CF H x r ∧ RowsL K CF H xs rs
  | _, _ => False
theorem RowsL.mono {K : PySem.W.Frag} {CF : Addr} {H H' : Hp} (e : Ex H H') : ∀ {xs : List V} {rs : Rows}, RowsL K CF H xs rs → RowsL K CF H' xs rs
  | [], [], _ => trivial
  | _ :: _, _ :: _, h => ⟨h.1.mono e, RowsL.mono e h.2⟩
  | [], _ :: _, h => h
  | _ :: _, [], h => h
theorem RowsL.len {K : PySem.W.Frag} {CF : Addr} {H : Hp} : ∀ {xs : List V} {rs : Rows}, RowsL K CF H xs rs → xs.length = rs.length
  | [], [], _ => rfl
  | _ :: _, _ :: _, h => congrArg (· + 1) (RowsL.len h.2)
  | [], _ :: _, h => h.elim
  | _ :: _, [], h => h.elim
theorem RowsL.get {K : PySem.W.Frag} {CF : Addr} {H : Hp} : ∀ {xs : List V} {rs : Rows} {i : Nat} {x : V}, RowsL K CF H xs rs → xs[i]? = some x → ∃ r, rs[i]? = some r ∧ RowAt K CF H x r
  | _ :: _, r :: _, 0, _, h, e => ⟨r, rfl, by cases e; exact h.1⟩
  | _ :: xs, _ :: rs, i + 1, x, h, e => RowsL.get (xs := xs) (rs := rs) (i := i) (x := x) h.2 e
  | [], [], i, x, _, e => by simp at e
  | [], _ :: _, _, _, h, _ => h.elim
  | _ :: _, [], _, _, h, _ => h.elim
/-- at v a tuple of rows -/
def RowsAt (K : PySem.W.Frag) (CF : Addr) (H : Hp) (v : V) (rs : Rows) : Prop := ∃ a xs, v = .ref a ∧ SqT K H a xs ∧ RowsL K CF H xs rs
theorem RowsAt.mono {K : PySem.W.Frag} {CF : Addr} {H H' : Hp} {v : V} {rs : Rows} (e : Ex H H') (h : RowsAt K CF H v rs) : RowsAt K CF H' v rs := by
  obtain ⟨a, xs, h0, h1, h2⟩ := h
  exact ⟨a, xs, h0, ex_t e h1, h2.mono e⟩
theorem take_more {α : Type} : ∀ {l : List α} {i : Nat} {x : α}, l[i]? = some x → l.take (i + 1) = l.take i ++ [x]
  | [], i, x, h => by simp at h
  | a :: l, 0, x, h => by cases h; rfl
  | a :: l, i + 1, x, h => by
    show a :: l.take (i + 1) = a :: l.take i ++ [x]
    rw [take_more (l := l) (i := i) (x := x) h]
    rfl
theorem cal_more (w m : Int) {rows : Rows} {i : Nat} {r : Rl × Bool} (h : rows[i]? = some r) : calDay w m (rows.take (i + 1)) = addRow w m (calDay w m (rows.take i)) r := by
  unfold calDay
  rw [take_more h, List.foldl_append]
  rfl
def depMax (rows : Rows) : Nat := rows.foldr (fun r n => max r.1.dep n) 0
theorem dep_le : ∀ {rows : Rows} {i : Nat} {r : Rl × Bool}, rows[i]? = some r → r.1.dep ≤ depMax rows
  | [], i, r, h => by simp at h
  | a :: rows, 0, r, h => by cases h; exact Nat.le_max_left _ _
  | a :: rows, i + 1, r, h => Nat.le_trans (dep_le (rows := rows) (i := i) (r := r) h) (Nat.le_max_right _ _)
end WF

set_option Elab.async false
set_option linter.all false
set_option maxRecDepth 100000
set_option maxHeartbeats 2000000
/-! WIsi: kinds of values, isinstance, constants of the top, an own error without arguments -/
namespace WF
open PySem L2 Evl
section
variable {K : PySem.W.Frag} {H H' : Hp} {a : Addr} {xs : List V} {x : V} {t : Value}
theorem ty_tup (h : SqT K H a xs) : TyX K H (.ref a) (.type "tuple") := by
  rcases h with (h | ⟨o, h⟩) | ⟨o, its, n, h, c, _⟩
  · exact .base (.tup h)
  · exact .fTuple h
  · exact .kTuple h c
theorem ty_lst (h : SqL K H a xs) : TyX K H (.ref a) (.type "list") := by
  rcases h with (h | ⟨o, h⟩) | ⟨o, its, n, h, c, _⟩
  · exact .base (.lst h)
  · exact .base (.frz h)
  · exact .kList h c
theorem TyOf.mono (e : Ex H H') (h : TyOf K H x t) : TyOf K H' x t := by
  cases h with
  | non => exact .non
  | bl b => exact .bl b
  | int i => exact .int i
  | str z => exact .str z
  | flt z => exact .flt z
  | lst h => exact .lst (e _ _ h)
  | frz h => exact .frz (e _ _ h)
  | tup h => exact .tup (e _ _ h)
  | dK h => exact .dK (e _ _ h)
  | dT h => exact .dT (e _ _ h)
  | ins h cl ha hn htk hm => exact .ins (e _ _ h) cl ha hn htk hm
theorem ty_mono (e : Ex H H') (h : TyX K H x t) : TyX K H' x t := by
  cases h with
  | base h => exact .base (TyOf.mono e h)
  | byt b => exact .byt b
  | set h => exact .set (e _ _ h)
  | kList h c => exact .kList h c
  | kTuple h c => exact .kTuple h c
  | kDict h c => exact .kDict h c
  | fTuple h => exact .fTuple (e _ _ h)
  | fDict h => exact .fDict (e _ _ h)
theorem ty_int (i : Int) : TyX K H (.int i) (.type "int") := .base (.int i)
theorem ty_bl (i : Bool) : TyX K H (.bl i) (.type "bool") := .base (.bl i)
theorem ty_str (i : Str) : TyX K H (.str i) (.type "str") := .base (.str i)
theorem ty_non : TyX K H .non (.type "NoneType") := .base .non
end
section
variable {K : PySem.W.Frag} {σ : L2.St} {H H' : Hp} {ta tb tc te : TE} {x y z v : V} {r r' : R2} {t u : TT}
theorem ev_isi {b : Bool} {T : String} {ty : Value} (h : Ev ta σ H x) (hy : TyX K H x ty) (hb : PySem.W.kitOne K ty (.type T) = some b) : Ev (tCB (rIsi K) (tCons ta (tCons (tC (.ty T)) tNil))) σ H (.bl b) := fun H1 e Q q =>
  h H1 e _ fun H2 e2 => ⟨x, _, _, _, b, rfl, .ty T, ty_mono (e.trans e2) hy, hb, q H2 e2⟩
theorem ev_isiC {b : Bool} {C : Addr} {ty : Value} (h : Ev ta σ H x) (hy : TyX K H x ty) (hb : PySem.W.kitOne K ty (.ref C) = some b) : Ev (tCB (rIsi K) (tCons ta (tCons (tC (.ref C)) tNil))) σ H (.bl b) := fun H1 e Q q =>
  h H1 e _ fun H2 e2 => ⟨x, _, _, _, b, rfl, .own C, ty_mono (e.trans e2) hy, hb, q H2 e2⟩
theorem ev_lenT {p : Addr} {xs : List V} (ha : Ev ta σ H (.ref p)) (h : SqT K H p xs) : Ev (tCB (rLenS K) (tCons ta tNil)) σ H (.int (xs.length : Int)) := fun H1 e Q q =>
  ha H1 e _ fun H2 e2 => ⟨p, xs, rfl, .inr (ex_t (e.trans e2) h), q H2 e2⟩
theorem ev_chain {b1 b2 : Bool} (ha : Ev ta σ H x) (hb : Ev tb σ H y) (hr : RV r x y H (.bl b1)) (hc : b1 = true → Ev tc σ H z) (hr' : b1 = true → RV r' y z H (.bl b2)) : Ev (tChain r r' ta tb tc) σ H (.bl (b1 && b2)) := fun H1 e Q q =>
  ha H1 e _ fun H2 e2 => hb H2 (e.trans e2) _ fun H3 e3 => hr H3 ((e.trans e2).trans e3) _ fun H4 e4 => ⟨b1, rfl, by
    cases b1 with
    | true =>
      show tc σ H4 fun w' H5 => r' y w' H5 Q
      exact hc rfl H4 (((e.trans e2).trans e3).trans e4) _ fun H5 e5 => hr' rfl H5 ((((e.trans e2).trans e3).trans e4).trans e5) Q fun H6 e6 => q H6 ((((e2.trans e3).trans e4).trans e5).trans e6)
    | false =>
      show Q (.bl false) H4
      exact q H4 ((e2.trans e3).trans e4)⟩
theorem ev_all {ta : TE} {bs : List Bool} (h : EvL ta σ H (bs.map V.bl)) : Ev (tCB (rAll K) (tCons ta tNil)) σ H (.bl (bs.all id)) := fun H1 e Q q =>
  h H1 e _ fun p H2 _ e2 h2 => ⟨p, bs, rfl, sq_of h2, q H2 e2⟩
/-- a comprehension over a tuple; over a tuple, a list of pairs -/
theorem el_tupN {a : Addr} {xs : List V} {tl : TE} {j : Nat} {vs : List Nat} (f : Nat → Bool) (v : Nat → V) (h : Ev tl σ H (.ref a)) (hx : SqT K H a xs) (hz : xs.length ≤ 40000) (hw : ∀ x, wipe ((wipe σ vs).set j (some x)) vs = wipe σ vs)
    (ht : ∀ (i : Nat) (x : V) H1, Ex H H1 → xs[i]? = some x → EvT t ((wipe σ vs).set j (some x)) H1 (f i))
    (he : ∀ (i : Nat) (x : V) H1, Ex H H1 → xs[i]? = some x → f i = true → Ev te ((wipe σ vs).set j (some x)) H1 (v i)) : EvL (tLc (iTup K tl) (gName j) t te vs) σ H (given xs.length f v) := by
  intro H0 e Q q
  refine h H0 e _ fun H1 e1 => ⟨a, rfl, ⟨xs, ex_t (e.trans e1) hx⟩, fun Dl hD => ?_⟩
  refine lc_tup (xs := xs) (Cw H1 f v Dl) ⟨hD, Ex.new hD, upd_same⟩ (fun i H' _ p => ex_t ((e.trans e1).trans p.2.1) hx) (fun i x H' hi p => ⟨hw x, ?_⟩) fun H' p => q Dl H' (fresh_back e1 p.1) (e1.trans p.2.1) p.2.2
  have hlt := (List.getElem?_eq_some_iff.mp hi).1
  exact cw_turn p (by omega) (ht i x H1 (e.trans e1) hi) fun hf => he i x H1 (e.trans e1) hi hf
theorem el_tup2 {a : Addr} {xs : List V} {tl : TE} {j k : Nat} {vs : List Nat} (A B : Nat → V) (f : Nat → Bool) (v : Nat → V) (h : Ev tl σ H (.ref a)) (hx : SqT K H a xs) (hz : xs.length ≤ 40000) (hw : ∀ x y, wipe (((wipe σ vs).set j (some x)).set k (some y)) vs = wipe σ vs)
    (hp : ∀ (i : Nat) (x : V), xs[i]? = some x → ∃ p, x = .ref p ∧ SqT K H p [A i, B i])
    (ht : ∀ (i : Nat) H1, Ex H H1 → i < xs.length → EvT t (((wipe σ vs).set j (some (A i))).set k (some (B i))) H1 (f i))
    (he : ∀ (i : Nat) H1, Ex H H1 → i < xs.length → f i = true → Ev te (((wipe σ vs).set j (some (A i))).set k (some (B i))) H1 (v i)) :
    EvL (tLc (iTup K tl) (gTup K 2 (gCons (gName j) (gCons (gName k) gNil))) t te vs) σ H (given xs.length f v) := by
  intro H0 e Q q
  refine h H0 e _ fun H1 e1 => ⟨a, rfl, ⟨xs, ex_t (e.trans e1) hx⟩, fun Dl hD => ?_⟩
  refine lc_tup (xs := xs) (Cw H1 f v Dl) ⟨hD, Ex.new hD, upd_same⟩ (fun i H' _ p => ex_t ((e.trans e1).trans p.2.1) hx) (fun i x H' hi p => ?_) fun H' p => q Dl H' (fresh_back e1 p.1) (e1.trans p.2.1) p.2.2
  have hlt := (List.getElem?_eq_some_iff.mp hi).1
  obtain ⟨r, rfl, hr⟩ := hp i x hi
  exact ⟨_, _, rfl, ex_t ((e.trans e1).trans p.2.1) hr, rfl, _, _, rfl, _, _, rfl, rfl, hw _ _, cw_turn p (by omega) (ht i H1 (e.trans e1) hlt) fun hf => he i H1 (e.trans e1) hlt hf⟩
theorem el_lst2 {a : Addr} {xs : List V} {tl : TE} {j k : Nat} {vs : List Nat} (A B : Nat → V) (f : Nat → Bool) (v : Nat → V) (h : Ev tl σ H (.ref a)) (hx : SqL K H a xs) (hz : xs.length ≤ 40000) (hw : ∀ x y, wipe (((wipe σ vs).set j (some x)).set k (some y)) vs = wipe σ vs)
    (hp : ∀ (i : Nat) (x : V), xs[i]? = some x → ∃ p, x = .ref p ∧ SqT K H p [A i, B i])
    (ht : ∀ (i : Nat) H1, Ex H H1 → i < xs.length → EvT t (((wipe σ vs).set j (some (A i))).set k (some (B i))) H1 (f i))
    (he : ∀ (i : Nat) H1, Ex H H1 → i < xs.length → f i = true → Ev te (((wipe σ vs).set j (some (A i))).set k (some (B i))) H1 (v i)) :
    EvL (tLc (iList K tl) (gTup K 2 (gCons (gName j) (gCons (gName k) gNil))) t te vs) σ H (given xs.length f v) := by
  intro H0 e Q q
  refine h H0 e _ fun H1 e1 => ⟨a, rfl, ⟨xs, ex_l (e.trans e1) hx⟩, fun Dl hD => ?_⟩
  refine lc_list (xs := xs) (Cw H1 f v Dl) ⟨hD, Ex.new hD, upd_same⟩ (fun i H' _ p => ex_l ((e.trans e1).trans p.2.1) hx) (fun i x H' hi p => ?_) fun H' p => q Dl H' (fresh_back e1 p.1) (e1.trans p.2.1) p.2.2
  have hlt := (List.getElem?_eq_some_iff.mp hi).1
  obtain ⟨r, rfl, hr⟩ := hp i x hi
  exact ⟨_, _, rfl, ex_t ((e.trans e1).trans p.2.1) hr, rfl, _, _, rfl, _, _, rfl, rfl, hw _ _, cw_turn p (by omega) (ht i H1 (e.trans e1) hlt) fun hf => he i H1 (e.trans e1) hlt hf⟩
theorem given_allL {α : Type} (xs : List α) (v : Nat → V) : given xs.length (fun _ => true) v = (List.range xs.length).map v := given_all _ _
end
/-! ### a constant of the top; an own error without arguments -/
section
variable {X : Cx}
theorem pe_globE {x : Str} {v : V} {pos : Pos} (hg : Gl X x) (h : ∃ u, X.mg x = some u ∧ RelV v u) (hd : (x == ("__debug__" : Str)) = false := by decide) : PE X (.Name x pos) (tC v) := by
  obtain ⟨u, h1, h2⟩ := h
  exact pe_glob hg h1 h2 hd
theorem pmk_own0 {C : Addr} {bmB : List Value} {B newId initId : String} {x : Str} {p pos : Pos} (F : ExcBaseFacts B newId initId bmB) (q : PySem.W.excIn X.K C bmB newId = true) (gC : X.mg x = some (.ref C))
    (kC : PySem.W.keepIn X.K (.ref C) = true) (r : Raises X (.ref C)) (hg : Gl X x) (hdb : (x == ("__debug__" : Str)) = false := by decide) : PMk X (.Call (.Name x p) [] [] pos) (fun _ H Q => Q (.ref C) none H) := by
  intro pins s σ H Q I h
  refine wpAny_Call_Name_kw (ld_glob I hg gC ?_ hdb)
  refine PySem.W.callWith_K0 I.kIn kC ?_
  obtain ⟨bm, N, nm, qn, bs, hdct, sn, sub, ab, col, dd, k0, k1, k2, k3, k5, mN, hC, hN, hni, T⟩ := exc_obj I.kIn q
  refine wpAny_call_exc_subT F T hC hN hni (fun h' e hm => ?_) (Nat.zero_le _)
  exact mk_of I hm r h (I.hok.gone hm.new)
end
/-- what the top says of an own error class without a method of its own -/
structure Err (K : PySem.W.Frag) (C : Addr) : Prop where
  ex : PySem.W.excIn K C [.type "ValueError", .type "Exception", .type "BaseException", .type "object"] "ValueError.__new__" = true
  kp : PySem.W.keepIn K (.ref C) = true
  be : PySem.W.subIn K (.ref C) (.type "BaseException") = some true
  ty : PySem.W.typeIn K (.ref C) = some (.type "type")
  is : PySem.W.isClsIn K C = true
  se : PySem.W.subIn K (.ref C) (.ref C) = some true
section
variable {X : Cx}
/-- raise C() -/
theorem ps_raise0 {W : WX} {C : Addr} {x : Str} {p pos pos2 : Pos} (hc : X.calm = true) (tk : Takes X W) (h : Err X.K C) (gC : X.mg x = some (.ref C)) (hg : Gl X x) (hdb : (x == ("__debug__" : Str)) = false := by decide) :
    PS X (.Raise (some (.Call (.Name x p) [] [] pos)) none pos2) (fun _ σ H => W (.ref C) none σ H) :=
  ps_raise hc tk (pmk_own0 PySem.F.excBase_ValueError h.ex gC h.kp (raises_own h.be h.ty) hg hdb)
end
/-! ### kinds that the program asks for -/
/-- a kind that is no integer's (a truth's is none) -/
def NotI (K : PySem.W.Frag) (t : Value) : Prop := ∃ b1 b2, PySem.W.kitOne K t (.type "int") = some b1 ∧ PySem.W.kitOne K t (.type "bool") = some b2 ∧ (b1 && !b2) = false
theorem notI_ty {K : PySem.W.Frag} {a : String} {b1 b2 : Bool} (h1 : kitB a "int" = some b1) (h2 : kitB a "bool" = some b2) (h : (b1 && !b2) = false) : NotI K (.type a) := ⟨b1, b2, kit_ty h1, kit_ty h2, h⟩
theorem notI_non {K : PySem.W.Frag} : NotI K (.type "NoneType") := notI_ty (b1 := false) (b2 := false) (by decide +kernel) (by decide +kernel) rfl
theorem notI_bl {K : PySem.W.Frag} : NotI K (.type "bool") := notI_ty (b1 := true) (b2 := true) (by decide +kernel) (by decide +kernel) rfl
theorem notI_str {K : PySem.W.Frag} : NotI K (.type "str") := notI_ty (b1 := false) (b2 := false) (by decide +kernel) (by decide +kernel) rfl
theorem notI_tup {K : PySem.W.Frag} : NotI K (.type "tuple") := notI_ty (b1 := false) (b2 := false) (by decide +kernel) (by decide +kernel) rfl
theorem kit_ii {K : PySem.W.Frag} : PySem.W.kitOne K (.type "int") (.type "int") = some true := kit_ty (by decide +kernel)
theorem kit_ib {K : PySem.W.Frag} : PySem.W.kitOne K (.type "int") (.type "bool") = some false := kit_ty (by decide +kernel)
theorem kit_tt {K : PySem.W.Frag} : PySem.W.kitOne K (.type "tuple") (.type "tuple") = some true := kit_ty (by decide +kernel)
/-- a value that is an integer z (some z) or none -/
inductive NumV (K : PySem.W.Frag) (H : Hp) : V → Option Int → Prop where
  | int (z : Int) : NumV K H (.int z) (some z)
  | odd {v : V} {t : Value} (h : TyX K H v t) (n : NotI K t) : NumV K H v none
theorem NumV.mono {K : PySem.W.Frag} {H H' : Hp} {v : V} {o : Option Int} (e : Ex H H') (h : NumV K H v o) : NumV K H' v o := by
  cases h with
  | int z => exact .int z
  | odd h n => exact .odd (ty_mono e h) n
def landB (w m : Int) : Bool := decide (2 ≤ w) && decide (w < m) && decide (Int.gcd m w = 1)
/-- a value, and whether it is a land -/
inductive LandV (K : PySem.W.Frag) (H : Hp) : V → Bool → Prop where
  | no {v : V} {t : Value} (h : TyX K H v t) (n : PySem.W.kitOne K t (.type "tuple") = some false) : LandV K H v false
  | len {a : Addr} {xs : List V} (h : SqT K H a xs) (n : xs.length ≠ 2) (z : xs.length ≤ 100) : LandV K H (.ref a) false
  | odd {a : Addr} {x y : V} {o p : Option Int} (h : SqT K H a [x, y]) (hx : NumV K H x o) (hy : NumV K H y p) (n : o = none ∨ p = none) : LandV K H (.ref a) false
  | two {a : Addr} {w m : Int} (h : SqT K H a [.int w, .int m]) (z1 : -4294967296 < w ∧ w < 4294967296) (z2 : -4294967296 < m ∧ m < 4294967296) : LandV K H (.ref a) (landB w m)
theorem LandV.mono {K : PySem.W.Frag} {H H' : Hp} {v : V} {b : Bool} (e : Ex H H') (h : LandV K H v b) : LandV K H' v b := by
  cases h with
  | no h n => exact .no (ty_mono e h) n
  | len h n z => exact .len (ex_t e h) n z
  | odd h hx hy n => exact .odd (ex_t e h) (hx.mono e) (hy.mono e) n
  | two h z1 z2 => exact .two (ex_t e h) z1 z2
section
variable {K : PySem.W.Frag} {σ : L2.St} {H H' : Hp} {ta tb tc te : TE} {x y z v : V} {r r' : R2} {t u : TT}
/-- isinstance(x, int) and not isinstance(x, bool) -/
theorem ev_isInt {o : Option Int} (h : ∀ H1, Ex H H1 → Ev ta σ H1 x) (hx : NumV K H x o) : Ev (tAndV (tCB (rIsi K) (tCons ta (tCons (tC (.ty "int")) tNil))) (tNotV (tCB (rIsi K) (tCons ta (tCons (tC (.ty "bool")) tNil))))) σ H (.bl o.isSome) := by
  cases hx with
  | int z => exact ev_is (ev_andV (ev_isi (h H (Ex.refl H)) (ty_int z) kit_ii) fun _ => ev_notV (ev_isi (h H (Ex.refl H)) (ty_int z) kit_ib)) rfl
  | odd hy n =>
    obtain ⟨b1, b2, h1, h2, h3⟩ := n
    exact ev_is (ev_andV (ev_isi (h H (Ex.refl H)) hy h1) fun _ => ev_notV (ev_isi (h H (Ex.refl H)) hy h2)) (by rw [h3]; rfl)
/-- .. and a third test -/
theorem ev_isInt3 {o : Option Int} {b : Bool} (h : Ev ta σ H x) (hx : NumV K H x o) (hb : ∀ z, o = some z → x = .int z → Ev tb σ H (.bl b)) (hn : o = none → b = false) :
    Ev (tAndV (tCB (rIsi K) (tCons ta (tCons (tC (.ty "int")) tNil))) (tAndV (tNotV (tCB (rIsi K) (tCons ta (tCons (tC (.ty "bool")) tNil)))) tb)) σ H (.bl b) := by
  cases hx with
  | int z => exact ev_is (ev_andV (ev_isi h (ty_int z) kit_ii) fun _ => ev_andV (ev_notV (ev_isi h (ty_int z) kit_ib)) fun _ => hb z rfl rfl) (by cases b <;> rfl)
  | odd hy n =>
    obtain ⟨b1, b2, h1, h2, h3⟩ := n
    rw [hn rfl]
    cases b1 with
    | false => exact ev_is (ev_andV (b := false) (ev_isi h hy h1) fun q => nomatch q) rfl
    | true =>
      have hb2 : b2 = true := by cases b2 <;> simp_all
      subst hb2
      exact ev_is (ev_andV (ev_isi h hy h1) fun _ => ev_andV (b := false) (ev_notV (ev_isi h hy h2)) fun q => nomatch q) rfl
theorem q_dropX {sp : Sp} {E : XK} {ta : TA} {tz : TS} {D : Ends} {vs : List V} (h : EvA ta σ H vs) (k : ∀ H1, Ex H H1 → sp vs H1 (fun _ H2 => tz D σ H2) E) : tSeq (tDrop (tCall sp [] E ta)) tz D σ H :=
  h H (Ex.refl H) _ fun H1 e => by
    rw [List.append_nil]
    exact k H1 e
end
/-! ### calendars -/
def calF (v : V) (n : Int) : List (Str × V) := putF "near" (.int n) (putF "rows" v [])
theorem rn_ne : ¬ (("rows" : Str) = "near") := by decide +kernel
theorem calF_rows (v : V) (n : Int) : (calF v n).lookup ("rows" : Str) = some v := by
  unfold calF
  rw [lookup_putF, if_neg rn_ne, lookup_putF, if_pos rfl]
theorem calF_near (v : V) (n : Int) : (calF v n).lookup ("near" : Str) = some (.int n) := by
  unfold calF
  rw [lookup_putF, if_pos rfl]
theorem calF_no (v : V) (n : Int) {m : Str} (h1 : ¬ m = "rows") (h2 : ¬ m = "near") : (calF v n).lookup m = none := by
  unfold calF
  rw [lookup_putF, if_neg h2, lookup_putF, if_neg h1]
  all_goals rfl
def rowsBys (rows : Rows) : Nat := (rows.map fun r => r.1.bys).sum
def reachOf (rows : Rows) : Nat := 3 + rowsBys rows + (rows.filter fun r => r.2).length
/-- at v a calendar -/
def CalAt (K : PySem.W.Frag) (CF CC : Addr) (H : Hp) (v : V) (rows : Rows) : Prop := ∃ c dx rv, v = .ref c ∧ H c = some (.ins CC dx (calF rv (reachOf rows))) ∧ RowsAt K CF H rv rows
theorem CalAt.mono {K : PySem.W.Frag} {CF CC : Addr} {H H' : Hp} {v : V} {rows : Rows} (e : Ex H H') (h : CalAt K CF CC H v rows) : CalAt K CF CC H' v rows := by
  obtain ⟨c, dx, rv, h0, h1, h2⟩ := h
  exact ⟨c, dx, rv, h0, e _ _ h1, h2.mono e⟩
end WF

set_option Elab.async false
set_option linter.all false
set_option maxRecDepth 100000
set_option maxHeartbeats 2000000
/-! WSize: the written tables ENDS, PAIRS, BYS; how a value's size comes -/
namespace WF
open PySem L2 Evl
structure EndsAt (w : World) (K : PySem.W.Frag) (d aW aM : Addr) : Prop where
  kd : ∃ es n, KDict K w d es n
  week : PySem.W.nsIn K d "weekday" = some (some (.ref aW))
  first : PySem.W.nsIn K d "first" = some (some (.ref aW))
  month : PySem.W.nsIn K d "monthday" = some (some (.ref aM))
  no : ∀ z ∈ (["behind", "both", "either", "without", "week"] : List Str), PySem.W.nsIn K d z = some none
  sW : ∀ H, SqT K H aW [.int (-2), .int (-1), .int 0, .int 1]
  sM : ∀ H, SqT K H aM [.int (-3), .int (-2), .int (-1), .int 0, .int 1, .int 2]
def isEnd (s : Str) : Prop := s = "weekday" ∨ s = "first" ∨ s = "monthday"
def isPair (s : Str) : Prop := s = "both" ∨ s = "either" ∨ s = "without"
def endOk (s : Str) (k : Int) : Bool := if s = "monthday" then decide (-3 ≤ k ∧ k ≤ 2) else decide (-2 ≤ k ∧ k ≤ 1)
def byOk (k : Int) : Bool := decide (k = -2 ∨ k = -1 ∨ k = 1 ∨ k = 2)
theorem EndsAt.in {w : World} {K : PySem.W.Frag} {d aW aM : Addr} (h : EndsAt w K d aW aM) {s : Str} (hs : isEnd s) : ∃ a, PySem.W.nsIn K d s = some (some (.ref a)) ∧ ∃ xs, (∀ H, SqT K H a xs) ∧ xs.all flatV = true ∧ ∀ k, inV (.int k) xs = endOk s k := by
  have w1 : ∀ k, inV (.int k) [.int (-2), .int (-1), .int 0, .int 1] = decide (-2 ≤ k ∧ k ≤ 1) := fun k => by
    rw [Bool.eq_iff_iff, decide_eq_true_iff]
    simp [inV, eqV]
    omega
  have m1 : ∀ k, inV (.int k) [.int (-3), .int (-2), .int (-1), .int 0, .int 1, .int 2] = decide (-3 ≤ k ∧ k ≤ 2) := fun k => by
    rw [Bool.eq_iff_iff, decide_eq_true_iff]
    simp [inV, eqV]
    omega
  rcases hs with rfl | rfl | rfl
  · exact ⟨aW, h.week, _, h.sW, rfl, fun k => by rw [w1, endOk, if_neg (by decide +kernel)]⟩
  · exact ⟨aW, h.first, _, h.sW, rfl, fun k => by rw [w1, endOk, if_neg (by decide +kernel)]⟩
  · exact ⟨aM, h.month, _, h.sM, rfl, fun k => by rw [m1, endOk, if_pos rfl]⟩
theorem EndsAt.kdct {w : World} {K : PySem.W.Frag} {d aW aM a : Addr} (h : EndsAt w K d aW aM) {s : Str} (e : PySem.W.nsIn K d s = some (some (.ref a))) : KDct K w d s (.ref a) := by
  obtain ⟨es, n, k⟩ := h.kd
  exact ⟨es, n, _, k.at_, k.lit, e, rfl⟩
def pairsV : List V := [.str "both", .str "either", .str "without"]
def bysV : List V := [.int (-2), .int (-1), .int 1, .int 2]
theorem inV_bys (k : Int) : inV (.int k) bysV = byOk k := by
  unfold byOk
  rw [Bool.eq_iff_iff, decide_eq_true_iff]
  simp [inV, eqV, bysV]
  omega
theorem inV_pairs (s : Str) : inV (.str s) pairsV = decide (s = "both" ∨ s = "either" ∨ s = "without") := by
  rw [Bool.eq_iff_iff, decide_eq_true_iff]
  simp [inV, eqV, pairsV]
  constructor
  · rintro (h | h | h) <;> simp [h]
  · rintro (h | h | h) <;> simp [h]
/-! ### x == () -/
def rEqE (K : PySem.W.Frag) : R2 := fun x y H Q => ∃ p q xs, x = .ref p ∧ y = .ref q ∧ SqT K H p xs ∧ SqT K H q [] ∧ Q (.bl xs.isEmpty) H
theorem op_eqE {X : Cx} (hu : X.A.units + 1 < cLine) : OpR X (compareOp .Eq) (rEqE X.K) := by
  intro pins s σ H x y v u Q I rx ry h
  obtain ⟨p, q, xs, rfl, rfl, h1, h2, hq⟩ := h
  cases rx
  cases ry
  obtain ⟨its, r, pl, hz⟩ := I.tuple h1
  obtain ⟨its2, r2, pl2, hz2⟩ := I.tuple h2
  have e2 : its2 = [] := by
    have := r2.length
    exact List.length_eq_zero_iff.mp (by simpa using this.symm)
  subst e2
  have hk : ((List.range (min its.toArray.size ([] : List Value).toArray.size)).all (fun _ => true) && its.toArray.size == ([] : List Value).toArray.size) = xs.isEmpty := by
    have := r.length
    cases xs with
    | nil =>
      have e : its = [] := List.length_eq_zero_iff.mp (by simpa using this.symm)
      subst e; rfl
    | cons a l =>
      cases its with
      | nil => simp at this
      | cons b l2 => simp
  refine SeqAt.RcAt.tuples (A := X.A) (e := fun _ => true) pl pl2 (by omega) (fun j h1 h2 => absurd h2 (by simp)) _ _ _ _ ?_
  rw [hk]
  exact ⟨.bl _, H, I, rfl, hq⟩
/-! ### the size of a value, of which no more than n parts are wanted -/
inductive SzAt (K : PySem.W.Frag) (H : Hp) : V → Nat → Option (Nat × Nat) → Prop where
  | zero {v : V} : SzAt K H v 0 none
  | kind {v : V} {t : Value} {n : Nat} (h : TyX K H v t) (k : PySem.W.kitOne K t (.type "tuple") = some false) : SzAt K H v (n + 1) none
  | empty {a : Addr} {n : Nat} (h : SqT K H a []) : SzAt K H (.ref a) (n + 1) none
  | head {a : Addr} {x : V} {xs : List V} {t : Value} {n : Nat} (h : SqT K H a (x :: xs)) (ht : TyX K H x t) (k : PySem.W.kitOne K t (.type "str") = some false) : SzAt K H (.ref a) (n + 1) none
  | leaf {a : Addr} {s : Str} {k : Int} {n : Nat} (hs : isEnd s) (h : SqT K H a [.str s, .int k]) (ok : endOk s k = true) : SzAt K H (.ref a) (n + 1) (some (1, 0))
  | leafLen {a : Addr} {s : Str} {xs : List V} {n : Nat} (hs : isEnd s) (h : SqT K H a (.str s :: xs)) (l : xs.length ≠ 1) : SzAt K H (.ref a) (n + 1) none
  | leafNum {a : Addr} {s : Str} {x : V} {o : Option Int} {n : Nat} (hs : isEnd s) (h : SqT K H a [.str s, x]) (hx : NumV K H x o) (no : ∀ z, o = some z → endOk s z = false) : SzAt K H (.ref a) (n + 1) none
  | word {a : Addr} {s : Str} {xs : List V} {n : Nat} (hs : s ∈ (["behind", "both", "either", "without", "week"] : List Str)) (h : SqT K H a (.str s :: xs)) (l : xs.length ≠ 2 ∨ s = "week") : SzAt K H (.ref a) (n + 1) none
  | byBad {a : Addr} {x b : V} {o : Option Int} {n : Nat} (h : SqT K H a [.str "behind", x, b]) (hb : NumV K H b o) (no : ∀ z, o = some z → byOk z = false) : SzAt K H (.ref a) (n + 1) none
  | behind {a : Addr} {x : V} {b : Int} {n : Nat} {o : Option (Nat × Nat)} (h : SqT K H a [.str "behind", x, .int b]) (ok : byOk b = true) (hx : SzAt K H x n o) : SzAt K H (.ref a) (n + 1) (o.map fun p => (1 + p.1, b.natAbs + p.2))
  | pairNo {a : Addr} {s : Str} {x y : V} {n : Nat} (hs : isPair s) (h : SqT K H a [.str s, x, y]) (hx : SzAt K H x n none) : SzAt K H (.ref a) (n + 1) none
  | pair {a : Addr} {s : Str} {x y : V} {n p q : Nat} {o : Option (Nat × Nat)} (hs : isPair s) (h : SqT K H a [.str s, x, y]) (hx : SzAt K H x n (some (p, q))) (hp : p ≤ n) (hy : SzAt K H y (n - p) o) : SzAt K H (.ref a) (n + 1) (o.map fun r => (1 + p + r.1, q + r.2))
theorem SzAt.mono {K : PySem.W.Frag} {H H' : Hp} {v : V} {n : Nat} {o : Option (Nat × Nat)} (e : Ex H H') (h : SzAt K H v n o) : SzAt K H' v n o := by
  induction h with
  | zero => exact .zero
  | kind h k => exact .kind (ty_mono e h) k
  | empty h => exact .empty (ex_t e h)
  | head h ht k => exact .head (ex_t e h) (ty_mono e ht) k
  | leaf hs h ok => exact .leaf hs (ex_t e h) ok
  | leafLen hs h l => exact .leafLen hs (ex_t e h) l
  | leafNum hs h hx no => exact .leafNum hs (ex_t e h) (hx.mono e) no
  | word hs h l => exact .word hs (ex_t e h) l
  | byBad h hb no => exact .byBad (ex_t e h) (hb.mono e) no
  | behind h ok _ i => exact .behind (ex_t e h) ok i
  | pairNo hs h _ i => exact .pairNo hs (ex_t e h) i
  | pair hs h _ hp _ i j => exact .pair hs (ex_t e h) i hp j
def szOf (r : Rl) (n : Nat) : Option (Nat × Nat) := if r.parts ≤ n then some (r.parts, r.bys) else none
theorem parts_pos : ∀ r : Rl, 1 ≤ r.parts
  | .wk _ | .fs _ | .md _ => Nat.le_refl _
  | .bh r _ => by simp only [Rl.parts]; omega
  | .bo x y | .ei x y | .wo x y => by simp only [Rl.parts]; omega
theorem szOf_pair {K : PySem.W.Frag} {H : Hp} {a : Addr} {s : Str} {u v : V} {x y r : Rl} (hp : r.parts = 1 + x.parts + y.parts) (hb : r.bys = x.bys + y.bys) (hs : isPair s) (h : SqT K H a [.str s, u, v])
    (hx : ∀ n, SzAt K H u n (szOf x n)) (hy : ∀ n, SzAt K H v n (szOf y n)) : ∀ n, SzAt K H (.ref a) n (szOf r n)
  | 0 => by
    have := parts_pos x
    unfold szOf
    rw [if_neg (by omega)]
    exact .zero
  | n + 1 => by
    by_cases h1 : x.parts ≤ n
    · have e := SzAt.pair (o := szOf y (n - x.parts)) hs h (by have := hx n; rw [szOf, if_pos h1] at this; exact this) h1 (hy _)
      have e2 : (szOf y (n - x.parts)).map (fun r => (1 + x.parts + r.1, x.bys + r.2)) = szOf r (n + 1) := by
        unfold szOf
        by_cases h2 : y.parts ≤ n - x.parts
        · rw [if_pos h2, if_pos (by omega), hp, hb]; rfl
        · rw [if_neg h2, if_neg (by omega)]; rfl
      rw [← e2]
      exact e
    · unfold szOf
      rw [if_neg (by omega)]
      exact .pairNo hs h (by have := hx n; rw [szOf, if_neg h1] at this; exact this)
/-- a rule of which all numbers may stand -/
theorem sz_of {K : PySem.W.Frag} {H : Hp} {v : V} {r : Rl} (h : RlAt K H v r) (hf : r.fit = true) : ∀ n, SzAt K H v n (szOf r n) := by
  have leaf : ∀ {a : Addr} {s : Str} {k : Int} {r : Rl}, r.parts = 1 → r.bys = 0 → isEnd s → SqT K H a [.str s, .int k] → endOk s k = true → ∀ n, SzAt K H (.ref a) n (szOf r n) := by
    intro a s k r h1 h2 hs hT ok n
    cases n with
    | zero => rw [szOf, if_neg (by omega)]; exact .zero
    | succ n => rw [szOf, if_pos (by omega), h1, h2]; exact .leaf hs hT ok
  induction h with
  | wk h => exact leaf rfl rfl (.inl rfl) h (by rw [endOk, if_neg (by decide +kernel)]; exact hf)
  | fs h => exact leaf rfl rfl (.inr (.inl rfl)) h (by rw [endOk, if_neg (by decide +kernel)]; exact hf)
  | md h => exact leaf rfl rfl (.inr (.inr rfl)) h (by rw [endOk, if_pos rfl]; exact hf)
  | bh h _ i =>
    rename_i p u r b _
    simp only [Rl.fit, Bool.and_eq_true] at hf
    intro n
    cases n with
    | zero => rw [szOf, if_neg (by have := parts_pos (.bh r b); omega)]; exact .zero
    | succ n =>
      have e := SzAt.behind h hf.1 (i hf.2 n)
      have e2 : (szOf r n).map (fun p => (1 + p.1, b.natAbs + p.2)) = szOf (.bh r b) (n + 1) := by
        have hp : (Rl.bh r b).parts = 1 + r.parts := rfl
        unfold szOf
        by_cases h2 : r.parts ≤ n
        · rw [if_pos h2, if_pos (show (Rl.bh r b).parts ≤ n + 1 by omega)]; rfl
        · rw [if_neg h2, if_neg (show ¬ (Rl.bh r b).parts ≤ n + 1 by omega)]; rfl
      rw [← e2]
      exact e
  | bo h _ _ i j =>
    simp only [Rl.fit, Bool.and_eq_true] at hf
    exact szOf_pair rfl rfl (.inl rfl) h (i hf.1) (j hf.2)
  | ei h _ _ i j =>
    simp only [Rl.fit, Bool.and_eq_true] at hf
    exact szOf_pair rfl rfl (.inr (.inl rfl)) h (i hf.1) (j hf.2)
  | wo h _ _ i j =>
    simp only [Rl.fit, Bool.and_eq_true] at hf
    exact szOf_pair rfl rfl (.inr (.inr rfl)) h (i hf.1) (j hf.2)
/-- what a size comes back as -/
def RetO (o : Option (Nat × Nat)) (H : Hp) (Q : VK) : Prop := (o = none → RetV .non H Q) ∧ ∀ p q, o = some (p, q) → ∀ t H2, H t = none → Ex H H2 → H2 t = some (.tup [.int (p : Int), .int (q : Int)]) → Q (.ref t) H2
theorem at0 {x : V} {xs : List V} : atI (x :: xs) 0 = some x := atI_nat (j := 0) rfl
theorem RetO.back {o : Option (Nat × Nat)} {H H' : Hp} {Q : VK} (k : RetO o H Q) (e : Ex H H') : RetO o H' Q :=
  ⟨fun h H2 e2 => k.1 h H2 (e.trans e2), fun p q h t H2 ht e2 h2 => k.2 p q h t H2 (fresh_back e ht) (e.trans e2) h2⟩
end WF

set_option Elab.async false
set_option linter.all false
set_option maxRecDepth 100000
set_option maxHeartbeats 2000000
/-! WEnum: for i, x in enumerate(t), t a tuple -/
namespace WF
open PySem L2 Evl
section
open PySem.Calls PyProof.Rows
open AutoSeq1 (wpAny_loadPart')
theorem new_enumT (t : Addr) (its : Array Value) :
    Meets (Builtin.«enumerate.__new__» ⟨[.type "enumerate", .ref t], []⟩) (fun _ R s => s.heap.IsTuple t its ∧
      R (.ok (.ret (.ref (s.heap.push { cls := .type "tuple_iterator", data := .fields #[.ref t, .int 0 0] }).objs.size)))
        { s with heap := (s.heap.push { cls := .type "tuple_iterator", data := .fields #[.ref t, .int 0 0] }).push { cls := .type "enumerate", data := .fields #[.none, .bool false, .ref s.heap.objs.size, rawInt 0, .none, .none] } }) :=
  .of_wp fun prog w A R s hh => by
    obtain ⟨hp, gg, dd, tk, os⟩ := s
    obtain ⟨hT, hq⟩ := hh
    have hsub := sub_enumerate
    have it0 : ∀ {A' : Around} {E : Value → Shared → Prop} {Q : Value → Shared → Prop}, Q (.ref hp.objs.size) ⟨hp.push { cls := .type "tuple_iterator", data := .fields #[.ref t, .int 0 0] }, gg, dd, tk, os⟩ → wpAny (model prog w) A' (pyIter (.ref t)) Q E ⟨hp, gg, dd, tk, os⟩ :=
      fun q => wpAny_pyIter_tuple hT q
    wp_walk using it0
    refine wpAny_stack_any fun st => wpAny_pure ?_
    split
    · rename_i c _ _ _ _ _
      cases (c == Value.type "enumerate")
      · wp_walk using it0
        exact ⟨_, rfl, hq⟩
      · wp_walk using it0
        exact ⟨_, rfl, hq⟩
    · wp_walk using it0
      exact ⟨_, rfl, hq⟩
section
variable {prog : Program} {w : World} {A : Around} {E : Value → Shared → Prop} {s : Shared}
theorem call_enumT {t : Addr} {its : Array Value} {Q : Value → Shared → Prop} (hT : s.heap.IsTuple t its)
    (h : ∀ h', IsEnum h' (s.heap.objs.size + 1) s.heap.objs.size 0 .none → h'.IsTupleIter s.heap.objs.size t 0 → (∀ b o, s.heap.get? b = some o → h'.get? b = some o) → Q (.ref (s.heap.objs.size + 1)) { s with heap := h' }) :
    wpAny (model prog w) A (call (.type "enumerate") [.ref t]) Q E s := by
  refine callType_new F.called_enumerate (by decide) (F.typeCall_enumerate_1 _) (F.newCall_enumerate_1 _) (fun ob => F.args_object_init_2 ob _) F.entry_enumerate_new (new_enumT t its) ⟨hT, ?_⟩
  have hz : (s.heap.push { cls := .type "tuple_iterator", data := .fields #[.ref t, .int 0 0] }).objs.size = s.heap.objs.size + 1 := Heap.size_push ..
  show _ ∧ _
  rw [hz]
  have he : IsEnum ((s.heap.push { cls := .type "tuple_iterator", data := .fields #[.ref t, .int 0 0] }).push { cls := .type "enumerate", data := .fields #[.none, .bool false, .ref s.heap.objs.size, rawInt 0, .none, .none] }) (s.heap.objs.size + 1) s.heap.objs.size 0 .none := by
    have z := Heap.get?_push_size (s.heap.push { cls := .type "tuple_iterator", data := .fields #[.ref t, .int 0 0] }) (o := { cls := .type "enumerate", data := .fields #[.none, .bool false, .ref s.heap.objs.size, rawInt 0, .none, .none] }) rfl
    rw [hz] at z
    exact z
  exact ⟨⟨_, he, rfl⟩, h _ he ⟨_, Heap.get?_push_of_some _ (Heap.get?_push_size _ rfl), rfl, rfl⟩ fun b o x => Heap.get?_push_of_some _ (Heap.get?_push_of_some _ x)⟩
end
/-- the tuple at a as it stands at each turn, each item in a new pair -/
def Itet (K : PySem.W.Frag) (a : Addr) : It :=
  ⟨fun i H => ∃ (xs : List V) (x : V), SqT K H a xs ∧ xs[i]? = some x, fun i H v H' => ∃ T x, v = .ref T ∧ H T = none ∧ H' = upd H T (.tup [.int (i : Nat), x]) ∧ ∀ xs, SqT K H a xs → xs[i]? = some x, fun i H => ∃ xs : List V, SqT K H a xs ∧ xs.length ≤ i⟩
theorem turn_enumT {P : Program} {w : World} {K : PySem.W.Frag} {elts : List Expr} {kk : Nat} {tpos : Pos} (a e it : Addr) :
    Turn P w K (.Tuple elts kk tpos) (Itet K a) [e, it] e (fun i h => (∃ old, IsEnum h e it ((i : Nat) : Int) old) ∧ h.IsTupleIter it a i ∧ e ≠ it ∧ a ≠ it ∧ e ≠ a) where
  mem := by simp
  obj := fun i h st b hb => by
    obtain ⟨⟨old, he⟩, ⟨o, ho, hc, hd⟩, _⟩ := st
    rcases (show b = e ∨ b = it by simpa using hb) with rfl | rfl
    · exact ⟨_, he, fun v q => nomatch q⟩
    · exact ⟨o, ho, fun v q => by rw [hd] at q; cases q⟩
  keep := fun i h h' st k => by
    obtain ⟨⟨old, he⟩, ⟨o, ho, hc, hd⟩, hne⟩ := st
    exact ⟨⟨old, k e (by simp) _ he⟩, ⟨o, k it (by simp) _ ho, hc, hd⟩, hne⟩
  item := by
    intro X hP hw hK hc i pins s σ H E I hf st hg
    subst hP hw hK
    obtain ⟨⟨old, he⟩, hit, hne, hai, hea⟩ := st
    obtain ⟨xs, x, hq, hx⟩ := hg
    obtain ⟨its, rv, p, hz⟩ := I.tuple hq
    obtain ⟨u, hu, ru⟩ := rv.get hx
    have hlt : i < its.toArray.size := by
      have := (List.getElem?_eq_some_iff.mp hu).1
      simpa using this
    have hel : e < s.heap.objs.size := Heap.lt_size he
    have hil : it < s.heap.objs.size := by obtain ⟨_, q, _⟩ := hit; exact Heap.lt_size q
    refine wpAny_pyNext_enum_itemC (Draws.tuple (prog := X.prog) (w := X.w) (A := X.A.in1) (I.ok.hd hc) it a hai its.toArray) he ⟨hit, p⟩ hlt hne (by simp [hne, hea]) fun y h' tk hy ho hst' hT hsz hk => ?_
    have hyu : y = u := by
      rw [List.getElem?_toArray, hu] at hy
      exact (Option.some.inj hy).symm
    subst hyu
    refine ⟨_, rfl, wpAny_letOwnedTupleGo_enum (s := { s with heap := h', toks := tk + 1 }) ho fun h'' he' sb => ?_⟩
    have hT2 : h''.get? s.heap.objs.size = some { cls := .type "tuple", data := .seq #[.int i tk, y] } := (sb.2 _ (Nat.ne_of_gt hel)).trans hT
    have new : ObjOk X.prog X.w (upd H s.heap.objs.size (.tup [.int (i : Nat), x])) h'' s.heap.objs.size (.tup [.int (i : Nat), x]) :=
      ⟨by show 2 ≤ sizeLine; decide, [.int i tk, y], .cons ⟨_, rfl⟩ (.cons ru .nil), ⟨_, hT2, rfl, _, rfl⟩⟩
    have I1 : Inv X pins σ (upd H s.heap.objs.size (.tup [.int (i : Nat), x])) { s with heap := h'', toks := tk + 1 } :=
      I.turnedNew (ch := [e, it]) (fun b ob hb q => (sb.2 b (fun z => hb (by simp [z]))).trans (hk b ob (fun z => hb (by simp [z])) (fun z => hb (by simp [z])) q)) hf (Nat.le_refl _) new
    obtain ⟨oi, hoi, hci, hdi⟩ := hst'.1
    refine ⟨.ref s.heap.objs.size, _, I1, rfl, ⟨_, x, rfl, I.hok.fresh (Nat.le_refl _), rfl, fun ys hy => by rw [I.tuple_inj hy hq]; exact hx⟩, ⟨⟨y, ?_⟩, ⟨oi, (sb.2 it (Ne.symm hne)).trans hoi, hci, hdi⟩, hne, hai, hea⟩, fun b hb => ?_⟩
    · have e1 : ((i + 1 : Nat) : Int) = (i : Int) + 1 := by omega
      rw [e1]
      exact he'
    · have hb' : b < s.heap.objs.size := by
        rcases (show b = e ∨ b = it by simpa using hb) with rfl | rfl
        · exact hel
        · exact hil
      rw [upd_ne (Nat.ne_of_lt hb')]
      exact (hf b hb).1
  done := by
    intro X hP hw hK hc i pins s σ H E I hf st hg
    subst hP hw hK
    obtain ⟨⟨old, he⟩, hit, hne, hai, hea⟩ := st
    obtain ⟨xs, hq, hx⟩ := hg
    obtain ⟨its, rv, p, hz⟩ := I.tuple hq
    obtain ⟨f0, f1, f2, f3, f4, f5⟩ := hf it (by simp)
    have hl := rv.length
    obtain ⟨oi, hoi, hci, hdi⟩ := id hit
    have D0 := Draws.tuple (prog := X.prog) (w := X.w) (A := X.A.in1) (I.ok.hd hc) it a hai its.toArray
    have D : Draws X.prog X.w X.A.in1 it [it, a] i (fun j v => True) (fun j h => j = i ∧ h.IsTupleIter it a j ∧ h.IsTuple a its.toArray) :=
      ⟨fun j h st' => D0.live j h st'.2, fun j h h' st' k => ⟨st'.1, D0.frame j h h' st'.2 k⟩, fun j s' Q E' hj st' hQ => absurd st'.1 (Nat.ne_of_lt hj),
        fun s' Q E' st' hE => wpAny_nextOf_tuple_end (I.ok.hd hc) st'.2.1 st'.2.2 (by simp; omega) hE⟩
    exact wpAny_pyNext_enum_endD D he ⟨rfl, hit, p⟩ fun h' eb => ⟨rfl, I.turned (t' := s.toks) (fun b o hb q => eb b o hb q) f0 f1 f3 f4 f5⟩
  self := fun A i s Q E st h => let ⟨⟨_, he⟩, _⟩ := st; wpAny_pyIter_enum he h
def iEnumT (K : PySem.W.Frag) (ta : TA) : TI := fun σ H R => ta σ H fun vs H1 => ∃ a xs, vs = [.ref a] ∧ SqT K H1 a xs ∧ R (Itet K a) H1
theorem pi_enumT {X : Cx} {e : Expr} {ta : TA} {p pos tpos : Pos} {elts : List Expr} {kk : Nat} (hg : Gl X "enumerate") (hm : X.mg "enumerate" = none) (ha : PA X [e] ta) (hs : starEach [e] X.env = [(false, eval e X.env)] := by rfl) :
    PI X (.Tuple elts kk tpos) (.Call (.Name "enumerate" p) [e] [] pos) (iEnumT X.K ta) := by
  refine ⟨fun pins s σ H R I hh => ?_⟩
  refine Call_ (ld_blt I hg hm boot_enumerate (callWith_type1 (thn (ha.run pos pins s σ H _ I hh) fun us s1 ⟨vs, H1, I1, r1, q1⟩ => ?_) hs rfl))
  obtain ⟨a, xs, ex, hq, q⟩ := q1
  subst ex
  cases r1 with
  | cons r rr =>
    cases rr
    cases r
    obtain ⟨its, rv, pT, hz⟩ := I1.tuple hq
    have hal : a < s1.heap.objs.size := by
      obtain ⟨oT, hoT, _⟩ := pT
      exact Heap.lt_size hoT
    refine call_enumT pT fun h' he hit hk => wpAny_pyIter_enum he ?_
    have I2 : Inv X pins σ H1 { s1 with heap := h' } := I1.kept (t' := s1.toks) hk
    refine ⟨s1.heap.objs.size + 1, [s1.heap.objs.size + 1, s1.heap.objs.size], _, _, H1, rfl, I2, turn_enumT a (s1.heap.objs.size + 1) s1.heap.objs.size, ⟨⟨.none, he⟩, hit, Nat.succ_ne_self _, Nat.ne_of_lt hal, Nat.ne_of_gt (Nat.lt_succ_of_lt hal)⟩, fun b hb => ?_, q⟩
    have hle : s1.heap.objs.size ≤ b := by
      rcases (show b = s1.heap.objs.size + 1 ∨ b = s1.heap.objs.size by simpa using hb) with z | z
      · rw [z]; exact Nat.le_add_right _ _
      · rw [z]; exact Nat.le_refl _
    exact I1.fpOk hle (I1.hok.fresh hle)
theorem walk_enumT {K : PySem.W.Frag} {a : Addr} {xs : List V} : Walk (Itet K a) xs.length (fun H => SqT K H a xs) (YPair (fun i => some (.int (i : Nat))) (fun i => xs[i]?)) := by
  refine ⟨fun i _ hi q => ⟨xs, xs[i], q, by simp [hi]⟩, fun _ q => ⟨xs, q, Nat.le_refl _⟩, fun i H v H' _ q y => ?_⟩
  obtain ⟨T, x, y1, y2, y3, y4⟩ := y
  exact ⟨T, .int (i : Nat), x, y1, y2, y3, rfl, y4 xs q⟩
/-- for i, x in enumerate(t): Pv by the turn, the slots and the heap -/
theorem q_forEnT {K : PySem.W.Frag} {σ : L2.St} {H : Hp} {a : Addr} {xs : List V} {ta : TE} {j k : Nat} {tu tz : TS} {D : Ends} (h : Ev ta σ H (.ref a)) (hx : SqT K H a xs) (Pv : Nat → L2.St → Hp → Prop) (h0 : ∀ H1, Ex H H1 → Pv 0 σ H1)
    (hl : ∀ i σ' H', i ≤ xs.length → Pv i σ' H' → SqT K H' a xs)
    (hs : ∀ i x σ' H' H2, xs[i]? = some x → Pv i σ' H' → Ex H' H2 → tu { D with nx := Pv (i + 1), ct := Pv (i + 1), bk := tz D } ((σ'.set j (some (.int ((i : Nat) : Int)))).set k (some x)) H2)
    (hd : ∀ σ' H', Pv xs.length σ' H' → tz D σ' H') : tSeq (tFor (iEnumT K (tCons ta tNil)) (gTup K 2 (gCons (gName j) (gCons (gName k) gNil))) tu) tz D σ H := by
  refine h H (Ex.refl H) _ fun H1 e1 => ⟨a, xs, rfl, ex_t e1 hx, ?_⟩
  refine for_it (D := { D with nx := tz D }) walk_enumT Pv (h0 H1 e1) hl (fun i x σ' H' H2 hi p y => ?_) hd
  obtain ⟨T, u, v, rfl, hT, rfl, hu, hv⟩ := y
  cases hu
  exact ⟨T, _, rfl, st_of upd_same, rfl, _, _, rfl, _, _, rfl, rfl, hs i v σ' H' _ hv p (Ex.new hT)⟩
end
end WF

set_option Elab.async false
set_option linter.all false
set_option maxRecDepth 100000
set_option maxHeartbeats 2000000
/-! WObj: objects made and changed -/
namespace WF
open PySem L2 Evl
structure Cls1 (K : PySem.W.Frag) (C : Addr) (fs : List Str) : Prop where
  cl : Cls K C
  no : ∀ x ∈ fs, NoAttr K C x
/-- all but p is kept -/
def ExB (p : Addr) (H H' : Hp) : Prop := ∀ b o, b ≠ p → H b = some o → H' b = some o
theorem ExB.of {p : Addr} {H H' : Hp} (e : Ex H H') : ExB p H H' := fun b o _ h => e b o h
theorem ExB.step {p : Addr} {H H1 H2 : Hp} (a : ExB p H H1) (e : Ex H1 H2) : ExB p H H2 := fun b o h q => e b o (a b o h q)
theorem ExB.upd {p : Addr} {H H' : Hp} {o : HO} (a : ExB p H H') : ExB p H (upd H' p o) := fun b u h q => by
  rw [upd_ne h]
  exact a b u h q
theorem ExB.trans {p : Addr} {H H1 H2 : Hp} (a : ExB p H H1) (b : ExB p H1 H2) : ExB p H H2 := fun c o h q => b c o h (a c o h q)
/-- what stood ahead of p stands -/
theorem ExB.old {p : Addr} {H0 H H' : Hp} (a : ExB p H H') (e : Ex H0 H) (h : H0 p = none) : Ex H0 H' := fun b o q => a b o (ne_of_none q h) (e b o q)
structure MkAt (K : PySem.W.Frag) (C : Addr) (qual : Str) (st : Stmt) (ps : List Str) : Prop where
  ex : ∃ (f : Addr) (fd : FuncData), Mk K C f ∧ Fun K "__init__" qual st f fd ∧ Binds K fd ps []
structure MtAt (K : PySem.W.Frag) (C : Addr) (m qual : Str) (st : Stmt) (ps : List Str) : Prop where
  ex : ∃ (f : Addr) (fd : FuncData), Meth K C m f ∧ Fun K m qual st f fd ∧ Binds K fd ps []
structure Mn (P : Program) (w : World) (K : PySem.W.Frag) (mg : Str → Option Value) (base : Heap) (CX : CXT) (C : Addr) (k : Nat) (ps : List Str) (sp : Sp) : Prop where
  ex : ∃ (f : Addr) (fd : FuncData), Mk K C f ∧ FnOk P w K mg base CX k f fd ps sp ∧ Binds K fd ps []
structure Mtn (P : Program) (w : World) (K : PySem.W.Frag) (mg : Str → Option Value) (base : Heap) (CX : CXT) (C : Addr) (m : Str) (k : Nat) (ps : List Str) (sp : Sp) : Prop where
  ex : ∃ (f : Addr) (fd : FuncData), Meth K C m f ∧ PySem.W.keepIn K (.ref f) = true ∧ FnOk P w K mg base CX k f fd ps sp ∧ Binds K fd ps []
section
variable {P : Program} {w : World} {K : PySem.W.Frag} {mg : Str → Option Value} {base : Heap} {CX : CXT} {C : Addr} {m qual : Str} {k : Nat} {ps : List Str} {sp : Sp} {st : Stmt}
theorem MkAt.mn (F : MkAt K C qual st ps) (h : ∀ f fd, Fun K "__init__" qual st f fd → FnOk P w K mg base CX k f fd ps sp) : Mn P w K mg base CX C k ps sp := by
  obtain ⟨f, fd, h1, h2, h3⟩ := F.ex
  exact ⟨f, fd, h1, h f fd h2, h3⟩
theorem MtAt.mtn (F : MtAt K C m qual st ps) (h : ∀ f fd, Fun K m qual st f fd → FnOk P w K mg base CX k f fd ps sp) : Mtn P w K mg base CX C m k ps sp := by
  obtain ⟨f, fd, h1, h2, h3⟩ := F.ex
  exact ⟨f, fd, h1, h2.kp, h f fd h2, h3⟩
end
section
variable {X : Cx} {CX : CXT} {x m : Str} {C : Addr} {k : Nat} {ps : List Str} {sp : Sp} {E : XK} {e o : Expr} {es : List Expr} {p pos apos : Pos} {t : TA} {ta : TE}
theorem pe_mk (M : Mn X.prog X.w X.K X.mg X.base CX C k ps sp) (hr : Room (k + 1) X.A) (gC : X.mg x = some (.ref C)) (hx : Passes CX X E) (hg : Gl X x) (ha : PA X (e :: es) t) (hdb : (x == ("__debug__" : Str)) = false := by decide)
    (he : starEach (e :: es) X.env = (false, eval e X.env) :: starEach es X.env := by rfl) (hpl : (backTo pos (starEach es X.env)).any (·.1) = false := by rfl) : PE X (.Call (.Name x p) (e :: es) [] pos) (tMake C sp [] E t) := by
  obtain ⟨f, fd, h1, h2, h3⟩ := M.ex
  exact pe_make h1 h2 hr hg gC h3 .nil hx ha hdb he hpl
end
/-- te gives a new object of which R tells -/
def EvR (te : TE) (σ : L2.St) (H : Hp) (R : Addr → Hp → Prop) : Prop := ∀ H1, Ex H H1 → ∀ Q : VK, (∀ p H2, H1 p = none → Ex H1 H2 → R p H2 → Q (.ref p) H2) → te σ H1 Q
section
variable {K : PySem.W.Frag} {σ : L2.St} {H H' : Hp} {ta tb tc te tv : TE} {x y z v : V} {r r' : R2} {t u : TT} {D : Ends} {tz : TS}
theorem s_fld {a C dx : Addr} {fs : List (Str × V)} {f : Str} (hv : Ev tv σ H y) (h : Ev ta σ H (.ref a)) (ho : H a = some (.ins C dx fs)) (hc : Cls K C) (hn : NoAttr K C f) (hz : fs.length < 1000)
    (k : ∀ H1, Ex H H1 → D.nx σ (upd H1 a (.ins C dx (putF f y fs)))) : sFld K ta tv f D σ H :=
  hv H (Ex.refl H) _ fun H1 e1 => h H1 e1 _ fun H2 e2 => ⟨a, C, dx, fs, rfl, e2 _ _ (e1 _ _ ho), hc, hn, hz, k H2 (e1.trans e2)⟩
theorem q_fld {a C dx : Addr} {fs : List (Str × V)} {f : Str} (hv : Ev tv σ H y) (h : Ev ta σ H (.ref a)) (ho : H a = some (.ins C dx fs)) (hc : Cls K C) (hn : NoAttr K C f) (hz : fs.length < 1000)
    (k : ∀ H1, Ex H H1 → tz D σ (upd H1 a (.ins C dx (putF f y fs)))) : tSeq (sFld K ta tv f) tz D σ H := s_fld (D := { D with nx := tz D }) hv h ho hc hn hz k
/-- a new instance by __init__: R tells of the made one -/
theorem er_make {C : Addr} {sp : Sp} {E : XK} {ta : TA} {vs : List V} {R : Addr → Hp → Prop} (h : EvA ta σ H vs)
    (hs : ∀ H1, Ex H H1 → ∀ x dx, H1 x = none → H1 dx = none → dx ≠ x → ∀ Q : VK, (∀ H2, Ex H1 H2 → R x H2 → Q .non H2) → sp (.ref x :: vs) (upd (upd H1 dx (.own x)) x (.ins C dx [])) Q E) : EvR (tMake C sp [] E ta) σ H R :=
  fun H1 e Q q => h H1 e _ fun H2 e2 x dx hx hdx hne => by
    rw [List.append_nil]
    exact hs H2 (e.trans e2) x dx hx hdx hne _ fun H3 e3 hR => ⟨rfl, q x H3 (fresh_back e2 hx) (e2.trans e3) hR⟩
theorem ex_made {H1 : Hp} {x dx C : Addr} (hx : H1 x = none) (hdx : H1 dx = none) : Ex H1 (upd (upd H1 dx (.own x)) x (.ins C dx [])) := fun b o h => by
  rw [upd_ne (ne_of_none h hx), upd_ne (ne_of_none h hdx)]
  exact h
theorem s_asgR {i : Nat} {R : Addr → Hp → Prop} (h : EvR te σ H R) (k : ∀ p H1, H p = none → Ex H H1 → R p H1 → D.nx (σ.set i (some (.ref p))) H1) : tAsg te (gName i) D σ H := h H (Ex.refl H) _ fun p H1 hp e h1 => k p H1 hp e h1
theorem q_asgR {i : Nat} {R : Addr → Hp → Prop} (h : EvR te σ H R) (k : ∀ p H1, H p = none → Ex H H1 → R p H1 → tz D (σ.set i (some (.ref p))) H1) : tSeq (tAsg te (gName i)) tz D σ H := s_asgR (D := { D with nx := tz D }) h k
theorem s_retR {R : Addr → Hp → Prop} (h : EvR te σ H R) (k : ∀ p H1, H p = none → Ex H H1 → R p H1 → D.rt (.ref p) H1) : tRet te D σ H := h H (Ex.refl H) _ fun p H1 hp e h1 => k p H1 hp e h1
theorem el_R {xs : List V} (h : EvL te σ H xs) : EvR te σ H fun p H2 => H2 p = some (.lst xs) := h
theorem eu_R {xs : List V} (h : EvU te σ H xs) : EvR te σ H fun p H2 => H2 p = some (.tup xs) := h
end
/-- what the top says of an own class, further: for isinstance -/
structure ClsI (K : PySem.W.Frag) (C : Addr) : Prop where
  cl : Cls K C
  ha : PySem.W.findIn K (.ref C) "__class__" = some (some (.builtin "object.__class__"))
  hn : PySem.W.specialIn K (.builtin "object.__class__") "__get__" = some (some (.builtin "getset_descriptor.__get__"))
  htk : PySem.W.takesIn K (.builtin "object.__class__") = some true
  hm : PySem.W.mroIn K C (.type "object") = some true
theorem ClsI.ty {K : PySem.W.Frag} {C a dx : Addr} {H : Hp} {fs : List (Str × V)} (h : ClsI K C) (ho : H a = some (.ins C dx fs)) : TyX K H (.ref a) (.ref C) := .base (.ins ho h.cl h.ha h.hn h.htk h.hm)
theorem kit_self {K : PySem.W.Frag} {C : Addr} : PySem.W.kitOne K (.ref C) (.ref C) = some true := by
  unfold PySem.W.kitOne
  rw [if_pos (by simp)]
/-! a store to an instance: tuples, and what is told by them, stand -/
section
variable {K : PySem.W.Frag} {H : Hp} {p C dx : Addr} {fs fs' : List (Str × V)}
theorem sqt_upd {a : Addr} {xs : List V} (hp : H p = some (.ins C dx fs)) (h : SqT K H a xs) : SqT K (upd H p (.ins C dx fs')) a xs := by
  rcases h with (h | ⟨o, h⟩) | h
  · refine .inl (.inl ?_)
    rw [upd_ne (ne_of h hp (by intro q; cases q))]
    exact h
  · refine .inl (.inr ⟨o, ?_⟩)
    rw [upd_ne (ne_of h hp (by intro q; cases q))]
    exact h
  · exact .inr h
theorem ty_upd {x : V} {t : Value} (hp : H p = some (.ins C dx fs)) (h : TyX K H x t) : TyX K (upd H p (.ins C dx fs')) x t := by
  have mv : ∀ {a : Addr} {o : HO}, H a = some o → o ≠ .ins C dx fs → upd H p (.ins C dx fs') a = some o := fun {a o} e n => by
    rw [upd_ne (ne_of e hp n)]
    exact e
  cases h with
  | base h =>
    cases h with
    | non => exact .base .non
    | bl b => exact .base (.bl b)
    | int i => exact .base (.int i)
    | str z => exact .base (.str z)
    | flt z => exact .base (.flt z)
    | lst h => exact .base (.lst (mv h (by intro q; cases q)))
    | frz h => exact .base (.frz (mv h (by intro q; cases q)))
    | tup h => exact .base (.tup (mv h (by intro q; cases q)))
    | dK h => exact .base (.dK (mv h (by intro q; cases q)))
    | dT h => exact .base (.dT (mv h (by intro q; cases q)))
    | @ins a C' dx' fs0 h cl ha hn htk hm =>
      by_cases hap : a = p
      · subst hap
        rw [hp] at h
        injection h with h
        injection h with h1 h2 h3
        subst h1 h2
        exact .base (.ins upd_same cl ha hn htk hm)
      · exact .base (.ins (by rw [upd_ne hap]; exact h) cl ha hn htk hm)
  | byt b => exact .byt b
  | set h => exact .set (mv h (by intro q; cases q))
  | kList h c => exact .kList h c
  | kTuple h c => exact .kTuple h c
  | kDict h c => exact .kDict h c
  | fTuple h => exact .fTuple (mv h (by intro q; cases q))
  | fDict h => exact .fDict (mv h (by intro q; cases q))
theorem num_upd {x : V} {o : Option Int} (hp : H p = some (.ins C dx fs)) (h : NumV K H x o) : NumV K (upd H p (.ins C dx fs')) x o := by
  cases h with
  | int z => exact .int z
  | odd h n => exact .odd (ty_upd hp h) n
theorem sz_upd {x : V} {n : Nat} {o : Option (Nat × Nat)} (hp : H p = some (.ins C dx fs)) (h : SzAt K H x n o) : SzAt K (upd H p (.ins C dx fs')) x n o := by
  induction h with
  | zero => exact .zero
  | kind h k => exact .kind (ty_upd hp h) k
  | empty h => exact .empty (sqt_upd hp h)
  | head h ht k => exact .head (sqt_upd hp h) (ty_upd hp ht) k
  | leaf hs h ok => exact .leaf hs (sqt_upd hp h) ok
  | leafLen hs h l => exact .leafLen hs (sqt_upd hp h) l
  | leafNum hs h hx no => exact .leafNum hs (sqt_upd hp h) (num_upd hp hx) no
  | word hs h l => exact .word hs (sqt_upd hp h) l
  | byBad h hb no => exact .byBad (sqt_upd hp h) (num_upd hp hb) no
  | behind h ok _ i => exact .behind (sqt_upd hp h) ok i
  | pairNo hs h _ i => exact .pairNo hs (sqt_upd hp h) i
  | pair hs h _ hl _ i j => exact .pair hs (sqt_upd hp h) i hl j
end
end WF

set_option Elab.async false
set_option linter.all false
set_option maxRecDepth 100000
set_option maxHeartbeats 400000
/-! WProp: properties of own classes -/
namespace WF
open PySem L2 Evl
structure PropAt (K : PySem.W.Frag) (C : Addr) (f qual : Str) (st : Stmt) : Prop where
  ex : ∃ (p g : Addr) (fd : FuncData), PropOf K C f p g ∧ Fun K f qual st g fd ∧ Binds K fd ["self"] []
structure Prn (P : Program) (w : World) (K : PySem.W.Frag) (mg : Str → Option Value) (base : Heap) (C : Addr) (f : Str) (k : Nat) (sp : Sp) : Prop where
  ex : ∃ (p g : Addr) (fd : FuncData), PropOf K C f p g ∧ FnOk P w K mg base CX0 k g fd ["self"] sp ∧ Binds K fd ["self"] []
theorem PropAt.prn {P : Program} {w : World} {K : PySem.W.Frag} {mg : Str → Option Value} {base : Heap} {C : Addr} {f qual : Str} {k : Nat} {sp : Sp} {st : Stmt} (F : PropAt K C f qual st) (h : ∀ g fd, Fun K f qual st g fd → FnOk P w K mg base CX0 k g fd ["self"] sp) : Prn P w K mg base C f k sp := by
  obtain ⟨p, g, fd, h1, h2, h3⟩ := F.ex
  exact ⟨p, g, fd, h1, h g fd h2, h3⟩
section
variable {X : Cx} {C : Addr} {f : Str} {k : Nat} {sp : Sp} {e : Expr} {pos : Pos} {ta : TE}
theorem pe_prp (R : Prn X.prog X.w X.K X.mg X.base C f k sp) (he : PE X e ta) (c : Cls X.K C) (hr : Room (k + 1) X.A) (hab : attributeBase e f X.env (eval e X.env) = eval e X.env) : PE X (.Attribute e f pos) (tProp C sp [] E0 ta) := by
  obtain ⟨p, g, fd, h1, h2, h3⟩ := R.ex
  exact pe_prop he c h1 h2 hr h3 .nil pass0 hab
end
theorem ev_prp {σ : L2.St} {H : Hp} {ta : TE} {C a dx : Addr} {fs : List (Str × V)} {sp : Sp} {E : XK} {z : V} (h : Ev ta σ H (.ref a)) (ho : H a = some (.ins C dx fs)) (k : ∀ H1, Ex H H1 → ∀ (Q : VK) (E : XK), RetV z H1 Q → sp [.ref a] H1 Q E) : Ev (tProp C sp [] E ta) σ H z := fun H1 e Q q =>
  h H1 e _ fun H2 e2 => ⟨a, dx, fs, rfl, e2 _ _ (e _ _ ho), k H2 (e.trans e2) Q E fun H3 e3 => q H3 (e2.trans e3)⟩
end WF

set_option Elab.async false
set_option linter.all false
set_option maxRecDepth 100000
set_option maxHeartbeats 2000000
/-! WDraw: the drawn numbers' list; what stands when lists change -/
namespace WF
open PySem L2 Evl
/-- the list that numbers are drawn from -/
def Good (xs : List V) : Prop := ∃ (s r : Int) (bs : List Int), xs = .int s :: .int r :: bs.map V.int ∧ 0 ≤ s ∧ s < 2147483647 ∧ 0 ≤ r ∧ (∀ b ∈ bs, 0 ≤ b) ∧ bs.length ≤ 100
theorem Good.len {xs : List V} (h : Good xs) : 2 ≤ xs.length ∧ xs.length ≤ 102 := by
  obtain ⟨s, r, bs, rfl, _, _, _, _, h⟩ := h
  simp
  omega
/-- all that is no list stands -/
def KeepN (H H' : Hp) : Prop := ∀ b o, (∀ xs, o ≠ .lst xs) → H b = some o → H' b = some o
theorem KeepN.refl (H : Hp) : KeepN H H := fun _ _ _ h => h
theorem KeepN.of {H H' : Hp} (e : Ex H H') : KeepN H H' := fun b o _ h => e b o h
theorem KeepN.trans {H H1 H2 : Hp} (a : KeepN H H1) (b : KeepN H1 H2) : KeepN H H2 := fun c o n h => b c o n (a c o n h)
theorem ExB.kn {d : Addr} {H H' : Hp} {xs : List V} (e : ExB d H H') (h : H d = some (.lst xs)) : KeepN H H' := fun b o n q => e b o (fun z => by
  subst z
  rw [h] at q
  exact n xs (Option.some.inj q).symm) q
section
variable {K : PySem.W.Frag} {H H' : Hp} {a l d CF CC : Addr} {xs : List V} {v x : V}
theorem sqt_kn (e : KeepN H H') (h : SqT K H a xs) : SqT K H' a xs := by
  rcases h with (h | ⟨o, h⟩) | h
  · exact .inl (.inl (e _ _ (fun _ q => nomatch q) h))
  · exact .inl (.inr ⟨o, e _ _ (fun _ q => nomatch q) h⟩)
  · exact .inr h
theorem sql_but (e : ExB d H H') (hne : l ≠ d) (h : SqL K H l xs) : SqL K H' l xs := by
  rcases h with (h | ⟨o, h⟩) | h
  · exact .inl (.inl (e _ _ hne h))
  · exact .inl (.inr ⟨o, e _ _ hne h⟩)
  · exact .inr h
theorem RlAt.kn {r : Rl} (e : KeepN H H') (h : RlAt K H v r) : RlAt K H' v r := by
  induction h with
  | wk h => exact .wk (sqt_kn e h)
  | fs h => exact .fs (sqt_kn e h)
  | md h => exact .md (sqt_kn e h)
  | bh h _ i => exact .bh (sqt_kn e h) i
  | bo h _ _ i j => exact .bo (sqt_kn e h) i j
  | ei h _ _ i j => exact .ei (sqt_kn e h) i j
  | wo h _ _ i j => exact .wo (sqt_kn e h) i j
theorem FeastAt.kn {r : Rl} (e : KeepN H H') (h : FeastAt K CF H a r) : FeastAt K CF H' a r := by
  obtain ⟨dx, v, h1, h2⟩ := h
  exact ⟨dx, v, e _ _ (fun _ q => nomatch q) h1, h2.kn e⟩
theorem RowAt.kn {r : Rl × Bool} (e : KeepN H H') (h : RowAt K CF H x r) : RowAt K CF H' x r := by
  obtain ⟨p, q, h0, h1, h2⟩ := h
  exact ⟨p, q, h0, sqt_kn e h1, h2.kn e⟩
theorem RowsL.kn (e : KeepN H H') : ∀ {xs : List V} {rs : Rows}, RowsL K CF H xs rs → RowsL K CF H' xs rs
  | [], [], _ => trivial
  | _ :: _, _ :: _, h => ⟨h.1.kn e, RowsL.kn e h.2⟩
  | [], _ :: _, h => h
  | _ :: _, [], h => h
theorem RowsAt.kn {rs : Rows} (e : KeepN H H') (h : RowsAt K CF H v rs) : RowsAt K CF H' v rs := by
  obtain ⟨a, xs, h0, h1, h2⟩ := h
  exact ⟨a, xs, h0, sqt_kn e h1, h2.kn e⟩
theorem CalAt.kn {rs : Rows} (e : KeepN H H') (h : CalAt K CF CC H v rs) : CalAt K CF CC H' v rs := by
  obtain ⟨c, dx, rv, h0, h1, h2⟩ := h
  exact ⟨c, dx, rv, h0, e _ _ (fun _ q => nomatch q) h1, h2.kn e⟩
end
/-- a raw row: a pair of a rule and a truth -/
def RawAt (K : PySem.W.Frag) (H : Hp) (x : V) (r : Rl × Bool) : Prop := ∃ p v, x = .ref p ∧ SqT K H p [v, .bl r.2] ∧ RlAt K H v r.1
def RawL (K : PySem.W.Frag) (H : Hp) : List V → Rows → Prop
  | [], [] => True
  | x :: xs, r :: rs => RawAt K H x r ∧ RawL K H xs rs
  | _, _ => False
section
variable {K : PySem.W.Frag} {H H' : Hp} {x : V}
theorem RawAt.kn {r : Rl × Bool} (e : KeepN H H') (h : RawAt K H x r) : RawAt K H' x r := by
  obtain ⟨p, v, h0, h1, h2⟩ := h
  exact ⟨p, v, h0, sqt_kn e h1, h2.kn e⟩
theorem RawL.kn (e : KeepN H H') : ∀ {xs : List V} {rs : Rows}, RawL K H xs rs → RawL K H' xs rs
  | [], [], _ => trivial
  | _ :: _, _ :: _, h => ⟨h.1.kn e, RawL.kn e h.2⟩
  | [], _ :: _, h => h
  | _ :: _, [], h => h
theorem RawL.len : ∀ {xs : List V} {rs : Rows}, RawL K H xs rs → xs.length = rs.length
  | [], [], _ => rfl
  | _ :: _, _ :: _, h => congrArg (· + 1) (RawL.len h.2)
  | [], _ :: _, h => h.elim
  | _ :: _, [], h => h.elim
theorem RawL.get : ∀ {xs : List V} {rs : Rows} {i : Nat} {x : V}, RawL K H xs rs → xs[i]? = some x → ∃ r, rs[i]? = some r ∧ RawAt K H x r
  | _ :: _, r :: _, 0, _, h, e => ⟨r, rfl, by cases e; exact h.1⟩
  | _ :: xs, _ :: rs, i + 1, x, h, e => RawL.get (xs := xs) (rs := rs) (i := i) (x := x) h.2 e
  | [], [], i, x, _, e => by simp at e
  | [], _ :: _, _, _, h, _ => h.elim
  | _ :: _, [], _, _, h, _ => h.elim
theorem RawL.snoc : ∀ {xs : List V} {rs : Rows} {x : V} {r : Rl × Bool}, RawL K H xs rs → RawAt K H x r → RawL K H (xs ++ [x]) (rs ++ [r])
  | [], [], _, _, _, h => ⟨h, trivial⟩
  | _ :: _, _ :: _, _, _, h, g => ⟨h.1, RawL.snoc h.2 g⟩
  | [], _ :: _, _, _, h, _ => h.elim
  | _ :: _, [], _, _, h, _ => h.elim
end
section
variable {K : PySem.W.Frag} {σ : L2.St} {H H' : Hp} {ta tb tc te tv : TE} {x y z v : V} {r r' : R2} {t u : TT} {D : Ends} {tz : TS}
theorem ev_int1 {i : Int} (h : Ev ta σ H (.int i)) : Ev (tCB (fun xs H Q => (∃ i, xs = [.int i] ∧ Q (.int i) H) ∨ ∃ k, xs = [.bl k] ∧ Q (.int (if k then 1 else 0)) H) (tCons ta tNil)) σ H (.int i) :=
  ev_cb (ea_cons h ea_nil) fun H1 _ Q q => .inl ⟨i, rfl, q H1 (Ex.refl H1)⟩
theorem ev_abs {i : Int} (h : Ev ta σ H (.int i)) : Ev (tCB (fun xs H Q => ∃ i, xs = [.int i] ∧ Q (.int (if i < 0 then -i else i)) H) (tCons ta tNil)) σ H (.int (if i < 0 then -i else i)) :=
  ev_cb (ea_cons h ea_nil) fun H1 _ Q q => ⟨i, rfl, q H1 (Ex.refl H1)⟩
theorem ev_ixL {p : Addr} {xs : List V} {i : Int} (h : Ev ta σ H (.ref p)) (hs : SqL K H p xs) (ha : atI xs i = some v) : Ev (tOp (rIxL K) ta (tC (.int i))) σ H v := ev_op h ev_c (rv_ixL hs ha)
theorem ev_lenL {p : Addr} {xs : List V} (ha : Ev ta σ H (.ref p)) (h : SqL K H p xs) : Ev (tCB (rLenS K) (tCons ta tNil)) σ H (.int (xs.length : Int)) := fun H1 e Q q =>
  ha H1 e _ fun H2 e2 => ⟨p, xs, rfl, .inl (ex_l (e.trans e2) h), q H2 e2⟩
/-- two new lists, one behind the other -/
theorem el_cat {xs ys : List V} (h1 : EvL ta σ H xs) (h2 : EvL tb σ H ys) (hz : xs.length + ys.length ≤ 100000) : EvL (tOp rCat ta tb) σ H (xs ++ ys) := fun H1 e Q q =>
  h1 H1 e _ fun p H2 hp e2 k1 => h2 H2 (e.trans e2) _ fun p2 H3 hp2 e3 k2 => ⟨p, p2, xs, ys, rfl, rfl, e3 _ _ k1, k2, Evl.sz_of hz, fun p3 hp3 => q p3 _ (fresh_back (e2.trans e3) hp3) ((e2.trans e3).trans (Ex.new hp3)) upd_same⟩
/-- xs[i] = e, a list of the call's own, at a written place -/
theorem s_setI {l : Addr} {xs : List V} {i : Int} {j : Nat} (hl : H l = some (.lst xs)) (h : Ev te σ H v) (ho : Ev ta σ H (.ref l)) (hj : ixN xs.length i = some j) (k : ∀ H1, Ex H H1 → D.nx σ (upd H1 l (.lst (xs.set j v)))) :
    tAsg te (gSub ta (tC (.int i)) rSetL) D σ H := h H (Ex.refl H) _ fun H1 e1 => ho H1 e1 _ fun H2 e2 => ⟨l, xs, i, j, rfl, rfl, (e1.trans e2) _ _ hl, hj, k H2 (e1.trans e2)⟩
theorem q_setI {l : Addr} {xs : List V} {i : Int} {j : Nat} (hl : H l = some (.lst xs)) (h : Ev te σ H v) (ho : Ev ta σ H (.ref l)) (hj : ixN xs.length i = some j) (k : ∀ H1, Ex H H1 → tz D σ (upd H1 l (.lst (xs.set j v)))) :
    tSeq (tAsg te (gSub ta (tC (.int i)) rSetL)) tz D σ H := s_setI (D := { D with nx := tz D }) hl h ho hj k
/-! what is handed on by the readings themselves -/
theorem call_ev {sp : Sp} {E : XK} {ta : TA} {vs : List V} {Q : VK} (h : EvA ta σ H vs) (k : ∀ H1, Ex H H1 → sp vs H1 Q E) : tCall sp [] E ta σ H Q := h H (Ex.refl H) _ fun H1 e => by
  rw [List.append_nil]
  exact k H1 e
theorem q_asgX {i : Nat} (h : te σ H fun x H1 => tz D (σ.set i (some x)) H1) : tSeq (tAsg te (gName i)) tz D σ H := h
theorem s_asgX {i : Nat} (h : te σ H fun x H1 => D.nx (σ.set i (some x)) H1) : tAsg te (gName i) D σ H := h
theorem s_retX (h : te σ H D.rt) : tRet te D σ H := h
theorem q_ifX {tu tw : TS} (h : t σ H fun b H1 => if b = true then tu { D with nx := tz D } σ H1 else tw { D with nx := tz D } σ H1) : tSeq (tIfS t tu tw) tz D σ H := h
/-- a call's answer compared -/
theorem t_cmpX {b : V} {Q : Bool → Hp → Prop} (h : ta σ H fun x H1 => scal x b = true ∧ Q (decide (x = b)) H1) (hmono : ∀ Q1 Q2 : VK, (∀ v H1, Q1 v H1 → Q2 v H1) → ta σ H Q1 → ta σ H Q2) : tTest (tOp rEq ta (tC b)) σ H Q :=
  hmono _ _ (fun v H1 h => ⟨h.1, _, rfl, h.2⟩) h
end
/-- all but d and l is kept -/
def ExB2 (d l : Addr) (H H' : Hp) : Prop := ∀ b o, b ≠ d → b ≠ l → H b = some o → H' b = some o
theorem ExB.two {d l : Addr} {H H' : Hp} (e : ExB d H H') : ExB2 d l H H' := fun b o h _ q => e b o h q
theorem ExB.two' {d l : Addr} {H H' : Hp} (e : ExB l H H') : ExB2 d l H H' := fun b o _ h q => e b o h q
theorem ExB2.of {d l : Addr} {H H' : Hp} (e : Ex H H') : ExB2 d l H H' := fun b o _ _ q => e b o q
theorem ExB2.trans {d l : Addr} {H H1 H2 : Hp} (a : ExB2 d l H H1) (b : ExB2 d l H1 H2) : ExB2 d l H H2 := fun c o h g q => b c o h g (a c o h g q)
theorem ExB2.step {d l : Addr} {H H1 H2 : Hp} (a : ExB2 d l H H1) (e : Ex H1 H2) : ExB2 d l H H2 := a.trans (.of e)
theorem ExB2.updL {d l : Addr} {H H' : Hp} {o : HO} (a : ExB2 d l H H') : ExB2 d l H (upd H' l o) := fun b u h g q => by
  rw [upd_ne g]
  exact a b u h g q
theorem ExB2.kn {d l : Addr} {H H' : Hp} {xs ys : List V} (e : ExB2 d l H H') (h : H d = some (.lst xs)) (g : H l = some (.lst ys)) : KeepN H H' := fun b o n q => e b o (fun z => by
  subst z
  rw [h] at q
  exact n xs (Option.some.inj q).symm) (fun z => by
  subst z
  rw [g] at q
  exact n ys (Option.some.inj q).symm) q
/-- l new: all but d of what stood is kept -/
theorem ExB2.one {d l : Addr} {H0 H H' : Hp} (e : ExB2 d l H H') (e0 : Ex H0 H) (h : H0 l = none) : ExB d H0 H' := fun b o hb q => e b o hb (ne_of_none q h) (e0 b o q)
theorem ExB.mut {d p : Addr} {H H' : Hp} {o : HO} (e : ExB d H H') (h : H p = none) : ExB d H (L2.upd H' p o) := fun b u hb q => by
  rw [upd_ne (ne_of_none q h)]
  exact e b u hb q
theorem KeepN.lst {H H' : Hp} {p : Addr} {xs ys : List V} (e : KeepN H H') (h : H p = some (.lst xs)) : KeepN H (upd H' p (.lst ys)) := fun b o n q => by
  have hb : b ≠ p := fun z => by
    rw [z, h] at q
    exact n xs (Option.some.inj q).symm
  rw [upd_ne hb]
  exact e b o n q
section
variable {K : PySem.W.Frag} {σ : L2.St} {H H' : Hp} {ta tb tc te tv : TE} {x y z v : V} {r r' : R2} {t u : TT} {D : Ends} {tz : TS}
/-- a comprehension over a list of pairs, whose elements are made: R tells of each -/
theorem er_lst2X {a : Addr} {xs : List V} {tl : TE} {j k : Nat} {vs : List Nat} (A B : Nat → V) (R : Nat → V → Hp → Prop) (hR : ∀ i y H1 H2, KeepN H1 H2 → R i y H1 → R i y H2) (h : Ev tl σ H (.ref a)) (hx : SqL K H a xs) (hz : xs.length ≤ 40000)
    (hw : ∀ x y, wipe (((wipe σ vs).set j (some x)).set k (some y)) vs = wipe σ vs) (hp : ∀ (i : Nat) (x : V), xs[i]? = some x → ∃ p, x = .ref p ∧ SqT K H p [A i, B i])
    (he : ∀ (i : Nat) H1, Ex H H1 → i < xs.length → ∀ Q : VK, (∀ y H2, Ex H1 H2 → R i y H2 → Q y H2) → te (((wipe σ vs).set j (some (A i))).set k (some (B i))) H1 Q) :
    EvR (tLc (iList K tl) (gTup K 2 (gCons (gName j) (gCons (gName k) gNil))) tYes te vs) σ H fun p H2 => ∃ ys, H2 p = some (.lst ys) ∧ ys.length = xs.length ∧ ∀ i y, ys[i]? = some y → R i y H2 := by
  intro H0 e Q q
  refine h H0 e _ fun H1 e1 => ⟨a, rfl, ⟨xs, ex_l (e.trans e1) hx⟩, fun Dl hD => ?_⟩
  refine lc_list (xs := xs) (fun i H' => Ex H1 H' ∧ ∃ ys, H' Dl = some (.lst ys) ∧ ys.length = i ∧ ∀ j y, ys[j]? = some y → R j y H') ⟨Ex.new hD, [], upd_same, rfl, fun j y z => by simp at z⟩ (fun i H' _ p => ex_l ((e.trans e1).trans p.1) hx) (fun i x H' hi p => ?_)
    fun H' p => q Dl H' (fresh_back e1 hD) (e1.trans p.1) p.2
  obtain ⟨p1, ys, p2, p3, p4⟩ := p
  have hlt := (List.getElem?_eq_some_iff.mp hi).1
  obtain ⟨r, rfl, hr⟩ := hp i x hi
  refine ⟨_, _, rfl, ex_t ((e.trans e1).trans p1) hr, rfl, _, _, rfl, _, _, rfl, rfl, hw _ _, ?_⟩
  refine he i H' ((e.trans e1).trans p1) hlt _ fun y H4 e4 hy => ⟨ys, e4 _ _ p2, by rw [p3]; exact Evl.sz_lt (by omega), Ex.mut (p1.trans e4) hD, ys ++ [y], upd_same, by rw [List.length_append, p3]; rfl, fun j z hz => ?_⟩
  have kn : KeepN H4 (upd H4 Dl (.lst (ys ++ [y]))) := (KeepN.refl H4).lst (e4 _ _ p2)
  rcases Nat.lt_or_ge j ys.length with hj | hj
  · rw [List.getElem?_append_left hj] at hz
    exact hR j z _ _ ((KeepN.of e4).trans kn) (p4 j z hz)
  · rw [List.getElem?_append_right hj] at hz
    have : j - ys.length = 0 := by
      rcases Nat.eq_zero_or_pos (j - ys.length) with h | h
      · exact h
      · rw [List.getElem?_eq_none (by simp; omega)] at hz
        cases hz
    rw [this] at hz
    cases hz
    have : j = i := by omega
    subst this
    exact hR j y _ _ kn hy
/-- tuple(a new list) -/
theorem er_tuple {S : List V → Hp → Prop} (hS : ∀ ys H1 H2, KeepN H1 H2 → S ys H1 → S ys H2) (h : EvR ta σ H fun p H2 => ∃ ys, H2 p = some (.lst ys) ∧ S ys H2) :
    EvR (tCB (fun xs H Q => ∃ p ys, xs = [.ref p] ∧ ((SqL K H p ys ∧ ∀ l, H l = none → Q (.ref l) (upd H l (.tup ys))) ∨ (SqT K H p ys ∧ Q (.ref p) H))) (tCons ta tNil)) σ H fun p H2 => ∃ ys, H2 p = some (.tup ys) ∧ S ys H2 := fun H1 e Q q =>
  h H1 e _ fun p H2 hp e2 ⟨ys, h2, hs⟩ => ⟨p, ys, rfl, .inl ⟨sq_of h2, fun l hl => q l _ (fresh_back e2 hl) (e2.trans (Ex.new hl)) ⟨ys, upd_same, hS ys _ _ (KeepN.of (Ex.new hl)) hs⟩⟩⟩
theorem RawL.fn {xs : List V} {rows : Rows} (h : RawL K H xs rows) (d : Rl × Bool) : ∃ q : Nat → V, ∀ i x, xs[i]? = some x → ∃ p, x = .ref p ∧ SqT K H p [q i, .bl (rows.getD i d).2] ∧ RlAt K H (q i) (rows.getD i d).1 := by
  have : ∀ i, ∃ q : V, ∀ x, xs[i]? = some x → ∃ p, x = .ref p ∧ SqT K H p [q, .bl (rows.getD i d).2] ∧ RlAt K H q (rows.getD i d).1 := fun i => by
    cases e : xs[i]? with
    | none => exact ⟨.non, fun x hx => nomatch hx⟩
    | some y =>
      obtain ⟨r, hr, p, q, h0, h1, h2⟩ := h.get e
      refine ⟨q, fun x hx => ?_⟩
      cases hx
      have : rows.getD i d = r := by rw [List.getD_eq_getElem?_getD, hr]; rfl
      rw [this]
      exact ⟨p, h0, h1, h2⟩
  exact Classical.axiomOfChoice this
theorem rowsL_of {CF : Addr} (d : Rl × Bool) : ∀ {ys : List V} {rows : Rows}, ys.length = rows.length → (∀ i y, ys[i]? = some y → RowAt K CF H y (rows.getD i d)) → RowsL K CF H ys rows
  | [], [], _, _ => trivial
  | y :: ys, r :: rows, hl, h => ⟨h 0 y rfl, rowsL_of d (by simpa using hl) fun i y hy => h (i + 1) y hy⟩
  | [], _ :: _, hl, _ => by simp at hl
  | _ :: _, [], hl, _ => by simp at hl
end
/-- rows that may stand: bys 4 at most in all, each rule fit and of at most n parts -/
structure RowsOk (n : Nat) (rows : Rows) : Prop where
  bys : rowsBys rows ≤ 4
  fit : ∀ r ∈ rows, r.1.fit = true ∧ r.1.parts ≤ n
theorem bys_le : ∀ {rows : Rows} {r : Rl × Bool}, r ∈ rows → r.1.bys ≤ rowsBys rows
  | a :: rows, r, h => by
    unfold rowsBys
    rw [List.map_cons, List.sum_cons]
    rcases List.mem_cons.mp h with rfl | h
    · omega
    · have := bys_le h
      unfold rowsBys at this
      omega
theorem getD_mem {rows : Rows} {d : Rl × Bool} {i : Nat} (h : i < rows.length) : rows.getD i d ∈ rows := by
  rw [List.getD_eq_getElem?_getD, List.getElem?_eq_getElem h]
  exact List.getElem_mem h
theorem RowsOk.dep {n : Nat} {rows : Rows} (h : RowsOk n rows) (hn : n ≤ 5) : depMax rows < 5 := by
  have : ∀ rows : Rows, (∀ r ∈ rows, r.1.parts ≤ 5) → depMax rows < 5 := by
    intro rows
    induction rows with
    | nil => intro _; exact (by decide : 0 < 5)
    | cons r rows ih =>
      intro h
      have h1 := h r List.mem_cons_self
      have h2 := dep_parts r.1
      have h3 := ih fun r hr => h r (List.mem_cons_of_mem _ hr)
      show max r.1.dep (depMax rows) < 5
      omega
  exact this rows fun r hr => Nat.le_trans (h.fit r hr).2 hn
end WF

set_option Elab.async false
set_option linter.all false
set_option maxRecDepth 100000
/-! WForm: the plain law: how many days a round has. A day is seen by what lies near it. -/
namespace WF

/-! ### a rule told by what lies near a day: a: days that begin a week, u: a month; l: in a month's first days -/
def Rl.ev (a u l : Int → Bool) : Rl → Int → Bool
  | .wk k, j => a (j - k)
  | .fs k, j => a (j - k) && l j
  | .md k, j => u (j - k)
  | .bh r b, j => r.ev a u l (j - b)
  | .bo x y, j => x.ev a u l j && y.ev a u l j
  | .ei x y, j => x.ev a u l j || y.ev a u l j
  | .wo x y, j => x.ev a u l j && !y.ev a u l j
def addE (a u l : Int → Bool) (f : Int → Bool) (r : Rl × Bool) : Int → Bool := fun d =>
  f d || (r.1.ev a u l d && !(r.2 && f d)) || (r.2 && (r.1.ev a u l (d - 1) && f (d - 1)))
def calE (a u l : Int → Bool) (rows : Rows) : Int → Bool := rows.foldl (addE a u l) fun _ => false
def atZ (n d : Int) : Int → Bool := fun i => (d + i) % n == 0
def inW (w m d : Int) : Int → Bool := fun i => decide ((d + i) % m < w)
theorem mod_sub (n d k : Int) : (d % n == k % n) = ((d - k) % n == 0) := by
  rw [Bool.eq_iff_iff, beq_iff_eq, beq_iff_eq]
  exact Int.emod_eq_emod_iff_emod_sub_eq_zero
theorem ev_day (w m d : Int) : ∀ (r : Rl) (j : Int), r.day w m (d + j) = r.ev (atZ w d) (atZ m d) (inW w m d) j
  | .wk k, j => by
    show ((d + j) % w == k % w) = ((d + (j - k)) % w == 0)
    rw [mod_sub, show d + j - k = d + (j - k) by omega]
  | .fs k, j => by
    show ((d + j) % w == k % w && decide ((d + j) % m < w)) = ((d + (j - k)) % w == 0 && decide ((d + j) % m < w))
    rw [mod_sub, show d + j - k = d + (j - k) by omega]
  | .md k, j => by
    show ((d + j) % m == k % m) = ((d + (j - k)) % m == 0)
    rw [mod_sub, show d + j - k = d + (j - k) by omega]
  | .bh r b, j => by
    show r.day w m (d + j - b) = r.ev _ _ _ (j - b)
    rw [show d + j - b = d + (j - b) by omega]
    exact ev_day w m d r _
  | .bo x y, j => by
    show (x.day w m (d + j) && y.day w m (d + j)) = _
    rw [ev_day w m d x, ev_day w m d y]; rfl
  | .ei x y, j => by
    show (x.day w m (d + j) || y.day w m (d + j)) = _
    rw [ev_day w m d x, ev_day w m d y]; rfl
  | .wo x y, j => by
    show (x.day w m (d + j) && !y.day w m (d + j)) = _
    rw [ev_day w m d x, ev_day w m d y]; rfl
theorem fold_ev (w m d : Int) : ∀ (rows : Rows) (f g : Int → Bool), (∀ j, f (d + j) = g j) → ∀ j, rows.foldl (addRow w m) f (d + j) = rows.foldl (addE (atZ w d) (atZ m d) (inW w m d)) g j
  | [], _, _, h, j => h j
  | r :: rows, f, g, h, j => fold_ev w m d rows _ _ (fun j => by
      show (f (d + j) || (r.1.day w m (d + j) && !(r.2 && f (d + j))) || (r.2 && (r.1.day w m (d + j - 1) && f (d + j - 1)))) = (g j || (r.1.ev _ _ _ j && !(r.2 && g j)) || (r.2 && (r.1.ev _ _ _ (j - 1) && g (j - 1))))
      rw [show d + j - 1 = d + (j - 1) by omega, h j, h (j - 1), ev_day, ev_day]) j
theorem cal_ev (w m d : Int) (rows : Rows) : calDay w m rows d = calE (atZ w d) (atZ m d) (inW w m d) rows 0 := by
  have := fold_ev w m d rows (fun _ => false) (fun _ => false) (fun _ => rfl) 0
  rw [Int.add_zero] at this
  exact this

/-! ### what lies near is all that tells -/
def Ag (n : Nat) (a a' : Int → Bool) : Prop := ∀ j : Int, -(n : Int) ≤ j → j ≤ (n : Int) → a j = a' j
theorem ev_ag {a a' u u' l l' : Int → Bool} {n : Nat} (ha : Ag n a a') (hu : Ag n u u') (hl : Ag n l l') : ∀ (r : Rl) (k : Nat) (j : Int), r.fit = true → -(k : Int) ≤ j → j ≤ (k : Int) → k + 3 + r.bys ≤ n → r.ev a u l j = r.ev a' u' l' j
  | .wk c, k, j, hf, h1, h2, h3 => by
    have hc := of_decide_eq_true hf
    exact ha _ (by simp only [Rl.bys] at h3; omega) (by simp only [Rl.bys] at h3; omega)
  | .fs c, k, j, hf, h1, h2, h3 => by
    have hc := of_decide_eq_true hf
    simp only [Rl.bys] at h3
    show (a (j - c) && l j) = (a' (j - c) && l' j)
    rw [ha _ (by omega) (by omega), hl _ (by omega) (by omega)]
  | .md c, k, j, hf, h1, h2, h3 => by
    have hc := of_decide_eq_true hf
    exact hu _ (by simp only [Rl.bys] at h3; omega) (by simp only [Rl.bys] at h3; omega)
  | .bh r b, k, j, hf, h1, h2, h3 => by
    simp only [Rl.fit, Bool.and_eq_true] at hf
    simp only [Rl.bys] at h3
    exact ev_ag ha hu hl r (k + b.natAbs) (j - b) hf.2 (by omega) (by omega) (by omega)
  | .bo x y, k, j, hf, h1, h2, h3 => by
    simp only [Rl.fit, Bool.and_eq_true] at hf
    simp only [Rl.bys] at h3
    show (x.ev a u l j && y.ev a u l j) = (x.ev a' u' l' j && y.ev a' u' l' j)
    rw [ev_ag ha hu hl x k j hf.1 h1 h2 (by omega), ev_ag ha hu hl y k j hf.2 h1 h2 (by omega)]
  | .ei x y, k, j, hf, h1, h2, h3 => by
    simp only [Rl.fit, Bool.and_eq_true] at hf
    simp only [Rl.bys] at h3
    show (x.ev a u l j || y.ev a u l j) = (x.ev a' u' l' j || y.ev a' u' l' j)
    rw [ev_ag ha hu hl x k j hf.1 h1 h2 (by omega), ev_ag ha hu hl y k j hf.2 h1 h2 (by omega)]
  | .wo x y, k, j, hf, h1, h2, h3 => by
    simp only [Rl.fit, Bool.and_eq_true] at hf
    simp only [Rl.bys] at h3
    show (x.ev a u l j && !y.ev a u l j) = (x.ev a' u' l' j && !y.ev a' u' l' j)
    rw [ev_ag ha hu hl x k j hf.1 h1 h2 (by omega), ev_ag ha hu hl y k j hf.2 h1 h2 (by omega)]
def ysOf (rows : Rows) : Nat := (rows.filter fun r => r.2).length
theorem fold_ag {a a' u u' l l' : Int → Bool} {n : Nat} (ha : Ag n a a') (hu : Ag n u u') (hl : Ag n l l') : ∀ (rows : Rows) (f g : Int → Bool) (k : Nat), (∀ r ∈ rows, r.1.fit = true) → k + 3 + rowsBys rows + ysOf rows ≤ n →
    (∀ j : Int, -((k + ysOf rows : Nat) : Int) ≤ j → j ≤ ((k + ysOf rows : Nat) : Int) → f j = g j) → ∀ j : Int, -(k : Int) ≤ j → j ≤ (k : Int) → rows.foldl (addE a u l) f j = rows.foldl (addE a' u' l') g j
  | [], f, g, k, _, _, h, j, h1, h2 => h j (by show -((k + 0 : Nat) : Int) ≤ j; omega) (by show j ≤ ((k + 0 : Nat) : Int); omega)
  | r :: rows, f, g, k, hf, hn, h, j, h1, h2 => by
    have hb : rowsBys (r :: rows) = r.1.bys + rowsBys rows := by unfold rowsBys; rw [List.map_cons, List.sum_cons]
    have hy : ysOf (r :: rows) = (if r.2 = true then 1 else 0) + ysOf rows := by
      unfold ysOf
      rw [List.filter_cons]
      split
      · rw [List.length_cons, Nat.add_comm]
      · rw [Nat.zero_add]
    rw [hb, hy] at hn
    rw [hy] at h
    refine fold_ag ha hu hl rows _ _ k (fun q hq => hf q (List.mem_cons_of_mem _ hq)) (by omega) (fun i g1 g2 => ?_) j h1 h2
    have e1 := ev_ag ha hu hl r.1 (k + ysOf rows) i (hf r List.mem_cons_self) g1 g2 (by omega)
    show (f i || (r.1.ev a u l i && !(r.2 && f i)) || (r.2 && (r.1.ev a u l (i - 1) && f (i - 1)))) = (g i || (r.1.ev a' u' l' i && !(r.2 && g i)) || (r.2 && (r.1.ev a' u' l' (i - 1) && g (i - 1))))
    rw [e1, h i (by omega) (by omega)]
    by_cases hr : r.2 = true
    · rw [if_pos hr] at hn h
      rw [ev_ag ha hu hl r.1 (k + ysOf rows + 1) (i - 1) (hf r List.mem_cons_self) (by omega) (by omega) (by omega), h (i - 1) (by omega) (by omega)]
    · have hr' : r.2 = false := by simpa using hr
      rw [hr']; rfl
theorem cal_ag {a a' u u' l l' : Int → Bool} {rows : Rows} (hf : ∀ r ∈ rows, r.1.fit = true) (ha : Ag (reachOf rows) a a') (hu : Ag (reachOf rows) u u') (hl : Ag (reachOf rows) l l') : calE a u l rows 0 = calE a' u' l' rows 0 :=
  fold_ag ha hu hl rows _ _ 0 hf (by unfold reachOf ysOf; omega) (fun _ _ _ => rfl) 0 (by omega) (by omega)
/-- far from the begin of a week and of a month there is no day -/
theorem ev_far (l : Int → Bool) : ∀ (r : Rl) (j : Int), r.ev (fun _ => false) (fun _ => false) l j = false
  | .wk _, _ => rfl
  | .fs _, _ => rfl
  | .md _, _ => rfl
  | .bh r b, j => ev_far l r _
  | .bo x y, j => by show (x.ev _ _ l j && y.ev _ _ l j) = _; rw [ev_far l x]; rfl
  | .ei x y, j => by show (x.ev _ _ l j || y.ev _ _ l j) = _; rw [ev_far l x, ev_far l y]; rfl
  | .wo x y, j => by show (x.ev _ _ l j && !y.ev _ _ l j) = _; rw [ev_far l x]; rfl
theorem fold_far (l : Int → Bool) : ∀ (rows : Rows) (f : Int → Bool), (∀ j, f j = false) → ∀ j, rows.foldl (addE (fun _ => false) (fun _ => false) l) f j = false
  | [], _, h, j => h j
  | r :: rows, f, h, j => fold_far l rows _ (fun j => by
      show (f j || (r.1.ev _ _ l j && !(r.2 && f j)) || (r.2 && (r.1.ev _ _ l (j - 1) && f (j - 1)))) = false
      rw [ev_far, ev_far, h]; simp) j
theorem cal_far (l : Int → Bool) (rows : Rows) : calE (fun _ => false) (fun _ => false) l rows 0 = false := fold_far l rows _ (fun _ => rfl) 0

/-! ### sums -/
def sm : Nat → (Int → Nat) → Nat
  | 0, _ => 0
  | n + 1, f => sm n f + f (n : Int)
theorem sm_congr : ∀ (n : Nat) {f g : Int → Nat}, (∀ i : Nat, i < n → f (i : Int) = g (i : Int)) → sm n f = sm n g
  | 0, _, _, _ => rfl
  | n + 1, f, g, h => by
    show sm n f + f n = sm n g + g n
    rw [sm_congr n fun i hi => h i (Nat.lt_succ_of_lt hi), h n (Nat.lt_succ_self n)]
theorem sm_plus : ∀ (n : Nat) (f g : Int → Nat), sm n (fun i => f i + g i) = sm n f + sm n g
  | 0, _, _ => rfl
  | n + 1, f, g => by
    show sm n (fun i => f i + g i) + (f n + g n) = sm n f + f n + (sm n g + g n)
    rw [sm_plus n f g]; omega
theorem sm_mulc : ∀ (n c : Nat) (f : Int → Nat), sm n (fun i => c * f i) = c * sm n f
  | 0, _, _ => rfl
  | n + 1, c, f => by
    show sm n (fun i => c * f i) + c * f n = c * (sm n f + f n)
    rw [sm_mulc n c f, Nat.mul_add]
theorem sm_const : ∀ (n c : Nat) {f : Int → Nat}, (∀ i : Nat, i < n → f (i : Int) = c) → sm n f = n * c
  | 0, c, _, _ => by rw [Nat.zero_mul]; rfl
  | n + 1, c, f, h => by
    show sm n f + f n = (n + 1) * c
    rw [sm_const n c fun i hi => h i (Nat.lt_succ_of_lt hi), h n (Nat.lt_succ_self n), Nat.add_mul, Nat.one_mul]
theorem sm_add (n : Nat) (f : Int → Nat) : ∀ k : Nat, sm (n + k) f = sm n f + sm k fun i => f ((n : Int) + i)
  | 0 => rfl
  | k + 1 => by
    show sm (n + k) f + f ((n + k : Nat) : Int) = sm n f + (sm k (fun i => f ((n : Int) + i)) + f ((n : Int) + (k : Int)))
    rw [sm_add n f k, Int.natCast_add]; omega
theorem sm_mul (m : Nat) (f : Int → Nat) : ∀ n : Nat, sm (m * n) f = sm n fun t => sm m fun b => f ((m : Int) * t + b)
  | 0 => rfl
  | n + 1 => by
    rw [Nat.mul_add, Nat.mul_one, sm_add, sm_mul m f n]
    show _ = sm n _ + sm m _
    rw [Int.natCast_mul]
theorem sm_comm (m : Nat) (f : Int → Int → Nat) : ∀ n : Nat, sm n (fun t => sm m (f t)) = sm m fun b => sm n fun t => f t b
  | 0 => by
    have : sm m (fun b => sm 0 fun t => f t b) = m * 0 := sm_const m 0 fun _ _ => rfl
    rw [this]; rfl
  | n + 1 => by
    show sm n (fun t => sm m (f t)) + sm m (f n) = sm m fun b => sm n (fun t => f t b) + f n b
    rw [sm_comm m f n, sm_plus]
theorem sm_turn1 {n : Nat} {f : Int → Nat} (h : f (n : Int) = f 0) : sm n (fun i => f (i + 1)) = sm n f := by
  have h1 : sm (1 + n) f = sm 1 f + sm n fun i => f (((1 : Nat) : Int) + i) := sm_add 1 f n
  have h2 : sm (n + 1) f = sm n f + f n := rfl
  rw [Nat.add_comm, h2] at h1
  have h3 : sm 1 f = f 0 := by show 0 + f ((0 : Nat) : Int) = f 0; rw [Nat.zero_add]; rfl
  rw [h3, h] at h1
  have h4 : (fun i => f (((1 : Nat) : Int) + i)) = fun i => f (i + 1) := by
    funext i
    rw [Int.add_comm]; rfl
  rw [h4] at h1
  omega
theorem sm_turn {n : Nat} : ∀ (k : Nat) {f : Int → Nat}, (∀ i, f (i + n) = f i) → sm n (fun i => f (i - k)) = sm n f
  | 0, f, _ => by simp
  | k + 1, f, h => by
    have h1 := sm_turn1 (n := n) (f := fun i => f (i - ((k + 1 : Nat) : Int))) (by
      show f ((n : Int) - ((k + 1 : Nat) : Int)) = f (0 - ((k + 1 : Nat) : Int))
      rw [show (n : Int) - ((k + 1 : Nat) : Int) = (0 - ((k + 1 : Nat) : Int)) + (n : Int) by omega, h])
    rw [← h1, ← sm_turn k h]
    refine sm_congr n fun i _ => ?_
    show f ((i : Int) + 1 - ((k + 1 : Nat) : Int)) = f ((i : Int) - (k : Int))
    rw [show (i : Int) + 1 - ((k + 1 : Nat) : Int) = (i : Int) - (k : Int) by omega]
theorem sm_list (n : Nat) (f : Int → Nat) : sm n f = ((List.range n).map fun (i : Nat) => f (i : Int)).sum := by
  induction n with
  | zero => rfl
  | succ n ih => rw [List.range_succ, List.map_append, List.sum_append, ← ih]; rfl
theorem nodup_le : ∀ {l l' : List Nat}, l.Nodup → (∀ x, x ∈ l → x ∈ l') → l.length ≤ l'.length
  | [], _, _, _ => Nat.zero_le _
  | a :: l, l', h, hs => by
    have hn := List.nodup_cons.mp h
    have h1 := nodup_le (l' := l'.erase a) hn.2 fun x hx => (List.mem_erase_of_ne (fun q => hn.1 (by rw [← q]; exact hx))).mpr (hs x (List.mem_cons_of_mem _ hx))
    have h2 := List.length_erase_of_mem (hs a List.mem_cons_self)
    have h3 := List.length_pos_of_mem (hs a List.mem_cons_self)
    rw [List.length_cons]; omega
theorem nodup_all {l : List Nat} {n : Nat} (h : l.Nodup) (hs : ∀ x, x ∈ l → x < n) (hl : l.length = n) (x : Nat) (hx : x < n) : x ∈ l := by
  apply Classical.byContradiction
  intro hn
  have := nodup_le (l := x :: l) (l' := List.range n) (List.nodup_cons.mpr ⟨hn, h⟩) fun y hy => by
    rcases List.mem_cons.mp hy with rfl | hy
    · exact List.mem_range.mpr hx
    · exact List.mem_range.mpr (hs y hy)
  rw [List.length_cons, List.length_range] at this
  omega
def bi (b : Bool) : Nat := if b then 1 else 0
theorem days_sm (p : Int → Bool) : ∀ n : Nat, (daysN n p).length = sm n fun d => bi (p d)
  | 0 => rfl
  | n + 1 => by
    rw [daysN_succ, List.length_append, days_sm p n]
    show _ = _ + bi (p n)
    unfold bi
    split <;> rfl
/-- the days of the months that begin a week: each once -/
theorem step_perm {w m : Nat} (hw : 0 < w) (hg : Nat.gcd m w = 1) (b : Int) (g : Int → Nat) : sm w (fun t => g (((m : Int) * t + b) % (w : Int))) = sm w g := by
  rw [sm_list, sm_list]
  have hr : ∀ t : Nat, ((((((m : Int) * (t : Int) + b) % (w : Int)).toNat : Nat)) : Int) = ((m : Int) * (t : Int) + b) % (w : Int) := fun t => Int.toNat_of_nonneg (Int.emod_nonneg _ (by omega))
  have e : ((List.range w).map fun (t : Nat) => g (((m : Int) * (t : Int) + b) % (w : Int))) = ((List.range w).map fun (t : Nat) => (((m : Int) * (t : Int) + b) % (w : Int)).toNat).map fun (i : Nat) => g (i : Int) := by
    rw [List.map_map]
    refine List.map_congr_left fun t _ => ?_
    show _ = g _
    rw [hr]
  have inj : ∀ s t : Nat, s < t → t < w → (((m : Int) * (s : Int) + b) % (w : Int)).toNat ≠ (((m : Int) * (t : Int) + b) % (w : Int)).toNat := fun s t h1 h2 q => by
    have q2 : ((m : Int) * (s : Int) + b) % (w : Int) = ((m : Int) * (t : Int) + b) % (w : Int) := by
      have z1 := hr s
      have z2 := hr t
      rw [q] at z1
      exact z1.symm.trans z2
    have q4 : ((m : Int) * (t : Int) + b - ((m : Int) * (s : Int) + b)) % (w : Int) = 0 := Int.emod_eq_emod_iff_emod_sub_eq_zero.mp q2.symm
    have q5 : (m : Int) * (t : Int) + b - ((m : Int) * (s : Int) + b) = ((m * (t - s) : Nat) : Int) := by
      rw [Int.natCast_mul, Int.natCast_sub (Nat.le_of_lt h1), Int.mul_sub]; omega
    rw [q5, ← Int.natCast_emod] at q4
    have q6 : w ∣ m * (t - s) := Nat.dvd_of_mod_eq_zero (by omega)
    have q7 : w ∣ t - s := Nat.Coprime.dvd_of_dvd_mul_left (by rw [Nat.coprime_iff_gcd_eq_one, Nat.gcd_comm]; exact hg) q6
    have := Nat.le_of_dvd (by omega) q7
    omega
  have nd : ((List.range w).map fun (t : Nat) => (((m : Int) * (t : Int) + b) % (w : Int)).toNat).Nodup := by
    show List.Pairwise _ _
    rw [List.pairwise_map]
    refine List.Pairwise.imp_of_mem (fun {s t} hs ht hst => inj s t hst (List.mem_range.mp ht)) List.pairwise_lt_range
  have sub : ∀ x, x ∈ ((List.range w).map fun (t : Nat) => (((m : Int) * (t : Int) + b) % (w : Int)).toNat) → x ∈ List.range w := fun x hx => by
    obtain ⟨t, _, rfl⟩ := List.mem_map.mp hx
    have := Int.emod_lt_of_pos ((m : Int) * (t : Int) + b) (show (0 : Int) < (w : Int) by omega)
    have := hr t
    rw [List.mem_range]; omega
  have perm : ((List.range w).map fun (t : Nat) => (((m : Int) * (t : Int) + b) % (w : Int)).toNat).Perm (List.range w) := by
    refine (List.perm_ext_iff_of_nodup nd List.nodup_range).mpr fun x => ⟨sub x, fun hx => ?_⟩
    exact nodup_all nd (fun y hy => List.mem_range.mp (sub y hy)) (by rw [List.length_map, List.length_range]) x (List.mem_range.mp hx)
  rw [e]
  exact (perm.map _).sum_nat
/-- a round's days, as pairs -/
theorem round_sm {w m : Nat} (hw : 0 < w) (hm : 0 < m) (hg : Nat.gcd m w = 1) (P : Int → Int → Nat) : sm (w * m) (fun d => P (d % (w : Int)) (d % (m : Int))) = sm w fun a => sm m fun b => P a b := by
  rw [Nat.mul_comm, sm_mul, sm_comm]
  have : ∀ b : Nat, b < m → sm w (fun t => P (((m : Int) * t + (b : Int)) % (w : Int)) (((m : Int) * t + (b : Int)) % (m : Int))) = sm w fun a => P a (b : Int) := fun b hb => by
    rw [← step_perm hw hg (b : Int) fun a => P a (b : Int)]
    refine sm_congr w fun t _ => ?_
    have e : ((m : Int) * (t : Int) + (b : Int)) % (m : Int) = (b : Int) := by
      rw [Int.add_comm, Int.add_mul_emod_self_left, Int.emod_eq_of_lt (by omega) (by omega)]
    rw [e]
  rw [sm_congr m (g := fun b => sm w fun a => P a b) this, sm_comm]

/-! ### the number of days of a great land's round -/
def pAt (rows : Rows) (w m : Int) (a b : Int) : Nat := bi (calE (atZ w a) (atZ m b) (inW w m b) rows 0)
theorem atZ_mod (n d : Int) : atZ n (d % n) = atZ n d := by
  funext i
  show ((d % n + i) % n == 0) = ((d + i) % n == 0)
  rw [Int.emod_add_emod]
theorem inW_mod (w n d : Int) : inW w n (d % n) = inW w n d := by
  funext i
  show decide ((d % n + i) % n < w) = decide ((d + i) % n < w)
  rw [Int.emod_add_emod]
theorem atZ_per (n d : Int) : atZ n (d + n) = atZ n d := by rw [← atZ_mod, Int.add_emod_right, atZ_mod]
theorem inW_per (w n d : Int) : inW w n (d + n) = inW w n d := by rw [← inW_mod, Int.add_emod_right, inW_mod]
theorem mod_in {n x : Int} (h : 0 < n) (h1 : -n < x) (h2 : x < n) : (x % n == 0) = (x == 0) := by
  rw [Bool.eq_iff_iff, beq_iff_eq, beq_iff_eq]
  refine ⟨fun h3 => ?_, fun h3 => by rw [h3]; exact Int.zero_emod n⟩
  have := Int.emod_add_mul_ediv x n
  rw [h3] at this
  rcases Int.lt_trichotomy (x / n) 0 with q | q | q
  · have : n * (x / n) ≤ n * (-1) := Int.mul_le_mul_of_nonneg_left (by omega) (by omega)
    omega
  · rw [q, Int.mul_zero] at this; omega
  · have : n * 1 ≤ n * (x / n) := Int.mul_le_mul_of_nonneg_left (by omega) (by omega)
    omega
theorem mod_low {n x : Int} (h1 : 0 ≤ x) (h2 : x < n) : x % n = x := Int.emod_eq_of_lt h1 h2
theorem mod_up {n x : Int} (h1 : -n ≤ x) (h2 : x < 0) : x % n = x + n := by
  rw [← Int.add_emod_right, Int.emod_eq_of_lt (by omega) (by omega)]
/-- how many days: three numbers tell of all great lands -/
theorem count_form (rows : Rows) (hf : ∀ r ∈ rows, r.1.fit = true) : ∃ C X Y : Nat, ∀ u v w m : Nat, w = 2 * reachOf rows + 1 + u → m = w + (2 * reachOf rows + 1) + v → Nat.gcd m w = 1 →
    (daysN (w * m) (calDay (w : Int) (m : Int) rows)).length = C + u * X + v * Y := by
  generalize hR : reachOf rows = R
  let z : Nat → Int → Bool := fun i x => (i : Int) - (R : Int) + x == 0
  let lo : Nat → Int → Bool := fun j x => decide (0 ≤ (j : Int) - (R : Int) + x)
  let hi : Nat → Int → Bool := fun j x => decide ((j : Int) - (R : Int) + x < 0)
  let no : Int → Bool := fun _ => false
  let ye : Int → Bool := fun _ => true
  let S0 : Int → Nat := fun i => sm (2 * R + 1) fun j => bi (calE (z i.toNat) (z j.toNat) (lo j.toNat) rows 0)
  let SL : Int → Nat := fun i => bi (calE (z i.toNat) no ye rows 0)
  let SW : Int → Nat := fun i => sm (2 * R + 1) fun j => bi (calE (z i.toNat) no (hi j.toNat) rows 0)
  let SH : Int → Nat := fun i => bi (calE (z i.toNat) no no rows 0)
  let SF : Nat := sm (2 * R + 1) fun j => bi (calE no (z j.toNat) (lo j.toNat) rows 0)
  refine ⟨sm (2 * R + 1) S0 + sm (2 * R + 1) SW, sm (2 * R + 1) SL + SF, sm (2 * R + 1) SH, fun u v w m hw hm hg => ?_⟩
  have hag : ∀ {a a' u u' l l' : Int → Bool}, Ag R a a' → Ag R u u' → Ag R l l' → bi (calE a u l rows 0) = bi (calE a' u' l' rows 0) := fun h1 h2 h3 => by
    rw [cal_ag hf (by rw [hR]; exact h1) (by rw [hR]; exact h2) (by rw [hR]; exact h3)]
  have hw0 : 0 < w := by omega
  have hm0 : 0 < m := by omega
  -- weeks
  have aN : ∀ i : Nat, i < 2 * R + 1 → Ag R (atZ w ((i : Int) - (R : Int))) (z i) := fun i hi j h1 h2 => by
    show (((i : Int) - (R : Int) + j) % (w : Int) == 0) = ((i : Int) - (R : Int) + j == 0)
    exact mod_in (by omega) (by omega) (by omega)
  have aF : ∀ i : Nat, i < u → Ag R (atZ w (((2 * R + 1 : Nat) : Int) + (i : Int) - (R : Int))) no := fun i hi j h1 h2 => by
    show ((((2 * R + 1 : Nat) : Int) + (i : Int) - (R : Int) + j) % (w : Int) == 0) = false
    rw [mod_low (by omega) (by omega), beq_eq_false_iff_ne]; omega
  -- months
  have uN : ∀ i : Nat, i < 2 * R + 1 → Ag R (atZ m ((i : Int) - (R : Int))) (z i) := fun i hi j h1 h2 => by
    show (((i : Int) - (R : Int) + j) % (m : Int) == 0) = ((i : Int) - (R : Int) + j == 0)
    exact mod_in (by omega) (by omega) (by omega)
  have uF : ∀ i : Nat, 2 * R + 1 ≤ i → i < m → Ag R (atZ m ((i : Int) - (R : Int))) no := fun i hi hi2 j h1 h2 => by
    show (((i : Int) - (R : Int) + j) % (m : Int) == 0) = false
    rw [mod_low (by omega) (by omega), beq_eq_false_iff_ne]; omega
  have lN : ∀ i : Nat, i < 2 * R + 1 → Ag R (inW w m ((i : Int) - (R : Int))) (lo i) := fun i hi j h1 h2 => by
    show decide (((i : Int) - (R : Int) + j) % (m : Int) < (w : Int)) = decide (0 ≤ (i : Int) - (R : Int) + j)
    by_cases h : 0 ≤ (i : Int) - (R : Int) + j
    · rw [decide_eq_true h, mod_low h (by omega), decide_eq_true (by omega)]
    · rw [decide_eq_false h, mod_up (by omega) (by omega), decide_eq_false (by omega)]
  have lL : ∀ i : Nat, i < u → Ag R (inW w m (((2 * R + 1 + i : Nat) : Int) - (R : Int))) ye := fun i hi j h1 h2 => by
    show decide ((((2 * R + 1 + i : Nat) : Int) - (R : Int) + j) % (m : Int) < (w : Int)) = true
    rw [mod_low (by omega) (by omega), decide_eq_true (by omega)]
  have lW : ∀ i : Nat, i < 2 * R + 1 → Ag R (inW w m (((2 * R + 1 + u + i : Nat) : Int) - (R : Int))) (hi i) := fun i hi j h1 h2 => by
    show decide ((((2 * R + 1 + u + i : Nat) : Int) - (R : Int) + j) % (m : Int) < (w : Int)) = decide ((i : Int) - (R : Int) + j < 0)
    rw [mod_low (by omega) (by omega), decide_eq_decide]; omega
  have lH : ∀ i : Nat, i < v → Ag R (inW w m (((2 * R + 1 + u + (2 * R + 1) + i : Nat) : Int) - (R : Int))) no := fun i hi j h1 h2 => by
    show decide ((((2 * R + 1 + u + (2 * R + 1) + i : Nat) : Int) - (R : Int) + j) % (m : Int) < (w : Int)) = false
    rw [mod_low (by omega) (by omega), decide_eq_false (by omega)]
  -- the round
  have e1 : (daysN (w * m) (calDay (w : Int) (m : Int) rows)).length = sm w fun a => sm m fun b => pAt rows w m (a - (R : Int)) (b - (R : Int)) := by
    rw [days_sm, sm_congr (w * m) (g := fun d => pAt rows w m (d % (w : Int)) (d % (m : Int))) fun d _ => by
      show bi (calDay (w : Int) (m : Int) rows (d : Int)) = bi (calE (atZ w ((d : Int) % (w : Int))) (atZ m ((d : Int) % (m : Int))) (inW w m ((d : Int) % (m : Int))) rows 0)
      rw [cal_ev, atZ_mod, atZ_mod, inW_mod]]
    rw [round_sm hw0 hm0 hg]
    rw [← sm_turn (n := w) R (f := fun a => sm m fun b => pAt rows w m a b) fun a => by
      refine sm_congr m fun b _ => ?_
      show bi (calE (atZ w (a + w)) _ _ rows 0) = bi (calE (atZ w a) _ _ rows 0)
      rw [atZ_per]]
    refine sm_congr w fun a _ => ?_
    rw [← sm_turn (n := m) R (f := fun b => pAt rows w m ((a : Int) - (R : Int)) b) fun b => by
      show bi (calE _ (atZ m (b + m)) (inW w m (b + m)) rows 0) = bi (calE _ (atZ m b) (inW w m b) rows 0)
      rw [atZ_per, inW_per]]
  -- a month
  have e2 : ∀ (M : Nat) (A : Int) (a : Int → Bool), M = m → Ag R (atZ w A) a → sm M (fun b => pAt rows w m A (b - (R : Int))) =
      sm (2 * R + 1) (fun j => bi (calE a (z j.toNat) (lo j.toNat) rows 0)) + u * bi (calE a no ye rows 0) + sm (2 * R + 1) (fun j => bi (calE a no (hi j.toNat) rows 0)) + v * bi (calE a no no rows 0) := fun M A a hM hA => by
    have hm' : M = (2 * R + 1) + u + (2 * R + 1) + v := by omega
    rw [hm', sm_add, sm_add, sm_add]
    congr 1
    · congr 1
      · congr 1
        · exact sm_congr _ fun j hj => hag hA (uN j hj) (lN j hj)
        · refine sm_const _ _ fun j hj => ?_
          have := hag hA (uF (2 * R + 1 + j) (by omega) (by omega)) (lL j hj)
          rw [Int.natCast_add] at this
          exact this
      · refine sm_congr _ fun j hj => ?_
        have := hag hA (uF (2 * R + 1 + u + j) (by omega) (by omega)) (lW j hj)
        rw [Int.natCast_add] at this
        exact this
    · refine sm_const _ _ fun j hj => ?_
      have := hag hA (uF (2 * R + 1 + u + (2 * R + 1) + j) (by omega) (by omega)) (lH j hj)
      rw [Int.natCast_add] at this
      exact this
  have far : ∀ l, bi (calE no no l rows 0) = 0 := fun l => by rw [show calE no no l rows 0 = false from cal_far l rows]; rfl
  have e3 : sm (2 * R + 1) (fun a => sm m fun b => pAt rows w m (a - (R : Int)) (b - (R : Int))) = sm (2 * R + 1) S0 + u * sm (2 * R + 1) SL + sm (2 * R + 1) SW + v * sm (2 * R + 1) SH := by
    rw [← sm_mulc, ← sm_mulc, ← sm_plus, ← sm_plus, ← sm_plus]
    exact sm_congr _ fun i hi => e2 _ _ _ rfl (aN i hi)
  have e4 : sm u (fun a => sm m fun b => pAt rows w m (((2 * R + 1 : Nat) : Int) + a - (R : Int)) (b - (R : Int))) = u * SF := by
    refine sm_const _ _ fun i hiu => ?_
    have z0 : sm (2 * R + 1) (fun j => bi (calE no no (hi j.toNat) rows 0)) = 0 := (sm_const (2 * R + 1) 0 fun _ _ => far _).trans (Nat.mul_zero _)
    rw [e2 _ _ _ rfl (aF i hiu), far, far, z0, Nat.mul_zero, Nat.mul_zero]
    rfl
  have e5 : ∀ W : Nat, W = w → sm W (fun a => sm m fun b => pAt rows w m (a - (R : Int)) (b - (R : Int))) = sm (2 * R + 1) S0 + u * sm (2 * R + 1) SL + sm (2 * R + 1) SW + v * sm (2 * R + 1) SH + u * SF := fun W hW => by
    rw [show W = 2 * R + 1 + u by omega, sm_add, e3, e4]
  rw [e1, e5 w rfl, Nat.mul_add]
  omega
/-! ### the three numbers -/
def lenN (rows : Rows) (w m : Nat) : Nat := (daysN (w * m) (calDay (w : Int) (m : Int) rows)).length
def FormOk (rows : Rows) (a b c : Int) : Prop := ∀ w m : Nat, 2 * reachOf rows + 1 ≤ w → w + (2 * reachOf rows + 1) ≤ m → Nat.gcd m w = 1 → ((lenN rows w m : Nat) : Int) = a * (m : Int) + b * (w : Int) + c
theorem gcd_k1 (k w : Nat) : Nat.gcd (k * w + 1) w = 1 := by
  have h1 := Nat.gcd_dvd_left (k * w + 1) w
  have h2 := Nat.gcd_dvd_right (k * w + 1) w
  have h3 : Nat.gcd (k * w + 1) w ∣ k * w := Nat.dvd_trans h2 (Nat.dvd_mul_left w k)
  exact Nat.dvd_one.mp ((Nat.dvd_add_right h3).mp h1)
theorem form_ok {rows : Rows} {r : Nat} (hf : ∀ q ∈ rows, q.1.fit = true) (hr : reachOf rows = r) : ∃ a b : Int,
    ((lenN rows (4 * r + 1) (3 * (4 * r + 1) + 1) : Nat) : Int) - ((lenN rows (4 * r + 1) (2 * (4 * r + 1) + 1) : Nat) : Int) = ((4 * r + 1 : Nat) : Int) * a ∧
    ((lenN rows (4 * r + 1 + 1) (2 * (4 * r + 1) + 3) : Nat) : Int) - ((lenN rows (4 * r + 1) (2 * (4 * r + 1) + 1) : Nat) : Int) - 2 * a = b ∧
    FormOk rows a b (((lenN rows (4 * r + 1) (2 * (4 * r + 1) + 1) : Nat) : Int) - a * (2 * ((4 * r + 1 : Nat) : Int) + 1) - b * ((4 * r + 1 : Nat) : Int)) := by
  obtain ⟨C, X, Y, h⟩ := count_form rows hf
  rw [hr] at h
  have h0 : lenN rows (4 * r + 1) (2 * (4 * r + 1) + 1) = _ := h (2 * r) (2 * r + 1) _ _ (by omega) (by omega) (gcd_k1 2 _)
  have h1 : lenN rows (4 * r + 1) (3 * (4 * r + 1) + 1) = _ := h (2 * r) (6 * r + 2) _ _ (by omega) (by omega) (gcd_k1 3 _)
  have h2 : lenN rows (4 * r + 1 + 1) (2 * (4 * r + 1) + 3) = _ := h (2 * r + 1) (2 * r + 2) _ _ (by omega) (by omega) (by
    have := gcd_k1 2 (4 * r + 1 + 1)
    rw [show 2 * (4 * r + 1) + 3 = 2 * (4 * r + 1 + 1) + 1 by omega]
    exact this)
  rw [h0, h1, h2]
  refine ⟨(Y : Int), (X : Int) - (Y : Int), ?_, ?_, fun w m hw hm hg => ?_⟩
  · simp only [Int.natCast_add, Int.natCast_mul]
    grind
  · simp only [Int.natCast_add, Int.natCast_mul]
    grind
  · obtain ⟨u, rfl⟩ : ∃ u, w = 2 * r + 1 + u := ⟨w - (2 * r + 1), by rw [hr] at hw; omega⟩
    obtain ⟨v, rfl⟩ : ∃ v, m = 2 * r + 1 + u + (2 * r + 1) + v := ⟨m - (2 * r + 1 + u + (2 * r + 1)), by rw [hr] at hm; omega⟩
    have h3 : lenN rows (2 * r + 1 + u) (2 * r + 1 + u + (2 * r + 1) + v) = _ := h u v _ _ rfl rfl hg
    rw [h3]
    simp only [Int.natCast_add, Int.natCast_mul, Int.add_mul, Int.mul_add, Int.sub_mul, Nat.add_mul, Nat.mul_assoc]
    have e1 : (Y : Int) * (r : Int) = (r : Int) * (Y : Int) := Int.mul_comm _ _
    have e2 : (X : Int) * (r : Int) = (r : Int) * (X : Int) := Int.mul_comm _ _
    have e3 : (Y : Int) * (u : Int) = (u : Int) * (Y : Int) := Int.mul_comm _ _
    have e4 : (X : Int) * (u : Int) = (u : Int) * (X : Int) := Int.mul_comm _ _
    have e5 : (Y : Int) * (v : Int) = (v : Int) * (Y : Int) := Int.mul_comm _ _
    grind
end WF

set_option Elab.async false
set_option linter.all false
set_option maxRecDepth 100000
set_option maxHeartbeats 2000000
/-! WDict: comprehensions whose elements are made, over anything; dicts whose keys are days -/
namespace WF
open PySem L2 Evl
/-! ### comprehensions, once for all that is walked -/
def Sel (f : Nat → Bool) (R : Nat → V → Hp → Prop) (n : Nat) (ys : List V) (H : Hp) : Prop := ys.length = ((List.range n).filter f).length ∧ ∀ (k i : Nat) (y : V), ((List.range n).filter f)[k]? = some i → ys[k]? = some y → R i y H
theorem sel_yes {f : Nat → Bool} {R : Nat → V → Hp → Prop} {n : Nat} {ys : List V} {H H' : Hp} {y : V} (hR : ∀ i y H1 H2, KeepN H1 H2 → R i y H1 → R i y H2) (h : Sel f R n ys H) (hf : f n = true) (e : KeepN H H') (hy : R n y H') : Sel f R (n + 1) (ys ++ [y]) H' := by
  have hr : (List.range (n + 1)).filter f = (List.range n).filter f ++ [n] := by
    rw [List.range_succ, List.filter_append, List.filter_cons, if_pos hf]
    rfl
  refine ⟨by rw [hr, List.length_append, List.length_append, h.1]; rfl, fun k i z hk hz => ?_⟩
  rw [hr] at hk
  rcases Nat.lt_or_ge k ys.length with hlt | hge
  · rw [List.getElem?_append_left (by rw [← h.1]; exact hlt)] at hk
    rw [List.getElem?_append_left hlt] at hz
    exact hR i z _ _ e (h.2 k i z hk hz)
  · rw [List.getElem?_append_right (by rw [← h.1]; exact hge)] at hk
    rw [List.getElem?_append_right hge] at hz
    rw [← h.1] at hk
    have h0 : k - ys.length = 0 := by
      rcases Nat.eq_zero_or_pos (k - ys.length) with q | q
      · exact q
      · rw [List.getElem?_eq_none (by simp; omega)] at hz
        cases hz
    rw [h0] at hk hz
    cases hk
    cases hz
    exact hy
theorem sel_no {f : Nat → Bool} {R : Nat → V → Hp → Prop} {n : Nat} {ys : List V} {H H' : Hp} (hR : ∀ i y H1 H2, KeepN H1 H2 → R i y H1 → R i y H2) (h : Sel f R n ys H) (hf : f n = false) (e : KeepN H H') : Sel f R (n + 1) ys H' := by
  have hr : (List.range (n + 1)).filter f = (List.range n).filter f := by
    rw [List.range_succ, List.filter_append, List.filter_cons, if_neg (by rw [hf]; exact Bool.false_ne_true)]
    exact List.append_nil _
  unfold Sel
  rw [hr]
  exact ⟨h.1, fun k i z hk hz => hR i z _ _ e (h.2 k i z hk hz)⟩
theorem lcX {J : It} {n : Nat} {G : Hp → Prop} {X : Nat → V} (wk : Walk J n G (YFn X)) {σ : L2.St} {H1 : Hp} {j : Nat} {vs : List Nat} {tt : TT} {te : TE} (f : Nat → Bool) (R : Nat → V → Hp → Prop) (hR : ∀ i y H1 H2, KeepN H1 H2 → R i y H1 → R i y H2) (hG : ∀ H', Ex H1 H' → G H') (hn : n ≤ 40000)
    (hw : ∀ x, wipe ((wipe σ vs).set j (some x)) vs = wipe σ vs) (ht : ∀ (i : Nat) H2, Ex H1 H2 → i < n → EvT tt ((wipe σ vs).set j (some (X i))) H2 (f i))
    (he : ∀ (i : Nat) H2, Ex H1 H2 → i < n → f i = true → ∀ Q : VK, (∀ y H3, Ex H2 H3 → R i y H3 → Q y H3) → te ((wipe σ vs).set j (some (X i))) H2 Q) (Q : VK) (q : ∀ Dl H', H1 Dl = none → Ex H1 H' → (∃ ys, H' Dl = some (.lst ys) ∧ Sel f R n ys H') → Q (.ref Dl) H') :
    ∀ Dl, H1 Dl = none → ∃ W : Nat → Nat → Hp → Prop, (∃ m, W 0 m (upd H1 Dl (.lst []))) ∧ ∀ i m H, W i m H →
      (J.stop i H ∧ Q (.ref Dl) H) ∨ (J.go i H ∧ ∃ Nx : Hp → Prop, (∀ H', Nx H' → ∃ m', m' < m ∧ W (i + 1) m' H') ∧ ∀ x H', J.yld i H x H' → gName j x (wipe σ vs) H' fun σ2 H2 => wipe σ2 vs = wipe σ vs ∧ tt σ2 H2 fun b H3 =>
        if b = true then te σ2 H3 fun y H4 => ∃ acc, H4 Dl = some (.lst acc) ∧ acc.length < sizeLine ∧ Nx (upd H4 Dl (.lst (acc ++ [y]))) else Nx H3) := by
  intro Dl hD
  refine lc_it wk (fun i H' => Ex H1 H' ∧ ∃ ys, H' Dl = some (.lst ys) ∧ Sel f R i ys H') ⟨Ex.new hD, [], upd_same, rfl, fun k i y hk hy => by simp at hk⟩ (fun i H' _ p => hG H' p.1) (fun i x H' H2 hi p y => ?_) fun H' p => q Dl H' hD p.1 p.2
  obtain ⟨rfl, rfl⟩ := y
  obtain ⟨p1, ys, p2, p3⟩ := p
  refine ⟨hw _, ht i _ p1 hi _ (Ex.refl _) _ fun H3 e3 => ?_⟩
  cases hf : f i with
  | true =>
    refine he i H3 (p1.trans e3) hi hf _ fun y H4 e4 hy => ⟨ys, e4 _ _ (e3 _ _ p2), ?_, Ex.mut ((p1.trans e3).trans e4) hD, ys ++ [y], upd_same, ?_⟩
    · have h1 := List.length_filter_le f (List.range i)
      rw [List.length_range] at h1
      have h2 := p3.1
      exact Evl.sz_lt (by omega)
    · have kn : KeepN H4 (upd H4 Dl (.lst (ys ++ [y]))) := (KeepN.refl H4).lst (e4 _ _ (e3 _ _ p2))
      exact sel_yes hR p3 hf ((KeepN.of (e3.trans e4)).trans kn) (hR _ _ _ _ kn hy)
  | false => exact ⟨p1.trans e3, ys, e3 _ _ p2, sel_no hR p3 hf (KeepN.of e3)⟩
/-! ### pairs of a day and True -/
def PairsL (K : PySem.W.Frag) (H : Hp) (ys : List V) (es : List Int) : Prop := ∃ ps : List Addr, ys = ps.map V.ref ∧ Paired (fun p (e : Int) => SqT K H p [.int e, .bl true]) ps es
theorem pairs_of {K : PySem.W.Frag} {H : Hp} : ∀ {ys : List V} {es : List Int}, ys.length = es.length → (∀ (k : Nat) y e, ys[k]? = some y → es[k]? = some e → ∃ p, y = .ref p ∧ SqT K H p [.int e, .bl true]) → PairsL K H ys es
  | [], [], _, _ => ⟨[], rfl, .nil⟩
  | y :: ys, e :: es, hl, h => by
    obtain ⟨p, rfl, hp⟩ := h 0 y e rfl rfl
    obtain ⟨ps, rfl, hps⟩ := pairs_of (ys := ys) (es := es) (by simpa using hl) fun k z c hz hc => h (k + 1) z c hz hc
    exact ⟨p :: ps, rfl, .cons hp hps⟩
  | [], _ :: _, hl, _ => by simp at hl
  | _ :: _, [], hl, _ => by simp at hl
theorem pairs_sel {K : PySem.W.Frag} {H : Hp} {f : Nat → Bool} {n : Nat} {ys : List V} {e : Nat → Int} (h : Sel f (fun i y H => ∃ p, y = .ref p ∧ SqT K H p [.int (e i), .bl true]) n ys H) : PairsL K H ys (((List.range n).filter f).map e) := by
  refine pairs_of (by rw [List.length_map]; exact h.1) fun k y c hy hc => ?_
  rw [List.getElem?_map] at hc
  cases hi : ((List.range n).filter f)[k]? with
  | none => rw [hi] at hc; cases hc
  | some i =>
    rw [hi] at hc
    cases hc
    exact h.2 k i y hi hy
/-- the dict of days ds, in their order -/
def dk (ds : List Nat) : List (Key × V) := ds.map fun (d : Nat) => ((Sum.inl (d : Int) : Key), V.bl true)
def addD (acc : List Nat) (d : Nat) : List Nat := if d ∈ acc then acc else acc ++ [d]
theorem putK_dk (acc : List Nat) (d : Nat) : putK (dk acc) (Sum.inl (d : Int)) (.bl true) = dk (addD acc d) := by
  have hany : ((dk acc).any fun kv => decide (kv.1 = (Sum.inl (d : Int) : Key))) = decide (d ∈ acc) := by
    rw [Bool.eq_iff_iff, List.any_eq_true, decide_eq_true_iff]
    constructor
    · rintro ⟨kv, h1, h2⟩
      have h2 := of_decide_eq_true h2
      unfold dk at h1
      rw [List.mem_map] at h1
      obtain ⟨c, hc, rfl⟩ := h1
      have : (c : Int) = (d : Int) := Sum.inl.inj h2
      have : c = d := by omega
      exact this ▸ hc
    · intro h
      exact ⟨(Sum.inl (d : Int), .bl true), List.mem_map.mpr ⟨d, h, rfl⟩, decide_eq_true rfl⟩
  unfold putK addD
  rw [hany]
  by_cases h : d ∈ acc
  · rw [decide_eq_true h, if_pos rfl, if_pos h]
    unfold dk
    rw [List.map_map]
    apply List.map_congr_left
    intro c _
    show (if (Sum.inl (c : Int) : Key) = Sum.inl (d : Int) then ((Sum.inl (c : Int) : Key), V.bl true) else (Sum.inl (c : Int), V.bl true)) = _
    split <;> rfl
  · rw [decide_eq_false h, if_neg Bool.false_ne_true, if_neg h]
    unfold dk
    rw [List.map_append]
    rfl
theorem addD_mem {acc : List Nat} {d x : Nat} : x ∈ addD acc d ↔ x ∈ acc ∨ x = d := by
  unfold addD
  by_cases h : d ∈ acc
  · rw [if_pos h]
    constructor
    · exact .inl
    · rintro (h' | rfl)
      · exact h'
      · exact h
  · rw [if_neg h]; simp
theorem addD_nodup {acc : List Nat} {d : Nat} (h : acc.Nodup) : (addD acc d).Nodup := by
  unfold addD
  by_cases hd : d ∈ acc
  · rw [if_pos hd]; exact h
  · rw [if_neg hd]
    refine List.nodup_append.mpr ⟨h, by simp, fun a ha b hb => ?_⟩
    simp at hb
    subst hb
    exact fun e => hd (e ▸ ha)
theorem merge_dk : ∀ (es : List Nat) (acc : List Nat), mergeK (dk acc) (dk es) = dk (es.foldl addD acc)
  | [], _ => rfl
  | e :: es, acc => by
    show mergeK (putK (dk acc) (Sum.inl (e : Int)) (.bl true)) (dk es) = _
    rw [putK_dk, merge_dk es]
    rfl
theorem fold_mem : ∀ (es acc : List Nat) (x : Nat), x ∈ es.foldl addD acc ↔ x ∈ acc ∨ x ∈ es
  | [], _, _ => by simp
  | e :: es, acc, x => by
    rw [List.foldl_cons, fold_mem es, addD_mem, List.mem_cons]
    exact or_assoc
theorem fold_nodup : ∀ (es acc : List Nat), acc.Nodup → (es.foldl addD acc).Nodup
  | [], _, h => h
  | e :: es, acc, h => fold_nodup es _ (addD_nodup h)
/-- the days of a round by p, as a dict's keys -/
structure DaysOk (N : Nat) (p : Int → Bool) (ds : List Nat) : Prop where
  nd : ds.Nodup
  mem : ∀ d : Nat, d ∈ ds ↔ d < N ∧ p (d : Int) = true
theorem DaysOk.len {N : Nat} {p : Int → Bool} {ds : List Nat} (h : DaysOk N p ds) : ds.length = (daysN N p).length :=
  nodup_len h.nd (daysN_nodup N p) fun x => by rw [h.mem, daysN_mem]
theorem DaysOk.le {N : Nat} {p : Int → Bool} {ds : List Nat} (h : DaysOk N p ds) : ds.length ≤ N := by
  rw [h.len]
  exact daysN_len N p
theorem dk_get {ds : List Nat} {d : Nat} : (valV (dk ds) (Sum.inl (d : Int))).isSome = decide (d ∈ ds) := by
  rw [← valV_any, Bool.eq_iff_iff, List.any_eq_true, decide_eq_true_iff]
  constructor
  · rintro ⟨kv, h1, h2⟩
    have h2 := of_decide_eq_true h2
    unfold dk at h1
    rw [List.mem_map] at h1
    obtain ⟨c, hc, rfl⟩ := h1
    have : (c : Int) = (d : Int) := Sum.inl.inj h2
    have : c = d := by omega
    exact this ▸ hc
  · intro h
    exact ⟨(Sum.inl (d : Int), .bl true), List.mem_map.mpr ⟨d, h, rfl⟩, decide_eq_true rfl⟩
section
variable {K : PySem.W.Frag} {σ : L2.St} {H H' : Hp} {ta tb tc te tv : TE} {x y z v : V} {r r' : R2} {t u : TT} {D : Ends} {tz : TS}
/-- dict(a new list of such pairs) -/
theorem er_dict {es : List Nat} (h : EvR ta σ H fun p H2 => ∃ ys, H2 p = some (.lst ys) ∧ PairsL K H2 ys (es.map fun (d : Nat) => (d : Int))) :
    EvR (tCB (fun xs H Q => ∃ (a : Addr) (ps : List Addr) (kvs : List (Key × V)), xs = [.ref a] ∧ SqL K H a (ps.map V.ref) ∧ Paired (fun p kv => SqT K H p [kV kv.1, kv.2]) ps kvs ∧ ∀ p, H p = none → Q (.ref p) (upd H p (.dK (mergeK [] kvs)))) (tCons ta tNil)) σ H
      fun p H2 => H2 p = some (.dK (dk (es.foldl addD []))) := fun H1 e Q q =>
  h H1 e _ fun p H2 hp e2 ⟨ys, h2, ps, hy, hps⟩ => by
    subst hy
    have hpk : Paired (fun p (kv : Key × V) => SqT K H2 p [kV kv.1, kv.2]) ps (dk es) := by
      have : ∀ {ps : List Addr} {es : List Nat}, Paired (fun p (e : Int) => SqT K H2 p [.int e, .bl true]) ps (es.map fun (d : Nat) => (d : Int)) → Paired (fun p (kv : Key × V) => SqT K H2 p [kV kv.1, kv.2]) ps (dk es) := by
        intro ps
        induction ps with
        | nil =>
          intro es h
          cases es with
          | nil => exact .nil
          | cons a es => cases h
        | cons p ps ih =>
          intro es h
          cases es with
          | nil => cases h
          | cons a es =>
            cases h with
            | cons h1 h2 => exact .cons h1 (ih h2)
      exact this hps
    refine ⟨p, ps, dk es, rfl, sq_of h2, hpk, fun l hl => q l _ (fresh_back e2 hl) (e2.trans (Ex.new hl)) ?_⟩
    have := merge_dk es []
    rw [show dk [] = [] from rfl] at this
    rw [this]
    exact upd_same
theorem tup_V {Q : VK} (ha : Ev ta σ H x) (k : ∀ t H2, Ex H H2 → H2 t = some (.tup [x, .bl true]) → Q (.ref t) H2) : tTup (tCons ta (tCons (tC (.bl true)) tNil)) σ H Q :=
  ha H (Ex.refl H) _ fun H1 e1 => ⟨by show 2 ≤ sizeLine; decide, fun t ht => k t _ (e1.trans (Ex.new ht)) upd_same⟩
theorem pair_kn (e : Int) (i : Nat) (y : V) (H1 H2 : Hp) (kn : KeepN H1 H2) (h : ∃ p, y = .ref p ∧ SqT K H1 p [.int e, .bl true]) : ∃ p, y = .ref p ∧ SqT K H2 p [.int e, .bl true] := by
  obtain ⟨p, h1, h2⟩ := h
  exact ⟨p, h1, sqt_kn kn h2⟩
/-- [(e, True) for x in range(n)] -/
theorem er_pairsR {tA : TA} {j : Nat} {vs : List Nat} {n : Int} (e : Nat → Int) (h : EvA tA σ H [.int n]) (hn : 0 ≤ n ∧ n ≤ 40000) (hw : ∀ x, wipe ((wipe σ vs).set j (some x)) vs = wipe σ vs)
    (he : ∀ (i : Nat) H1, Ex H H1 → (i : Int) < n → Ev te ((wipe σ vs).set j (some (.int (0 + (i : Int))))) H1 (.int (e i))) :
    EvR (tLc (iRng1 tA) (gName j) tYes (tTup (tCons te (tCons (tC (.bl true)) tNil))) vs) σ H fun p H2 => ∃ ys, H2 p = some (.lst ys) ∧ PairsL K H2 ys ((List.range n.toNat).map e) := fun H0 ee Q q => h H0 ee _ fun H1 e1 => ⟨n, rfl, by omega, by omega,
  lcX (walk_range (lo := 0) (n := n.toNat)) (fun _ => true) (fun i y H => ∃ p, y = .ref p ∧ SqT K H p [.int (e i), .bl true]) (fun i y H1 H2 => pair_kn (e i) i y H1 H2) (fun _ _ => trivial) (by omega) hw (fun i H2 e2 hi => et_yes) (fun i H2 e2 hi _ Q q => tup_V (he i H2 ((ee.trans e1).trans e2) (by omega)) fun t H3 e3 ht => q _ H3 e3 ⟨t, rfl, st_of ht⟩) Q fun Dl H' hD e' ⟨ys, h1, h2⟩ => q Dl H' (fresh_back e1 hD) (e1.trans e') ⟨ys, h1, by
    have := pairs_sel h2
    rwa [List.filter_eq_self.mpr (fun _ _ => rfl)] at this⟩⟩
/-- [(e, True) for x in d if t], d a dict of days that stands locked at a -/
theorem er_pairsK {tl : TE} {a : Addr} {od : Obj} {ds : List Nat} {j : Nat} {vs : List Nat} (f : Nat → Bool) (e : Nat → Int) (h : Ev tl σ H (.ref a)) (hd : H a = some (.frz od (.dK (dk ds)))) (hz : ds.length ≤ 40000) (hw : ∀ x, wipe ((wipe σ vs).set j (some x)) vs = wipe σ vs)
    (ht : ∀ (i : Nat) H1, Ex H H1 → i < ds.length → EvT t ((wipe σ vs).set j (some (.int ((ds.getD i 0 : Nat) : Int)))) H1 (f i))
    (he : ∀ (i : Nat) H1, Ex H H1 → i < ds.length → f i = true → Ev te ((wipe σ vs).set j (some (.int ((ds.getD i 0 : Nat) : Int)))) H1 (.int (e i))) :
    EvR (tLc (iKeys tl) (gName j) t (tTup (tCons te (tCons (tC (.bl true)) tNil))) vs) σ H fun p H2 => ∃ ys, H2 p = some (.lst ys) ∧ PairsL K H2 ys (((List.range ds.length).filter f).map e) := fun H0 ee Q q => h H0 ee _ fun H1 e1 => ⟨a, od, rfl, .inl ⟨dk ds, (ee.trans e1) _ _ hd, by
  have wk : Walk (Itk a od (dk ds)) (dk ds).length (fun H => H a = some (.frz od (.dK (dk ds)))) (YFn fun i => .int ((ds.getD i 0 : Nat) : Int)) := (walk_keys (d := a) (o := od) (kvs := dk ds)).mono (fun _ h => h) fun i H x H' hi _ y => by
    obtain ⟨h1, k, v, hk, hx⟩ := y
    refine ⟨h1, ?_⟩
    show x = V.int ((ds.getD i 0 : Nat) : Int)
    unfold dk at hk
    rw [List.getElem?_map] at hk
    rw [List.getD_eq_getElem?_getD]
    cases hi : ds[i]? with
    | none => rw [hi] at hk; cases hk
    | some d =>
      rw [hi] at hk
      cases hk
      exact hx
  have hl : (dk ds).length = ds.length := List.length_map _
  rw [hl] at wk
  refine lcX wk f (fun i y H => ∃ p, y = .ref p ∧ SqT K H p [.int (e i), .bl true]) (fun i y H1 H2 => pair_kn (e i) i y H1 H2) (fun H' e' => ((ee.trans e1).trans e') _ _ hd) hz hw (fun i H2 e2 hi => ht i H2 ((ee.trans e1).trans e2) hi) (fun i H2 e2 hi hf Q q => tup_V (he i H2 ((ee.trans e1).trans e2) hi hf) fun t H3 e3 ht => q _ H3 e3 ⟨t, rfl, st_of ht⟩) Q fun Dl H' hD e' ⟨ys, h1, h2⟩ => q Dl H' (fresh_back e1 hD) (e1.trans e') ⟨ys, h1, pairs_sel h2⟩⟩⟩
/-- a new thing made while the object at d is walked -/
theorem ex_lock {H1 : Hp} {d : Addr} {u : HO} {od : Obj} (e : Ex H H1) : Ex (upd H d (.frz od u)) (upd H1 d (.frz od u)) := fun b o h => by
  by_cases hb : b = d
  · subst hb
    rw [upd_same] at h ⊢
    exact h
  · rw [upd_ne hb] at h ⊢
    exact e _ _ h
theorem ex_unlock {H1 H2 : Hp} {d : Addr} {u : HO} {od : Obj} (hd : H1 d = some u) (e : Ex (upd H1 d (.frz od u)) H2) : Ex H1 (upd H2 d u) := fun b o h => by
  by_cases hb : b = d
  · subst hb
    rw [upd_same, ← h, hd]
  · rw [upd_ne hb]
    refine e _ _ ?_
    rw [upd_ne hb]
    exact h
theorem er_lock {d : Addr} {u : HO} {R R' : Addr → Hp → Prop} (hd : H d = some u) (mu : Mut (some u)) (h : ∀ od, EvR te σ (upd H d (.frz od u)) R) (hR : ∀ od p H2, p ≠ d → H2 d = some (.frz od u) → R p H2 → R' p (upd H2 d u)) : EvR (tLockE te) σ H R' := fun H1 e Q q =>
  ⟨d, u, e _ _ hd, mu, fun od => h od _ (ex_lock e) _ fun p H2 hp e2 hr => by
    have hpd : p ≠ d := fun z => by
      rw [z, upd_same] at hp
      cases hp
    refine ⟨e2 _ _ upd_same, q p _ ?_ (ex_unlock (e _ _ hd) e2) (hR od p H2 hpd (e2 _ _ upd_same) hr)⟩
    rw [upd_ne hpd] at hp
    exact hp⟩
theorem pairs_unlock {d : Addr} {u : HO} {od : Obj} {H2 : Hp} (hu : ∀ xs, u ≠ .tup xs) (h : H2 d = some (.frz od u)) {ys : List V} {es : List Int} (hp : PairsL K H2 ys es) : PairsL K (upd H2 d u) ys es := by
  obtain ⟨ps, h1, h2⟩ := hp
  refine ⟨ps, h1, Paired.mapP h2 fun p e hq => ?_⟩
  rcases hq with (hq | ⟨o, hq⟩) | hq
  · refine .inl (.inl ?_)
    rw [upd_ne (ne_of hq h (by intro z; cases z))]
    exact hq
  · refine .inl (.inr ⟨o, ?_⟩)
    rw [upd_ne (ne_of hq h (by intro z; injection z with z1 z2; exact hu _ z2.symm))]
    exact hq
  · exact .inr hq
/-- [(e, True) for x in a new list of days] -/
theorem er_pairsL {tl : TE} {ds : List Nat} {j : Nat} {vs : List Nat} (e : Nat → Int) (h : EvL tl σ H (ds.map fun (d : Nat) => V.int (d : Int))) (hz : ds.length ≤ 40000) (hw : ∀ x, wipe ((wipe σ vs).set j (some x)) vs = wipe σ vs)
    (he : ∀ (i : Nat) H1, Ex H H1 → i < ds.length → Ev te ((wipe σ vs).set j (some (.int ((ds.getD i 0 : Nat) : Int)))) H1 (.int (e i))) :
    EvR (tLc (iList K tl) (gName j) tYes (tTup (tCons te (tCons (tC (.bl true)) tNil))) vs) σ H fun p H2 => ∃ ys, H2 p = some (.lst ys) ∧ PairsL K H2 ys ((List.range ds.length).map e) := fun H0 ee Q q => h H0 ee _ fun a H1 ha e1 h1 => ⟨a, rfl, ⟨_, sq_of h1⟩, by
  have wk : Walk (Itl K a) (ds.map fun (d : Nat) => V.int (d : Int)).length (fun H => SqL K H a (ds.map fun (d : Nat) => V.int (d : Int))) (YFn fun i => .int ((ds.getD i 0 : Nat) : Int)) := (walk_list (K := K) (a := a) (xs := ds.map fun (d : Nat) => V.int (d : Int))).mono (fun _ h => h) fun i H x H' hi _ y => by
    obtain ⟨h1, hk⟩ := y
    refine ⟨h1, ?_⟩
    show x = V.int ((ds.getD i 0 : Nat) : Int)
    rw [List.getElem?_map] at hk
    rw [List.getD_eq_getElem?_getD]
    cases hi : ds[i]? with
    | none => rw [hi] at hk; cases hk
    | some d =>
      rw [hi] at hk
      exact (Option.some.inj hk).symm
  rw [List.length_map] at wk
  refine lcX wk (fun _ => true) (fun i y H => ∃ p, y = .ref p ∧ SqT K H p [.int (e i), .bl true]) (fun i y H1 H2 => pair_kn (e i) i y H1 H2) (fun H' e' => sq_of (e' _ _ h1)) hz hw (fun i H2 e2 hi => et_yes) (fun i H2 e2 hi _ Q q => tup_V (he i H2 ((ee.trans e1).trans e2) hi) fun t H3 e3 ht => q _ H3 e3 ⟨t, rfl, st_of ht⟩) Q fun Dl H' hD e' ⟨ys, h1, h2⟩ => q Dl H' (fresh_back e1 hD) (e1.trans e') ⟨ys, h1, by
    have := pairs_sel h2
    rwa [List.filter_eq_self.mpr (fun _ _ => rfl)] at this⟩⟩
theorem el_listD {a : Addr} {ds : List Nat} (h : Ev ta σ H (.ref a)) (hd : H a = some (.dK (dk ds))) : EvL (tCB rListD (tCons ta tNil)) σ H (ds.map fun (d : Nat) => V.int (d : Int)) := fun H1 e Q q => h H1 e _ fun H2 e2 => ⟨a, dk ds, rfl, e2 _ _ (e _ _ hd), fun l hl => q l _ (fresh_back e2 hl) (e2.trans (Ex.new hl)) (by
  unfold dk
  rw [List.map_map]
  exact upd_same)⟩
theorem ev_din {a : Addr} {ds : List Nat} {d : Nat} (h : Ev ta σ H (.int (d : Int))) (h2 : Ev tb σ H (.ref a)) (hd : H a = some (.dK (dk ds))) : Ev (tDIn ta tb) σ H (.bl (decide (d ∈ ds))) := fun H1 e Q q =>
  h H1 e _ fun H2 e2 => h2 H2 (e.trans e2) _ fun H3 e3 => ⟨a, _, rfl, DGet.k (k := Sum.inl (d : Int)) (((e.trans e2).trans e3) _ _ hd), by rw [dk_get]; exact q H3 (e2.trans e3)⟩
theorem ev_dnotin {a : Addr} {ds : List Nat} {d : Nat} (h : Ev ta σ H (.int (d : Int))) (h2 : Ev tb σ H (.ref a)) (hd : H a = some (.dK (dk ds))) : Ev (tDNotIn ta tb) σ H (.bl (!decide (d ∈ ds))) := fun H1 e Q q =>
  h H1 e _ fun H2 e2 => h2 H2 (e.trans e2) _ fun H3 e3 => ⟨a, _, rfl, DGet.k (k := Sum.inl (d : Int)) (((e.trans e2).trans e3) _ _ hd), by rw [dk_get]; exact q H3 (e2.trans e3)⟩
end
section
variable {K : PySem.W.Frag} {σ : L2.St} {H H' : Hp} {ta tb tc te tv td : TE} {x y z v : V} {r r' : R2} {t u : TT} {D : Ends} {tz tu : TS}
theorem sqt_other {a d : Addr} {o o' : HO} {xs : List V} (hd : H d = some o) (h1 : ∀ xs, o ≠ .tup xs) (h2 : ∀ ob xs, o ≠ .frz ob (.tup xs)) (h : SqT K H a xs) : SqT K (upd H d o') a xs := by
  rcases h with (h | ⟨ob, h⟩) | h
  · refine .inl (.inl ?_)
    rw [upd_ne (ne_of h hd (fun z => h1 _ z.symm))]
    exact h
  · refine .inl (.inr ⟨ob, ?_⟩)
    rw [upd_ne (ne_of h hd (fun z => h2 _ _ z.symm))]
    exact h
  · exact .inr h
theorem q_asgD {i : Nat} (k : ∀ p, H p = none → tz D (σ.set i (some (.ref p))) (upd H p (.dK (dk [])))) : tSeq (tAsg tDNewK (gName i)) tz D σ H := fun p hp => k p hp
theorem s_dput {a : Addr} {ds : List Nat} {d : Nat} (hd : H a = some (.dK (dk ds))) (hv : Ev tv σ H (.bl true)) (ho : Ev td σ H (.ref a)) (hk : Ev ta σ H (.int (d : Int))) (hz : ds.length < 100000) (k : ∀ H1, Ex H H1 → D.nx σ (upd H1 a (.dK (dk (addD ds d))))) : sDPut td ta tv D σ H :=
  hv H (Ex.refl H) _ fun H1 e1 => ho H1 e1 _ fun H2 e2 => hk H2 (e1.trans e2) _ fun H3 e3 => ⟨a, _, rfl, DPut.k (k := Sum.inl (d : Int)) (((e1.trans e2).trans e3) _ _ hd) (by
    unfold dk
    rw [List.length_map]
    exact Evl.sz_lt hz), by
    rw [putK_dk]
    exact k H3 ((e1.trans e2).trans e3)⟩
theorem q_forR3 {tA : TA} {j : Nat} {lo hi c : Int} {n : Nat} (h : EvA tA σ H [.int lo, .int hi, .int c]) (hr : RgC lo hi c n) (Pv : Nat → L2.St → Hp → Prop) (h0 : ∀ H1, Ex H H1 → Pv 0 σ H1)
    (hs : ∀ (i : Nat) σ' H', i < n → Pv i σ' H' → tu { D with nx := Pv (i + 1), ct := Pv (i + 1), bk := tz D } (σ'.set j (some (.int (lo + (i : Int) * c)))) H') (hd : ∀ σ' H', Pv n σ' H' → tz D σ' H') : tSeq (tFor (iRng3 tA) (gName j) tu) tz D σ H :=
  h H (Ex.refl H) _ fun H1 e => ⟨lo, hi, c, n, rfl, hr, for_it (D := { D with nx := tz D }) (walk_rangeC (lo := lo) (c := c) (n := n)) Pv (h0 H1 e) (fun _ _ _ _ _ => trivial) (fun i x σ' H' H2 hi p y => by
    obtain ⟨rfl, rfl⟩ := y
    exact hs i σ' H2 hi p) hd⟩
end
/-! ### lands in a list -/
def LandL (K : PySem.W.Frag) (H : Hp) : List V → List (Nat × Nat) → Prop
  | [], [] => True
  | x :: xs, l :: ls => (∃ p, x = .ref p ∧ SqT K H p [.int (l.1 : Int), .int (l.2 : Int)]) ∧ LandL K H xs ls
  | _, _ => False
section
variable {K : PySem.W.Frag} {H H' : Hp}
theorem LandL.kn (e : KeepN H H') : ∀ {xs : List V} {ls : List (Nat × Nat)}, LandL K H xs ls → LandL K H' xs ls
  | [], [], _ => trivial
  | _ :: _, _ :: _, ⟨⟨p, h0, h1⟩, h2⟩ => ⟨⟨p, h0, sqt_kn e h1⟩, LandL.kn e h2⟩
  | [], _ :: _, h => h
  | _ :: _, [], h => h
theorem LandL.len : ∀ {xs : List V} {ls : List (Nat × Nat)}, LandL K H xs ls → xs.length = ls.length
  | [], [], _ => rfl
  | _ :: _, _ :: _, h => congrArg (· + 1) (LandL.len h.2)
  | [], _ :: _, h => h.elim
  | _ :: _, [], h => h.elim
theorem LandL.snoc : ∀ {xs : List V} {ls : List (Nat × Nat)} {p : Addr} {l : Nat × Nat}, LandL K H xs ls → SqT K H p [.int (l.1 : Int), .int (l.2 : Int)] → LandL K H (xs ++ [.ref p]) (ls ++ [l])
  | [], [], p, _, _, h => ⟨⟨p, rfl, h⟩, trivial⟩
  | _ :: _, _ :: _, _, _, h, g => ⟨h.1, LandL.snoc h.2 g⟩
  | [], _ :: _, _, _, h, _ => h.elim
  | _ :: _, [], _, _, h, _ => h.elim
theorem LandL.app : ∀ {xs ys : List V} {ls ms : List (Nat × Nat)}, LandL K H xs ls → LandL K H ys ms → LandL K H (xs ++ ys) (ls ++ ms)
  | [], _, [], _, _, h => h
  | _ :: _, _, _ :: _, _, h, g => ⟨h.1, LandL.app h.2 g⟩
  | [], _, _ :: _, _, h, _ => h.elim
  | _ :: _, _, [], _, h, _ => h.elim
theorem LandL.mem : ∀ {xs : List V} {ls : List (Nat × Nat)} {x : V}, LandL K H xs ls → x ∈ xs → ∃ l ∈ ls, ∃ p, x = .ref p ∧ SqT K H p [.int (l.1 : Int), .int (l.2 : Int)]
  | _ :: _, l :: _, x, h, hm => by
    rcases List.mem_cons.mp hm with rfl | hm
    · exact ⟨l, List.mem_cons_self, h.1⟩
    · obtain ⟨m, h1, h2⟩ := LandL.mem h.2 hm
      exact ⟨m, List.mem_cons_of_mem _ h1, h2⟩
  | [], [], _, _, hm => nomatch hm
  | [], _ :: _, _, h, _ => h.elim
  | _ :: _, [], _, h, _ => h.elim
end
/-- the law's row of lands, by w below a total, then by total -/
def innerL (t M n : Nat) : List (Nat × Nat) := (List.range n).flatMap fun j => if t - (2 + j) ≤ M ∧ Nat.gcd (t - (2 + j)) (2 + j) = 1 then [(2 + j, t - (2 + j))] else []
def landsL (W M n : Nat) : List (Nat × Nat) := (List.range n).flatMap fun i => innerL (5 + i) M (min W ((4 + i) / 2) - 1)
theorem innerL_succ (t M n : Nat) : innerL t M (n + 1) = innerL t M n ++ (if t - (2 + n) ≤ M ∧ Nat.gcd (t - (2 + n)) (2 + n) = 1 then [(2 + n, t - (2 + n))] else []) := by
  unfold innerL
  rw [List.range_succ, List.flatMap_append]
  simp
theorem landsL_succ (W M n : Nat) : landsL W M (n + 1) = landsL W M n ++ innerL (5 + n) M (min W ((4 + n) / 2) - 1) := by
  unfold landsL
  rw [List.range_succ, List.flatMap_append]
  simp
theorem innerL_len (t M : Nat) : ∀ n, (innerL t M n).length ≤ n
  | 0 => Nat.le_refl _
  | n + 1 => by
    rw [innerL_succ, List.length_append]
    have := innerL_len t M n
    split
    · show _ + 1 ≤ _; omega
    · show _ + 0 ≤ _; omega
theorem innerL_mem {t M n : Nat} {l : Nat × Nat} (h : l ∈ innerL t M n) : 2 ≤ l.1 ∧ l.1 < 2 + n ∧ l.2 = t - l.1 ∧ l.2 ≤ M ∧ Nat.gcd l.2 l.1 = 1 := by
  unfold innerL at h
  rw [List.mem_flatMap] at h
  obtain ⟨j, hj, h⟩ := h
  rw [List.mem_range] at hj
  split at h
  · rename_i hc
    rw [List.mem_singleton] at h
    subst h
    exact ⟨by show 2 ≤ 2 + j; omega, by show 2 + j < 2 + n; omega, rfl, hc.1, hc.2⟩
  · cases h
/-- every land of it is one: w within W, m within M -/
theorem landsL_mem {W M n : Nat} {l : Nat × Nat} (h : l ∈ landsL W M n) : 2 ≤ l.1 ∧ l.1 ≤ W ∧ l.1 < l.2 ∧ l.2 ≤ M ∧ Nat.gcd l.2 l.1 = 1 := by
  unfold landsL at h
  rw [List.mem_flatMap] at h
  obtain ⟨i, hi, h⟩ := h
  obtain ⟨h1, h2, h3, h4, h5⟩ := innerL_mem h
  exact ⟨h1, by omega, by omega, h4, h5⟩
theorem rgC_by {i n c : Nat} (hi : i < c) (hn : 0 < n) (hc : c < 100000) (hz : c * n ≤ 1000000) : RgC (i : Int) ((c * n : Nat) : Int) (c : Int) n := by
  have hle : c ≤ c * n := Nat.le_mul_of_pos_right c hn
  have e : Builtin.Range.rangeSize (i : Int) ((c * n : Nat) : Int) (c : Int) = n := by
    unfold Builtin.Range.rangeSize
    rw [if_pos (by omega), if_pos (by omega)]
    have h1 : ((c * n : Nat) : Int) - (i : Int) - 1 = ((c : Int) - 1 - (i : Int)) + (c : Int) * ((n : Int) - 1) := by
      rw [Int.mul_sub, Int.mul_one, Int.natCast_mul]
      omega
    rw [h1, Int.add_mul_ediv_left _ _ (by omega), Int.ediv_eq_zero_of_lt (by omega) (by omega)]
    omega
  refine ⟨by omega, by omega, ?_, e⟩
  unfold Builtin.Range.small
  rw [e]
  simp only [Builtin.Range.rangeFitsLong, Bool.and_eq_true, Bool.or_eq_true, decide_eq_true_eq, beq_iff_eq]
  rw [if_pos (by omega)]
  have hn2 : n ≤ c * n := Nat.le_mul_of_pos_left n (by omega)
  refine ⟨⟨⟨⟨by omega, by omega⟩, by omega⟩, by omega⟩, .inr (by rw [Bool.and_eq_true, decide_eq_true_iff, decide_eq_true_iff]; omega)⟩
end WF

set_option Elab.async false
set_option linter.all false
set_option maxRecDepth 100000
set_option maxHeartbeats 400000
/-! WLong: for i in range(a, b), however far a and b lie -/
namespace WF
open PySem L2 Evl PySem.Spec PyProof.Rows
theorem turn_long {P : Program} {w : World} {K : PySem.W.Frag} {tg : Expr} (it : Addr) (lo : Int) (n : Nat) : Turn P w K tg (Itr lo n) [it] it (fun i h => IsLongIter h it (lo + (i : Nat) * 1) ((n : Int) - (i : Nat)) 1) where
  mem := by simp
  obj := fun i h st b hb => by
    have e : b = it := by simpa using hb
    rw [e]
    exact ⟨_, st, fun v z => nomatch (show Data.fields _ = Data.cell v from z)⟩
  keep := fun i h h' st k => k it (by simp) _ st
  item := fun X hP hw hK hc i pins s σ H E I hf st hg => by
    cases hP
    cases hw
    cases hK
    obtain ⟨f0, f1, f2, f3, f4, f5⟩ := hf it (by simp)
    refine (Walks.longrange (prog := X.prog) (w := X.w) (I.ok.hd hc) it lo 1 n).item i s _ _ hg st fun v h' tk hv st' kk => ?_
    obtain ⟨t, rfl⟩ := hv
    have I1 : Inv X pins σ H { s with heap := h', toks := tk } := I.turned (fun b o hb e => kk b o (by simpa using hb) e) f0 f1 f3 f4 f5
    refine ⟨_, rfl, go_of (n := "longrange_iterator") (s := { s with heap := h', toks := tk }) st' rfl rfl (by decide) ⟨.int (lo + i), H, I1, ⟨t, by rw [Int.mul_one]⟩, ⟨rfl, rfl⟩, st', fun b hb => (hf b hb).1⟩⟩
  done := fun X hP hw hK hc i pins s σ H E I hf st hg => by
    cases hP
    cases hw
    cases hK
    obtain ⟨f0, f1, f2, f3, f4, f5⟩ := hf it (by simp)
    exact wpAny_pyNext_long_end (I.ok.hd hc) st (by have : n ≤ i := hg; omega) fun h' eb => ⟨rfl, I.turned (t' := s.toks) (fun b o hb e => eb b o hb e) f0 f1 f3 f4 f5⟩
  self := fun _ _ _ _ _ st h => wpAny_pyIter_longiter st h
section
variable {X : Cx} {tg : Expr}
theorem range_itA {pins : List (Addr × Obj)} {σ : L2.St} {H : Hp} {s : Shared} {R : It → Hp → Prop} {E : Value → Shared → Prop} {lo hi : Int} {t u v : Tok} {tk : Nat} (I : Inv X pins σ H s)
    (q : R (Itr lo (hi - lo).toNat) H) : wpAny (model X.prog X.w) X.A (pyIter (.ref s.heap.objs.size)) (PIE X pins σ tg R) E { s with heap := s.heap.push { cls := .type "range", data := .fields #[.int lo t, .int hi u, .int 1 v] }, toks := tk } := by
  have I1 : Inv X pins σ H { s with heap := s.heap.push { cls := .type "range", data := .fields #[.int lo t, .int hi u, .int 1 v] }, toks := tk } := I.kept fun b o e => Heap.get?_push_of_some _ e
  have e1 : lo + ((0 : Nat) : Int) * 1 = lo := by simp
  have e2 : (((hi - lo).toNat : Nat) : Int) - ((0 : Nat) : Int) = Builtin.Range.rangeSize lo hi 1 := by rw [rangeSize_one]; split <;> omega
  cases hs : Builtin.Range.small lo hi 1 with
  | true =>
    refine wpAny_pyIter_range (IsRange.new ..) hs ?_
    refine ⟨_, [(s.heap.push { cls := .type "range", data := .fields #[.int lo t, .int hi u, .int 1 v] }).objs.size], _, _, H, rfl, I1.kept (t' := tk) fun b o e => Heap.get?_push_of_some _ e, turn_range _ lo (hi - lo).toNat, ?_, fun b hb => ?_, q⟩
    · show IsRangeIter _ _ (lo + ((0 : Nat) : Int) * 1) ((((hi - lo).toNat : Nat) : Int) - ((0 : Nat) : Int)) 1
      rw [e1, e2]
      exact Heap.get?_push_size _ rfl
    · have eb : b = (s.heap.push { cls := .type "range", data := .fields #[.int lo t, .int hi u, .int 1 v] }).objs.size := by simpa using hb
      cases eb
      exact I1.fpOk (Nat.le_refl _) (I1.hok.fresh (Nat.le_refl _))
  | false =>
    refine wpAny_pyIter_longrange (IsRange.new ..) hs ?_
    refine ⟨_, [(s.heap.push { cls := .type "range", data := .fields #[.int lo t, .int hi u, .int 1 v] }).objs.size], _, _, H, rfl, I1.kept (t' := tk) fun b o e => Heap.get?_push_of_some _ e, turn_long _ lo (hi - lo).toNat, ?_, fun b hb => ?_, q⟩
    · show IsLongIter _ _ (lo + ((0 : Nat) : Int) * 1) ((((hi - lo).toNat : Nat) : Int) - ((0 : Nat) : Int)) 1
      rw [e1, e2]
      exact Heap.get?_push_size _ rfl
    · have eb : b = (s.heap.push { cls := .type "range", data := .fields #[.int lo t, .int hi u, .int 1 v] }).objs.size := by simpa using hb
      cases eb
      exact I1.fpOk (Nat.le_refl _) (I1.hok.fresh (Nat.le_refl _))
def iRngA (ta : TA) : TI := fun σ H R => ta σ H fun vs H1 => ∃ i j : Int, vs = [.int i, .int j] ∧ R (Itr i (j - i).toNat) H1
theorem pi_rangeA {a b : Expr} {ta : TA} {p pos : Pos} (hg : Gl X "range") (hm : X.mg "range" = none) (ha : PA X [a, b] ta) (hs : starEach [a, b] X.env = [(false, eval a X.env), (false, eval b X.env)] := by rfl) (hs2 : starEach [b] X.env = [(false, eval b X.env)] := by rfl) :
    PI X tg (.Call (.Name "range" p) [a, b] [] pos) (iRngA ta) := by
  refine ⟨fun pins s σ H R I w0 => ?_⟩
  refine Call_ (ld_blt I hg hm boot_range (PyProof.Rows.callWith_type1 (thn (ha.run pos pins s σ H _ I w0) fun us s1 ⟨vs, H1, I1, r1, w1⟩ => ?_) (by rw [hs, hs2]) (by rw [hs2]; rfl)))
  obtain ⟨i, j, hv, w2⟩ := w1
  subst hv
  cases r1 with
  | cons ra rest =>
    cases rest with
    | cons rb rest =>
      cases rest
      obtain ⟨t1, rfl⟩ := ra
      obtain ⟨t2, rfl⟩ := rb
      exact call_range_2 (range_itA I1 w2)
end
section
variable {K : PySem.W.Frag} {σ : L2.St} {H H' : Hp} {D : Ends} {tu tz : TS}
theorem s_forRA {ta : TA} {j : Nat} {lo n : Int} (h : EvA ta σ H [.int lo, .int n]) (Pv : Nat → L2.St → Hp → Prop) (h0 : ∀ H1, Ex H H1 → Pv 0 σ H1)
    (hs : ∀ (i : Nat) σ' H', lo + (i : Int) < n → Pv i σ' H' → tu { D with nx := Pv (i + 1), ct := Pv (i + 1), bk := D.nx } (σ'.set j (some (.int (lo + (i : Int))))) H') (hd : ∀ σ' H', Pv (n - lo).toNat σ' H' → D.nx σ' H') : tFor (iRngA ta) (gName j) tu D σ H :=
  h H (Ex.refl H) _ fun H1 e => ⟨lo, n, rfl, for_it (walk_range (lo := lo) (n := (n - lo).toNat)) Pv (h0 H1 e) (fun _ _ _ _ _ => trivial) (fun i x σ' H' H2 hi p y => by
    obtain ⟨rfl, rfl⟩ := y
    exact hs i σ' H2 (by omega) p) hd⟩
theorem q_forRA {ta : TA} {j : Nat} {lo n : Int} (h : EvA ta σ H [.int lo, .int n]) (Pv : Nat → L2.St → Hp → Prop) (h0 : ∀ H1, Ex H H1 → Pv 0 σ H1)
    (hs : ∀ (i : Nat) σ' H', lo + (i : Int) < n → Pv i σ' H' → tu { D with nx := Pv (i + 1), ct := Pv (i + 1), bk := tz D } (σ'.set j (some (.int (lo + (i : Int))))) H') (hd : ∀ σ' H', Pv (n - lo).toNat σ' H' → tz D σ' H') : tSeq (tFor (iRngA ta) (gName j) tu) tz D σ H :=
  s_forRA (D := { D with nx := tz D }) h Pv h0 hs hd
end
end WF

set_option Elab.async false
set_option linter.all false
set_option maxRecDepth 100000
set_option maxHeartbeats 400000
/-! WTry: calls within a try; lists of what one may not land upon -/
namespace WF
open PySem L2 Evl
theorem takes0 {X : Cx} : Takes X (fun _ _ _ _ => False) := fun _ _ h => by
  obtain ⟨_, _, _, _, _, _, _, _, _, _, _, _, _, _, _, _, no⟩ := h
  exact no.elim
section
variable {X : Cx} {K : PySem.W.Frag} {CX : CXT} {x : Str} {k : Nat} {ps : List Str} {sp : Sp} {E : L2.St → XK} {e : Expr} {es : List Expr} {p pos : Pos} {t : TA}
theorem ix_seqK (hK : X.K = K := by rfl) : IxR X (rIx K) := by
  subst hK
  exact ix_seq
theorem pe_fnS (D : Dn X.prog X.w X.K X.mg X.base CX x k ps sp) (hr : Room k X.A) (hx : ∀ σ, PassesAt CX X σ (E σ)) (hg : Gl X x) (ha : PA X (e :: es) t) (hdb : (x == ("__debug__" : Str)) = false := by decide)
    (he : starEach (e :: es) X.env = (false, eval e X.env) :: starEach es X.env := by rfl) (hpl : (backTo pos (starEach es X.env)).any (·.1) = false := by rfl) : PE X (.Call (.Name x p) (e :: es) [] pos) (tCallS sp E t) := by
  obtain ⟨f, fd, h1, h2, h3, h4⟩ := D.ex
  exact pe_callS h3 hr hg h1 h2 h4 hx ha hdb he hpl
end
/-- an error of a class is what except names by that class -/
theorem Err.self {K : PySem.W.Frag} {C : Addr} (h : Err K C) : PySem.W.exmOne K (.ref C) (.ref C) = some true := by
  unfold PySem.W.exmOne
  rw [h.be, if_pos (by rfl)]
  unfold PySem.W.kitCls
  have h2 : (PySem.W.clsIn K C).isSome = true := h.is
  simp only [h2, h.ty, h.se]
  rfl
theorem Err.other {K : PySem.W.Frag} {C B : Addr} (h : Err K C) (hB : Err K B) (hs : PySem.W.subIn K (.ref C) (.ref B) = some false) : PySem.W.exmOne K (.ref C) (.ref B) = some false := by
  unfold PySem.W.exmOne
  rw [hB.be, if_pos (by rfl)]
  unfold PySem.W.kitCls
  have h2 : (PySem.W.clsIn K B).isSome = true := hB.is
  simp only [h2, hB.ty, hs]
  rfl
section
variable {K : PySem.W.Frag} {H H' : Hp} {d : Addr} {xs xs' : List V} {x v : V} {t : Value}
/-! what a changed list leaves -/
theorem ty_but (hd : H d = some (.lst xs)) (hd' : H' d = some (.lst xs')) (e : ExB d H H') (h : TyX K H x t) : TyX K H' x t := by
  have mv : ∀ {a : Addr} {o : HO}, H a = some o → (∀ ys, o ≠ .lst ys) → H' a = some o := fun {a o} q n => e.kn hd _ _ n q
  cases h with
  | base h =>
    cases h with
    | non => exact .base .non
    | bl b => exact .base (.bl b)
    | int i => exact .base (.int i)
    | str z => exact .base (.str z)
    | flt z => exact .base (.flt z)
    | @lst a ys h =>
      by_cases had : a = d
      · subst had
        exact .base (.lst hd')
      · exact .base (.lst (e _ _ had h))
    | frz h => exact .base (.frz (mv h (fun _ q => nomatch q)))
    | tup h => exact .base (.tup (mv h (fun _ q => nomatch q)))
    | dK h => exact .base (.dK (mv h (fun _ q => nomatch q)))
    | dT h => exact .base (.dT (mv h (fun _ q => nomatch q)))
    | ins h cl ha hn htk hm => exact .base (.ins (mv h (fun _ q => nomatch q)) cl ha hn htk hm)
  | byt b => exact .byt b
  | set h => exact .set (mv h (fun _ q => nomatch q))
  | kList h c => exact .kList h c
  | kTuple h c => exact .kTuple h c
  | kDict h c => exact .kDict h c
  | fTuple h => exact .fTuple (mv h (fun _ q => nomatch q))
  | fDict h => exact .fDict (mv h (fun _ q => nomatch q))
theorem num_but {o : Option Int} (hd : H d = some (.lst xs)) (hd' : H' d = some (.lst xs')) (e : ExB d H H') (h : NumV K H x o) : NumV K H' x o := by
  cases h with
  | int z => exact .int z
  | odd h n => exact .odd (ty_but hd hd' e h) n
theorem land_but {b : Bool} (hd : H d = some (.lst xs)) (hd' : H' d = some (.lst xs')) (e : ExB d H H') (h : LandV K H x b) : LandV K H' x b := by
  have kn := e.kn hd
  cases h with
  | no h n => exact .no (ty_but hd hd' e h) n
  | len h n z => exact .len (sqt_kn kn h) n z
  | odd h hx hy n => exact .odd (sqt_kn kn h) (num_but hd hd' e hx) (num_but hd hd' e hy) n
  | two h z1 z2 => exact .two (sqt_kn kn h) z1 z2
end
/-! ### lists whose items are made, told by what holds of each -/
section
variable {K : PySem.W.Frag} {σ : L2.St} {H H' : Hp} {ta tb tc te tl : TE} {tA : TA} {x y z v : V} {S : V → Hp → Prop} {P : List V → Hp → Prop}
def EvX (te : TE) (σ : L2.St) (H : Hp) (S : V → Hp → Prop) : Prop := ∀ H1, Ex H H1 → ∀ Q : VK, (∀ y H2, Ex H1 H2 → S y H2 → Q y H2) → te σ H1 Q
def EvY (ta : TA) (σ : L2.St) (H : Hp) (P : List V → Hp → Prop) : Prop := ∀ H1, Ex H H1 → ∀ Q : List V → Hp → Prop, (∀ ys H2, Ex H1 H2 → P ys H2 → Q ys H2) → ta σ H1 Q
def AllS (S : V → Hp → Prop) (n : Nat) (ys : List V) (H : Hp) : Prop := ys.length = n ∧ ∀ y ∈ ys, S y H
theorem AllS.mono {n : Nat} {ys : List V} (hS : ∀ y H1 H2, Ex H1 H2 → S y H1 → S y H2) (e : Ex H H') (h : AllS S n ys H) : AllS S n ys H' := ⟨h.1, fun y hy => hS y _ _ e (h.2 y hy)⟩
theorem ex_v (h : Ev te σ H v) (hv : ∀ H1, Ex H H1 → S v H1) : EvX te σ H S := fun H1 e Q q => h H1 e Q fun H2 e2 => q v H2 e2 (hv H2 (e.trans e2))
theorem ex_tup {us : List V} (h : EvU te σ H us) (hv : ∀ p H1, Ex H H1 → H1 p = some (.tup us) → S (.ref p) H1) : EvX te σ H S := fun H1 e Q q => h H1 e Q fun p H2 hp e2 h2 => q _ H2 e2 (hv p H2 (e.trans e2) h2)
theorem ex_lst {us : List V} (h : EvL te σ H us) (hv : ∀ p H1, Ex H H1 → H1 p = some (.lst us) → S (.ref p) H1) : EvX te σ H S := fun H1 e Q q => h H1 e Q fun p H2 hp e2 h2 => q _ H2 e2 (hv p H2 (e.trans e2) h2)
theorem ey_nil : EvY tNil σ H (AllS S 0) := fun H1 _ Q q => q [] H1 (Ex.refl H1) ⟨rfl, fun _ h => nomatch h⟩
theorem ey_cons {n : Nat} (hS : ∀ y H1 H2, Ex H1 H2 → S y H1 → S y H2) (h : EvX te σ H S) (hr : EvY tA σ H (AllS S n)) : EvY (tCons te tA) σ H (AllS S (n + 1)) := fun H1 e Q q =>
  h H1 e _ fun y H2 e2 hy => hr H2 (e.trans e2) _ fun ys H3 e3 hys => q (y :: ys) H3 (e2.trans e3) ⟨congrArg (· + 1) hys.1, fun z hz => (List.mem_cons.mp hz).elim (fun h => h ▸ hS _ _ _ e3 hy) (hys.2 z)⟩
/-- pick from a display -/
theorem er_disp {n : Nat} (hS : ∀ y H1 H2, Ex H1 H2 → S y H1 → S y H2) (h : EvY tA σ H (AllS S n)) (hn : n ≤ 1000) : EvR (tLst tA) σ H fun p H2 => ∃ ys, H2 p = some (.lst ys) ∧ AllS S n ys H2 := fun H1 e Q q =>
  h H1 e _ fun ys H2 e2 hys => ⟨Evl.sz_of (by rw [hys.1]; omega), fun p hp => q p _ (fresh_back e2 hp) (e2.trans (Ex.new hp)) ⟨ys, upd_same, hys.mono hS (Ex.new hp)⟩⟩
end
/-! lands of a display -/
section
variable {K : PySem.W.Frag} {σ : L2.St} {H H' : Hp} {ta tb tc te tl : TE} {tA : TA}
theorem ly_nil : EvY tNil σ H (fun ys H2 => LandL K H2 ys []) := fun H1 _ Q q => q [] H1 (Ex.refl H1) trivial
theorem ly_cons {a b : Nat} {ls : List (Nat × Nat)} (hr : EvY tA σ H (fun ys H2 => LandL K H2 ys ls)) : EvY (tCons (tTup (tCons (tC (.int (a : Int))) (tCons (tC (.int (b : Int))) tNil))) tA) σ H (fun ys H2 => LandL K H2 ys ((a, b) :: ls)) := fun H1 e Q q =>
  ⟨by show 2 ≤ sizeLine; decide, fun p hp => hr _ (e.trans (Ex.new hp)) _ fun ys H3 e3 hys => q (.ref p :: ys) H3 ((Ex.new hp).trans e3) ⟨⟨p, rfl, ex_t e3 (st_of upd_same)⟩, hys⟩⟩
theorem er_landsD {ls : List (Nat × Nat)} (h : EvY tA σ H (fun ys H2 => LandL K H2 ys ls)) (hn : ls.length ≤ 1000) : EvR (tLst tA) σ H fun p H2 => ∃ ys, H2 p = some (.lst ys) ∧ LandL K H2 ys ls := fun H1 e Q q =>
  h H1 e _ fun ys H2 e2 hys => ⟨Evl.sz_of (by rw [hys.len]; omega), fun p hp => q p _ (fresh_back e2 hp) (e2.trans (Ex.new hp)) ⟨ys, upd_same, hys.kn (KeepN.of (Ex.new hp))⟩⟩
theorem er_landsC {ls ms : List (Nat × Nat)} (h1 : EvR ta σ H fun p H2 => ∃ ys, H2 p = some (.lst ys) ∧ LandL K H2 ys ls) (h2 : EvR tb σ H fun p H2 => ∃ ys, H2 p = some (.lst ys) ∧ LandL K H2 ys ms) (hn : ls.length + ms.length ≤ 100000) :
    EvR (tOp rCat ta tb) σ H fun p H2 => ∃ ys, H2 p = some (.lst ys) ∧ LandL K H2 ys (ls ++ ms) := fun H1 e Q q =>
  h1 H1 e _ fun p H2 hp e2 ⟨ys, k1, l1⟩ => h2 H2 (e.trans e2) _ fun p2 H3 hp2 e3 ⟨zs, k2, l2⟩ => ⟨p, p2, ys, zs, rfl, rfl, e3 _ _ k1, k2, Evl.sz_of (by rw [l1.len, l2.len]; exact hn), fun p3 hp3 => q p3 _ (fresh_back (e2.trans e3) hp3) ((e2.trans e3).trans (Ex.new hp3)) ⟨ys ++ zs, upd_same, (l1.kn (KeepN.of (e3.trans (Ex.new hp3)))).app (l2.kn (KeepN.of (Ex.new hp3)))⟩⟩
theorem ev_lenD {a : Addr} {ds : List Nat} (h : Ev ta σ H (.ref a)) (hd : H a = some (.dK (dk ds))) : Ev (tCB (fun xs H Q => ∃ a kvs, xs = [V.ref a] ∧ H a = some (.dK kvs) ∧ Q (.int kvs.length) H) (tCons ta tNil)) σ H (.int ((ds.length : Nat) : Int)) := fun H1 e Q q =>
  h H1 e _ fun H2 e2 => ⟨a, dk ds, rfl, e2 _ _ (e _ _ hd), by
    unfold dk
    rw [List.length_map]
    exact q H2 e2⟩
/-- x = f(..) in a try -/
theorem q_asgS {sp : Sp} {W : Ends → WX} {D : Ends} {i : Nat} {tz : TS} {vs : List V} (h : EvA tA σ H vs) (k : ∀ H1, Ex H H1 → sp vs H1 (fun x H2 => tz D (σ.set i (some x)) H2) (fun cls d H2 => W { D with nx := tz D } cls d σ H2)) :
    tSeq (fun D σ H => tAsg (tCallS sp (WE (W D)) tA) (gName i) D σ H) tz D σ H := h H (Ex.refl H) _ fun H1 e => k H1 e
/-- a call with a new tuple among what is handed over -/
theorem ev_callT3 {sp : Sp} {E : XK} {us : List V} {x z v : V} (ha : Ev ta σ H x) (hb : EvU tb σ H us) (hc : Ev tc σ H z) (h : ∀ p H1, Ex H H1 → H1 p = some (.tup us) → ∀ (Q : VK) (E : XK), RetV v H1 Q → sp [x, .ref p, z] H1 Q E) :
    Ev (tCall sp [] E (tCons ta (tCons tb (tCons tc tNil)))) σ H v := fun H1 e Q q => ha H1 e _ fun H2 e2 => hb H2 (e.trans e2) _ fun p H3 hp e3 h3 => hc H3 ((e.trans e2).trans e3) _ fun H4 e4 => h p H4 (((e.trans e2).trans e3).trans e4) (e4 _ _ h3) Q E fun H5 e5 => q H5 (((e2.trans e3).trans e4).trans e5)
theorem ev_callT2 {sp : Sp} {E : XK} {us : List V} {x v : V} (ha : Ev ta σ H x) (hb : EvU tb σ H us) (h : ∀ p H1, Ex H H1 → H1 p = some (.tup us) → ∀ (Q : VK) (E : XK), RetV v H1 Q → sp [x, .ref p] H1 Q E) :
    Ev (tCall sp [] E (tCons ta (tCons tb tNil))) σ H v := fun H1 e Q q => ha H1 e _ fun H2 e2 => hb H2 (e.trans e2) _ fun p H3 hp e3 h3 => h p H3 ((e.trans e2).trans e3) h3 Q E fun H5 e5 => q H5 ((e2.trans e3).trans e5)
end
end WF

set_option Elab.async false
set_option linter.all false
set_option maxRecDepth 100000
set_option maxHeartbeats 400000
/-! WDrawI: whole numbers that are drawn: S tells of each; I stands whatever is drawn -/
namespace WF
open PySem L2 Evl
def DrI (te : TE) (σ : L2.St) (d : Addr) (I : Hp → Prop) (S : Int → Prop) : Prop := ∀ H xs, I H → H d = some (.lst xs) → Good xs → ∀ Q : VK, (∀ i H' xs', S i → I H' → ExB d H H' → H' d = some (.lst xs') → Good xs' → Q (.int i) H') → te σ H Q
def DrA (ta : TA) (σ : L2.St) (d : Addr) (I : Hp → Prop) (n : Nat) (S : Int → Prop) : Prop := ∀ H xs, I H → H d = some (.lst xs) → Good xs → ∀ Q : List V → Hp → Prop, (∀ (is : List Int) H' xs', is.length = n → (∀ i ∈ is, S i) → I H' → ExB d H H' → H' d = some (.lst xs') → Good xs' → Q (is.map V.int) H') → ta σ H Q
section
variable {K : PySem.W.Frag} {σ : L2.St} {H H' : Hp} {ta tb te : TE} {tA : TA} {d : Addr} {I : Hp → Prop} {S A B : Int → Prop} {i : Int} {n : Nat} {D : Ends} {tz : TS}
theorem dr_ev (hI : ∀ H H', I H → ExB d H H' → I H') (h : ∀ H, I H → Ev te σ H (.int i)) (hs : S i) : DrI te σ d I S := fun H xs hi hd hg Q q => h H hi H (Ex.refl H) Q fun H2 e => q i H2 xs hs (hI _ _ hi (ExB.of e)) (ExB.of e) (e _ _ hd) hg
theorem dr_op {g : Int → Int → Int} (ha : DrI ta σ d I A) (hb : DrI tb σ d I B) (hs : ∀ i j, A i → B j → S (g i j)) : DrI (tOp (rI0 fun i j => .int (g i j)) ta tb) σ d I S := fun H xs hi hd hg Q q =>
  ha H xs hi hd hg _ fun i H1 xs1 h1 i1 e1 d1 g1 => hb H1 xs1 i1 d1 g1 _ fun j H2 xs2 h2 i2 e2 d2 g2 => ⟨i, j, rfl, rfl, q _ H2 xs2 (hs i j h1 h2) i2 (e1.trans e2) d2 g2⟩
theorem dr_nil : DrA tNil σ d I 0 S := fun H xs hi hd hg Q q => q [] H xs rfl (fun _ h => nomatch h) hi (ExB.of (Ex.refl H)) hd hg
theorem dr_cons (ha : DrI te σ d I S) (hr : DrA tA σ d I n S) : DrA (tCons te tA) σ d I (n + 1) S := fun H xs hi hd hg Q q =>
  ha H xs hi hd hg _ fun i H1 xs1 h1 i1 e1 d1 g1 => hr H1 xs1 i1 d1 g1 _ fun is H2 xs2 hl h2 i2 e2 d2 g2 => q (i :: is) H2 xs2 (congrArg (· + 1) hl) (fun z hz => (List.mem_cons.mp hz).elim (fun h => h ▸ h1) (h2 z)) i2 (e1.trans e2) d2 g2
theorem q_dr {j : Nat} {xs : List V} (h : DrI te σ d I S) (hi : I H) (hd : H d = some (.lst xs)) (hg : Good xs) (k : ∀ i H' xs', S i → I H' → ExB d H H' → H' d = some (.lst xs') → Good xs' → tz D (σ.set j (some (.int i))) H') : tSeq (tAsg te (gName j)) tz D σ H := h H xs hi hd hg _ k
end
end WF

set_option Elab.async false
set_option linter.all false
set_option maxRecDepth 100000
set_option maxHeartbeats 200000
/-! WSort: sorted(pairs, key=sum) -/
namespace WF
open PySem L2 Evl PyProof.Rows
theorem kept_push {h h' : Heap} {o0 : Obj} (hk : ∀ b o, b ∉ [h.objs.size] → (h.push o0).get? b = some o → h'.get? b = some o) : ∀ b o, h.get? b = some o → h'.get? b = some o := fun b o q =>
  hk b o (fun hm => Nat.lt_irrefl _ (Nat.lt_of_lt_of_eq (Heap.lt_size q) (List.mem_singleton.mp hm).symm)) (Heap.get?_push_of_some _ q)
/-- sum of a pair of whole numbers -/
theorem sum_pair {prog : Program} {w : World} {A : Around} {E : Value → Shared → Prop} {s : Shared} {Q : Value → Shared → Prop} {a : Addr} {i j : Int} {t1 t2 : Tok} (hh : A.handled = none) (ht : s.heap.IsTuple a #[.int i t1, .int j t2])
    (h : ∀ h' tk t', (∀ b o, s.heap.get? b = some o → h'.get? b = some o) → Q (.int (i + j) t') { s with heap := h', toks := tk }) : wpAny (model prog w) A (call (.builtin "sum") [.ref a]) Q E s := by
  have hlt : a < s.heap.objs.size := by obtain ⟨o, e, _⟩ := ht; exact Heap.lt_size e
  have W := Walks.tuple (prog := prog) (w := w) (A := A.in1) hh s.heap.objs.size a (Nat.ne_of_lt hlt) #[.int i t1, .int j t2]
  refine PySem.call_sum_walkG (PySem.wpAny_pyIter_tuple ht ?_)
  refine ⟨s.heap.objs.size, [s.heap.objs.size, a], [s.heap.objs.size], 2, _, _, fun k => if k = 0 then i else j, rfl, W, ⟨⟨_, Heap.get?_push_size _ rfl, rfl, rfl⟩, ?_⟩, fun b hb => ?_, fun k v hk => ?_, fun h' tk t' hk => ?_⟩
  · obtain ⟨o, e, r⟩ := ht
    exact ⟨o, Heap.get?_push_of_some _ e, r⟩
  · show b < (s.heap.push _).objs.size
    rw [Heap.size_push]
    rcases List.mem_cons.mp hb with rfl | hb
    · exact Nat.lt_succ_self _
    · rcases List.mem_cons.mp hb with rfl | hb
      · exact Nat.lt_succ_of_lt hlt
      · cases hb
  · match k, hk with
    | 0, hk => simp at hk; exact ⟨t1, hk.symm⟩
    | 1, hk => simp at hk; exact ⟨t2, hk.symm⟩
    | n + 2, hk => simp at hk
  · have e : preSum (fun k => if k = 0 then i else j) 2 = i + j := by
      simp [preSum]
    rw [e]
    exact h h' tk t' (kept_push hk)
def sumLe (a b : Nat × Nat) : Bool := decide (((a.1 : Int) + (a.2 : Int)) ≤ ((b.1 : Int) + (b.2 : Int)))
/-- at v a pair, in the model's heap too -/
def PrAt (K : PySem.W.Frag) (H : Hp) (h : Heap) (v : Value) (l : Nat × Nat) : Prop := ∃ t t1 t2, v = .ref t ∧ SqT K H t [.int (l.1 : Int), .int (l.2 : Int)] ∧ h.IsTuple t #[.int (l.1 : Int) t1, .int (l.2 : Int) t2]
theorem land_each {X : Cx} {pins : List (Addr × Obj)} {σ : L2.St} {H : Hp} {s : Shared} (I : Inv X pins σ H s) {xs : List V} {its : List Value} (r : Vals xs its) : ∀ {ls : List (Nat × Nat)}, LandL X.K H xs ls → PySem.W.EachIs (PrAt X.K H s.heap) its ls := by
  induction r with
  | nil =>
    intro ls h
    cases ls with
    | nil => exact .nil
    | cons l ls => exact h.elim
  | cons r t ih =>
    intro ls h
    cases ls with
    | nil => exact h.elim
    | cons l ls =>
      obtain ⟨⟨p, h0, h1⟩, h2⟩ := h
      subst h0
      have r' := r
      cases r'
      refine .cons ?_ (ih h2)
      obtain ⟨its, r2, ht, _⟩ := I.tuple h1
      obtain ⟨u1, u2, rfl, r3, r4⟩ := vals2 r2
      obtain ⟨t1, rfl⟩ := r3
      obtain ⟨t2, rfl⟩ := r4
      exact ⟨p, t1, t2, rfl, h1, ht⟩
theorem each_land {K : PySem.W.Frag} {H : Hp} {h : Heap} : ∀ {out : List Value} {ls : List (Nat × Nat)}, PySem.W.EachIs (PrAt K H h) out ls → ∃ ys, Vals ys out ∧ LandL K H ys ls
  | _, _, .nil => ⟨[], .nil, trivial⟩
  | _, _, .cons h t => by
    obtain ⟨ys, h1, h2⟩ := each_land t
    obtain ⟨p, t1, t2, rfl, h3, _⟩ := h
    exact ⟨.ref p :: ys, .cons rfl h1, ⟨p, rfl, h3⟩, h2⟩
def rSortSum (K : PySem.W.Frag) : List V → Hp → VK → Prop := fun vs H1 Q => ∃ a xs ls, vs = [.ref a] ∧ SqL K H1 a xs ∧ LandL K H1 xs ls ∧ ∀ ys p, LandL K H1 ys (ls.mergeSort sumLe) → H1 p = none → Q (.ref p) (upd H1 p (.lst ys))
theorem sortSum_run {X : Cx} {pins : List (Addr × Obj)} {σ : L2.St} {H1 : Hp} {s1 : Shared} {Q : VK} {a : Addr} {xs : List V} {ls : List (Nat × Nat)} (hc : X.calm = true) (hu : X.A.units + 64 < cLine) (I1 : Inv X pins σ H1 s1) (hs : SqL X.K H1 a xs) (hl : LandL X.K H1 xs ls)
    (q : ∀ ys p, LandL X.K H1 ys (ls.mergeSort sumLe) → H1 p = none → Q (.ref p) (upd H1 p (.lst ys))) : wpAny (model X.prog X.w) X.A (call (.builtin "sorted") [.ref a] [(Str.ofString "key", .builtin "sum")]) (EP X pins σ Q) X.xe s1 := by
  obtain ⟨its, rv, hL, hz⟩ := I1.list hs
  have each := land_each I1 rv hl
  have hh : X.A.handled = none := I1.ok.hd hc
  have hlen : ls.length ≤ sizeLine := by rw [← each.length, ← rv.length]; exact hz
  refine PySem.W.sorted_key_data (b := false) (fun l : Nat × Nat => .int ((l.1 : Int) + (l.2 : Int))) hL.isList each ?_ ?_ hlen ?_ (PyProof.Rows.ksk_s1 _ _) (fun _ => PyProof.Rows.ksk_l1 _ _) (fun _ => PyProof.Rows.ksk_t4 _ _) ?_ ?_
  · exact PySem.W.AllAlike.of fun _ _ => rfl
  · exact PySem.W.Sortable.others fun _ => ⟨(fun h => nomatch h), (fun _ h => nomatch h)⟩
  · intro l _
    have : (PyData.int ((l.1 : Int) + (l.2 : Int))).depth = 0 := rfl
    rw [this]
    omega
  · intro v l hv _ h tk kp
    obtain ⟨t, t1, t2, rfl, _, o, ho, hr⟩ := hv
    exact sum_pair hh ⟨o, kp _ _ ho, hr⟩ fun h2 tk2 t' kp2 => ⟨h2, tk2, rfl, kp2, .int _ _⟩
  · intro out c h' tk kp hn hD hlen eo
    rw [PySem.W.dataLe_int] at eo
    obtain ⟨ys, hv, hY⟩ := each_land eo
    have hfr : H1 (s1.heap.objs.size + 1) = none := I1.hok.fresh (Nat.le_succ _)
    refine ⟨.ref _, upd H1 (s1.heap.objs.size + 1) (.lst ys), I1.laid kp (Nat.le_succ _) ⟨?_, out, c, hv, hD⟩, rfl, q ys _ hY hfr⟩
    rw [hv.length, hlen, ← each.length, ← rv.length]
    exact hz
theorem pe_sortSum {X : Cx} {e : Expr} {t : TA} {p p2 pos kp : Pos} (hc : X.calm = true) (hu : X.A.units + 64 < cLine) (hg : Gl X "sorted") (hm : X.mg "sorted" = none) (hg2 : Gl X "sum") (hm2 : X.mg "sum" = none) (ha : PA X [e] t)
    (h1 : backTo pos (starEach [e] X.env) = (false, eval e X.env) :: backTo pos (starEach [] X.env) := by rfl) (h2 : (backTo pos (starEach [e] X.env)).any (·.1) = false := by rfl)
    (hall : (backToKw pos (keywordEach [⟨some "key", .Name "sum" p2, kp⟩] X.env)).all (·.1.isSome) = true := by rfl) (hnone : (backToKw pos (keywordEach [⟨some "key", .Name "sum" p2, kp⟩] X.env)).any (·.1.isNone) = false := by rfl)
    (hks : (backToKw pos (keywordEach [⟨some "key", .Name "sum" p2, kp⟩] X.env)).filterMap (·.1) = [Str.ofString "key"] := by rfl) : PE X (.Call (.Name "sorted" p) [e] [⟨some "key", .Name "sum" p2, kp⟩] pos) (tCB (rSortSum X.K) t) := by
  refine ⟨fun pins s σ H Q I h => ?_⟩
  refine wpAny_Call_Name_kw (ld_blt I hg hm (by decide +kernel : bootBuiltins "sorted" = some (.builtin "sorted")) ?_)
  refine PyProof.Rows.callWith_kw (thn (ha.run pos pins s σ H (fun vs H1 => ∃ a xs ls, vs = [.ref a] ∧ SqL X.K H1 a xs ∧ LandL X.K H1 xs ls ∧ ∀ ys p, LandL X.K H1 ys (ls.mergeSort sumLe) → H1 p = none → Q (.ref p) (upd H1 p (.lst ys))) I h) fun us s1 ⟨vs, H1, I1, r1, q1⟩ => ?_) h1 h2 hall hnone
  obtain ⟨a, xs, ls, rfl, hs, hl, q⟩ := q1
  obtain rfl := Vals.ref1 r1
  show wpAny _ _ (evalAll ((do let v ← eval (.Name "sum" p2) X.env; standAt pos; pure v) :: [])) _ _ s1
  refine wpAny_evalAll_cons (wpAny_bind (ld_blt I1 hg2 hm2 (by decide +kernel : bootBuiltins "sum" = some (.builtin "sum")) (wpAny_bind (wpAny_standAt (wpAny_pure (wpAny_evalAll_nil ?_))))))
  rw [hks]
  exact sortSum_run hc hu I1 hs hl q
end WF

set_option Elab.async false
set_option linter.all false
set_option maxRecDepth 100000
set_option maxHeartbeats 400000
/-! WLandsM: the lands by their sums, two ways -/
namespace WF
open List
/-- w from 2 on, n of them; m from w + 1 to M -/
def mL (M w n : Nat) : List (Nat × Nat) := (List.range n).flatMap fun j => if Nat.gcd (w + 1 + j) w = 1 then [(w, w + 1 + j)] else []
def rawL (M n : Nat) : List (Nat × Nat) := (List.range n).flatMap fun i => mL M (2 + i) (M - (2 + i))
theorem mL_succ (M w n : Nat) : mL M w (n + 1) = mL M w n ++ (if Nat.gcd (w + 1 + n) w = 1 then [(w, w + 1 + n)] else []) := by
  unfold mL
  rw [List.range_succ, List.flatMap_append]
  simp
theorem rawL_succ (M n : Nat) : rawL M (n + 1) = rawL M n ++ mL M (2 + n) (M - (2 + n)) := by
  unfold rawL
  rw [List.range_succ, List.flatMap_append]
  simp
theorem mL_len (M w : Nat) : ∀ n, (mL M w n).length ≤ n
  | 0 => Nat.le_refl 0
  | n + 1 => by
    rw [mL_succ, List.length_append]
    have := mL_len M w n
    split
    · show _ + 1 ≤ _; omega
    · show _ + 0 ≤ _; omega
theorem rawL_len (M : Nat) : ∀ n, (rawL M n).length ≤ n * M
  | 0 => Nat.zero_le _
  | n + 1 => by
    rw [rawL_succ, List.length_append, Nat.succ_mul]
    have := rawL_len M n
    have := mL_len M (2 + n) (M - (2 + n))
    omega
theorem mL_mem {M w n : Nat} {l : Nat × Nat} : l ∈ mL M w n ↔ l.1 = w ∧ w < l.2 ∧ l.2 ≤ w + n ∧ Nat.gcd l.2 l.1 = 1 := by
  unfold mL
  rw [List.mem_flatMap]
  constructor
  · rintro ⟨j, hj, h⟩
    rw [List.mem_range] at hj
    split at h
    · rename_i hc
      rw [List.mem_singleton] at h
      subst h
      exact ⟨rfl, by show w < w + 1 + j; omega, by show w + 1 + j ≤ w + n; omega, hc⟩
    · cases h
  · rintro ⟨h1, h2, h3, h4⟩
    obtain ⟨a, b⟩ := l
    simp only at h1 h2 h3 h4
    subst h1
    refine ⟨b - (a + 1), List.mem_range.mpr (by omega), ?_⟩
    have e : a + 1 + (b - (a + 1)) = b := by omega
    rw [e, if_pos h4]
    exact List.mem_singleton.mpr rfl
theorem rawL_mem {M n : Nat} {l : Nat × Nat} : l ∈ rawL M n ↔ 2 ≤ l.1 ∧ l.1 < 2 + n ∧ l.1 < l.2 ∧ l.2 ≤ M ∧ Nat.gcd l.2 l.1 = 1 := by
  unfold rawL
  rw [List.mem_flatMap]
  constructor
  · rintro ⟨i, hi, h⟩
    rw [List.mem_range] at hi
    obtain ⟨h1, h2, h3, h4⟩ := mL_mem.mp h
    exact ⟨by omega, by omega, by omega, by omega, h4⟩
  · rintro ⟨h1, h2, h3, h4, h5⟩
    exact ⟨l.1 - 2, List.mem_range.mpr (by omega), mL_mem.mpr ⟨by omega, by omega, by omega, h5⟩⟩
theorem landsL_memI {W M : Nat} {l : Nat × Nat} (h : 2 ≤ l.1 ∧ l.1 ≤ W ∧ l.1 < l.2 ∧ l.2 ≤ M ∧ Nat.gcd l.2 l.1 = 1) : l ∈ landsL W M (W + M - 4) := by
  obtain ⟨h1, h2, h3, h4, h5⟩ := h
  obtain ⟨a, b⟩ := l
  simp only at h1 h2 h3 h4 h5
  unfold landsL
  rw [List.mem_flatMap]
  refine ⟨a + b - 5, List.mem_range.mpr (by omega), ?_⟩
  unfold innerL
  rw [List.mem_flatMap]
  refine ⟨a - 2, List.mem_range.mpr (by omega), ?_⟩
  have e1 : 2 + (a - 2) = a := by omega
  have e2 : 5 + (a + b - 5) - a = b := by omega
  rw [e1, e2, if_pos ⟨h4, h5⟩]
  exact List.mem_singleton.mpr rfl
/-- by the sum, then by w -/
def SumLt (a b : Nat × Nat) : Prop := a.1 + a.2 < b.1 + b.2 ∨ (a.1 + a.2 = b.1 + b.2 ∧ a.1 < b.1)
theorem SumLt.irr {a : Nat × Nat} (h : SumLt a a) : False := by
  rcases h with h | ⟨_, h⟩ <;> exact Nat.lt_irrefl _ h
theorem innerL_lt (t M : Nat) : ∀ n, 2 + n ≤ t → (innerL t M n).Pairwise SumLt := by
  intro n hn
  unfold innerL
  rw [List.pairwise_flatMap]
  refine ⟨fun j _ => ?_, ?_⟩
  · split
    · exact List.pairwise_singleton _ _
    · exact List.Pairwise.nil
  · refine (List.pairwise_lt_range (n := n)).imp_of_mem fun {i j} hi hj hij x hx y hy => ?_
    rw [List.mem_range] at hi hj
    split at hx
    · split at hy
      · rw [List.mem_singleton] at hx hy
        subst hx hy
        exact .inr ⟨by show 2 + i + (t - (2 + i)) = 2 + j + (t - (2 + j)); omega, by show 2 + i < 2 + j; omega⟩
      · cases hy
    · cases hx
theorem landsL_lt (W M n : Nat) : (landsL W M n).Pairwise SumLt := by
  unfold landsL
  rw [List.pairwise_flatMap]
  refine ⟨fun i _ => innerL_lt _ _ _ (by omega), ?_⟩
  refine (List.pairwise_lt_range (n := n)).imp_of_mem fun {i j} hi hj hij x hx y hy => ?_
  obtain ⟨h1, h2, h3, h4, h5⟩ := innerL_mem hx
  obtain ⟨g1, g2, g3, g4, g5⟩ := innerL_mem hy
  exact .inl (by omega)
theorem rawL_lx (M n : Nat) : (rawL M n).Pairwise fun a b => a.1 < b.1 ∨ (a.1 = b.1 ∧ a.2 < b.2) := by
  unfold rawL
  rw [List.pairwise_flatMap]
  refine ⟨fun i _ => ?_, ?_⟩
  · unfold mL
    rw [List.pairwise_flatMap]
    refine ⟨fun j _ => ?_, ?_⟩
    · split
      · exact List.pairwise_singleton _ _
      · exact List.Pairwise.nil
    · refine (List.pairwise_lt_range).imp_of_mem fun {a b} ha hb hab x hx y hy => ?_
      split at hx
      · split at hy
        · rw [List.mem_singleton] at hx hy
          subst hx hy
          exact .inr ⟨rfl, by show _ + a < _ + b; omega⟩
        · cases hy
      · cases hx
  · refine (List.pairwise_lt_range).imp_of_mem fun {i j} hi hj hij x hx y hy => ?_
    have h1 := (mL_mem.mp hx).1
    have h2 := (mL_mem.mp hy).1
    exact .inl (by omega)
theorem two_or {α : Type} {a b : α} : ∀ {l : List α}, a ∈ l → b ∈ l → a ≠ b → [a, b] <+ l ∨ [b, a] <+ l
  | c :: l, ha, hb, hne => by
    rcases List.mem_cons.mp ha with rfl | ha'
    · rcases List.mem_cons.mp hb with rfl | hb'
      · exact absurd rfl hne
      · exact .inl (List.cons_sublist_cons.mpr (List.singleton_sublist.mpr hb'))
    · rcases List.mem_cons.mp hb with rfl | hb'
      · exact .inr (List.cons_sublist_cons.mpr (List.singleton_sublist.mpr ha'))
      · rcases two_or ha' hb' hne with h | h
        · exact .inl (h.cons _)
        · exact .inr (h.cons _)
theorem two_not {α : Type} {a b : α} : ∀ {l : List α}, l.Nodup → [a, b] <+ l → [b, a] <+ l → False
  | [], _, h, _ => by simp at h
  | c :: l, hn, h1, h2 => by
    have hn' := List.nodup_cons.mp hn
    rcases List.sublist_cons_iff.mp h1 with h1 | ⟨r, e1, h1⟩
    · rcases List.sublist_cons_iff.mp h2 with h2 | ⟨r2, e2, h2⟩
      · exact two_not hn'.2 h1 h2
      · injection e2 with e2 e3
        have hb : b ∈ l := h1.subset (by simp)
        exact hn'.1 (e2 ▸ hb)
    · injection e1 with e1 e3
      rcases List.sublist_cons_iff.mp h2 with h2 | ⟨r2, e2, h2⟩
      · have ha : a ∈ l := h2.subset (by simp)
        exact hn'.1 (e1 ▸ ha)
      · injection e2 with e2 e4
        have hb : b ∈ l := h1.subset (by rw [← e3]; exact List.mem_singleton.mpr rfl)
        exact hn'.1 (e2 ▸ hb)
theorem lands_eq (W M : Nat) (hW : 1 ≤ W) : (rawL M (W - 1)).mergeSort sumLe = landsL W M (W + M - 4) := by
  have hp := List.mergeSort_perm (rawL M (W - 1)) sumLe
  have tr : ∀ a b c : Nat × Nat, sumLe a b = true → sumLe b c = true → sumLe a c = true := fun a b c h1 h2 => by
    unfold sumLe at *
    rw [decide_eq_true_iff] at *
    omega
  have to : ∀ a b : Nat × Nat, (sumLe a b || sumLe b a) = true := fun a b => by
    unfold sumLe
    rw [Bool.or_eq_true, decide_eq_true_iff, decide_eq_true_iff]
    omega
  have hlx := rawL_lx M (W - 1)
  have hnr : (rawL M (W - 1)).Nodup := hlx.imp fun {a b} h e => by
    subst e
    rcases h with h | ⟨_, h⟩ <;> exact Nat.lt_irrefl _ h
  have hns : ((rawL M (W - 1)).mergeSort sumLe).Nodup := hp.nodup_iff.mpr hnr
  have hle := List.pairwise_mergeSort tr to (rawL M (W - 1))
  have hS : ((rawL M (W - 1)).mergeSort sumLe).Pairwise SumLt := by
    rw [List.pairwise_iff_forall_sublist] at hle ⊢
    intro a b hab
    have h1 := hle hab
    have hne : a ≠ b := (List.pairwise_iff_forall_sublist.mp hns) hab
    unfold sumLe at h1
    rw [decide_eq_true_iff] at h1
    rcases Nat.lt_or_ge (a.1 + a.2) (b.1 + b.2) with h | h
    · exact .inl h
    · have he : a.1 + a.2 = b.1 + b.2 := by omega
      have ha : a ∈ rawL M (W - 1) := hp.mem_iff.mp (hab.subset (by simp))
      have hb : b ∈ rawL M (W - 1) := hp.mem_iff.mp (hab.subset (by simp))
      rcases two_or ha hb hne with h2 | h2
      · rcases (List.pairwise_iff_forall_sublist.mp hlx) h2 with h3 | ⟨h3, h4⟩
        · exact .inr ⟨he, h3⟩
        · omega
      · exfalso
        have : sumLe b a = true := by
          unfold sumLe
          rw [decide_eq_true_iff]
          omega
        exact two_not hns hab (List.pair_sublist_mergeSort tr to this h2)
  have hL := landsL_lt W M (W + M - 4)
  have hnl : (landsL W M (W + M - 4)).Nodup := hL.imp fun {a b} h e => by
    subst e
    exact h.irr
  refine List.Perm.eq_of_pairwise (le := SumLt) (fun a b _ _ h1 h2 => ?_) hS hL (hp.trans ((List.perm_ext_iff_of_nodup hnr hnl).mpr fun l => ?_))
  · exfalso
    rcases h1 with h1 | ⟨h1, h3⟩ <;> rcases h2 with h2 | ⟨h2, h4⟩ <;> omega
  · rw [rawL_mem]
    exact ⟨fun ⟨h1, h2, h3, h4, h5⟩ => landsL_memI ⟨h1, by omega, h3, h4, h5⟩, fun h => by
      obtain ⟨h1, h2, h3, h4, h5⟩ := landsL_mem h
      exact ⟨h1, by omega, h3, h4, h5⟩⟩
end WF

set_option Elab.async false
set_option linter.all false
set_option maxRecDepth 100000
set_option maxHeartbeats 400000
/-! WComp2: comprehensions of two loops over ranges; loops over a list of which S tells -/
namespace WF
open PySem L2 Evl
theorem lc2_out {lo : Int} {n : Nat} {g g1 : TG} {tt tt1 : TT} {te : TE} {wi1 : TI} {vs vs1 : List Nat} {σ : L2.St} {H1 : Hp} {Dl : Addr} {Qd : Hp → Prop} (Pv : Nat → Hp → Prop) (h0 : Pv 0 (upd H1 Dl (.lst [])))
    (hs : ∀ i H, i < n → Pv i H → g (.int (lo + i)) (wipe σ vs) H fun σ2 H2 => wipe σ2 vs = wipe σ vs ∧ tt σ2 H2 fun b H3 =>
      if b = true then wi1 σ2 H3 fun J1 H4 => ∃ W1 : Nat → Nat → Hp → Prop, (∃ m, W1 0 m H4) ∧ ∀ j k H, W1 j k H →
        (J1.stop j H ∧ Pv (i + 1) H) ∨ (J1.go j H ∧ ∃ Nx1 : Hp → Prop, (∀ H', Nx1 H' → ∃ k', k' < k ∧ W1 (j + 1) k' H') ∧ ∀ x H', J1.yld j H x H' → g1 x (wipe σ2 vs1) H' fun σ3 H5 => wipe σ3 vs1 = wipe σ2 vs1 ∧ tt1 σ3 H5 fun b H6 =>
          if b = true then te σ3 H6 fun y H7 => ∃ acc, H7 Dl = some (.lst acc) ∧ acc.length < sizeLine ∧ Nx1 (upd H7 Dl (.lst (acc ++ [y]))) else Nx1 H6)
      else Pv (i + 1) H3) (hd : ∀ H, Pv n H → Qd H) :
    ∃ W : Nat → Nat → Hp → Prop, (∃ m, W 0 m (upd H1 Dl (.lst []))) ∧ ∀ i m H, W i m H →
      ((Itr lo n).stop i H ∧ Qd H) ∨ ((Itr lo n).go i H ∧ ∃ Nx : Hp → Prop, (∀ H', Nx H' → ∃ m', m' < m ∧ W (i + 1) m' H') ∧ ∀ x H', (Itr lo n).yld i H x H' → g x (wipe σ vs) H' fun σ2 H2 => wipe σ2 vs = wipe σ vs ∧ tt σ2 H2 fun b H3 =>
        if b = true then wi1 σ2 H3 fun J1 H4 => ∃ W1 : Nat → Nat → Hp → Prop, (∃ m, W1 0 m H4) ∧ ∀ j k H, W1 j k H →
          (J1.stop j H ∧ Nx H) ∨ (J1.go j H ∧ ∃ Nx1 : Hp → Prop, (∀ H', Nx1 H' → ∃ k', k' < k ∧ W1 (j + 1) k' H') ∧ ∀ x H', J1.yld j H x H' → g1 x (wipe σ2 vs1) H' fun σ3 H5 => wipe σ3 vs1 = wipe σ2 vs1 ∧ tt1 σ3 H5 fun b H6 =>
            if b = true then te σ3 H6 fun y H7 => ∃ acc, H7 Dl = some (.lst acc) ∧ acc.length < sizeLine ∧ Nx1 (upd H7 Dl (.lst (acc ++ [y]))) else Nx1 H6)
        else Nx H3) := by
  refine ⟨fun i m H => m = n - i ∧ i ≤ n ∧ Pv i H, ⟨n, rfl, Nat.zero_le _, h0⟩, ?_⟩
  rintro i m H ⟨rfl, hi, hp⟩
  rcases Nat.lt_or_ge i n with hlt | hge
  · refine .inr ⟨hlt, Pv (i + 1), fun H' p' => ⟨n - (i + 1), by omega, rfl, hlt, p'⟩, fun x H' y => ?_⟩
    obtain ⟨e1, e2⟩ := y
    subst e1 e2
    exact hs i _ hlt hp
  · have e : i = n := Nat.le_antisymm hi hge
    subst e
    exact .inl ⟨Nat.le_refl _, hd H hp⟩
theorem lc2_in {lo : Int} {n : Nat} {g1 : TG} {tt1 : TT} {te : TE} {vs1 : List Nat} {σ2 : L2.St} {H4 : Hp} {Dl : Addr} {Nx : Hp → Prop} (Pv : Nat → Hp → Prop) (h0 : Pv 0 H4)
    (hs : ∀ j H, j < n → Pv j H → g1 (.int (lo + j)) (wipe σ2 vs1) H fun σ3 H5 => wipe σ3 vs1 = wipe σ2 vs1 ∧ tt1 σ3 H5 fun b H6 =>
      if b = true then te σ3 H6 fun y H7 => ∃ acc, H7 Dl = some (.lst acc) ∧ acc.length < sizeLine ∧ Pv (j + 1) (upd H7 Dl (.lst (acc ++ [y]))) else Pv (j + 1) H6) (hd : ∀ H, Pv n H → Nx H) :
    ∃ W1 : Nat → Nat → Hp → Prop, (∃ m, W1 0 m H4) ∧ ∀ j k H, W1 j k H →
      ((Itr lo n).stop j H ∧ Nx H) ∨ ((Itr lo n).go j H ∧ ∃ Nx1 : Hp → Prop, (∀ H', Nx1 H' → ∃ k', k' < k ∧ W1 (j + 1) k' H') ∧ ∀ x H', (Itr lo n).yld j H x H' → g1 x (wipe σ2 vs1) H' fun σ3 H5 => wipe σ3 vs1 = wipe σ2 vs1 ∧ tt1 σ3 H5 fun b H6 =>
        if b = true then te σ3 H6 fun y H7 => ∃ acc, H7 Dl = some (.lst acc) ∧ acc.length < sizeLine ∧ Nx1 (upd H7 Dl (.lst (acc ++ [y]))) else Nx1 H6) := by
  refine ⟨fun i m H => m = n - i ∧ i ≤ n ∧ Pv i H, ⟨n, rfl, Nat.zero_le _, h0⟩, ?_⟩
  rintro i m H ⟨rfl, hi, hp⟩
  rcases Nat.lt_or_ge i n with hlt | hge
  · refine .inr ⟨hlt, Pv (i + 1), fun H' p' => ⟨n - (i + 1), by omega, rfl, hlt, p'⟩, fun x H' y => ?_⟩
    obtain ⟨e1, e2⟩ := y
    subst e1 e2
    exact hs i _ hlt hp
  · have e : i = n := Nat.le_antisymm hi hge
    subst e
    exact .inl ⟨Nat.le_refl _, hd H hp⟩
theorem iRng2_ev {ta : TA} {σ : L2.St} {H : Hp} {lo hi : Int} {R : It → Hp → Prop} {n : Nat} (h : EvA ta σ H [.int lo, .int hi]) (hb : -1000000000 ≤ lo ∧ lo ≤ 1000000000 ∧ -1000000000 ≤ hi ∧ hi ≤ 1000000000) (hn : (hi - lo).toNat = n) (k : ∀ H1, Ex H H1 → R (Itr lo n) H1) : iRng2 ta σ H R :=
  h H (Ex.refl H) _ fun H1 e => ⟨lo, hi, rfl, ⟨by omega, by omega, by omega, by omega⟩, by
    rw [hn]
    exact k H1 e⟩
section
variable {K : PySem.W.Frag} {σ : L2.St} {H H' : Hp} {tl : TE} {D : Ends} {tu tz : TS} {S : List V → Hp → Prop}
theorem s_forER {j : Nat} (h : EvR tl σ H fun p H2 => ∃ xs, H2 p = some (.lst xs) ∧ S xs H2) (Pv : Addr → List V → Nat → L2.St → Hp → Prop) (h0 : ∀ p xs H1, H p = none → Ex H H1 → H1 p = some (.lst xs) → S xs H1 → Pv p xs 0 σ H1)
    (hl : ∀ p xs i σ' H', i ≤ xs.length → Pv p xs i σ' H' → SqL K H' p xs) (hs : ∀ p xs i x σ' H', xs[i]? = some x → Pv p xs i σ' H' → tu { D with nx := Pv p xs (i + 1), ct := Pv p xs (i + 1), bk := D.nx } (σ'.set j (some x)) H')
    (hd : ∀ p xs σ' H', Pv p xs xs.length σ' H' → D.nx σ' H') : tFor (iList K tl) (gName j) tu D σ H :=
  h H (Ex.refl H) _ fun p H1 hp e ⟨xs, h1, hS⟩ => ⟨p, rfl, ⟨xs, sq_of h1⟩, for_list (Pv p xs) (h0 p xs H1 hp e h1 hS) (hl p xs) (hs p xs) (hd p xs)⟩
theorem q_forER {j : Nat} (h : EvR tl σ H fun p H2 => ∃ xs, H2 p = some (.lst xs) ∧ S xs H2) (Pv : Addr → List V → Nat → L2.St → Hp → Prop) (h0 : ∀ p xs H1, H p = none → Ex H H1 → H1 p = some (.lst xs) → S xs H1 → Pv p xs 0 σ H1)
    (hl : ∀ p xs i σ' H', i ≤ xs.length → Pv p xs i σ' H' → SqL K H' p xs) (hs : ∀ p xs i x σ' H', xs[i]? = some x → Pv p xs i σ' H' → tu { D with nx := Pv p xs (i + 1), ct := Pv p xs (i + 1), bk := tz D } (σ'.set j (some x)) H')
    (hd : ∀ p xs σ' H', Pv p xs xs.length σ' H' → tz D σ' H') : tSeq (tFor (iList K tl) (gName j) tu) tz D σ H := s_forER (D := { D with nx := tz D }) h Pv h0 hl hs hd
theorem LandL.get : ∀ {xs : List V} {ls : List (Nat × Nat)} {i : Nat} {x : V}, LandL K H xs ls → xs[i]? = some x → ∃ l p, ls[i]? = some l ∧ x = .ref p ∧ SqT K H p [.int (l.1 : Int), .int (l.2 : Int)]
  | _ :: _, l :: _, 0, _, h, e => by
    cases e
    obtain ⟨⟨p, h0, h1⟩, _⟩ := h
    exact ⟨l, p, rfl, h0, h1⟩
  | _ :: xs, _ :: ls, i + 1, x, h, e => LandL.get (xs := xs) (ls := ls) (i := i) (x := x) h.2 e
  | [], [], i, x, _, e => by simp at e
  | [], _ :: _, _, _, h, _ => h.elim
  | _ :: _, [], _, _, h, _ => h.elim
end
section
variable {σ : L2.St} {H : Hp} {D : Ends} {tu tz : TS}
theorem s_forR1N {ta : TA} {j : Nat} {n : Int} (h : EvA ta σ H [.int n]) (hn : -100000 ≤ n ∧ n ≤ 100000) (Pv : Nat → L2.St → Hp → Prop) (h0 : ∀ H1, Ex H H1 → Pv 0 σ H1)
    (hs : ∀ (i : Nat) σ' H', (i : Int) < n → Pv i σ' H' → tu { D with nx := Pv (i + 1), ct := Pv (i + 1), bk := D.nx } (σ'.set j (some (.int (i : Int)))) H') (hd : ∀ σ' H', Pv n.toNat σ' H' → D.nx σ' H') : tFor (iRng1 ta) (gName j) tu D σ H :=
  h H (Ex.refl H) _ fun H1 e => ⟨n, rfl, by omega, by omega, for_range (lo := 0) (n := n.toNat) Pv (h0 H1 e) (fun i σ' H' hi p => by
    have e0 : (0 : Int) + (i : Int) = (i : Int) := Int.zero_add _
    show tu { D with nx := Pv (i + 1), ct := Pv (i + 1), bk := D.nx } (σ'.set j (some (.int ((0 : Int) + (i : Int))))) H'
    rw [e0]
    exact hs i σ' H' (by omega) p) hd⟩
theorem q_forR1N {ta : TA} {j : Nat} {n : Int} (h : EvA ta σ H [.int n]) (hn : -100000 ≤ n ∧ n ≤ 100000) (Pv : Nat → L2.St → Hp → Prop) (h0 : ∀ H1, Ex H H1 → Pv 0 σ H1)
    (hs : ∀ (i : Nat) σ' H', (i : Int) < n → Pv i σ' H' → tu { D with nx := Pv (i + 1), ct := Pv (i + 1), bk := tz D } (σ'.set j (some (.int (i : Int)))) H') (hd : ∀ σ' H', Pv n.toNat σ' H' → tz D σ' H') : tSeq (tFor (iRng1 ta) (gName j) tu) tz D σ H := s_forR1N (D := { D with nx := tz D }) h hn Pv h0 hs hd
end
/-! the first land in which two calendars are unlike -/
def unlikeB (one other : Rows) (l : Nat × Nat) : Int → Bool := fun d => calDay l.1 l.2 one d ^^ calDay l.1 l.2 other d
def unlikeAt (one other : Rows) (l : Nat × Nat) : Option ((Nat × Nat) × Nat) := (daysN (l.1 * l.2) (unlikeB one other l)).head?.map fun d => (l, d)
def unlikeO (one other : Rows) (ls : List (Nat × Nat)) : Option ((Nat × Nat) × Nat) := ls.findSome? (unlikeAt one other)
theorem find_more {α β : Type} {f : α → Option β} : ∀ {l : List α} {i : Nat} {x : α}, l[i]? = some x → (l.take i).findSome? f = none → f x = none → (l.take (i + 1)).findSome? f = none := fun {l i x} h h1 h2 => by
  rw [take_more h, List.findSome?_append, h1]
  simp [h2]
theorem find_hit {α β : Type} {f : α → Option β} {l : List α} {i : Nat} {x : α} {y : β} (h : l[i]? = some x) (h1 : (l.take i).findSome? f = none) (h2 : f x = some y) : l.findSome? f = some y := by
  have hs : l = l.take (i + 1) ++ l.drop (i + 1) := (List.take_append_drop _ _).symm
  rw [hs, take_more h, List.findSome?_append, List.findSome?_append, h1]
  simp [h2]
theorem figN_pos {N : Nat} {q : Int → Bool} (h : daysN N q ≠ []) : figN N q ≠ 0 := fun z => by
  obtain ⟨d, l, e⟩ := List.exists_cons_of_ne_nil h
  have hm : d ∈ daysN N q := by rw [e]; exact List.mem_cons_self
  obtain ⟨h1, h2⟩ := daysN_mem.mp hm
  have := figN_bit N q d
  rw [z, Nat.zero_testBit, h2, decide_eq_true h1] at this
  cases this
theorem figN_nil {N : Nat} {q : Int → Bool} (h : daysN N q = []) : figN N q = 0 := figN_zero fun d hd => by
  cases hq : q (d : Int) with
  | false => rfl
  | true =>
    have : d ∈ daysN N q := daysN_mem.mpr ⟨hd, hq⟩
    rw [h] at this
    cases this
theorem reach_le {rows : Rows} (hl : rows.length ≤ 3) (hb : rowsBys rows ≤ 4) : 3 ≤ reachOf rows ∧ reachOf rows ≤ 10 := by
  unfold reachOf
  have := List.length_filter_le (fun r : Rl × Bool => r.2) rows
  omega
def enoughL (r : Nat) : List (Nat × Nat) := landsL (4 * r + 1) (6 * r + 1) (4 * r + 1 + (6 * r + 1) - 4)
theorem enoughL_ok {r : Nat} (hr : r ≤ 10) {l : Nat × Nat} (h : l ∈ enoughL r) : LandOk l.1 l.2 := by
  obtain ⟨h1, h2, h3, h4, h5⟩ := landsL_mem h
  have : l.1 * l.2 ≤ 41 * 61 := Nat.mul_le_mul (by omega) (by omega)
  exact ⟨h1, h3, by omega, by omega⟩
/-- the answer: None, or a new pair of a land and a day -/
def RetW (K : PySem.W.Frag) (o : Option ((Nat × Nat) × Nat)) (H : Hp) (Q : VK) : Prop := (o = none → RetV .non H Q) ∧ ∀ l d, o = some (l, d) → ∀ t lp H2, Ex H H2 → H2 t = some (.tup [.ref lp, .int (d : Int)]) → SqT K H2 lp [.int (l.1 : Int), .int (l.2 : Int)] → Q (.ref t) H2
theorem RetW.back {K : PySem.W.Frag} {o : Option ((Nat × Nat) × Nat)} {H H' : Hp} {Q : VK} (k : RetW K o H Q) (e : Ex H H') : RetW K o H' Q := ⟨fun h H2 e2 => k.1 h H2 (e.trans e2), fun l d h t lp H2 e2 h1 h2 => k.2 l d h t lp H2 (e.trans e2) h1 h2⟩
end WF

set_option Elab.async false
set_option linter.all false
set_option maxRecDepth 100000
set_option maxHeartbeats 1000000
/-! WSix: the plain law: what is so in the lands that are enough is so in six others: each day there looks like a day here -/
namespace WF
theorem Ag.le {n k : Nat} {a a' : Int → Bool} (h : Ag n a a') (hk : k ≤ n) : Ag k a a' := fun j h1 h2 => h j (by omega) (by omega)
/-- day d of the land (w, m) looks like day e of (v, n) -/
structure Look (r : Nat) (w m d v n e : Int) : Prop where
  wk : Ag r (atZ w d) (atZ v e)
  mo : Ag r (atZ m d) (atZ n e)
  fi : Ag r (inW w m d) (inW v n e)
theorem Look.cal {r : Nat} {w m d v n e : Int} (h : Look r w m d v n e) {rows : Rows} (hf : ∀ q ∈ rows, q.1.fit = true) (hr : reachOf rows ≤ r) : calDay w m rows d = calDay v n rows e := by
  rw [cal_ev, cal_ev]
  exact cal_ag hf (h.wk.le hr) (h.mo.le hr) (h.fi.le hr)
/-- a day with told residues, where n = 1 mod v -/
theorem crt {v n : Int} (k : Int) (hn : n = v * k + 1) (a b : Int) : ∃ e : Int, e % v = a % v ∧ e % n = b % n := by
  refine ⟨b + n * (a - b), ?_, ?_⟩
  · rw [hn, Int.add_mul, Int.one_mul, Int.mul_assoc, show b + (v * (k * (a - b)) + (a - b)) = a + v * (k * (a - b)) by omega, Int.add_mul_emod_self_left]
  · rw [Int.add_mul_emod_self_left]
theorem atZ_of {n d a : Int} (h : d % n = a % n) : atZ n d = atZ n a := by rw [← atZ_mod n d, h, atZ_mod]
theorem inW_of {w n d a : Int} (h : d % n = a % n) : inW w n d = inW w n a := by rw [← inW_mod w n d, h, inW_mod]
/-- the begin of a week near a day, or none near -/
theorem near_wk {r : Nat} {w : Int} (hw : 2 * (r : Int) + 2 ≤ w) (d : Int) : (∃ j : Int, -(r : Int) ≤ j ∧ j ≤ (r : Int) ∧ d % w = (-j) % w) ∨ (∃ a : Int, d % w = a % w ∧ (r : Int) + 1 ≤ a ∧ a ≤ w - (r : Int) - 1) := by
  have h1 := Int.emod_nonneg d (show w ≠ 0 by omega)
  have h2 := Int.emod_lt_of_pos d (show 0 < w by omega)
  by_cases q : d % w ≤ (r : Int)
  · exact .inl ⟨-(d % w), by omega, by omega, by rw [Int.neg_neg, Int.emod_emod]⟩
  · by_cases q2 : d % w ≤ w - (r : Int) - 1
    · exact .inr ⟨d % w, by rw [Int.emod_emod], by omega, q2⟩
    · refine .inl ⟨w - d % w, by omega, by omega, ?_⟩
      rw [show -(w - d % w) = d % w + w * (-1) by omega, Int.add_mul_emod_self_left, Int.emod_emod]
theorem atZ_near {r : Nat} {w j : Int} (hw : 2 * (r : Int) + 2 ≤ w) (h1 : -(r : Int) ≤ j) (h2 : j ≤ (r : Int)) : Ag r (atZ w (-j)) fun x => x == j := fun x h3 h4 => by
  show ((-j + x) % w == 0) = (x == j)
  rw [mod_in (by omega) (by omega) (by omega), Bool.eq_iff_iff, beq_iff_eq, beq_iff_eq]
  omega
theorem atZ_far {r : Nat} {w a : Int} (h1 : (r : Int) + 1 ≤ a) (h2 : a ≤ w - (r : Int) - 1) : Ag r (atZ w a) fun _ => false := fun x h3 h4 => by
  show ((a + x) % w == 0) = false
  rw [mod_low (by omega) (by omega), beq_eq_false_iff_ne]
  omega
theorem Ag.trans' {r : Nat} {a b c : Int → Bool} (h : Ag r a c) (g : Ag r b c) : Ag r a b := fun j h1 h2 => (h j h1 h2).trans (g j h1 h2).symm
/-- weeks of two lands that look alike -/
theorem wk_like {r : Nat} {w v : Int} (hw : 2 * (r : Int) + 2 ≤ w) (hv : 2 * (r : Int) + 2 ≤ v) (d : Int) : ∃ a : Int, Ag r (atZ w d) (atZ v a) := by
  rcases near_wk hw d with ⟨j, h1, h2, h3⟩ | ⟨a, h3, h1, h2⟩
  · exact ⟨-j, by rw [atZ_of h3]; exact (atZ_near hw h1 h2).trans' (atZ_near hv h1 h2)⟩
  · exact ⟨(r : Int) + 1, by rw [atZ_of h3]; exact (atZ_far h1 h2).trans' (atZ_far (by omega) (by omega))⟩
theorem inW_near {r : Nat} {w m j : Int} (hw : 2 * (r : Int) + 2 ≤ w) (hm : w + 2 * (r : Int) + 2 ≤ m) (h1 : -(r : Int) ≤ j) (h2 : j ≤ (r : Int)) : Ag r (inW w m (-j)) fun x => decide (j ≤ x) := fun x h3 h4 => by
  show decide ((-j + x) % m < w) = decide (j ≤ x)
  by_cases h : j ≤ x
  · rw [mod_low (by omega) (by omega), decide_eq_decide]; omega
  · rw [mod_up (by omega) (by omega), decide_eq_decide]; omega
/-- months of two great lands -/
theorem mo_great {r : Nat} {w m v n : Int} (hw : 2 * (r : Int) + 2 ≤ w) (hm : w + 2 * (r : Int) + 2 ≤ m) (hv : 2 * (r : Int) + 2 ≤ v) (hn : v + 2 * (r : Int) + 2 ≤ n) (d : Int) : ∃ b : Int, Ag r (atZ m d) (atZ n b) ∧ Ag r (inW w m d) (inW v n b) := by
  rcases near_wk (r := r) (w := m) (by omega) d with ⟨j, h1, h2, h3⟩ | ⟨a, h3, h1, h2⟩
  · exact ⟨-j, by rw [atZ_of h3]; exact (atZ_near (by omega) h1 h2).trans' (atZ_near (by omega) h1 h2), by rw [inW_of h3]; exact (inW_near hw hm h1 h2).trans' (inW_near hv hn h1 h2)⟩
  · rw [atZ_of h3, inW_of h3]
    by_cases q1 : a + (r : Int) < w
    · refine ⟨(r : Int) + 1, (atZ_far h1 h2).trans' (atZ_far (by omega) (by omega)), fun x h4 h5 => ?_⟩
      show decide ((a + x) % m < w) = decide (((r : Int) + 1 + x) % n < v)
      rw [mod_low (by omega) (by omega), mod_low (by omega) (by omega), decide_eq_decide]; omega
    · by_cases q2 : w ≤ a - (r : Int)
      · refine ⟨v + (r : Int) + 1, (atZ_far h1 h2).trans' (atZ_far (by omega) (by omega)), fun x h4 h5 => ?_⟩
        show decide ((a + x) % m < w) = decide ((v + (r : Int) + 1 + x) % n < v)
        rw [mod_low (by omega) (by omega), mod_low (by omega) (by omega), decide_eq_decide]; omega
      · refine ⟨v + (a - w), (atZ_far h1 h2).trans' (atZ_far (by omega) (by omega)), fun x h4 h5 => ?_⟩
        show decide ((a + x) % m < w) = decide ((v + (a - w) + x) % n < v)
        rw [mod_low (by omega) (by omega), mod_low (by omega) (by omega), decide_eq_decide]; omega
/-- months by one longer than the week -/
theorem mo_next {r : Nat} {w v : Int} (hw : 2 * (r : Int) + 2 ≤ w) (hv : 2 * (r : Int) + 2 ≤ v) (d : Int) : ∃ b : Int, Ag r (atZ (w + 1) d) (atZ (v + 1) b) ∧ Ag r (inW w (w + 1) d) (inW v (v + 1) b) := by
  have key : ∀ j : Int, -(r : Int) ≤ j → j ≤ (r : Int) + 1 → ∀ u : Int, 2 * (r : Int) + 2 ≤ u → Ag r (inW u (u + 1) (-j)) fun x => !(x == j - 1) := fun j h1 h2 u hu x h3 h4 => by
    show decide ((-j + x) % (u + 1) < u) = !(x == j - 1)
    by_cases h : j ≤ x
    · rw [mod_low (by omega) (by omega), decide_eq_true (by omega), (beq_eq_false_iff_ne.mpr (by omega) : (x == j - 1) = false)]; rfl
    · rw [mod_up (by omega) (by omega)]
      by_cases q : x = j - 1
      · rw [decide_eq_false (by omega), (beq_iff_eq.mpr q : (x == j - 1) = true)]; rfl
      · rw [decide_eq_true (by omega), (beq_eq_false_iff_ne.mpr q : (x == j - 1) = false)]; rfl
  rcases near_wk (r := r) (w := w + 1) (by omega) d with ⟨j, h1, h2, h3⟩ | ⟨a, h3, h1, h2⟩
  · exact ⟨-j, by rw [atZ_of h3]; exact (atZ_near (by omega) h1 h2).trans' (atZ_near (by omega) h1 h2), by rw [inW_of h3]; exact (key j h1 (by omega) w hw).trans' (key j h1 (by omega) v hv)⟩
  · rw [atZ_of h3, inW_of h3]
    by_cases q : a = w + 1 - (r : Int) - 1
    · have e : a % (w + 1) = (-((r : Int) + 1)) % (w + 1) := by
        rw [q, show w + 1 - (r : Int) - 1 = -((r : Int) + 1) + (w + 1) * 1 by omega, Int.add_mul_emod_self_left]
      have e2 : (v + 1 - (r : Int) - 1) % (v + 1) = (-((r : Int) + 1)) % (v + 1) := by
        rw [show v + 1 - (r : Int) - 1 = -((r : Int) + 1) + (v + 1) * 1 by omega, Int.add_mul_emod_self_left]
      exact ⟨v + 1 - (r : Int) - 1, (atZ_far h1 h2).trans' (atZ_far (by omega) (by omega)), by rw [inW_of e, inW_of e2]; exact (key _ (by omega) (by omega) w hw).trans' (key _ (by omega) (by omega) v hv)⟩
    · refine ⟨(r : Int) + 1, (atZ_far h1 h2).trans' (atZ_far (by omega) (by omega)), fun x h4 h5 => ?_⟩
      show decide ((a + x) % (w + 1) < w) = decide (((r : Int) + 1 + x) % (v + 1) < v)
      rw [mod_low (by omega) (by omega), mod_low (by omega) (by omega), decide_eq_decide]; omega
/-- weeks of two days -/
theorem mo_two {r : Nat} {m n : Int} (hm : 2 * (r : Int) + 5 ≤ m) (hn : 2 * (r : Int) + 5 ≤ n) (d : Int) : ∃ b : Int, Ag r (atZ m d) (atZ n b) ∧ Ag r (inW 2 m d) (inW 2 n b) := by
  have key : ∀ j : Int, -(r : Int) - 1 ≤ j → j ≤ (r : Int) → ∀ u : Int, 2 * (r : Int) + 5 ≤ u → Ag r (inW 2 u (-j)) fun x => x == j || x == j + 1 := fun j h1 h2 u hu x h3 h4 => by
    show decide ((-j + x) % u < 2) = (x == j || x == j + 1)
    rw [Bool.eq_iff_iff, decide_eq_true_iff, Bool.or_eq_true, beq_iff_eq, beq_iff_eq]
    by_cases h : j ≤ x
    · rw [mod_low (by omega) (by omega)]; omega
    · rw [mod_up (by omega) (by omega)]; omega
  rcases near_wk (r := r) (w := m) (by omega) d with ⟨j, h1, h2, h3⟩ | ⟨a, h3, h1, h2⟩
  · exact ⟨-j, by rw [atZ_of h3]; exact (atZ_near (by omega) h1 h2).trans' (atZ_near (by omega) h1 h2), by rw [inW_of h3]; exact (key j (by omega) h2 m hm).trans' (key j (by omega) h2 n hn)⟩
  · rw [atZ_of h3, inW_of h3]
    by_cases q : a = (r : Int) + 1
    · refine ⟨(r : Int) + 1, (atZ_far h1 h2).trans' (atZ_far (by omega) (by omega)), ?_⟩
      rw [q]
      have k1 := key (-(r : Int) - 1) (by omega) (by omega) m hm
      have k2 := key (-(r : Int) - 1) (by omega) (by omega) n hn
      rw [show -(-(r : Int) - 1) = (r : Int) + 1 by omega] at k1 k2
      exact k1.trans' k2
    · refine ⟨(r : Int) + 2, (atZ_far h1 h2).trans' (atZ_far (by omega) (by omega)), fun x h4 h5 => ?_⟩
      show decide ((a + x) % m < 2) = decide (((r : Int) + 2 + x) % n < 2)
      rw [mod_low (by omega) (by omega), mod_low (by omega) (by omega), decide_eq_decide]; omega
def sixL : List (Nat × Nat) := [(41, 97), (59, 60), (2, 1999), (25, 126), (60, 61), (43, 87)]
/-- each day in one of the six lands looks like a day in a land that is enough -/
theorem six_like {r w m : Nat} (h3 : 3 ≤ r) (h10 : r ≤ 10) (hl : (w, m) ∈ sixL) (d : Int) : ∃ v n : Nat, (v, n) ∈ enoughL r ∧ ∃ e : Int, Look r w m d v n e := by
  have mk : ∀ v n : Nat, ∀ k : Int, (n : Int) = (v : Int) * k + 1 → 2 ≤ v → v < n → v ≤ 4 * r + 1 → n ≤ 6 * r + 1 → Nat.gcd n v = 1 → ∀ a b : Int, Ag r (atZ w d) (atZ v a) → Ag r (atZ m d) (atZ n b) → Ag r (inW w m d) (inW v n b) → ∃ v n : Nat, (v, n) ∈ enoughL r ∧ ∃ e : Int, Look r w m d v n e := fun v n k hk v2 vn h1 h2 hg a b g1 g2 g3 => by
    obtain ⟨e, e1, e2⟩ := crt k hk a b
    refine ⟨v, n, landsL_memI ⟨v2, h1, vn, h2, hg⟩, e, ?_, ?_, ?_⟩
    · rw [atZ_of e1]; exact g1
    · rw [atZ_of e2]; exact g2
    · rw [inW_of e2]; exact g3
  have great : 2 * r + 2 ≤ w → w + 2 * r + 2 ≤ m → ∃ v n : Nat, (v, n) ∈ enoughL r ∧ ∃ e : Int, Look r w m d v n e := fun h1 h2 => by
    obtain ⟨a, ha⟩ := wk_like (r := r) (w := (w : Int)) (v := ((2 * r + 2 : Nat) : Int)) (by omega) (by omega) d
    obtain ⟨b, hb1, hb2⟩ := mo_great (r := r) (w := (w : Int)) (m := (m : Int)) (v := ((2 * r + 2 : Nat) : Int)) (n := ((2 * (2 * r + 2) + 1 : Nat) : Int)) (by omega) (by omega) (by omega) (by omega) d
    exact mk (2 * r + 2) (2 * (2 * r + 2) + 1) 2 (by omega) (by omega) (by omega) (by omega) (by omega) (gcd_k1 2 _) a b ha hb1 hb2
  have next : 2 * r + 2 ≤ w → m = w + 1 → ∃ v n : Nat, (v, n) ∈ enoughL r ∧ ∃ e : Int, Look r w m d v n e := fun h1 h2 => by
    subst h2
    obtain ⟨a, ha⟩ := wk_like (r := r) (w := (w : Int)) (v := ((2 * r + 2 : Nat) : Int)) (by omega) (by omega) d
    obtain ⟨b, hb1, hb2⟩ := mo_next (r := r) (w := (w : Int)) (v := ((2 * r + 2 : Nat) : Int)) (by omega) (by omega) d
    refine mk (2 * r + 2) (2 * r + 2 + 1) 1 (by omega) (by omega) (by omega) (by omega) (by omega) ?_ a b ha ?_ ?_
    · have := gcd_k1 1 (2 * r + 2)
      rw [Nat.one_mul] at this
      exact this
    · exact hb1
    · exact hb2
  unfold sixL at hl
  simp only [List.mem_cons, Prod.mk.injEq, List.not_mem_nil, or_false] at hl
  rcases hl with ⟨rfl, rfl⟩ | ⟨rfl, rfl⟩ | ⟨rfl, rfl⟩ | ⟨rfl, rfl⟩ | ⟨rfl, rfl⟩ | ⟨rfl, rfl⟩
  · exact great (by omega) (by omega)
  · exact next (by omega) rfl
  · obtain ⟨b, hb1, hb2⟩ := mo_two (r := r) (m := ((1999 : Nat) : Int)) (n := ((2 * r + 5 : Nat) : Int)) (by omega) (by omega) d
    refine mk 2 (2 * r + 5) ((r : Int) + 2) (by omega) (by omega) (by omega) (by omega) (by omega) ?_ d b (fun _ _ _ => rfl) hb1 hb2
    have := gcd_k1 (r + 2) 2
    rw [show (r + 2) * 2 + 1 = 2 * r + 5 by omega] at this
    exact this
  · exact great (by omega) (by omega)
  · exact next (by omega) rfl
  · exact great (by omega) (by omega)
end WF

set_option Elab.async false
set_option linter.all false
set_option maxRecDepth 100000
set_option maxHeartbeats 400000
/-! WLen: len(o) by an own __len__ -/
namespace WF
open PySem L2 Evl
section
variable {X : Cx} {CX : CXT} {C : Addr} {n : Nat} {ps : List Str} {sp : Sp} {E : XK}
def rLenO (C : Addr) (sp : Sp) (E : XK) : List V → Hp → VK → Prop := fun xs H Q => ∃ a dx fs, xs = [.ref a] ∧ H a = some (.ins C dx fs) ∧ sp [.ref a] H (fun v H' => ∃ i, v = .int i ∧ 0 ≤ i ∧ i < 2 ^ 63 ∧ Q (.int i) H') E
theorem call_lenO (M : Mtn X.prog X.w X.K X.mg X.base CX C "__len__" n ps sp) (hr : Room (n + 1) X.A) (hx : Passes CX X E) : CallR X (.builtin "len") (rLenO C sp E) := by
  intro pins s σ H xs us Q I rv hq
  obtain ⟨f, fd, hM, hk, F, hb⟩ := M.ex
  obtain ⟨a, dx, fs, rfl, ha, hsp⟩ := hq
  obtain ⟨u, rfl, ru⟩ := vals1 rv
  cases ru
  have sb0 : L2.Sub X (n + 1) X.A := ⟨hr, rfl⟩
  have sb := sb0.in1
  obtain ⟨mA, J0, _⟩ := ins_get I.hok ha
  obtain ⟨od, J, _⟩ := J0.look
  obtain ⟨m, hF⟩ := I.fr
  refine PySem.W.len_K hF I.ok.mod.kin J hM.at_ hM.fn ?_
  have e0 : Env0 X.prog X.w X.K X.mg X.base X.A.in1 X.stack s H := by
    have e := I.env0
    exact ⟨(sb.fr ▸ e.frames : _), e.mod, e.bs, e.bsz, e.funs, e.frf, e.hok, e.bare⟩
  have hl := F.len _ _ _ _ hsp
  have r2 : Vals [V.ref a] [Value.ref a] := .cons rfl .nil
  refine wpAny_call (codeAny_mono (F.run X.A.in1 X.stack s H ⟨[.ref a], []⟩ [.ref a] [.ref a] _ E sb.room e0 (by
    have := hb s [.ref a] I.kIn (by simpa using hl)
    simpa using this) r2 hsp) fun r s' hq => ?_)
  cases r with
  | error e => exact hx pins σ H s e s' I hq
  | ok fl =>
    cases fl with
    | ret w =>
      obtain ⟨z, H', I', rz, i, ez, h0, h1, q⟩ := I.after hq
      cases ez
      obtain ⟨t, rfl⟩ := rz
      refine ⟨⟨h0, h1⟩, .int i, H', ?_, ⟨_, rfl⟩, q⟩
      exact I'.kept (t' := s'.toks + 1) fun b o e => e
    | next => exact hq.elim
    | brk => exact hq.elim
    | cont => exact hq.elim
/-! methods by their names -/
variable {k : Nat} {m : Str} {o e : Expr} {es : List Expr} {ta : TE} {t : TA} {pos apos : Pos}
theorem pe_mt0 {pl : Sem Bool} (M : Mtn X.prog X.w X.K X.mg X.base CX C m k ps sp) (he : PE X o ta) (c : Cls X.K C) (hr : Room k X.A) (hx : Passes CX X E)
    (ht : eval (.Call (.Attribute o m apos) [] [] pos) X.env = (do
      let ov ← eval o X.env
      standAt apos.atName
      let (f, first) ← holding [ov] (getMethod ov m pl)
      callWith pos f first (backTo pos (starEach [] X.env)) (backToKw pos (keywordEach [] X.env))) := by rfl) : PE X (.Call (.Attribute o m apos) [] [] pos) (tMeth C m sp [] E ta tNil) := by
  obtain ⟨f, fd, h1, h2, h3, h4⟩ := M.ex
  exact pe_meth0 he c h1 h3 hr h4 .nil hx ht
/-- o.m(e, ..) that lets out nothing, or within a try -/
def tMtS (C : Addr) (m : Str) (sp : Sp) (E : L2.St → XK) (ta : TE) (t : TA) : TE := fun σ H Q => ta σ H fun x H1 => ∃ a dx fs, x = .ref a ∧ H1 a = some (.ins C dx fs) ∧ fs.lookup m = none ∧ t σ H1 fun vs H2 => sp (x :: vs) H2 Q (E σ)
theorem pe_mtS {pl : Sem Bool} {E : L2.St → XK} (M : Mtn X.prog X.w X.K X.mg X.base CX C m k ps sp) (he : PE X o ta) (c : Cls X.K C) (hr : Room k X.A) (hx : ∀ σ, PassesAt CX X σ (E σ)) (ha : PA X (e :: es) t)
    (hst : starEach (e :: es) X.env = (false, eval e X.env) :: starEach es X.env := by rfl) (hpl : (backTo pos (starEach es X.env)).any (·.1) = false := by rfl)
    (ht : eval (.Call (.Attribute o m apos) (e :: es) [] pos) X.env = (do
      let ov ← eval o X.env
      standAt apos.atName
      let (f, first) ← holding [ov] (getMethod ov m pl)
      callWith pos f first (backTo pos (starEach (e :: es) X.env)) (backToKw pos (keywordEach [] X.env))) := by rfl) : PE X (.Call (.Attribute o m apos) (e :: es) [] pos) (tMtS C m sp E ta t) := by
  obtain ⟨f, fd, hm, hk, F, hb⟩ := M.ex
  refine ⟨fun pins s σ H Q I h => ?_⟩
  refine PySem.W.methodCall_KW (pl := pl) (thn (he.run pins s σ H _ I h) fun u s1 ⟨x, H1, I1, rx, a, dx, fs, ex, ea, l, q⟩ => ?_) ht
  subst ex
  obtain rfl : u = Value.ref a := rx
  refine getmeth_ok I1 ea c hm l ?_
  refine PySem.W.callWith_K (first := [.ref a]) (h₀ := X.base) I.ok.mod.kin hm.kp (thn (ha.run pos pins s1 σ H1 _ I1 q) fun us s2 ⟨vs, H2, I2, r, q2⟩ => ⟨I2.kIn, ?_⟩) hst hpl
  exact run_fnS (us := .ref a :: us) (vs := .ref a :: vs) F hr hb (hx σ) I2 (.cons rfl r) q2
end
section
variable {X : Cx} {CX : CXT} {C f : Addr} {k : Nat} {fd : FuncData} {ps : List Str} {sp : Sp} {m x : Str} {o e : Expr} {es : List Expr} {ta : TE} {t : TA} {p pos apos : Pos}
theorem pe_mt1 {E : XK} {pl : Sem Bool} (M : Mtn X.prog X.w X.K X.mg X.base CX C m k ps sp) (he : PE X o ta) (c : Cls X.K C) (hr : Room k X.A) (hx : Passes CX X E) (ha : PA X (e :: es) t)
    (hst : starEach (e :: es) X.env = (false, eval e X.env) :: starEach es X.env := by rfl) (hpl : (backTo pos (starEach es X.env)).any (·.1) = false := by rfl)
    (ht : eval (.Call (.Attribute o m apos) (e :: es) [] pos) X.env = (do
      let ov ← eval o X.env
      standAt apos.atName
      let (f, first) ← holding [ov] (getMethod ov m pl)
      callWith pos f first (backTo pos (starEach (e :: es) X.env)) (backToKw pos (keywordEach [] X.env))) := by rfl) : PE X (.Call (.Attribute o m apos) (e :: es) [] pos) (tMeth C m sp [] E ta t) := by
  obtain ⟨f, fd, h1, h2, h3, h4⟩ := M.ex
  exact pe_meth he c h1 h3 hr h4 .nil hx ha hst hpl ht
/-- C(e, ..) within a try -/
def tMakeS (C : Addr) (sp : Sp) (E : L2.St → XK) (t : TA) : TE := fun σ H Q => t σ H fun vs H1 => ∀ x dx, H1 x = none → H1 dx = none → dx ≠ x →
  sp (.ref x :: vs) (upd (upd H1 dx (.own x)) x (.ins C dx [])) (fun v H2 => v = .non ∧ Q (.ref x) H2) (E σ)
theorem run_makeS {E : L2.St → XK} {pins : List (Addr × Obj)} {σ : L2.St} {H : Hp} {s : Shared} {Q : VK} {us : List Value} {vs : List V} (M : Mk X.K C f) (F : FnOk X.prog X.w X.K X.mg X.base CX k f fd ps sp) (hr : Room (k + 1) X.A) (hb : Binds X.K fd ps [])
    (hx : ∀ σ, PassesAt CX X σ (E σ)) (I : Inv X pins σ H s) (r : Vals vs us)
    (h : ∀ x dx, H x = none → H dx = none → dx ≠ x → sp (.ref x :: vs) (upd (upd H dx (.own x)) x (.ins C dx [])) (fun v H2 => v = .non ∧ Q (.ref x) H2) (E σ)) :
    wpAny (model X.prog X.w) X.A (call (.ref C) us) (EP X pins σ Q) X.xe s := by
  have hq := h (s.heap.objs.size + 1) s.heap.objs.size (I.hok.fresh (Nat.le_succ _)) (I.hok.fresh (Nat.le_refl _)) (Nat.ne_of_lt (Nat.lt_succ_self _))
  have I2 := Inv.made (C := C) I
  have r2 : Vals (V.ref (s.heap.objs.size + 1) :: (vs ++ [])) (Value.ref (s.heap.objs.size + 1) :: (us ++ [])) := .cons rfl (r.append .nil)
  have hl : (Value.ref (s.heap.objs.size + 1) :: us ++ []).length = ps.length := by
    have e := r2.length
    rw [List.append_nil, F.len _ _ _ _ hq] at e
    exact e.symm
  rw [← List.append_nil vs] at hq
  have hb2 := hb _ (Value.ref (s.heap.objs.size + 1) :: us) I2.kIn hl
  rw [List.cons_append] at hb2
  refine wpAny_call (make_map (f := f) I.kIn M.makes M.init (beq_iff_eq.mp M.fn) (codeAny_mono (F.run _ X.stack _ _ ⟨Value.ref (s.heap.objs.size + 1) :: us, []⟩ (Value.ref (s.heap.objs.size + 1) :: (us ++ [])) _ _ (E σ) (hr.make C us [])
    (I2.env0.make C us []) hb2 r2 hq) fun r s' hq' => ?_))
  cases r with
  | error e => exact hx σ pins _ _ e s' I2 hq'
  | ok fl =>
    cases fl with
    | ret u =>
      obtain ⟨v, H', I3, rv, ev, q3⟩ := I2.after hq'
      subst ev
      exact ⟨rv, ⟨V.ref (s.heap.objs.size + 1), H', I3, rfl, q3⟩⟩
    | next => exact False.elim hq'
    | brk => exact False.elim hq'
    | cont => exact False.elim hq'
theorem pe_mkS {E : L2.St → XK} (M : Mn X.prog X.w X.K X.mg X.base CX C k ps sp) (hr : Room (k + 1) X.A) (gC : X.mg x = some (.ref C)) (hx : ∀ σ, PassesAt CX X σ (E σ)) (hg : Gl X x) (ha : PA X (e :: es) t) (hdb : (x == ("__debug__" : Str)) = false := by decide)
    (he : starEach (e :: es) X.env = (false, eval e X.env) :: starEach es X.env := by rfl) (hpl : (backTo pos (starEach es X.env)).any (·.1) = false := by rfl) : PE X (.Call (.Name x p) (e :: es) [] pos) (tMakeS C sp E t) := by
  obtain ⟨f, fd, h1, h2, h3⟩ := M.ex
  refine ⟨fun pins s σ H Q I h => ?_⟩
  refine wpAny_Call_Name_kw (ld_glob I hg gC ?_ hdb)
  refine PySem.W.callWith_K (h₀ := X.base) I.ok.mod.kin h1.kp (thn (ha.run pos pins s σ H _ I h) fun us s1 ⟨vs, H1, I1, r, q⟩ => ⟨I1.kIn, ?_⟩) he hpl
  exact run_makeS h1 h2 hr h3 hx I1 r q
end
section
variable {K : PySem.W.Frag} {σ : L2.St} {H H' : Hp} {ta tb tc te tv : TE} {x y z v : V} {t : TT} {D : Ends} {tz : TS}
theorem s_fldR {a C dx : Addr} {fs : List (Str × V)} {f : Str} {R : Addr → Hp → Prop} (hv : EvR tv σ H R) (h : ∀ H1, Ev ta σ H1 (.ref a)) (ho : H a = some (.ins C dx fs)) (hc : Cls K C) (hn : NoAttr K C f) (hz : fs.length < 1000)
    (k : ∀ q H1 H2, H q = none → Ex H H1 → R q H1 → Ex H1 H2 → D.nx σ (upd H2 a (.ins C dx (putF f (.ref q) fs)))) : sFld K ta tv f D σ H :=
  hv H (Ex.refl H) _ fun q H1 hq e1 hR => h H1 H1 (Ex.refl H1) _ fun H2 e2 => ⟨a, C, dx, fs, rfl, e2 _ _ (e1 _ _ ho), hc, hn, hz, k q H1 H2 hq e1 hR e2⟩
theorem el_lcR2 {ta : TA} {j : Nat} {vs : List Nat} {lo : Int} {n : Nat} (f : Nat → Bool) (v : Nat → V) (h : EvA ta σ H [.int lo, .int (lo + (n : Int))]) (hb : -1000000000 ≤ lo ∧ lo ≤ 1000000000) (hn : n ≤ 40000) (hw : ∀ x, wipe ((wipe σ vs).set j (some x)) vs = wipe σ vs)
    (ht : ∀ (i : Nat) H1, Ex H H1 → i < n → EvT t ((wipe σ vs).set j (some (.int (lo + (i : Int))))) H1 (f i)) (he : ∀ (i : Nat) H1, Ex H H1 → i < n → f i = true → Ev te ((wipe σ vs).set j (some (.int (lo + (i : Int))))) H1 (v i)) :
    EvL (tLc (iRng2 ta) (gName j) t te vs) σ H (given n f v) := fun H0 e Q q => h H0 e _ fun H1 e1 => by
  have hN : (lo + (n : Int) - lo).toNat = n := by omega
  refine ⟨lo, lo + (n : Int), rfl, ⟨by omega, by omega, by omega, by omega⟩, ?_⟩
  rw [hN]
  exact fun Dl hD => lc_range (lo := lo) (n := n) (Cw H1 f v Dl) ⟨hD, Ex.new hD, upd_same⟩ (fun i H' hi p => ⟨hw _, cw_turn p (by omega) (ht i H1 (e.trans e1) hi) (fun hf => he i H1 (e.trans e1) hi hf)⟩) (fun H' p => q Dl H' (fresh_back e1 p.1) (e1.trans p.2.1) p.2.2)
theorem et_orInt3 {o : Option Int} {b : Bool} (h : Ev ta σ H x) (hx : NumV K H x o) (hb : ∀ z, o = some z → x = .int z → Ev tb σ H (.bl b)) (hn : o = none → b = false) :
    EvT (tOr (tNot (tB (tCB (rIsi K) (tCons ta (tCons (tC (.ty "int")) tNil))))) (tOr (tB (tCB (rIsi K) (tCons ta (tCons (tC (.ty "bool")) tNil)))) (tNot (tTest tb)))) σ H (!b) := by
  cases hx with
  | int z => exact et_is (et_or (et_not (et_B (ev_isi h (ty_int z) kit_ii))) fun _ => et_or (et_B (ev_isi h (ty_int z) kit_ib)) fun _ => et_not (et_test (hb z rfl rfl))) (by cases b <;> rfl)
  | odd hy n =>
    obtain ⟨b1, b2, h1, h2, h3⟩ := n
    rw [hn rfl]
    cases b1 with
    | false => exact et_is (et_or (b := true) (et_not (et_B (ev_isi h hy h1))) fun q => nomatch q) rfl
    | true =>
      have hb2 : b2 = true := by cases b2 <;> simp_all
      subst hb2
      exact et_is (et_or (et_not (et_B (ev_isi h hy h1))) fun _ => et_or (b := true) (et_B (ev_isi h hy h2)) fun q => nomatch q) rfl
theorem q_pop {l : Addr} {xs : List V} {y : V} (hl : H l = some (.lst (xs ++ [y]))) (ha : Ev ta σ H (.ref l)) (k : ∀ H1, Ex H H1 → tz D σ (upd H1 l (.lst xs))) : tSeq (tDrop (tBM0 K "list" rPop ta)) tz D σ H :=
  ha H (Ex.refl H) _ fun H1 e1 => ⟨Or.inl ⟨rfl, _, sq_of (e1 l _ hl)⟩, l, xs ++ [y], y, rfl, rfl, e1 _ _ hl, by simp, by
    rw [List.dropLast_concat]
    exact k H1 e1⟩
end
section
variable {K : PySem.W.Frag} {H : Hp}
theorem LandL.last : ∀ {ls : List (Nat × Nat)} {l : Nat × Nat} {xs : List V}, LandL K H xs (ls ++ [l]) → ∃ ys q, xs = ys ++ [.ref q] ∧ LandL K H ys ls ∧ SqT K H q [.int (l.1 : Int), .int (l.2 : Int)]
  | [], l, [x], h => by
    obtain ⟨⟨q, rfl, hq⟩, _⟩ := h
    exact ⟨[], q, rfl, trivial, hq⟩
  | [], _, [], h => h.elim
  | [], _, _ :: _ :: _, h => h.2.elim
  | a :: ls, l, [], h => h.elim
  | a :: ls, l, x :: xs, h => by
    obtain ⟨h1, h2⟩ := h
    obtain ⟨ys, q, rfl, h3, h4⟩ := LandL.last (ls := ls) h2
    exact ⟨x :: ys, q, rfl, ⟨h1, h3⟩, h4⟩
theorem cut1 (x : V) (xs : List V) : cutV (x :: xs) (some 1) none = xs := by
  unfold cutV
  have h1 : HT.sIx (x :: xs).length 0 (some 1) = 1 := by
    unfold HT.sIx
    simp
  have h2 : HT.sIx (x :: xs).length (x :: xs).length none = (x :: xs).length := rfl
  rw [h1, h2]
  simp
end
end WF

set_option Elab.async false
set_option linter.all false
set_option maxRecDepth 100000
set_option maxHeartbeats 400000
/-! WNear: raw rows, cut and put together -/
namespace WF
open PySem L2 Evl
/-! ### x == [] -/
def rEqEL (K : PySem.W.Frag) : R2 := fun x y H Q => ∃ p q xs, x = .ref p ∧ y = .ref q ∧ SqL K H p xs ∧ SqL K H q [] ∧ Q (.bl xs.isEmpty) H
theorem op_eqEL {X : Cx} (hu : X.A.units + 1 < cLine) : OpR X (compareOp .Eq) (rEqEL X.K) := by
  intro pins s σ H x y v u Q I rx ry h
  obtain ⟨p, q, xs, rfl, rfl, h1, h2, hq⟩ := h
  cases rx
  cases ry
  obtain ⟨its, r, pl, hz⟩ := I.list h1
  obtain ⟨its2, r2, pl2, hz2⟩ := I.list h2
  have e2 : its2 = [] := by
    have := r2.length
    exact List.length_eq_zero_iff.mp (by simpa using this.symm)
  subst e2
  cases xs with
  | nil =>
    have e : its = [] := List.length_eq_zero_iff.mp (by simpa using r.length.symm)
    subst e
    refine SeqAt.RcAt.lists (A := X.A) (e := fun _ => true) pl.isList pl2.isList rfl (by omega) (fun j h1 h2 => absurd h2 (by simp)) _ _ _ _ ?_
    exact ⟨.bl _, H, I, rfl, hq⟩
  | cons a l =>
    refine SeqAt.RcAt.lists_lengths (A := X.A) pl.isList pl2.isList ?_ (by omega) _ _ _ _ ?_
    · have := r.length
      cases its with
      | nil => simp at this
      | cons b l2 => simp
    · exact ⟨.bl _, H, I, rfl, hq⟩
def leafV : List V := [.str "weekday", .str "first", .str "monthday"]
theorem w1_weekday : inV (.str "weekday") pairsV = false := by decide +kernel
theorem w2_weekday : inV (.str "weekday") leafV = true := by decide +kernel
theorem w1_first : inV (.str "first") pairsV = false := by decide +kernel
theorem w2_first : inV (.str "first") leafV = true := by decide +kernel
theorem w1_monthday : inV (.str "monthday") pairsV = false := by decide +kernel
theorem w2_monthday : inV (.str "monthday") leafV = true := by decide +kernel
theorem w1_behind : inV (.str "behind") pairsV = false := by decide +kernel
theorem w2_behind : inV (.str "behind") leafV = false := by decide +kernel
theorem w1_both : inV (.str "both") pairsV = true := by decide +kernel
theorem w2_both : inV (.str "both") leafV = false := by decide +kernel
theorem w1_either : inV (.str "either") pairsV = true := by decide +kernel
theorem w2_either : inV (.str "either") leafV = false := by decide +kernel
theorem w1_without : inV (.str "without") pairsV = true := by decide +kernel
theorem w2_without : inV (.str "without") leafV = false := by decide +kernel
def pairB : Rl → Bool
  | .bo _ _ | .ei _ _ | .wo _ _ => true
  | _ => false
def leafB : Rl → Bool
  | .wk _ | .fs _ | .md _ => true
  | _ => false
theorem sl_listK {X : Cx} {K : PySem.W.Frag} (hK : X.K = K := by rfl) : SlR X (rSlL K) := by
  subst hK
  exact sl_list
section
variable {K : PySem.W.Frag} {σ : L2.St} {H H' : Hp} {ta tb tc te tu : TE} {tl th : TO} {v x : V} {xs ys : List V} {rows rows' : Rows} {r : Rl} {D : Ends} {b : Bool}
theorem ev_eqEL {a : Addr} (h : Ev ta σ H (.ref a)) (hs : SqL K H a xs) : Ev (tOp (rEqEL K) ta (tLst tNil)) σ H (.bl xs.isEmpty) := fun H1 e Q q =>
  h H1 e _ fun H2 e2 => ⟨Nat.zero_le _, fun p hp => ⟨a, p, xs, rfl, rfl, ex_l ((e.trans e2).trans (Ex.new hp)) hs, sq_of upd_same, q _ (e2.trans (Ex.new hp))⟩⟩
theorem RlAt.word (h : RlAt K H v r) : ∃ p s ys, v = .ref p ∧ SqT K H p (.str s :: ys) ∧ inV (.str s) pairsV = pairB r ∧ inV (.str s) leafV = leafB r := by
  cases h with
  | wk h => exact ⟨_, _, _, rfl, h, w1_weekday, w2_weekday⟩
  | fs h => exact ⟨_, _, _, rfl, h, w1_first, w2_first⟩
  | md h => exact ⟨_, _, _, rfl, h, w1_monthday, w2_monthday⟩
  | bh h _ => exact ⟨_, _, _, rfl, h, w1_behind, w2_behind⟩
  | bo h _ _ => exact ⟨_, _, _, rfl, h, w1_both, w2_both⟩
  | ei h _ _ => exact ⟨_, _, _, rfl, h, w1_either, w2_either⟩
  | wo h _ _ => exact ⟨_, _, _, rfl, h, w1_without, w2_without⟩
theorem et_pairB {i : Nat} (hi : σ[i]? = some (some v)) (h : RlAt K H v r) : EvT (tTest (tOp (rIn K false) (tOp (rIxT K) (tVar i) (tC (.int 0))) (tTup (tCons (tC (.str "both")) (tCons (tC (.str "either")) (tCons (tC (.str "without")) tNil)))))) σ H (pairB r) := by
  obtain ⟨p, s, ys, rfl, hT, h1, h2⟩ := h.word
  exact et_is (et_test (ev_inU (xs := pairsV) (ev_ixT (ev_var hi) hT at0) (eu_tup (ea_cons ev_c (ea_cons ev_c (ea_cons ev_c ea_nil))) (by show 3 ≤ 100000; decide)) rfl rfl)) h1
theorem et_leafB {i : Nat} (hi : σ[i]? = some (some v)) (h : RlAt K H v r) : EvT (tTest (tOp (rIn K false) (tOp (rIxT K) (tVar i) (tC (.int 0))) (tTup (tCons (tC (.str "weekday")) (tCons (tC (.str "first")) (tCons (tC (.str "monthday")) tNil)))))) σ H (leafB r) := by
  obtain ⟨p, s, ys, rfl, hT, h1, h2⟩ := h.word
  exact et_is (et_test (ev_inU (xs := leafV) (ev_ixT (ev_var hi) hT at0) (eu_tup (ea_cons ev_c (ea_cons ev_c (ea_cons ev_c ea_nil))) (by show 3 ≤ 100000; decide)) rfl rfl)) h2
theorem RawL.app : ∀ {xs ys : List V} {rs ss : Rows}, RawL K H xs rs → RawL K H ys ss → RawL K H (xs ++ ys) (rs ++ ss)
  | [], _, [], _, _, h => h
  | _ :: _, _, _ :: _, _, h, g => ⟨h.1, RawL.app h.2 g⟩
  | [], _, _ :: _, _, h, _ => h.elim
  | _ :: _, _, [], _, h, _ => h.elim
theorem RawL.take : ∀ {xs : List V} {rs : Rows} (n : Nat), RawL K H xs rs → RawL K H (xs.take n) (rs.take n)
  | [], [], n, _ => by simp; trivial
  | _ :: _, _ :: _, 0, h => trivial
  | _ :: _, _ :: _, n + 1, h => ⟨h.1, RawL.take n h.2⟩
  | [], _ :: _, _, h => h.elim
  | _ :: _, [], _, h => h.elim
theorem RawL.drop : ∀ {xs : List V} {rs : Rows} (n : Nat), RawL K H xs rs → RawL K H (xs.drop n) (rs.drop n)
  | [], [], n, _ => by simp; trivial
  | _ :: _, _ :: _, 0, h => h
  | _ :: _, _ :: _, n + 1, h => RawL.drop n h.2
  | [], _ :: _, _, h => h.elim
  | _ :: _, [], _, h => h.elim
theorem RawL.rev : ∀ {xs : List V} {rs : Rows}, RawL K H xs rs → RawL K H xs.reverse rs.reverse
  | [], [], _ => trivial
  | x :: xs, r :: rs, h => by
    rw [List.reverse_cons, List.reverse_cons]
    exact RawL.snoc (RawL.rev h.2) h.1
  | [], _ :: _, h => h.elim
  | _ :: _, [], h => h.elim
theorem cut_take {k : Nat} (h : k ≤ xs.length) : cutV xs none (some (k : Int)) = xs.take k := by
  unfold cutV
  have h1 : HT.sIx xs.length 0 none = 0 := rfl
  rw [h1, HT.sIx_nat, List.drop_zero, Nat.min_eq_left h, Nat.sub_zero]
theorem cut_drop {k : Nat} : cutV xs (some (k : Int)) none = xs.drop k := by
  unfold cutV
  have h1 : HT.sIx xs.length xs.length none = xs.length := rfl
  rw [h1, HT.sIx_nat]
  rcases Nat.le_total k xs.length with h | h
  · rw [Nat.min_eq_left h]
    exact List.take_of_length_le (by rw [List.length_drop]; exact Nat.le_refl _)
  · rw [Nat.min_eq_right h, List.drop_eq_nil_of_le (Nat.le_refl _), List.drop_eq_nil_of_le h, List.take_nil]
/-- a new list of raw rows -/
def RawN (K : PySem.W.Frag) (rows : Rows) (p : Addr) (H : Hp) : Prop := ∃ ys, H p = some (.lst ys) ∧ RawL K H ys rows
theorem RawN.mono {p : Addr} (e : Ex H H') (h : RawN K rows p H) : RawN K rows p H' := by
  obtain ⟨ys, h1, h2⟩ := h
  exact ⟨ys, e _ _ h1, h2.kn (KeepN.of e)⟩
theorem er_rawC (h1 : EvR ta σ H (RawN K rows)) (h2 : EvR tb σ H (RawN K rows')) (hn : rows.length + rows'.length ≤ 100) : EvR (tOp rCat ta tb) σ H (RawN K (rows ++ rows')) := fun H1 e Q q =>
  h1 H1 e _ fun p H2 hp e2 ⟨ys, k1, l1⟩ => h2 H2 (e.trans e2) _ fun p2 H3 hp2 e3 ⟨zs, k2, l2⟩ => ⟨p, p2, ys, zs, rfl, rfl, e3 _ _ k1, k2, Evl.sz_of (by rw [l1.len, l2.len]; omega), fun p3 hp3 => q p3 _ (fresh_back (e2.trans e3) hp3) ((e2.trans e3).trans (Ex.new hp3)) ⟨ys ++ zs, upd_same, (l1.kn (KeepN.of (e3.trans (Ex.new hp3)))).app (l2.kn (KeepN.of (Ex.new hp3)))⟩⟩
theorem er_rawA {a : Addr} {i k : Nat} (h : Ev ta σ H (.ref a)) (hs : SqL K H a xs) (hl : RawL K H xs rows) (hk : Ev te σ H (.int (k : Int))) (hz : k ≤ rows.length) : EvR (tSl (rSlL K) ta tNoPart (tPart te)) σ H (RawN K (rows.take k)) := fun H1 e Q q =>
  el_sl h eo_none (eo_some hk) hs H1 e Q fun p H2 hp e2 h2 => q p H2 hp e2 ⟨_, h2, by rw [cut_take (by rw [hl.len]; exact hz)]; exact (hl.take k).kn (KeepN.of (e.trans e2))⟩
theorem er_rawB {a : Addr} {i k : Nat} (h : Ev ta σ H (.ref a)) (hs : SqL K H a xs) (hl : RawL K H xs rows) (hk : Ev te σ H (.int (k : Int))) : EvR (tSl (rSlL K) ta (tPart te) tNoPart) σ H (RawN K (rows.drop k)) := fun H1 e Q q =>
  el_sl h (eo_some hk) eo_none hs H1 e Q fun p H2 hp e2 h2 => q p H2 hp e2 ⟨_, h2, by rw [cut_drop]; exact (hl.drop k).kn (KeepN.of (e.trans e2))⟩
theorem er_raw1 {r : Rl × Bool} (h : EvX tu σ H fun y H2 => RawAt K H2 y r) : EvR (tLst (tCons tu tNil)) σ H (RawN K [r]) := fun H1 e Q q =>
  h H1 e _ fun y H2 e2 hy => ⟨by show 1 ≤ sizeLine; decide, fun p hp => q p _ (fresh_back e2 hp) (e2.trans (Ex.new hp)) ⟨[y], upd_same, hy.kn (KeepN.of (Ex.new hp)), trivial⟩⟩
/-- (rule, truth), the rule itself made on the way -/
theorem ex_raw (ha : EvX ta σ H fun v H2 => RlAt K H2 v r) (hb : ∀ H1, Ev tb σ H1 (.bl b)) : EvX (tTup (tCons ta (tCons tb tNil))) σ H fun y H2 => RawAt K H2 y (r, b) := fun H1 e Q q =>
  ha H1 e _ fun v H2 e2 hv => hb H2 H2 (Ex.refl H2) _ fun H3 e3 => ⟨by show 2 ≤ sizeLine; decide, fun p hp => q _ _ ((e2.trans e3).trans (Ex.new hp)) ⟨p, v, rfl, st_of upd_same, hv.mono (e3.trans (Ex.new hp))⟩⟩
theorem er_rawR {a : Addr} (h : Ev ta σ H (.ref a)) (hs : SqL K H a xs) (hl : RawL K H xs rows) : EvR (tRevL K ta) σ H (RawN K rows.reverse) := fun H1 e Q q =>
  h H1 e _ fun H2 e2 => ⟨a, xs, rfl, ex_l (e.trans e2) hs, fun p hp => q p _ (fresh_back e2 hp) (e2.trans (Ex.new hp)) ⟨_, upd_same, hl.rev.kn (KeepN.of ((e.trans e2).trans (Ex.new hp)))⟩⟩
theorem er_rawV {a : Addr} (h : Ev ta σ H (.ref a)) (hs : H a = some (.lst xs)) (hl : RawL K H xs rows) : ∀ H1, Ex H H1 → ∀ Q : VK, (∀ H2, Ex H1 H2 → RawN K rows a H2 → Q (.ref a) H2) → ta σ H1 Q := fun H1 e Q q =>
  h H1 e _ fun H2 e2 => q H2 e2 ⟨xs, (e.trans e2) _ _ hs, hl.kn (KeepN.of (e.trans e2))⟩
/-- xs + [..], xs one that stands -/
theorem er_rawC1 {a : Addr} (h : Ev ta σ H (.ref a)) (hs : H a = some (.lst xs)) (hl : RawL K H xs rows) (h2 : EvR tb σ H (RawN K rows')) (hn : rows.length + rows'.length ≤ 100) : EvR (tOp rCat ta tb) σ H (RawN K (rows ++ rows')) := fun H1 e Q q =>
  h H1 e _ fun H2 e2 => h2 H2 (e.trans e2) _ fun p2 H3 hp2 e3 ⟨zs, k2, l2⟩ => ⟨a, p2, xs, zs, rfl, rfl, ((e.trans e2).trans e3) _ _ hs, k2, Evl.sz_of (by rw [hl.len, l2.len]; omega), fun p3 hp3 => q p3 _ (fresh_back (e2.trans e3) hp3) ((e2.trans e3).trans (Ex.new hp3)) ⟨xs ++ zs, upd_same, (hl.kn (KeepN.of (((e.trans e2).trans e3).trans (Ex.new hp3)))).app (l2.kn (KeepN.of (Ex.new hp3)))⟩⟩
end
/-! ### rows of which one is put, left out -/
theorem bys_app (a b : Rows) : rowsBys (a ++ b) = rowsBys a + rowsBys b := by
  unfold rowsBys
  rw [List.map_append, List.sum_append]
theorem bys_split {rows : Rows} {k : Nat} {r : Rl × Bool} (h : rows[k]? = some r) : rowsBys rows = rowsBys (rows.take k) + r.1.bys + rowsBys (rows.drop (k + 1)) := by
  have hs : rows = rows.take (k + 1) ++ rows.drop (k + 1) := (List.take_append_drop _ _).symm
  conv => lhs; rw [hs]
  rw [bys_app, take_more h, bys_app]
  unfold rowsBys
  simp
theorem rows_out {n : Nat} {rows : Rows} {k : Nat} {r : Rl × Bool} (h : rows[k]? = some r) (ok : RowsOk n rows) : RowsOk n (rows.take k ++ rows.drop (k + 1)) := by
  have := ok.bys
  have hs := bys_split h
  refine ⟨by rw [bys_app]; omega, fun q hq => ok.fit q ?_⟩
  rcases List.mem_append.mp hq with hq | hq
  · exact List.mem_of_mem_take hq
  · exact List.mem_of_mem_drop hq
theorem rows_put {n : Nat} {rows : Rows} {k : Nat} {r q : Rl × Bool} (h : rows[k]? = some r) (ok : RowsOk n rows) (hb : q.1.bys ≤ r.1.bys) (hf : q.1.fit = true) (hp : q.1.parts ≤ n) : RowsOk n ((rows.take k ++ [q]) ++ rows.drop (k + 1)) := by
  have := ok.bys
  have hs := bys_split h
  refine ⟨?_, fun z hz => ?_⟩
  · rw [bys_app, bys_app]
    have : rowsBys [q] = q.1.bys := by unfold rowsBys; simp
    omega
  · rcases List.mem_append.mp hz with hz | hz
    · rcases List.mem_append.mp hz with hz | hz
      · exact ok.fit z (List.mem_of_mem_take hz)
      · rw [List.mem_singleton] at hz
        subst hz
        exact ⟨hf, hp⟩
    · exact ok.fit z (List.mem_of_mem_drop hz)
theorem out_len {rows : Rows} {k : Nat} {r : Rl × Bool} (h : rows[k]? = some r) : (rows.take k ++ rows.drop (k + 1)).length ≤ rows.length := by
  rw [List.length_append, List.length_take, List.length_drop]
  have := (List.getElem?_eq_some_iff.mp h).1
  omega
theorem put_len {rows : Rows} {k : Nat} {r q : Rl × Bool} (h : rows[k]? = some r) : ((rows.take k ++ [q]) ++ rows.drop (k + 1)).length = rows.length := by
  rw [List.length_append, List.length_append, List.length_take, List.length_drop]
  have := (List.getElem?_eq_some_iff.mp h).1
  simp
  omega
theorem rows_rev {n : Nat} {rows : Rows} (ok : RowsOk n rows) : RowsOk n rows.reverse := by
  refine ⟨?_, fun q hq => ok.fit q (List.mem_reverse.mp hq)⟩
  have : rowsBys rows.reverse = rowsBys rows := by
    unfold rowsBys
    rw [List.map_reverse, List.sum_reverse]
  rw [this]
  exact ok.bys
theorem rows_snoc {n : Nat} {rows : Rows} {q : Rl × Bool} (ok : RowsOk n rows) (hb : q.1.bys = 0) (hf : q.1.fit = true) (hp : q.1.parts ≤ n) : RowsOk n (rows ++ [q]) := by
  have := ok.bys
  refine ⟨?_, fun z hz => ?_⟩
  · rw [bys_app]
    have : rowsBys [q] = q.1.bys := by unfold rowsBys; simp
    omega
  · rcases List.mem_append.mp hz with hz | hz
    · exact ok.fit z hz
    · rw [List.mem_singleton] at hz
      subst hz
      exact ⟨hf, hp⟩
theorem RowsOk.mono {n m : Nat} {rows : Rows} (ok : RowsOk n rows) (h : n ≤ m) : RowsOk m rows := ⟨ok.bys, fun r hr => ⟨(ok.fit r hr).1, Nat.le_trans (ok.fit r hr).2 h⟩⟩
/-- the two within change places -/
def swapR : Rl → Rl
  | .bo x y => .bo y x
  | .ei x y => .ei y x
  | .wo x y => .wo y x
  | r => r
theorem swap_bys : ∀ r : Rl, (swapR r).bys = r.bys ∧ (swapR r).parts = r.parts ∧ (swapR r).fit = r.fit
  | .wk _ | .fs _ | .md _ | .bh _ _ => ⟨rfl, rfl, rfl⟩
  | .bo x y | .ei x y | .wo x y => ⟨Nat.add_comm _ _, by show 1 + y.parts + x.parts = 1 + x.parts + y.parts; omega, Bool.and_comm _ _⟩
end WF

set_option Elab.async false
set_option linter.all false
set_option maxRecDepth 100000
set_option maxHeartbeats 400000
/-! WTup: tuples of rows, cut and put together -/
namespace WF
open PySem L2 Evl PyProof.Rows
theorem sw2 {x y : Str} {f g : Expr} {as bs : List Expr} {pa pb px py pt : Pos} {kt k2 pt2} {env : Env} (hb : env.blockKind = .function) (hx : env.scope.names.lookup x = some .local) (hy : env.scope.names.lookup y = some .local) (hl : py.line = px.line) (hn : (x == y) = false) :
    swappedStores [.Tuple [.Name x px, .Name y py] kt pt] (.Tuple [.Call f as [] pa, .Call g bs [] pb] k2 pt2) env = pure (some [x, y]) := by
  have h1 : foldedForSure 8 (.Call f as [] pa) = false := rfl
  have h3 : constantsAlone 8 (.Call f as [] pa) = false := rfl
  have hn' : (y == x) = false := by
    rw [beq_eq_false_iff_ne] at hn ⊢
    exact hn.symm
  have p1 : (Expr.Name x px).pos = px := rfl
  unfold swappedStores
  simp only [hb]
  simp [h1, h3, List.eraseDups_cons, hn, hn', Env.kindOf, hx, hy, hl, List.filterMap_cons, p1]
def rCatTA (K : PySem.W.Frag) : R2 := fun x y H Q => ∃ a b xs ys, x = .ref a ∧ y = .ref b ∧ SqT K H a xs ∧ SqT K H b ys ∧ xs.length + ys.length ≤ sizeLine ∧ (xs = [] → Q (.ref b) H) ∧ (xs ≠ [] → ys = [] → Q (.ref a) H) ∧ (xs ≠ [] → ys ≠ [] → ∀ p, H p = none → Q (.ref p) (upd H p (.tup (xs ++ ys))))
theorem op_catTA {X : Cx} : OpR X (binaryOp .Add) (rCatTA X.K) := by
  intro pins s σ H x y v u Q I rx ry h
  have h' := h
  obtain ⟨a, b, xs, ys, rfl, rfl, ha, hb, hz, q0, q1, q2⟩ := h
  by_cases hx : xs = []
  · cases rx
    cases ry
    obtain ⟨its, r1, p1, _⟩ := I.tuple ha
    obtain ⟨its2, r2, p2, _⟩ := I.tuple hb
    have hv : its = [] := r1.nil_iff.mpr hx
    obtain ⟨⟨cls, dd, data, sl⟩, ho, hc, n, hd⟩ := id p1
    obtain ⟨⟨cls2, dd2, data2, sl2⟩, ho2, hc2, n2, hd2⟩ := id p2
    simp only at hc hd hc2 hd2
    subst hc hd hc2 hd2
    exact concat_meets ⟨_, ho, rfl⟩ ⟨_, ho2, rfl⟩ noFill_tuple_add seq_tuple_add PySem.F.slot_tuple_add PySem.F.entry_tuple_add (PySem.F.args_tuple_add_2 _ _)
      (tuple_addW0 a b its.toArray its2.toArray n n2 dd dd2 sl sl2 (by simp [hv])) ⟨ho, ho2, ⟨.ref b, H, I, rfl, q0 hx⟩⟩
  · exact op_catT pins s σ H (.ref a) (.ref b) v u Q I rx ry ⟨a, b, xs, ys, rfl, rfl, ha, hb, hx, hz, q1 hx, q2 hx⟩
section
variable {K : PySem.W.Frag} {CF : Addr} {σ : L2.St} {H H' : Hp} {ta tb tc te tu : TE} {tl th : TO} {v x : V} {xs ys : List V} {rows rows' : Rows} {D : Ends}
theorem RowsL.app : ∀ {xs ys : List V} {rs ss : Rows}, RowsL K CF H xs rs → RowsL K CF H ys ss → RowsL K CF H (xs ++ ys) (rs ++ ss)
  | [], _, [], _, _, h => h
  | _ :: _, _, _ :: _, _, h, g => ⟨h.1, RowsL.app h.2 g⟩
  | [], _, _ :: _, _, h, _ => h.elim
  | _ :: _, _, [], _, h, _ => h.elim
theorem RowsL.take : ∀ {xs : List V} {rs : Rows} (n : Nat), RowsL K CF H xs rs → RowsL K CF H (xs.take n) (rs.take n)
  | [], [], n, _ => by simp; trivial
  | _ :: _, _ :: _, 0, h => trivial
  | _ :: _, _ :: _, n + 1, h => ⟨h.1, RowsL.take n h.2⟩
  | [], _ :: _, _, h => h.elim
  | _ :: _, [], _, h => h.elim
theorem RowsL.drop : ∀ {xs : List V} {rs : Rows} (n : Nat), RowsL K CF H xs rs → RowsL K CF H (xs.drop n) (rs.drop n)
  | [], [], n, _ => by simp; trivial
  | _ :: _, _ :: _, 0, h => h
  | _ :: _, _ :: _, n + 1, h => RowsL.drop n h.2
  | [], _ :: _, _, h => h.elim
  | _ :: _, [], _, h => h.elim
theorem ex_rowsA {a : Addr} {k : Nat} (h : Ev ta σ H (.ref a)) (hs : SqT K H a xs) (hl : RowsL K CF H xs rows) (hk : Ev te σ H (.int (k : Int))) (hz : k < rows.length) : EvX (tSl (rSlT K) ta tNoPart (tPart te)) σ H (fun y H2 => ∃ p, y = .ref p ∧ SqT K H2 p (xs.take k)) := fun H1 e Q q =>
  h H1 e _ fun H2 e2 => hk H2 (e.trans e2) _ fun H3 e3 => ⟨(k : Int), rfl, a, xs, rfl, ex_t ((e.trans e2).trans e3) hs, (fun z => by
    have hl' := hl.len
    rw [HT.sIx_nat, Nat.min_eq_left (by omega)] at z
    omega), fun p hp => q (.ref p) _ ((e2.trans e3).trans (Ex.new hp)) ⟨p, rfl, by
      rw [← cut_take (xs := xs) (k := k) (by rw [hl.len]; omega)]
      exact st_of upd_same⟩⟩
theorem ex_rowsB {a : Addr} {k : Nat} (h : Ev ta σ H (.ref a)) (hs : SqT K H a xs) (hk : Ev te σ H (.int (k : Int))) (hz : 1 ≤ k) (hn : 1 ≤ xs.length) : EvX (tSl (rSlT K) ta (tPart te) tNoPart) σ H (fun y H2 => ∃ p, y = .ref p ∧ SqT K H2 p (xs.drop k)) := fun H1 e Q q =>
  h H1 e _ fun H2 e2 => hk H2 (e.trans e2) _ fun H3 e3 => ⟨(k : Int), rfl, a, xs, rfl, ex_t ((e.trans e2).trans e3) hs, (fun z => by
    rw [HT.sIx_nat] at z
    omega), fun p hp => q (.ref p) _ ((e2.trans e3).trans (Ex.new hp)) ⟨p, rfl, by
      rw [← cut_drop (xs := xs) (k := k)]
      exact st_of upd_same⟩⟩
theorem ex_catT (h1 : EvX ta σ H fun y H2 => ∃ p, y = .ref p ∧ SqT K H2 p xs) (h2 : EvX tb σ H fun y H2 => ∃ p, y = .ref p ∧ SqT K H2 p ys) (hz : xs.length + ys.length ≤ 100000) : EvX (tOp (rCatTA K) ta tb) σ H fun y H2 => ∃ p, y = .ref p ∧ SqT K H2 p (xs ++ ys) := fun H1 e Q q =>
  h1 H1 e _ fun y1 H2 e2 ⟨p1, hy1, k1⟩ => h2 H2 (e.trans e2) _ fun y2 H3 e3 ⟨p2, hy2, k2⟩ => ⟨p1, p2, xs, ys, hy1, hy2, ex_t e3 k1, k2, Evl.sz_of hz, (fun hx => by
    subst hx
    exact q _ H3 (e2.trans e3) ⟨p2, rfl, k2⟩), (fun _ hy => by
    subst hy
    exact q _ H3 (e2.trans e3) ⟨p1, rfl, by rw [List.append_nil]; exact ex_t e3 k1⟩), fun _ _ p hp => q _ _ ((e2.trans e3).trans (Ex.new hp)) ⟨p, rfl, st_of upd_same⟩⟩
/-- (*xs, a, b, *ys) -/
theorem ex_starT {tx ty : TE} {a b : V} (h1 : EvX tx σ H fun y H2 => ∃ p, y = .ref p ∧ SqT K H2 p xs) (ha : Ev ta σ H a) (hb : Ev tb σ H b) (h2 : EvX ty σ H fun y H2 => ∃ p, y = .ref p ∧ SqT K H2 p ys) (hz : xs.length + ys.length ≤ 10000) :
    EvX (tTup (StX.tStar K tx (tCons ta (tCons tb (StX.tStar K ty tNil))))) σ H fun y H2 => ∃ p, y = .ref p ∧ SqT K H2 p (xs ++ ([a, b] ++ ys)) := fun H1 e Q q =>
  h1 H1 e _ fun y1 H2 e2 ⟨p1, hy1, k1⟩ => ⟨p1, xs, hy1, .inl k1, ha H2 (e.trans e2) _ fun H3 e3 => hb H3 ((e.trans e2).trans e3) _ fun H4 e4 => h2 H4 (((e.trans e2).trans e3).trans e4) _ fun y2 H5 e5 ⟨p2, hy2, k2⟩ => ⟨p2, ys, hy2, .inl k2, by
    refine ⟨Evl.sz_of (by simp; omega), fun p hp => q _ _ ((((e2.trans e3).trans e4).trans e5).trans (Ex.new hp)) ⟨p, rfl, ?_⟩⟩
    have : upd H5 p (.tup (xs ++ a :: b :: (ys ++ []))) p = some (.tup (xs ++ ([a, b] ++ ys))) := by
      rw [List.append_nil]
      exact upd_same
    exact st_of this⟩⟩
end
/-- a row left out; two that change places -/
def outRow (rows : Rows) (k : Nat) : Rows := rows.take k ++ rows.drop (k + 1)
def swapRow (rows : Rows) (k : Nat) : Rows := rows.take k ++ ([rows.getD (k + 1) (.wk 0, false), rows.getD k (.wk 0, false)] ++ rows.drop (k + 2))
theorem dep_lt : ∀ {rows : Rows}, depMax rows < 5 ↔ ∀ r ∈ rows, r.1.dep < 5
  | [] => ⟨fun _ _ h => (nomatch h), fun _ => (by decide : 0 < 5)⟩
  | a :: rows => by
    have ih := dep_lt (rows := rows)
    have e : depMax (a :: rows) = max a.1.dep (depMax rows) := rfl
    constructor
    · intro h r hr
      rw [e] at h
      rcases List.mem_cons.mp hr with rfl | hr
      · omega
      · exact ih.mp (by omega) r hr
    · intro h
      rw [e]
      have h1 := h a List.mem_cons_self
      have h2 := ih.mpr fun r hr => h r (List.mem_cons_of_mem _ hr)
      omega
theorem out_mem {rows : Rows} {k : Nat} {r : Rl × Bool} (h : r ∈ outRow rows k) : r ∈ rows := by
  rcases List.mem_append.mp h with h | h
  · exact List.mem_of_mem_take h
  · exact List.mem_of_mem_drop h
theorem swap_mem {rows : Rows} {k : Nat} (hk : k + 1 < rows.length) {r : Rl × Bool} (h : r ∈ swapRow rows k) : r ∈ rows := by
  rcases List.mem_append.mp h with h | h
  · exact List.mem_of_mem_take h
  · rcases List.mem_append.mp h with h | h
    · simp only [List.mem_cons, List.not_mem_nil, or_false] at h
      rcases h with rfl | rfl
      · exact getD_mem hk
      · exact getD_mem (by omega)
    · exact List.mem_of_mem_drop h
theorem getD_get {rows : Rows} {k : Nat} (hk : k < rows.length) : rows[k]? = some (rows.getD k (.wk 0, false)) := by
  rw [List.getD_eq_getElem?_getD, List.getElem?_eq_getElem hk]
  rfl
theorem swap_len {rows : Rows} {k : Nat} (hk : k + 1 < rows.length) : (swapRow rows k).length = rows.length := by
  unfold swapRow
  rw [List.length_append, List.length_append, List.length_take, List.length_drop]
  simp
  omega
def needL (rows : Rows) (r n : Nat) : List Nat := (List.range n).filter fun k => (unlikeO rows (outRow rows k) (enoughL r)).isNone
def swapL (rows : Rows) (r n : Nat) : List Nat := (List.range n).filter fun k => (unlikeO rows (swapRow rows k) (enoughL r)).isNone
end WF

set_option Elab.async false
set_option linter.all false
set_option maxRecDepth 100000
set_option maxHeartbeats 400000
/-! WDictB: a dict whose keys are truths -/
namespace WF
open PySem L2 Evl PyProof.Rows
def kb (b : Bool) : Leaf := .num (if b = true then 1 else 0)
theorem kb_is {P : Program} {w : World} (b : Bool) : (leafKind P w).is (kb b) (.bool b) = true := by
  show decide ((if b = true then 1 else 0) = (if b = true then (1 : Int) else 0)) = true
  exact decide_eq_true rfl
theorem kb_inj {a b : Bool} (h : kb a = kb b) : a = b := by
  cases a <;> cases b <;> first | rfl | exact absurd h (by decide)
/-- the pairs: truths, values, in the order of insertion -/
inductive KBs : List (Bool × V) → List (Leaf × Value) → Prop
  | nil : KBs [] []
  | cons {b : Bool} {v : V} {u : Value} {ps qs} (r : RelV v u) (t : KBs ps qs) : KBs ((b, v) :: ps) ((kb b, u) :: qs)
theorem KBs.len : ∀ {ps qs}, KBs ps qs → ps.length = qs.length
  | _, _, .nil => rfl
  | _, _, .cons _ t => congrArg (· + 1) t.len
theorem KBs.val (b : Bool) : ∀ {ps qs}, KBs ps qs → RelO (ps.lookup b) (valueAt qs (kb b))
  | _, _, .nil => trivial
  | _, _, .cons (b := c) (v := v) (u := u) (ps := ps) (qs := qs) r t => by
    have ih := t.val b
    by_cases h : b = c
    · subst h
      have e1 : ((b, v) :: ps).lookup b = some v := by simp [List.lookup]
      have e2 : valueAt ((kb b, u) :: qs) (kb b) = some u := by unfold valueAt; simp
      rw [e1, e2]
      exact r
    · have e1 : ((c, v) :: ps).lookup b = ps.lookup b := by
        have : (b == c) = false := by simpa using h
        simp [List.lookup, this]
      have e2 : valueAt ((kb c, u) :: qs) (kb b) = valueAt qs (kb b) := by
        unfold valueAt
        have : ¬ kb c = kb b := fun z => h (kb_inj z).symm
        simp [this]
      rw [e1, e2]
      exact ih
theorem KBs.snoc {b : Bool} {v : V} {u : Value} (r : RelV v u) : ∀ {ps qs}, KBs ps qs → KBs (ps ++ [(b, v)]) (qs ++ [(kb b, u)])
  | _, _, .nil => .cons r .nil
  | _, _, .cons r' t => .cons r' (t.snoc r)
theorem KBs.absent {b : Bool} : ∀ {ps qs}, KBs ps qs → ps.lookup b = none → (qs.any fun kv => decide (kv.1 = kb b)) = false
  | _, _, .nil, _ => rfl
  | _, _, .cons (b := c) (v := v) (u := u) (ps := ps) (qs := qs) r t, h => by
    by_cases hc : b = c
    · subst hc
      simp [List.lookup] at h
    · have e1 : ((c, v) :: ps).lookup b = ps.lookup b := by
        have : (b == c) = false := by simpa using hc
        simp [List.lookup, this]
      rw [e1] at h
      have : ¬ kb c = kb b := fun z => hc (kb_inj z).symm
      rw [List.any_cons, t.absent h]
      simp [this]
def dB (P : Program) (w : World) (a : Addr) (kvs : List (Bool × V)) : HO := .ext fun h => (a == sysModules) = false ∧ ∃ vs, KBs kvs vs ∧ h.DictOf (leafKind P w) a vs
section
variable {P : Program} {w : World} {H : Hp} {h : Heap} {a : Addr} {kvs : List (Bool × V)}
theorem dB_ok {vs : List (Leaf × Value)} (h1 : (a == sysModules) = false) (h2 : KBs kvs vs) (h3 : h.DictOf (leafKind P w) a vs) : ObjOk P w H h a (dB P w a kvs) := by
  obtain ⟨o, es, ep, ho, hr⟩ := id h3
  exact ⟨⟨h1, vs, h2, h3⟩, ⟨o, ho⟩, fun g1 g2 ⟨z1, vs', z2, o', es', ep', ho', hr'⟩ k => ⟨z1, vs', z2, o', es', ep', k _ ho', hr'⟩⟩
theorem dB_at (hok : HOk P w H h) (e : H a = some (dB P w a kvs)) : (a == sysModules) = false ∧ ∃ vs, KBs kvs vs ∧ h.DictOf (leafKind P w) a vs := by
  have x : ObjOk P w H h a (.ext fun h => (a == sysModules) = false ∧ ∃ vs, KBs kvs vs ∧ h.DictOf (leafKind P w) a vs) := hok a _ e
  exact x.1
theorem dB_lst {xs : List V} : dB P w a kvs ≠ .lst xs := fun z => by
  have z' : HO.ext _ = HO.lst xs := z
  cases z'
end
def tDNewB (P : Program) (w : World) : TE := fun _ H Q => ∀ p, H p = none → Q (.ref p) (upd H p (dB P w p []))
def tDNotInB (P : Program) (w : World) (ty td : TE) : TE := fun σ H Q => ty σ H fun y H1 => td σ H1 fun x H2 => ∃ a b kvs, x = .ref a ∧ y = .bl b ∧ H2 a = some (dB P w a kvs) ∧ Q (.bl (kvs.lookup b).isNone) H2
def sDPutB (P : Program) (w : World) (td ty tv : TE) : TS := fun D σ H => tv σ H fun v H1 => td σ H1 fun x H2 => ty σ H2 fun y H3 => ∃ a b kvs, x = .ref a ∧ y = .bl b ∧ H3 a = some (dB P w a kvs) ∧ kvs.lookup b = none ∧ kvs.length < 100000 ∧ D.nx σ (upd H3 a (dB P w a (kvs ++ [(b, v)])))
def tDGetB (P : Program) (w : World) (td ty tx : TE) : TE := fun σ H Q => td σ H fun x H1 => ∃ a kvs, x = .ref a ∧ H1 a = some (dB P w a kvs) ∧ ty σ H1 fun y H2 => tx σ H2 fun z H3 => ∃ b, y = .bl b ∧ H3 a = some (dB P w a kvs) ∧ Q ((kvs.lookup b).getD z) H3
section
variable {X : Cx} {o i e f value : Expr} {pos pos' apos cpos : Pos} {td ty tv tx : TE}
theorem pe_dnewB : PE X (.Dict [] [] pos) (tDNewB X.prog X.w) := ⟨fun pins s σ H Q I h =>
  wpAny_Dict_empty ⟨.ref s.heap.objs.size, _, I.laid (a := s.heap.objs.size) (o := dB X.prog X.w s.heap.objs.size []) (t' := s.toks) (fun _ _ q => Heap.get?_push_of_some _ q) (Nat.le_refl _) (dB_ok (beq_eq_false_iff_ne.mpr (Ne.symm (Nat.ne_of_lt I.big))) .nil (Heap.DictOf.new s.heap)), rfl, h _ (I.hok.fresh (Nat.le_refl _))⟩⟩
theorem pc_dnotinB (hi : PE X i ty) (ho : PE X o td) : PC X .NotIn i o (tDNotInB X.prog X.w ty td) := by
  refine ⟨fun pins s σ H Q I h => ?_⟩
  refine thn (hi.run pins s σ H _ I h) fun iv s1 ⟨y, H1, I1, ry, q1⟩ => thn (ho.run pins s1 σ H1 _ I1 q1) fun u s2 ⟨x, H2, I2, rx, a, b, kvs, ex, ey, e, q2⟩ => ?_
  subst ex ey
  obtain rfl : u = Value.ref a := rx
  obtain rfl : iv = Value.bool b := ry
  obtain ⟨hd, vs, rel, dd⟩ := dB_at I2.hok e
  refine wpAny_notIn_of (kb_is b) hd dd.mapOf ?_
  have hr := rel.val b
  have hv : (!(valueAt vs (kb b)).isSome) = (kvs.lookup b).isNone := by
    rw [← hr.isSome_eq]
    cases kvs.lookup b <;> rfl
  rw [hv]
  exact ⟨.bl _, H2, I2.tok _, rfl, q2⟩
theorem ps_dputB (ho : PE X o td) (hi : PE X i ty) (hv : PE X value tv) (hs : swapsWith value (some (.Subscript o i pos')) pos.line X.env = pure false) : PS X (.Assign [.Subscript o i pos'] value pos) (sDPutB X.prog X.w td ty tv) := by
  refine ⟨fun pins s σ H D I h => ?_⟩
  refine wpAny_Assign_Subscript (thn (hv.run pins s σ H _ I h) fun r s1 ⟨v, H1, I1, rv, q1⟩ => thn (ho.run pins s1 σ H1 _ I1 q1) fun u s2 ⟨x, H2, I2, rx, q2⟩ => thn (hi.run pins s2 σ H2 _ I2 q2) fun iv s3 ⟨y, H3, I3, ry, a, b, kvs, ex, ey, e, hn, hl, q3⟩ => ?_) hs
  subst ex ey
  obtain rfl : u = Value.ref a := rx
  obtain rfl : iv = Value.bool b := ry
  obtain ⟨hd, vs, rel, dd⟩ := dB_at I3.hok e
  have hlen := rel.len
  have hst : stored vs (kb b) r = vs ++ [(kb b, r)] := by
    unfold stored
    rw [rel.absent hn]
    rfl
  refine wpAny_setItem_pairs (hsz := Evl.sz_of (by omega)) (kb_is b) dd fun h' dd' hs => ⟨σ, _, ?_, q3⟩
  rw [hst] at dd'
  have he : ∃ q, h'.get? a = some q := let ⟨q, _, _, hq, _⟩ := dd'; ⟨q, hq⟩
  exact d_write I3 (by rw [e]; exact True.intro) hs he (dB_ok hd (rel.snoc rv) dd')
theorem pe_dgetB (ho : PE X o td) (he : PE X e ty) (hf : PE X f tx) (m : M2 X o "get" apos e f cpos) : PE X (.Call (.Attribute o "get" apos) [e, f] [] cpos) (tDGetB X.prog X.w td ty tx) := by
  refine ⟨fun pins s σ H Q I h => ?_⟩
  refine wpAny_Call_method m.base m.few m.line PySem.F.plainAttrs_dict PySem.F.slot_dict_get PySem.F.type_dict_get (thn (ho.run pins s σ H _ I h) fun u s1 ⟨x, H1, I1, rx, a, kvs, ex, d, q1⟩ => ?_)
  subst ex
  obtain rfl : u = Value.ref a := rx
  obtain ⟨_, vs1, _, dd1⟩ := dB_at I1.hok d
  refine ⟨dd1.typeIs, fun b q => ?_, ?_⟩
  · cases q
    obtain ⟨ob, _, _, h1, h2, _⟩ := dd1
    exact ⟨ob, h1, h2.2.1⟩
  rw [m.trees]
  refine Calls.callWith_builtin rfl (Calls.evalArgs_plain (Calls.spliced_cons (thn (he.run pins s1 σ H1 _ I1 q1) fun iv s2 ⟨y, H2, I2, ry, q2⟩ =>
    Calls.spliced_cons (thn (hf.run pins s2 σ H2 _ I2 q2) fun fv s3 ⟨z, H3, I3, rz, b, ey, d3, q3⟩ => Calls.spliced_nil ?_))))
  subst ey
  obtain rfl : iv = Value.bool b := ry
  obtain ⟨hd, vs, rel, dd⟩ := dB_at I3.hok d3
  refine call_meetsIn PySem.F.slot_dict_get dd.typeIs PySem.F.entry_dict_get (PySem.F.args_dict_get_3 _ _ _) (meets_dict_get_default (leafKind X.prog X.w) a (kb_is b) hd fv) ⟨_, dd.mapOf, ⟨_, H3, I3.tok _, ?_, q3⟩⟩
  exact (rel.val b).getD rz
end
end WF

set_option Elab.async false
set_option linter.all false
set_option maxRecDepth 100000
set_option maxHeartbeats 400000
/-! WAhead: how many days lie ahead of a day; the nth of them -/
namespace WF
def aheadD (N : Nat) (ds : List Nat) (d : Int) : Int := d / (N : Int) * (ds.length : Int) + ((ds.filter fun (c : Nat) => decide ((c : Int) < d % (N : Int))).length : Int)
theorem ahead_same {N : Nat} {p : Int → Bool} {ds : List Nat} (h : DaysOk N p ds) (d : Int) : aheadD N ds d = aheadD N (daysN N p) d := by
  unfold aheadD
  rw [h.len]
  refine congrArg (fun n : Nat => d / (N : Int) * ((daysN N p).length : Int) + (n : Int)) ?_
  refine nodup_len (h.nd.filter _) ((daysN_nodup N p).filter _) fun c => ?_
  rw [List.mem_filter, List.mem_filter, h.mem, daysN_mem]
theorem daysN_low {p : Int → Bool} {v : Nat} : ∀ {N : Nat}, v ≤ N → (daysN N p).filter (fun (c : Nat) => decide (c < v)) = daysN v p
  | 0, h => by
    have : v = 0 := by omega
    subst this
    rfl
  | N + 1, h => by
    rw [daysN_succ, List.filter_append]
    rcases Nat.lt_or_ge N v with hv | hv
    · have hvn : v = N + 1 := by omega
      subst hvn
      rw [daysN_succ]
      have h1 : (daysN N p).filter (fun (c : Nat) => decide (c < N + 1)) = daysN N p := List.filter_eq_self.mpr fun c hc => decide_eq_true (by have := (daysN_mem.mp hc).1; omega)
      rw [h1]
      split
      · rw [List.filter_cons, if_pos (decide_eq_true (Nat.lt_succ_self N))]; rfl
      · rfl
    · rw [daysN_low hv]
      split
      · rw [List.filter_cons, if_neg (by rw [decide_eq_false (by omega)]; exact Bool.false_ne_true)]
        exact List.append_nil _
      · exact List.append_nil _
theorem daysN_at {p : Int → Bool} {k v : Nat} : ∀ {N : Nat}, (daysN N p)[k]? = some v → (daysN v p).length = k
  | 0, h => by simp [daysN] at h
  | N + 1, h => by
    rw [daysN_succ] at h
    rcases Nat.lt_or_ge k (daysN N p).length with hk | hk
    · rw [List.getElem?_append_left hk] at h
      exact daysN_at h
    · rw [List.getElem?_append_right hk] at h
      split at h
      · have h0 : k - (daysN N p).length = 0 := by
          rcases Nat.eq_zero_or_pos (k - (daysN N p).length) with q | q
          · exact q
          · rw [List.getElem?_eq_none (by simp; omega)] at h
            cases h
        rw [h0] at h
        cases h
        omega
      · simp at h
/-- the nth day that is told -/
def nthDay (w m : Nat) (ds : List Nat) (n : Int) : Int := n / (ds.length : Int) * w * m + ((ds.getD (n % (ds.length : Int)).toNat 0 : Nat) : Int)
theorem nth_law {w m : Nat} {p : Int → Bool} {n : Int} (hN : 0 < w * m) (hn : 0 ≤ n) (hne : daysN (w * m) p ≠ []) :
    0 ≤ nthDay w m (daysN (w * m) p) n ∧ (nthDay w m (daysN (w * m) p) n % ((w * m : Nat) : Int)).toNat ∈ daysN (w * m) p ∧ aheadD (w * m) (daysN (w * m) p) (nthDay w m (daysN (w * m) p) n) = n := by
  have hlen : 0 < (daysN (w * m) p).length := List.length_pos_iff.mpr hne
  have h0 := Int.emod_nonneg n (show ((daysN (w * m) p).length : Int) ≠ 0 by omega)
  have h1 := Int.emod_lt_of_pos n (show (0 : Int) < ((daysN (w * m) p).length : Int) by omega)
  have hlt : (n % ((daysN (w * m) p).length : Int)).toNat < (daysN (w * m) p).length := by omega
  obtain ⟨v, hv⟩ : ∃ v, (daysN (w * m) p)[(n % ((daysN (w * m) p).length : Int)).toNat]? = some v := ⟨_, List.getElem?_eq_getElem hlt⟩
  have hD : (daysN (w * m) p).getD (n % ((daysN (w * m) p).length : Int)).toNat 0 = v := by rw [List.getD_eq_getElem?_getD, hv]; rfl
  have hmem : v ∈ daysN (w * m) p := List.mem_of_getElem? hv
  have hvN := (daysN_mem.mp hmem).1
  have hq0 : 0 ≤ n / ((daysN (w * m) p).length : Int) := Int.ediv_nonneg hn (by omega)
  have hday : nthDay w m (daysN (w * m) p) n = (v : Int) + ((w * m : Nat) : Int) * (n / ((daysN (w * m) p).length : Int)) := by
    unfold nthDay
    rw [hD, Int.natCast_mul, Int.mul_assoc, Int.mul_comm _ ((w : Int) * (m : Int)), Int.add_comm]
  have hmod : nthDay w m (daysN (w * m) p) n % ((w * m : Nat) : Int) = (v : Int) := by
    rw [hday, Int.add_mul_emod_self_left, Int.emod_eq_of_lt (by omega) (by omega)]
  have hdiv : nthDay w m (daysN (w * m) p) n / ((w * m : Nat) : Int) = n / ((daysN (w * m) p).length : Int) := by
    rw [hday, Int.add_mul_ediv_left _ _ (by omega), Int.ediv_eq_zero_of_lt (by omega) (by omega), Int.zero_add]
  refine ⟨?_, ?_, ?_⟩
  · rw [hday]
    have := Int.mul_nonneg (show (0 : Int) ≤ ((w * m : Nat) : Int) by omega) hq0
    omega
  · rw [hmod]
    exact hmem
  · unfold aheadD
    rw [hdiv, hmod]
    have hf : ((daysN (w * m) p).filter fun (c : Nat) => decide ((c : Int) < (v : Int))) = daysN v p := by
      rw [← daysN_low (p := p) (Nat.le_of_lt hvN)]
      congr 1
      funext c
      exact decide_eq_decide.mpr (by omega)
    rw [hf, daysN_at hv, Int.toNat_of_nonneg h0, Int.mul_comm]
    exact Int.mul_ediv_add_emod n _
end WF

set_option Elab.async false
set_option linter.all false
set_option maxRecDepth 100000
set_option maxHeartbeats 400000
/-! WOwn: == and operators by an own class's methods -/
namespace WF
open PySem L2 Evl
section
variable {X : Cx} {CX : CXT} {C : Addr} {n : Nat} {ps : List Str} {sp : Sp}
/-- o == y by o's own __eq__; y an object of the class, or a tuple -/
def rEqO (K : PySem.W.Frag) (C : Addr) (sp : Sp) (E : XK) : R2 := fun x y H Q => ∃ a b dx fs, x = .ref a ∧ y = .ref b ∧ H a = some (.ins C dx fs) ∧ ((∃ dy gs, H b = some (.ins C dy gs)) ∨ ((∃ ys, SqT K H b ys) ∧ PySem.W.notFirst K C (.type "tuple") = true)) ∧ sp [x, y] H (fun v H' => ∃ t, v = .bl t ∧ Q v H') E
theorem op_eqO {E : XK} (M : Mtn X.prog X.w X.K X.mg X.base CX C "__eq__" n ps sp) (hr : Room n X.A) (hx : Passes CX X E) : OpR X (compareOp .Eq) (rEqO X.K C sp E) := by
  intro pins s σ H x y v u Q I rx ry hq
  obtain ⟨f, fd, hM, hk, F, hb⟩ := M.ex
  obtain ⟨a, b, dx, fs, rfl, rfl, ha, hy, hsp⟩ := hq
  cases rx
  cases ry
  have sb : L2.Sub X n X.A := ⟨hr, rfl⟩
  obtain ⟨mA, J0, _⟩ := ins_get I.hok ha
  obtain ⟨od, J, _⟩ := J0.look
  obtain ⟨m, hF⟩ := I.fr
  obtain ⟨tb, hty, hnf⟩ : ∃ tb, PySem.W.Looks (model X.prog X.w) s.heap (typeOf (.ref b)) tb ∧ PySem.W.notFirst X.K C tb = true := by
    rcases hy with ⟨dy, gs, hb'⟩ | ⟨⟨ys, hT⟩, hn⟩
    · obtain ⟨mB, J1, _⟩ := ins_get I.hok hb'
      obtain ⟨od', J', _⟩ := J1.look
      exact ⟨.ref C, J'.type, by simp [PySem.W.notFirst]⟩
    · obtain ⟨its, r1, ⟨o, ho, hc, _⟩, _⟩ := I.tuple hT
      exact ⟨.type "tuple", fun A Q E s' k q => wpAny_typeOf_ref (k _ _ ho) (by rw [hc]; exact q), hn⟩
  show wpAny (model X.prog X.w) X.A (richCompare .Eq _ _) (EP X pins σ Q) X.xe s
  refine PySem.W.cmp_K (op := .Eq) (tb := tb) sb.room.units0 hF I.ok.mod.kin J hty hnf hM.at_ hM.fn ?_
  have e0 : Env0 X.prog X.w X.K X.mg X.base X.A X.stack s H := I.env0
  have hl := F.len _ _ _ _ hsp
  have r2 : Vals [V.ref a, V.ref b] [Value.ref a, Value.ref b] := .cons rfl (.cons rfl .nil)
  refine wpAny_call (codeAny_mono (F.run X.A X.stack s H ⟨[.ref a, .ref b], []⟩ [.ref a, .ref b] [.ref a, .ref b] _ E sb.room e0 (by
    have := hb s [.ref a, .ref b] I.kIn (by simpa using hl)
    simpa using this) r2 hsp) fun r s' hq => ?_)
  cases r with
  | error e => exact hx pins σ H s e s' I hq
  | ok fl =>
    cases fl with
    | ret w =>
      obtain ⟨z, H', I', rz, t, ez, q⟩ := I.after hq
      subst ez
      cases rz
      exact ⟨.bl t, H', I', rfl, q⟩
    | next => exact False.elim hq
    | brk => exact False.elim hq
    | cont => exact False.elim hq
/-- a op b, both of the class, by a's own method; within a try too -/
def tBinS (C : Addr) (sp : Sp) (E : L2.St → XK) (ta tb : TE) : TE := fun σ H Q => ta σ H fun x H1 => tb σ H1 fun y H2 => ∃ a b dx fs dy gs, x = .ref a ∧ y = .ref b ∧ H2 a = some (.ins C dx fs) ∧ H2 b = some (.ins C dy gs) ∧ sp [x, y] H2 (fun v H' => ∃ r, v = .ref r ∧ Q v H') (E σ)
theorem pe_binS {E : L2.St → XK} {op : Operator} {e1 e2 : Expr} {ta tb : TE} {pos : Pos} (M : Mtn X.prog X.w X.K X.mg X.base CX C (PySem.dunder op.info.2) n ps sp) (hsf : PySem.W.selfFirst X.K C = true) (hr : Room n X.A) (hx : ∀ σ, PassesAt CX X σ (E σ)) (h1 : PE X e1 ta) (h2 : PE X e2 tb) :
    PE X (.BinOp e1 op e2 pos) (tBinS C sp E ta tb) := by
  obtain ⟨f, fd, hM, hk, F, hb⟩ := M.ex
  refine ⟨fun pins s σ H Q I h => ?_⟩
  refine wpAny_BinOp (binT (R := fun x y H2 => ∃ a b dx fs dy gs, x = .ref a ∧ y = .ref b ∧ H2 a = some (.ins C dx fs) ∧ H2 b = some (.ins C dy gs) ∧ sp [x, y] H2 (fun v H' => ∃ r, v = .ref r ∧ Q v H') (E σ)) h1 h2 I h fun v u s2 x y H2 I2 rx ry q => ?_)
  obtain ⟨a, b, dx, fs, dy, gs, rfl, rfl, ha, hb', hsp⟩ := q
  cases rx
  cases ry
  have sb : L2.Sub X n X.A := ⟨hr, rfl⟩
  obtain ⟨mA, J0, _⟩ := ins_get I2.hok ha
  obtain ⟨od, J, _⟩ := J0.look
  obtain ⟨mB, J1, _⟩ := ins_get I2.hok hb'
  obtain ⟨od', J', _⟩ := J1.look
  obtain ⟨m, hF⟩ := I2.fr
  refine PySem.W.binop_K hF I2.ok.mod.kin J J'.type hsf hM.at_ hM.fn ?_
  have e0 : Env0 X.prog X.w X.K X.mg X.base X.A X.stack s2 H2 := I2.env0
  have hl := F.len _ _ _ _ hsp
  have r2 : Vals [V.ref a, V.ref b] [Value.ref a, Value.ref b] := .cons rfl (.cons rfl .nil)
  refine wpAny_call (codeAny_mono (F.run X.A X.stack s2 H2 ⟨[.ref a, .ref b], []⟩ [.ref a, .ref b] [.ref a, .ref b] _ (E σ) hr e0 (by
    have := hb s2 [.ref a, .ref b] I2.kIn (by simpa using hl)
    simpa using this) r2 hsp) fun r s' hq => ?_)
  cases r with
  | error e => exact hx σ pins H2 s2 e s' I2 hq
  | ok fl =>
    cases fl with
    | ret w =>
      obtain ⟨z, H', I', rz, t, ez, q⟩ := I2.after hq
      subst ez
      cases rz
      exact ⟨.ref t, H', I', rfl, q⟩
    | next => exact False.elim hq
    | brk => exact False.elim hq
    | cont => exact False.elim hq
end
/-! rules as data -/
def dRl : Rl → PyData
  | .wk k => .tuple [.str "weekday", .int k]
  | .fs k => .tuple [.str "first", .int k]
  | .md k => .tuple [.str "monthday", .int k]
  | .bh r b => .tuple [.str "behind", dRl r, .int b]
  | .bo x y => .tuple [.str "both", dRl x, dRl y]
  | .ei x y => .tuple [.str "either", dRl x, dRl y]
  | .wo x y => .tuple [.str "without", dRl x, dRl y]
theorem dp_rl {K : PySem.W.Frag} {H : Hp} {v : V} {r : Rl} (h : RlAt K H v r) : Dp K H v (dRl r) := by
  induction h with
  | wk h => exact .tup h (.cons (.str _) (.cons (.int _) .nil))
  | fs h => exact .tup h (.cons (.str _) (.cons (.int _) .nil))
  | md h => exact .tup h (.cons (.str _) (.cons (.int _) .nil))
  | bh h _ i => exact .tup h (.cons (.str _) (.cons i (.cons (.int _) .nil)))
  | bo h _ _ i j => exact .tup h (.cons (.str _) (.cons i (.cons j .nil)))
  | ei h _ _ i j => exact .tup h (.cons (.str _) (.cons i (.cons j .nil)))
  | wo h _ _ i j => exact .tup h (.cons (.str _) (.cons i (.cons j .nil)))
theorem dRl_lay : ∀ r : Rl, (dRl r).canLay0 = true
  | .wk k | .fs k | .md k => by simp only [dRl, PyData.canLay0, PyData.canLayAll0]; decide +kernel
  | .bh r b => by
    simp only [dRl, PyData.canLay0, PyData.canLayAll0, dRl_lay r]
    decide +kernel
  | .bo x y | .ei x y | .wo x y => by
    simp only [dRl, PyData.canLay0, PyData.canLayAll0, dRl_lay x, dRl_lay y]
    decide +kernel
theorem dRl_depth : ∀ r : Rl, (dRl r).depth ≤ r.dep + 1
  | .wk k | .fs k | .md k => by simp [dRl, PyData.depth, PyData.depthAll, Rl.dep]
  | .bh r b => by
    have := dRl_depth r
    simp only [dRl, PyData.depth, PyData.depthAll, Rl.dep]
    omega
  | .bo x y | .ei x y | .wo x y => by
    have h1 := dRl_depth x
    have h2 := dRl_depth y
    simp only [dRl, PyData.depth, PyData.depthAll, Rl.dep]
    omega
theorem dRl_shaped {r : Rl} (h : r.dep ≤ 50) : SeqAt.shaped (dRl r) = true := by
  unfold SeqAt.shaped
  rw [dRl_lay, Bool.true_and, decide_eq_true_iff]
  have := dRl_depth r
  omega
theorem dRl_self : ∀ r : Rl, PyData.eqv (dRl r) (dRl r) = true
  | .wk k | .fs k | .md k => by simp [dRl, PyData.eqv, PyData.eqvAll]
  | .bh r b => by simp [dRl, PyData.eqv, PyData.eqvAll, dRl_self r]
  | .bo x y | .ei x y | .wo x y => by simp [dRl, PyData.eqv, PyData.eqvAll, dRl_self x, dRl_self y]
theorem ev_eqRl {K : PySem.W.Frag} {σ : L2.St} {H : Hp} {ta tb : TE} {u v : V} {r s : Rl} (h1 : Ev ta σ H u) (h2 : Ev tb σ H v) (hr : RlAt K H u r) (hs : RlAt K H v s) (d1 : r.dep ≤ 50) (d2 : s.dep ≤ 50) : Ev (tOp (rEqD K) ta tb) σ H (.bl (PyData.eqv (dRl r) (dRl s))) :=
  ev_op h1 h2 fun H1 e Q q => ⟨dRl r, dRl s, dp_rl (hr.mono e), dp_rl (hs.mono e), dRl_shaped d1, dRl_shaped d2, q H1 (Ex.refl H1)⟩
def okRl (r : Rl) : Bool := decide (r.parts ≤ 5 ∧ r.bys ≤ 4)
end WF


set_option Elab.async false
set_option linter.all false
set_option maxRecDepth 100000
set_option maxHeartbeats 2000000
/-! the text by its places -/
namespace WF
open PySem L2 Evl
def top (i : Nat) : Stmt := PySem.Challenge.pw_weekfeasts_k13_things_that_hold.main.body.getD i (.Pass ⟨0, 0, 0, 0⟩)
abbrev s_is_in : Stmt := top 15
theorem sc_is_in : FnScope ["value", "some"] ["value", "some"] (defScope s_is_in) := ⟨rfl, rfl, rfl, by decide +kernel, rfl, by decide +kernel, by decide +kernel⟩
abbrev s_within : Stmt := top 16
theorem sc_within : FnScope ["rule"] ["rule"] (defScope s_within) := ⟨rfl, rfl, rfl, by decide +kernel, rfl, by decide +kernel, by decide +kernel⟩
abbrev s_size_of : Stmt := top 17
theorem sc_size_of : FnScope ["value", "room", "parts", "bys", "rule", "found"] ["value", "room"] (defScope s_size_of) := ⟨rfl, rfl, rfl, by decide +kernel, rfl, by decide +kernel, by decide +kernel⟩
abbrev s_is_rule : Stmt := top 18
theorem sc_is_rule : FnScope ["value", "size"] ["value"] (defScope s_is_rule) := ⟨rfl, rfl, rfl, by decide +kernel, rfl, by decide +kernel, by decide +kernel⟩
abbrev s_Feast_init : Stmt := inClass (top 19) 0
theorem sc_Feast_init : FnScope ["self", "rule"] ["self", "rule"] (defScope s_Feast_init) := ⟨rfl, rfl, rfl, by decide +kernel, rfl, by decide +kernel, by decide +kernel⟩
abbrev s_Feast_rule : Stmt := inClass (top 19) 1
theorem sc_Feast_rule : FnScope ["self"] ["self"] (defScope s_Feast_rule) := ⟨rfl, rfl, rfl, by decide +kernel, rfl, by decide +kernel, by decide +kernel⟩
abbrev s_Feast_eq : Stmt := inClass (top 19) 2
theorem sc_Feast_eq : FnScope ["self", "other"] ["self", "other"] (defScope s_Feast_eq) := ⟨rfl, rfl, rfl, by decide +kernel, rfl, by decide +kernel, by decide +kernel⟩
abbrev s_Feast_and : Stmt := inClass (top 19) 3
theorem sc_Feast_and : FnScope ["self", "other"] ["self", "other"] (defScope s_Feast_and) := ⟨rfl, rfl, rfl, by decide +kernel, rfl, by decide +kernel, by decide +kernel⟩
abbrev s_Feast_or : Stmt := inClass (top 19) 4
theorem sc_Feast_or : FnScope ["self", "other"] ["self", "other"] (defScope s_Feast_or) := ⟨rfl, rfl, rfl, by decide +kernel, rfl, by decide +kernel, by decide +kernel⟩
abbrev s_Feast_sub : Stmt := inClass (top 19) 5
theorem sc_Feast_sub : FnScope ["self", "other"] ["self", "other"] (defScope s_Feast_sub) := ⟨rfl, rfl, rfl, by decide +kernel, rfl, by decide +kernel, by decide +kernel⟩
abbrev s_Feast_moved : Stmt := inClass (top 19) 6
theorem sc_Feast_moved : FnScope ["self", "by"] ["self", "by"] (defScope s_Feast_moved) := ⟨rfl, rfl, rfl, by decide +kernel, rfl, by decide +kernel, by decide +kernel⟩
abbrev s_is_pair : Stmt := top 24
theorem sc_is_pair : FnScope ["value"] ["value"] (defScope s_is_pair) := ⟨rfl, rfl, rfl, by decide +kernel, rfl, by decide +kernel, by decide +kernel⟩
abbrev s_Calendar_init : Stmt := inClass (top 25) 0
theorem sc_Calendar_init : FnScope ["self", "rules", "index", "rule", "bys", "feast", "yields"] ["self", "rules"] (defScope s_Calendar_init) := ⟨rfl, rfl, rfl, by decide +kernel, rfl, by decide +kernel, by decide +kernel⟩
abbrev s_Calendar_rules : Stmt := inClass (top 25) 1
theorem sc_Calendar_rules : FnScope ["self"] ["self"] (defScope s_Calendar_rules) := ⟨rfl, rfl, rfl, by decide +kernel, rfl, by decide +kernel, by decide +kernel⟩
abbrev s_Calendar_reach : Stmt := inClass (top 25) 2
theorem sc_Calendar_reach : FnScope ["self"] ["self"] (defScope s_Calendar_reach) := ⟨rfl, rfl, rfl, by decide +kernel, rfl, by decide +kernel, by decide +kernel⟩
abbrev s_Calendar_eq : Stmt := inClass (top 25) 3
theorem sc_Calendar_eq : FnScope ["self", "other"] ["self", "other"] (defScope s_Calendar_eq) := ⟨rfl, rfl, rfl, by decide +kernel, rfl, by decide +kernel, by decide +kernel⟩
abbrev s_divisor : Stmt := top 26
theorem sc_divisor : FnScope ["one", "other"] ["one", "other"] (defScope s_divisor) := ⟨rfl, rfl, rfl, by decide +kernel, rfl, by decide +kernel, by decide +kernel⟩
abbrev s_is_land : Stmt := top 27
theorem sc_is_land : FnScope ["value", "many"] ["value"] (defScope s_is_land) := ⟨rfl, rfl, rfl, by decide +kernel, rfl, by decide +kernel, by decide +kernel⟩
abbrev s_need_land : Stmt := top 28
theorem sc_need_land : FnScope ["value"] ["value"] (defScope s_need_land) := ⟨rfl, rfl, rfl, by decide +kernel, rfl, by decide +kernel, by decide +kernel⟩
abbrev s_every : Stmt := top 29
theorem sc_every : FnScope ["step", "begin", "many", "turn"] ["step", "begin", "many"] (defScope s_every) := ⟨rfl, rfl, rfl, by decide +kernel, rfl, by decide +kernel, by decide +kernel⟩
abbrev s_turned : Stmt := top 30
theorem sc_turned : FnScope ["figure", "by", "round_days", "whole"] ["figure", "by", "round_days"] (defScope s_turned) := ⟨rfl, rfl, rfl, by decide +kernel, rfl, by decide +kernel, by decide +kernel⟩
abbrev s_figure_of : Stmt := top 31
theorem sc_figure_of : FnScope ["rule", "land", "w", "m", "word", "one", "other", "month"] ["rule", "land"] (defScope s_figure_of) := ⟨rfl, rfl, rfl, by decide +kernel, rfl, by decide +kernel, by decide +kernel⟩
abbrev s_days_of : Stmt := top 32
theorem sc_days_of : FnScope ["rows", "land", "found", "feast", "yields", "figure", "met"] ["rows", "land"] (defScope s_days_of) := ⟨rfl, rfl, rfl, by decide +kernel, rfl, by decide +kernel, by decide +kernel⟩
abbrev s_listed : Stmt := top 33
theorem sc_listed : FnScope ["figure", "found", "lowest"] ["figure"] (defScope s_listed) := ⟨rfl, rfl, rfl, by decide +kernel, rfl, by decide +kernel, by decide +kernel⟩
abbrev s_lands_to : Stmt := top 37
theorem sc_lands_to : FnScope ["weeks", "months", "some", "w", "m"] ["weeks", "months"] (defScope s_lands_to) := ⟨rfl, rfl, rfl, by decide +kernel, rfl, by decide +kernel, by decide +kernel⟩
abbrev s_enough : Stmt := top 38
theorem sc_enough : FnScope ["reach"] ["reach"] (defScope s_enough) := ⟨rfl, rfl, rfl, by decide +kernel, rfl, by decide +kernel, by decide +kernel⟩
abbrev s_first_unlike : Stmt := top 39
theorem sc_first_unlike : FnScope ["one", "other", "reach", "land", "unlike"] ["one", "other", "reach"] (defScope s_first_unlike) := ⟨rfl, rfl, rfl, by decide +kernel, rfl, by decide +kernel, by decide +kernel⟩
abbrev s_parting : Stmt := top 40
theorem sc_parting : FnScope ["one", "other"] ["one", "other"] (defScope s_parting) := ⟨rfl, rfl, rfl, by decide +kernel, rfl, by decide +kernel, by decide +kernel⟩
abbrev s_alike : Stmt := top 41
theorem sc_alike : FnScope ["one", "other"] ["one", "other"] (defScope s_alike) := ⟨rfl, rfl, rfl, by decide +kernel, rfl, by decide +kernel, by decide +kernel⟩
abbrev s_meeting : Stmt := top 42
theorem sc_meeting : FnScope ["one", "other", "found", "land", "does_meet"] ["one", "other"] (defScope s_meeting) := ⟨rfl, rfl, rfl, by decide +kernel, rfl, by decide +kernel, by decide +kernel⟩
abbrev s_needless : Stmt := top 43
theorem sc_needless : FnScope ["calendar", "rows", "found", "index"] ["calendar"] (defScope s_needless) := ⟨rfl, rfl, rfl, by decide +kernel, rfl, by decide +kernel, by decide +kernel⟩
abbrev s_is_from : Stmt := top 46
theorem sc_is_from : FnScope ["value", "least"] ["value", "least"] (defScope s_is_from) := ⟨rfl, rfl, rfl, by decide +kernel, rfl, by decide +kernel, by decide +kernel⟩
abbrev s_need_day : Stmt := top 47
theorem sc_need_day : FnScope ["value"] ["value"] (defScope s_need_day) := ⟨rfl, rfl, rfl, by decide +kernel, rfl, by decide +kernel, by decide +kernel⟩
abbrev s_is_day : Stmt := top 48
theorem sc_is_day : FnScope ["calendar", "land", "day"] ["calendar", "land", "day"] (defScope s_is_day) := ⟨rfl, rfl, rfl, by decide +kernel, rfl, by decide +kernel, by decide +kernel⟩
abbrev s_nth : Stmt := top 49
theorem sc_nth : FnScope ["calendar", "land", "n", "days"] ["calendar", "land", "n"] (defScope s_nth) := ⟨rfl, rfl, rfl, by decide +kernel, rfl, by decide +kernel, by decide +kernel⟩
abbrev s_count : Stmt := top 50
theorem sc_count : FnScope ["calendar", "land"] ["calendar", "land"] (defScope s_count) := ⟨rfl, rfl, rfl, by decide +kernel, rfl, by decide +kernel, by decide +kernel⟩
abbrev s_l_random : Stmt := top 52
theorem sc_l_random : FnScope ["_law_script", "_law_salt", "_law_seed", "_law_cell"] ["_law_script", "_law_salt"] (defScope s_l_random) := ⟨rfl, rfl, rfl, by decide +kernel, rfl, by decide +kernel, by decide +kernel⟩
abbrev s_l_below : Stmt := top 53
theorem sc_l_below : FnScope ["_law_d", "_law_size", "_law_result"] ["_law_d", "_law_size"] (defScope s_l_below) := ⟨rfl, rfl, rfl, by decide +kernel, rfl, by decide +kernel, by decide +kernel⟩
abbrev s_l_pick : Stmt := top 54
theorem sc_l_pick : FnScope ["_law_d", "_law_items"] ["_law_d", "_law_items"] (defScope s_l_pick) := ⟨rfl, rfl, rfl, by decide +kernel, rfl, by decide +kernel, by decide +kernel⟩
abbrev s_l_leaf : Stmt := top 55
theorem sc_l_leaf : FnScope ["_law_d"] ["_law_d"] (defScope s_l_leaf) := ⟨rfl, rfl, rfl, by decide +kernel, rfl, by decide +kernel, by decide +kernel⟩
abbrev s_l_rule : Stmt := top 56
theorem sc_l_rule : FnScope ["_law_d", "_law_left", "_law_pick_here", "_law_by", "_law_word", "_law_one_here"] ["_law_d", "_law_left"] (defScope s_l_rule) := ⟨rfl, rfl, rfl, by decide +kernel, rfl, by decide +kernel, by decide +kernel⟩
abbrev s_l_rows : Stmt := top 57
theorem sc_l_rows : FnScope ["_law_d", "_law_many", "_law_parts", "_law_bys_here", "_law_found", "_law_k", "_law_left", "_law_rule_here"] ["_law_d", "_law_many", "_law_parts"] (defScope s_l_rows) := ⟨rfl, rfl, rfl, by decide +kernel, rfl, by decide +kernel, by decide +kernel⟩
abbrev s_l_made : Stmt := top 58
theorem sc_l_made : FnScope ["_law_rows_here", "_law_rule_here", "_law_yields"] ["_law_rows_here"] (defScope s_l_made) := ⟨rfl, rfl, rfl, by decide +kernel, rfl, by decide +kernel, by decide +kernel⟩
abbrev s_l_bys : Stmt := top 59
theorem sc_l_bys : FnScope ["_law_rule_here"] ["_law_rule_here"] (defScope s_l_bys) := ⟨rfl, rfl, rfl, by decide +kernel, rfl, by decide +kernel, by decide +kernel⟩
abbrev s_l_days : Stmt := top 60
theorem sc_l_days : FnScope ["_law_rule_here", "_law_land", "_law_w", "_law_m", "_law_whole", "_law_found", "_law_day", "_law_one_here", "_law_other", "_law_k"] ["_law_rule_here", "_law_land"] (defScope s_l_days) := ⟨rfl, rfl, rfl, by decide +kernel, rfl, by decide +kernel, by decide +kernel⟩
abbrev s_l_all : Stmt := top 61
theorem sc_l_all : FnScope ["_law_rows_here", "_law_land", "_law_whole", "_law_found", "_law_rule_here", "_law_yields", "_law_own", "_law_met", "_law_kept", "_law_day"] ["_law_rows_here", "_law_land"] (defScope s_l_all) := ⟨rfl, rfl, rfl, by decide +kernel, rfl, by decide +kernel, by decide +kernel⟩
abbrev s_l_near : Stmt := top 62
theorem sc_l_near : FnScope ["_law_d", "_law_rows_here", "_law_k", "_law_rule_here", "_law_yields", "_law_pick_here"] ["_law_d", "_law_rows_here"] (defScope s_l_near) := ⟨rfl, rfl, rfl, by decide +kernel, rfl, by decide +kernel, by decide +kernel⟩
abbrev s_l_one : Stmt := top 63
theorem sc_l_one : FnScope ["_law_feast"] ["_law_feast"] (defScope s_l_one) := ⟨rfl, rfl, rfl, by decide +kernel, rfl, by decide +kernel, by decide +kernel⟩
abbrev s_law : Stmt := top 64
theorem sc_law : FnScope ["_law_script", "_law_d", "_law_rows_here", "_law_other", "_law_here", "_law_there", "_law_land", "_law_are_same", "_law_never", "_law_idle", "_law_mine", "_law_turn", "_law_day", "_law_k", "_law_one_here", "_law_two", "_law_by", "_law_whole"] ["_law_script"] (defScope s_law) := ⟨rfl, rfl, rfl, by decide +kernel, rfl, by decide +kernel, by decide +kernel⟩
structure Txt (w : World) (K : PySem.W.Frag) (mg : Str → Option Value) (C_BadRule C_BadRules C_BadLand C_BadDay C_BadNumber C_Feast C_Calendar : Addr) : Prop where
  «len» : mg "len" = none
  «abs» : mg "abs" = none
  «sum» : mg "sum" = none
  «max» : mg "max" = none
  «isinstance» : mg "isinstance" = none
  «sorted» : mg "sorted" = none
  «all» : mg "all" = none
  «int» : mg "int" = none
  «str» : mg "str" = none
  «list» : mg "list" = none
  «tuple» : mg "tuple" = none
  «dict» : mg "dict" = none
  «bool» : mg "bool" = none
  «range» : mg "range" = none
  «enumerate» : mg "enumerate" = none
  g_BYS : ∃ a, mg "BYS" = some (.ref a) ∧ ∀ H, SqT K H a bysV
  g_ENDS : ∃ d aW aM, mg "ENDS" = some (.ref d) ∧ EndsAt w K d aW aM
  g_PAIRS : ∃ a, mg "PAIRS" = some (.ref a) ∧ ∀ H, SqT K H a pairsV
  g_MOST_PARTS : ∃ u, mg "MOST_PARTS" = some u ∧ RelV (.int 5) u
  g_MOST_BYS : ∃ u, mg "MOST_BYS" = some u ∧ RelV (.int 4) u
  g_MOST_RULES : ∃ u, mg "MOST_RULES" = some u ∧ RelV (.int 3) u
  g_LEAST_REACH : ∃ u, mg "LEAST_REACH" = some u ∧ RelV (.int 3) u
  g_MOST_ROUND : ∃ u, mg "MOST_ROUND" = some u ∧ RelV (.int 4000) u
  g_WEEKS : ∃ u, mg "WEEKS" = some u ∧ RelV (.int 4) u
  g_MONTHS : ∃ u, mg "MONTHS" = some u ∧ RelV (.int 6) u
  g_GREATEST : ∃ u, mg "GREATEST" = some u ∧ RelV (.int (10 ^ 30)) u
  c_BadRule : mg "BadRule" = some (.ref C_BadRule)
  e_BadRule : Err K C_BadRule
  c_BadRules : mg "BadRules" = some (.ref C_BadRules)
  c_BadLand : mg "BadLand" = some (.ref C_BadLand)
  e_BadLand : Err K C_BadLand
  c_BadDay : mg "BadDay" = some (.ref C_BadDay)
  e_BadDay : Err K C_BadDay
  c_BadNumber : mg "BadNumber" = some (.ref C_BadNumber)
  e_BadNumber : Err K C_BadNumber
  c_Feast : mg "Feast" = some (.ref C_Feast)
  c_Calendar : mg "Calendar" = some (.ref C_Calendar)
  f_is_in : FunAt K mg "is_in" s_is_in ["value", "some"]
  f_within : FunAt K mg "within" s_within ["rule"]
  f_size_of : FunAt K mg "size_of" s_size_of ["value", "room"]
  f_is_rule : FunAt K mg "is_rule" s_is_rule ["value"]
  m_Feast_init : MkAt K C_Feast "Feast.__init__" s_Feast_init ["self", "rule"]
  m_Feast_eq : MtAt K C_Feast "__eq__" "Feast.__eq__" s_Feast_eq ["self", "other"]
  m_Feast_and : MtAt K C_Feast "__and__" "Feast.__and__" s_Feast_and ["self", "other"]
  m_Feast_or : MtAt K C_Feast "__or__" "Feast.__or__" s_Feast_or ["self", "other"]
  m_Feast_sub : MtAt K C_Feast "__sub__" "Feast.__sub__" s_Feast_sub ["self", "other"]
  m_Feast_moved : MtAt K C_Feast "moved" "Feast.moved" s_Feast_moved ["self", "by"]
  f_is_pair : FunAt K mg "is_pair" s_is_pair ["value"]
  m_Calendar_init : MkAt K C_Calendar "Calendar.__init__" s_Calendar_init ["self", "rules"]
  m_Calendar_eq : MtAt K C_Calendar "__eq__" "Calendar.__eq__" s_Calendar_eq ["self", "other"]
  f_divisor : FunAt K mg "divisor" s_divisor ["one", "other"]
  f_is_land : FunAt K mg "is_land" s_is_land ["value"]
  f_need_land : FunAt K mg "need_land" s_need_land ["value"]
  f_every : FunAt K mg "every" s_every ["step", "begin", "many"]
  f_turned : FunAt K mg "turned" s_turned ["figure", "by", "round_days"]
  f_figure_of : FunAt K mg "figure_of" s_figure_of ["rule", "land"]
  f_days_of : FunAt K mg "days_of" s_days_of ["rows", "land"]
  f_listed : FunAt K mg "listed" s_listed ["figure"]
  f_lands_to : FunAt K mg "lands_to" s_lands_to ["weeks", "months"]
  f_enough : FunAt K mg "enough" s_enough ["reach"]
  f_first_unlike : FunAt K mg "first_unlike" s_first_unlike ["one", "other", "reach"]
  f_parting : FunAt K mg "parting" s_parting ["one", "other"]
  f_alike : FunAt K mg "alike" s_alike ["one", "other"]
  f_meeting : FunAt K mg "meeting" s_meeting ["one", "other"]
  f_needless : FunAt K mg "needless" s_needless ["calendar"]
  f_is_from : FunAt K mg "is_from" s_is_from ["value", "least"]
  f_need_day : FunAt K mg "need_day" s_need_day ["value"]
  f_is_day : FunAt K mg "is_day" s_is_day ["calendar", "land", "day"]
  f_nth : FunAt K mg "nth" s_nth ["calendar", "land", "n"]
  f_count : FunAt K mg "count" s_count ["calendar", "land"]
  f_l_random : FunAt K mg "_law_random" s_l_random ["_law_script", "_law_salt"]
  f_l_below : FunAt K mg "_law_below" s_l_below ["_law_d", "_law_size"]
  f_l_pick : FunAt K mg "_law_pick" s_l_pick ["_law_d", "_law_items"]
  f_l_leaf : FunAt K mg "_law_leaf" s_l_leaf ["_law_d"]
  f_l_rule : FunAt K mg "_law_rule" s_l_rule ["_law_d", "_law_left"]
  f_l_rows : FunAt K mg "_law_rows" s_l_rows ["_law_d", "_law_many", "_law_parts"]
  f_l_made : FunAt K mg "_law_made" s_l_made ["_law_rows_here"]
  f_l_bys : FunAt K mg "_law_bys" s_l_bys ["_law_rule_here"]
  f_l_days : FunAt K mg "_law_days" s_l_days ["_law_rule_here", "_law_land"]
  f_l_all : FunAt K mg "_law_all" s_l_all ["_law_rows_here", "_law_land"]
  f_l_near : FunAt K mg "_law_near" s_l_near ["_law_d", "_law_rows_here"]
  f_l_one : FunAt K mg "_law_one" s_l_one ["_law_feast"]
  f_law : FunAt K mg "law" s_law ["_law_script"]

end WF

set_option Elab.async false
set_option linter.all false
set_option maxRecDepth 100000
set_option maxHeartbeats 2000000
/-! every, turned, divisor -/
namespace WF
open PySem L2 Evl
section
variable {P : Program} {w : World} {K : PySem.W.Frag} {mg : Str → Option Value} {base : Heap} {C_BadRule C_BadRules C_BadLand C_BadDay C_BadNumber C_Feast C_Calendar : Addr} {f : Addr} {fd : FuncData}
def spEvery : Sp := fun vs H Q _ => ∃ (s b T : Nat), vs = [.int s, .int b, .int T] ∧ s ≤ 6000 ∧ b ≤ 6000 ∧ T ≤ 6000 ∧ RetV (.int (((List.range T).map fun t => 2 ^ (b + s * t)).sum : Nat)) H Q
theorem ok_every (F : Fun K "every" "every" s_every f fd) (T : Txt w K mg C_BadRule C_BadRules C_BadLand C_BadDay C_BadNumber C_Feast C_Calendar) : FnOk P w K mg base CX0 1 f fd ["step", "begin", "many"] spEvery := by
  refine F.ok sc_every (fun vs H Q E h => ?_) (fun cdv A outer s H vs Q E hr h => ?_)
  · obtain ⟨_, _, _, rfl, _⟩ := h
    rfl
  · obtain ⟨s, b, n, rfl, hs, hb, hn, k⟩ := h
    refine ⟨_, (pss_one (ps_ret (pe_callB (cr_sum rfl) (by rfl) T.sum (by decide +kernel) (pa_cons (pe_lc (own := [("turn", 3)]) (g := gName 3) (tt := tYes) rfl sc_every.nd (pi_range1 (by rfl) T.range (pa_cons (pv 2) pa_nil)) (blkOk_by (own := [("turn", 3)]) (N := ["step", "begin", "many", "turn"]) (sc := defScope s_every) (by decide +kernel)) (fun _ _ _ _ _ => (pg_name (i := 3) sc_every.nd rfl (by first | exact Or.inl rfl | exact Or.inr rfl))) (fun _ _ _ _ _ => pts_nil) (fun _ _ _ _ _ => (pe_op op_shlW pe_int (pe_op op_add (pv 1) (pe_op op_mul (pv 0) (pv 3)))))) pa_nil)))), ?_⟩
    refine s_ret (ev_is (ev_sumR (fun t => (((2 ^ (b + s * t) : Nat)) : Int)) (el_rng _ (ea_cons (ev_var rfl) ea_nil) ⟨by omega, by omega⟩ (fun _ => rfl) fun i H1 e1 hi => ?_)) (by rw [cast_sumR]; rfl)) k
    have hm : s * i ≤ 6000 * 6000 := Nat.mul_le_mul hs (by omega)
    have hv : (b : Int) + (s : Int) * (i : Int) = ((b + s * i : Nat) : Int) := by rw [Int.natCast_add, Int.natCast_mul]
    refine ev_is (ev_op ev_c (ev_op (ev_var rfl) (ev_op (ev_var rfl) (ev_var rfl) (rv_I (.inl ⟨by omega, by omega⟩))) rv_I0) (rv_I ⟨?_, ?_⟩)) ?_
    · rw [hv]; exact Int.natCast_nonneg _
    · rw [hv]
      show ((Builtin.Int.intBits 1 : Nat) : Int) + ((b + s * i : Nat) : Int) ≤ 2 ^ 27
      have : Builtin.Int.intBits 1 = 1 := by decide +kernel
      rw [this]
      omega
    · rw [hv, Int.toNat_natCast, Int.one_mul, Int.natCast_pow]
      rfl
theorem dn_every (T : Txt w K mg C_BadRule C_BadRules C_BadLand C_BadDay C_BadNumber C_Feast C_Calendar) : Dn P w K mg base CX0 "every" 1 ["step", "begin", "many"] spEvery := T.f_every.dn fun _ _ F _ _ => ok_every F T

def sp_divisor : Sp := fun vs H Q _ => ∃ (a b : Nat), vs = [.int a, .int b] ∧ RetV (.int (Nat.gcd a b : Nat)) H Q
theorem ok_divisor (F : Fun K "divisor" "divisor" s_divisor f fd) (T : Txt w K mg C_BadRule C_BadRules C_BadLand C_BadDay C_BadNumber C_Feast C_Calendar) : FnOk P w K mg base CX0 1 f fd ["one", "other"] sp_divisor := by
  refine F.ok sc_divisor (fun vs H Q E h => ?_) (fun cdv A outer s H vs Q E hr h => ?_)
  · obtain ⟨_, _, rfl, _⟩ := h
    rfl
  · obtain ⟨a, b, rfl, k⟩ := h
    refine ⟨_, (pss_cons (ps_while PassesOwn.never (pt_cmpR op_ne (pv 1) pe_int (nomark _))
  (pss_one (ps_par (i := 0) (j := 1) (by rfl) sc_divisor.nd rfl rfl (by decide) rfl rfl (pa_cons (pv 1) (pa_cons (pe_op op_mod (pv 0) (pv 1)) pa_nil)) (by first | rfl | exact sw2 rfl rfl rfl rfl (by decide)))))
  (pss_one (ps_ret (pv 0)))), ?_⟩
    refine q_while (fun m σ H1 => ∃ x y : Nat, σ = [some (.int x), some (.int y)] ∧ Nat.gcd x y = Nat.gcd a b ∧ m = y ∧ Ex H H1) b ⟨a, b, rfl, rfl, rfl, Ex.refl H⟩ ?_
    rintro m σ' H' ⟨x, y, rfl, hg, rfl, e⟩
    refine ⟨!decide (V.int m = V.int 0), et_cmp (ev_var rfl) ev_c (rv_ne rfl), fun hb H1 e1 => ?_, fun hb H1 e1 => ?_⟩
    · have hy : 0 < m := by
        rcases Nat.eq_zero_or_pos m with h | h
        · subst h; simp at hb
        · exact h
      refine ⟨fun σ2 H2 => σ2 = [some (.int m), some (.int (x % m : Nat))] ∧ Ex H' H2, fun σ2 H2 ⟨h1, h2⟩ => ⟨x % m, Nat.mod_lt _ hy, m, x % m, h1, ?_, rfl, e.trans h2⟩, ?_⟩
      · rw [← hg, Nat.gcd_comm x m, Nat.gcd_rec m x, Nat.gcd_comm]
      · refine s_par (ea_cons (ev_var rfl) (ea_cons (ev_is (ev_op (ev_var rfl) (ev_var rfl) (rv_I (by omega))) rfl) ea_nil)) fun H2 e2 => ⟨rfl, e1.trans e2⟩
    · have hy : m = 0 := by
        rcases Nat.eq_zero_or_pos m with h | h
        · exact h
        · exfalso
          have : ¬ (V.int (m : Int) = V.int 0) := fun q => by
            injection q with q
            omega
          rw [decide_eq_false this] at hb
          cases hb
      subst hy
      rw [Nat.gcd_zero_right] at hg
      refine s_ret (ev_var rfl) fun H2 e2 => ?_
      rw [hg]
      exact k H2 ((e.trans e1).trans e2)
theorem dn_divisor (T : Txt w K mg C_BadRule C_BadRules C_BadLand C_BadDay C_BadNumber C_Feast C_Calendar) : Dn P w K mg base CX0 "divisor" 1 ["one", "other"] sp_divisor := T.f_divisor.dn fun _ _ F _ _ => ok_divisor F T
def spTurned : Sp := fun vs H Q _ => ∃ (N : Nat) (b : Int) (p : Int → Bool), vs = [.int (figN N p : Nat), .int b, .int N] ∧ 0 < N ∧ N ≤ 100000 ∧ Per (N : Int) p ∧ RetV (.int (figN N fun d => p (d - b) : Nat)) H Q
theorem ok_turned (F : Fun K "turned" "turned" s_turned f fd) (T : Txt w K mg C_BadRule C_BadRules C_BadLand C_BadDay C_BadNumber C_Feast C_Calendar) : FnOk P w K mg base CX0 1 f fd ["figure", "by", "round_days"] spTurned := by
  refine F.ok sc_turned (fun vs H Q E h => ?_) (fun cdv A outer s H vs Q E hr h => ?_)
  · obtain ⟨_, _, _, rfl, _⟩ := h
    rfl
  · obtain ⟨N, b, p, rfl, hN, hN2, hp, k⟩ := h
    have h0 : 0 ≤ b % (N : Int) := Int.emod_nonneg _ (by omega)
    have h1 : b % (N : Int) < (N : Int) := Int.emod_lt_of_pos _ (by omega)
    obtain ⟨c, hc⟩ : ∃ c : Nat, b % (N : Int) = (c : Int) := ⟨(b % (N : Int)).toNat, by omega⟩
    have hcN : c < N := by omega
    have hpc : ∀ d, p (d - b) = p (d - (c : Int)) := fun d => by
      have : b = (c : Int) + (N : Int) * (b / (N : Int)) := by rw [← hc]; exact (Int.emod_add_mul_ediv b N).symm
      rw [this, show d - ((c : Int) + (N : Int) * (b / (N : Int))) = (d - (c : Int)) + (N : Int) * (-(b / (N : Int))) by rw [Int.mul_neg]; omega, hp.mul]
    refine ⟨_, (pss_cons (ps_set (i := 1) sc_turned.nd rfl (by first | exact Or.inl rfl | exact Or.inr rfl) (pe_op op_mod (pv 1) (pv 2)))
  (pss_cons (ps_set (i := 3) sc_turned.nd rfl (by first | exact Or.inl rfl | exact Or.inr rfl) (pe_op op_shlW (pv 0) (pv 1)))
  (pss_one (ps_ret (pe_op op_or (pe_op op_and (pv 3) (pe_op op_sub (pe_op op_shlW pe_int (pv 2)) pe_int)) (pe_op op_shr (pv 3) (pv 2))))))), ?_⟩
    refine q_asg (ev_is (ev_op (ev_var rfl) (ev_var rfl) (rv_I (by omega))) (by rw [hc])) fun H1 e1 => ?_
    refine q_asg (ev_is (ev_op (ev_var rfl) (ev_var rfl) (rv_I ⟨Int.natCast_nonneg _, ?_⟩)) rfl) fun H2 e2 => ?_
    · have := fig_bits N p
      omega
    refine s_ret (v := .int (figN N fun d => p (d - b) : Nat)) (ev_is (ev_op (ev_op (ev_var rfl) (ev_op (ev_op ev_c (ev_var rfl) (rv_I ⟨Int.natCast_nonneg _, ?_⟩)) ev_c rv_I0) rv_I0) (ev_op (ev_var rfl) (ev_var rfl) (rv_I (Int.natCast_nonneg _))) rv_I0) ?_) fun H3 e3 => ?_
    · rw [bits_one]
      omega
    · rw [Int.toNat_natCast, Int.toNat_natCast, fig_turn hp hcN, figN_congr (q := fun d => p (d - b)) fun d _ => (hpc d).symm]
    · exact k H3 ((e1.trans e2).trans e3)
theorem dn_turned (T : Txt w K mg C_BadRule C_BadRules C_BadLand C_BadDay C_BadNumber C_Feast C_Calendar) : Dn P w K mg base CX0 "turned" 1 ["figure", "by", "round_days"] spTurned := T.f_turned.dn fun _ _ F _ _ => ok_turned F T
end
end WF

set_option Elab.async false
set_option linter.all false
set_option maxRecDepth 100000
set_option maxHeartbeats 4000000
/-! feasts' rules: is_in, within, size_of, is_rule -/
namespace WF
open PySem L2 Evl
section
variable {P : Program} {w : World} {K : PySem.W.Frag} {mg : Str → Option Value} {base : Heap} {C_BadRule C_BadRules C_BadLand C_BadDay C_BadNumber C_Feast C_Calendar : Addr} {f : Addr} {fd : FuncData}
def inB (o : Option Int) (xs : List V) : Bool := match o with
  | some z => inV (.int z) xs
  | none => false
def spIsIn (K : PySem.W.Frag) : Sp := fun vs H Q _ => ∃ v o a xs, vs = [v, .ref a] ∧ NumV K H v o ∧ SqT K H a xs ∧ xs.all flatV = true ∧ RetV (.bl (inB o xs)) H Q
theorem ok_is_in (F : Fun K "is_in" "is_in" s_is_in f fd) (T : Txt w K mg C_BadRule C_BadRules C_BadLand C_BadDay C_BadNumber C_Feast C_Calendar) : FnOk P w K mg base CX0 1 f fd ["value", "some"] (spIsIn K) := by
  refine F.ok sc_is_in (fun vs H Q E h => ?_) (fun cdv A outer s H vs Q E hr h => ?_)
  · obtain ⟨_, _, _, _, rfl, _⟩ := h
    rfl
  · obtain ⟨v, o, a, xs, rfl, hV, hA, hf, k⟩ := h
    refine ⟨_, (pss_one (ps_ret (pe_and (pe_callB call_isi (by rfl) T.isinstance (by decide +kernel) (pa_cons (pv 0) (pa_cons (pe_bltn (v := .ty "int") (by rfl) T.int (by decide +kernel) rfl) pa_nil))) (pe_and (pe_not (pe_callB call_isi (by rfl) T.isinstance (by decide +kernel) (pa_cons (pv 0) (pa_cons (pe_bltn (v := .ty "bool") (by rfl) T.bool (by decide +kernel) rfl) pa_nil)))) (pe_one (pe_cmpR op_in_seq (pv 0) (pv 1) (by rfl))))))), ?_⟩
    refine s_ret (ev_isInt3 (ev_var rfl) hV (fun z ho hz => ?_) (fun ho => by rw [ho]; rfl)) k
    subst ho hz
    exact ev_op (ev_var rfl) (ev_var rfl) (rv_isT hA rfl hf)
theorem dn_is_in (T : Txt w K mg C_BadRule C_BadRules C_BadLand C_BadDay C_BadNumber C_Feast C_Calendar) : Dn P w K mg base CX0 "is_in" 1 ["value", "some"] (spIsIn K) := T.f_is_in.dn fun _ _ F _ _ => ok_is_in F T
theorem spv_is_in {H : Hp} {v : V} {o : Option Int} {a : Addr} {xs : List V} {b : Bool} (h : NumV K H v o) (ha : SqT K H a xs) (hf : xs.all flatV = true) (hb : inB o xs = b) : SpV (spIsIn K) ([v, .ref a] ++ []) H (.bl b) :=
  spV fun H1 e Q _ q => ⟨v, o, a, xs, rfl, h.mono e, ex_t e ha, hf, by rw [hb]; exact q⟩
def spWithin (K : PySem.W.Frag) : Sp := fun vs H Q _ => ∃ a, vs = [.ref a] ∧ ((∃ s x y, isPair s ∧ SqT K H a [.str s, x, y] ∧ RetL [x, y] H Q) ∨ ∃ x y, SqT K H a [.str "behind", x, y] ∧ RetL [x] H Q)
theorem pair_not {s : Str} (h : isPair s) : decide (s = "both" ∨ s = "either" ∨ s = "without") = true := decide_eq_true h
theorem ok_within (F : Fun K "within" "within" s_within f fd) (T : Txt w K mg C_BadRule C_BadRules C_BadLand C_BadDay C_BadNumber C_Feast C_Calendar) : FnOk P w K mg base CX0 1 f fd ["rule"] (spWithin K) := by
  obtain ⟨aP, gPAIRS, sP⟩ := T.g_PAIRS
  refine F.ok sc_within (fun vs H Q E h => ?_) (fun cdv A outer s H vs Q E hr h => ?_)
  · obtain ⟨_, rfl, _⟩ := h
    rfl
  · obtain ⟨a, rfl, h⟩ := h
    refine ⟨_, (pss_cons (ps_if (pt_cmpR op_in_seq (pe_ix ix_tup (pv 0) pe_int (fun _ _ => rfl)) (pe_glob (v := .ref aP) rfl gPAIRS rfl) (by rfl)) (pss_one (ps_ret (pe_lst (pa_cons (pe_ix ix_tup (pv 0) pe_int (fun _ _ => rfl)) (pa_cons (pe_ix ix_tup (pv 0) pe_int (fun _ _ => rfl)) pa_nil)))))
  pss_nil)
  (pss_one (ps_ret (pe_ifExp (pt_cmpR op_eq (pe_ix ix_tup (pv 0) pe_int (fun _ _ => rfl)) pe_str (nomark _)) (pe_lst (pa_cons (pe_ix ix_tup (pv 0) pe_int (fun _ _ => rfl)) pa_nil)) (pe_lst pa_nil))))), ?_⟩
    rcases h with ⟨s, x, y, hs, hT, k⟩ | ⟨x, y, hT, k⟩
    · refine q_yes (et_is (et_cmp (ev_ixT (ev_var rfl) hT rfl) ev_c (rv_isT (sP _) rfl rfl)) ?_) fun H1 e1 => ?_
      · rw [inV_pairs]; exact pair_not hs
      · exact s_retL (el_lst (ea_cons (ev_ixT (ev_var rfl) (ex_t e1 hT) rfl) (ea_cons (ev_ixT (ev_var rfl) (ex_t e1 hT) rfl) ea_nil)) (by show 2 ≤ 100000; decide)) fun p H2 hp e2 h2 => k p H2 (fresh_back e1 hp) (e1.trans e2) h2
    · refine q_not (et_is (et_cmp (ev_ixT (ev_var rfl) hT rfl) ev_c (rv_isT (sP _) rfl rfl)) ?_) fun H1 e1 => ?_
      · rw [inV_pairs]; decide +kernel
      · exact s_retL (el_ifT (et_str (ev_ixT (ev_var rfl) (ex_t e1 hT) rfl) (by decide +kernel)) (el_lst (ea_cons (ev_ixT (ev_var rfl) (ex_t e1 hT) rfl) ea_nil) (by show 1 ≤ 100000; decide))) fun p H2 hp e2 h2 => k p H2 (fresh_back e1 hp) (e1.trans e2) h2
theorem dn_within (T : Txt w K mg C_BadRule C_BadRules C_BadLand C_BadDay C_BadNumber C_Feast C_Calendar) : Dn P w K mg base CX0 "within" 1 ["rule"] (spWithin K) := T.f_within.dn fun _ _ F _ _ => ok_within F T
def spSize (K : PySem.W.Frag) (n : Nat) : Sp := fun vs H Q _ => ∃ (v : V) (m : Nat) (o : Option (Nat × Nat)), vs = [v, .int m] ∧ m < n ∧ SzAt K H v m o ∧ RetO o H Q
theorem RetO.no {o : Option (Nat × Nat)} {H : Hp} {Q : VK} (k : RetO o H Q) (h : o = none) {H' : Hp} (e : Ex H H') : Q .non H' := k.1 h H' e
theorem et_eqU {σ : L2.St} {H : Hp} {te : TE} {p : Addr} {xs : List V} (h : Ev te σ H (.ref p)) (hT : SqT K H p xs) : EvT (tTest (tOp (rEqE K) te (tTup tNil))) σ H xs.isEmpty :=
  et_test (ev_opU (xs := []) h (eu_tup ea_nil (Nat.zero_le _)) fun q H1 hq e1 H2 e2 Q k => ⟨p, q, xs, rfl, rfl, ex_t (e1.trans e2) hT, st_of (e2 _ _ hq), k H2 (Ex.refl H2)⟩)
theorem kit_ss {K : PySem.W.Frag} : PySem.W.kitOne K (.type "str") (.type "str") = some true := kit_ty (by decide +kernel)
theorem et_inK {σ : L2.St} {H : Hp} {te : TE} {d : Addr} {s : Str} {r : Option Value} (h : Ev te σ H (.str s)) (e : PySem.W.nsIn K d s = some r) : EvT (tTest (tOp (fun x y H Q => ∃ (z : Str) (r : Option Value), x = .str z ∧ y = .ref d ∧ PySem.W.nsIn K d z = some r ∧ Q (.bl r.isSome) H) te (tC (.ref d)))) σ H r.isSome :=
  et_test (ev_op h ev_c fun H1 _ Q k => ⟨s, r, rfl, rfl, e, k H1 (Ex.refl H1)⟩)
/-- a turn of size_of's loop: the part within, its parts and bys added -/
theorem size_step {n m P0 Q0 : Nat} {va x : V} {R : Int} {v5 : Option V} {o : Option (Nat × Nat)} {D : Ends} {H1 : Hp} (hz : SzAt K H1 x m o) (hm : m < n) (hR : R - (P0 : Int) = (m : Int)) (kN : o = none → ∀ H2, Ex H1 H2 → D.rt .non H2)
    (kS : ∀ p q, o = some (p, q) → ∀ H2 z, Ex H1 H2 → D.nx [some va, some (.int R), some (.int ((P0 + p : Nat) : Int)), some (.int ((Q0 + q : Nat) : Int)), some x, z] H2) :
    tSeq (tAsg (tCall (spSize K n) [] E0 (tCons (tVar 4) (tCons (tOp (rI0 fun i j => .int (i - j)) (tVar 1) (tVar 2)) tNil))) (gName 5)) (tSeq (tIfS (tTest (tOp (fun x y H Q => y = .non ∧ Q (.bl (decide (x = .non))) H) (tVar 5) (tC .non))) (tRet (tC .non)) tNext)
      (tPar 2 3 (tCons (tOp (rI0 fun i j => .int (i + j)) (tVar 2) (tOp (rIxT K) (tVar 5) (tC (.int 0)))) (tCons (tOp (rI0 fun i j => .int (i + j)) (tVar 3) (tOp (rIxT K) (tVar 5) (tC (.int 1)))) tNil)))) D
      [some va, some (.int R), some (.int (P0 : Int)), some (.int (Q0 : Int)), some x, v5] H1 := by
  refine q_call (vs := [x, .int (m : Int)]) (ea_cons (ev_var rfl) (ea_cons (ev_is (ev_op (ev_var rfl) (ev_var rfl) rv_I0) (by rw [hR])) ea_nil)) fun H2 e2 => ⟨x, m, o, rfl, hm, hz.mono e2, fun ho H3 e3 => ?_, fun p q ho t H3 ht e3 h3 => ?_⟩
  · refine q_yes (et_is (et_cmp (ev_var rfl) ev_c rv_isN) rfl) fun H4 e4 => ?_
    exact s_ret ev_c fun H5 e5 => kN ho H5 (((e2.trans e3).trans e4).trans e5)
  · refine q_not (et_is (et_cmp (ev_var rfl) ev_c rv_isN) rfl) fun H4 e4 => ?_
    refine s_par (ea_cons (ev_is (ev_op (ev_var rfl) (ev_ixT (ev_var rfl) (st_of (e4 _ _ h3)) rfl) rv_I0) rfl) (ea_cons (ev_is (ev_op (ev_var rfl) (ev_ixT (ev_var rfl) (st_of (e4 _ _ h3)) rfl) rv_I0) rfl) ea_nil)) fun H5 e5 => ?_
    have := kS p q ho H5 (some (.ref t)) (((e2.trans e3).trans e4).trans e5)
    rw [Int.natCast_add, Int.natCast_add] at this
    exact this
theorem abs_val (b : Int) : (if b < 0 then -b else b) = ((b.natAbs : Nat) : Int) := by
  split <;> omega
theorem size_turn (F : Fun K "size_of" "size_of" s_size_of f fd) (T : Txt w K mg C_BadRule C_BadRules C_BadLand C_BadDay C_BadNumber C_Feast C_Calendar) (hm : mg "size_of" = some (.ref f)) (hb : Binds K fd ["value", "room"] []) (n : Nat) (ih : FnOk P w K mg base CX0 (n + 1) f fd ["value", "room"] (spSize K n)) : FnOk P w K mg base CX0 (n + 2) f fd ["value", "room"] (spSize K (n + 1)) := by
  obtain ⟨aP, gPAIRS, sP⟩ := T.g_PAIRS
  obtain ⟨aB, gBYS, sB⟩ := T.g_BYS
  obtain ⟨dE, aW, aM, gENDS, tE⟩ := T.g_ENDS
  obtain ⟨esE, nE, kdENDS⟩ := tE.kd
  have D_is_in : Dn P w K mg base CX0 "is_in" 1 ["value", "some"] (spIsIn K) := dn_is_in T
  have D_within : Dn P w K mg base CX0 "within" 1 ["rule"] (spWithin K) := dn_within T
  have D_size_of : Dn P w K mg base CX0 "size_of" (n + 1) ["value", "room"] (spSize K n) := ⟨f, fd, hm, F.kp, ih, hb⟩
  refine F.ok sc_size_of (fun vs H Q E h => ?_) (fun cdv A outer s H vs Q E hr h => ?_)
  · obtain ⟨_, _, _, rfl, _⟩ := h
    rfl
  · obtain ⟨v, m, o, rfl, hmn, hZ, k⟩ := h
    have hr1 : Room 1 _ := hr.mono (by omega)
    refine ⟨_, (pss_cons (ps_if (PW.pt (pw_or (pt_cmpR op_eq (pv 1) pe_int (nomark _)) (pw_or (pt_not (pt_val (pe_callB call_isi (by rfl) T.isinstance (by decide +kernel) (pa_cons (pv 0) (pa_cons (pe_bltn (v := .ty "tuple") (by rfl) T.tuple (by decide +kernel) rfl) pa_nil))))) (pw_or (pt_cmpR (op_eqE (hu_of hr1)) (pv 0) (pe_tup pa_nil) (nomark _)) (pw_or1 (pt_not (pt_val (pe_callB call_isi (by rfl) T.isinstance (by decide +kernel) (pa_cons (pe_ix ix_tup (pv 0) pe_int (fun _ _ => rfl)) (pa_cons (pe_bltn (v := .ty "str") (by rfl) T.str (by decide +kernel) rfl) pa_nil)))))))))) (pss_one (ps_ret pe_non))
  pss_nil)
  (pss_cons (ps_if (pt_cmpR (op_in_kd kdENDS) (pe_ix ix_tup (pv 0) pe_int (fun _ _ => rfl)) (pe_glob (v := .ref dE) rfl gENDS rfl) (by rfl)) (pss_one (ps_ret (pe_ifExp (PW.pt (pw_and (pt_cmpR op_eq (pe_callB call_len_seq (by rfl) T.len (by decide +kernel) (pa_cons (pv 0) pa_nil)) pe_int (nomark _)) (pw_and1 (pt_val (pe_fn D_is_in (hr.mono (by omega)) pass0 rfl (pa_cons (pe_ix ix_tup (pv 0) pe_int (fun _ _ => rfl)) (pa_cons (pe_ix ix_kdict (pe_glob (v := .ref dE) rfl gENDS rfl) (pe_ix ix_tup (pv 0) pe_int (fun _ _ => rfl)) (fun _ _ => rfl)) pa_nil))))))) (pe_tup (pa_cons pe_int (pa_cons pe_int pa_nil))) pe_non)))
  pss_nil)
  (pss_cons (ps_if (PW.pt (pw_or (pt_cmpR op_ne (pe_callB call_len_seq (by rfl) T.len (by decide +kernel) (pa_cons (pv 0) pa_nil)) pe_int (nomark _)) (pw_or1 (PW.pt (pw_and (pt_cmpR op_ne (pe_ix ix_tup (pv 0) pe_int (fun _ _ => rfl)) pe_str (nomark _)) (pw_and1 (pt_cmpR op_notIn_seq (pe_ix ix_tup (pv 0) pe_int (fun _ _ => rfl)) (pe_glob (v := .ref aP) rfl gPAIRS rfl) (by rfl)))))))) (pss_one (ps_ret pe_non))
  pss_nil)
  (pss_cons (ps_if (PW.pt (pw_and (pt_cmpR op_eq (pe_ix ix_tup (pv 0) pe_int (fun _ _ => rfl)) pe_str (nomark _)) (pw_and1 (pt_not (pt_val (pe_fn D_is_in (hr.mono (by omega)) pass0 rfl (pa_cons (pe_ix ix_tup (pv 0) pe_int (fun _ _ => rfl)) (pa_cons (pe_glob (v := .ref aB) rfl gBYS rfl) pa_nil)))))))) (pss_one (ps_ret pe_non))
  pss_nil)
  (pss_cons (ps_par (i := 2) (j := 3) (by rfl) sc_size_of.nd rfl rfl (by decide) rfl rfl (pa_cons pe_int (pa_cons (pe_ifExp (pt_cmpR op_eq (pe_ix ix_tup (pv 0) pe_int (fun _ _ => rfl)) pe_str (nomark _)) (pe_callB call_abs (by rfl) T.abs (by decide +kernel) (pa_cons (pe_ix ix_tup (pv 0) pe_int (fun _ _ => rfl)) pa_nil)) pe_int) pa_nil)) (by first | rfl | exact sw2 rfl rfl rfl rfl (by decide)))
  (pss_cons (ps_for PassesOwn.never rfl (pi_list (pe_fn D_within (hr.mono (by omega)) pass0 rfl (pa_cons (pv 0) pa_nil))) (pg_name (i := 4) sc_size_of.nd rfl (by first | exact Or.inl rfl | exact Or.inr rfl))
  (pss_cons (ps_set (i := 5) sc_size_of.nd rfl (by first | exact Or.inl rfl | exact Or.inr rfl) (pe_fn D_size_of (hr.mono (by omega)) pass0 rfl (pa_cons (pv 4) (pa_cons (pe_op op_sub (pv 1) (pv 2)) pa_nil))))
  (pss_cons (ps_if (pt_cmpR op_isN (pv 5) pe_non (nomark _)) (pss_one (ps_ret pe_non))
  pss_nil)
  (pss_one (ps_par (i := 2) (j := 3) (by rfl) sc_size_of.nd rfl rfl (by decide) rfl rfl (pa_cons (pe_op op_add (pv 2) (pe_ix ix_tup (pv 5) pe_int (fun _ _ => rfl))) (pa_cons (pe_op op_add (pv 3) (pe_ix ix_tup (pv 5) pe_int (fun _ _ => rfl))) pa_nil)) (by first | rfl | exact sw2 rfl rfl rfl rfl (by decide)))))))
  (pss_one (ps_ret (pe_tup (pa_cons (pv 2) (pa_cons (pv 3) pa_nil))))))))))), ?_⟩
    -- the first test: not none
    have gate : ∀ {a : Addr} {s : Str} {xs : List V} {m : Nat}, SqT K H a (.str s :: xs) → EvT (tOr (tTest (tOp rEq (tVar 1) (tC (.int 0)))) (tOr (tNot (tB (tCB (rIsi K) (tCons (tVar 0) (tCons (tC (.ty "tuple")) tNil))))) (tOr (tTest (tOp (rEqE K) (tVar 0) (tTup tNil))) (tNot (tB (tCB (rIsi K) (tCons (tOp (rIxT K) (tVar 0) (tC (.int 0))) (tCons (tC (.ty "str")) tNil)))))))) (start ["value", "room", "parts", "bys", "rule", "found"] [.ref a, .int ((m + 1 : Nat) : Int)]) H false := fun {a s xs m} hT =>
      et_is (et_or (et_cmp (ev_var rfl) ev_c (rv_eq rfl)) fun _ => et_or (et_not (et_B (ev_isi (ev_var rfl) (ty_tup hT) kit_tt))) fun _ => et_or (et_eqU (ev_var rfl) hT) fun _ => et_not (et_B (ev_isi (ev_ixT (ev_var rfl) hT at0) (ty_str s) kit_ss))) (by
        have : ¬ (V.int ((m + 1 : Nat) : Int) = V.int 0) := fun q => by injection q with q; omega
        rw [decide_eq_false this]
        rfl)
    have notEnd : ∀ {s : Str}, s ∈ (["behind", "both", "either", "without", "week"] : List Str) → PySem.W.nsIn K dE s = some none := fun h => tE.no _ h
    have pos : ∀ {m : Nat}, ¬ (V.int ((m + 1 : Nat) : Int) = V.int 0) := fun q => by
      injection q with q
      omega
    -- a word of ENDS; none
    have inE : ∀ {a : Addr} {s : Str} {xs : List V} {σ : L2.St} {H1 : Hp}, SqT K H1 a (.str s :: xs) → σ[0]? = some (some (V.ref a)) → isEnd s → EvT (tTest (tOp (fun x y H Q => ∃ (z : Str) (r : Option Value), x = .str z ∧ y = .ref dE ∧ PySem.W.nsIn K dE z = some r ∧ Q (.bl r.isSome) H) (tOp (rIxT K) (tVar 0) (tC (.int 0))) (tC (.ref dE)))) σ H1 true := fun {a s xs σ H1} hT h0 hs => by
      obtain ⟨a1, h1, _⟩ := tE.in hs
      exact et_is (et_inK (ev_ixT (ev_var h0) hT at0) h1) rfl
    have outE : ∀ {a : Addr} {s : Str} {xs : List V} {σ : L2.St} {H1 : Hp}, SqT K H1 a (.str s :: xs) → σ[0]? = some (some (V.ref a)) → s ∈ (["behind", "both", "either", "without", "week"] : List Str) → EvT (tTest (tOp (fun x y H Q => ∃ (z : Str) (r : Option Value), x = .str z ∧ y = .ref dE ∧ PySem.W.nsIn K dE z = some r ∧ Q (.bl r.isSome) H) (tOp (rIxT K) (tVar 0) (tC (.int 0))) (tC (.ref dE)))) σ H1 false := fun {a s xs σ H1} hT h0 hs => et_is (et_inK (ev_ixT (ev_var h0) hT at0) (notEnd hs)) rfl
    have len2 : ∀ {a : Addr} {xs : List V} {σ : L2.St} {H1 : Hp} {c : Int}, SqT K H1 a xs → σ[0]? = some (some (V.ref a)) → Ev (tCB (rLenS K) (tCons (tVar 0) tNil)) σ H1 (.int (xs.length : Int)) := fun hT h0 => ev_lenT (ev_var h0) hT
    have wordT : ∀ {a : Addr} {s : Str} {xs : List V} {σ : L2.St} {H1 : Hp}, SqT K H1 a (.str s :: xs) → σ[0]? = some (some (V.ref a)) → EvT (tOr (tTest (tOp rNe (tCB (rLenS K) (tCons (tVar 0) tNil)) (tC (.int 3)))) (tAnd (tTest (tOp rNe (tOp (rIxT K) (tVar 0) (tC (.int 0))) (tC (.str "behind")))) (tTest (tOp (rIn K true) (tOp (rIxT K) (tVar 0) (tC (.int 0))) (tC (.ref aP)))))) σ H1
        (!decide (xs.length = 2) || (!decide (s = "behind") && !decide (s = "both" ∨ s = "either" ∨ s = "without"))) := fun {a s xs σ H1} hT h0 =>
      et_or (et_is (et_cmp (ev_lenT (ev_var h0) hT) ev_c (rv_ne rfl)) (by
        show (!decide (V.int (((xs.length + 1 : Nat)) : Int) = V.int 3)) = !decide (xs.length = 2)
        by_cases h : xs.length = 2
        · rw [h]; rfl
        · rw [decide_eq_false h, decide_eq_false]
          intro q
          injection q with q
          omega)) fun _ => et_and (et_is (et_cmp (ev_ixT (ev_var h0) hT at0) ev_c (rv_ne rfl)) (by
        show (!decide (V.str s = V.str "behind")) = !decide (s = "behind")
        by_cases h : s = "behind"
        · rw [h]; rfl
        · rw [decide_eq_false h, decide_eq_false]
          intro q
          injection q with q
          exact h q)) fun _ => et_is (et_cmp (ev_ixT (ev_var h0) hT at0) ev_c (rv_niT (sP _) rfl rfl)) (by rw [inV_pairs])
    cases hZ with
    | zero =>
      refine q_yes (et_or1 (et_is (et_cmp (ev_var rfl) ev_c (rv_eq rfl)) rfl)) fun H1 e1 => ?_
      exact s_ret ev_c fun H2 e2 => k.1 rfl H2 (e1.trans e2)
    | kind hy hk =>
      refine q_yes (et_is (et_or (et_cmp (ev_var rfl) ev_c (rv_eq rfl)) fun _ => et_or1 (et_not (et_B (ev_isi (ev_var rfl) hy hk)))) (by rw [decide_eq_false pos]; rfl)) fun H1 e1 => ?_
      exact s_ret ev_c fun H2 e2 => k.1 rfl H2 (e1.trans e2)
    | empty hT =>
      refine q_yes (et_is (et_or (et_cmp (ev_var rfl) ev_c (rv_eq rfl)) fun _ => et_or (et_not (et_B (ev_isi (ev_var rfl) (ty_tup hT) kit_tt))) fun _ => et_or1 (et_eqU (ev_var rfl) hT)) (by rw [decide_eq_false pos]; rfl)) fun H1 e1 => ?_
      exact s_ret ev_c fun H2 e2 => k.1 rfl H2 (e1.trans e2)
    | head hT hy hk =>
      refine q_yes (et_is (et_or (et_cmp (ev_var rfl) ev_c (rv_eq rfl)) fun _ => et_or (et_not (et_B (ev_isi (ev_var rfl) (ty_tup hT) kit_tt))) fun _ => et_or (et_eqU (ev_var rfl) hT) fun _ => et_not (et_B (ev_isi (ev_ixT (ev_var rfl) hT at0) hy hk))) (by rw [decide_eq_false pos]; rfl)) fun H1 e1 => ?_
      exact s_ret ev_c fun H2 e2 => k.1 rfl H2 (e1.trans e2)
    | leaf hs hT ok =>
      rename_i a s kk m
      obtain ⟨aE, h1, xsE, hxs, hfl, hin⟩ := tE.in hs
      refine q_not (gate hT) fun H1 e1 => ?_
      refine q_yes (inE (ex_t e1 hT) rfl hs) fun H2 e2 => ?_
      have hT2 := ex_t (e1.trans e2) hT
      refine s_retU (eu_ifT (et_and (et_is (et_cmp (ev_lenT (ev_var rfl) hT2) ev_c (rv_eq rfl)) rfl) fun _ => et_B (ev_call (ea_cons (ev_ixT (ev_var rfl) hT2 rfl) (ea_cons (ev_op (ev_c) (ev_ixT (ev_var rfl) hT2 at0) fun H3 _ Q q => ⟨dE, s, .ref aE, rfl, rfl, tE.kdct h1, q H3 (Ex.refl H3)⟩) ea_nil)) (spv_is_in (b := true) (.int kk) (hxs _) hfl (by show inV (.int kk) xsE = true; rw [hin, ok])))) (eu_tup (ea_cons ev_c (ea_cons ev_c ea_nil)) (by show 2 ≤ 100000; decide))) fun t H3 ht e3 h3 => k.2 1 0 rfl t H3 (fresh_back (e1.trans e2) ht) ((e1.trans e2).trans e3) h3
    | leafLen hs hT hl =>
      rename_i a s xs m
      refine q_not (gate hT) fun H1 e1 => ?_
      refine q_yes (inE (ex_t e1 hT) rfl hs) fun H2 e2 => ?_
      have hT2 := ex_t (e1.trans e2) hT
      refine s_ret (ev_ifF (et_and0 (et_is (et_cmp (ev_lenT (ev_var rfl) hT2) ev_c (rv_eq rfl)) (decide_eq_false fun q => ?_))) ev_c) fun H3 e3 => k.1 rfl H3 ((e1.trans e2).trans e3)
      injection q with q
      have : ((V.str s :: xs).length : Int) = (xs.length : Int) + 1 := by simp
      omega
    | leafNum hs hT hx no =>
      rename_i a s x o m
      obtain ⟨aE, h1, xsE, hxs, hfl, hin⟩ := tE.in hs
      refine q_not (gate hT) fun H1 e1 => ?_
      refine q_yes (inE (ex_t e1 hT) rfl hs) fun H2 e2 => ?_
      have hT2 := ex_t (e1.trans e2) hT
      refine s_ret (ev_ifF (et_is (et_and (et_is (et_cmp (ev_lenT (ev_var rfl) hT2) ev_c (rv_eq rfl)) rfl) fun _ => et_B (ev_call (ea_cons (ev_ixT (ev_var rfl) hT2 rfl) (ea_cons (ev_op (ev_c) (ev_ixT (ev_var rfl) hT2 at0) fun H3 _ Q q => ⟨dE, s, .ref aE, rfl, rfl, tE.kdct h1, q H3 (Ex.refl H3)⟩) ea_nil)) (spv_is_in (b := false) (hx.mono (e1.trans e2)) (hxs _) hfl (by
        cases o with
        | none => rfl
        | some z => show inV (.int z) xsE = false; rw [hin, no z rfl])))) rfl) ev_c) fun H3 e3 => k.1 rfl H3 ((e1.trans e2).trans e3)
    | word hs hT hl =>
      rename_i a s xs m
      refine q_not (gate hT) fun H1 e1 => ?_
      refine q_not (outE (ex_t e1 hT) rfl hs) fun H2 e2 => ?_
      refine q_yes (et_is (wordT (ex_t (e1.trans e2) hT) rfl) ?_) fun H3 e3 => ?_
      · rcases hl with hl | rfl
        · rw [decide_eq_false hl]; rfl
        · rw [show decide (("week" : Str) = "behind") = false by decide +kernel, show decide (("week" : Str) = "both" ∨ ("week" : Str) = "either" ∨ ("week" : Str) = "without") = false by decide +kernel]
          cases decide (xs.length = 2) <;> rfl
      · exact s_ret ev_c fun H4 e4 => k.1 rfl H4 (((e1.trans e2).trans e3).trans e4)
    | byBad hT hb no =>
      rename_i a x b o m
      refine q_not (gate hT) fun H1 e1 => ?_
      refine q_not (outE (ex_t e1 hT) rfl (by simp)) fun H2 e2 => ?_
      refine q_not (et_is (wordT (ex_t (e1.trans e2) hT) rfl) (by simp)) fun H3 e3 => ?_
      have E3 := (e1.trans e2).trans e3
      refine q_yes (et_is (et_and (et_str (c := true) (ev_ixT (ev_var rfl) (ex_t E3 hT) rfl) (by decide +kernel)) fun _ => et_not (et_B (ev_call (ea_cons (ev_ixT (ev_var rfl) (ex_t E3 hT) rfl) (ea_cons ev_c ea_nil)) (spv_is_in (b := false) (hb.mono E3) (sB _) rfl (by
        cases o with
        | none => rfl
        | some z => show inV (.int z) bysV = false; rw [inV_bys, no z rfl]))))) rfl) fun H4 e4 => ?_
      exact s_ret ev_c fun H5 e5 => k.1 rfl H5 ((E3.trans e4).trans e5)
    | behind hT ok hx =>
      rename_i a x b m o
      refine q_not (gate hT) fun H1 e1 => ?_
      refine q_not (outE (ex_t e1 hT) rfl (by simp)) fun H2 e2 => ?_
      refine q_not (et_is (wordT (ex_t (e1.trans e2) hT) rfl) (by simp)) fun H3 e3 => ?_
      have E3 := (e1.trans e2).trans e3
      refine q_not (et_is (et_and (et_str (c := true) (ev_ixT (ev_var rfl) (ex_t E3 hT) rfl) (by decide +kernel)) fun _ => et_not (et_B (ev_call (ea_cons (ev_ixT (ev_var rfl) (ex_t E3 hT) rfl) (ea_cons ev_c ea_nil)) (spv_is_in (b := true) (.int b) (sB _) rfl (by
        show inV (.int b) bysV = true; rw [inV_bys, ok]))))) rfl) fun H4 e4 => ?_
      have E4 := E3.trans e4
      refine q_par (y := .int ((b.natAbs : Nat) : Int)) (ea_cons ev_c (ea_cons (ev_ifT (et_str (ev_ixT (ev_var rfl) (ex_t E4 hT) rfl) (by decide +kernel)) (ev_cb (ea_cons (ev_ixT (ev_var rfl) (ex_t E4 hT) rfl) ea_nil) fun H5 _ Q q => ⟨b, rfl, by rw [abs_val]; exact q H5 (Ex.refl H5)⟩)) ea_nil)) fun H5 e5 => ?_
      have E5 := E4.trans e5
      refine q_forNLn (xs := [x]) (el_call (ea_cons (ev_var rfl) ea_nil) (spL fun H6 e6 Q _ q => ⟨a, rfl, .inr ⟨x, _, ex_t (E5.trans e6) hT, q⟩⟩))
        (fun l i σ H' => Ex H H' ∧ H' l = some (.lst [x]) ∧ ∃ p q z4 z5, σ = [some (.ref a), some (.int ((m + 1 : Nat) : Int)), some (.int ((p : Nat) : Int)), some (.int ((q : Nat) : Int)), z4, z5] ∧ ((i = 0 ∧ p = 1 ∧ q = b.natAbs) ∨ (i = 1 ∧ ∃ p1 q1, o = some (p1, q1) ∧ p = 1 + p1 ∧ q = b.natAbs + q1)))
        (fun l H6 _ e6 h6 => ⟨E5.trans e6, h6, 1, b.natAbs, _, _, rfl, .inl ⟨rfl, rfl, rfl⟩⟩) (fun l i σ' H' _ h => sq_of h.2.1) ?_ ?_
      · rintro l i y σ' H' hi ⟨e, hl, p, q, z4, z5, rfl, hc⟩
        rcases hc with ⟨rfl, rfl, rfl⟩ | ⟨rfl, _⟩
        · cases hi
          refine size_step (hx.mono e) (by omega) (by omega) (fun ho H6 e6 => k.1 (by rw [ho]; rfl) H6 (e.trans e6)) fun p q ho H6 z e6 => ⟨e.trans e6, e6 _ _ hl, _, _, _, _, rfl, .inr ⟨rfl, p, q, ho, rfl, rfl⟩⟩
        · simp at hi
      · rintro l σ' H' ⟨e, hl, p, q, z4, z5, rfl, hc⟩
        rcases hc with ⟨h0, _⟩ | ⟨_, p1, q1, ho, rfl, rfl⟩
        · cases h0
        · exact s_retU (eu_tup (ea_cons (ev_var rfl) (ea_cons (ev_var rfl) ea_nil)) (by show 2 ≤ 100000; decide)) fun t H6 ht e6 h6 => k.2 _ _ (by rw [ho]; rfl) t H6 (fresh_back e ht) (e.trans e6) h6
    | pairNo hs hT hx =>
      rename_i a s x y m
      have hsM : s ∈ (["behind", "both", "either", "without", "week"] : List Str) := by rcases hs with rfl | rfl | rfl <;> simp
      have hsB : decide (s = "behind") = false := by rcases hs with rfl | rfl | rfl <;> decide +kernel
      refine q_not (gate hT) fun H1 e1 => ?_
      refine q_not (outE (ex_t e1 hT) rfl hsM) fun H2 e2 => ?_
      refine q_not (et_is (wordT (ex_t (e1.trans e2) hT) rfl) (by rw [pair_not hs]; simp)) fun H3 e3 => ?_
      have E3 := (e1.trans e2).trans e3
      refine q_not (et_and0 (et_str (ev_ixT (ev_var rfl) (ex_t E3 hT) rfl) hsB)) fun H4 e4 => ?_
      have E4 := E3.trans e4
      refine q_par (y := .int ((0 : Nat) : Int)) (ea_cons ev_c (ea_cons (ev_ifF (et_str (ev_ixT (ev_var rfl) (ex_t E4 hT) rfl) hsB) ev_c) ea_nil)) fun H5 e5 => ?_
      have E5 := E4.trans e5
      refine q_forNLn (xs := [x, y]) (el_call (ea_cons (ev_var rfl) ea_nil) (spL fun H6 e6 Q _ q => ⟨a, rfl, .inl ⟨s, x, y, hs, ex_t (E5.trans e6) hT, q⟩⟩))
        (fun l i σ H' => Ex H H' ∧ H' l = some (.lst [x, y]) ∧ ∃ z4 z5, σ = [some (.ref a), some (.int ((m + 1 : Nat) : Int)), some (.int ((1 : Nat) : Int)), some (.int ((0 : Nat) : Int)), z4, z5] ∧ i = 0)
        (fun l H6 _ e6 h6 => ⟨E5.trans e6, h6, _, _, rfl, rfl⟩) (fun l i σ' H' _ h => sq_of h.2.1) ?_ ?_
      · rintro l i y σ' H' hi ⟨e, hl, z4, z5, rfl, rfl⟩
        cases hi
        exact size_step (hx.mono e) (by omega) (by omega) (fun ho H6 e6 => k.1 rfl H6 (e.trans e6)) fun p q ho => nomatch ho
      · rintro l σ' H' ⟨e, hl, z4, z5, rfl, h0⟩
        cases h0
    | pair hs hT hx hp hy =>
      rename_i a s x y m p1 q1 o
      have hsM : s ∈ (["behind", "both", "either", "without", "week"] : List Str) := by rcases hs with rfl | rfl | rfl <;> simp
      have hsB : decide (s = "behind") = false := by rcases hs with rfl | rfl | rfl <;> decide +kernel
      refine q_not (gate hT) fun H1 e1 => ?_
      refine q_not (outE (ex_t e1 hT) rfl hsM) fun H2 e2 => ?_
      refine q_not (et_is (wordT (ex_t (e1.trans e2) hT) rfl) (by rw [pair_not hs]; simp)) fun H3 e3 => ?_
      have E3 := (e1.trans e2).trans e3
      refine q_not (et_and0 (et_str (ev_ixT (ev_var rfl) (ex_t E3 hT) rfl) hsB)) fun H4 e4 => ?_
      have E4 := E3.trans e4
      refine q_par (y := .int ((0 : Nat) : Int)) (ea_cons ev_c (ea_cons (ev_ifF (et_str (ev_ixT (ev_var rfl) (ex_t E4 hT) rfl) hsB) ev_c) ea_nil)) fun H5 e5 => ?_
      have E5 := E4.trans e5
      refine q_forNLn (xs := [x, y]) (el_call (ea_cons (ev_var rfl) ea_nil) (spL fun H6 e6 Q _ q => ⟨a, rfl, .inl ⟨s, x, y, hs, ex_t (E5.trans e6) hT, q⟩⟩))
        (fun l i σ H' => Ex H H' ∧ H' l = some (.lst [x, y]) ∧ ∃ p q z4 z5, σ = [some (.ref a), some (.int ((m + 1 : Nat) : Int)), some (.int ((p : Nat) : Int)), some (.int ((q : Nat) : Int)), z4, z5] ∧ ((i = 0 ∧ p = 1 ∧ q = 0) ∨ (i = 1 ∧ p = 1 + p1 ∧ q = q1) ∨ (i = 2 ∧ ∃ p2 q2, o = some (p2, q2) ∧ p = 1 + p1 + p2 ∧ q = q1 + q2)))
        (fun l H6 _ e6 h6 => ⟨E5.trans e6, h6, 1, 0, _, _, rfl, .inl ⟨rfl, rfl, rfl⟩⟩) (fun l i σ' H' _ h => sq_of h.2.1) ?_ ?_
      · rintro l i z σ' H' hi ⟨e, hl, p, q, z4, z5, rfl, hc⟩
        rcases hc with ⟨rfl, rfl, rfl⟩ | ⟨rfl, rfl, rfl⟩ | ⟨rfl, _⟩
        · cases hi
          refine size_step (hx.mono e) (by omega) (by omega) (fun ho => nomatch ho) fun p q ho H6 z e6 => ⟨e.trans e6, e6 _ _ hl, _, _, _, _, rfl, .inr (.inl ⟨rfl, ?_, ?_⟩)⟩
          · injection ho with ho; injection ho with h1 h2; omega
          · injection ho with ho; injection ho with h1 h2; omega
        · cases hi
          exact size_step (hy.mono e) (by omega) (by omega) (fun ho H6 e6 => k.1 (by rw [ho]; rfl) H6 (e.trans e6)) fun p q ho H6 z e6 => ⟨e.trans e6, e6 _ _ hl, _, _, _, _, rfl, .inr (.inr ⟨rfl, p, q, ho, rfl, rfl⟩)⟩
        · simp at hi
      · rintro l σ' H' ⟨e, hl, p, q, z4, z5, rfl, hc⟩
        rcases hc with ⟨h0, _⟩ | ⟨h0, _⟩ | ⟨_, p2, q2, ho, rfl, rfl⟩
        · cases h0
        · cases h0
        · exact s_retU (eu_tup (ea_cons (ev_var rfl) (ea_cons (ev_var rfl) ea_nil)) (by show 2 ≤ 100000; decide)) fun t H6 ht e6 h6 => k.2 _ _ (by rw [ho]; rfl) t H6 (fresh_back e ht) (e.trans e6) h6
theorem ok_size (F : Fun K "size_of" "size_of" s_size_of f fd) (T : Txt w K mg C_BadRule C_BadRules C_BadLand C_BadDay C_BadNumber C_Feast C_Calendar) (hm : mg "size_of" = some (.ref f)) (hb : Binds K fd ["value", "room"] []) : ∀ n : Nat, FnOk P w K mg base CX0 (n + 1) f fd ["value", "room"] (spSize K n)
  | 0 => fnok_none fun _ _ _ _ ⟨_, _, _, _, h, _⟩ => absurd h (Nat.not_lt_zero _)
  | n + 1 => size_turn F T hm hb n (ok_size F T hm hb n)
theorem dn_size (T : Txt w K mg C_BadRule C_BadRules C_BadLand C_BadDay C_BadNumber C_Feast C_Calendar) : Dn P w K mg base CX0 "size_of" 7 ["value", "room"] (spSize K 6) := T.f_size_of.dn fun _ _ F hm hb => ok_size F T hm hb 6
/-- is a rule: at most five parts, bys of at most four -/
def isRuleB (o : Option (Nat × Nat)) : Bool := match o with
  | some (_, q) => decide (q ≤ 4)
  | none => false
def spIsRule (K : PySem.W.Frag) : Sp := fun vs H Q _ => ∃ v o, vs = [v] ∧ SzAt K H v 5 o ∧ RetV (.bl (isRuleB o)) H Q
theorem ok_is_rule (F : Fun K "is_rule" "is_rule" s_is_rule f fd) (T : Txt w K mg C_BadRule C_BadRules C_BadLand C_BadDay C_BadNumber C_Feast C_Calendar) : FnOk P w K mg base CX0 8 f fd ["value"] (spIsRule K) := by
  have D_size_of : Dn P w K mg base CX0 "size_of" 7 ["value", "room"] (spSize K 6) := dn_size T
  refine F.ok sc_is_rule (fun vs H Q E h => ?_) (fun cdv A outer s H vs Q E hr h => ?_)
  · obtain ⟨_, _, rfl, _⟩ := h
    rfl
  · obtain ⟨v, o, rfl, hZ, k⟩ := h
    refine ⟨_, (pss_cons (ps_set (i := 1) sc_is_rule.nd rfl (by first | exact Or.inl rfl | exact Or.inr rfl) (pe_fn D_size_of (hr.mono (by omega)) pass0 rfl (pa_cons (pv 0) (pa_cons (pe_globE rfl T.g_MOST_PARTS) pa_nil))))
  (pss_one (ps_ret (pe_and (pe_cmpR op_notN (pv 1) pe_non (nomark _)) (pe_one (pe_cmpR op_le (pe_ix ix_tup (pv 1) pe_int (fun _ _ => rfl)) (pe_globE rfl T.g_MOST_BYS) (nomark _))))))), ?_⟩
    refine q_call (vs := [v, .int ((5 : Nat) : Int)]) (ea_cons (ev_var rfl) (ea_cons ev_c ea_nil)) fun H2 e2 => ⟨v, 5, o, rfl, by decide, hZ.mono e2, fun ho H3 e3 => ?_, fun p q ho t H3 ht e3 h3 => ?_⟩
    · subst ho
      exact s_ret (ev_and0 (ev_is (ev_op (ev_var rfl) ev_c rv_notN) rfl)) fun H4 e4 => k H4 ((e2.trans e3).trans e4)
    · subst ho
      refine s_ret (v := .bl (isRuleB (some (p, q)))) (ev_is (ev_andV (ev_is (ev_op (ev_var rfl) ev_c rv_notN) rfl) fun _ => ev_op (ev_ixT (ev_var rfl) (st_of h3) rfl) ev_c rv_I0) ?_) fun H4 e4 => k H4 ((e2.trans e3).trans e4)
      show V.bl (true && decide ((q : Int) ≤ 4)) = V.bl (decide (q ≤ 4))
      rw [Bool.true_and]
      by_cases h : q ≤ 4
      · rw [decide_eq_true h, decide_eq_true (by omega)]
      · rw [decide_eq_false h, decide_eq_false (by omega)]
theorem dn_is_rule (T : Txt w K mg C_BadRule C_BadRules C_BadLand C_BadDay C_BadNumber C_Feast C_Calendar) : Dn P w K mg base CX0 "is_rule" 8 ["value"] (spIsRule K) := T.f_is_rule.dn fun _ _ F _ _ => ok_is_rule F T
end
end WF

set_option Elab.async false
set_option linter.all false
set_option maxRecDepth 100000
set_option maxHeartbeats 2000000
/-! Feast's __init__ -/
namespace WF
open PySem L2 Evl
section
variable {P : Program} {w : World} {K : PySem.W.Frag} {mg : Str → Option Value} {base : Heap} {C_BadRule C_BadRules C_BadLand C_BadDay C_BadNumber C_Feast C_Calendar : Addr} {f : Addr} {fd : FuncData}
def spFeast (K : PySem.W.Frag) (CF CR : Addr) : Sp := fun vs H Q E => ∃ (p dx : Addr) (v : V) (o : Option (Nat × Nat)), vs = [.ref p, v] ∧ H p = some (.ins CF dx []) ∧ SzAt K H v 5 o ∧
  (isRuleB o = false → ∀ H1, Ex H H1 → E (.ref CR) none H1) ∧ (∀ a q, o = some (a, q) → q ≤ 4 → ∀ H', ExB p H H' → H' p = some (.ins CF dx (feastF v q)) → Q .non H')
theorem ev_sizeAt {σ : L2.St} {H : Hp} {v : V} {ta : TA} {a q n m : Nat} (h : EvA ta σ H [v, .int (m : Int)]) (hm : m < n) (hz : SzAt K H v m (some (a, q))) : Ev (tOp (rIxT K) (tCall (spSize K n) [] E0 ta) (tC (.int 1))) σ H (.int (q : Int)) := fun H1 e Q k =>
  h H1 e _ fun H2 e2 => ⟨v, m, some (a, q), rfl, hm, hz.mono (e.trans e2), ⟨fun ho => (by cases ho), fun a' q' ho t H3 ht e3 h3 => by
    cases ho
    exact ⟨t, _, 1, .int (q : Int), rfl, rfl, st_of h3, rfl, k H3 (e2.trans e3)⟩⟩⟩
theorem ok_feast (F : Fun K "__init__" "Feast.__init__" s_Feast_init f fd) (T : Txt w K mg C_BadRule C_BadRules C_BadLand C_BadDay C_BadNumber C_Feast C_Calendar) (CF : Cls1 K C_Feast ["told", "bys"]) : FnOk P w K mg base (L2.CX P w) 9 f fd ["self", "rule"] (spFeast K C_Feast C_BadRule) := by
  have D_size_of : Dn P w K mg base CX0 "size_of" 7 ["value", "room"] (spSize K 6) := dn_size T
  have D_is_rule : Dn P w K mg base CX0 "is_rule" 8 ["value"] (spIsRule K) := dn_is_rule T
  refine F.okX sc_Feast_init (fun vs H Q E h => ?_) (fun cdv A outer s H vs Q E hr h => ?_)
  · obtain ⟨_, _, _, _, rfl, _⟩ := h
    rfl
  · obtain ⟨p, dx, v, o, rfl, hp, hZ, kE, kG⟩ := h
    refine ⟨_, (pss_cons (ps_if (pt_not (pt_val (pe_fn D_is_rule (hr.mono (by omega)) pass0 rfl (pa_cons (pv 1) pa_nil)))) (pss_one (ps_raise0 rfl (takes_of rfl rfl rfl rfl) T.e_BadRule T.c_BadRule rfl))
  pss_nil)
  (pss_cons (ps_fld (pv 0) (pv 1) rfl)
  (pss_one (ps_fld (pv 0) (pe_ix ix_tup (pe_fn D_size_of (hr.mono (by omega)) pass0 rfl (pa_cons (pv 1) (pa_cons (pe_globE rfl T.g_MOST_PARTS) pa_nil))) pe_int (fun _ _ => rfl)) rfl)))), ?_⟩
    have hev : EvT (tNot (tB (tCall (spIsRule K) [] E0 (tCons (tVar 1) tNil)))) (start ["self", "rule"] [.ref p, v]) H (!isRuleB o) := et_not (et_B (ev_call (ea_cons (ev_var rfl) ea_nil) (spV (z := .bl (isRuleB o)) fun H1 e Q _ q => ⟨v, o, rfl, hZ.mono e, q⟩)))
    cases hb : isRuleB o with
    | false =>
      rw [hb] at hev
      exact q_yes hev fun H1 e1 => kE hb H1 e1
    | true =>
      rw [hb] at hev
      refine q_not hev fun H1 e1 => ?_
      obtain ⟨a, q, rfl, hq⟩ : ∃ a q, o = some (a, q) ∧ q ≤ 4 := by
        cases o with
        | none => cases hb
        | some z => exact ⟨z.1, z.2, rfl, of_decide_eq_true hb⟩
      refine q_fld (ev_var rfl) (ev_var rfl) (e1 _ _ hp) CF.cl (CF.no _ (by simp)) (by show 0 < 1000; decide) fun H2 e2 => ?_
      have hZ2 : SzAt K (upd H2 p (.ins C_Feast dx (putF "told" v []))) v 5 (some (a, q)) := sz_upd ((e1.trans e2) _ _ hp) (hZ.mono (e1.trans e2))
      refine s_fld (y := .int (q : Int)) (ev_sizeAt (m := 5) (ea_cons (ev_var rfl) (ea_cons ev_c ea_nil)) (by decide) hZ2) (ev_var rfl) upd_same CF.cl (CF.no _ (by simp)) (by show 1 < 1000; decide) fun H3 e3 => ?_
      exact kG a q rfl hq _ (((ExB.of (e1.trans e2)).upd.step e3).upd) upd_same
theorem mn_feast (T : Txt w K mg C_BadRule C_BadRules C_BadLand C_BadDay C_BadNumber C_Feast C_Calendar) (CF : Cls1 K C_Feast ["told", "bys"]) : Mn P w K mg base (L2.CX P w) C_Feast 9 ["self", "rule"] (spFeast K C_Feast C_BadRule) := T.m_Feast_init.mn fun _ _ F => ok_feast F T CF
/-- Feast(rule), of a rule that may be one -/
theorem er_feast {CF CR : Addr} {σ : L2.St} {H : Hp} {v : V} {r : Rl} {ta : TA} {E : XK} (h : EvA ta σ H [v]) (hr : RlAt K H v r) (hf : r.fit = true) (hp : r.parts ≤ 5) (hb : r.bys ≤ 4) : EvR (tMake CF (spFeast K CF CR) [] E ta) σ H fun p H2 => FeastAt K CF H2 p r :=
  er_make h fun H1 e1 x dx hx hdx hne Q k => by
    have e2 : Ex H1 (upd (upd H1 dx (.own x)) x (.ins CF dx [])) := ex_made hx hdx
    have hz := sz_of (hr.mono (e1.trans e2)) hf 5
    rw [szOf, if_pos hp] at hz
    refine ⟨x, dx, v, _, rfl, upd_same, hz, fun hn => ?_, fun a q ho hq H' eb h' => ?_⟩
    · have : isRuleB (some (r.parts, r.bys)) = true := decide_eq_true hb
      rw [this] at hn
      cases hn
    · cases ho
      have ee : Ex H1 H' := eb.old e2 hx
      exact k H' ee ⟨dx, v, h', hr.mono (e1.trans ee)⟩
end
end WF

set_option Elab.async false
set_option linter.all false
set_option maxRecDepth 100000
set_option maxHeartbeats 2000000
/-! Feast's rule, == and operators -/
namespace WF
open PySem L2 Evl
theorem isRuleB_sz (r : Rl) : isRuleB (szOf r 5) = okRl r := by
  unfold szOf okRl
  by_cases h : r.parts ≤ 5
  · rw [if_pos h]
    show decide (r.bys ≤ 4) = _
    rw [decide_eq_decide]
    exact ⟨fun x => ⟨h, x⟩, fun x => x.2⟩
  · rw [if_neg h]
    show false = _
    rw [eq_comm, decide_eq_false_iff_not]
    exact fun x => h x.1
section
variable {P : Program} {w : World} {K : PySem.W.Frag} {mg : Str → Option Value} {base : Heap} {C_BadRule C_BadRules C_BadLand C_BadDay C_BadNumber C_Feast C_Calendar : Addr} {f : Addr} {fd : FuncData}
def spOp (K : PySem.W.Frag) (CF CR : Addr) (mk : Rl → Rl → Rl) : Sp := fun vs H Q E => ∃ (a b : Addr) (r s : Rl), vs = [.ref a, .ref b] ∧ FeastAt K CF H a r ∧ FeastAt K CF H b s ∧ r.fit = true ∧ s.fit = true ∧
  (okRl (mk r s) = false → ∀ H1, Ex H H1 → E (.ref CR) none H1) ∧ (okRl (mk r s) = true → ∀ p H2, H p = none → Ex H H2 → FeastAt K CF H2 p (mk r s) → Q (.ref p) H2)
/-- Feast(a new rule), made or refused -/
theorem mk_feast {CF CR : Addr} {σ : L2.St} {H : Hp} {tu : TE} {us : List V} {E : XK} {Q : VK} {r : Rl} (h : EvU tu σ H us) (hr : ∀ t H1, Ex H H1 → H1 t = some (.tup us) → RlAt K H1 (.ref t) r) (hf : r.fit = true)
    (kE : okRl r = false → ∀ H1, Ex H H1 → E (.ref CR) none H1) (kG : okRl r = true → ∀ p H2, H p = none → Ex H H2 → FeastAt K CF H2 p r → Q (.ref p) H2) : tMake CF (spFeast K CF CR) [] E (tCons tu tNil) σ H Q :=
  h H (Ex.refl H) _ fun t H1 ht e1 h1 x dx hx hdx hne => by
    have e2 : Ex H1 (upd (upd H1 dx (.own x)) x (.ins CF dx [])) := ex_made hx hdx
    have hR := hr t H1 e1 h1
    refine ⟨x, dx, .ref t, _, rfl, upd_same, sz_of (hR.mono e2) hf 5, fun hn H2 e3 => kE (by rw [← isRuleB_sz]; exact hn) H2 ((e1.trans e2).trans e3), fun a q ho hq H' eb h' => ⟨rfl, ?_⟩⟩
    have ee : Ex H1 H' := eb.old e2 hx
    have hok : okRl r = true := by
      rw [← isRuleB_sz, ho]
      exact decide_eq_true hq
    have hq' : q = r.bys := by
      unfold szOf at ho
      by_cases h : r.parts ≤ 5
      · rw [if_pos h] at ho
        cases ho
        rfl
      · rw [if_neg h] at ho
        cases ho
    subst hq'
    exact kG hok x H' (fresh_back e1 hx) (e1.trans ee) ⟨dx, .ref t, h', hR.mono ee⟩
theorem mk_feastNo {CF CR : Addr} {σ : L2.St} {H : Hp} {tu : TE} {us : List V} {E : XK} {Q : VK} {o : Option (Nat × Nat)} (h : EvU tu σ H us) (hz : ∀ t H1, Ex H H1 → H1 t = some (.tup us) → SzAt K H1 (.ref t) 5 o) (ho : isRuleB o = false)
    (kE : ∀ H1, Ex H H1 → E (.ref CR) none H1) : tMake CF (spFeast K CF CR) [] E (tCons tu tNil) σ H Q :=
  h H (Ex.refl H) _ fun t H1 ht e1 h1 x dx hx hdx hne => by
    have e2 : Ex H1 (upd (upd H1 dx (.own x)) x (.ins CF dx [])) := ex_made hx hdx
    refine ⟨x, dx, .ref t, o, rfl, upd_same, (hz t H1 e1 h1).mono e2, fun _ H2 e3 => kE H2 ((e1.trans e2).trans e3), fun a q hq hq4 _ _ _ => ?_⟩
    subst hq
    rw [show isRuleB (some (a, q)) = decide (q ≤ 4) from rfl, decide_eq_true hq4] at ho
    cases ho
theorem mt_and (T : Txt w K mg C_BadRule C_BadRules C_BadLand C_BadDay C_BadNumber C_Feast C_Calendar) (CF : Cls1 K C_Feast ["told", "bys"]) : Mtn P w K mg base (L2.CX P w) C_Feast "__and__" 11 ["self", "other"] (spOp K C_Feast C_BadRule .bo) := T.m_Feast_and.mtn fun g fd F => by
  have M_Feast : Mn P w K mg base (L2.CX P w) C_Feast 9 ["self", "rule"] (spFeast K C_Feast C_BadRule) := mn_feast T CF
  refine F.okX sc_Feast_and (fun vs H Q E h => ?_) (fun cdv A outer s H vs Q E hr h => ?_)
  · obtain ⟨_, _, _, _, rfl, _⟩ := h
    rfl
  · obtain ⟨a, b, r, s, rfl, ⟨dx, v, ho, hv⟩, ⟨dy, u, ho2, hu⟩, f1, f2, kE, kG⟩ := h
    refine ⟨_, (pss_one (ps_ret (pe_mk M_Feast (hr.mono (by omega)) T.c_Feast (passes_call (takes_of rfl rfl rfl rfl) (fun _ _ _ _ h => h)) rfl (pa_cons (pe_tup (pa_cons pe_str (pa_cons (pe_fld (pv 0) rfl) (pa_cons (pe_fld (pv 1) rfl) pa_nil)))) pa_nil)))), ?_⟩
    exact s_retX (mk_feast (r := .bo r s) (eu_tup (ea_cons ev_c (ea_cons (ev_fld (ev_var rfl) ho CF.cl (CF.no _ (by simp)) rfl) (ea_cons (ev_fld (ev_var rfl) ho2 CF.cl (CF.no _ (by simp)) rfl) ea_nil))) (by show 3 ≤ 100000; decide)) (fun t H1 e1 h1 => .bo (st_of h1) (hv.mono e1) (hu.mono e1)) (by simp only [Rl.fit, f1, f2]; rfl) kE kG)
theorem mt_or (T : Txt w K mg C_BadRule C_BadRules C_BadLand C_BadDay C_BadNumber C_Feast C_Calendar) (CF : Cls1 K C_Feast ["told", "bys"]) : Mtn P w K mg base (L2.CX P w) C_Feast "__or__" 11 ["self", "other"] (spOp K C_Feast C_BadRule .ei) := T.m_Feast_or.mtn fun g fd F => by
  have M_Feast : Mn P w K mg base (L2.CX P w) C_Feast 9 ["self", "rule"] (spFeast K C_Feast C_BadRule) := mn_feast T CF
  refine F.okX sc_Feast_or (fun vs H Q E h => ?_) (fun cdv A outer s H vs Q E hr h => ?_)
  · obtain ⟨_, _, _, _, rfl, _⟩ := h
    rfl
  · obtain ⟨a, b, r, s, rfl, ⟨dx, v, ho, hv⟩, ⟨dy, u, ho2, hu⟩, f1, f2, kE, kG⟩ := h
    refine ⟨_, (pss_one (ps_ret (pe_mk M_Feast (hr.mono (by omega)) T.c_Feast (passes_call (takes_of rfl rfl rfl rfl) (fun _ _ _ _ h => h)) rfl (pa_cons (pe_tup (pa_cons pe_str (pa_cons (pe_fld (pv 0) rfl) (pa_cons (pe_fld (pv 1) rfl) pa_nil)))) pa_nil)))), ?_⟩
    exact s_retX (mk_feast (r := .ei r s) (eu_tup (ea_cons ev_c (ea_cons (ev_fld (ev_var rfl) ho CF.cl (CF.no _ (by simp)) rfl) (ea_cons (ev_fld (ev_var rfl) ho2 CF.cl (CF.no _ (by simp)) rfl) ea_nil))) (by show 3 ≤ 100000; decide)) (fun t H1 e1 h1 => .ei (st_of h1) (hv.mono e1) (hu.mono e1)) (by simp only [Rl.fit, f1, f2]; rfl) kE kG)
theorem mt_sub (T : Txt w K mg C_BadRule C_BadRules C_BadLand C_BadDay C_BadNumber C_Feast C_Calendar) (CF : Cls1 K C_Feast ["told", "bys"]) : Mtn P w K mg base (L2.CX P w) C_Feast "__sub__" 11 ["self", "other"] (spOp K C_Feast C_BadRule .wo) := T.m_Feast_sub.mtn fun g fd F => by
  have M_Feast : Mn P w K mg base (L2.CX P w) C_Feast 9 ["self", "rule"] (spFeast K C_Feast C_BadRule) := mn_feast T CF
  refine F.okX sc_Feast_sub (fun vs H Q E h => ?_) (fun cdv A outer s H vs Q E hr h => ?_)
  · obtain ⟨_, _, _, _, rfl, _⟩ := h
    rfl
  · obtain ⟨a, b, r, s, rfl, ⟨dx, v, ho, hv⟩, ⟨dy, u, ho2, hu⟩, f1, f2, kE, kG⟩ := h
    refine ⟨_, (pss_one (ps_ret (pe_mk M_Feast (hr.mono (by omega)) T.c_Feast (passes_call (takes_of rfl rfl rfl rfl) (fun _ _ _ _ h => h)) rfl (pa_cons (pe_tup (pa_cons pe_str (pa_cons (pe_fld (pv 0) rfl) (pa_cons (pe_fld (pv 1) rfl) pa_nil)))) pa_nil)))), ?_⟩
    exact s_retX (mk_feast (r := .wo r s) (eu_tup (ea_cons ev_c (ea_cons (ev_fld (ev_var rfl) ho CF.cl (CF.no _ (by simp)) rfl) (ea_cons (ev_fld (ev_var rfl) ho2 CF.cl (CF.no _ (by simp)) rfl) ea_nil))) (by show 3 ≤ 100000; decide)) (fun t H1 e1 h1 => .wo (st_of h1) (hv.mono e1) (hu.mono e1)) (by simp only [Rl.fit, f1, f2]; rfl) kE kG)
def spMoved (K : PySem.W.Frag) (CF CR : Addr) : Sp := fun vs H Q E => ∃ (a : Addr) (b : V) (r : Rl) (o : Option Int), vs = [.ref a, b] ∧ FeastAt K CF H a r ∧ r.fit = true ∧ NumV K H b o ∧
  ((∀ z, o = some z → byOk z = true → okRl (.bh r z) = false) → ∀ H1, Ex H H1 → E (.ref CR) none H1) ∧ (∀ z, o = some z → byOk z = true → okRl (.bh r z) = true → ∀ p H2, H p = none → Ex H H2 → FeastAt K CF H2 p (.bh r z) → Q (.ref p) H2)
theorem mt_moved (T : Txt w K mg C_BadRule C_BadRules C_BadLand C_BadDay C_BadNumber C_Feast C_Calendar) (CF : Cls1 K C_Feast ["told", "bys"]) : Mtn P w K mg base (L2.CX P w) C_Feast "moved" 11 ["self", "by"] (spMoved K C_Feast C_BadRule) := T.m_Feast_moved.mtn fun g fd F => by
  have M_Feast : Mn P w K mg base (L2.CX P w) C_Feast 9 ["self", "rule"] (spFeast K C_Feast C_BadRule) := mn_feast T CF
  refine F.okX sc_Feast_moved (fun vs H Q E h => ?_) (fun cdv A outer s H vs Q E hr h => ?_)
  · obtain ⟨_, _, _, _, rfl, _⟩ := h
    rfl
  · obtain ⟨a, b, r, o, rfl, ⟨dx, v, ho, hv⟩, f1, hN, kE, kG⟩ := h
    refine ⟨_, (pss_one (ps_ret (pe_mk M_Feast (hr.mono (by omega)) T.c_Feast (passes_call (takes_of rfl rfl rfl rfl) (fun _ _ _ _ h => h)) rfl (pa_cons (pe_tup (pa_cons pe_str (pa_cons (pe_fld (pv 0) rfl) (pa_cons (pv 1) pa_nil)))) pa_nil)))), ?_⟩
    have hu : EvU (tTup (tCons (tC (.str "behind")) (tCons (tFld K (tVar 0) "told") (tCons (tVar 1) tNil)))) (start ["self", "by"] [.ref a, b]) H [.str "behind", v, b] := eu_tup (ea_cons ev_c (ea_cons (ev_fld (ev_var rfl) ho CF.cl (CF.no _ (by simp)) rfl) (ea_cons (ev_var rfl) ea_nil))) (by show 3 ≤ 100000; decide)
    by_cases hz : ∃ z, o = some z ∧ byOk z = true
    · obtain ⟨z, rfl, hb⟩ := hz
      cases hN with
      | int z =>
        exact s_retX (mk_feast (r := .bh r z) hu (fun t H1 e1 h1 => .bh (st_of h1) (hv.mono e1)) (by simp only [Rl.fit, f1]; rw [show decide (z = -2 ∨ z = -1 ∨ z = 1 ∨ z = 2) = true from hb]; rfl) (fun hn => kE fun z' hz' _ => by cases hz'; exact hn) (kG z rfl hb))
    · have hno : ∀ z, o = some z → byOk z = false := fun z hz' => by
        cases hb : byOk z with
        | false => rfl
        | true => exact (hz ⟨z, hz', hb⟩).elim
      exact s_retX (mk_feastNo (o := none) hu (fun t H1 e1 h1 => .byBad (st_of h1) (hN.mono e1) hno) rfl (kE fun z hz' hb => by rw [hno z hz'] at hb; cases hb))
end
end WF

set_option Elab.async false
set_option linter.all false
set_option maxRecDepth 100000
set_option maxHeartbeats 2000000
/-! is_pair and Calendar's __init__, of right rows -/
namespace WF
open PySem L2 Evl
section
variable {P : Program} {w : World} {K : PySem.W.Frag} {mg : Str → Option Value} {base : Heap} {C_BadRule C_BadRules C_BadLand C_BadDay C_BadNumber C_Feast C_Calendar : Addr} {f : Addr} {fd : FuncData}
theorem kit_bb {K : PySem.W.Frag} : PySem.W.kitOne K (.type "bool") (.type "bool") = some true := kit_ty (by decide +kernel)
def spIsPair (K : PySem.W.Frag) (CF : Addr) : Sp := fun vs H Q _ => ∃ v r, vs = [v] ∧ RowAt K CF H v r ∧ RetV (.bl true) H Q
theorem ok_is_pair (F : Fun K "is_pair" "is_pair" s_is_pair f fd) (T : Txt w K mg C_BadRule C_BadRules C_BadLand C_BadDay C_BadNumber C_Feast C_Calendar) (IF : ClsI K C_Feast) : FnOk P w K mg base CX0 1 f fd ["value"] (spIsPair K C_Feast) := by
  refine F.ok sc_is_pair (fun vs H Q E h => ?_) (fun cdv A outer s H vs Q E hr h => ?_)
  · obtain ⟨_, _, rfl, _⟩ := h
    rfl
  · obtain ⟨v, r, rfl, ⟨p, q, rfl, hT, dx, tv, hq, _⟩, k⟩ := h
    refine ⟨_, (pss_cons (ps_if (PW.pt (pw_or (pt_not (pt_val (pe_callB call_isi (by rfl) T.isinstance (by decide +kernel) (pa_cons (pv 0) (pa_cons (pe_bltn (v := .ty "tuple") (by rfl) T.tuple (by decide +kernel) rfl) pa_nil))))) (pw_or1 (pt_cmpR op_ne (pe_callB call_len_seq (by rfl) T.len (by decide +kernel) (pa_cons (pv 0) pa_nil)) pe_int (nomark _))))) (pss_one (ps_ret pe_bl))
  pss_nil)
  (pss_one (ps_ret (pe_and (pe_callB call_isi (by rfl) T.isinstance (by decide +kernel) (pa_cons (pe_ix ix_tup (pv 0) pe_int (fun _ _ => rfl)) (pa_cons (pe_glob (v := .ref C_Feast) rfl T.c_Feast rfl) pa_nil))) (pe_one (pe_callB call_isi (by rfl) T.isinstance (by decide +kernel) (pa_cons (pe_ix ix_tup (pv 0) pe_int (fun _ _ => rfl)) (pa_cons (pe_bltn (v := .ty "bool") (by rfl) T.bool (by decide +kernel) rfl) pa_nil)))))))), ?_⟩
    refine q_not (et_is (et_or (et_not (et_B (ev_isi (ev_var rfl) (ty_tup hT) kit_tt))) fun _ => et_cmp (ev_lenT (ev_var rfl) hT) ev_c (rv_ne rfl)) rfl) fun H1 e1 => ?_
    exact s_ret (ev_is (ev_andV (ev_isiC (ev_ixT (ev_var rfl) (ex_t e1 hT) rfl) (IF.ty (e1 _ _ hq)) kit_self) fun _ => ev_isi (ev_ixT (ev_var rfl) (ex_t e1 hT) rfl) (ty_bl _) kit_bb) rfl) fun H2 e2 => k H2 (e1.trans e2)
theorem dn_is_pair (T : Txt w K mg C_BadRule C_BadRules C_BadLand C_BadDay C_BadNumber C_Feast C_Calendar) (IF : ClsI K C_Feast) : Dn P w K mg base CX0 "is_pair" 1 ["value"] (spIsPair K C_Feast) := T.f_is_pair.dn fun _ _ F _ _ => ok_is_pair F T IF
theorem rows_eq (d : Rl × Bool) : ∀ rows : Rows, (List.range rows.length).map (fun i => rows.getD i d) = rows
  | [] => rfl
  | r :: rows => by
    rw [List.length_cons, List.range_succ_eq_map, List.map_cons, List.map_map]
    exact congrArg (List.cons r) (rows_eq d rows)
/-- the rows' feasts, by their place -/
theorem RowsL.fn {CF : Addr} {H : Hp} {xs : List V} {rows : Rows} (h : RowsL K CF H xs rows) (d : Rl × Bool) : ∃ q : Nat → Addr, ∀ i x, xs[i]? = some x → ∃ p, x = .ref p ∧ SqT K H p [.ref (q i), .bl (rows.getD i d).2] ∧ FeastAt K CF H (q i) (rows.getD i d).1 := by
  have : ∀ i, ∃ q : Addr, ∀ x, xs[i]? = some x → ∃ p, x = .ref p ∧ SqT K H p [.ref q, .bl (rows.getD i d).2] ∧ FeastAt K CF H q (rows.getD i d).1 := fun i => by
    cases e : xs[i]? with
    | none => exact ⟨0, fun x hx => nomatch hx⟩
    | some y =>
      obtain ⟨r, hr, p, q, h0, h1, h2⟩ := h.get e
      refine ⟨q, fun x hx => ?_⟩
      cases hx
      have : rows.getD i d = r := by rw [List.getD_eq_getElem?_getD, hr]; rfl
      rw [this]
      exact ⟨p, h0, h1, h2⟩
  exact Classical.axiomOfChoice this
def spCal (K : PySem.W.Frag) (CF CC : Addr) : Sp := fun vs H Q E => ∃ (p dx : Addr) (v : V) (rows : Rows), vs = [.ref p, v] ∧ H p = some (.ins CC dx []) ∧ RowsAt K CF H v rows ∧ rows.length ≤ 3 ∧ rowsBys rows ≤ 4 ∧
  (∀ H', ExB p H H' → H' p = some (.ins CC dx (calF v (reachOf rows))) → Q .non H')
theorem ok_cal (F : Fun K "__init__" "Calendar.__init__" s_Calendar_init f fd) (T : Txt w K mg C_BadRule C_BadRules C_BadLand C_BadDay C_BadNumber C_Feast C_Calendar) (CF : Cls1 K C_Feast ["told", "bys"]) (IF : ClsI K C_Feast) (CC : Cls1 K C_Calendar ["rows", "near"]) : FnOk P w K mg base CX0 2 f fd ["self", "rules"] (spCal K C_Feast C_Calendar) := by
  have D_is_pair : Dn P w K mg base CX0 "is_pair" 1 ["value"] (spIsPair K C_Feast) := dn_is_pair T IF
  refine F.ok sc_Calendar_init (fun vs H Q E h => ?_) (fun cdv A outer s H vs Q E hr h => ?_)
  · obtain ⟨_, _, _, _, rfl, _⟩ := h
    rfl
  · obtain ⟨p, dx, v, rows, rfl, hp, ⟨a, xs, rfl, hX, hRs⟩, hlen, hbys, k⟩ := h
    obtain ⟨qf, hqf⟩ := hRs.fn (.wk 0, false)
    have hxl := hRs.len
    refine ⟨_, (pss_cons (ps_if (PW.pt (pw_or (pt_not (pt_val (pe_callB call_isi (by rfl) T.isinstance (by decide +kernel) (pa_cons (pv 1) (pa_cons (pe_bltn (v := .ty "tuple") (by rfl) T.tuple (by decide +kernel) rfl) pa_nil))))) (pw_or1 (pt_cmpR op_gt (pe_callB call_len_seq (by rfl) T.len (by decide +kernel) (pa_cons (pv 1) pa_nil)) (pe_globE rfl T.g_MOST_RULES) (nomark _))))) (pss_one ps_never)
  pss_nil)
  (pss_cons (ps_for PassesOwn.never rfl (pi_enumT (by rfl) T.enumerate (pa_cons (pv 1) pa_nil)) (pg_tup rfl (pgs_cons (pg_name (i := 2) sc_Calendar_init.nd rfl (by first | exact Or.inl rfl | exact Or.inr rfl)) (pgs_cons (pg_name (i := 3) sc_Calendar_init.nd rfl (by first | exact Or.inl rfl | exact Or.inr rfl)) pgs_nil)))
  (pss_one (ps_if (pt_not (pt_val (pe_fn D_is_pair (hr.mono (by omega)) pass0 rfl (pa_cons (pv 3) pa_nil)))) (pss_one ps_never)
  pss_nil)))
  (pss_cons (ps_set (i := 4) sc_Calendar_init.nd rfl (by first | exact Or.inl rfl | exact Or.inr rfl) (pe_callB (cr_sum rfl) (by rfl) T.sum (by decide +kernel) (pa_cons (pe_lc (own := [("feast", 5), ("yields", 6)]) (tt := tYes) rfl sc_Calendar_init.nd (pi_tup (pv 1)) (blkOk_by (own := [("feast", 5), ("yields", 6)]) (N := ["self", "rules", "index", "rule", "bys", "feast", "yields"]) (sc := defScope s_Calendar_init) (by decide +kernel)) (fun _ _ _ _ _ => (pg_tupK (K := K) (n := 2) rfl (pgs_cons (pg_name (i := 5) sc_Calendar_init.nd rfl (by first | exact Or.inl rfl | exact Or.inr rfl)) (pgs_cons (pg_name (i := 6) sc_Calendar_init.nd rfl (by first | exact Or.inl rfl | exact Or.inr rfl)) pgs_nil)))) (fun _ _ _ _ _ => pts_nil) (fun _ _ _ _ _ => (pe_fldK (K := K) (pv 5) rfl))) pa_nil)))
  (pss_cons (ps_if (pt_cmpR op_gt (pv 4) (pe_globE rfl T.g_MOST_BYS) (nomark _)) (pss_one ps_never)
  pss_nil)
  (pss_cons (ps_fld (pv 0) (pv 1) rfl)
  (pss_one (ps_fld (pv 0) (pe_op op_add (pe_op op_add (pe_globE rfl T.g_LEAST_REACH) (pv 4)) (pe_callB call_len_seq (by rfl) T.len (by decide +kernel) (pa_cons (pe_lc (own := [("feast", 5), ("yields", 6)]) rfl sc_Calendar_init.nd (pi_tup (pv 1)) (blkOk_by (own := [("feast", 5), ("yields", 6)]) (N := ["self", "rules", "index", "rule", "bys", "feast", "yields"]) (sc := defScope s_Calendar_init) (by decide +kernel)) (fun _ _ _ _ _ => (pg_tupK (K := K) (n := 2) rfl (pgs_cons (pg_name (i := 5) sc_Calendar_init.nd rfl (by first | exact Or.inl rfl | exact Or.inr rfl)) (pgs_cons (pg_name (i := 6) sc_Calendar_init.nd rfl (by first | exact Or.inl rfl | exact Or.inr rfl)) pgs_nil)))) (fun _ _ _ _ _ => (pts_one (pt_val (pv 6)))) (fun _ _ _ _ _ => (pv 5))) pa_nil))) rfl))))))), ?_⟩
    refine q_not (et_is (et_or (et_not (et_B (ev_isi (ev_var rfl) (ty_tup hX) kit_tt))) fun _ => et_cmp (ev_lenT (ev_var rfl) hX) ev_c rv_I0) ?_) fun H1 e1 => ?_
    · show (false || decide ((3 : Int) < ((xs.length : Nat) : Int))) = false
      rw [decide_eq_false (by omega)]
      rfl
    refine q_forEnT (ev_var rfl) (ex_t e1 hX) (fun i σ H' => Ex H H' ∧ ∃ a2 a3, σ = [some (.ref p), some (.ref a), a2, a3, none, none, none]) (fun H2 e2 => ⟨e1.trans e2, _, _, rfl⟩) (fun i σ' H' _ h => ex_t h.1 hX) ?_ ?_
    · rintro i x σ' H' H2 hi ⟨e, a2, a3, rfl⟩ e2
      obtain ⟨r, hr', hrow⟩ := hRs.get hi
      refine s_no (et_is (et_not (et_B (ev_call (ea_cons (ev_var rfl) ea_nil) (spV (z := .bl true) fun H3 e3 Q _ q => ⟨x, r, rfl, hrow.mono ((e.trans e2).trans e3), q⟩)))) rfl) fun H3 e3 => ⟨(e.trans e2).trans e3, _, _, rfl⟩
    rintro σ' H' ⟨e, a2, a3, rfl⟩
    have hsum : (((List.range xs.length).map fun i => (((rows.getD i (.wk 0, false)).1.bys : Nat) : Int)).sum) = ((rowsBys rows : Nat) : Int) := by
      rw [cast_sumR, hxl]
      have := rows_eq (.wk 0, false) rows
      unfold rowsBys
      conv => rhs; rw [← this]
      rw [List.map_map]
      rfl
    refine q_asg (v := .int ((rowsBys rows : Nat) : Int)) (ev_is (ev_sumR (n := xs.length) (fun i => (((rows.getD i (.wk 0, false)).1.bys : Nat) : Int)) (el_is (el_tup2 (fun i => .ref (qf i)) (fun i => .bl (rows.getD i (.wk 0, false)).2) (fun _ => true) _ (ev_var rfl) (ex_t e hX) (by omega) (fun _ _ => rfl) (fun i x hi => ?_) (fun _ _ _ _ => et_yes) (fun i H2 e2 hi _ => ?_)) (given_allL xs _))) (by rw [hsum])) fun H2 e2 => ?_
    · obtain ⟨p', h0, h1, _⟩ := hqf i x hi
      exact ⟨p', h0, ex_t e h1⟩
    · obtain ⟨x, hx⟩ : ∃ x, xs[i]? = some x := ⟨xs[i], by simp [hi]⟩
      obtain ⟨p', h0, h1, dx', tv, hq', _⟩ := hqf i x hx
      exact ev_fld (ev_var rfl) ((e.trans e2) _ _ hq') CF.cl (CF.no _ (by simp)) (feastF_bys _ _)
    refine q_not (et_is (et_cmp (ev_var rfl) ev_c rv_I0) (decide_eq_false (by omega))) fun H3 e3 => ?_
    have E3 := (e.trans e2).trans e3
    refine q_fld (ev_var rfl) (ev_var rfl) (E3 _ _ hp) CC.cl (CC.no _ (by simp)) (by show 0 < 1000; decide) fun H4 e4 => ?_
    have E4 := E3.trans e4
    have hp4 := E4 _ _ hp
    refine s_fld (y := .int ((reachOf rows : Nat) : Int)) (ev_is (ev_op (ev_op ev_c (ev_var rfl) rv_I0) (ev_lenN (el_tup2 (fun i => .ref (qf i)) (fun i => .bl (rows.getD i (.wk 0, false)).2) (fun i => (rows.getD i (.wk 0, false)).2) (fun i => .ref (qf i)) (ev_var rfl) (sqt_upd hp4 (ex_t E4 hX)) (by omega) (fun _ _ => rfl) (fun i x hi => ?_) (fun i H5 e5 hi => et_B (ev_var rfl)) (fun i H5 e5 hi _ => ev_var rfl))) rv_I0) ?_) (ev_var rfl) upd_same CC.cl (CC.no _ (by simp)) (by show 1 < 1000; decide) fun H5 e5 => k _ (((ExB.of E4).upd.step e5).upd) upd_same
    · obtain ⟨p', h0, h1, _⟩ := hqf i x hi
      exact ⟨p', h0, sqt_upd hp4 (ex_t E4 h1)⟩
    · have hl : (given xs.length (fun i => (rows.getD i (.wk 0, false)).2) (fun i => V.ref (qf i))).length = (rows.filter fun r => r.2).length := by
        unfold given
        rw [List.length_map, hxl]
        have := rows_eq (.wk 0, false) rows
        conv => rhs; rw [← this]
        rw [List.filter_map, List.length_map]
        rfl
      rw [hl]
      show V.int (3 + ((rowsBys rows : Nat) : Int) + _) = _
      unfold reachOf
      rw [Int.natCast_add, Int.natCast_add]
      rfl
theorem mn_cal (T : Txt w K mg C_BadRule C_BadRules C_BadLand C_BadDay C_BadNumber C_Feast C_Calendar) (CF : Cls1 K C_Feast ["told", "bys"]) (IF : ClsI K C_Feast) (CC : Cls1 K C_Calendar ["rows", "near"]) : Mn P w K mg base CX0 C_Calendar 2 ["self", "rules"] (spCal K C_Feast C_Calendar) := T.m_Calendar_init.mn fun _ _ F => ok_cal F T CF IF CC
/-- Calendar(rules) -/
theorem er_cal {CF CC : Addr} {σ : L2.St} {H : Hp} {v : V} {rows : Rows} {ta : TA} {E : XK} (h : EvA ta σ H [v]) (hr : RowsAt K CF H v rows) (hl : rows.length ≤ 3) (hb : rowsBys rows ≤ 4) : EvR (tMake CC (spCal K CF CC) [] E ta) σ H fun p H2 => CalAt K CF CC H2 (.ref p) rows :=
  er_make h fun H1 e1 x dx hx hdx hne Q k => by
    have e2 : Ex H1 (upd (upd H1 dx (.own x)) x (.ins CC dx [])) := ex_made hx hdx
    refine ⟨x, dx, v, rows, rfl, upd_same, hr.mono (e1.trans e2), hl, hb, fun H' eb h' => ?_⟩
    have ee : Ex H1 H' := eb.old e2 hx
    exact k H' ee ⟨x, dx, v, rfl, h', hr.mono (e1.trans ee)⟩
end
end WF

set_option Elab.async false
set_option linter.all false
set_option maxRecDepth 100000
set_option maxHeartbeats 2000000
/-! figure_of -/
namespace WF
open PySem L2 Evl
section
variable {P : Program} {w : World} {K : PySem.W.Frag} {mg : Str → Option Value} {base : Heap} {C_BadRule C_BadRules C_BadLand C_BadDay C_BadNumber C_Feast C_Calendar : Addr} {f : Addr} {fd : FuncData}
def spFig (K : PySem.W.Frag) (n : Nat) : Sp := fun vs H Q _ => ∃ (v : V) (l : Addr) (r : Rl) (w m : Nat), vs = [v, .ref l] ∧ RlAt K H v r ∧ r.dep < n ∧ SqT K H l [.int w, .int m] ∧ LandOk w m ∧ RetV (.int (figN (w * m) (r.day w m) : Nat)) H Q
theorem spv_every {H : Hp} {s b n : Nat} {z : Int} (hs : s ≤ 6000) (hb : b ≤ 6000) (hn : n ≤ 6000) (hz : ((((List.range n).map fun t => 2 ^ (b + s * t)).sum : Nat) : Int) = z) : SpV spEvery ([.int s, .int b, .int n] ++ []) H (.int z) :=
  spV fun H1 _ Q _ q => ⟨s, b, n, rfl, hs, hb, hn, by rw [hz]; exact q⟩
theorem spv_turned {H : Hp} {N : Nat} {b : Int} {p : Int → Bool} (hN : 0 < N) (h2 : N ≤ 100000) (hp : Per (N : Int) p) : SpV spTurned ([.int (figN N p : Nat), .int b, .int N] ++ []) H (.int (figN N fun d => p (d - b) : Nat)) :=
  spV fun H1 _ Q _ q => ⟨N, b, p, rfl, hN, h2, hp, q⟩
theorem spv_fig {H : Hp} {n : Nat} {v : V} {l : Addr} {r : Rl} {w m : Nat} (h1 : RlAt K H v r) (h2 : r.dep < n) (h3 : SqT K H l [.int w, .int m]) (h4 : LandOk w m) : SpV (spFig K n) ([v, .ref l] ++ []) H (.int (figN (w * m) (r.day w m) : Nat)) :=
  spV fun H1 e Q _ q => ⟨v, l, r, w, m, rfl, h1.mono e, h2, ex_t e h3, h4, q⟩
theorem fig_turnN (F : Fun K "figure_of" "figure_of" s_figure_of f fd) (T : Txt w K mg C_BadRule C_BadRules C_BadLand C_BadDay C_BadNumber C_Feast C_Calendar) (hm : mg "figure_of" = some (.ref f)) (hb : Binds K fd ["rule", "land"] []) (n : Nat) (ih : FnOk P w K mg base CX0 (n + 1) f fd ["rule", "land"] (spFig K n)) : FnOk P w K mg base CX0 (n + 2) f fd ["rule", "land"] (spFig K (n + 1)) := by
  have D_every : Dn P w K mg base CX0 "every" 1 ["step", "begin", "many"] spEvery := dn_every T
  have D_turned : Dn P w K mg base CX0 "turned" 1 ["figure", "by", "round_days"] spTurned := dn_turned T
  have D_figure_of : Dn P w K mg base CX0 "figure_of" (n + 1) ["rule", "land"] (spFig K n) := ⟨f, fd, hm, F.kp, ih, hb⟩
  refine F.ok sc_figure_of (fun vs H Q E h => ?_) (fun cdv A outer s H vs Q E hr h => ?_)
  · obtain ⟨_, _, _, _, _, rfl, _⟩ := h
    rfl
  · obtain ⟨v, l, r, w, m, rfl, hR, hd, hL, hO, k⟩ := h
    obtain ⟨w2, wm, m6, n5⟩ := id hO
    have hq : ((w * m : Nat) : Int) = (w : Int) * (m : Int) := Int.natCast_mul w m
    have hr1 : Room 1 _ := hr.mono (by omega)
    refine ⟨_, (pss_cons (ps_asg (pv 1) (pg_tup rfl (pgs_cons (pg_name (i := 2) sc_figure_of.nd rfl (by first | exact Or.inl rfl | exact Or.inr rfl)) (pgs_cons (pg_name (i := 3) sc_figure_of.nd rfl (by first | exact Or.inl rfl | exact Or.inr rfl)) pgs_nil))))
  (pss_cons (ps_set (i := 4) sc_figure_of.nd rfl (by first | exact Or.inl rfl | exact Or.inr rfl) (pe_ix ix_tup (pv 0) pe_int (fun _ _ => rfl)))
  (pss_cons (ps_if (pt_cmpR op_eq (pv 4) pe_str (nomark _)) (pss_one (ps_ret (pe_fn D_every (hr.mono (by omega)) pass0 rfl (pa_cons (pv 2) (pa_cons (pe_op op_mod (pe_ix ix_tup (pv 0) pe_int (fun _ _ => rfl)) (pv 2)) (pa_cons (pv 3) pa_nil))))))
  pss_nil)
  (pss_cons (ps_if (pt_cmpR op_eq (pv 4) pe_str (nomark _)) (pss_one (ps_ret (pe_fn D_every (hr.mono (by omega)) pass0 rfl (pa_cons (pv 3) (pa_cons (pe_op op_mod (pe_ix ix_tup (pv 0) pe_int (fun _ _ => rfl)) (pv 3)) (pa_cons (pv 2) pa_nil))))))
  pss_nil)
  (pss_cons (ps_if (pt_cmpR op_eq (pv 4) pe_str (nomark _)) (pss_one (ps_ret (pe_callB (cr_sum rfl) (by rfl) T.sum (by decide +kernel) (pa_cons (pe_lc (own := [("month", 7)]) (g := gName 7) (tt := tYes) rfl sc_figure_of.nd (pi_range1 (by rfl) T.range (pa_cons (pv 2) pa_nil)) (blkOk_by (own := [("month", 7)]) (N := ["rule", "land", "w", "m", "word", "one", "other", "month"]) (sc := defScope s_figure_of) (by decide +kernel)) (fun _ _ _ _ _ => (pg_name (i := 7) sc_figure_of.nd rfl (by first | exact Or.inl rfl | exact Or.inr rfl))) (fun _ _ _ _ _ => pts_nil) (fun _ _ _ _ _ => (pe_op op_shlW pe_int (pe_op op_add (pe_op op_mul (pv 7) (pv 3)) (pe_op op_mod (pe_op op_sub (pe_ix (ix_tupK (K := K)) (pv 0) pe_int (fun _ _ => rfl)) (pe_op op_mul (pv 7) (pv 3))) (pv 2)))))) pa_nil))))
  pss_nil)
  (pss_cons (ps_if (pt_cmpR op_eq (pv 4) pe_str (nomark _)) (pss_one (ps_ret (pe_fn D_turned (hr.mono (by omega)) pass0 rfl (pa_cons (pe_fn D_figure_of (hr.mono (by omega)) pass0 rfl (pa_cons (pe_ix ix_tup (pv 0) pe_int (fun _ _ => rfl)) (pa_cons (pv 1) pa_nil))) (pa_cons (pe_ix ix_tup (pv 0) pe_int (fun _ _ => rfl)) (pa_cons (pe_op op_mul (pv 2) (pv 3)) pa_nil))))))
  pss_nil)
  (pss_cons (ps_par (i := 5) (j := 6) (by rfl) sc_figure_of.nd rfl rfl (by decide) rfl rfl (pa_cons (pe_fn D_figure_of (hr.mono (by omega)) pass0 rfl (pa_cons (pe_ix ix_tup (pv 0) pe_int (fun _ _ => rfl)) (pa_cons (pv 1) pa_nil))) (pa_cons (pe_fn D_figure_of (hr.mono (by omega)) pass0 rfl (pa_cons (pe_ix ix_tup (pv 0) pe_int (fun _ _ => rfl)) (pa_cons (pv 1) pa_nil))) pa_nil)) (by first | rfl | exact sw2 rfl rfl rfl rfl (by decide)))
  (pss_cons (ps_if (pt_cmpR op_eq (pv 4) pe_str (nomark _)) (pss_one (ps_ret (pe_op op_and (pv 5) (pv 6))))
  pss_nil)
  (pss_one (ps_ret (pe_ifExp (pt_cmpR op_eq (pv 4) pe_str (nomark _)) (pe_op op_or (pv 5) (pv 6)) (pe_op op_and (pv 5) (pe_un un_inv (pv 6)))))))))))))), ?_⟩
    refine q_asgT (ev_var rfl) hL fun H1 e1 => ?_
    have hR1 := hR.mono e1
    have hw0 : ∀ k : Int, k % (w : Int) = (((k % (w : Int)).toNat : Nat) : Int) := fun k => by
      have := Int.emod_nonneg k (show (w : Int) ≠ 0 by omega)
      omega
    have hm0 : ∀ k : Int, k % (m : Int) = (((k % (m : Int)).toNat : Nat) : Int) := fun k => by
      have := Int.emod_nonneg k (show (m : Int) ≠ 0 by omega)
      omega
    have hwl : ∀ k : Int, (k % (w : Int)).toNat < w := fun k => by
      have := Int.emod_lt_of_pos k (show 0 < (w : Int) by omega)
      omega
    have hml : ∀ k : Int, (k % (m : Int)).toNat < m := fun k => by
      have := Int.emod_lt_of_pos k (show 0 < (m : Int) by omega)
      omega
    cases hR1 with
    | wk hT => 
      rename_i p k0
      refine q_asg (ev_ixT (ev_var rfl) hT rfl) fun H2 e2 => ?_
      refine q_yes (et_str (ev_var rfl) (by decide +kernel)) fun H3 e3 => ?_
      refine s_ret (v := .int (figN (w * m) ((Rl.wk k0).day w m) : Nat)) (ev_call (ea_cons (ev_var rfl) (ea_cons (ev_op (ev_ixT (ev_var rfl) (ex_t (e2.trans e3) hT) rfl) (ev_var rfl) (rv_I (by omega))) (ea_cons (ev_var rfl) ea_nil))) ?_) fun H4 e4 => k H4 (((e1.trans e2).trans e3).trans e4)
      rw [hw0]
      refine spv_every (by omega) (by have := hwl k0; omega) (by omega) ?_
      rw [every_fig k0 (by omega)]
      rfl
    | fs hT =>
      rename_i p k0
      refine q_asg (ev_ixT (ev_var rfl) hT rfl) fun H2 e2 => ?_
      refine q_not (et_str (ev_var rfl) (by decide +kernel)) fun H3 e3 => ?_
      refine q_not (et_str (ev_var rfl) (by decide +kernel)) fun H4 e4 => ?_
      refine q_yes (et_str (ev_var rfl) (by decide +kernel)) fun H5 e5 => ?_
      have hT5 := ex_t (((e2.trans e3).trans e4).trans e5) hT
      refine s_ret (v := .int (figN (w * m) ((Rl.fs k0).day w m) : Nat)) (ev_is (ev_sumR (fun t => (((2 ^ (m * t + ((k0 - (m : Int) * (t : Int)) % (w : Int)).toNat) : Nat)) : Int)) (el_rng _ (ea_cons (ev_var rfl) ea_nil) ⟨by omega, by omega⟩ (fun _ => rfl) fun i H6 e6 hi => ?_)) (by rw [cast_sumR, first_fig k0 (by omega) wm, Int.toNat_natCast, Nat.mul_comm m w]; rfl)) fun H6 e6 => k H6 (((((e1.trans e2).trans e3).trans e4).trans e5).trans e6)
      have hi' : i < w := by omega
      have hmi : m * i ≤ 6000 * 6000 := Nat.mul_le_mul m6 (by omega)
      have hv : (i : Int) * (m : Int) = ((m * i : Nat) : Int) := by rw [Int.natCast_mul, Int.mul_comm]
      refine ev_is (ev_op ev_c (ev_op (ev_op (ev_var rfl) (ev_var rfl) (rv_I (.inl ⟨by omega, by omega⟩))) (ev_op (ev_op (ev_ixT (ev_var rfl) (ex_t e6 hT5) rfl) (ev_op (ev_var rfl) (ev_var rfl) (rv_I (.inl ⟨by omega, by omega⟩))) rv_I0) (ev_var rfl) (rv_I (by omega))) rv_I0) (rv_I ⟨?_, ?_⟩)) ?_
      · rw [hw0]; omega
      · rw [hw0, bits_one]
        have := hwl (k0 - (i : Int) * (m : Int))
        omega
      · rw [hw0, hv, Int.one_mul]
        have e3 : (m : Int) * (i : Int) = ((m * i : Nat) : Int) := by rw [Int.natCast_mul]
        rw [e3, ← Int.natCast_add, Int.toNat_natCast, Int.natCast_pow]
        rfl
    | md hT => 
      rename_i p k0
      refine q_asg (ev_ixT (ev_var rfl) hT rfl) fun H2 e2 => ?_
      refine q_not (et_str (ev_var rfl) (by decide +kernel)) fun H3 e3 => ?_
      refine q_yes (et_str (ev_var rfl) (by decide +kernel)) fun H4 e4 => ?_
      refine s_ret (v := .int (figN (w * m) ((Rl.md k0).day w m) : Nat)) (ev_call (ea_cons (ev_var rfl) (ea_cons (ev_op (ev_ixT (ev_var rfl) (ex_t ((e2.trans e3).trans e4) hT) rfl) (ev_var rfl) (rv_I (by omega))) (ea_cons (ev_var rfl) ea_nil))) ?_) fun H5 e5 => k H5 ((((e1.trans e2).trans e3).trans e4).trans e5)
      rw [hm0]
      refine spv_every (by omega) (by have := hml k0; omega) (by omega) ?_
      rw [every_fig k0 (by omega), Nat.mul_comm m w]
      rfl
    | bh hT hr2 =>
      rename_i p u r b
      have hd2 : r.dep < n := by simp only [Rl.dep] at hd; omega
      refine q_asg (ev_ixT (ev_var rfl) hT rfl) fun H2 e2 => ?_
      refine q_not (et_str (ev_var rfl) (by decide +kernel)) fun H3 e3 => ?_
      refine q_not (et_str (ev_var rfl) (by decide +kernel)) fun H4 e4 => ?_
      refine q_not (et_str (ev_var rfl) (by decide +kernel)) fun H5 e5 => ?_
      refine q_yes (et_str (ev_var rfl) (by decide +kernel)) fun H6 e6 => ?_
      have E6 := (((e2.trans e3).trans e4).trans e5).trans e6
      have hT6 := ex_t E6 hT
      refine s_ret (v := .int (figN (w * m) ((Rl.bh r b).day w m) : Nat)) (ev_call (ea_cons (ev_call (ea_cons (ev_ixT (ev_var rfl) hT6 rfl) (ea_cons (ev_var rfl) ea_nil)) (spv_fig (hr2.mono E6) hd2 (ex_t (e1.trans E6) hL) hO)) (ea_cons (ev_ixT (ev_var rfl) hT6 rfl) (ea_cons (ev_is (ev_op (ev_var rfl) (ev_var rfl) (rv_I (.inl ⟨by omega, by omega⟩))) (by rw [← hq])) ea_nil))) ?_) fun H7 e7 => k H7 ((e1.trans E6).trans e7)
      exact spv_turned hO.pos (by omega) (by rw [hq]; exact rl_per w m r)
    | bo hT hr1 hr2 =>
      rename_i p u v x y
      have hd1 : x.dep < n := by simp only [Rl.dep] at hd; omega
      have hd2 : y.dep < n := by simp only [Rl.dep] at hd; omega
      refine q_asg (ev_ixT (ev_var rfl) hT rfl) fun H2 e2 => ?_
      refine q_not (et_str (ev_var rfl) (by decide +kernel)) fun H3 e3 => ?_
      refine q_not (et_str (ev_var rfl) (by decide +kernel)) fun H4 e4 => ?_
      refine q_not (et_str (ev_var rfl) (by decide +kernel)) fun H5 e5 => ?_
      refine q_not (et_str (ev_var rfl) (by decide +kernel)) fun H6 e6 => ?_
      have E6 := (((e2.trans e3).trans e4).trans e5).trans e6
      have hT6 := ex_t E6 hT
      refine q_par (ea_cons (ev_call (ea_cons (ev_ixT (ev_var rfl) hT6 rfl) (ea_cons (ev_var rfl) ea_nil)) (spv_fig (hr1.mono E6) hd1 (ex_t (e1.trans E6) hL) hO)) (ea_cons (ev_call (ea_cons (ev_ixT (ev_var rfl) hT6 rfl) (ea_cons (ev_var rfl) ea_nil)) (spv_fig (hr2.mono E6) hd2 (ex_t (e1.trans E6) hL) hO)) ea_nil)) fun H7 e7 => ?_
      refine q_yes (et_str (ev_var rfl) (by decide +kernel)) fun H8 e8 => ?_
      refine s_ret (v := .int (figN (w * m) ((Rl.bo x y).day w m) : Nat)) (ev_is (ev_op (ev_var rfl) (ev_var rfl) rv_I0) (by rw [fig_and]; rfl)) fun H9 e9 => k H9 ((((e1.trans E6).trans e7).trans e8).trans e9)
    | ei hT hr1 hr2 =>
      rename_i p u v x y
      have hd1 : x.dep < n := by simp only [Rl.dep] at hd; omega
      have hd2 : y.dep < n := by simp only [Rl.dep] at hd; omega
      refine q_asg (ev_ixT (ev_var rfl) hT rfl) fun H2 e2 => ?_
      refine q_not (et_str (ev_var rfl) (by decide +kernel)) fun H3 e3 => ?_
      refine q_not (et_str (ev_var rfl) (by decide +kernel)) fun H4 e4 => ?_
      refine q_not (et_str (ev_var rfl) (by decide +kernel)) fun H5 e5 => ?_
      refine q_not (et_str (ev_var rfl) (by decide +kernel)) fun H6 e6 => ?_
      have E6 := (((e2.trans e3).trans e4).trans e5).trans e6
      have hT6 := ex_t E6 hT
      refine q_par (ea_cons (ev_call (ea_cons (ev_ixT (ev_var rfl) hT6 rfl) (ea_cons (ev_var rfl) ea_nil)) (spv_fig (hr1.mono E6) hd1 (ex_t (e1.trans E6) hL) hO)) (ea_cons (ev_call (ea_cons (ev_ixT (ev_var rfl) hT6 rfl) (ea_cons (ev_var rfl) ea_nil)) (spv_fig (hr2.mono E6) hd2 (ex_t (e1.trans E6) hL) hO)) ea_nil)) fun H7 e7 => ?_
      refine q_not (et_str (ev_var rfl) (by decide +kernel)) fun H8 e8 => ?_
      refine s_ret (v := .int (figN (w * m) ((Rl.ei x y).day w m) : Nat)) (ev_ifT (et_str (ev_var rfl) (by decide +kernel)) (ev_is (ev_op (ev_var rfl) (ev_var rfl) rv_I0) (by rw [fig_or]; rfl))) fun H9 e9 => k H9 ((((e1.trans E6).trans e7).trans e8).trans e9)
    | wo hT hr1 hr2 =>
      rename_i p u v x y
      have hd1 : x.dep < n := by simp only [Rl.dep] at hd; omega
      have hd2 : y.dep < n := by simp only [Rl.dep] at hd; omega
      refine q_asg (ev_ixT (ev_var rfl) hT rfl) fun H2 e2 => ?_
      refine q_not (et_str (ev_var rfl) (by decide +kernel)) fun H3 e3 => ?_
      refine q_not (et_str (ev_var rfl) (by decide +kernel)) fun H4 e4 => ?_
      refine q_not (et_str (ev_var rfl) (by decide +kernel)) fun H5 e5 => ?_
      refine q_not (et_str (ev_var rfl) (by decide +kernel)) fun H6 e6 => ?_
      have E6 := (((e2.trans e3).trans e4).trans e5).trans e6
      have hT6 := ex_t E6 hT
      refine q_par (ea_cons (ev_call (ea_cons (ev_ixT (ev_var rfl) hT6 rfl) (ea_cons (ev_var rfl) ea_nil)) (spv_fig (hr1.mono E6) hd1 (ex_t (e1.trans E6) hL) hO)) (ea_cons (ev_call (ea_cons (ev_ixT (ev_var rfl) hT6 rfl) (ea_cons (ev_var rfl) ea_nil)) (spv_fig (hr2.mono E6) hd2 (ex_t (e1.trans E6) hL) hO)) ea_nil)) fun H7 e7 => ?_
      refine q_not (et_str (ev_var rfl) (by decide +kernel)) fun H8 e8 => ?_
      refine s_ret (v := .int (figN (w * m) ((Rl.wo x y).day w m) : Nat)) (ev_ifF (et_str (ev_var rfl) (by decide +kernel)) (ev_is (ev_op (ev_var rfl) (ev_un (ev_var rfl) ru_inv) rv_I0) (by rw [fig_wo]; rfl))) fun H9 e9 => k H9 ((((e1.trans E6).trans e7).trans e8).trans e9)
theorem ok_fig (F : Fun K "figure_of" "figure_of" s_figure_of f fd) (T : Txt w K mg C_BadRule C_BadRules C_BadLand C_BadDay C_BadNumber C_Feast C_Calendar) (hm : mg "figure_of" = some (.ref f)) (hb : Binds K fd ["rule", "land"] []) : ∀ n : Nat, FnOk P w K mg base CX0 (n + 1) f fd ["rule", "land"] (spFig K n)
  | 0 => fnok_none fun _ _ _ _ ⟨_, _, _, _, _, _, _, h, _⟩ => absurd h (Nat.not_lt_zero _)
  | n + 1 => fig_turnN F T hm hb n (ok_fig F T hm hb n)
end
end WF

set_option Elab.async false
set_option linter.all false
set_option maxRecDepth 100000
set_option maxHeartbeats 2000000
/-! days_of, listed -/
namespace WF
open PySem L2 Evl
section
variable {P : Program} {w : World} {K : PySem.W.Frag} {mg : Str → Option Value} {base : Heap} {C_BadRule C_BadRules C_BadLand C_BadDay C_BadNumber C_Feast C_Calendar : Addr} {f : Addr} {fd : FuncData}
def spDays (K : PySem.W.Frag) (CF : Addr) : Sp := fun vs H Q _ => ∃ (v : V) (l : Addr) (rows : Rows) (w m : Nat), vs = [v, .ref l] ∧ RowsAt K CF H v rows ∧ depMax rows < 5 ∧ SqT K H l [.int w, .int m] ∧ LandOk w m ∧ RetV (.int (figN (w * m) (calDay w m rows) : Nat)) H Q
theorem spv_days {H : Hp} {CF : Addr} {v : V} {l : Addr} {rows : Rows} {w m : Nat} (h1 : RowsAt K CF H v rows) (h2 : depMax rows < 5) (h3 : SqT K H l [.int w, .int m]) (h4 : LandOk w m) : SpV (spDays K CF) ([v, .ref l] ++ []) H (.int (figN (w * m) (calDay w m rows) : Nat)) :=
  spV fun H1 e Q _ q => ⟨v, l, rows, w, m, rfl, h1.mono e, h2, ex_t e h3, h4, q⟩
theorem ok_days (F : Fun K "days_of" "days_of" s_days_of f fd) (T : Txt w K mg C_BadRule C_BadRules C_BadLand C_BadDay C_BadNumber C_Feast C_Calendar) (CF : Cls1 K C_Feast ["told", "bys"]) (D_figure_of : Dn P w K mg base CX0 "figure_of" 6 ["rule", "land"] (spFig K 5)) : FnOk P w K mg base CX0 7 f fd ["rows", "land"] (spDays K C_Feast) := by
  have D_turned : Dn P w K mg base CX0 "turned" 1 ["figure", "by", "round_days"] spTurned := dn_turned T
  refine F.ok sc_days_of (fun vs H Q E h => ?_) (fun cdv A outer s H vs Q E hr h => ?_)
  · obtain ⟨_, _, _, _, _, rfl, _⟩ := h
    rfl
  · obtain ⟨v, l, rows, w, m, rfl, ⟨a, xs, rfl, hX, hRs⟩, hd, hL, hO, k⟩ := h
    obtain ⟨w2, wm, m6, n5⟩ := id hO
    have hq : ((w * m : Nat) : Int) = (w : Int) * (m : Int) := Int.natCast_mul w m
    refine ⟨_, (pss_cons (ps_set (i := 2) sc_days_of.nd rfl (by first | exact Or.inl rfl | exact Or.inr rfl) pe_int)
  (pss_cons (ps_for PassesOwn.never rfl (pi_tup (pv 0)) (pg_tup rfl (pgs_cons (pg_name (i := 3) sc_days_of.nd rfl (by first | exact Or.inl rfl | exact Or.inr rfl)) (pgs_cons (pg_name (i := 4) sc_days_of.nd rfl (by first | exact Or.inl rfl | exact Or.inr rfl)) pgs_nil)))
  (pss_cons (ps_set (i := 5) sc_days_of.nd rfl (by first | exact Or.inl rfl | exact Or.inr rfl) (pe_fn D_figure_of (hr.mono (by omega)) pass0 rfl (pa_cons (pe_fld (pv 3) rfl) (pa_cons (pv 1) pa_nil))))
  (pss_cons (ps_set (i := 6) sc_days_of.nd rfl (by first | exact Or.inl rfl | exact Or.inr rfl) (pe_ifExp (pt_val (pv 4)) (pe_op op_and (pv 5) (pv 2)) pe_int))
  (pss_one (ps_set (i := 2) sc_days_of.nd rfl (by first | exact Or.inl rfl | exact Or.inr rfl) (pe_op op_or (pe_op op_or (pv 2) (pe_op op_and (pv 5) (pe_un un_inv (pv 6)))) (pe_fn D_turned (hr.mono (by omega)) pass0 rfl (pa_cons (pv 6) (pa_cons pe_int (pa_cons (pe_op op_mul (pe_ix ix_tup (pv 1) pe_int (fun _ _ => rfl)) (pe_ix ix_tup (pv 1) pe_int (fun _ _ => rfl))) pa_nil))))))))))
  (pss_one (ps_ret (pv 2))))), ?_⟩
    refine q_asg ev_c fun H1 e1 => ?_
    refine q_forT (ev_var rfl) (ex_t e1 hX) (fun i σ H' => ∃ a1 a2 a3 a4, σ = [some (.ref a), some (.ref l), some (.int (figN (w * m) (calDay w m (rows.take i)) : Nat)), a1, a2, a3, a4] ∧ Ex H H') (fun H2 e2 => ⟨none, none, none, none, ?_, e1.trans e2⟩) (fun i σ' H' _ ⟨_, _, _, _, _, e⟩ => ex_t e hX) ?_ ?_
    · rw [show figN (w * m) (calDay w m (rows.take 0)) = 0 from figN_zero fun _ _ => rfl]
      rfl
    · rintro i x σ' H' hi ⟨a1, a2, a3, a4, rfl, e⟩
      obtain ⟨r, hr1, p, q, rfl, hp, dx, tv, hf, hv⟩ := hRs.get hi
      refine ⟨_, _, rfl, ex_t e hp, rfl, _, _, rfl, _, _, rfl, rfl, ?_⟩
      have hdr : r.1.dep < 5 := Nat.lt_of_le_of_lt (dep_le hr1) hd
      refine q_asg (ev_call (ea_cons (ev_fld (ev_var rfl) (e _ _ hf) CF.cl (CF.no _ (by simp)) (feastF_told _ _)) (ea_cons (ev_var rfl) ea_nil)) (spv_fig (hv.mono e) hdr (ex_t e hL) hO)) fun H3 e3 => ?_
      refine q_asg (v := .int (figN (w * m) (fun d => r.2 && (r.1.day w m d && calDay w m (rows.take i) d)) : Nat)) (ev_if (et_B (ev_var rfl)) (fun hb => ev_is (ev_op (ev_var rfl) (ev_var rfl) rv_I0) ?_) (fun hb => ev_is ev_c ?_)) fun H4 e4 => ?_
      · rw [fig_and, hb]; rfl
      · rw [hb]
        exact congrArg (fun n : Nat => V.int (n : Int)) (figN_zero fun _ _ => rfl).symm
      have hper : Per ((w * m : Nat) : Int) (fun d => r.2 && (r.1.day w m d && calDay w m (rows.take i) d)) := fun d => by
        show (r.2 && (r.1.day w m (d + ((w * m : Nat) : Int)) && calDay w m (rows.take i) (d + ((w * m : Nat) : Int)))) = _
        rw [hq, rl_per w m r.1 d, cal_per w m (rows.take i) d]
      refine s_asg (v := .int (figN (w * m) (calDay w m (rows.take (i + 1))) : Nat)) (ev_is (ev_op (ev_op (ev_var rfl) (ev_op (ev_var rfl) (ev_un (ev_var rfl) ru_inv) rv_I0) rv_I0) (ev_call (ea_cons (ev_var rfl) (ea_cons ev_c (ea_cons (ev_is (ev_op (ev_ixT (ev_var rfl) (ex_t ((e.trans e3).trans e4) hL) rfl) (ev_ixT (ev_var rfl) (ex_t ((e.trans e3).trans e4) hL) rfl) (rv_I (.inl ⟨by omega, by omega⟩))) (by rw [← hq])) ea_nil))) (spv_turned hO.pos (by omega) hper)) rv_I0) ?_) fun H5 e5 => ⟨_, _, _, _, rfl, ((e.trans e3).trans e4).trans e5⟩
      rw [fig_wo, fig_or, fig_or, cal_more _ _ hr1]
      refine congrArg (fun n : Nat => V.int (n : Int)) (figN_congr fun d _ => ?_)
      unfold addRow
      cases r.2 <;> cases r.1.day w m d <;> cases calDay w m (rows.take i) d <;> rfl
    · rintro σ' H' ⟨a1, a2, a3, a4, rfl, e⟩
      refine s_ret (ev_var rfl) fun H2 e2 => ?_
      rw [hRs.len, List.take_length]
      exact k H2 (e.trans e2)
theorem dn_days (T : Txt w K mg C_BadRule C_BadRules C_BadLand C_BadDay C_BadNumber C_Feast C_Calendar) (CF : Cls1 K C_Feast ["told", "bys"]) : Dn P w K mg base CX0 "days_of" 7 ["rows", "land"] (spDays K C_Feast) := T.f_days_of.dn fun _ _ F _ _ => ok_days F T CF (T.f_figure_of.dn fun _ _ F hm hb => ok_fig F T hm hb 5)
/-- listed -/
def spListed : Sp := fun vs H Q _ => ∃ (N : Nat) (p : Int → Bool), vs = [.int (figN N p : Nat)] ∧ N ≤ 50000 ∧ RetL ((daysN N p).map fun (d : Nat) => V.int (d : Int)) H Q
theorem ok_listed (F : Fun K "listed" "listed" s_listed f fd) (T : Txt w K mg C_BadRule C_BadRules C_BadLand C_BadDay C_BadNumber C_Feast C_Calendar) : FnOk P w K mg base CX0 1 f fd ["figure"] spListed := by
  refine F.ok sc_listed (fun vs H Q E h => ?_) (fun cdv A outer s H vs Q E hr h => ?_)
  · obtain ⟨_, _, rfl, _⟩ := h
    rfl
  · obtain ⟨N, p, rfl, hN, k⟩ := h
    refine ⟨_, (pss_cons (ps_set (i := 1) sc_listed.nd rfl (by first | exact Or.inl rfl | exact Or.inr rfl) (pe_lst pa_nil))
  (pss_cons (ps_while PassesOwn.never (pt_cmpR op_gt (pv 0) pe_int (nomark _))
  (pss_cons (ps_set (i := 2) sc_listed.nd rfl (by first | exact Or.inl rfl | exact Or.inr rfl) (pe_op op_and (pv 0) (pe_un un_neg (pv 0))))
  (pss_cons (ps_expr (pe_bm PySem.F.plainAttrs_list PySem.F.slot_list_append PySem.F.type_list_append mt_append (pv 1) (pa_cons (pe_op op_sub (pe_bits (pv 2)) pe_int) pa_nil)))
  (pss_one (ps_set (i := 0) sc_listed.nd rfl (by first | exact Or.inl rfl | exact Or.inr rfl) (pe_op op_xor (pv 0) (pv 2)))))))
  (pss_one (ps_ret (pv 1))))), ?_⟩
    refine q_asgL (el_lst ea_nil (Nat.zero_le _)) fun l H1 hl e1 h1 => ?_
    refine q_while (fun n σ H' => ∃ i lw, i ≤ N ∧ n = N - i ∧ σ = [some (.int (figN N (fun d => p d && decide ((i : Int) ≤ d)) : Nat)), some (.ref l), lw] ∧ H' l = some (.lst ((daysN i p).map fun (d : Nat) => V.int (d : Int))) ∧ Ex H H') N
      ⟨0, none, Nat.zero_le _, rfl, ?_, h1, e1⟩ ?_
    · rw [figN_congr (q := fun d => p d && decide ((0 : Int) ≤ d)) (p := p) fun d _ => by
        show p d = (p d && decide ((0 : Int) ≤ (d : Int)))
        rw [decide_eq_true (Int.natCast_nonneg d), Bool.and_true]]
      rfl
    · rintro n σ' H' ⟨i, lw, hi, rfl, rfl, hL, e⟩
      refine ⟨decide ((0 : Int) < (figN N (fun d => p d && decide ((i : Int) ≤ d)) : Nat)), et_cmp (ev_var rfl) ev_c rv_I0, fun hb H2 e2 => ?_, fun hb H2 e2 => ?_⟩
      · have hpos : 0 < figN N (fun d => p d && decide ((i : Int) ≤ d)) := by
          have := of_decide_eq_true hb
          omega
        obtain ⟨j, a, hj, hqj, hlt, hfig⟩ := fig_low hpos
        rw [Bool.and_eq_true, decide_eq_true_iff] at hqj
        have hij : i ≤ j := by omega
        have hlow : Builtin.bitAnd (figN N (fun d => p d && decide ((i : Int) ≤ d)) : Int) (-(figN N (fun d => p d && decide ((i : Int) ≤ d)) : Int)) = ((2 ^ j : Nat) : Int) := by
          have e0 : (figN N (fun d => p d && decide ((i : Int) ≤ d)) : Int) = 2 ^ j * (2 * (a : Int) + 1) := by
            rw [hfig, Int.natCast_mul, Int.natCast_pow, Int.natCast_add, Int.natCast_mul]; rfl
          rw [e0, PySem.W.kbt_low, Int.natCast_pow]
          rfl
        have hdn : daysN (j + 1) p = daysN i p ++ [j] := by
          rw [daysN_succ, hqj.1, if_pos rfl, daysN_more (fun d h1 h2 => ?_) hij]
          have := hlt d h2
          rw [decide_eq_true (show (i : Int) ≤ (d : Int) by omega), Bool.and_true] at this
          exact this
        have hxor : Builtin.bitXor (figN N (fun d => p d && decide ((i : Int) ≤ d)) : Int) ((2 ^ j : Nat) : Int) = (figN N (fun d => p d && decide (((j + 1 : Nat) : Int) ≤ d)) : Nat) := by
          rw [fig_one hj, fig_xor]
          refine congrArg (fun n : Nat => (n : Int)) (figN_congr fun d _ => ?_)
          show ((p d && decide ((i : Int) ≤ d)) ^^ ((d : Int) == (j : Int))) = (p d && decide (((j + 1 : Nat) : Int) ≤ d))
          rcases Nat.lt_trichotomy d j with h | h | h
          · have h1 : (p d && decide ((i : Int) ≤ d)) = false := hlt d h
            rw [h1, decide_eq_false (show ¬ ((j + 1 : Nat) : Int) ≤ (d : Int) by omega), Bool.and_false, beq_eq_false_iff_ne.mpr (show (d : Int) ≠ (j : Int) by omega)]
            rfl
          · subst h
            rw [hqj.1, decide_eq_true hqj.2, decide_eq_false (show ¬ ((d + 1 : Nat) : Int) ≤ (d : Int) by omega), beq_self_eq_true]
            rfl
          · rw [decide_eq_true (show (i : Int) ≤ (d : Int) by omega), decide_eq_true (show ((j + 1 : Nat) : Int) ≤ (d : Int) by omega), beq_eq_false_iff_ne.mpr (show (d : Int) ≠ (j : Int) by omega)]
            simp
        refine ⟨fun σ2 H3 => σ2 = [some (.int (figN N (fun d => p d && decide (((j + 1 : Nat) : Int) ≤ d)) : Nat)), some (.ref l), some (.int (2 ^ j : Nat))] ∧ H3 l = some (.lst ((daysN (j + 1) p).map fun (d : Nat) => V.int (d : Int))) ∧ Ex H H3, fun σ2 H3 ⟨q1, q2, q3⟩ => ⟨N - (j + 1), by omega, j + 1, _, by omega, rfl, q1, q2, q3⟩, ?_⟩
        refine q_asg (v := .int (2 ^ j : Nat)) (ev_is (ev_op (ev_var rfl) (ev_un (ev_var rfl) ru_neg) rv_I0) (by rw [hlow])) fun H3 e3 => ?_
        have hbits : ((Builtin.Int.intBits ((2 ^ j : Nat) : Int) : Nat) : Int) - 1 = (j : Int) := by
          rw [bits_pow]; omega
        refine q_app (v := .int (j : Int)) ((e2.trans e3) _ _ hL) (ev_var rfl) (ev_is (ev_op (ev_bits (ev_var rfl)) ev_c rv_I0) (by rw [hbits])) ?_ fun H4 e4 => ?_
        · rw [List.length_map]
          have := daysN_len i p
          omega
        · refine s_asg (ev_is (ev_op (ev_var rfl) (ev_var rfl) rv_I0) (by rw [hxor])) fun H5 e5 => ⟨rfl, ?_, ?_⟩
          · refine e5 _ _ ?_
            rw [upd_same, hdn, List.map_append]
            rfl
          · exact (Ex.mut (((e.trans e2).trans e3).trans e4) hl).trans e5
      · have h0 : figN N (fun d => p d && decide ((i : Int) ≤ d)) = 0 := by
          have := of_decide_eq_false hb
          omega
        have hz : daysN N p = daysN i p := daysN_more (fun d h1 h2 => by
          have := figN_bit N (fun d => p d && decide ((i : Int) ≤ d)) d
          rw [h0, Nat.zero_testBit, decide_eq_true h2, Bool.true_and, decide_eq_true (show (i : Int) ≤ (d : Int) by omega), Bool.and_true] at this
          exact this.symm) hi
        refine s_ret (ev_var rfl) fun H3 e3 => ?_
        refine k l H3 hl ((e.trans e2).trans e3) ?_
        rw [hz]
        exact (e2.trans e3) _ _ hL
theorem dn_listed (T : Txt w K mg C_BadRule C_BadRules C_BadLand C_BadDay C_BadNumber C_Feast C_Calendar) : Dn P w K mg base CX0 "listed" 1 ["figure"] spListed := T.f_listed.dn fun _ _ F _ _ => ok_listed F T
end
end WF

set_option Elab.async false
set_option linter.all false
set_option maxRecDepth 100000
set_option maxHeartbeats 2000000
/-! is_land, need_land -/
namespace WF
open PySem L2 Evl
section
variable {P : Program} {w : World} {K : PySem.W.Frag} {mg : Str → Option Value} {base : Heap} {C_BadRule C_BadRules C_BadLand C_BadDay C_BadNumber C_Feast C_Calendar : Addr} {f : Addr} {fd : FuncData}
def spIsLand (K : PySem.W.Frag) : Sp := fun vs H Q _ => ∃ v b, vs = [v] ∧ LandV K H v b ∧ RetV (.bl b) H Q
theorem kit_tuple_len {b : Bool} : True := trivial
theorem ok_is_land (F : Fun K "is_land" "is_land" s_is_land f fd) (T : Txt w K mg C_BadRule C_BadRules C_BadLand C_BadDay C_BadNumber C_Feast C_Calendar) : FnOk P w K mg base CX0 2 f fd ["value"] (spIsLand K) := by
  have D_divisor : Dn P w K mg base CX0 "divisor" 1 ["one", "other"] sp_divisor := dn_divisor T
  refine F.ok sc_is_land (fun vs H Q E h => ?_) (fun cdv A outer s H vs Q E hr h => ?_)
  · obtain ⟨_, _, rfl, _⟩ := h
    rfl
  · obtain ⟨v, b, rfl, hV, k⟩ := h
    refine ⟨_, (pss_cons (ps_if (PW.pt (pw_or (pt_not (pt_val (pe_callB call_isi (by rfl) T.isinstance (by decide +kernel) (pa_cons (pv 0) (pa_cons (pe_bltn (v := .ty "tuple") (by rfl) T.tuple (by decide +kernel) rfl) pa_nil))))) (pw_or1 (pt_cmpR op_ne (pe_callB call_len_seq (by rfl) T.len (by decide +kernel) (pa_cons (pv 0) pa_nil)) pe_int (nomark _))))) (pss_one (ps_ret pe_bl))
  pss_nil)
  (pss_cons (ps_if (pt_not (pt_val (pe_callB (cr_all rfl) (by rfl) T.all (by decide +kernel) (pa_cons (pe_lc (own := [("many", 1)]) (g := gName 1) (tt := tYes) rfl sc_is_land.nd (pi_tup (pv 0)) (blkOk_by (own := [("many", 1)]) (N := ["value", "many"]) (sc := defScope s_is_land) (by decide +kernel)) (fun _ _ _ _ _ => (pg_name (i := 1) sc_is_land.nd rfl (by first | exact Or.inl rfl | exact Or.inr rfl))) (fun _ _ _ _ _ => pts_nil) (fun _ _ _ _ _ => (pe_and (pe_callB (call_isiK1 (K := K)) (by rfl) T.isinstance (by decide +kernel) (pa_cons (pv 1) (pa_cons (pe_bltn (v := .ty "int") (by rfl) T.int (by decide +kernel) rfl) pa_nil))) (pe_one (pe_not (pe_callB (call_isiK1 (K := K)) (by rfl) T.isinstance (by decide +kernel) (pa_cons (pv 1) (pa_cons (pe_bltn (v := .ty "bool") (by rfl) T.bool (by decide +kernel) rfl) pa_nil)))))))) pa_nil)))) (pss_one (ps_ret pe_bl))
  pss_nil)
  (pss_one (ps_ret (pe_and (pe_chain op_le op_lt pe_int (pe_ix ix_tup (pv 0) pe_int (fun _ _ => rfl)) (pe_ix ix_tup (pv 0) pe_int (fun _ _ => rfl))) (pe_one (pe_cmpR op_eq (pe_fn D_divisor (hr.mono (by omega)) pass0 rfl (pa_cons (pe_ix ix_tup (pv 0) pe_int (fun _ _ => rfl)) (pa_cons (pe_ix ix_tup (pv 0) pe_int (fun _ _ => rfl)) pa_nil))) pe_int (nomark _)))))))), ?_⟩
    have key : ∀ {a : Addr} {x y : V} {o p : Option Int}, v = .ref a → SqT K H a [x, y] → NumV K H x o → NumV K H y p → ∀ H1, Ex H H1 → EvT (tTest (tCB (rAll K) (tCons (tLc (iTup K (tVar 0)) (gName 1) tYes (tAndV (tCB (rIsi K) (tCons (tVar 1) (tCons (tC (.ty "int")) tNil))) (tNotV (tCB (rIsi K) (tCons (tVar 1) (tCons (tC (.ty "bool")) tNil))))) [1]) tNil))) (start ["value", "many"] [v]) H1 (o.isSome && p.isSome) := by
      rintro a x y o p rfl hT hx hy H1 e1
      refine et_test (ev_is (ev_all (bs := [o.isSome, p.isSome]) ?_) (by simp))
      refine el_is (el_tupN (xs := [x, y]) (fun _ => true) (fun i => if i = 0 then .bl o.isSome else .bl p.isSome) (ev_var rfl) (ex_t e1 hT) (by show 2 ≤ 40000; decide) (fun _ => rfl) (fun _ _ _ _ _ => et_yes) fun i z H2 e2 hi _ => ?_) rfl
      match i, hi with
      | 0, hi => cases hi; exact ev_isInt (fun H3 e3 => ev_var rfl) (hx.mono (e1.trans e2))
      | 1, hi => cases hi; exact ev_isInt (fun H3 e3 => ev_var rfl) (hy.mono (e1.trans e2))
    cases hV with
    | no hy n =>
      refine q_yes (et_or1 (et_not (et_B (ev_isi (ev_var rfl) hy n)))) fun H1 e1 => ?_
      exact s_ret ev_c fun H2 e2 => k H2 (e1.trans e2)
    | len hT n z =>
      rename_i a xs
      refine q_yes (et_is (et_or (et_not (et_B (ev_isi (ev_var rfl) (ty_tup hT) kit_tt))) (fun _ => et_cmp (ev_lenT (ev_var rfl) hT) ev_c (rv_ne rfl))) (by simp; omega)) fun H1 e1 => ?_
      exact s_ret ev_c fun H2 e2 => k H2 (e1.trans e2)
    | odd hT hx hy n =>
      refine q_not (et_is (et_or (et_not (et_B (ev_isi (ev_var rfl) (ty_tup hT) kit_tt))) (fun _ => et_cmp (ev_lenT (ev_var rfl) hT) ev_c (rv_ne rfl))) (by simp)) fun H1 e1 => ?_
      refine q_yes (et_is (et_not (key rfl hT hx hy H1 e1)) (by rcases n with rfl | rfl <;> simp)) fun H2 e2 => ?_
      exact s_ret ev_c fun H3 e3 => k H3 ((e1.trans e2).trans e3)
    | two hT z1 z2 =>
      rename_i a w m
      refine q_not (et_is (et_or (et_not (et_B (ev_isi (ev_var rfl) (ty_tup hT) kit_tt))) (fun _ => et_cmp (ev_lenT (ev_var rfl) hT) ev_c (rv_ne rfl))) (by simp)) fun H1 e1 => ?_
      refine q_not (et_is (et_not (key rfl hT (.int w) (.int m) H1 e1)) rfl) fun H2 e2 => ?_
      have hT2 := ex_t (e1.trans e2) hT
      refine s_ret (v := .bl (landB w m)) (ev_andV (ev_chain ev_c (ev_ixT (ev_var rfl) hT2 rfl) rv_I0 (fun _ => ev_ixT (ev_var rfl) hT2 rfl) (fun _ => rv_I0)) fun hb => ?_) fun H3 e3 => k H3 ((e1.trans e2).trans e3)
      rw [Bool.and_eq_true, decide_eq_true_iff, decide_eq_true_iff] at hb
      obtain ⟨wn, rfl⟩ := Int.eq_ofNat_of_zero_le (show 0 ≤ w by omega)
      obtain ⟨mn, rfl⟩ := Int.eq_ofNat_of_zero_le (show 0 ≤ m by omega)
      refine ev_is (ev_op (ev_call (ea_cons (ev_ixT (ev_var rfl) hT2 rfl) (ea_cons (ev_ixT (ev_var rfl) hT2 rfl) ea_nil)) (spV (z := .int (Nat.gcd mn wn : Nat)) fun H4 _ Q _ q => ⟨mn, wn, rfl, q⟩)) ev_c (rv_eq rfl)) ?_
      refine congrArg V.bl ?_
      show decide (V.int ((Nat.gcd mn wn : Nat) : Int) = V.int 1) = decide (Nat.gcd mn wn = 1)
      by_cases h : Nat.gcd mn wn = 1
      · rw [decide_eq_true h, h]; rfl
      · rw [decide_eq_false h, decide_eq_false]
        intro q
        injection q with q
        omega
theorem dn_is_land (T : Txt w K mg C_BadRule C_BadRules C_BadLand C_BadDay C_BadNumber C_Feast C_Calendar) : Dn P w K mg base CX0 "is_land" 2 ["value"] (spIsLand K) := T.f_is_land.dn fun _ _ F _ _ => ok_is_land F T
/-- a land whose round is told; what is none -/
inductive NeedL (K : PySem.W.Frag) (H : Hp) : V → Option (Nat × Nat) → Prop where
  | good {l : Addr} {w m : Nat} (h : SqT K H l [.int w, .int m]) (o : LandOk w m) (c : Nat.gcd m w = 1) (z : w * m ≤ 4000) : NeedL K H (.ref l) (some (w, m))
  | bad {v : V} (h : LandV K H v false) : NeedL K H v none
  | big {l : Addr} {w m : Nat} (h : SqT K H l [.int w, .int m]) (c : landB w m = true) (z0 : w < 4294967296 ∧ m < 4294967296) (z : 4000 < w * m) : NeedL K H (.ref l) none
theorem NeedL.mono {H H' : Hp} {v : V} {o : Option (Nat × Nat)} (e : Ex H H') (h : NeedL K H v o) : NeedL K H' v o := by
  cases h with
  | good h o c z => exact .good (ex_t e h) o c z
  | bad h => exact .bad (h.mono e)
  | big h c z0 z => exact .big (ex_t e h) c z0 z
def spNeedLand (K : PySem.W.Frag) (C : Addr) : Sp := fun vs H Q E => ∃ v o, vs = [v] ∧ NeedL K H v o ∧ (o ≠ none → RetV .non H Q) ∧ (o = none → ∀ H1, Ex H H1 → E (.ref C) none H1)
theorem ok_need_land (F : Fun K "need_land" "need_land" s_need_land f fd) (T : Txt w K mg C_BadRule C_BadRules C_BadLand C_BadDay C_BadNumber C_Feast C_Calendar) : FnOk P w K mg base (L2.CX P w) 3 f fd ["value"] (spNeedLand K C_BadLand) := by
  have D_is_land : Dn P w K mg base CX0 "is_land" 2 ["value"] (spIsLand K) := dn_is_land T
  refine F.okX sc_need_land (fun vs H Q E h => ?_) (fun cdv A outer s H vs Q E hr h => ?_)
  · obtain ⟨_, _, rfl, _⟩ := h
    rfl
  · obtain ⟨v, o, rfl, hV, kG, kB⟩ := h
    refine ⟨_, (pss_one (ps_if (PW.pt (pw_or (pt_not (pt_val (pe_fn D_is_land (hr.mono (by omega)) pass0 rfl (pa_cons (pv 0) pa_nil)))) (pw_or1 (pt_cmpR op_gt (pe_op op_mul (pe_ix ix_tup (pv 0) pe_int (fun _ _ => rfl)) (pe_ix ix_tup (pv 0) pe_int (fun _ _ => rfl))) (pe_globE rfl T.g_MOST_ROUND) (nomark _))))) (pss_one (ps_raise0 rfl (takes_of rfl rfl rfl rfl) T.e_BadLand T.c_BadLand rfl))
  pss_nil)), ?_⟩
    cases hV with
    | good hT hO c z =>
      rename_i l w m
      obtain ⟨w2, wm, m6, n5⟩ := id hO
      have hq : ((w * m : Nat) : Int) = (w : Int) * (m : Int) := Int.natCast_mul w m
      have hL : LandV K H (.ref l) true := by
        have : landB (w : Int) (m : Int) = true := by
          unfold landB
          rw [decide_eq_true (show (2 : Int) ≤ (w : Int) by omega), decide_eq_true (show (w : Int) < (m : Int) by omega)]
          exact decide_eq_true c
        rw [← this]
        exact .two hT ⟨by omega, by omega⟩ ⟨by omega, by omega⟩
      refine s_no (et_is (et_or (et_not (et_B (ev_call (ea_cons (ev_var rfl) ea_nil) (spV (z := .bl true) fun H1 e Q _ q => ⟨_, _, rfl, hL.mono e, q⟩)))) fun _ => et_cmp (ev_op (ev_ixT (ev_var rfl) hT rfl) (ev_ixT (ev_var rfl) hT rfl) (rv_I (.inl ⟨by omega, by omega⟩))) ev_c rv_I0) ?_) fun H1 e1 => kG (by simp) H1 e1
      show (false || decide ((4000 : Int) < (w : Int) * (m : Int))) = false
      rw [decide_eq_false (by omega)]
      rfl
    | bad hL =>
      refine s_yes (et_or1 (et_not (et_B (ev_call (ea_cons (ev_var rfl) ea_nil) (spV (z := .bl false) fun H1 e Q _ q => ⟨_, _, rfl, hL.mono e, q⟩))))) fun H1 e1 => kB rfl H1 e1
    | big hT c z0 z =>
      rename_i l w m
      have hq : ((w * m : Nat) : Int) = (w : Int) * (m : Int) := Int.natCast_mul w m
      have hL : LandV K H (.ref l) true := by
        rw [← c]
        exact .two hT ⟨by omega, by omega⟩ ⟨by omega, by omega⟩
      refine s_yes (et_is (et_or (et_not (et_B (ev_call (ea_cons (ev_var rfl) ea_nil) (spV (z := .bl true) fun H1 e Q _ q => ⟨_, _, rfl, hL.mono e, q⟩)))) fun _ => et_cmp (ev_op (ev_ixT (ev_var rfl) hT rfl) (ev_ixT (ev_var rfl) hT rfl) (rv_I (.inl ⟨by omega, by omega⟩))) ev_c rv_I0) ?_) fun H1 e1 => kB rfl H1 e1
      show (false || decide ((4000 : Int) < (w : Int) * (m : Int))) = true
      rw [decide_eq_true (by omega)]
      rfl
theorem dn_need_land (T : Txt w K mg C_BadRule C_BadRules C_BadLand C_BadDay C_BadNumber C_Feast C_Calendar) : Dn P w K mg base (L2.CX P w) "need_land" 3 ["value"] (spNeedLand K C_BadLand) := T.f_need_land.dn fun _ _ F _ _ => ok_need_land F T
end
end WF

set_option Elab.async false
set_option linter.all false
set_option maxRecDepth 100000
set_option maxHeartbeats 2000000
/-! counting: is_from, need_day, is_day, count -/
namespace WF
open PySem L2 Evl
section
variable {P : Program} {w : World} {K : PySem.W.Frag} {mg : Str → Option Value} {base : Heap} {C_BadRule C_BadRules C_BadLand C_BadDay C_BadNumber C_Feast C_Calendar : Addr} {f : Addr} {fd : FuncData}
def fromB (o : Option Int) (least : Int) : Bool := match o with
  | some z => decide (least ≤ z) && decide (z ≤ 10 ^ 30)
  | none => false
def spIsFrom (K : PySem.W.Frag) : Sp := fun vs H Q _ => ∃ v o least, vs = [v, .int least] ∧ NumV K H v o ∧ RetV (.bl (fromB o least)) H Q
theorem ok_is_from (F : Fun K "is_from" "is_from" s_is_from f fd) (T : Txt w K mg C_BadRule C_BadRules C_BadLand C_BadDay C_BadNumber C_Feast C_Calendar) : FnOk P w K mg base CX0 1 f fd ["value", "least"] (spIsFrom K) := by
  refine F.ok sc_is_from (fun vs H Q E h => ?_) (fun cdv A outer s H vs Q E hr h => ?_)
  · obtain ⟨_, _, _, rfl, _⟩ := h
    rfl
  · obtain ⟨v, o, least, rfl, hV, k⟩ := h
    refine ⟨_, (pss_one (ps_ret (pe_and (pe_callB call_isi (by rfl) T.isinstance (by decide +kernel) (pa_cons (pv 0) (pa_cons (pe_bltn (v := .ty "int") (by rfl) T.int (by decide +kernel) rfl) pa_nil))) (pe_and (pe_not (pe_callB call_isi (by rfl) T.isinstance (by decide +kernel) (pa_cons (pv 0) (pa_cons (pe_bltn (v := .ty "bool") (by rfl) T.bool (by decide +kernel) rfl) pa_nil)))) (pe_one (pe_chain op_le op_le (pv 1) (pv 0) (pe_globE rfl T.g_GREATEST))))))), ?_⟩
    refine s_ret (ev_isInt3 (ev_var rfl) hV (fun z ho hz => ?_) (fun ho => by rw [ho]; rfl)) k
    subst ho hz
    exact ev_chain (ev_var rfl) (ev_var rfl) rv_I0 (fun _ => ev_c) (fun _ => rv_I0)
theorem dn_is_from (T : Txt w K mg C_BadRule C_BadRules C_BadLand C_BadDay C_BadNumber C_Feast C_Calendar) : Dn P w K mg base CX0 "is_from" 1 ["value", "least"] (spIsFrom K) := T.f_is_from.dn fun _ _ F _ _ => ok_is_from F T
def dayB (o : Option Int) : Bool := fromB o (-(10 ^ 30))
def spNeedDay (K : PySem.W.Frag) (C : Addr) : Sp := fun vs H Q E => ∃ v o, vs = [v] ∧ NumV K H v o ∧ (dayB o = true → RetV .non H Q) ∧ (dayB o = false → ∀ H1, Ex H H1 → E (.ref C) none H1)
theorem ok_need_day (F : Fun K "need_day" "need_day" s_need_day f fd) (T : Txt w K mg C_BadRule C_BadRules C_BadLand C_BadDay C_BadNumber C_Feast C_Calendar) : FnOk P w K mg base (L2.CX P w) 2 f fd ["value"] (spNeedDay K C_BadDay) := by
  have D_is_from : Dn P w K mg base CX0 "is_from" 1 ["value", "least"] (spIsFrom K) := dn_is_from T
  refine F.okX sc_need_day (fun vs H Q E h => ?_) (fun cdv A outer s H vs Q E hr h => ?_)
  · obtain ⟨_, _, rfl, _⟩ := h
    rfl
  · obtain ⟨v, o, rfl, hV, kG, kB⟩ := h
    refine ⟨_, (pss_one (ps_if (pt_not (pt_val (pe_fn D_is_from (hr.mono (by omega)) pass0 rfl (pa_cons (pv 0) (pa_cons (pe_un un_neg (pe_globE rfl T.g_GREATEST)) pa_nil))))) (pss_one (ps_raise0 rfl (takes_of rfl rfl rfl rfl) T.e_BadDay T.c_BadDay rfl))
  pss_nil)), ?_⟩
    refine s_when (et_not (et_B (ev_call (ea_cons (ev_var rfl) (ea_cons (ev_un ev_c ru_neg) ea_nil)) (spV (z := .bl (dayB o)) fun H1 e Q _ q => ⟨_, _, _, rfl, hV.mono e, q⟩)))) (fun hb H1 e1 => ?_) (fun hb H1 e1 => ?_)
    · exact kB (by simpa using hb) H1 e1
    · exact kG (by simpa using hb) H1 e1
theorem dn_need_day (T : Txt w K mg C_BadRule C_BadRules C_BadLand C_BadDay C_BadNumber C_Feast C_Calendar) : Dn P w K mg base (L2.CX P w) "need_day" 2 ["value"] (spNeedDay K C_BadDay) := T.f_need_day.dn fun _ _ F _ _ => ok_need_day F T
theorem fig_at {N : Nat} {p : Int → Bool} (hp : Per (N : Int) p) (hN : 0 < N) (d : Int) : V.bl (decide (V.int (Builtin.bitAnd ((figN N p : Int) / 2 ^ (d % (N : Int)).toNat) 1) = V.int 1)) = V.bl (p d) := by
  have h0 : 0 ≤ d % (N : Int) := Int.emod_nonneg _ (by omega)
  have h1 : d % (N : Int) < (N : Int) := Int.emod_lt_of_pos _ (by omega)
  have hb := figN_bit N p (d % (N : Int)).toNat
  rw [decide_eq_true (show (d % (N : Int)).toNat < N by omega), Bool.true_and, Int.toNat_of_nonneg h0, hp.emod] at hb
  rw [← hb, Nat.testBit_eq_decide_div_mod_eq, PyProof.Rows.bitAnd_m1]
  have e : (figN N p : Int) / 2 ^ (d % (N : Int)).toNat % 2 = ((figN N p / 2 ^ (d % (N : Int)).toNat % 2 : Nat) : Int) := by
    rw [Int.natCast_emod, Int.natCast_ediv, Int.natCast_pow]; rfl
  rw [e]
  refine congrArg V.bl ?_
  by_cases h : figN N p / 2 ^ (d % (N : Int)).toNat % 2 = 1
  · rw [h]; rfl
  · rw [decide_eq_false h, decide_eq_false]
    intro q
    injection q with q
    omega
/-- what is asked of a calendar, a land and the rest: BadLand, an error behind, or an answer -/
def spIsDay (K : PySem.W.Frag) (CF CC CL CD : Addr) : Sp := fun vs H Q E => ∃ c l d o z, vs = [c, l, d] ∧ NeedL K H l o ∧ NumV K H d z ∧
  (o = none → ∀ H1, Ex H H1 → E (.ref CL) none H1) ∧ (o ≠ none → dayB z = false → ∀ H1, Ex H H1 → E (.ref CD) none H1) ∧
  (∀ w m i, o = some (w, m) → z = some i → dayB z = true → ∃ rows, CalAt K CF CC H c rows ∧ depMax rows < 5 ∧ RetV (.bl (calDay w m rows i)) H Q)
theorem ok_is_day (F : Fun K "is_day" "is_day" s_is_day f fd) (T : Txt w K mg C_BadRule C_BadRules C_BadLand C_BadDay C_BadNumber C_Feast C_Calendar) (CF : Cls1 K C_Feast ["told", "bys"]) (CC : Cls1 K C_Calendar ["rows", "near"]) : FnOk P w K mg base (L2.CX P w) 8 f fd ["calendar", "land", "day"] (spIsDay K C_Feast C_Calendar C_BadLand C_BadDay) := by
  have D_need_land : Dn P w K mg base (L2.CX P w) "need_land" 3 ["value"] (spNeedLand K C_BadLand) := dn_need_land T
  have D_need_day : Dn P w K mg base (L2.CX P w) "need_day" 2 ["value"] (spNeedDay K C_BadDay) := dn_need_day T
  have D_days_of : Dn P w K mg base CX0 "days_of" 7 ["rows", "land"] (spDays K C_Feast) := dn_days T CF
  refine F.okX sc_is_day (fun vs H Q E h => ?_) (fun cdv A outer s H vs Q E hr h => ?_)
  · obtain ⟨_, _, _, _, _, rfl, _⟩ := h
    rfl
  · obtain ⟨c, l, d, o, z, rfl, hL, hZ, kL, kD, kG⟩ := h
    refine ⟨_, (pss_cons (ps_expr (pe_fn D_need_land (hr.mono (by omega)) (passes_call (takes_of rfl rfl rfl rfl) (fun _ _ _ _ h => h)) rfl (pa_cons (pv 1) pa_nil)))
  (pss_cons (ps_expr (pe_fn D_need_day (hr.mono (by omega)) (passes_call (takes_of rfl rfl rfl rfl) (fun _ _ _ _ h => h)) rfl (pa_cons (pv 2) pa_nil)))
  (pss_one (ps_ret (pe_cmpR op_eq (pe_op op_and (pe_op op_shr (pe_fn D_days_of (hr.mono (by omega)) pass0 rfl (pa_cons (pe_fld (pv 0) rfl) (pa_cons (pv 1) pa_nil))) (pe_op op_mod (pv 2) (pe_op op_mul (pe_ix ix_tup (pv 1) pe_int (fun _ _ => rfl)) (pe_ix ix_tup (pv 1) pe_int (fun _ _ => rfl))))) pe_int) pe_int (nomark _)))))), ?_⟩
    refine q_dropX (ea_cons (ev_var rfl) ea_nil) fun H1 e1 => ⟨l, o, rfl, hL.mono e1, fun ho H2 e2 => ?_, fun ho H2 e2 => kL ho H2 (e1.trans e2)⟩
    refine q_dropX (ea_cons (ev_var rfl) ea_nil) fun H3 e3 => ⟨d, z, rfl, hZ.mono ((e1.trans e2).trans e3), fun hz H4 e4 => ?_, fun hz H4 e4 => kD ho hz H4 (((e1.trans e2).trans e3).trans e4)⟩
    have E4 := ((e1.trans e2).trans e3).trans e4
    cases hL with
    | bad h => exact absurd rfl ho
    | big h c z0 z => exact absurd rfl ho
    | good hT hO cp zz =>
      rename_i la w m
      cases hZ with
      | odd h n => cases hz
      | int i =>
        obtain ⟨rows, ⟨ca, dx, rv, rfl, hc, hrv⟩, hdep, k⟩ := kG w m i rfl rfl hz
        obtain ⟨w2, wm, m6, n5⟩ := id hO
        have hq : ((w * m : Nat) : Int) = (w : Int) * (m : Int) := Int.natCast_mul w m
        have hT4 := ex_t E4 hT
        have hper : Per ((w * m : Nat) : Int) (calDay w m rows) := by rw [hq]; exact cal_per w m rows
        have hpos := hO.pos
        refine s_ret (v := .bl (calDay w m rows i)) (ev_is (ev_op (ev_op (ev_op (ev_call (ea_cons (ev_fld (ev_var rfl) (E4 _ _ hc) CC.cl (CC.no _ (by simp)) (calF_rows _ _)) (ea_cons (ev_var rfl) ea_nil)) (spv_days (hrv.mono E4) hdep hT4 hO)) (ev_op (ev_var rfl) (ev_is (ev_op (ev_ixT (ev_var rfl) hT4 rfl) (ev_ixT (ev_var rfl) hT4 rfl) (rv_I (.inl ⟨by omega, by omega⟩))) (by rw [← hq])) (rv_I (by omega))) (rv_I (Int.emod_nonneg _ (by omega)))) ev_c rv_I0) ev_c (rv_eq rfl)) (fig_at hper hpos i)) fun H5 e5 => k H5 (E4.trans e5)
theorem dn_is_day (T : Txt w K mg C_BadRule C_BadRules C_BadLand C_BadDay C_BadNumber C_Feast C_Calendar) (CF : Cls1 K C_Feast ["told", "bys"]) (CC : Cls1 K C_Calendar ["rows", "near"]) : Dn P w K mg base (L2.CX P w) "is_day" 8 ["calendar", "land", "day"] (spIsDay K C_Feast C_Calendar C_BadLand C_BadDay) := T.f_is_day.dn fun _ _ F _ _ => ok_is_day F T CF CC
def spCount (K : PySem.W.Frag) (CF CC CL : Addr) : Sp := fun vs H Q E => ∃ c l o, vs = [c, l] ∧ NeedL K H l o ∧ (o = none → ∀ H1, Ex H H1 → E (.ref CL) none H1) ∧
  (∀ w m, o = some (w, m) → ∃ rows, CalAt K CF CC H c rows ∧ depMax rows < 5 ∧ RetV (.int ((daysN (w * m) (calDay w m rows)).length : Nat)) H Q)
theorem ok_count (F : Fun K "count" "count" s_count f fd) (T : Txt w K mg C_BadRule C_BadRules C_BadLand C_BadDay C_BadNumber C_Feast C_Calendar) (CF : Cls1 K C_Feast ["told", "bys"]) (CC : Cls1 K C_Calendar ["rows", "near"]) : FnOk P w K mg base (L2.CX P w) 8 f fd ["calendar", "land"] (spCount K C_Feast C_Calendar C_BadLand) := by
  have D_need_land : Dn P w K mg base (L2.CX P w) "need_land" 3 ["value"] (spNeedLand K C_BadLand) := dn_need_land T
  have D_days_of : Dn P w K mg base CX0 "days_of" 7 ["rows", "land"] (spDays K C_Feast) := dn_days T CF
  have D_listed : Dn P w K mg base CX0 "listed" 1 ["figure"] spListed := dn_listed T
  refine F.okX sc_count (fun vs H Q E h => ?_) (fun cdv A outer s H vs Q E hr h => ?_)
  · obtain ⟨_, _, _, rfl, _⟩ := h
    rfl
  · obtain ⟨c, l, o, rfl, hL, kL, kG⟩ := h
    refine ⟨_, (pss_cons (ps_expr (pe_fn D_need_land (hr.mono (by omega)) (passes_call (takes_of rfl rfl rfl rfl) (fun _ _ _ _ h => h)) rfl (pa_cons (pv 1) pa_nil)))
  (pss_one (ps_ret (pe_callB call_len_seq (by rfl) T.len (by decide +kernel) (pa_cons (pe_fn D_listed (hr.mono (by omega)) pass0 rfl (pa_cons (pe_fn D_days_of (hr.mono (by omega)) pass0 rfl (pa_cons (pe_fld (pv 0) rfl) (pa_cons (pv 1) pa_nil))) pa_nil)) pa_nil))))), ?_⟩
    refine q_dropX (ea_cons (ev_var rfl) ea_nil) fun H1 e1 => ⟨l, o, rfl, hL.mono e1, fun ho H2 e2 => ?_, fun ho H2 e2 => kL ho H2 (e1.trans e2)⟩
    have E4 := e1.trans e2
    cases hL with
    | bad h => exact absurd rfl ho
    | big h c z0 z => exact absurd rfl ho
    | good hT hO cp zz =>
      rename_i la w m
      obtain ⟨rows, ⟨ca, dx, rv, rfl, hc, hrv⟩, hdep, k⟩ := kG w m rfl
      obtain ⟨w2, wm, m6, n5⟩ := id hO
      refine s_ret (ev_is (ev_lenN (el_call (ea_cons (ev_call (ea_cons (ev_fld (ev_var rfl) (E4 _ _ hc) CC.cl (CC.no _ (by simp)) (calF_rows _ _)) (ea_cons (ev_var rfl) ea_nil)) (spv_days (hrv.mono E4) hdep (ex_t E4 hT) hO)) ea_nil) (spL fun H5 _ Q _ q => ⟨w * m, calDay w m rows, rfl, by omega, q⟩))) (by rw [List.length_map])) fun H5 e5 => k H5 (E4.trans e5)
theorem dn_count (T : Txt w K mg C_BadRule C_BadRules C_BadLand C_BadDay C_BadNumber C_Feast C_Calendar) (CF : Cls1 K C_Feast ["told", "bys"]) (CC : Cls1 K C_Calendar ["rows", "near"]) : Dn P w K mg base (L2.CX P w) "count" 8 ["calendar", "land"] (spCount K C_Feast C_Calendar C_BadLand) := T.f_count.dn fun _ _ F _ _ => ok_count F T CF CC
end
end WF

set_option Elab.async false
set_option linter.all false
set_option maxRecDepth 100000
set_option maxHeartbeats 2000000
/-! the law's own defs: what is drawn -/
namespace WF
open PySem L2 Evl
section
variable {P : Program} {w : World} {K : PySem.W.Frag} {mg : Str → Option Value} {base : Heap} {C_BadRule C_BadRules C_BadLand C_BadDay C_BadNumber C_Feast C_Calendar : Addr} {f : Addr} {fd : FuncData}
def spRandom (K : PySem.W.Frag) : Sp := fun vs H Q _ => ∃ (a : Addr) (ns : List Int) (salt : Int), vs = [.ref a, .int salt] ∧ SqL K H a (ns.map V.int) ∧ ns.length ≤ 63 ∧ 0 ≤ salt ∧ salt < 1000000 ∧ ∀ p H2 xs, Good xs → H p = none → Ex H H2 → H2 p = some (.lst xs) → Q (.ref p) H2
theorem ok_random (F : Fun K "_law_random" "_law_random" s_l_random f fd) (T : Txt w K mg C_BadRule C_BadRules C_BadLand C_BadDay C_BadNumber C_Feast C_Calendar) : FnOk P w K mg base CX0 1 f fd ["_law_script", "_law_salt"] (spRandom K) := by
  refine F.ok sc_l_random (fun vs H Q E h => ?_) (fun cdv A outer s H vs Q E hr h => ?_)
  · obtain ⟨_, _, _, rfl, _⟩ := h
    rfl
  · obtain ⟨a, ns, salt, rfl, hA, hn, h0, h1, k⟩ := h
    refine ⟨_, (pss_cons (ps_set (i := 2) sc_l_random.nd rfl (by first | exact Or.inl rfl | exact Or.inr rfl) (pv 1))
  (pss_cons (ps_for PassesOwn.never rfl (pi_list (pv 0)) (pg_name (i := 3) sc_l_random.nd rfl (by first | exact Or.inl rfl | exact Or.inr rfl))
  (pss_one (ps_set (i := 2) sc_l_random.nd rfl (by first | exact Or.inl rfl | exact Or.inr rfl) (pe_op op_mod (pe_callTy call_int1 (by rfl) T.int (by decide +kernel) (pa_cons (pe_op op_add (pe_op op_mul (pv 2) pe_int) (pe_callB call_abs (by rfl) T.abs (by decide +kernel) (pa_cons (pv 3) pa_nil))) pa_nil)) pe_int))))
  (pss_one (ps_ret (pe_op op_cat (pe_lst (pa_cons (pv 2) (pa_cons pe_int pa_nil))) (pe_lc (own := [("_law_cell", 3)]) (g := gName 3) rfl sc_l_random.nd (pi_list (pv 0)) (blkOk_by (own := [("_law_cell", 3)]) (N := ["_law_script", "_law_salt", "_law_seed", "_law_cell"]) (sc := defScope s_l_random) (by decide +kernel)) (fun _ _ _ _ _ => (pg_name (i := 3) sc_l_random.nd rfl (by first | exact Or.inl rfl | exact Or.inr rfl))) (fun _ _ _ _ _ => (pts_one (pt_cmpR op_ge (pv 3) (pe_op op_pow pe_int pe_int) (nomark _)))) (fun _ _ _ _ _ => (pv 3)))))))), ?_⟩
    refine q_asg (ev_var rfl) fun H1 e1 => ?_
    refine q_forLn (ev_var rfl) (ex_l e1 hA) (fun i σ H' => Ex H H' ∧ ∃ z c, 0 ≤ z ∧ z < 2147483647 ∧ σ = [some (.ref a), some (.int salt), some (.int z), c]) (fun H2 e2 => ⟨e1.trans e2, salt, none, h0, by omega, rfl⟩) (fun i σ' H' _ h => ex_l h.1 hA) ?_ ?_
    · rintro i x σ' H' hi ⟨e, z, c, hz0, hz1, rfl⟩
      obtain ⟨n, _, rfl⟩ : ∃ n, ns[i]? = some n ∧ x = .int n := by
        rw [List.getElem?_map] at hi
        cases en : ns[i]? with
        | none => rw [en] at hi; cases hi
        | some n => rw [en] at hi; exact ⟨n, rfl, (Option.some.inj hi).symm⟩
      refine s_asg (ev_op (ev_int1 (ev_op (ev_op (ev_var rfl) ev_c (rv_I (.inl ⟨by omega, by omega⟩))) (ev_abs (ev_var rfl)) rv_I0)) ev_c (rv_I (by decide))) fun H2 e2 => ⟨e.trans e2, _, _, Int.emod_nonneg _ (by decide), Int.emod_lt_of_pos _ (by decide), rfl⟩
    · rintro σ' H' ⟨e, z, c, hz0, hz1, rfl⟩
      refine s_retL (el_cat (el_lst (ea_cons (ev_var rfl) (ea_cons ev_c ea_nil)) (by show 2 ≤ 100000; decide)) (el_lcL (fun i => decide (10 ^ 18 ≤ ns.getD i 0)) (fun i => .int (ns.getD i 0)) (ev_var rfl) (ex_l e hA) (by rw [List.length_map]; omega) (fun _ => rfl) (fun i x H2 e2 hi => ?_) (fun i x H2 e2 hi hf => ?_)) ?_) fun p H2 hp e2 h2 => ?_
      · have hx : x = .int (ns.getD i 0) := by
          rw [List.getElem?_map] at hi
          rw [List.getD_eq_getElem?_getD]
          cases en : ns[i]? with
          | none => rw [en] at hi; cases hi
          | some n => rw [en] at hi; exact (Option.some.inj hi).symm
        subst hx
        exact et_cmp (ev_var rfl) (ev_op ev_c ev_c (rv_I ⟨by decide, by decide, by decide⟩)) rv_I0
      · have hx : x = .int (ns.getD i 0) := by
          rw [List.getElem?_map] at hi
          rw [List.getD_eq_getElem?_getD]
          cases en : ns[i]? with
          | none => rw [en] at hi; cases hi
          | some n => rw [en] at hi; exact (Option.some.inj hi).symm
        subst hx
        exact ev_var rfl
      · have := given_len (ns.map V.int).length (fun i => decide (10 ^ 18 ≤ ns.getD i 0)) (fun i => V.int (ns.getD i 0))
        rw [List.length_map] at this ⊢
        show 2 + _ ≤ 100000
        omega
      · refine k p H2 _ ⟨z, 0, ((List.range ns.length).filter fun i => decide (10 ^ 18 ≤ ns.getD i 0)).map fun i => ns.getD i 0, ?_, hz0, hz1, Int.le_refl _, fun b hb => ?_, ?_⟩ (fresh_back e hp) (e.trans e2) h2
        · rw [List.map_map, List.length_map]
          rfl
        · rw [List.mem_map] at hb
          obtain ⟨i, hi, rfl⟩ := hb
          rw [List.mem_filter] at hi
          have h18 := of_decide_eq_true hi.2
          have : (0 : Int) ≤ 10 ^ 18 := by decide
          omega
        · rw [List.length_map]
          have := List.length_filter_le (fun i => decide (10 ^ 18 ≤ ns.getD i 0)) (List.range ns.length)
          rw [List.length_range] at this
          omega
theorem dn_random (T : Txt w K mg C_BadRule C_BadRules C_BadLand C_BadDay C_BadNumber C_Feast C_Calendar) : Dn P w K mg base CX0 "_law_random" 1 ["_law_script", "_law_salt"] (spRandom K) := T.f_l_random.dn fun _ _ F _ _ => ok_random F T
def spBelow : Sp := fun vs H Q _ => ∃ (d : Addr) (xs : List V) (n : Int), vs = [.ref d, .int n] ∧ H d = some (.lst xs) ∧ Good xs ∧ 1 ≤ n ∧ n < 1073741824 ∧ ∀ (r : Nat) xs' H', (r : Int) < n → Good xs' → ExB d H H' → H' d = some (.lst xs') → Q (.int r) H'
theorem at1 {x y : V} {xs : List V} : atI (x :: y :: xs) 1 = some y := atI_nat (j := 1) rfl
theorem ixN0 {n : Nat} (h : 0 < n) : ixN n 0 = some 0 := by
  have := ixN_nat (n := n) (j := 0) h
  exact this
theorem ixN1 {n : Nat} (h : 1 < n) : ixN n 1 = some 1 := ixN_nat (n := n) (j := 1) h
theorem ok_below (F : Fun K "_law_below" "_law_below" s_l_below f fd) (T : Txt w K mg C_BadRule C_BadRules C_BadLand C_BadDay C_BadNumber C_Feast C_Calendar) : FnOk P w K mg base CX0 1 f fd ["_law_d", "_law_size"] spBelow := by
  refine F.ok sc_l_below (fun vs H Q E h => ?_) (fun cdv A outer s H vs Q E hr h => ?_)
  · obtain ⟨_, _, _, rfl, _⟩ := h
    rfl
  · obtain ⟨d, xs, n, rfl, hd, hg, h1, h2, k⟩ := h
    refine ⟨_, (Evl.pss_cut (ps_if (PW.pt (pw_and (pt_cmpR op_eq (pe_ix ix_list (pv 0) pe_int (fun _ _ => rfl)) pe_int (nomark _)) (pw_and1 (pt_cmpR op_gt (pe_callB call_len_seq (by rfl) T.len (by decide +kernel) (pa_cons (pv 0) pa_nil)) pe_int (nomark _))))) (pss_one (ps_asg (pe_bm PySem.F.plainAttrs_list PySem.F.slot_list_pop PySem.F.type_list_pop mt_popAt (pv 0) (pa_cons pe_int pa_nil)) (pg_sub (pv 0) pe_int set_list)))
  pss_nil)
  (pss_cons (ps_if (pt_cmpR op_gt (pe_ix ix_list (pv 0) pe_int (fun _ _ => rfl)) pe_int (nomark _)) (pss_cons (ps_set (i := 2) sc_l_below.nd rfl (by first | exact Or.inl rfl | exact Or.inr rfl) (pe_op op_mod (pe_callTy call_int1 (by rfl) T.int (by decide +kernel) (pa_cons (pe_ix ix_list (pv 0) pe_int (fun _ _ => rfl)) pa_nil)) (pv 1)))
  (pss_cons (ps_asg (pe_op op_fdiv (pe_ix ix_list (pv 0) pe_int (fun _ _ => rfl)) (pv 1)) (pg_sub (pv 0) pe_int set_list))
  (pss_one (ps_ret (pv 2)))))
  pss_nil)
  (pss_cons (ps_asg (pe_op op_mod (pe_callTy call_int1 (by rfl) T.int (by decide +kernel) (pa_cons (pe_op op_add (pe_op op_mul (pe_ix ix_list (pv 0) pe_int (fun _ _ => rfl)) pe_int) pe_int) pa_nil)) pe_int) (pg_sub (pv 0) pe_int set_list))
  (pss_one (ps_ret (pe_op op_mod (pe_callTy call_int1 (by rfl) T.int (by decide +kernel) (pa_cons (pe_op op_fdiv (pe_ix ix_list (pv 0) pe_int (fun _ _ => rfl)) pe_int) pa_nil)) (pv 1))))))), ?_⟩
    obtain ⟨z, r, bs, rfl, hz0, hz1, hr0, hbs, hl⟩ := hg
    refine q_cut (M := fun σ' H' => σ' = [some (.ref d), some (.int n), none] ∧ ∃ (z r : Int) (bs : List Int), H' d = some (.lst (.int z :: .int r :: bs.map V.int)) ∧ 0 ≤ z ∧ z < 2147483647 ∧ 0 ≤ r ∧ (∀ b ∈ bs, 0 ≤ b) ∧ bs.length ≤ 100 ∧ ExB d H H') ?_ ?_
    · refine s_when (et_and (et_cmp (ev_ixL (ev_var rfl) (sq_of hd) at1) ev_c (rv_eq rfl)) fun _ => et_cmp (ev_lenL (ev_var rfl) (sq_of hd)) ev_c rv_I0) (fun hb H1 e1 => ?_) (fun hb H1 e1 => ⟨rfl, z, r, bs, e1 _ _ hd, hz0, hz1, hr0, hbs, hl, ExB.of e1⟩)
      rw [Bool.and_eq_true] at hb
      have hlen := of_decide_eq_true hb.2
      cases bs with
      | nil => exact absurd hlen (by simp)
      | cons b bs =>
        refine ⟨_, rfl, .inl ⟨rfl, _, sq_of (e1 _ _ hd)⟩, d, _, 2, 2, .int b, rfl, rfl, e1 _ _ hd, by decide, by decide, ?_, rfl, _, rfl, d, _, 1, 1, rfl, rfl, upd_same, ?_, ?_⟩
        · show (if 0 ≤ (2 : Int) && (2 : Int) < (((V.int z :: V.int r :: (b :: bs).map V.int).length : Nat) : Int) then some (2 : Int).toNat else none) = some 2
          rw [if_pos]
          · rfl
          · simp
            omega
        · exact ixN1 (by simp)
        · refine ⟨rfl, z, b, bs, upd_same, hz0, hz1, hbs b List.mem_cons_self, fun c hc => hbs c (List.mem_cons_of_mem _ hc), ?_, (ExB.of e1).upd.upd⟩
          simp at hl
          omega
    · rintro σ' H' ⟨rfl, z, r, bs, hd', hz0, hz1, hr0, hbs, hl, eb⟩
      refine q_when (et_cmp (ev_ixL (ev_var rfl) (sq_of hd') at1) ev_c rv_I0) (fun hb H1 e1 => ?_) (fun hb H1 e1 => ?_)
      · refine q_asg (ev_op (ev_int1 (ev_ixL (ev_var rfl) (sq_of (e1 _ _ hd')) at1)) (ev_var rfl) (rv_I (by omega))) fun H2 e2 => ?_
        refine q_setI (j := 1) ((e1.trans e2) _ _ hd') (ev_op (ev_ixL (ev_var rfl) (sq_of ((e1.trans e2) _ _ hd')) at1) (ev_var rfl) (rv_I ⟨by omega, h2⟩)) (ev_var rfl) (ixN1 (by simp)) fun H3 e3 => ?_
        refine s_ret (ev_var rfl) fun H4 e4 => ?_
        have hm0 := Int.emod_nonneg r (show n ≠ 0 by omega)
        have hm1 := Int.emod_lt_of_pos r (show 0 < n by omega)
        have hk := k (r % n).toNat _ H4 (by omega) ⟨z, r / n, bs, rfl, hz0, hz1, Int.ediv_nonneg hr0 (by omega), hbs, hl⟩ (((eb.step ((e1.trans e2).trans e3)).upd).step e4) (e4 _ _ upd_same)
        rw [Int.toNat_of_nonneg hm0] at hk
        exact hk
      · refine q_setI (j := 0) (e1 _ _ hd') (ev_op (ev_int1 (ev_op (ev_op (ev_ixL (ev_var rfl) (sq_of (e1 _ _ hd')) at0) ev_c (rv_I (.inl ⟨by omega, by omega⟩))) ev_c rv_I0)) ev_c (rv_I (by decide))) (ev_var rfl) (ixN0 (by simp)) fun H2 e2 => ?_
        refine s_ret (ev_op (ev_int1 (ev_op (ev_ixL (ev_var rfl) (sq_of upd_same) at0) ev_c (rv_I ⟨by decide, by decide⟩))) (ev_var rfl) (rv_I (by omega))) fun H4 e4 => ?_
        have hm0 := Int.emod_nonneg ((z * 48271 + 11) % 2147483647 / 64) (show n ≠ 0 by omega)
        have hm1 := Int.emod_lt_of_pos ((z * 48271 + 11) % 2147483647 / 64) (show 0 < n by omega)
        have hk := k ((z * 48271 + 11) % 2147483647 / 64 % n).toNat _ H4 (by omega) ⟨(z * 48271 + 11) % 2147483647, r, bs, rfl, Int.emod_nonneg _ (by decide), Int.emod_lt_of_pos _ (by decide), hr0, hbs, hl⟩ (((eb.step (e1.trans e2)).upd).step e4) (e4 _ _ upd_same)
        rw [Int.toNat_of_nonneg hm0] at hk
        exact hk
theorem dn_below (T : Txt w K mg C_BadRule C_BadRules C_BadLand C_BadDay C_BadNumber C_Feast C_Calendar) : Dn P w K mg base CX0 "_law_below" 1 ["_law_d", "_law_size"] spBelow := T.f_l_below.dn fun _ _ F _ _ => ok_below F T
end
end WF

set_option Elab.async false
set_option linter.all false
set_option maxRecDepth 100000
set_option maxHeartbeats 2000000
/-! pick, leaf, rule -/
namespace WF
open PySem L2 Evl
section
variable {P : Program} {w : World} {K : PySem.W.Frag} {mg : Str → Option Value} {base : Heap} {C_BadRule C_BadRules C_BadLand C_BadDay C_BadNumber C_Feast C_Calendar : Addr} {f : Addr} {fd : FuncData}
def spPick (K : PySem.W.Frag) : Sp := fun vs H Q _ => ∃ (d l : Addr) (xs ys : List V), vs = [.ref d, .ref l] ∧ H d = some (.lst xs) ∧ Good xs ∧ SqL K H l ys ∧ l ≠ d ∧ 1 ≤ ys.length ∧ ys.length ≤ 1000000 ∧
  ∀ y xs' H', y ∈ ys → Good xs' → ExB d H H' → H' d = some (.lst xs') → Q y H'
theorem ok_pick (F : Fun K "_law_pick" "_law_pick" s_l_pick f fd) (T : Txt w K mg C_BadRule C_BadRules C_BadLand C_BadDay C_BadNumber C_Feast C_Calendar) : FnOk P w K mg base CX0 2 f fd ["_law_d", "_law_items"] (spPick K) := by
  have D_l_below : Dn P w K mg base CX0 "_law_below" 1 ["_law_d", "_law_size"] spBelow := dn_below T
  refine F.ok sc_l_pick (fun vs H Q E h => ?_) (fun cdv A outer s H vs Q E hr h => ?_)
  · obtain ⟨_, _, _, _, rfl, _⟩ := h
    rfl
  · obtain ⟨d, l, xs, ys, rfl, hd, hg, hl, hne, h1, h2, k⟩ := h
    refine ⟨_, (pss_one (ps_ret (pe_ix ix_list (pv 1) (pe_fn D_l_below (hr.mono (by omega)) pass0 rfl (pa_cons (pv 0) (pa_cons (pe_callB call_len_seq (by rfl) T.len (by decide +kernel) (pa_cons (pv 1) pa_nil)) pa_nil))) (fun _ _ => rfl)))), ?_⟩
    refine ⟨_, rfl, call_ev (ea_cons (ev_var rfl) (ea_cons (ev_lenL (ev_var rfl) hl) ea_nil)) fun H1 e1 => ⟨d, xs, _, rfl, e1 _ _ hd, hg, by omega, by omega, fun r xs' H' hr' hg' eb hd' => ?_⟩⟩
    have hlt : r < ys.length := by omega
    have eb' : ExB d H H' := fun b o hb q => eb b o hb (e1 b o q)
    exact ⟨l, ys, _, ys[r], rfl, rfl, sql_but eb' hne hl, atI_nat (by simp [hlt]), k _ xs' H' (List.getElem_mem hlt) hg' eb' hd'⟩
theorem dn_pick (T : Txt w K mg C_BadRule C_BadRules C_BadLand C_BadDay C_BadNumber C_Feast C_Calendar) : Dn P w K mg base CX0 "_law_pick" 2 ["_law_d", "_law_items"] (spPick K) := T.f_l_pick.dn fun _ _ F _ _ => ok_pick F T
/-- pick of a new list -/
theorem pick_new {σ : L2.St} {H : Hp} {ta tl : TE} {d : Addr} {xs ys : List V} {Q : VK} {E : XK} (h0 : Ev ta σ H (.ref d)) (hl : EvL tl σ H ys) (hd : H d = some (.lst xs)) (hg : Good xs) (h1 : 1 ≤ ys.length) (h2 : ys.length ≤ 1000000)
    (k : ∀ y xs' H', y ∈ ys → Good xs' → ExB d H H' → H' d = some (.lst xs') → Q y H') : tCall (spPick K) [] E (tCons ta (tCons tl tNil)) σ H Q :=
  h0 H (Ex.refl H) _ fun H1 e1 => hl H1 e1 _ fun p H2 hp e2 hp2 => ⟨d, p, xs, ys, rfl, (e1.trans e2) _ _ hd, hg, sq_of hp2, (ne_of_none (e1 _ _ hd) hp).symm, h1, h2, fun y xs' H' hy hg' eb hd' =>
    k y xs' H' hy hg' (fun b o hb q => eb b o hb ((e1.trans e2) b o q)) hd'⟩
theorem below_ev {σ : L2.St} {H : Hp} {ta tb : TE} {d : Addr} {xs : List V} {n : Int} {Q : VK} {E : XK} (h0 : Ev ta σ H (.ref d)) (hl : Ev tb σ H (.int n)) (hd : H d = some (.lst xs)) (hg : Good xs) (h1 : 1 ≤ n) (h2 : n < 1073741824)
    (k : ∀ (r : Nat) xs' H', (r : Int) < n → Good xs' → ExB d H H' → H' d = some (.lst xs') → Q (.int r) H') : tCall spBelow [] E (tCons ta (tCons tb tNil)) σ H Q :=
  call_ev (ea_cons h0 (ea_cons hl ea_nil)) fun H1 e1 => ⟨d, xs, n, rfl, e1 _ _ hd, hg, h1, h2, fun r xs' H' hr hg' eb hd' => k r xs' H' hr hg' (fun b o hb q => eb b o hb (e1 b o q)) hd'⟩
/-- below(..) == c -/
theorem below_eq {σ : L2.St} {H : Hp} {ta tb : TE} {d : Addr} {xs : List V} {n c : Int} {Q : Bool → Hp → Prop} {E : XK} (h0 : Ev ta σ H (.ref d)) (hl : Ev tb σ H (.int n)) (hd : H d = some (.lst xs)) (hg : Good xs) (h1 : 1 ≤ n) (h2 : n < 1073741824)
    (k : ∀ (r : Nat) xs' H', (r : Int) < n → Good xs' → ExB d H H' → H' d = some (.lst xs') → Q (decide (V.int r = V.int c)) H') : tTest (tOp rEq (tCall spBelow [] E (tCons ta (tCons tb tNil))) (tC (.int c))) σ H Q :=
  below_ev h0 hl hd hg h1 h2 fun r xs' H' hr hg' eb hd' => ⟨rfl, _, rfl, k r xs' H' hr hg' eb hd'⟩
def spLeaf (K : PySem.W.Frag) : Sp := fun vs H Q _ => ∃ (d : Addr) (xs : List V), vs = [.ref d] ∧ H d = some (.lst xs) ∧ Good xs ∧
  ∀ v r xs' H', RlAt K H' v r → r.fit = true → r.parts = 1 → r.bys = 0 → Good xs' → ExB d H H' → H' d = some (.lst xs') → Q v H'
theorem ok_leaf (F : Fun K "_law_leaf" "_law_leaf" s_l_leaf f fd) (T : Txt w K mg C_BadRule C_BadRules C_BadLand C_BadDay C_BadNumber C_Feast C_Calendar) : FnOk P w K mg base CX0 3 f fd ["_law_d"] (spLeaf K) := by
  have D_l_below : Dn P w K mg base CX0 "_law_below" 1 ["_law_d", "_law_size"] spBelow := dn_below T
  have D_l_pick : Dn P w K mg base CX0 "_law_pick" 2 ["_law_d", "_law_items"] (spPick K) := dn_pick T
  refine F.ok sc_l_leaf (fun vs H Q E h => ?_) (fun cdv A outer s H vs Q E hr h => ?_)
  · obtain ⟨_, _, rfl, _⟩ := h
    rfl
  · obtain ⟨d, xs, rfl, hd, hg, k⟩ := h
    refine ⟨_, (pss_cons (ps_if (pt_cmpR op_eq (pe_fn D_l_below (hr.mono (by omega)) pass0 rfl (pa_cons (pv 0) (pa_cons pe_int pa_nil))) pe_int (nomark _)) (pss_one (ps_ret (pe_tup (pa_cons pe_str (pa_cons (pe_fn D_l_pick (hr.mono (by omega)) pass0 rfl (pa_cons (pv 0) (pa_cons (pe_lst (pa_cons (pe_un un_neg pe_int) (pa_cons (pe_un un_neg pe_int) (pa_cons (pe_un un_neg pe_int) (pa_cons pe_int (pa_cons pe_int (pa_cons pe_int pa_nil))))))) pa_nil))) pa_nil)))))
  pss_nil)
  (pss_one (ps_ret (pe_tup (pa_cons (pe_fn D_l_pick (hr.mono (by omega)) pass0 rfl (pa_cons (pv 0) (pa_cons (pe_lst (pa_cons pe_str (pa_cons pe_str (pa_cons pe_str pa_nil)))) pa_nil))) (pa_cons (pe_fn D_l_pick (hr.mono (by omega)) pass0 rfl (pa_cons (pv 0) (pa_cons (pe_lst (pa_cons (pe_un un_neg pe_int) (pa_cons (pe_un un_neg pe_int) (pa_cons pe_int (pa_cons pe_int pa_nil))))) pa_nil))) pa_nil)))))), ?_⟩
    refine q_ifX (below_eq (ev_var rfl) ev_c hd hg (by decide) (by decide) fun r xs1 H1 hr1 hg1 eb1 hd1 => ite2 (fun _ => ?_) (fun _ => ?_))
    · refine pick_new (ev_var rfl) (el_lst (ea_cons (ev_un ev_c ru_neg) (ea_cons (ev_un ev_c ru_neg) (ea_cons (ev_un ev_c ru_neg) (ea_cons ev_c (ea_cons ev_c (ea_cons ev_c ea_nil)))))) (by show 6 ≤ 100000; decide)) hd1 hg1 (by decide) (by decide) fun y xs2 H2 hy hg2 eb2 hd2 => ?_
      refine ⟨by show 2 ≤ sizeLine; decide, fun p hp => ?_⟩
      have hyk : ∃ j : Int, y = .int j ∧ -3 ≤ j ∧ j ≤ 2 := by
        simp at hy
        rcases hy with rfl | rfl | rfl | rfl | rfl | rfl <;> exact ⟨_, rfl, by decide, by decide⟩
      obtain ⟨j, rfl, h3, h4⟩ := hyk
      refine k _ (.md j) xs2 _ (.md (st_of upd_same)) (decide_eq_true ⟨h3, h4⟩) rfl rfl hg2 ((eb1.trans eb2).step (Ex.new hp)) ?_
      rw [upd_ne (ne_of_none hd2 hp)]
      exact hd2
    · refine pick_new (ev_var rfl) (el_lst (ea_cons ev_c (ea_cons ev_c (ea_cons ev_c ea_nil))) (by show 3 ≤ 100000; decide)) hd1 hg1 (by decide) (by decide) fun x xs2 H2 hx hg2 eb2 hd2 => ?_
      refine pick_new (ev_var rfl) (el_lst (ea_cons (ev_un ev_c ru_neg) (ea_cons (ev_un ev_c ru_neg) (ea_cons ev_c (ea_cons ev_c ea_nil)))) (by show 4 ≤ 100000; decide)) hd2 hg2 (by decide) (by decide) fun y xs3 H3 hy hg3 eb3 hd3 => ?_
      refine ⟨by show 2 ≤ sizeLine; decide, fun p hp => ?_⟩
      have hyk : ∃ j : Int, y = .int j ∧ -2 ≤ j ∧ j ≤ 1 := by
        simp at hy
        rcases hy with rfl | rfl | rfl | rfl <;> exact ⟨_, rfl, by decide, by decide⟩
      obtain ⟨j, rfl, h3, h4⟩ := hyk
      have hd4 : upd H3 p (.tup [x, .int j]) d = some (.lst xs3) := by
        rw [upd_ne (ne_of_none hd3 hp)]
        exact hd3
      have eb : ExB d H (upd H3 p (.tup [x, .int j])) := ((eb1.trans eb2).trans eb3).step (Ex.new hp)
      have hxk : x = .str "weekday" ∨ x = .str "first" := by
        simp at hx
        rcases hx with rfl | rfl
        · exact .inl rfl
        · exact .inr rfl
      rcases hxk with rfl | rfl
      · exact k _ (.wk j) xs3 _ (.wk (st_of upd_same)) (decide_eq_true ⟨h3, h4⟩) rfl rfl hg3 eb hd4
      · exact k _ (.fs j) xs3 _ (.fs (st_of upd_same)) (decide_eq_true ⟨h3, h4⟩) rfl rfl hg3 eb hd4
theorem dn_leaf (T : Txt w K mg C_BadRule C_BadRules C_BadLand C_BadDay C_BadNumber C_Feast C_Calendar) : Dn P w K mg base CX0 "_law_leaf" 3 ["_law_d"] (spLeaf K) := T.f_l_leaf.dn fun _ _ F _ _ => ok_leaf F T
def spRule (K : PySem.W.Frag) (n : Nat) : Sp := fun vs H Q _ => ∃ (d l : Addr) (xs : List V) (p b : Nat), vs = [.ref d, .ref l] ∧ H d = some (.lst xs) ∧ Good xs ∧ H l = some (.lst [.int (p : Int), .int (b : Int)]) ∧ d ≠ l ∧ p < n ∧ b ≤ 100 ∧
  ∀ v r xs' (p' b' : Nat) H', RlAt K H' v r → r.fit = true → r.parts + p' = 1 + p → r.bys + b' = b → Good xs' → H' d = some (.lst xs') → H' l = some (.lst [.int (p' : Int), .int (b' : Int)]) → ExB2 d l H H' → Q v H'
theorem rule_turn (F : Fun K "_law_rule" "_law_rule" s_l_rule f fd) (T : Txt w K mg C_BadRule C_BadRules C_BadLand C_BadDay C_BadNumber C_Feast C_Calendar) (hm : mg "_law_rule" = some (.ref f)) (hb : Binds K fd ["_law_d", "_law_left"] []) (n : Nat) (ih : FnOk P w K mg base CX0 (n + 4) f fd ["_law_d", "_law_left"] (spRule K n)) : FnOk P w K mg base CX0 (n + 5) f fd ["_law_d", "_law_left"] (spRule K (n + 1)) := by
  have D_l_below : Dn P w K mg base CX0 "_law_below" 1 ["_law_d", "_law_size"] spBelow := dn_below T
  have D_l_pick : Dn P w K mg base CX0 "_law_pick" 2 ["_law_d", "_law_items"] (spPick K) := dn_pick T
  have D_l_leaf : Dn P w K mg base CX0 "_law_leaf" 3 ["_law_d"] (spLeaf K) := dn_leaf T
  have D_l_rule : Dn P w K mg base CX0 "_law_rule" (n + 4) ["_law_d", "_law_left"] (spRule K n) := ⟨f, fd, hm, F.kp, ih, hb⟩
  refine F.ok sc_l_rule (fun vs H Q E h => ?_) (fun cdv A outer s H vs Q E hr h => ?_)
  · obtain ⟨_, _, _, _, _, rfl, _⟩ := h
    rfl
  · obtain ⟨d, l, xs, p, b, rfl, hd, hg, hl, hne, hpn, hb4, k⟩ := h
    refine ⟨_, (pss_cons (ps_set (i := 2) sc_l_rule.nd rfl (by first | exact Or.inl rfl | exact Or.inr rfl) (pe_fn D_l_below (hr.mono (by omega)) pass0 rfl (pa_cons (pv 0) (pa_cons pe_int pa_nil))))
  (pss_cons (ps_if (PW.pt (pw_and (pt_cmpR op_eq (pv 2) pe_int (nomark _)) (pw_and (pt_cmpR op_gt (pe_ix ix_list (pv 1) pe_int (fun _ _ => rfl)) pe_int (nomark _)) (pw_and1 (pt_cmpR op_gt (pe_ix ix_list (pv 1) pe_int (fun _ _ => rfl)) pe_int (nomark _)))))) (pss_cons (ps_set (i := 3) sc_l_rule.nd rfl (by first | exact Or.inl rfl | exact Or.inr rfl) (pe_ifExp (pt_cmpR op_gt (pe_ix ix_list (pv 1) pe_int (fun _ _ => rfl)) pe_int (nomark _)) (pe_fn D_l_pick (hr.mono (by omega)) pass0 rfl (pa_cons (pv 0) (pa_cons (pe_lst (pa_cons (pe_un un_neg pe_int) (pa_cons pe_int (pa_cons (pe_un un_neg pe_int) (pa_cons pe_int pa_nil))))) pa_nil))) (pe_fn D_l_pick (hr.mono (by omega)) pass0 rfl (pa_cons (pv 0) (pa_cons (pe_lst (pa_cons (pe_un un_neg pe_int) (pa_cons pe_int pa_nil))) pa_nil)))))
  (pss_cons (ps_asg (pe_op op_sub (pe_ix ix_list (pv 1) pe_int (fun _ _ => rfl)) pe_int) (pg_sub (pv 1) pe_int set_list))
  (pss_cons (ps_asg (pe_op op_sub (pe_ix ix_list (pv 1) pe_int (fun _ _ => rfl)) (pe_callB call_abs (by rfl) T.abs (by decide +kernel) (pa_cons (pv 3) pa_nil))) (pg_sub (pv 1) pe_int set_list))
  (pss_one (ps_ret (pe_tup (pa_cons pe_str (pa_cons (pe_fn D_l_rule (hr.mono (by omega)) pass0 rfl (pa_cons (pv 0) (pa_cons (pv 1) pa_nil))) (pa_cons (pv 3) pa_nil)))))))))
  pss_nil)
  (pss_cons (ps_if (PW.pt (pw_and (pt_cmpR op_lt (pv 2) pe_int (nomark _)) (pw_and1 (pt_cmpR op_gt (pe_ix ix_list (pv 1) pe_int (fun _ _ => rfl)) pe_int (nomark _))))) (pss_cons (ps_set (i := 4) sc_l_rule.nd rfl (by first | exact Or.inl rfl | exact Or.inr rfl) (pe_fn D_l_pick (hr.mono (by omega)) pass0 rfl (pa_cons (pv 0) (pa_cons (pe_lst (pa_cons pe_str (pa_cons pe_str (pa_cons pe_str pa_nil)))) pa_nil))))
  (pss_cons (ps_asg (pe_op op_sub (pe_ix ix_list (pv 1) pe_int (fun _ _ => rfl)) pe_int) (pg_sub (pv 1) pe_int set_list))
  (pss_cons (ps_set (i := 5) sc_l_rule.nd rfl (by first | exact Or.inl rfl | exact Or.inr rfl) (pe_fn D_l_rule (hr.mono (by omega)) pass0 rfl (pa_cons (pv 0) (pa_cons (pv 1) pa_nil))))
  (pss_one (ps_ret (pe_tup (pa_cons (pv 4) (pa_cons (pv 5) (pa_cons (pe_fn D_l_rule (hr.mono (by omega)) pass0 rfl (pa_cons (pv 0) (pa_cons (pv 1) pa_nil))) pa_nil)))))))))
  pss_nil)
  (pss_one (ps_ret (pe_fn D_l_leaf (hr.mono (by omega)) pass0 rfl (pa_cons (pv 0) pa_nil))))))), ?_⟩
    refine q_asgX (below_ev (ev_var rfl) ev_c hd hg (by decide) (by decide) fun r xs1 H1 hr1 hg1 eb1 hd1 => ?_)
    have hl1 := eb1 _ _ (Ne.symm hne) hl
    refine q_when (et_and (et_cmp (ev_var rfl) ev_c (rv_eq rfl)) fun _ => et_and (et_cmp (ev_ixL (ev_var rfl) (sq_of hl1) at0) ev_c rv_I0) fun _ => et_cmp (ev_ixL (ev_var rfl) (sq_of hl1) at1) ev_c rv_I0) (fun hc H2 e2 => ?_) (fun _ H2 e2 => ?_)
    · rw [Bool.and_eq_true, Bool.and_eq_true] at hc
      have hp0 := of_decide_eq_true hc.2.1
      have hb0 := of_decide_eq_true hc.2.2
      have hd2 := e2 _ _ hd1
      have hl2 := e2 _ _ hl1
      -- the by
      have byP : ∀ (Q2 : VK), (∀ (j : Int) xs3 H3, byOk j = true → j.natAbs ≤ b → Good xs3 → ExB d H2 H3 → H3 d = some (.lst xs3) → Q2 (.int j) H3) →
          tIf (tTest (tOp (rI0 fun i j => .bl (decide (j < i))) (tOp (rIxL K) (tVar 1) (tC (.int 1))) (tC (.int 1)))) (tCall (spPick K) [] E0 (tCons (tVar 0) (tCons (tLst (tCons (tUn (rU fun i => .int (-i)) (tC (.int 1))) (tCons (tC (.int 1)) (tCons (tUn (rU fun i => .int (-i)) (tC (.int 2))) (tCons (tC (.int 2)) tNil))))) tNil)))
            (tCall (spPick K) [] E0 (tCons (tVar 0) (tCons (tLst (tCons (tUn (rU fun i => .int (-i)) (tC (.int 1))) (tCons (tC (.int 1)) tNil))) tNil))) [some (.ref d), some (.ref l), some (.int (r : Int)), none, none, none] H2 Q2 := fun Q2 kq => by
        refine (et_cmp (ev_ixL (ev_var rfl) (sq_of hl2) at1) ev_c rv_I0 : EvT _ _ _ _) H2 (Ex.refl H2) _ fun H3 e3 => ?_
        refine ite2 (fun hc1 => ?_) (fun hc1 => ?_)
        · refine pick_new (ev_var rfl) (el_lst (ea_cons (ev_un ev_c ru_neg) (ea_cons ev_c (ea_cons (ev_un ev_c ru_neg) (ea_cons ev_c ea_nil)))) (by show 4 ≤ 100000; decide)) (e3 _ _ hd2) hg1 (by decide) (by decide) fun y xs4 H4 hy hg4 eb4 hd4 => ?_
          have hc2 := of_decide_eq_true hc1
          have : ∃ j : Int, y = .int j ∧ byOk j = true ∧ j.natAbs ≤ 2 := by
            simp at hy
            rcases hy with rfl | rfl | rfl | rfl <;> exact ⟨_, rfl, rfl, by decide⟩
          obtain ⟨j, rfl, hj, hj2⟩ := this
          exact kq j xs4 H4 hj (by omega) hg4 (fun c o hcd q => eb4 c o hcd (e3 c o q)) hd4
        · refine pick_new (ev_var rfl) (el_lst (ea_cons (ev_un ev_c ru_neg) (ea_cons ev_c ea_nil)) (by show 2 ≤ 100000; decide)) (e3 _ _ hd2) hg1 (by decide) (by decide) fun y xs4 H4 hy hg4 eb4 hd4 => ?_
          have : ∃ j : Int, y = .int j ∧ byOk j = true ∧ j.natAbs ≤ 1 := by
            simp at hy
            rcases hy with rfl | rfl <;> exact ⟨_, rfl, rfl, by decide⟩
          obtain ⟨j, rfl, hj, hj2⟩ := this
          exact kq j xs4 H4 hj (by omega) hg4 (fun c o hcd q => eb4 c o hcd (e3 c o q)) hd4
      refine q_asgX (byP _ fun j xs3 H3 hj hjb hg3 eb3 hd3 => ?_)
      have hl3 := eb3 _ _ (Ne.symm hne) hl2
      refine q_setI (j := 0) hl3 (ev_op (ev_ixL (ev_var rfl) (sq_of hl3) at0) ev_c rv_I0) (ev_var rfl) (ixN0 (by simp)) fun H4 e4 => ?_
      refine q_setI (j := 1) upd_same (ev_op (ev_ixL (ev_var rfl) (sq_of upd_same) at1) (ev_abs (ev_var rfl)) rv_I0) (ev_var rfl) (ixN1 (by simp)) fun H5 e5 => ?_
      have hd5 : upd H5 l (.lst [.int ((p : Int) - 1), .int ((b : Int) - (if j < 0 then -j else j))]) d = some (.lst xs3) := by
        rw [upd_ne hne]
        refine e5 _ _ ?_
        rw [upd_ne hne]
        exact e4 _ _ hd3
      have E5 : ExB2 d l H (upd H5 l (.lst [.int ((p : Int) - 1), .int ((b : Int) - (if j < 0 then -j else j))])) := ((((eb1.two (l := l)).step e2).trans (eb3.two)).step e4).updL.step e5 |>.updL
      refine call_ev (ea_cons (ev_var rfl) (ea_cons (ev_var rfl) ea_nil)) fun H6 e6 => ⟨d, l, xs3, p - 1, b - j.natAbs, rfl, e6 _ _ hd5, hg3, ?_, hne, by omega, by omega, fun v rr xs7 p7 b7 H7 hR hf hpp hbb hg7 hd7 hl7 E7 => ?_⟩
      · rw [e6 _ _ upd_same, abs_val]
        have h1 : (p : Int) - 1 = ((p - 1 : Nat) : Int) := by omega
        have h2 : (b : Int) - ((j.natAbs : Nat) : Int) = ((b - j.natAbs : Nat) : Int) := by omega
        show some (HO.lst [V.int ((p : Int) - 1), V.int ((b : Int) - ((j.natAbs : Nat) : Int))]) = _
        rw [h1, h2]
      · refine ⟨_, rfl, by show 3 ≤ sizeLine; decide, fun q hq => ?_⟩
        refine k _ (.bh rr j) xs7 p7 b7 _ (.bh (st_of upd_same) (hR.mono (Ex.new hq))) ?_ ?_ ?_ hg7 ?_ ?_ ((E5.step e6).trans (E7.step (Ex.new hq)))
        · show (decide _ && rr.fit) = true
          rw [hf, Bool.and_true]
          exact hj
        · show 1 + rr.parts + p7 = 1 + p
          omega
        · show j.natAbs + rr.bys + b7 = b
          omega
        · exact (Ex.new hq) _ _ hd7
        · exact (Ex.new hq) _ _ hl7
    · have hd2 := e2 _ _ hd1
      have hl2 := e2 _ _ hl1
      refine q_when (et_and (et_cmp (ev_var rfl) ev_c rv_I0) fun _ => et_cmp (ev_ixL (ev_var rfl) (sq_of hl2) at0) ev_c rv_I0) (fun hc H3 e3 => ?_) (fun _ H3 e3 => ?_)
      · rw [Bool.and_eq_true] at hc
        have hp0 := of_decide_eq_true hc.2
        have hd3 := e3 _ _ hd2
        have hl3 := e3 _ _ hl2
        refine q_asgX (pick_new (ev_var rfl) (el_lst (ea_cons ev_c (ea_cons ev_c (ea_cons ev_c ea_nil))) (by show 3 ≤ 100000; decide)) hd3 hg1 (by decide) (by decide) fun y xs4 H4 hy hg4 eb4 hd4 => ?_)
        have hyk : ∃ s : Str, y = .str s ∧ isPair s := by
          simp at hy
          rcases hy with rfl | rfl | rfl
          · exact ⟨_, rfl, .inl rfl⟩
          · exact ⟨_, rfl, .inr (.inl rfl)⟩
          · exact ⟨_, rfl, .inr (.inr rfl)⟩
        obtain ⟨s, rfl, hs⟩ := hyk
        have hl4 := eb4 _ _ (Ne.symm hne) hl3
        refine q_setI (j := 0) hl4 (ev_op (ev_ixL (ev_var rfl) (sq_of hl4) at0) ev_c rv_I0) (ev_var rfl) (ixN0 (by simp)) fun H5 e5 => ?_
        have hd5 : upd H5 l (.lst [.int ((p : Int) - 2), .int (b : Int)]) d = some (.lst xs4) := by
          rw [upd_ne hne]
          exact e5 _ _ hd4
        have E5 : ExB2 d l H (upd H5 l (.lst [.int ((p : Int) - 2), .int (b : Int)])) := (((((eb1.two (l := l)).step e2).step e3).trans (eb4.two)).step e5).updL
        refine q_call (ea_cons (ev_var rfl) (ea_cons (ev_var rfl) ea_nil)) fun H6 e6 => ⟨d, l, xs4, p - 2, b, rfl, e6 _ _ hd5, hg4, ?_, hne, by omega, by omega, fun v1 r1 xs7 p7 b7 H7 hR1 hf1 hpp1 hbb1 hg7 hd7 hl7 E7 => ?_⟩
        · rw [e6 _ _ upd_same]
          have h1 : (p : Int) - 2 = ((p - 2 : Nat) : Int) := by omega
          show some (HO.lst [V.int ((p : Int) - 2), V.int (b : Int)]) = _
          rw [h1]
        · have hpos := parts_pos r1
          refine ⟨_, rfl, _, rfl, call_ev (ea_cons (ev_var rfl) (ea_cons (ev_var rfl) ea_nil)) fun H8 e8 => ⟨d, l, xs7, p7, b7, rfl, e8 _ _ hd7, hg7, e8 _ _ hl7, hne, by omega, by omega, fun v2 r2 xs9 p9 b9 H9 hR2 hf2 hpp2 hbb2 hg9 hd9 hl9 E9 => ?_⟩⟩
          refine ⟨by show 3 ≤ sizeLine; decide, fun q hq => ?_⟩
          have hR1' : RlAt K H9 v1 r1 := (hR1.mono e8).kn (E9.kn (e8 _ _ hd7) (e8 _ _ hl7))
          have eF : ExB2 d l H (upd H9 q (.tup [.str s, v1, v2])) := (((E5.step e6).trans E7).step e8).trans (E9.step (Ex.new hq))
          rcases hs with rfl | rfl | rfl
          · refine k _ (.bo r1 r2) xs9 p9 b9 _ (.bo (st_of upd_same) (hR1'.mono (Ex.new hq)) (hR2.mono (Ex.new hq))) (by show (r1.fit && r2.fit) = true; rw [hf1, hf2]; rfl) ?_ ?_ hg9 ((Ex.new hq) _ _ hd9) ((Ex.new hq) _ _ hl9) eF
            · show 1 + r1.parts + r2.parts + p9 = 1 + p; omega
            · show r1.bys + r2.bys + b9 = b; omega
          · refine k _ (.ei r1 r2) xs9 p9 b9 _ (.ei (st_of upd_same) (hR1'.mono (Ex.new hq)) (hR2.mono (Ex.new hq))) (by show (r1.fit && r2.fit) = true; rw [hf1, hf2]; rfl) ?_ ?_ hg9 ((Ex.new hq) _ _ hd9) ((Ex.new hq) _ _ hl9) eF
            · show 1 + r1.parts + r2.parts + p9 = 1 + p; omega
            · show r1.bys + r2.bys + b9 = b; omega
          · refine k _ (.wo r1 r2) xs9 p9 b9 _ (.wo (st_of upd_same) (hR1'.mono (Ex.new hq)) (hR2.mono (Ex.new hq))) (by show (r1.fit && r2.fit) = true; rw [hf1, hf2]; rfl) ?_ ?_ hg9 ((Ex.new hq) _ _ hd9) ((Ex.new hq) _ _ hl9) eF
            · show 1 + r1.parts + r2.parts + p9 = 1 + p; omega
            · show r1.bys + r2.bys + b9 = b; omega
      · refine s_retC (ea_cons (ev_var rfl) ea_nil) fun H4 e4 => ⟨d, xs1, rfl, e4 _ _ (e3 _ _ hd2), hg1, fun v rr xs5 H5 hR hf hp1 hb1 hg5 eb5 hd5 => ?_⟩
        exact k v rr xs5 p b H5 hR hf (by omega) (by omega) hg5 hd5 (eb5 _ _ (Ne.symm hne) (e4 _ _ (e3 _ _ hl2))) (((((eb1.two (l := l)).step e2).step e3).step e4).trans (eb5.two))
theorem ok_rule (F : Fun K "_law_rule" "_law_rule" s_l_rule f fd) (T : Txt w K mg C_BadRule C_BadRules C_BadLand C_BadDay C_BadNumber C_Feast C_Calendar) (hm : mg "_law_rule" = some (.ref f)) (hb : Binds K fd ["_law_d", "_law_left"] []) : ∀ n : Nat, FnOk P w K mg base CX0 (n + 4) f fd ["_law_d", "_law_left"] (spRule K n)
  | 0 => fnok_none fun _ _ _ _ ⟨_, _, _, _, _, _, _, _, _, _, h, _⟩ => absurd h (Nat.not_lt_zero _)
  | n + 1 => rule_turn F T hm hb n (ok_rule F T hm hb n)
theorem dn_rule (T : Txt w K mg C_BadRule C_BadRules C_BadLand C_BadDay C_BadNumber C_Feast C_Calendar) : Dn P w K mg base CX0 "_law_rule" 9 ["_law_d", "_law_left"] (spRule K 5) := T.f_l_rule.dn fun _ _ F hm hb => ok_rule F T hm hb 5
end
end WF

set_option Elab.async false
set_option linter.all false
set_option maxRecDepth 100000
set_option maxHeartbeats 2000000
/-! rows, made -/
namespace WF
open PySem L2 Evl
section
variable {P : Program} {w : World} {K : PySem.W.Frag} {mg : Str → Option Value} {base : Heap} {C_BadRule C_BadRules C_BadLand C_BadDay C_BadNumber C_Feast C_Calendar : Addr} {f : Addr} {fd : FuncData}
def spRows (K : PySem.W.Frag) : Sp := fun vs H Q _ => ∃ (d : Addr) (xs : List V) (many parts : Nat), vs = [.ref d, .int many, .int parts] ∧ H d = some (.lst xs) ∧ Good xs ∧ many ≤ 3 ∧ 1 ≤ parts ∧ parts ≤ 5 ∧
  ∀ p ys rows xs' H', H p = none → H' p = some (.lst ys) → RawL K H' ys rows → rows.length = many → RowsOk parts rows → Good xs' → ExB d H H' → H' d = some (.lst xs') → Q (.ref p) H'
theorem ok_rows (F : Fun K "_law_rows" "_law_rows" s_l_rows f fd) (T : Txt w K mg C_BadRule C_BadRules C_BadLand C_BadDay C_BadNumber C_Feast C_Calendar) : FnOk P w K mg base CX0 10 f fd ["_law_d", "_law_many", "_law_parts"] (spRows K) := by
  have D_l_below : Dn P w K mg base CX0 "_law_below" 1 ["_law_d", "_law_size"] spBelow := dn_below T
  have D_l_rule : Dn P w K mg base CX0 "_law_rule" 9 ["_law_d", "_law_left"] (spRule K 5) := dn_rule T
  refine F.ok sc_l_rows (fun vs H Q E h => ?_) (fun cdv A outer s H vs Q E hr h => ?_)
  · obtain ⟨_, _, _, _, rfl, _⟩ := h
    rfl
  · obtain ⟨d, xs, many, parts, rfl, hd, hg, hm, hp1, hp5, k⟩ := h
    refine ⟨_, (pss_cons (ps_set (i := 3) sc_l_rows.nd rfl (by first | exact Or.inl rfl | exact Or.inr rfl) pe_int)
  (pss_cons (ps_set (i := 4) sc_l_rows.nd rfl (by first | exact Or.inl rfl | exact Or.inr rfl) (pe_lst pa_nil))
  (pss_cons (ps_for PassesOwn.never rfl (pi_range1 (by rfl) T.range (pa_cons (pv 1) pa_nil)) (pg_name (i := 5) sc_l_rows.nd rfl (by first | exact Or.inl rfl | exact Or.inr rfl))
  (pss_cons (ps_set (i := 6) sc_l_rows.nd rfl (by first | exact Or.inl rfl | exact Or.inr rfl) (pe_lst (pa_cons (pe_op op_sub (pv 2) pe_int) (pa_cons (pv 3) pa_nil))))
  (pss_cons (ps_set (i := 7) sc_l_rows.nd rfl (by first | exact Or.inl rfl | exact Or.inr rfl) (pe_fn D_l_rule (hr.mono (by omega)) pass0 rfl (pa_cons (pv 0) (pa_cons (pv 6) pa_nil))))
  (pss_cons (ps_set (i := 3) sc_l_rows.nd rfl (by first | exact Or.inl rfl | exact Or.inr rfl) (pe_ix ix_list (pv 6) pe_int (fun _ _ => rfl)))
  (pss_one (ps_expr (pe_bm PySem.F.plainAttrs_list PySem.F.slot_list_append PySem.F.type_list_append mt_append (pv 4) (pa_cons (pe_tup (pa_cons (pv 7) (pa_cons (pe_cmpR op_eq (pe_fn D_l_below (hr.mono (by omega)) pass0 rfl (pa_cons (pv 0) (pa_cons pe_int pa_nil))) pe_int (nomark _)) pa_nil))) pa_nil))))))))
  (pss_one (ps_ret (pv 4)))))), ?_⟩
    refine q_asg ev_c fun H1 e1 => ?_
    refine q_asgL (el_lst ea_nil (Nat.zero_le _)) fun Fl H2 hF e2 h2 => ?_
    have hF0 := fresh_back e1 hF
    have hdF : d ≠ Fl := ne_of_none hd hF0
    refine q_forR1 (n := (many : Int)) (ea_cons (ev_var rfl) ea_nil) ⟨by omega, by omega⟩ (fun i σ H' => ∃ xs' ys rows a5 a6 a7, σ = [some (.ref d), some (.int many), some (.int parts), some (.int (4 - (rowsBys rows : Nat) : Int)), some (.ref Fl), a5, a6, a7] ∧
      H' Fl = some (.lst ys) ∧ RawL K H' ys rows ∧ rows.length = i ∧ RowsOk parts rows ∧ Good xs' ∧ H' d = some (.lst xs') ∧ ExB d H H') (fun H3 e3 => ⟨xs, [], [], none, none, none, rfl, e3 _ _ h2, trivial, rfl, ⟨Nat.zero_le _, fun r hr => nomatch hr⟩, hg, e3 _ _ (e2 _ _ (e1 _ _ hd)), ExB.of ((e1.trans e2).trans e3)⟩) ?_ ?_
    · rintro i σ' H' hi ⟨xs', ys, rows, a5, a6, a7, rfl, hFl, hraw, hlen, hok, hg', hd', eb⟩
      refine q_asgL (el_lst (ea_cons (ev_op (ev_var rfl) ev_c rv_I0) (ea_cons (ev_var rfl) ea_nil)) (by show 2 ≤ 100000; decide)) fun L H3 hL e3 h3 => ?_
      have hb4 := hok.bys
      have hLF : Fl ≠ L := ne_of_none hFl hL
      have hLd : d ≠ L := ne_of_none hd' hL
      refine q_call (ea_cons (ev_var rfl) (ea_cons (ev_var rfl) ea_nil)) fun H4 e4 => ⟨d, L, xs', parts - 1, 4 - rowsBys rows, rfl, e4 _ _ (e3 _ _ hd'), hg', ?_, hLd, by omega, by omega, fun v r xs5 p5 b5 H5 hR hf hpp hbb hg5 hd5 hl5 E5 => ?_⟩
      · rw [e4 _ _ h3]
        have h1 : (parts : Int) - 1 = ((parts - 1 : Nat) : Int) := by omega
        have h2 : (4 : Int) - ((rowsBys rows : Nat) : Int) = ((4 - rowsBys rows : Nat) : Int) := by omega
        show some (HO.lst [V.int ((parts : Int) - 1), V.int ((4 : Int) - ((rowsBys rows : Nat) : Int))]) = _
        rw [h1, h2]
      · have eb5 : ExB d H' H5 := E5.one (e3.trans e4) hL
        have hF5 : H5 Fl = some (.lst ys) := eb5 _ _ (Ne.symm hdF) hFl
        have kn5 : KeepN H' H5 := eb5.kn hd'
        refine q_asg (ev_ixL (ev_var rfl) (sq_of hl5) at1) fun H6 e6 => ?_
        refine ⟨_, rfl, .inl ⟨rfl, _, sq_of (e6 _ _ hF5)⟩, _, rfl, below_ev (ev_var rfl) ev_c (e6 _ _ hd5) hg5 (by decide) (by decide) fun z xs7 H7 hz hg7 eb7 hd7 => ⟨rfl, ?_⟩⟩
        refine ⟨by show 2 ≤ sizeLine; decide, fun q hq => ?_⟩
        have hF7 : H7 Fl = some (.lst ys) := eb7 _ _ (Ne.symm hdF) (e6 _ _ hF5)
        have hqF : Fl ≠ q := ne_of_none hF7 hq
        have kn7 : KeepN H5 (upd H7 q (.tup [v, .bl (decide (V.int (z : Int) = V.int 0))])) := ((KeepN.of e6).trans (eb7.kn (e6 _ _ hd5))).trans (KeepN.of (Ex.new hq))
        have hl8 := hraw.len
        refine ⟨Fl, ys, .ref q, rfl, rfl, by rw [upd_ne hqF]; exact hF7, Evl.sz_lt (by omega), ?_⟩
        have knF : KeepN (upd H7 q (.tup [v, .bl (decide (V.int (z : Int) = V.int 0))])) (upd (upd H7 q (.tup [v, .bl (decide (V.int (z : Int) = V.int 0))])) Fl (.lst (ys ++ [.ref q]))) := (KeepN.refl _).lst (by rw [upd_ne hqF]; exact hF7)
        have hbys : rowsBys (rows ++ [(r, decide (V.int (z : Int) = V.int 0))]) = rowsBys rows + r.bys := by
          unfold rowsBys
          rw [List.map_append, List.sum_append]
          simp
        refine ⟨xs7, ys ++ [.ref q], rows ++ [(r, decide (V.int (z : Int) = V.int 0))], some (.int (i : Int)), some (.ref L), some v, ?_, upd_same, ?_, by rw [List.length_append, hlen]; rfl, ⟨by omega, fun r' hr' => ?_⟩, hg7, ?_, ?_⟩
        · have : ((b5 : Nat) : Int) = 4 - ((rowsBys (rows ++ [(r, decide (V.int (z : Int) = V.int 0))]) : Nat) : Int) := by omega
          rw [← this]
          rfl
        · refine RawL.snoc ((hraw.kn kn5).kn (kn7.trans knF)) ⟨q, v, rfl, ?_, hR.kn (kn7.trans knF)⟩
          exact sqt_kn knF (st_of upd_same)
        · rcases List.mem_append.mp hr' with h | h
          · exact hok.fit r' h
          · rw [List.mem_singleton] at h
            subst h
            exact ⟨hf, by show r.parts ≤ parts; omega⟩
        · rw [upd_ne hdF]
          exact (Ex.new hq) _ _ hd7
        · exact ((((eb.trans eb5).step e6).trans eb7).step (Ex.new hq)).mut hF0
    · rintro σ' H' ⟨xs', ys, rows, a5, a6, a7, rfl, hFl, hraw, hlen, hok, hg', hd', eb⟩
      refine s_ret (ev_var rfl) fun H3 e3 => k Fl ys rows xs' H3 hF0 (e3 _ _ hFl) (hraw.kn (KeepN.of e3)) (by rw [hlen, Int.toNat_natCast]) hok hg' (eb.step e3) (e3 _ _ hd')
theorem dn_rows (T : Txt w K mg C_BadRule C_BadRules C_BadLand C_BadDay C_BadNumber C_Feast C_Calendar) : Dn P w K mg base CX0 "_law_rows" 10 ["_law_d", "_law_many", "_law_parts"] (spRows K) := T.f_l_rows.dn fun _ _ F _ _ => ok_rows F T
def spMade (K : PySem.W.Frag) (CF CC : Addr) : Sp := fun vs H Q _ => ∃ (l : Addr) (ys : List V) (rows : Rows), vs = [.ref l] ∧ SqL K H l ys ∧ RawL K H ys rows ∧ rows.length ≤ 3 ∧ RowsOk 5 rows ∧ ∀ p H2, H p = none → Ex H H2 → CalAt K CF CC H2 (.ref p) rows → Q (.ref p) H2
theorem tup_RV {σ : L2.St} {H : Hp} {ta tb : TE} {R : Addr → Hp → Prop} {y : V} {Q : VK} (ha : EvR ta σ H R) (hb : ∀ H1, Ex H H1 → Ev tb σ H1 y) (k : ∀ p t H1 H2, Ex H H1 → R p H1 → Ex H1 H2 → H2 t = some (.tup [.ref p, y]) → Q (.ref t) H2) : tTup (tCons ta (tCons tb tNil)) σ H Q :=
  ha H (Ex.refl H) _ fun p H1 hp e1 hR => hb H1 e1 H1 (Ex.refl H1) _ fun H2 e2 => ⟨by show 2 ≤ sizeLine; decide, fun t ht => k p t H1 _ e1 hR (e2.trans (Ex.new ht)) upd_same⟩
/-- Calendar(a new tuple of rows) -/
theorem er_calX {CF CC : Addr} {σ : L2.St} {H : Hp} {ta : TE} {rows : Rows} {E : XK} (h : EvR ta σ H fun p H2 => ∃ zs, H2 p = some (.tup zs) ∧ RowsL K CF H2 zs rows) (hl : rows.length ≤ 3) (hb : rowsBys rows ≤ 4) :
    EvR (tMake CC (spCal K CF CC) [] E (tCons ta tNil)) σ H fun p H2 => CalAt K CF CC H2 (.ref p) rows := fun H1 e Q q => h H1 e _ fun p H2 hp e2 ⟨zs, h1, h2⟩ =>
  er_cal (K := K) (CF := CF) (CC := CC) (σ := σ) (H := H2) (v := .ref p) (rows := rows) (ta := fun _ H Q => Q [.ref p] H) (E := E) (fun H3 _ Q q => q H3 (Ex.refl H3)) ⟨p, zs, rfl, st_of h1, h2⟩ hl hb H2 (Ex.refl H2) Q fun p3 H3 hp3 e3 hc => q p3 H3 (fresh_back e2 hp3) (e2.trans e3) hc
theorem ok_made (F : Fun K "_law_made" "_law_made" s_l_made f fd) (T : Txt w K mg C_BadRule C_BadRules C_BadLand C_BadDay C_BadNumber C_Feast C_Calendar) (CF : Cls1 K C_Feast ["told", "bys"]) (IF : ClsI K C_Feast) (CC : Cls1 K C_Calendar ["rows", "near"]) : FnOk P w K mg base CX0 12 f fd ["_law_rows_here"] (spMade K C_Feast C_Calendar) := by
  have M_Feast : Mn P w K mg base (L2.CX P w) C_Feast 9 ["self", "rule"] (spFeast K C_Feast C_BadRule) := mn_feast T CF
  have M_Calendar : Mn P w K mg base CX0 C_Calendar 2 ["self", "rules"] (spCal K C_Feast C_Calendar) := mn_cal T CF IF CC
  refine F.ok sc_l_made (fun vs H Q E h => ?_) (fun cdv A outer s H vs Q E hr h => ?_)
  · obtain ⟨_, _, _, rfl, _⟩ := h
    rfl
  · obtain ⟨l, ys, rows, rfl, hl, hraw, hlen, hok, k⟩ := h
    obtain ⟨qf, hqf⟩ := hraw.fn (.wk 0, false)
    have hyl := hraw.len
    refine ⟨_, (pss_one (ps_ret (pe_mk M_Calendar (hr.mono (by omega)) T.c_Calendar pass0 rfl (pa_cons (pe_callTy call_tuple_of (by rfl) T.tuple (by decide +kernel) (pa_cons (pe_lc (own := [("_law_rule_here", 1), ("_law_yields", 2)]) (tt := tYes) rfl sc_l_made.nd (pi_list (pv 0)) (blkOk_by (own := [("_law_rule_here", 1), ("_law_yields", 2)]) (N := ["_law_rows_here", "_law_rule_here", "_law_yields"]) (sc := defScope s_l_made) (by decide +kernel)) (fun _ _ _ _ _ => (pg_tupK (K := K) (n := 2) rfl (pgs_cons (pg_name (i := 1) sc_l_made.nd rfl (by first | exact Or.inl rfl | exact Or.inr rfl)) (pgs_cons (pg_name (i := 2) sc_l_made.nd rfl (by first | exact Or.inl rfl | exact Or.inr rfl)) pgs_nil)))) (fun _ _ _ _ _ => pts_nil) (fun _ _ _ _ _ => (pe_tup (pa_cons (pe_mk M_Feast (hr.mono (by omega)) T.c_Feast passL rfl (pa_cons (pv 1) pa_nil)) (pa_cons (pv 2) pa_nil))))) pa_nil)) pa_nil)))), ?_⟩
    refine s_retR (R := fun p H2 => CalAt K C_Feast C_Calendar H2 (.ref p) rows) ?_ k
    have e1 : EvR (tCB (fun xs H Q => ∃ p ys, xs = [.ref p] ∧ ((SqL K H p ys ∧ ∀ l, H l = none → Q (.ref l) (upd H l (.tup ys))) ∨ (SqT K H p ys ∧ Q (.ref p) H))) (tCons (tLc (iList K (tVar 0)) (gTup K 2 (gCons (gName 1) (gCons (gName 2) gNil))) tYes (tTup (tCons (tMake C_Feast (spFeast K C_Feast C_BadRule) [] E0 (tCons (tVar 1) tNil)) (tCons (tVar 2) tNil))) [1, 2]) tNil)) (start ["_law_rows_here", "_law_rule_here", "_law_yields"] [.ref l]) H
        (fun p H2 => ∃ zs, H2 p = some (.tup zs) ∧ RowsL K C_Feast H2 zs rows) := by
      refine er_tuple (fun zs H1 H2 e h => RowsL.kn e h) ?_
      have := er_lst2X (K := K) (σ := start ["_law_rows_here", "_law_rule_here", "_law_yields"] [.ref l]) (H := H) (tl := tVar 0) (te := tTup (tCons (tMake C_Feast (spFeast K C_Feast C_BadRule) [] E0 (tCons (tVar 1) tNil)) (tCons (tVar 2) tNil))) (j := 1) (k := 2) (vs := [1, 2]) qf (fun i => .bl (rows.getD i (.wk 0, false)).2) (fun i y H2 => RowAt K C_Feast H2 y (rows.getD i (.wk 0, false))) (fun i y H1 H2 e h => RowAt.kn e h) (ev_var rfl) hl (by omega) (fun _ _ => rfl) (fun i x hi => ?_) (fun i H1 e1 hi Q q => ?_)
      · intro H1 e1 Q q
        exact this H1 e1 Q fun p H2 hp e2 ⟨zs, h1, h2, h3⟩ => q p H2 hp e2 ⟨zs, h1, rowsL_of (.wk 0, false) (by rw [h2, hyl]) h3⟩
      · obtain ⟨p', h0, h1, _⟩ := hqf i x hi
        exact ⟨p', h0, h1⟩
      · obtain ⟨p', h0, h1, hrl⟩ := hqf i ys[i] (by simp [hi])
        have hmem := getD_mem (d := ((.wk 0, false) : Rl × Bool)) (show i < rows.length by omega)
        have hfit := hok.fit _ hmem
        have hby := bys_le hmem
        have hb4 := hok.bys
        exact tup_RV (er_feast (ea_cons (ev_var rfl) ea_nil) (hrl.mono e1) hfit.1 hfit.2 (by omega)) (fun H2 _ => ev_var rfl) fun p t H2 H3 e2 hfe e3 ht => q _ _ (e2.trans e3) ⟨t, p, rfl, st_of ht, hfe.mono e3⟩
    exact er_calX e1 hlen hok.bys
theorem dn_made (T : Txt w K mg C_BadRule C_BadRules C_BadLand C_BadDay C_BadNumber C_Feast C_Calendar) (CF : Cls1 K C_Feast ["told", "bys"]) (IF : ClsI K C_Feast) (CC : Cls1 K C_Calendar ["rows", "near"]) : Dn P w K mg base CX0 "_law_made" 12 ["_law_rows_here"] (spMade K C_Feast C_Calendar) := T.f_l_made.dn fun _ _ F _ _ => ok_made F T CF IF CC
end
end WF

set_option Elab.async false
set_option linter.all false
set_option maxRecDepth 100000
set_option maxHeartbeats 2000000
/-! the law's lands -/
namespace WF
open PySem L2 Evl
section
variable {P : Program} {w : World} {K : PySem.W.Frag} {mg : Str → Option Value} {base : Heap} {C_BadRule C_BadRules C_BadLand C_BadDay C_BadNumber C_Feast C_Calendar : Addr} {f : Addr} {fd : FuncData}
theorem ev_min2 {σ : L2.St} {H : Hp} {ta : TE} {a b : Int} (h : EvL ta σ H [.int a, .int b]) : Ev (tCB (rMin K) (tCons ta tNil)) σ H (.int (min a b)) := fun H1 e Q q =>
  h H1 e _ fun p H2 _ e2 h2 => ⟨p, [a, b], rfl, sq_of h2, by show 0 < 2; decide, fun m hm hle => by
    have h1 := hle a (by simp)
    have h2 := hle b (by simp)
    have : m = min a b := by
      simp at hm
      rcases hm with rfl | rfl <;> omega
    rw [this]
    exact q H2 e2⟩
def spLands (K : PySem.W.Frag) : Sp := fun vs H Q _ => ∃ (W M : Nat), vs = [.int W, .int M] ∧ 1 ≤ W ∧ W ≤ 100 ∧ M ≤ 100 ∧ ∀ p xs H2, H p = none → Ex H H2 → H2 p = some (.lst xs) → LandL K H2 xs (landsL W M (W + M - 4)) → Q (.ref p) H2
end
end WF

set_option Elab.async false
set_option linter.all false
set_option maxRecDepth 100000
set_option maxHeartbeats 4000000
/-! the law's days of a rule -/
namespace WF
open PySem L2 Evl
section
variable {P : Program} {w : World} {K : PySem.W.Frag} {mg : Str → Option Value} {base : Heap} {C_BadRule C_BadRules C_BadLand C_BadDay C_BadNumber C_Feast C_Calendar : Addr} {f : Addr} {fd : FuncData}
/-- the days that come by a step -/
theorem step_ok {s N n : Nat} {k : Int} {p : Int → Bool} (hs : 0 < s) (hN : N = s * n) (hp : ∀ d : Nat, d < N → (p (d : Int) = true ↔ (d : Int) % (s : Int) = k % (s : Int))) : DaysOk N p (((List.range n).map fun i => (k % (s : Int)).toNat + s * i).foldl addD []) := by
  have h0 := Int.emod_nonneg k (show (s : Int) ≠ 0 by omega)
  have h1 := Int.emod_lt_of_pos k (show 0 < (s : Int) by omega)
  refine ⟨fold_nodup _ _ List.nodup_nil, fun d => ?_⟩
  rw [fold_mem]
  constructor
  · rintro (h | h)
    · cases h
    · rw [List.mem_map] at h
      obtain ⟨i, hi, rfl⟩ := h
      rw [List.mem_range] at hi
      have hlt : (k % (s : Int)).toNat + s * i < N := by
        have : s * (i + 1) ≤ s * n := Nat.mul_le_mul_left s hi
        rw [Nat.mul_add, Nat.mul_one] at this
        omega
      refine ⟨hlt, (hp _ hlt).mpr ?_⟩
      rw [Int.natCast_add, Int.natCast_mul, Int.toNat_of_nonneg h0, Int.add_mul_emod_self_left, Int.emod_emod]
  · rintro ⟨hd, hpd⟩
    have e := (hp d hd).mp hpd
    refine .inr (List.mem_map.mpr ⟨d / s, List.mem_range.mpr ?_, ?_⟩)
    · rw [hN] at hd
      exact Nat.div_lt_of_lt_mul hd
    · rw [← e]
      have : ((d : Int) % (s : Int)).toNat = d % s := by rw [← Int.natCast_emod, Int.toNat_natCast]
      rw [this]
      exact Nat.mod_add_div d s
def spLDays (K : PySem.W.Frag) (n : Nat) : Sp := fun vs H Q _ => ∃ (v : V) (l : Addr) (r : Rl) (w m : Nat), vs = [v, .ref l] ∧ RlAt K H v r ∧ r.dep < n ∧ SqT K H l [.int w, .int m] ∧ LandOk w m ∧
  ∀ p ds H2, H p = none → Ex H H2 → H2 p = some (.dK (dk ds)) → DaysOk (w * m) (r.day w m) ds → Q (.ref p) H2
theorem er_ldays {σ : L2.St} {H : Hp} {ta : TA} {n : Nat} {v : V} {l : Addr} {r : Rl} {w m : Nat} {E : XK} (h : EvA ta σ H [v, .ref l]) (h1 : RlAt K H v r) (h2 : r.dep < n) (h3 : SqT K H l [.int w, .int m]) (h4 : LandOk w m) :
    EvR (tCall (spLDays K n) [] E ta) σ H fun p H2 => ∃ ds, H2 p = some (.dK (dk ds)) ∧ DaysOk (w * m) (r.day w m) ds := fun H1 e Q q => h H1 e _ fun H2 e2 =>
  ⟨v, l, r, w, m, rfl, h1.mono (e.trans e2), h2, ex_t (e.trans e2) h3, h4, fun p ds H3 hp e3 h3 hd => q p H3 (fresh_back e2 hp) (e2.trans e3) ⟨ds, h3, hd⟩⟩
theorem cast_map (v : Nat → Nat) (l : List Nat) : (l.map v).map (fun (d : Nat) => (d : Int)) = l.map fun i => ((v i : Nat) : Int) := by
  rw [List.map_map]
  rfl
theorem range_getD {α : Type} (ds : List Nat) (g : Nat → α) : (List.range ds.length).map (fun i => g (ds.getD i 0)) = ds.map g := by
  induction ds with
  | nil => rfl
  | cons a ds ih =>
    rw [List.length_cons, List.range_succ_eq_map, List.map_cons, List.map_map, List.map_cons]
    exact congrArg (List.cons (g a)) ih
theorem filter_getD (ds : List Nat) (f : Nat → Bool) : ((List.range ds.length).filter fun i => f (ds.getD i 0)).map (fun i => ds.getD i 0) = ds.filter f := by
  induction ds with
  | nil => rfl
  | cons a ds ih =>
    rw [List.length_cons, List.range_succ_eq_map]
    have : ((List.map Nat.succ (List.range ds.length)).filter fun i => f ((a :: ds).getD i 0)) = ((List.range ds.length).filter fun i => f (ds.getD i 0)).map Nat.succ := by
      rw [List.filter_map]
      rfl
    by_cases h : f a = true
    · rw [List.filter_cons, if_pos (show f ((a :: ds).getD 0 0) = true from h), List.map_cons, this, List.map_map, List.filter_cons, if_pos h]
      exact congrArg (List.cons a) ih
    · rw [List.filter_cons, if_neg (show ¬ f ((a :: ds).getD 0 0) = true from h), this, List.map_map, List.filter_cons, if_neg h]
      exact ih
theorem ldays_turn (F : Fun K "_law_days" "_law_days" s_l_days f fd) (T : Txt w K mg C_BadRule C_BadRules C_BadLand C_BadDay C_BadNumber C_Feast C_Calendar) (hm : mg "_law_days" = some (.ref f)) (hb : Binds K fd ["_law_rule_here", "_law_land"] []) (n : Nat) (ih : FnOk P w K mg base CX0 (n + 1) f fd ["_law_rule_here", "_law_land"] (spLDays K n)) : FnOk P w K mg base CX0 (n + 2) f fd ["_law_rule_here", "_law_land"] (spLDays K (n + 1)) := by
  have D_l_days : Dn P w K mg base CX0 "_law_days" (n + 1) ["_law_rule_here", "_law_land"] (spLDays K n) := ⟨f, fd, hm, F.kp, ih, hb⟩
  refine F.ok sc_l_days (fun vs H Q E h => ?_) (fun cdv A outer s H vs Q E hr h => ?_)
  · obtain ⟨_, _, _, _, _, rfl, _⟩ := h
    rfl
  · obtain ⟨v, l, r, w, m, rfl, hR, hd, hL, hO, k⟩ := h
    obtain ⟨w2, wm, m6, n5⟩ := id hO
    have hq : ((w * m : Nat) : Int) = (w : Int) * (m : Int) := Int.natCast_mul w m
    have hr1 : Room 1 _ := hr.mono (by omega)
    have hu := hu_of hr1
    refine ⟨_, (pss_cons (ps_asg (pv 1) (pg_tup rfl (pgs_cons (pg_name (i := 2) sc_l_days.nd rfl (by first | exact Or.inl rfl | exact Or.inr rfl)) (pgs_cons (pg_name (i := 3) sc_l_days.nd rfl (by first | exact Or.inl rfl | exact Or.inr rfl)) pgs_nil))))
  (pss_cons (ps_set (i := 4) sc_l_days.nd rfl (by first | exact Or.inl rfl | exact Or.inr rfl) (pe_op op_mul (pv 2) (pv 3)))
  (pss_cons (ps_if (pt_cmpR op_eq (pe_ix ix_tup (pv 0) pe_int (fun _ _ => rfl)) pe_str (nomark _)) (pss_one (ps_ret (pe_callTy (call_dictP rfl) (by rfl) T.dict (by decide +kernel) (pa_cons (pe_lc (own := [("_law_k", 9)]) (g := gName 9) (tt := tYes) rfl sc_l_days.nd (pi_range1 (by rfl) T.range (pa_cons (pv 3) pa_nil)) (blkOk_by (own := [("_law_k", 9)]) (N := ["_law_rule_here", "_law_land", "_law_w", "_law_m", "_law_whole", "_law_found", "_law_day", "_law_one_here", "_law_other", "_law_k"]) (sc := defScope s_l_days) (by decide +kernel)) (fun _ _ _ _ _ => (pg_name (i := 9) sc_l_days.nd rfl (by first | exact Or.inl rfl | exact Or.inr rfl))) (fun _ _ _ _ _ => pts_nil) (fun _ _ _ _ _ => (pe_tup (pa_cons (pe_op op_add (pe_op op_mod (pe_ix (ix_tupK (K := K)) (pv 0) pe_int (fun _ _ => rfl)) (pv 2)) (pe_op op_mul (pv 2) (pv 9))) (pa_cons pe_bl pa_nil))))) pa_nil))))
  pss_nil)
  (pss_cons (ps_if (pt_cmpR op_eq (pe_ix ix_tup (pv 0) pe_int (fun _ _ => rfl)) pe_str (nomark _)) (pss_one (ps_ret (pe_callTy (call_dictP rfl) (by rfl) T.dict (by decide +kernel) (pa_cons (pe_lc (own := [("_law_k", 9)]) (g := gName 9) (tt := tYes) rfl sc_l_days.nd (pi_range1 (by rfl) T.range (pa_cons (pv 2) pa_nil)) (blkOk_by (own := [("_law_k", 9)]) (N := ["_law_rule_here", "_law_land", "_law_w", "_law_m", "_law_whole", "_law_found", "_law_day", "_law_one_here", "_law_other", "_law_k"]) (sc := defScope s_l_days) (by decide +kernel)) (fun _ _ _ _ _ => (pg_name (i := 9) sc_l_days.nd rfl (by first | exact Or.inl rfl | exact Or.inr rfl))) (fun _ _ _ _ _ => pts_nil) (fun _ _ _ _ _ => (pe_tup (pa_cons (pe_op op_add (pe_op op_mod (pe_ix (ix_tupK (K := K)) (pv 0) pe_int (fun _ _ => rfl)) (pv 3)) (pe_op op_mul (pv 3) (pv 9))) (pa_cons pe_bl pa_nil))))) pa_nil))))
  pss_nil)
  (pss_cons (ps_if (pt_cmpR op_eq (pe_ix ix_tup (pv 0) pe_int (fun _ _ => rfl)) pe_str (nomark _)) (pss_cons (ps_set (i := 5) sc_l_days.nd rfl (by first | exact Or.inl rfl | exact Or.inr rfl) pe_dnewK)
  (pss_cons (ps_for PassesOwn.never rfl (pi_range3 (by rfl) T.range (pa_cons (pe_op op_mod (pe_ix ix_tup (pv 0) pe_int (fun _ _ => rfl)) (pv 2)) (pa_cons (pv 4) (pa_cons (pv 2) pa_nil)))) (pg_name (i := 6) sc_l_days.nd rfl (by first | exact Or.inl rfl | exact Or.inr rfl))
  (pss_one (ps_if (pt_cmpR op_lt (pe_op op_mod (pv 6) (pv 3)) (pv 2) (nomark _)) (pss_one (ps_dput hu (pv 5) (pv 6) pe_bl rfl))
  pss_nil)))
  (pss_one (ps_ret (pv 5)))))
  pss_nil)
  (pss_cons (ps_set (i := 7) sc_l_days.nd rfl (by first | exact Or.inl rfl | exact Or.inr rfl) (pe_fn D_l_days (hr.mono (by omega)) pass0 rfl (pa_cons (pe_ix ix_tup (pv 0) pe_int (fun _ _ => rfl)) (pa_cons (pv 1) pa_nil))))
  (pss_cons (ps_if (pt_cmpR op_eq (pe_ix ix_tup (pv 0) pe_int (fun _ _ => rfl)) pe_str (nomark _)) (pss_one (ps_ret (pe_callTy (call_dictP rfl) (by rfl) T.dict (by decide +kernel) (pa_cons (pe_lock (pe_lc (own := [("_law_day", 6)]) (g := gName 6) (tt := tYes) rfl sc_l_days.nd (pi_keys (pv 7)) (blkOk_by (own := [("_law_day", 6)]) (N := ["_law_rule_here", "_law_land", "_law_w", "_law_m", "_law_whole", "_law_found", "_law_day", "_law_one_here", "_law_other", "_law_k"]) (sc := defScope s_l_days) (by decide +kernel)) (fun _ _ _ _ _ => (pg_name (i := 6) sc_l_days.nd rfl (by first | exact Or.inl rfl | exact Or.inr rfl))) (fun _ _ _ _ _ => pts_nil) (fun _ _ _ _ _ => (pe_tup (pa_cons (pe_op op_mod (pe_op op_add (pv 6) (pe_ix (ix_tupK (K := K)) (pv 0) pe_int (fun _ _ => rfl))) (pv 4)) (pa_cons pe_bl pa_nil)))))) pa_nil))))
  pss_nil)
  (pss_cons (ps_set (i := 8) sc_l_days.nd rfl (by first | exact Or.inl rfl | exact Or.inr rfl) (pe_fn D_l_days (hr.mono (by omega)) pass0 rfl (pa_cons (pe_ix ix_tup (pv 0) pe_int (fun _ _ => rfl)) (pa_cons (pv 1) pa_nil))))
  (pss_cons (ps_if (pt_cmpR op_eq (pe_ix ix_tup (pv 0) pe_int (fun _ _ => rfl)) pe_str (nomark _)) (pss_one (ps_ret (pe_callTy (call_dictP rfl) (by rfl) T.dict (by decide +kernel) (pa_cons (pe_lock (pe_lc (own := [("_law_day", 6)]) (g := gName 6) rfl sc_l_days.nd (pi_keys (pv 7)) (blkOk_by (own := [("_law_day", 6)]) (N := ["_law_rule_here", "_law_land", "_law_w", "_law_m", "_law_whole", "_law_found", "_law_day", "_law_one_here", "_law_other", "_law_k"]) (sc := defScope s_l_days) (by decide +kernel)) (fun _ _ _ _ _ => (pg_name (i := 6) sc_l_days.nd rfl (by first | exact Or.inl rfl | exact Or.inr rfl))) (fun _ _ _ _ _ => (pts_one (pt_cmp (pc_din hu (pv 6) (pv 8))))) (fun _ _ _ _ _ => (pe_tup (pa_cons (pv 6) (pa_cons pe_bl pa_nil)))))) pa_nil))))
  pss_nil)
  (pss_cons (ps_if (pt_cmpR op_eq (pe_ix ix_tup (pv 0) pe_int (fun _ _ => rfl)) pe_str (nomark _)) (pss_one (ps_ret (pe_callTy (call_dictP rfl) (by rfl) T.dict (by decide +kernel) (pa_cons (pe_lock (pe_lc (own := [("_law_day", 6)]) (g := gName 6) rfl sc_l_days.nd (pi_keys (pv 7)) (blkOk_by (own := [("_law_day", 6)]) (N := ["_law_rule_here", "_law_land", "_law_w", "_law_m", "_law_whole", "_law_found", "_law_day", "_law_one_here", "_law_other", "_law_k"]) (sc := defScope s_l_days) (by decide +kernel)) (fun _ _ _ _ _ => (pg_name (i := 6) sc_l_days.nd rfl (by first | exact Or.inl rfl | exact Or.inr rfl))) (fun _ _ _ _ _ => (pts_one (pt_cmp (pc_dnotin hu (pv 6) (pv 8))))) (fun _ _ _ _ _ => (pe_tup (pa_cons (pv 6) (pa_cons pe_bl pa_nil)))))) pa_nil))))
  pss_nil)
  (pss_one (ps_ret (pe_callTy (call_dictP rfl) (by rfl) T.dict (by decide +kernel) (pa_cons (pe_lc (own := [("_law_day", 6)]) (g := gName 6) (tt := tYes) rfl sc_l_days.nd (pi_list (pe_op op_cat (pe_callTy (call_list_dK rfl) (by rfl) T.list (by decide +kernel) (pa_cons (pv 7) pa_nil)) (pe_callTy (call_list_dK rfl) (by rfl) T.list (by decide +kernel) (pa_cons (pv 8) pa_nil)))) (blkOk_by (own := [("_law_day", 6)]) (N := ["_law_rule_here", "_law_land", "_law_w", "_law_m", "_law_whole", "_law_found", "_law_day", "_law_one_here", "_law_other", "_law_k"]) (sc := defScope s_l_days) (by decide +kernel)) (fun _ _ _ _ _ => (pg_name (i := 6) sc_l_days.nd rfl (by first | exact Or.inl rfl | exact Or.inr rfl))) (fun _ _ _ _ _ => pts_nil) (fun _ _ _ _ _ => (pe_tup (pa_cons (pv 6) (pa_cons pe_bl pa_nil))))) pa_nil)))))))))))))), ?_⟩
    refine q_asgT (ev_var rfl) hL fun H1 e1 => ?_
    refine q_asg (v := .int ((w * m : Nat) : Int)) (ev_is (ev_op (ev_var rfl) (ev_var rfl) (rv_I (.inl ⟨by omega, by omega⟩))) (by rw [hq])) fun H2 e2 => ?_
    have hR2 := hR.mono (e1.trans e2)
    have hw0 : ∀ k : Int, k % (w : Int) = (((k % (w : Int)).toNat : Nat) : Int) := fun k => by
      have := Int.emod_nonneg k (show (w : Int) ≠ 0 by omega)
      omega
    have hm0 : ∀ k : Int, k % (m : Int) = (((k % (m : Int)).toNat : Nat) : Int) := fun k => by
      have := Int.emod_nonneg k (show (m : Int) ≠ 0 by omega)
      omega
    cases hR2 with
    | wk hT =>
      rename_i p k0
      refine q_yes (et_str (ev_ixT (ev_var rfl) hT rfl) (by decide +kernel)) fun H3 e3 => ?_
      have hT3 := ex_t e3 hT
      refine s_retR (er_dict (es := (List.range m).map fun i => (k0 % (w : Int)).toNat + w * i) ?_) fun p2 H4 hp2 e4 h4 => k p2 _ H4 (fresh_back ((e1.trans e2).trans e3) hp2) (((e1.trans e2).trans e3).trans e4) h4 (step_ok (by omega) rfl fun d _ => beq_iff_eq)
      rw [cast_map]
      refine er_pairsR (n := (m : Int)) (fun i => (((k0 % (w : Int)).toNat + w * i : Nat) : Int)) (ea_cons (ev_var rfl) ea_nil) ⟨by omega, by omega⟩ (fun _ => rfl) fun i H4 e4 hi => ?_
      refine ev_is (ev_op (ev_op (ev_ixT (ev_var rfl) (ex_t e4 hT3) rfl) (ev_var rfl) (rv_I (by omega))) (ev_op (ev_var rfl) (ev_var rfl) (rv_I (.inl ⟨by omega, by omega⟩))) rv_I0) ?_
      rw [Int.zero_add, Int.natCast_add, Int.natCast_mul, ← hw0]
    | fs hT =>
      rename_i p k0
      refine q_not (et_str (ev_ixT (ev_var rfl) hT rfl) (by decide +kernel)) fun H3 e3 => ?_
      refine q_not (et_str (ev_ixT (ev_var rfl) (ex_t e3 hT) rfl) (by decide +kernel)) fun H3 e3' => ?_
      refine q_yes (et_str (ev_ixT (ev_var rfl) (ex_t (e3.trans e3') hT) rfl) (by decide +kernel)) fun H4 e4 => ?_
      have E4 := ((e1.trans e2).trans (e3.trans e3')).trans e4
      have hT4 := ex_t ((e3.trans e3').trans e4) hT
      have k0w := Int.emod_lt_of_pos k0 (show 0 < (w : Int) by omega)
      have k00 := Int.emod_nonneg k0 (show (w : Int) ≠ 0 by omega)
      refine q_asgD fun Fd hF => ?_
      have hF0 := fresh_back E4 hF
      have e5 : Ex H4 (upd H4 Fd (.dK (dk []))) := Ex.new hF
      refine q_forR3 (lo := k0 % (w : Int)) (hi := ((w * m : Nat) : Int)) (c := (w : Int)) (n := m) (ea_cons (ev_op (ev_ixT (ev_var rfl) (ex_t e5 hT4) rfl) (ev_var rfl) (rv_I (by omega))) (ea_cons (ev_var rfl) (ea_cons (ev_var rfl) ea_nil))) ?_
        (fun t σ' H' => ∃ ds a6, σ' = [some (.ref p), some (.ref l), some (.int (w : Int)), some (.int (m : Int)), some (.int ((w * m : Nat) : Int)), some (.ref Fd), a6, none, none, none] ∧ H' Fd = some (.dK (dk ds)) ∧ ds.Nodup ∧ ds.length ≤ t ∧ (∀ d : Nat, d ∈ ds ↔ ((d : Int) < k0 % (w : Int) + (w : Int) * (t : Int) ∧ (d : Int) % (w : Int) = k0 % (w : Int) ∧ (d : Int) % (m : Int) < (w : Int))) ∧ Ex H H')
        (fun H6 e6 => ⟨[], none, rfl, e6 _ _ upd_same, List.nodup_nil, Nat.le_refl _, fun d => Iff.intro (fun h => nomatch h) (fun ⟨h1, h2, _⟩ => ?_), (E4.trans e5).trans e6⟩) ?_ ?_
      · have := rgC_by (i := (k0 % (w : Int)).toNat) (n := m) (c := w) (by omega) (by omega) (by omega) (by omega)
        rw [Int.toNat_of_nonneg k00] at this
        exact this
      · exfalso
        have hlt : (d : Int) < (w : Int) := by omega
        rw [Int.emod_eq_of_lt (by omega) hlt] at h2
        omega
      · rintro t σ' H' ht ⟨ds, a6, rfl, hFd, hnd, hlen, hmem, e⟩
        have hv : k0 % (w : Int) + (t : Int) * (w : Int) = (((k0 % (w : Int)).toNat + w * t : Nat) : Int) := by
          rw [Int.natCast_add, Int.natCast_mul, Int.toNat_of_nonneg k00, Int.mul_comm]
        have hmw : ((((k0 % (w : Int)).toNat + w * t : Nat) : Int)) % (w : Int) = k0 % (w : Int) := by
          rw [Int.natCast_add, Int.natCast_mul, Int.toNat_of_nonneg k00, Int.add_mul_emod_self_left, Int.emod_emod]
        -- a day below the next step is one below this, or this
        have hstep : ∀ d : Nat, (d : Int) % (w : Int) = k0 % (w : Int) → ((d : Int) < k0 % (w : Int) + (w : Int) * ((t + 1 : Nat) : Int) ↔ ((d : Int) < k0 % (w : Int) + (w : Int) * (t : Int) ∨ d = (k0 % (w : Int)).toNat + w * t)) := fun d hd => by
          have hq1 : (w : Int) * ((t + 1 : Nat) : Int) = (w : Int) * (t : Int) + (w : Int) := by rw [Int.natCast_add, Int.mul_add]; simp
          have hq2 : ((w * t : Nat) : Int) = (w : Int) * (t : Int) := Int.natCast_mul w t
          rw [hq1]
          constructor
          · intro h
            rcases Int.lt_or_le (d : Int) (k0 % (w : Int) + (w : Int) * (t : Int)) with h1 | h1
            · exact .inl h1
            · right
              have hx : ((d : Int) - (k0 % (w : Int) + (w : Int) * (t : Int))) % (w : Int) = 0 := by
                rw [Int.sub_emod, hd, Int.add_mul_emod_self_left, Int.emod_emod, Int.sub_self, Int.zero_emod]
              rw [Int.emod_eq_of_lt (by omega) (by omega)] at hx
              omega
          · rintro (h | h) <;> omega
        refine s_when (et_cmp (ev_op (ev_var rfl) (ev_var rfl) (rv_I (by omega))) (ev_var rfl) rv_I0) (fun hb H6 e6 => ?_) (fun hb H6 e6 => ?_)
        · have hb' := of_decide_eq_true hb
          rw [hv] at hb'
          refine s_dput (d := (k0 % (w : Int)).toNat + w * t) (e6 _ _ hFd) ev_c (ev_var rfl) (ev_is (ev_var rfl) (by rw [hv])) (by omega) fun H7 e7 => ⟨_, _, rfl, upd_same, addD_nodup hnd, ?_, fun d => ?_, Ex.mut ((e.trans e6).trans e7) hF0⟩
          · unfold addD
            split
            · omega
            · rw [List.length_append]; exact Nat.succ_le_succ hlen
          · rw [addD_mem, hmem]
            constructor
            · rintro (⟨h1, h2, h3⟩ | rfl)
              · exact ⟨(hstep d h2).mpr (.inl h1), h2, h3⟩
              · exact ⟨(hstep _ hmw).mpr (.inr rfl), hmw, hb'⟩
            · rintro ⟨h1, h2, h3⟩
              rcases (hstep d h2).mp h1 with h | h
              · exact .inl ⟨h, h2, h3⟩
              · exact .inr h
        · have hb' := of_decide_eq_false hb
          rw [hv] at hb'
          refine ⟨ds, _, rfl, e6 _ _ hFd, hnd, by omega, fun d => ?_, e.trans e6⟩
          rw [hmem]
          constructor
          · rintro ⟨h1, h2, h3⟩
            exact ⟨(hstep d h2).mpr (.inl h1), h2, h3⟩
          · rintro ⟨h1, h2, h3⟩
            rcases (hstep d h2).mp h1 with h | h
            · exact ⟨h, h2, h3⟩
            · subst h
              exact absurd h3 hb'
      · rintro σ' H' ⟨ds, a6, rfl, hFd, hnd, hlen, hmem, e⟩
        refine s_ret (ev_var rfl) fun H6 e6 => k Fd ds H6 hF0 (e.trans e6) (e6 _ _ hFd) ⟨hnd, fun d => ?_⟩
        rw [hmem]
        show _ ↔ d < w * m ∧ ((d : Int) % (w : Int) == k0 % (w : Int) && decide ((d : Int) % (m : Int) < (w : Int))) = true
        rw [Bool.and_eq_true, beq_iff_eq, decide_eq_true_iff]
        constructor
        · rintro ⟨h1, h2, h3⟩
          refine ⟨?_, h2, h3⟩
          have hd := Int.emod_add_mul_ediv (d : Int) (w : Int)
          rw [h2] at hd
          have hlt : (w : Int) * ((d : Int) / (w : Int)) < (w : Int) * (m : Int) := by omega
          have hlt2 := Int.lt_of_mul_lt_mul_left hlt (by omega)
          have : (w : Int) * ((d : Int) / (w : Int) + 1) ≤ (w : Int) * (m : Int) := Int.mul_le_mul_of_nonneg_left (by omega) (by omega)
          rw [Int.mul_add, Int.mul_one] at this
          omega
        · rintro ⟨h1, h2, h3⟩
          exact ⟨by omega, h2, h3⟩
    | md hT =>
      rename_i p k0
      refine q_not (et_str (ev_ixT (ev_var rfl) hT rfl) (by decide +kernel)) fun H3 e3 => ?_
      refine q_yes (et_str (ev_ixT (ev_var rfl) (ex_t e3 hT) rfl) (by decide +kernel)) fun H3 e3' => ?_
      have hT3 := ex_t (e3.trans e3') hT
      refine s_retR (er_dict (es := (List.range w).map fun i => (k0 % (m : Int)).toNat + m * i) ?_) fun p2 H4 hp2 e4 h4 => k p2 _ H4 (fresh_back (((e1.trans e2).trans e3).trans e3') hp2) ((((e1.trans e2).trans e3).trans e3').trans e4) h4 (step_ok (by omega) (Nat.mul_comm w m) fun d _ => beq_iff_eq)
      rw [cast_map]
      refine er_pairsR (n := (w : Int)) (fun i => (((k0 % (m : Int)).toNat + m * i : Nat) : Int)) (ea_cons (ev_var rfl) ea_nil) ⟨by omega, by omega⟩ (fun _ => rfl) fun i H4 e4 hi => ?_
      refine ev_is (ev_op (ev_op (ev_ixT (ev_var rfl) (ex_t e4 hT3) rfl) (ev_var rfl) (rv_I (by omega))) (ev_op (ev_var rfl) (ev_var rfl) (rv_I (.inl ⟨by omega, by omega⟩))) rv_I0) ?_
      rw [Int.zero_add, Int.natCast_add, Int.natCast_mul, ← hm0]
    | bh hT hr2 =>
      rename_i p u r b
      have hd2 : r.dep < n := by simp only [Rl.dep] at hd; omega
      refine q_not (et_str (ev_ixT (ev_var rfl) hT rfl) (by decide +kernel)) fun H3 e3 => ?_
      refine q_not (et_str (ev_ixT (ev_var rfl) (ex_t e3 hT) rfl) (by decide +kernel)) fun H4 e4 => ?_
      refine q_not (et_str (ev_ixT (ev_var rfl) (ex_t (e3.trans e4) hT) rfl) (by decide +kernel)) fun H5 e5 => ?_
      have F5 := (e3.trans e4).trans e5
      have E5 := (e1.trans e2).trans F5
      refine q_asgR (er_ldays (ea_cons (ev_ixT (ev_var rfl) (ex_t F5 hT) rfl) (ea_cons (ev_var rfl) ea_nil)) (hr2.mono F5) hd2 (ex_t E5 hL) hO) fun D1 H6 hD1 e6 ⟨ds, hds, hok⟩ => ?_
      refine q_yes (et_str (ev_ixT (ev_var rfl) (ex_t (F5.trans e6) hT) rfl) (by decide +kernel)) fun H7 e7 => ?_
      have hds7 := e7 _ _ hds
      have E7 := (E5.trans e6).trans e7
      have hT7 := ex_t ((F5.trans e6).trans e7) hT
      have hN0 : 0 < ((w * m : Nat) : Int) := by have := hO.pos; omega
      have hlen := hok.le
      refine s_retR (er_dict (es := ds.map fun (d : Nat) => (((d : Int) + b) % ((w * m : Nat) : Int)).toNat) (er_lock (R := fun p H2 => ∃ ys, H2 p = some (.lst ys) ∧ PairsL K H2 ys ((ds.map fun (d : Nat) => (((d : Int) + b) % ((w * m : Nat) : Int)).toNat).map fun (d : Nat) => (d : Int))) hds7 trivial (fun od => ?_) fun od p2 H8 hpd hfz h => by
        obtain ⟨ys, h1, h2⟩ := h
        exact ⟨ys, by rw [upd_ne hpd]; exact h1, pairs_unlock (u := .dK (dk ds)) (fun _ q => nomatch q) hfz h2⟩)) fun p2 H8 hp2 e8 h8 => k p2 _ H8 (fresh_back E7 hp2) (E7.trans e8) h8 ⟨fold_nodup _ _ List.nodup_nil, fun d => ?_⟩
      · have hpr := er_pairsK (K := K) (σ := [some (.ref p), some (.ref l), some (.int (w : Int)), some (.int (m : Int)), some (.int ((w * m : Nat) : Int)), none, none, some (.ref D1), none, none]) (H := upd H7 D1 (.frz od (.dK (dk ds)))) (tl := tVar 7) (t := tYes) (te := tOp (rI (fun _ j => 0 < j) fun i j => .int (i % j)) (tOp (rI0 fun i j => .int (i + j)) (tVar 6) (tOp (rIxT K) (tVar 0) (tC (.int 2)))) (tVar 4)) (j := 6) (vs := [6]) (fun _ => true) (fun i => ((((ds.getD i 0 : Nat) : Int) + b) % ((w * m : Nat) : Int))) (ev_var rfl) upd_same (by omega) (fun _ => rfl) (fun _ _ _ _ => et_yes) (fun i H8 e8 hi _ => ?_)
        · rw [List.filter_eq_self.mpr (fun _ _ => rfl)] at hpr
          have hl : (List.range ds.length).map (fun i => ((((ds.getD i 0 : Nat) : Int) + b) % ((w * m : Nat) : Int))) = (ds.map fun (d : Nat) => (((d : Int) + b) % ((w * m : Nat) : Int)).toNat).map fun (d : Nat) => (d : Int) := by
            rw [← range_getD ds (fun (d : Nat) => (((d : Int) + b) % ((w * m : Nat) : Int)).toNat), List.map_map]
            apply List.map_congr_left
            intro i _
            show _ = ((((((ds.getD i 0 : Nat) : Int) + b) % ((w * m : Nat) : Int)).toNat : Nat) : Int)
            rw [Int.toNat_of_nonneg (Int.emod_nonneg _ (by omega))]
          rw [← hl]
          exact hpr
        · exact ev_op (ev_op (ev_var rfl) (ev_ixT (ev_var rfl) (ex_t e8 (sqt_other hds7 (fun _ q => nomatch q) (fun _ _ q => nomatch q) hT7)) rfl) rv_I0) (ev_var rfl) (rv_I hN0)
      · have hper := rl_per (w : Int) (m : Int) r
        rw [fold_mem]
        show (d ∈ [] ∨ _) ↔ d < w * m ∧ r.day w m ((d : Int) - b) = true
        constructor
        · rintro (h | h)
          · cases h
          · rw [List.mem_map] at h
            obtain ⟨c, hc, rfl⟩ := h
            obtain ⟨hc1, hc2⟩ := (hok.mem c).mp hc
            have h0 := Int.emod_nonneg ((c : Int) + b) (show ((w * m : Nat) : Int) ≠ 0 by omega)
            have h1 := Int.emod_lt_of_pos ((c : Int) + b) hN0
            refine ⟨by omega, ?_⟩
            rw [Int.toNat_of_nonneg h0]
            have e9 := Int.emod_add_mul_ediv ((c : Int) + b) ((w * m : Nat) : Int)
            have : ((c : Int) + b) % ((w * m : Nat) : Int) - b = (c : Int) + ((w : Int) * (m : Int)) * (-(((c : Int) + b) / ((w * m : Nat) : Int))) := by
              rw [Int.mul_neg, ← hq]; omega
            rw [this, hper.mul]
            exact hc2
        · rintro ⟨h1, h2⟩
          right
          have h0 := Int.emod_nonneg ((d : Int) - b) (show ((w * m : Nat) : Int) ≠ 0 by omega)
          have h3 := Int.emod_lt_of_pos ((d : Int) - b) hN0
          refine List.mem_map.mpr ⟨(((d : Int) - b) % ((w * m : Nat) : Int)).toNat, (hok.mem _).mpr ⟨by omega, ?_⟩, ?_⟩
          · rw [Int.toNat_of_nonneg h0, hq, hper.emod]
            exact h2
          · rw [Int.toNat_of_nonneg h0, Int.emod_add_emod, Int.sub_add_cancel, Int.emod_eq_of_lt (by omega) (by omega)]
            exact Int.toNat_natCast d
    | bo hT hr1 hr2 =>
      rename_i p u v x y
      have hd1 : x.dep < n := by simp only [Rl.dep] at hd; omega
      have hd2 : y.dep < n := by simp only [Rl.dep] at hd; omega
      refine q_not (et_str (ev_ixT (ev_var rfl) hT rfl) (by decide +kernel)) fun H3 e3 => ?_
      refine q_not (et_str (ev_ixT (ev_var rfl) (ex_t e3 hT) rfl) (by decide +kernel)) fun H4 e4 => ?_
      refine q_not (et_str (ev_ixT (ev_var rfl) (ex_t (e3.trans e4) hT) rfl) (by decide +kernel)) fun H5 e5 => ?_
      have F5 := (e3.trans e4).trans e5
      have E5 := (e1.trans e2).trans F5
      refine q_asgR (er_ldays (ea_cons (ev_ixT (ev_var rfl) (ex_t F5 hT) rfl) (ea_cons (ev_var rfl) ea_nil)) (hr1.mono F5) hd1 (ex_t E5 hL) hO) fun D1 H6 hD1 e6 ⟨ds, hds, hok⟩ => ?_
      refine q_not (et_str (ev_ixT (ev_var rfl) (ex_t (F5.trans e6) hT) rfl) (by decide +kernel)) fun H7 e7 => ?_
      have F7 := (F5.trans e6).trans e7
      have E7 := (E5.trans e6).trans e7
      refine q_asgR (er_ldays (ea_cons (ev_ixT (ev_var rfl) (ex_t F7 hT) rfl) (ea_cons (ev_var rfl) ea_nil)) (hr2.mono F7) hd2 (ex_t E7 hL) hO) fun D2 H8 hD2 e8 ⟨ds2, hds2, hok2⟩ => ?_
      refine q_yes (et_str (ev_ixT (ev_var rfl) (ex_t (F7.trans e8) hT) rfl) (by decide +kernel)) fun H9 e9 => ?_
      have hds9 := ((e7.trans e8).trans e9) _ _ hds
      have hds29 := e9 _ _ hds2
      have h12 : D2 ≠ D1 := (ne_of_none (e7 _ _ hds) hD2).symm
      have E9 := (E7.trans e8).trans e9
      have hlen := hok.le
      refine s_retR (er_dict (es := ds.filter fun d => decide (d ∈ ds2)) (er_lock (R := fun p H2 => ∃ ys, H2 p = some (.lst ys) ∧ PairsL K H2 ys ((ds.filter fun d => decide (d ∈ ds2)).map fun (d : Nat) => (d : Int))) hds9 trivial (fun od => ?_) fun od p2 HA hpd hfz h => by
        obtain ⟨ys, h1, h2⟩ := h
        exact ⟨ys, by rw [upd_ne hpd]; exact h1, pairs_unlock (u := .dK (dk ds)) (fun _ q => nomatch q) hfz h2⟩)) fun p2 HA hp2 eA hA => k p2 _ HA (fresh_back E9 hp2) (E9.trans eA) hA ⟨fold_nodup _ _ List.nodup_nil, fun d => ?_⟩
      · have hpr := er_pairsK (K := K) (σ := [some (.ref p), some (.ref l), some (.int (w : Int)), some (.int (m : Int)), some (.int ((w * m : Nat) : Int)), none, none, some (.ref D1), some (.ref D2), none]) (H := upd H9 D1 (.frz od (.dK (dk ds)))) (tl := tVar 7) (t := tB (tDIn (tVar 6) (tVar 8))) (te := tVar 6) (j := 6) (vs := [6]) (fun i => (fun d => decide (d ∈ ds2)) (ds.getD i 0)) (fun i => ((ds.getD i 0 : Nat) : Int)) (ev_var rfl) upd_same (by omega) (fun _ => rfl) (fun i HA eA hi => et_B (ev_din (ev_var rfl) (ev_var rfl) (eA _ _ (by rw [upd_ne h12]; exact hds29)))) (fun i HA eA hi _ => ev_var rfl)
        have hl : (((List.range ds.length).filter fun i => (fun d => decide (d ∈ ds2)) (ds.getD i 0)).map fun i => ((ds.getD i 0 : Nat) : Int)) = (ds.filter fun d => decide (d ∈ ds2)).map fun (d : Nat) => (d : Int) := by
          rw [← filter_getD ds fun d => decide (d ∈ ds2), List.map_map]
          rfl
        rw [← hl]
        exact hpr
      · rw [fold_mem, List.mem_filter, hok.mem]
        show (d ∈ [] ∨ _) ↔ d < w * m ∧ (x.day w m d && y.day w m d) = true
        rw [Bool.and_eq_true]
        have hm2 := hok2.mem d
        constructor
        · rintro (h | ⟨⟨h1, h2⟩, h3⟩)
          · cases h
          · refine ⟨h1, h2, ?_⟩
            exact (hm2.mp (of_decide_eq_true h3)).2
        · rintro ⟨h1, h2, h3⟩
          refine .inr ⟨⟨h1, h2⟩, ?_⟩
          exact decide_eq_true (hm2.mpr ⟨h1, h3⟩)
    | ei hT hr1 hr2 =>
      rename_i p u v x y
      have hd1 : x.dep < n := by simp only [Rl.dep] at hd; omega
      have hd2 : y.dep < n := by simp only [Rl.dep] at hd; omega
      refine q_not (et_str (ev_ixT (ev_var rfl) hT rfl) (by decide +kernel)) fun H3 e3 => ?_
      refine q_not (et_str (ev_ixT (ev_var rfl) (ex_t e3 hT) rfl) (by decide +kernel)) fun H4 e4 => ?_
      refine q_not (et_str (ev_ixT (ev_var rfl) (ex_t (e3.trans e4) hT) rfl) (by decide +kernel)) fun H5 e5 => ?_
      have F5 := (e3.trans e4).trans e5
      have E5 := (e1.trans e2).trans F5
      refine q_asgR (er_ldays (ea_cons (ev_ixT (ev_var rfl) (ex_t F5 hT) rfl) (ea_cons (ev_var rfl) ea_nil)) (hr1.mono F5) hd1 (ex_t E5 hL) hO) fun D1 H6 hD1 e6 ⟨ds, hds, hok⟩ => ?_
      refine q_not (et_str (ev_ixT (ev_var rfl) (ex_t (F5.trans e6) hT) rfl) (by decide +kernel)) fun H7 e7 => ?_
      have F7 := (F5.trans e6).trans e7
      have E7 := (E5.trans e6).trans e7
      refine q_asgR (er_ldays (ea_cons (ev_ixT (ev_var rfl) (ex_t F7 hT) rfl) (ea_cons (ev_var rfl) ea_nil)) (hr2.mono F7) hd2 (ex_t E7 hL) hO) fun D2 H8 hD2 e8 ⟨ds2, hds2, hok2⟩ => ?_
      refine q_not (et_str (ev_ixT (ev_var rfl) (ex_t (F7.trans e8) hT) rfl) (by decide +kernel)) fun H8' e8' => ?_
      refine q_not (et_str (ev_ixT (ev_var rfl) (ex_t ((F7.trans e8).trans e8') hT) rfl) (by decide +kernel)) fun H9 e9' => ?_
      have e9 := e8'.trans e9'
      have E9 := (E7.trans e8).trans e9
      have hlen := hok.le
      have hlen2 := hok2.le
      have hl : ((List.range (ds ++ ds2).length).map fun i => (((ds ++ ds2).getD i 0 : Nat) : Int)) = (ds ++ ds2).map fun (d : Nat) => (d : Int) := by
        have := range_getD (ds ++ ds2) (fun d => d)
        rw [List.map_id'] at this
        conv => rhs; rw [← this]
        rw [List.map_map]
        rfl
      refine s_retR (er_dict (es := ds ++ ds2) ?_) fun p2 HA hp2 eA hA => k p2 _ HA (fresh_back E9 hp2) (E9.trans eA) hA ⟨fold_nodup _ _ List.nodup_nil, fun d => ?_⟩
      · rw [← hl]
        refine er_pairsL _ (el_is (el_cat (el_listD (ev_var rfl) (((e7.trans e8).trans e9) _ _ hds)) (el_listD (ev_var rfl) (e9 _ _ hds2)) (by rw [List.length_map, List.length_map]; omega)) (by rw [List.map_append])) (by rw [List.length_append]; omega) (fun _ => rfl) (fun i HA eA hi => ev_var rfl)
      · rw [fold_mem, List.mem_append, hok.mem, hok2.mem]
        show (d ∈ [] ∨ _) ↔ d < w * m ∧ (x.day w m d || y.day w m d) = true
        rw [Bool.or_eq_true]
        constructor
        · rintro (h | ⟨h1, h2⟩ | ⟨h1, h2⟩)
          · cases h
          · exact ⟨h1, .inl h2⟩
          · exact ⟨h1, .inr h2⟩
        · rintro ⟨h1, h2 | h2⟩
          · exact .inr (.inl ⟨h1, h2⟩)
          · exact .inr (.inr ⟨h1, h2⟩)
    | wo hT hr1 hr2 =>
      rename_i p u v x y
      have hd1 : x.dep < n := by simp only [Rl.dep] at hd; omega
      have hd2 : y.dep < n := by simp only [Rl.dep] at hd; omega
      refine q_not (et_str (ev_ixT (ev_var rfl) hT rfl) (by decide +kernel)) fun H3 e3 => ?_
      refine q_not (et_str (ev_ixT (ev_var rfl) (ex_t e3 hT) rfl) (by decide +kernel)) fun H4 e4 => ?_
      refine q_not (et_str (ev_ixT (ev_var rfl) (ex_t (e3.trans e4) hT) rfl) (by decide +kernel)) fun H5 e5 => ?_
      have F5 := (e3.trans e4).trans e5
      have E5 := (e1.trans e2).trans F5
      refine q_asgR (er_ldays (ea_cons (ev_ixT (ev_var rfl) (ex_t F5 hT) rfl) (ea_cons (ev_var rfl) ea_nil)) (hr1.mono F5) hd1 (ex_t E5 hL) hO) fun D1 H6 hD1 e6 ⟨ds, hds, hok⟩ => ?_
      refine q_not (et_str (ev_ixT (ev_var rfl) (ex_t (F5.trans e6) hT) rfl) (by decide +kernel)) fun H7 e7 => ?_
      have F7 := (F5.trans e6).trans e7
      have E7 := (E5.trans e6).trans e7
      refine q_asgR (er_ldays (ea_cons (ev_ixT (ev_var rfl) (ex_t F7 hT) rfl) (ea_cons (ev_var rfl) ea_nil)) (hr2.mono F7) hd2 (ex_t E7 hL) hO) fun D2 H8 hD2 e8 ⟨ds2, hds2, hok2⟩ => ?_
      refine q_not (et_str (ev_ixT (ev_var rfl) (ex_t (F7.trans e8) hT) rfl) (by decide +kernel)) fun H8' e8' => ?_
      refine q_yes (et_str (ev_ixT (ev_var rfl) (ex_t ((F7.trans e8).trans e8') hT) rfl) (by decide +kernel)) fun H9 e9' => ?_
      have e9 := e8'.trans e9'
      have hds9 := ((e7.trans e8).trans e9) _ _ hds
      have hds29 := e9 _ _ hds2
      have h12 : D2 ≠ D1 := (ne_of_none (e7 _ _ hds) hD2).symm
      have E9 := (E7.trans e8).trans e9
      have hlen := hok.le
      refine s_retR (er_dict (es := ds.filter fun d => !decide (d ∈ ds2)) (er_lock (R := fun p H2 => ∃ ys, H2 p = some (.lst ys) ∧ PairsL K H2 ys ((ds.filter fun d => !decide (d ∈ ds2)).map fun (d : Nat) => (d : Int))) hds9 trivial (fun od => ?_) fun od p2 HA hpd hfz h => by
        obtain ⟨ys, h1, h2⟩ := h
        exact ⟨ys, by rw [upd_ne hpd]; exact h1, pairs_unlock (u := .dK (dk ds)) (fun _ q => nomatch q) hfz h2⟩)) fun p2 HA hp2 eA hA => k p2 _ HA (fresh_back E9 hp2) (E9.trans eA) hA ⟨fold_nodup _ _ List.nodup_nil, fun d => ?_⟩
      · have hpr := er_pairsK (K := K) (σ := [some (.ref p), some (.ref l), some (.int (w : Int)), some (.int (m : Int)), some (.int ((w * m : Nat) : Int)), none, none, some (.ref D1), some (.ref D2), none]) (H := upd H9 D1 (.frz od (.dK (dk ds)))) (tl := tVar 7) (t := tB (tDNotIn (tVar 6) (tVar 8))) (te := tVar 6) (j := 6) (vs := [6]) (fun i => (fun d => !decide (d ∈ ds2)) (ds.getD i 0)) (fun i => ((ds.getD i 0 : Nat) : Int)) (ev_var rfl) upd_same (by omega) (fun _ => rfl) (fun i HA eA hi => et_B (ev_dnotin (ev_var rfl) (ev_var rfl) (eA _ _ (by rw [upd_ne h12]; exact hds29)))) (fun i HA eA hi _ => ev_var rfl)
        have hl : (((List.range ds.length).filter fun i => (fun d => !decide (d ∈ ds2)) (ds.getD i 0)).map fun i => ((ds.getD i 0 : Nat) : Int)) = (ds.filter fun d => !decide (d ∈ ds2)).map fun (d : Nat) => (d : Int) := by
          rw [← filter_getD ds fun d => !decide (d ∈ ds2), List.map_map]
          rfl
        rw [← hl]
        exact hpr
      · rw [fold_mem, List.mem_filter, hok.mem]
        show (d ∈ [] ∨ _) ↔ d < w * m ∧ (x.day w m d && !y.day w m d) = true
        rw [Bool.and_eq_true]
        have hm2 := hok2.mem d
        constructor
        · rintro (h | ⟨⟨h1, h2⟩, h3⟩)
          · cases h
          · refine ⟨h1, h2, ?_⟩
            cases hy : y.day w m d with
            | false => rfl
            | true =>
              rw [decide_eq_true (hm2.mpr ⟨h1, hy⟩)] at h3
              cases h3
        · rintro ⟨h1, h2, h3⟩
          refine .inr ⟨⟨h1, h2⟩, ?_⟩
          rw [decide_eq_false]
          · rfl
          · intro hc
            rw [(hm2.mp hc).2] at h3
            cases h3
theorem ok_ldays (F : Fun K "_law_days" "_law_days" s_l_days f fd) (T : Txt w K mg C_BadRule C_BadRules C_BadLand C_BadDay C_BadNumber C_Feast C_Calendar) (hm : mg "_law_days" = some (.ref f)) (hb : Binds K fd ["_law_rule_here", "_law_land"] []) : ∀ n : Nat, FnOk P w K mg base CX0 (n + 1) f fd ["_law_rule_here", "_law_land"] (spLDays K n)
  | 0 => fnok_none fun _ _ _ _ ⟨_, _, _, _, _, _, _, h, _⟩ => absurd h (Nat.not_lt_zero _)
  | n + 1 => ldays_turn F T hm hb n (ok_ldays F T hm hb n)
theorem dn_ldays (T : Txt w K mg C_BadRule C_BadRules C_BadLand C_BadDay C_BadNumber C_Feast C_Calendar) : Dn P w K mg base CX0 "_law_days" 6 ["_law_rule_here", "_law_land"] (spLDays K 5) := T.f_l_days.dn fun _ _ F hm hb => ok_ldays F T hm hb 5
end
end WF

set_option Elab.async false
set_option linter.all false
set_option maxRecDepth 100000
set_option maxHeartbeats 4000000
/-! the law's days of all rows -/
namespace WF
open PySem L2 Evl
theorem per_pred {N : Int} {p : Int → Bool} (hp : Per N p) (c : Int) : p ((c + 1) % N - 1) = p c := by
  have e := Int.emod_add_mul_ediv (c + 1) N
  have : (c + 1) % N - 1 = c + N * (-((c + 1) / N)) := by rw [Int.mul_neg]; omega
  rw [this, hp.mul]
theorem all_step {w m : Nat} {f : Int → Bool} {r : Rl} {y : Bool} {ds ds1 : List Nat} (hN : 0 < w * m) (hf : Per ((w * m : Nat) : Int) f) (h : DaysOk (w * m) f ds) (h1 : DaysOk (w * m) (r.day w m) ds1) :
    DaysOk (w * m) (addRow w m f (r, y)) ((ds1.filter (fun d => !decide (d ∈ ds1.filter fun d => y && decide (d ∈ ds))) ++ (ds1.filter fun d => y && decide (d ∈ ds)).map fun c => (c + 1) % (w * m)).foldl addD ds) := by
  have hg : Per ((w * m : Nat) : Int) (r.day w m) := by rw [Int.natCast_mul]; exact rl_per w m r
  have hmet : ∀ c : Nat, c ∈ (ds1.filter fun d => y && decide (d ∈ ds)) ↔ c < w * m ∧ r.day w m c = true ∧ y = true ∧ f c = true := fun c => by
    rw [List.mem_filter, h1.mem, Bool.and_eq_true, decide_eq_true_iff, h.mem]
    constructor
    · rintro ⟨⟨a, b⟩, c, d, e⟩; exact ⟨a, b, c, e⟩
    · rintro ⟨a, b, c, e⟩; exact ⟨⟨a, b⟩, c, a, e⟩
  refine ⟨fold_nodup _ _ h.nd, fun d => ?_⟩
  rw [fold_mem, List.mem_append, List.mem_map, List.mem_filter, h.mem, h1.mem]
  show _ ↔ d < w * m ∧ (f d || (r.day w m d && !(y && f d)) || (y && (r.day w m ((d : Int) - 1) && f ((d : Int) - 1)))) = true
  constructor
  · rintro (⟨a, b⟩ | ⟨⟨a, b⟩, c⟩ | ⟨c, hc, rfl⟩)
    · refine ⟨a, ?_⟩
      rw [b]; rfl
    · refine ⟨a, ?_⟩
      have : ¬ (y = true ∧ f d = true) := fun q => by
        rw [decide_eq_true ((hmet d).mpr ⟨a, b, q.1, q.2⟩)] at c
        cases c
      rw [b]
      cases hy : y <;> cases hfd : f d <;> simp_all
    · obtain ⟨a, b, c1, c2⟩ := (hmet c).mp hc
      refine ⟨Nat.mod_lt _ hN, ?_⟩
      have e : (((c + 1) % (w * m) : Nat) : Int) = ((c : Int) + 1) % ((w * m : Nat) : Int) := by rw [Int.natCast_emod]; rfl
      rw [e, per_pred hg, per_pred hf, b, c1, c2]
      simp
  · rintro ⟨a, b⟩
    by_cases hfd : f d = true
    · exact .inl ⟨a, hfd⟩
    · rw [Bool.not_eq_true] at hfd
      by_cases hgd : r.day w m d = true
      · refine .inr (.inl ⟨⟨a, hgd⟩, ?_⟩)
        rw [decide_eq_false]
        · rfl
        · intro q
          have := ((hmet d).mp q).2.2.2
          rw [hfd] at this
          cases this
      · rw [Bool.not_eq_true] at hgd
        rw [hfd, hgd] at b
        simp only [Bool.false_or, Bool.false_and, Bool.and_eq_true] at b
        obtain ⟨b1, b2, b3⟩ := b
        have h0 := Int.emod_nonneg ((d : Int) - 1) (show ((w * m : Nat) : Int) ≠ 0 by omega)
        have h3 := Int.emod_lt_of_pos ((d : Int) - 1) (show 0 < ((w * m : Nat) : Int) by omega)
        refine .inr (.inr ⟨(((d : Int) - 1) % ((w * m : Nat) : Int)).toNat, (hmet _).mpr ⟨by omega, ?_, b1, ?_⟩, ?_⟩)
        · rw [Int.toNat_of_nonneg h0, hg.emod]; exact b2
        · rw [Int.toNat_of_nonneg h0, hf.emod]; exact b3
        · have : (((((d : Int) - 1) % ((w * m : Nat) : Int)).toNat + 1) % (w * m) : Nat) = (d : Nat) := by
            have e : ((((((d : Int) - 1) % ((w * m : Nat) : Int)).toNat + 1) % (w * m) : Nat) : Int) = (d : Int) := by
              rw [Int.natCast_emod, Int.natCast_add, Int.toNat_of_nonneg h0]
              show (((d : Int) - 1) % ((w * m : Nat) : Int) + 1) % ((w * m : Nat) : Int) = _
              rw [Int.emod_add_emod, Int.sub_add_cancel, Int.emod_eq_of_lt (by omega) (by omega)]
            omega
          exact this
section
variable {K : PySem.W.Frag} {σ : L2.St} {H H' : Hp} {ta tb tc te tv : TE} {x y z v : V} {t : TT} {D : Ends} {tz : TS}
theorem sel_eq {v : Nat → V} {f : Nat → Bool} {n : Nat} {ys : List V} (h : Sel f (fun i y _ => y = v i) n ys H) : ys = ((List.range n).filter f).map v := by
  apply List.ext_getElem?
  intro k
  rw [List.getElem?_map]
  cases hi : ((List.range n).filter f)[k]? with
  | none =>
    rw [List.getElem?_eq_none_iff] at hi
    exact List.getElem?_eq_none (by rw [h.1]; exact hi)
  | some i =>
    have hlt := (List.getElem?_eq_some_iff.mp hi).1
    have : k < ys.length := by rw [h.1]; exact hlt
    have hy := h.2 k i ys[k] hi (List.getElem?_eq_getElem this)
    rw [List.getElem?_eq_getElem this, hy]
    rfl
/-- [e for x in d if t], d a dict of days that stands locked at a -/
theorem el_keysL {tl : TE} {a : Addr} {od : Obj} {ds : List Nat} {j : Nat} {vs : List Nat} (f : Nat → Bool) (v : Nat → V) (h : Ev tl σ H (.ref a)) (hd : H a = some (.frz od (.dK (dk ds)))) (hz : ds.length ≤ 40000) (hw : ∀ x, wipe ((wipe σ vs).set j (some x)) vs = wipe σ vs)
    (ht : ∀ (i : Nat) H1, Ex H H1 → i < ds.length → EvT t ((wipe σ vs).set j (some (.int ((ds.getD i 0 : Nat) : Int)))) H1 (f i))
    (he : ∀ (i : Nat) H1, Ex H H1 → i < ds.length → f i = true → Ev te ((wipe σ vs).set j (some (.int ((ds.getD i 0 : Nat) : Int)))) H1 (v i)) :
    EvL (tLc (iKeys tl) (gName j) t te vs) σ H (((List.range ds.length).filter f).map v) := fun H0 ee Q q => h H0 ee _ fun H1 e1 => ⟨a, od, rfl, .inl ⟨dk ds, (ee.trans e1) _ _ hd, by
  have wk : Walk (Itk a od (dk ds)) (dk ds).length (fun H => H a = some (.frz od (.dK (dk ds)))) (YFn fun i => .int ((ds.getD i 0 : Nat) : Int)) := (walk_keys (d := a) (o := od) (kvs := dk ds)).mono (fun _ h => h) fun i H x H' hi _ y => by
    obtain ⟨h1, k, v, hk, hx⟩ := y
    refine ⟨h1, ?_⟩
    show x = V.int ((ds.getD i 0 : Nat) : Int)
    unfold dk at hk
    rw [List.getElem?_map] at hk
    rw [List.getD_eq_getElem?_getD]
    cases hi : ds[i]? with
    | none => rw [hi] at hk; cases hk
    | some d =>
      rw [hi] at hk
      cases hk
      exact hx
  have hl : (dk ds).length = ds.length := List.length_map _
  rw [hl] at wk
  refine lcX wk f (fun i y H => y = v i) (fun i y H1 H2 _ h => h) (fun H' e' => ((ee.trans e1).trans e') _ _ hd) hz hw (fun i H2 e2 hi => ht i H2 ((ee.trans e1).trans e2) hi) (fun i H2 e2 hi hf Q q => he i H2 ((ee.trans e1).trans e2) hi hf H2 (Ex.refl H2) Q fun H3 e3 => q _ H3 e3 rfl) Q fun Dl H' hD e' ⟨ys, h1, h2⟩ => q Dl H' (fresh_back e1 hD) (e1.trans e') (by rw [h1, sel_eq h2])⟩⟩
theorem el_lock {d : Addr} {u : HO} {xs : List V} (hd : H d = some u) (mu : Mut (some u)) (h : ∀ od, EvL te σ (upd H d (.frz od u)) xs) : EvL (tLockE te) σ H xs :=
  er_lock (R := fun p H2 => H2 p = some (.lst xs)) (R' := fun p H2 => H2 p = some (.lst xs)) hd mu h fun od p H2 hpd _ h => by rw [upd_ne hpd]; exact h
theorem q_lockL {i : Nat} {xs : List V} (h : EvL (tLockE te) σ H xs) (k : ∀ p H1, H p = none → Ex H H1 → H1 p = some (.lst xs) → tz D (σ.set i (some (.ref p))) H1) : tSeq (tLock (tAsg te (gName i))) tz D σ H := h H (Ex.refl H) (fun v H' => tz D (σ.set i (some v)) H') k
theorem el_catV {a : Addr} {xs ys : List V} (h1 : Ev ta σ H (.ref a)) (ha : H a = some (.lst xs)) (h2 : EvL tb σ H ys) (hz : xs.length + ys.length ≤ 100000) : EvL (tOp rCat ta tb) σ H (xs ++ ys) := fun H1 e Q q =>
  h1 H1 e _ fun H2 e2 => h2 H2 (e.trans e2) _ fun p2 H3 hp2 e3 k2 => ⟨a, p2, xs, ys, rfl, rfl, ((e.trans e2).trans e3) _ _ ha, k2, Evl.sz_of hz, fun p3 hp3 => q p3 _ (fresh_back (e2.trans e3) hp3) ((e2.trans e3).trans (Ex.new hp3)) upd_same⟩
theorem dp_ints {K : PySem.W.Frag} {H : Hp} : ∀ ns : List Int, DpAll K H (ns.map V.int) (ns.map PyData.int)
  | [] => .nil
  | n :: ns => .cons (.int n) (dp_ints ns)
theorem eqv_nil : ∀ ns : List Int, PyData.eqv (.list (ns.map PyData.int)) (.list []) = decide (ns = [])
  | [] => rfl
  | _ :: _ => rfl
/-- xs != [] -/
theorem ev_neNil {a : Addr} {ds : List Nat} (h : Ev ta σ H (.ref a)) (ha : H a = some (.lst (ds.map fun (d : Nat) => V.int (d : Int)))) : Ev (tOp (rNeD K) ta (tLst tNil)) σ H (.bl (!decide (ds = []))) :=
  ev_opL h (el_lst ea_nil (Nat.zero_le _)) fun p H1 hp e1 H2 e2 Q q => ⟨.list ((ds.map fun (d : Nat) => (d : Int)).map PyData.int), .list [], .lst (sq_of ((e1.trans e2) _ _ ha)) (by
    have := dp_ints (K := K) (H := H2) (ds.map fun (d : Nat) => (d : Int))
    rw [List.map_map] at this
    exact this), .lst (sq_of (e2 _ _ hp)) .nil, PySem.W.ke_shaped_ints _, PySem.W.ke_shaped_ints [], by
    rw [eqv_nil]
    have : decide ((ds.map fun (d : Nat) => (d : Int)) = []) = decide (ds = []) := by
      cases ds <;> rfl
    rw [this]
    exact q H2 (Ex.refl H2)⟩
theorem ev_niDs {a : Addr} {ds : List Nat} {d : Nat} (h : Ev ta σ H (.int (d : Int))) (h2 : Ev tb σ H (.ref a)) (ha : H a = some (.lst (ds.map fun (d : Nat) => V.int (d : Int)))) : EvT (tTest (tOp (rIn K true) ta tb)) σ H (!decide (d ∈ ds)) := by
  have hi : inV (.int (d : Int)) (ds.map fun (d : Nat) => V.int (d : Int)) = decide (d ∈ ds) := by
    clear ha
    induction ds with
    | nil => rfl
    | cons c ds ih =>
      show (eqV (.int (c : Int)) (.int (d : Int)) || inV (.int (d : Int)) (ds.map fun (d : Nat) => V.int (d : Int))) = _
      rw [ih]
      have : eqV (.int (c : Int)) (.int (d : Int)) = decide (c = d) := by
        show ((c : Int) == (d : Int)) = decide (c = d)
        rw [Bool.eq_iff_iff, beq_iff_eq, decide_eq_true_iff]
        omega
      rw [this, Bool.eq_iff_iff, Bool.or_eq_true, decide_eq_true_iff, decide_eq_true_iff, decide_eq_true_iff, List.mem_cons]
      exact ⟨fun h => h.imp Eq.symm id, fun h => h.imp Eq.symm id⟩
  have hf : (ds.map fun (d : Nat) => V.int (d : Int)).all flatV = true := by
    rw [List.all_eq_true]
    intro x hx
    rw [List.mem_map] at hx
    obtain ⟨c, _, rfl⟩ := hx
    rfl
  rw [← hi]
  exact et_cmp h h2 (rv_niL (sq_of ha) rfl hf)
end
section
variable {P : Program} {w : World} {K : PySem.W.Frag} {mg : Str → Option Value} {base : Heap} {C_BadRule C_BadRules C_BadLand C_BadDay C_BadNumber C_Feast C_Calendar : Addr} {f : Addr} {fd : FuncData}
theorem fold_len : ∀ (es acc : List Nat), (es.foldl addD acc).length ≤ acc.length + es.length
  | [], _ => Nat.le_refl _
  | e :: es, acc => by
    have := fold_len es (addD acc e)
    have h : (addD acc e).length ≤ acc.length + 1 := by
      unfold addD
      split
      · omega
      · rw [List.length_append]; exact Nat.le_refl _
    rw [List.foldl_cons, List.length_cons]
    omega
def spAll (K : PySem.W.Frag) : Sp := fun vs H Q _ => ∃ (p l : Addr) (ys : List V) (rows : Rows) (w m : Nat), vs = [.ref p, .ref l] ∧ SqL K H p ys ∧ RawL K H ys rows ∧ rows.length ≤ 3 ∧ depMax rows < 5 ∧ SqT K H l [.int w, .int m] ∧ LandOk w m ∧
  ∀ p ds H2, H p = none → Ex H H2 → H2 p = some (.dK (dk ds)) → DaysOk (w * m) (calDay w m rows) ds → Q (.ref p) H2
theorem ok_lall (F : Fun K "_law_all" "_law_all" s_l_all f fd) (T : Txt w K mg C_BadRule C_BadRules C_BadLand C_BadDay C_BadNumber C_Feast C_Calendar) : FnOk P w K mg base CX0 7 f fd ["_law_rows_here", "_law_land"] (spAll K) := by
  have D_l_days : Dn P w K mg base CX0 "_law_days" 6 ["_law_rule_here", "_law_land"] (spLDays K 5) := dn_ldays T
  refine F.ok sc_l_all (fun vs H Q E h => ?_) (fun cdv A outer s H vs Q E hr h => ?_)
  · obtain ⟨_, _, _, _, _, _, rfl, _⟩ := h
    rfl
  · obtain ⟨L, l, ys, rows, w, m, rfl, hL, hraw, hlen, hdep, hT, hO, k⟩ := h
    obtain ⟨w2, wm, m6, n5⟩ := id hO
    have hq : ((w * m : Nat) : Int) = (w : Int) * (m : Int) := Int.natCast_mul w m
    have hr1 : Room 1 _ := hr.mono (by omega)
    have hu := hu_of hr1
    have hN := hO.pos
    refine ⟨_, (pss_cons (ps_set (i := 2) sc_l_all.nd rfl (by first | exact Or.inl rfl | exact Or.inr rfl) (pe_op op_mul (pe_ix ix_tup (pv 1) pe_int (fun _ _ => rfl)) (pe_ix ix_tup (pv 1) pe_int (fun _ _ => rfl))))
  (pss_cons (ps_set (i := 3) sc_l_all.nd rfl (by first | exact Or.inl rfl | exact Or.inr rfl) pe_dnewK)
  (pss_cons (ps_for PassesOwn.never rfl (pi_list (pv 0)) (pg_tup rfl (pgs_cons (pg_name (i := 4) sc_l_all.nd rfl (by first | exact Or.inl rfl | exact Or.inr rfl)) (pgs_cons (pg_name (i := 5) sc_l_all.nd rfl (by first | exact Or.inl rfl | exact Or.inr rfl)) pgs_nil)))
  (pss_cons (ps_set (i := 6) sc_l_all.nd rfl (by first | exact Or.inl rfl | exact Or.inr rfl) (pe_fn D_l_days (hr.mono (by omega)) pass0 rfl (pa_cons (pv 4) (pa_cons (pv 1) pa_nil))))
  (pss_cons (ps_lock (ps_set (i := 7) sc_l_all.nd rfl (by first | exact Or.inl rfl | exact Or.inr rfl) (pe_lc (own := [("_law_day", 9)]) (g := gName 9) rfl sc_l_all.nd (pi_keys (pv 6)) (blkOk_by (own := [("_law_day", 9)]) (N := ["_law_rows_here", "_law_land", "_law_whole", "_law_found", "_law_rule_here", "_law_yields", "_law_own", "_law_met", "_law_kept", "_law_day"]) (sc := defScope s_l_all) (by decide +kernel)) (fun _ _ _ _ _ => (pg_name (i := 9) sc_l_all.nd rfl (by first | exact Or.inl rfl | exact Or.inr rfl))) (fun _ _ _ _ _ => (pts_one (PW.pt (pw_and (pt_val (pv 5)) (pw_and1 (pt_cmp (pc_din hu (pv 9) (pv 3)))))))) (fun _ _ _ _ _ => (pv 9)))))
  (pss_cons (ps_set (i := 8) sc_l_all.nd rfl (by first | exact Or.inl rfl | exact Or.inr rfl) (pe_ifExp (pt_cmpR (op_neD hr1.units) (pv 7) (pe_lst pa_nil) (nomark _)) (pe_lock (pe_lc (own := [("_law_day", 9)]) (g := gName 9) rfl sc_l_all.nd (pi_keys (pv 6)) (blkOk_by (own := [("_law_day", 9)]) (N := ["_law_rows_here", "_law_land", "_law_whole", "_law_found", "_law_rule_here", "_law_yields", "_law_own", "_law_met", "_law_kept", "_law_day"]) (sc := defScope s_l_all) (by decide +kernel)) (fun _ _ _ _ _ => (pg_name (i := 9) sc_l_all.nd rfl (by first | exact Or.inl rfl | exact Or.inr rfl))) (fun _ _ _ _ _ => (pts_one (pt_cmpR (op_notIn_seqK (K := K)) (pv 9) (pv 7) (by rfl)))) (fun _ _ _ _ _ => (pv 9)))) (pe_callTy (call_list_dK rfl) (by rfl) T.list (by decide +kernel) (pa_cons (pv 6) pa_nil))))
  (pss_one (ps_for PassesOwn.never rfl (pi_list (pe_op op_cat (pv 8) (pe_lc (own := [("_law_day", 9)]) (g := gName 9) (tt := tYes) rfl sc_l_all.nd (pi_list (pv 7)) (blkOk_by (own := [("_law_day", 9)]) (N := ["_law_rows_here", "_law_land", "_law_whole", "_law_found", "_law_rule_here", "_law_yields", "_law_own", "_law_met", "_law_kept", "_law_day"]) (sc := defScope s_l_all) (by decide +kernel)) (fun _ _ _ _ _ => (pg_name (i := 9) sc_l_all.nd rfl (by first | exact Or.inl rfl | exact Or.inr rfl))) (fun _ _ _ _ _ => pts_nil) (fun _ _ _ _ _ => (pe_op op_mod (pe_op op_add (pv 9) pe_int) (pv 2)))))) (pg_name (i := 9) sc_l_all.nd rfl (by first | exact Or.inl rfl | exact Or.inr rfl))
  (pss_one (ps_dput hu (pv 3) (pv 9) pe_bl rfl))))))))
  (pss_one (ps_ret (pv 3)))))), ?_⟩
    refine q_asg (v := .int ((w * m : Nat) : Int)) (ev_is (ev_op (ev_ixT (ev_var rfl) hT rfl) (ev_ixT (ev_var rfl) hT rfl) (rv_I (.inl ⟨by omega, by omega⟩))) (by rw [hq])) fun H1 e1 => ?_
    refine q_asgD fun Fd hF => ?_
    have hF0 := fresh_back e1 hF
    have e2 : Ex H1 (upd H1 Fd (.dK (dk []))) := Ex.new hF
    refine q_forL (ev_var rfl) (ex_l (e1.trans e2) hL) (fun i σ H' => ∃ a4 a5 a6 a7 a8 a9 ds, σ = [some (.ref L), some (.ref l), some (.int ((w * m : Nat) : Int)), some (.ref Fd), a4, a5, a6, a7, a8, a9] ∧ H' Fd = some (.dK (dk ds)) ∧ DaysOk (w * m) (calDay w m (rows.take i)) ds ∧ Ex H H')
      (fun H2 e3 => ⟨none, none, none, none, none, none, [], rfl, e3 _ _ upd_same, ⟨List.nodup_nil, fun d => ⟨fun h => (nomatch h), fun h => (by have := h.2; cases this)⟩⟩, (e1.trans e2).trans e3⟩) (fun i σ' H' _ ⟨_, _, _, _, _, _, _, _, _, _, e⟩ => ex_l e hL) ?_ ?_
    · rintro i x σ' H' hi ⟨a4, a5, a6, a7, a8, a9, ds, rfl, hFd, hok, e⟩
      obtain ⟨r, hr1', p, v, rfl, hp, hv⟩ := hraw.get hi
      have hpH := ex_t e hp
      refine ⟨_, _, rfl, hpH, rfl, _, _, rfl, _, _, rfl, rfl, ?_⟩
      have hdr : r.1.dep < 5 := Nat.lt_of_le_of_lt (dep_le hr1') hdep
      refine q_asgR (er_ldays (ea_cons (ev_var rfl) (ea_cons (ev_var rfl) ea_nil)) (hv.mono e) hdr (ex_t e hT) hO) fun D1 H3 hD1 e3 ⟨ds1, hds1, hok1⟩ => ?_
      have hFd3 := e3 _ _ hFd
      have h12 : Fd ≠ D1 := ne_of_none hFd hD1
      have hlen1 := hok1.le
      have hlen0 := hok.le
      refine q_lockL (xs := (ds1.filter fun d => r.2 && decide (d ∈ ds)).map fun (d : Nat) => V.int (d : Int)) (el_lock hds1 trivial fun od => ?_) fun M H4 hM e4 hM4 => ?_
      · have := el_keysL (σ := [some (.ref L), some (.ref l), some (.int ((w * m : Nat) : Int)), some (.ref Fd), some v, some (.bl r.2), some (.ref D1), a7, a8, a9]) (H := upd H3 D1 (.frz od (.dK (dk ds1)))) (tl := tVar 6) (t := tAnd (tB (tVar 5)) (tB (tDIn (tVar 9) (tVar 3)))) (te := tVar 9) (j := 9) (vs := [9]) (fun i => r.2 && decide (ds1.getD i 0 ∈ ds)) (fun i => .int ((ds1.getD i 0 : Nat) : Int)) (ev_var rfl) upd_same (by omega) (fun _ => rfl) (fun i HA eA hi => et_and (et_B (ev_var rfl)) fun _ => et_B (ev_din (ev_var rfl) (ev_var rfl) (eA _ _ (by rw [upd_ne h12]; exact hFd3)))) (fun i HA eA hi _ => ev_var rfl)
        have hl : (((List.range ds1.length).filter fun i => r.2 && decide (ds1.getD i 0 ∈ ds)).map fun i => V.int ((ds1.getD i 0 : Nat) : Int)) = (ds1.filter fun d => r.2 && decide (d ∈ ds)).map fun (d : Nat) => V.int (d : Int) := by
          rw [← filter_getD ds1 fun d => r.2 && decide (d ∈ ds), List.map_map]
          rfl
        rw [← hl]
        exact this
      · have hds14 := e4 _ _ hds1
        have hMD : D1 ≠ M := ne_of_none hds1 hM
        generalize hmet : (ds1.filter fun d => r.2 && decide (d ∈ ds)) = met at hM4
        have hlm : met.length ≤ w * m := by
          rw [← hmet]
          exact Nat.le_trans (List.length_filter_le _ _) hlen1
        have hlk : (ds1.filter fun d => !decide (d ∈ met)).length ≤ w * m := Nat.le_trans (List.length_filter_le _ _) hlen1
        refine q_asgL (xs := (ds1.filter fun d => !decide (d ∈ met)).map fun (d : Nat) => V.int (d : Int)) ?_ fun Kp H5 hKp e5 hK5 => ?_
        · by_cases hm0 : met = []
          · refine el_is (el_ifF (et_is (et_test (ev_neNil (ev_var rfl) hM4)) (by rw [decide_eq_true hm0]; rfl)) (el_listD (ev_var rfl) hds14)) ?_
            rw [hm0, List.filter_eq_self.mpr]
            intro d _
            rfl
          · refine el_ifT (et_is (et_test (ev_neNil (ev_var rfl) hM4)) (by rw [decide_eq_false hm0]; rfl)) (el_lock hds14 trivial fun od => ?_)
            have := el_keysL (σ := [some (.ref L), some (.ref l), some (.int ((w * m : Nat) : Int)), some (.ref Fd), some v, some (.bl r.2), some (.ref D1), some (.ref M), a8, a9]) (H := upd H4 D1 (.frz od (.dK (dk ds1)))) (tl := tVar 6) (t := tTest (tOp (rIn K true) (tVar 9) (tVar 7))) (te := tVar 9) (j := 9) (vs := [9]) (fun i => !decide (ds1.getD i 0 ∈ met)) (fun i => .int ((ds1.getD i 0 : Nat) : Int)) (ev_var rfl) upd_same (by omega) (fun _ => rfl) (fun i HA eA hi => ev_niDs (ev_var rfl) (ev_var rfl) (eA _ _ (by rw [upd_ne hMD.symm]; exact hM4))) (fun i HA eA hi _ => ev_var rfl)
            have hl : (((List.range ds1.length).filter fun i => !decide (ds1.getD i 0 ∈ met)).map fun i => V.int ((ds1.getD i 0 : Nat) : Int)) = (ds1.filter fun d => !decide (d ∈ met)).map fun (d : Nat) => V.int (d : Int) := by
              rw [← filter_getD ds1 fun d => !decide (d ∈ met), List.map_map]
              rfl
            rw [← hl]
            exact this
        · have hM5 := e5 _ _ hM4
          have E5 := ((e.trans e3).trans e4).trans e5
          have hFd5 := e5 _ _ (e4 _ _ hFd3)
          have hok2 := all_step (y := r.2) hN (by rw [hq]; exact cal_per w m (rows.take i)) hok hok1
          rw [hmet] at hok2
          generalize hes : (ds1.filter (fun d => !decide (d ∈ met)) ++ met.map fun c => (c + 1) % (w * m)) = es at hok2
          have hle : es.length ≤ 2 * (w * m) := by
            rw [← hes, List.length_append, List.length_map]; omega
          have hFd6 : ∀ (j : Nat), ((es.take j).foldl addD ds).length ≤ ds.length + j := fun j => Nat.le_trans (fold_len _ _) (by rw [List.length_take]; omega)
          refine s_forNL (xs := es.map fun (d : Nat) => V.int (d : Int)) (el_is (el_catV (ev_var rfl) hK5 (el_lcL (fun _ => true) (fun i => .int (((met.getD i 0 + 1) % (w * m) : Nat) : Int)) (ev_var rfl) (sq_of hM5) (by rw [List.length_map]; omega) (fun _ => rfl) (fun _ _ _ _ _ => et_yes) (fun j x H6 e6 hx _ => ?_)) ?_) ?_)
            (fun p j σ' H' => ∃ a9, σ' = [some (.ref L), some (.ref l), some (.int ((w * m : Nat) : Int)), some (.ref Fd), some v, some (.bl r.2), some (.ref D1), some (.ref M), some (.ref Kp), a9] ∧ H' Fd = some (.dK (dk ((es.take j).foldl addD ds))) ∧ H' p = some (.lst (es.map fun (d : Nat) => V.int (d : Int))) ∧ p ≠ Fd ∧ Ex H H')
            (fun p H6 hp e6 h6 => ⟨a9, rfl, e6 _ _ hFd5, h6, fun z => (by rw [z, hFd5] at hp; cases hp), E5.trans e6⟩) (fun p j σ' H' _ ⟨_, _, _, h, _⟩ => sq_of h) ?_ ?_
          · rw [List.getElem?_map] at hx
            cases hj : met[j]? with
            | none => rw [hj] at hx; cases hx
            | some d =>
              rw [hj] at hx
              cases hx
              refine ev_is (ev_op (ev_op (ev_var rfl) ev_c rv_I0) (ev_var rfl) (rv_I (by omega))) ?_
              rw [List.getD_eq_getElem?_getD, hj]
              show V.int (((d : Int) + 1) % ((w * m : Nat) : Int)) = _
              rw [Int.natCast_emod]
              rfl
          · rw [List.length_map, given_all, List.length_map, List.length_range, List.length_map]; omega
          · rw [given_all, List.length_map, ← hes, List.map_append, List.map_map]
            congr 1
            exact range_getD met fun c => V.int (((c + 1) % (w * m) : Nat) : Int)
          · rintro p j x σ' H' hx ⟨a9', rfl, h1, h2, h3, e'⟩
            rw [List.getElem?_map] at hx
            cases hj : es[j]? with
            | none => rw [hj] at hx; cases hx
            | some d =>
              rw [hj] at hx
              cases hx
              have hjl := (List.getElem?_eq_some_iff.mp hj).1
              have := hFd6 j
              refine s_dput h1 ev_c (ev_var rfl) (ev_var rfl) (by omega) fun H6 e6 => ⟨_, rfl, ?_, ?_, h3, Ex.mut (e'.trans e6) hF0⟩
              · rw [upd_same, take_more hj, List.foldl_append]
                rfl
              · rw [upd_ne h3]
                exact e6 _ _ h2
          · rintro p σ' H' ⟨a9', rfl, h1, h2, h3, e'⟩
            refine ⟨_, _, _, _, _, _, _, rfl, h1, ?_, e'⟩
            rw [List.length_map, List.take_length, cal_more w m hr1']
            exact hok2
    · rintro σ' H' ⟨a4, a5, a6, a7, a8, a9, ds, rfl, hFd, hok, e⟩
      refine s_ret (ev_var rfl) fun H2 e3 => k Fd ds H2 hF0 (e.trans e3) (e3 _ _ hFd) ?_
      rw [hraw.len, List.take_length] at hok
      exact hok
theorem dn_lall (T : Txt w K mg C_BadRule C_BadRules C_BadLand C_BadDay C_BadNumber C_Feast C_Calendar) : Dn P w K mg base CX0 "_law_all" 7 ["_law_rows_here", "_law_land"] (spAll K) := T.f_l_all.dn fun _ _ F hm hb => ok_lall F T
end
end WF

set_option Elab.async false
set_option linter.all false
set_option maxRecDepth 100000
set_option maxHeartbeats 1000000
/-! nth, ahead_of, between -/
namespace WF
open PySem L2 Evl
section
variable {P : Program} {w : World} {K : PySem.W.Frag} {mg : Str → Option Value} {base : Heap} {C_BadRule C_BadRules C_BadLand C_BadDay C_BadNumber C_Feast C_Calendar : Addr} {f : Addr} {fd : FuncData}
theorem filter_len (ds : List Nat) (f : Nat → Bool) (v : Nat → V) : (given ds.length (fun i => f (ds.getD i 0)) v).length = (ds.filter f).length := by
  unfold given
  rw [List.length_map, ← filter_getD ds f, List.length_map]
/-- xs == [] -/
theorem ev_eqNil {σ : L2.St} {H : Hp} {ta : TE} {a : Addr} {ds : List Nat} (h : Ev ta σ H (.ref a)) (ha : H a = some (.lst (ds.map fun (d : Nat) => V.int (d : Int)))) : Ev (tOp (rEqD K) ta (tLst tNil)) σ H (.bl (decide (ds = []))) :=
  ev_opL h (el_lst ea_nil (Nat.zero_le _)) fun p H1 hp e1 H2 e2 Q q => ⟨.list ((ds.map fun (d : Nat) => (d : Int)).map PyData.int), .list [], .lst (sq_of ((e1.trans e2) _ _ ha)) (by
    have := dp_ints (K := K) (H := H2) (ds.map fun (d : Nat) => (d : Int))
    rw [List.map_map] at this
    exact this), .lst (sq_of (e2 _ _ hp)) .nil, PySem.W.ke_shaped_ints _, PySem.W.ke_shaped_ints [], by
    rw [eqv_nil]
    have : decide ((ds.map fun (d : Nat) => (d : Int)) = []) = decide (ds = []) := by
      cases ds <;> rfl
    rw [this]
    exact q H2 (Ex.refl H2)⟩
def nthV (w m : Nat) (ds : List Nat) (n : Int) : V := if ds = [] then .non else .int (n / (ds.length : Int) * w * m + ((ds.getD (n % (ds.length : Int)).toNat 0 : Nat) : Int))
def spNth (K : PySem.W.Frag) (CF CC CL CN : Addr) : Sp := fun vs H Q E => ∃ c l v o z, vs = [c, l, v] ∧ NeedL K H l o ∧ NumV K H v z ∧ (o = none → ∀ H1, Ex H H1 → E (.ref CL) none H1) ∧ (o ≠ none → fromB z 0 = false → ∀ H1, Ex H H1 → E (.ref CN) none H1) ∧
  (∀ w m n, o = some (w, m) → z = some n → fromB z 0 = true → ∃ rows, CalAt K CF CC H c rows ∧ depMax rows < 5 ∧ RetV (nthV w m (daysN (w * m) (calDay w m rows)) n) H Q)
theorem ok_nth (F : Fun K "nth" "nth" s_nth f fd) (T : Txt w K mg C_BadRule C_BadRules C_BadLand C_BadDay C_BadNumber C_Feast C_Calendar) (CF : Cls1 K C_Feast ["told", "bys"]) (CC : Cls1 K C_Calendar ["rows", "near"]) : FnOk P w K mg base (L2.CX P w) 8 f fd ["calendar", "land", "n"] (spNth K C_Feast C_Calendar C_BadLand C_BadNumber) := by
  have D_need_land : Dn P w K mg base (L2.CX P w) "need_land" 3 ["value"] (spNeedLand K C_BadLand) := dn_need_land T
  have D_is_from : Dn P w K mg base CX0 "is_from" 1 ["value", "least"] (spIsFrom K) := dn_is_from T
  have D_days_of : Dn P w K mg base CX0 "days_of" 7 ["rows", "land"] (spDays K C_Feast) := dn_days T CF
  have D_listed : Dn P w K mg base CX0 "listed" 1 ["figure"] spListed := dn_listed T
  refine F.okX sc_nth (fun vs H Q E h => ?_) (fun cdv A outer s H vs Q E hr h => ?_)
  · obtain ⟨_, _, _, _, _, rfl, _⟩ := h
    rfl
  · obtain ⟨c, l, v, o, z, rfl, hL, hZ, kL, kN, kG⟩ := h
    have hr1 : Room 1 _ := hr.mono (by omega)
    refine ⟨_, (pss_cons (ps_expr (pe_fn D_need_land (hr.mono (by omega)) (passes_call (takes_of rfl rfl rfl rfl) (fun _ _ _ _ h => h)) rfl (pa_cons (pv 1) pa_nil)))
  (pss_cons (ps_if (pt_not (pt_val (pe_fn D_is_from (hr.mono (by omega)) pass0 rfl (pa_cons (pv 2) (pa_cons pe_int pa_nil))))) (pss_one (ps_raise0 rfl (takes_of rfl rfl rfl rfl) T.e_BadNumber T.c_BadNumber rfl))
  pss_nil)
  (pss_cons (ps_set (i := 3) sc_nth.nd rfl (by first | exact Or.inl rfl | exact Or.inr rfl) (pe_fn D_listed (hr.mono (by omega)) pass0 rfl (pa_cons (pe_fn D_days_of (hr.mono (by omega)) pass0 rfl (pa_cons (pe_fld (pv 0) rfl) (pa_cons (pv 1) pa_nil))) pa_nil)))
  (pss_cons (ps_if (pt_cmpR (op_eqD hr1.units) (pv 3) (pe_lst pa_nil) (nomark _)) (pss_one (ps_ret pe_non))
  pss_nil)
  (pss_one (ps_ret (pe_op op_add (pe_op op_mul (pe_op op_mul (pe_op op_fdiv (pv 2) (pe_callB call_len_seq (by rfl) T.len (by decide +kernel) (pa_cons (pv 3) pa_nil))) (pe_ix ix_tup (pv 1) pe_int (fun _ _ => rfl))) (pe_ix ix_tup (pv 1) pe_int (fun _ _ => rfl))) (pe_ix ix_list (pv 3) (pe_op op_mod (pv 2) (pe_callB call_len_seq (by rfl) T.len (by decide +kernel) (pa_cons (pv 3) pa_nil))) (fun _ _ => rfl))))))))), ?_⟩
    refine q_dropX (ea_cons (ev_var rfl) ea_nil) fun H1 e1 => ⟨l, o, rfl, hL.mono e1, fun ho H2 e2 => ?_, fun ho H2 e2 => kL ho H2 (e1.trans e2)⟩
    refine q_when (et_not (et_B (ev_call (ea_cons (ev_var rfl) (ea_cons ev_c ea_nil)) (spV (z := .bl (fromB z 0)) fun H3 e3 Q _ q => ⟨_, _, _, rfl, hZ.mono ((e1.trans e2).trans e3), q⟩)))) (fun hb H3 e3 => ?_) (fun hb H3 e3 => ?_)
    · exact kN ho (by simpa using hb) H3 ((e1.trans e2).trans e3)
    · have hb : fromB z 0 = true := by simpa using hb
      have E3 := (e1.trans e2).trans e3
      cases hL with
      | bad h => exact absurd rfl ho
      | big h c z0 z => exact absurd rfl ho
      | good hT hO cp zz =>
        rename_i la w m
        cases hZ with
        | odd h n => cases hb
        | int n =>
          obtain ⟨rows, ⟨ca, dx, rv, rfl, hc, hrv⟩, hdep, k⟩ := kG w m n rfl rfl hb
          obtain ⟨w2, wm, m6, n5⟩ := id hO
          have hn : 0 ≤ n ∧ n ≤ 10 ^ 30 := by
            have h : (decide (0 ≤ n) && decide (n ≤ 10 ^ 30)) = true := hb
            rw [Bool.and_eq_true, decide_eq_true_iff, decide_eq_true_iff] at h
            exact h
          have hlen := daysN_len (w * m) (calDay w m rows)
          refine q_asgL (el_call (ea_cons (ev_call (ea_cons (ev_fld (ev_var rfl) (E3 _ _ hc) CC.cl (CC.no _ (by simp)) (calF_rows _ _)) (ea_cons (ev_var rfl) ea_nil)) (spv_days (hrv.mono E3) hdep (ex_t E3 hT) hO)) ea_nil) (spL fun H5 _ Q _ q => ⟨w * m, calDay w m rows, rfl, by omega, q⟩)) fun D H4 hD e4 hD4 => ?_
          generalize hds : daysN (w * m) (calDay w m rows) = ds at hD4 hlen k
          refine q_when (et_test (ev_eqNil (ev_var rfl) hD4)) (fun hb H5 e5 => ?_) (fun hb H5 e5 => ?_)
          · refine s_ret ev_c fun H6 e6 => ?_
            have := k H6 (((E3.trans e4).trans e5).trans e6)
            unfold nthV at this
            rw [if_pos (of_decide_eq_true hb)] at this
            exact this
          · have hne := of_decide_eq_false hb
            have hpos : 0 < ds.length := List.length_pos_iff.mpr hne
            have h0 := Int.emod_nonneg n (show (ds.length : Int) ≠ 0 by omega)
            have h1 := Int.emod_lt_of_pos n (show (0 : Int) < (ds.length : Int) by omega)
            have hlt : (n % (ds.length : Int)).toNat < ds.length := by omega
            have hD5 := e5 _ _ hD4
            have hT5 := ex_t ((E3.trans e4).trans e5) hT
            have hlm : ((ds.map fun (d : Nat) => V.int (d : Int)).length : Int) = (ds.length : Int) := by rw [List.length_map]
            have hat : atI (ds.map fun (d : Nat) => V.int (d : Int)) (n % (ds.length : Int)) = some (.int ((ds.getD (n % (ds.length : Int)).toNat 0 : Nat) : Int)) := by
              have : (ds.map fun (d : Nat) => V.int (d : Int))[(n % (ds.length : Int)).toNat]? = some (.int ((ds.getD (n % (ds.length : Int)).toNat 0 : Nat) : Int)) := by
                rw [List.getElem?_map, List.getD_eq_getElem?_getD, List.getElem?_eq_getElem hlt]
                rfl
              have h2 := atI_nat this
              rwa [Int.toNat_of_nonneg h0] at h2
            refine s_ret (v := .int (n / (ds.length : Int) * w * m + ((ds.getD (n % (ds.length : Int)).toNat 0 : Nat) : Int))) (ev_op (ev_op (ev_op (ev_op (ev_var rfl) (ev_is (ev_lenL (ev_var rfl) (sq_of hD5)) (congrArg V.int hlm)) (rv_I ?_)) (ev_ixT (ev_var rfl) hT5 rfl) (rv_I (.inr ⟨by omega, by omega⟩))) (ev_ixT (ev_var rfl) hT5 rfl) (rv_I (.inr ⟨by omega, by omega⟩))) (ev_op (ev_var rfl) (ev_op (ev_var rfl) (ev_is (ev_lenL (ev_var rfl) (sq_of hD5)) (congrArg V.int hlm)) (rv_I (by show 0 < _; omega))) (rv_ixL (sq_of hD5) hat)) rv_I0) fun H6 e6 => ?_
            · refine ⟨by omega, ?_⟩
              omega
            · have := k H6 (((E3.trans e4).trans e5).trans e6)
              unfold nthV at this
              rw [if_neg hne] at this
              exact this
theorem dn_nth (T : Txt w K mg C_BadRule C_BadRules C_BadLand C_BadDay C_BadNumber C_Feast C_Calendar) (CF : Cls1 K C_Feast ["told", "bys"]) (CC : Cls1 K C_Calendar ["rows", "near"]) : Dn P w K mg base (L2.CX P w) "nth" 8 ["calendar", "land", "n"] (spNth K C_Feast C_Calendar C_BadLand C_BadNumber) := T.f_nth.dn fun _ _ F _ _ => ok_nth F T CF CC
end
end WF

set_option Elab.async false
set_option linter.all false
set_option maxRecDepth 100000
set_option maxHeartbeats 1000000
/-! deciding: lands_to, enough, first_unlike, parting, alike -/
namespace WF
open PySem L2 Evl
section
variable {P : Program} {w : World} {K : PySem.W.Frag} {mg : Str → Option Value} {base : Heap} {C_BadRule C_BadRules C_BadLand C_BadDay C_BadNumber C_Feast C_Calendar : Addr} {f : Addr} {fd : FuncData}
theorem ok_lands_to (F : Fun K "lands_to" "lands_to" s_lands_to f fd) (T : Txt w K mg C_BadRule C_BadRules C_BadLand C_BadDay C_BadNumber C_Feast C_Calendar) : FnOk P w K mg base CX0 2 f fd ["weeks", "months"] (spLands K) := by
  have D_divisor : Dn P w K mg base CX0 "divisor" 1 ["one", "other"] sp_divisor := dn_divisor T
  refine F.ok sc_lands_to (fun vs H Q E h => ?_) (fun cdv A outer s H vs Q E hr h => ?_)
  · obtain ⟨_, _, rfl, _⟩ := h
    rfl
  · obtain ⟨W, M, rfl, hW1, hW, hM, k⟩ := h
    refine ⟨_, (pss_cons (ps_setLc2 (i := 2) (own := [("w", 3), ("m", 4)]) (vs1 := [4]) (g := gName 3) (g1 := gName 4) (tt := tYes) rfl sc_lands_to.nd rfl rfl (sw_true rfl rfl rfl (by decide +kernel)) (pi_range2 (by rfl) T.range (pa_cons pe_int (pa_cons (pe_op op_add (pv 0) pe_int) pa_nil))) (blkOk_by (own := [("w", 3), ("m", 4)]) (N := ["weeks", "months", "some", "w", "m"]) (sc := defScope s_lands_to) (by decide +kernel)) (by decide) (fun _ _ _ _ _ => (pg_name (i := 3) sc_lands_to.nd rfl (by first | exact Or.inl rfl | exact Or.inr rfl))) (fun _ _ _ _ _ => pts_nil) (fun _ _ _ _ _ => (pi_range2 (by rfl) T.range (pa_cons (pe_op op_add (pv 3) pe_int) (pa_cons (pe_op op_add (pv 1) pe_int) pa_nil)))) (fun _ _ _ _ _ => (pg_name (i := 4) sc_lands_to.nd rfl (by first | exact Or.inl rfl | exact Or.inr rfl))) (fun _ _ _ _ _ => (pts_one (pt_cmpR op_eq (pe_fn D_divisor (hr.mono (by omega)) pass0 rfl (pa_cons (pv 4) (pa_cons (pv 3) pa_nil))) pe_int (nomark _)))) (fun _ _ _ _ _ => (pe_tup (pa_cons (pv 3) (pa_cons (pv 4) pa_nil)))))
  (pss_one (ps_ret (pe_sortSum rfl hr.units rfl T.sorted rfl T.sum (pa_cons (pv 2) pa_nil))))), ?_⟩
    have hn : ((W : Int) + 1 - 2).toNat = W - 1 := by omega
    refine q_asgR (R := fun p H2 => ∃ xs, H2 p = some (.lst xs) ∧ LandL K H2 xs (rawL M (W - 1))) (fun H0 e0 Q0 q0 => ?_) fun p H1 hp e1 ⟨xs, h1, hl⟩ => ?_
    · have hA : EvA (tCons (tC (.int 2)) (tCons (tOp (rI0 fun i j => .int (i + j)) (tVar 0) (tC (.int 1))) tNil)) (start ["weeks", "months", "some", "w", "m"] [.int (W : Int), .int (M : Int)]) H0 [.int 2, .int ((W : Int) + 1)] := ea_cons ev_c (ea_cons (ev_op (ev_var rfl) ev_c rv_I0) ea_nil)
      unfold tLc2
      refine iRng2_ev hA ⟨by omega, by omega, by omega, by omega⟩ hn fun H1 e1 => ?_
      refine fun Dl hD => lc2_out (lo := 2) (n := W - 1) (fun i H' => Ex H1 H' ∧ ∃ xs, H' Dl = some (.lst xs) ∧ LandL K H' xs (rawL M i)) ⟨Ex.new hD, [], upd_same, trivial⟩ ?_ ?_
      · rintro i H' hi ⟨e, xs, h, hl⟩
        have hm : ((M : Int) + 1 - (2 + (i : Int) + 1)).toNat = M - (2 + i) := by omega
        have hlen := hl.len
        have hrl := rawL_len M i
        have hiM : i * M ≤ 100 * 100 := Nat.mul_le_mul (by omega) hM
        refine ⟨rfl, et_yes H' (Ex.refl H') _ fun H2 e2 => ?_⟩
        have hB : EvA (tCons (tOp (rI0 fun i j => .int (i + j)) (tVar 3) (tC (.int 1))) (tCons (tOp (rI0 fun i j => .int (i + j)) (tVar 1) (tC (.int 1))) tNil)) ((wipe (start ["weeks", "months", "some", "w", "m"] [.int (W : Int), .int (M : Int)]) [3, 4]).set 3 (some (.int (2 + (i : Int))))) H2 [.int (2 + (i : Int) + 1), .int ((M : Int) + 1)] := ea_cons (ev_op (ev_var rfl) ev_c rv_I0) (ea_cons (ev_op (ev_var rfl) ev_c rv_I0) ea_nil)
        rw [if_pos rfl]
        refine iRng2_ev hB ⟨by omega, by omega, by omega, by omega⟩ hm fun H3 e3 => ?_
        refine lc2_in (lo := 2 + (i : Int) + 1) (n := M - (2 + i)) (fun j H4 => Ex H1 H4 ∧ ∃ ys, H4 Dl = some (.lst ys) ∧ LandL K H4 ys (rawL M i ++ mL M (2 + i) j)) ⟨(e.trans e2).trans e3, xs, (e2.trans e3) _ _ h, by rw [show mL M (2 + i) 0 = [] from rfl, List.append_nil]; exact hl.kn (KeepN.of (e2.trans e3))⟩ ?_ ?_
        · rintro j H4 hj ⟨e4, ys, h4, hl4⟩
          have hw : (2 + (i : Int)) = ((2 + i : Nat) : Int) := by omega
          have hm2 : (2 + (i : Int) + 1 + (j : Int)) = ((2 + i + 1 + j : Nat) : Int) := by omega
          have hy4 := hl4.len
          rw [List.length_append] at hy4
          have hml := mL_len M (2 + i) j
          have ht : EvT (tTest (tOp rEq (tCall sp_divisor [] E0 (tCons (tVar 4) (tCons (tVar 3) tNil))) (tC (.int 1)))) ((wipe ((wipe (start ["weeks", "months", "some", "w", "m"] [.int (W : Int), .int (M : Int)]) [3, 4]).set 3 (some (.int (2 + (i : Int))))) [4]).set 4 (some (.int (2 + (i : Int) + 1 + (j : Int))))) H4 (decide (Nat.gcd (2 + i + 1 + j) (2 + i) = 1)) :=
            et_is (et_cmp (ev_call (ea_cons (ev_is (ev_var rfl) (congrArg V.int hm2)) (ea_cons (ev_is (ev_var rfl) (congrArg V.int hw)) ea_nil)) (spV (z := .int (Nat.gcd (2 + i + 1 + j) (2 + i) : Nat)) fun H5 _ Q _ q => ⟨_, _, rfl, q⟩)) ev_c (rv_eq rfl)) (by
              by_cases h : Nat.gcd (2 + i + 1 + j) (2 + i) = 1
              · rw [decide_eq_true h, h]; rfl
              · rw [decide_eq_false h, decide_eq_false]
                intro q
                have := V.int.inj q
                omega)
          refine ⟨rfl, ht H4 (Ex.refl H4) _ fun H5 e5 => ?_⟩
          by_cases hg : Nat.gcd (2 + i + 1 + j) (2 + i) = 1
          · rw [decide_eq_true hg, if_pos rfl]
            refine ⟨_, rfl, _, rfl, by show 2 ≤ sizeLine; decide, fun t htn => ⟨ys, (Ex.new htn) _ _ (e5 _ _ h4), Evl.sz_lt (by omega), ?_⟩⟩
            have hne : Dl ≠ t := ne_of_none (e5 _ _ h4) htn
            have e6 : Ex H4 (upd H5 t (.tup [.int (2 + (i : Int)), .int (2 + (i : Int) + 1 + (j : Int))])) := e5.trans (Ex.new htn)
            have kn : KeepN H4 (upd (upd H5 t (.tup [.int (2 + (i : Int)), .int (2 + (i : Int) + 1 + (j : Int))])) Dl (.lst (ys ++ [.ref t]))) := (KeepN.of e6).lst h4
            refine ⟨(e4.trans e6).mut hD, ys ++ [.ref t], upd_same, ?_⟩
            rw [mL_succ, if_pos hg, ← List.append_assoc]
            refine LandL.snoc (hl4.kn kn) ?_
            show SqT K _ t [.int ((2 + i : Nat) : Int), .int ((2 + i + 1 + j : Nat) : Int)]
            rw [← hw, ← hm2]
            exact sqt_kn ((KeepN.refl _).lst ((Ex.new htn) _ _ (e5 _ _ h4))) (st_of upd_same)
          · rw [decide_eq_false hg, if_neg (by decide)]
            refine ⟨e4.trans e5, ys, e5 _ _ h4, ?_⟩
            rw [mL_succ, if_neg hg, List.append_nil]
            exact hl4.kn (KeepN.of e5)
        · rintro H4 ⟨e4, ys, h4, hl4⟩
          refine ⟨e4, ys, h4, ?_⟩
          rw [rawL_succ]
          exact hl4
      · rintro H' ⟨e, xs, h, hl⟩
        exact q0 Dl H' (fresh_back e1 hD) (e1.trans e) ⟨xs, h, hl⟩
    · refine s_retX ⟨_, rfl, p, xs, rawL M (W - 1), rfl, sq_of h1, hl, fun ys q hY hq => ?_⟩
      rw [lands_eq W M hW1] at hY
      exact k q ys _ (fresh_back e1 hq) (e1.trans (Ex.new hq)) upd_same (hY.kn (KeepN.of (Ex.new hq)))
theorem dn_lands_to (T : Txt w K mg C_BadRule C_BadRules C_BadLand C_BadDay C_BadNumber C_Feast C_Calendar) : Dn P w K mg base CX0 "lands_to" 2 ["weeks", "months"] (spLands K) := T.f_lands_to.dn fun _ _ F _ _ => ok_lands_to F T
def spEnough (K : PySem.W.Frag) : Sp := fun vs H Q _ => ∃ r : Nat, vs = [.int (r : Int)] ∧ r ≤ 10 ∧ ∀ p xs H2, H p = none → Ex H H2 → H2 p = some (.lst xs) → LandL K H2 xs (enoughL r) → Q (.ref p) H2
theorem ok_enough (F : Fun K "enough" "enough" s_enough f fd) (T : Txt w K mg C_BadRule C_BadRules C_BadLand C_BadDay C_BadNumber C_Feast C_Calendar) : FnOk P w K mg base CX0 3 f fd ["reach"] (spEnough K) := by
  have D_lands_to : Dn P w K mg base CX0 "lands_to" 2 ["weeks", "months"] (spLands K) := dn_lands_to T
  refine F.ok sc_enough (fun vs H Q E h => ?_) (fun cdv A outer s H vs Q E hr h => ?_)
  · obtain ⟨_, rfl, _⟩ := h
    rfl
  · obtain ⟨r, rfl, hr10, k⟩ := h
    refine ⟨_, (pss_one (ps_ret (pe_fn D_lands_to (hr.mono (by omega)) pass0 rfl (pa_cons (pe_op op_add (pe_op op_mul (pe_globE rfl T.g_WEEKS) (pv 0)) pe_int) (pa_cons (pe_op op_add (pe_op op_mul (pe_globE rfl T.g_MONTHS) (pv 0)) pe_int) pa_nil))))), ?_⟩
    exact s_retC (ea_cons (ev_is (ev_op (ev_op ev_c (ev_var rfl) (rv_I (.inl ⟨by decide, by decide⟩))) ev_c rv_I0) (show _ = V.int ((4 * r + 1 : Nat) : Int) from congrArg V.int (by omega))) (ea_cons (ev_is (ev_op (ev_op ev_c (ev_var rfl) (rv_I (.inl ⟨by decide, by decide⟩))) ev_c rv_I0) (show _ = V.int ((6 * r + 1 : Nat) : Int) from congrArg V.int (by omega))) ea_nil)) fun H1 e1 => ⟨4 * r + 1, 6 * r + 1, rfl, by omega, by omega, by omega, fun p xs H2 hp e2 h2 hl => k p xs H2 (fresh_back e1 hp) (e1.trans e2) h2 hl⟩
theorem dn_enough (T : Txt w K mg C_BadRule C_BadRules C_BadLand C_BadDay C_BadNumber C_Feast C_Calendar) : Dn P w K mg base CX0 "enough" 3 ["reach"] (spEnough K) := T.f_enough.dn fun _ _ F _ _ => ok_enough F T
theorem er_enough {σ : L2.St} {H : Hp} {ta : TA} {E : XK} {r : Nat} (h : EvA ta σ H [.int (r : Int)]) (hr : r ≤ 10) : EvR (tCall (spEnough K) [] E ta) σ H fun p H2 => ∃ xs, H2 p = some (.lst xs) ∧ LandL K H2 xs (enoughL r) := fun H1 e Q q =>
  h H1 e _ fun H2 e2 => ⟨r, rfl, hr, fun p xs H3 hp e3 h3 hl => q p H3 (fresh_back e2 hp) (e2.trans e3) ⟨xs, h3, hl⟩⟩
def spUnlike (K : PySem.W.Frag) (CF : Addr) : Sp := fun vs H Q _ => ∃ (u v : V) (one other : Rows) (r : Nat), vs = [u, v, .int (r : Int)] ∧ RowsAt K CF H u one ∧ RowsAt K CF H v other ∧ depMax one < 5 ∧ depMax other < 5 ∧ r ≤ 10 ∧ RetW K (unlikeO one other (enoughL r)) H Q
theorem ok_first_unlike (F : Fun K "first_unlike" "first_unlike" s_first_unlike f fd) (T : Txt w K mg C_BadRule C_BadRules C_BadLand C_BadDay C_BadNumber C_Feast C_Calendar) (CF : Cls1 K C_Feast ["told", "bys"]) : FnOk P w K mg base CX0 8 f fd ["one", "other", "reach"] (spUnlike K C_Feast) := by
  have D_days_of : Dn P w K mg base CX0 "days_of" 7 ["rows", "land"] (spDays K C_Feast) := dn_days T CF
  have D_listed : Dn P w K mg base CX0 "listed" 1 ["figure"] spListed := dn_listed T
  have D_enough : Dn P w K mg base CX0 "enough" 3 ["reach"] (spEnough K) := dn_enough T
  refine F.ok sc_first_unlike (fun vs H Q E h => ?_) (fun cdv A outer s H vs Q E hr h => ?_)
  · obtain ⟨_, _, _, _, _, rfl, _⟩ := h
    rfl
  · obtain ⟨u, v, one, other, r, rfl, hu1, hv1, hd1, hd2, hr10, k⟩ := h
    refine ⟨_, (pss_cons (ps_for PassesOwn.never rfl (pi_list (pe_fn D_enough (hr.mono (by omega)) pass0 rfl (pa_cons (pv 2) pa_nil))) (pg_name (i := 3) sc_first_unlike.nd rfl (by first | exact Or.inl rfl | exact Or.inr rfl))
  (pss_cons (ps_set (i := 4) sc_first_unlike.nd rfl (by first | exact Or.inl rfl | exact Or.inr rfl) (pe_op op_xor (pe_fn D_days_of (hr.mono (by omega)) pass0 rfl (pa_cons (pv 0) (pa_cons (pv 3) pa_nil))) (pe_fn D_days_of (hr.mono (by omega)) pass0 rfl (pa_cons (pv 1) (pa_cons (pv 3) pa_nil)))))
  (pss_one (ps_if (pt_cmpR op_ne (pv 4) pe_int (nomark _)) (pss_one (ps_ret (pe_tup (pa_cons (pv 3) (pa_cons (pe_ix ix_list (pe_fn D_listed (hr.mono (by omega)) pass0 rfl (pa_cons (pv 4) pa_nil)) pe_int (fun _ _ => rfl)) pa_nil)))))
  pss_nil))))
  (pss_one (ps_ret pe_non))), ?_⟩
    refine q_forER (er_enough (ea_cons (ev_var rfl) ea_nil) hr10) (fun p xs i σ' H' => ∃ a3 a4, σ' = [some u, some v, some (.int (r : Int)), a3, a4] ∧ Ex H H' ∧ H' p = some (.lst xs) ∧ LandL K H' xs (enoughL r) ∧ ((enoughL r).take i).findSome? (unlikeAt one other) = none)
      (fun p xs H1 hp e1 h1 hl => ⟨none, none, rfl, e1, h1, hl, rfl⟩) (fun p xs i σ' H' _ ⟨_, _, _, _, h, _⟩ => sq_of h) ?_ ?_
    · rintro p xs i x σ' H' hi ⟨a3, a4, rfl, e, hp, hl, hf⟩
      obtain ⟨⟨lw, lm⟩, lp, hget, rfl, hT⟩ := hl.get hi
      have hmem : (lw, lm) ∈ enoughL r := List.mem_of_getElem? hget
      have hO : LandOk lw lm := enoughL_ok hr10 hmem
      obtain ⟨w2, wm, m6, n5⟩ := id hO
      refine q_asg (v := .int (figN (lw * lm) (unlikeB one other (lw, lm)) : Nat)) (ev_is (ev_op (ev_call (ea_cons (ev_var rfl) (ea_cons (ev_var rfl) ea_nil)) (spv_days (hu1.mono e) hd1 hT hO)) (ev_call (ea_cons (ev_var rfl) (ea_cons (ev_var rfl) ea_nil)) (spv_days (hv1.mono e) hd2 hT hO)) rv_I0) (by rw [fig_xor]; rfl)) fun H1 e1 => ?_
      cases hdn : daysN (lw * lm) (unlikeB one other (lw, lm)) with
      | nil =>
        have h0 := figN_nil hdn
        refine s_no (et_is (et_cmp (ev_var rfl) ev_c (rv_ne rfl)) (by rw [h0]; rfl)) fun H2 e2 => ⟨_, _, rfl, (e.trans e1).trans e2, (e1.trans e2) _ _ hp, hl.kn (KeepN.of (e1.trans e2)), find_more hget hf (by unfold unlikeAt; rw [hdn]; rfl)⟩
      | cons d ds =>
        have h0 := figN_pos (N := lw * lm) (q := unlikeB one other (lw, lm)) (by rw [hdn]; simp)
        refine s_yes (et_is (et_cmp (ev_var rfl) ev_c (rv_ne rfl)) (by
          rw [decide_eq_false]
          · rfl
          · intro q
            have := V.int.inj q
            omega)) fun H2 e2 => ?_
        have E2 := (e.trans e1).trans e2
        refine s_retU (eu_tup (vs := [.ref lp, .int (d : Int)]) (ea_cons (ev_var rfl) (ea_cons (ev_opL1 (el_call (ea_cons (ev_var rfl) ea_nil) (spL fun H3 _ Q _ q => ⟨_, _, rfl, by omega, q⟩)) (fun _ _ => ev_c) fun q H3 hq _ => rv_ixL (i := 0) (sq_of hq) (by rw [hdn]; exact at0)) ea_nil)) (by show 2 ≤ 100000; decide)) fun t H3 _ e3 h3 => ?_
        refine k.2 (lw, lm) d (find_hit hget hf (by unfold unlikeAt; rw [hdn]; rfl)) t lp H3 (E2.trans e3) h3 (ex_t ((e1.trans e2).trans e3) hT)
    · rintro p xs σ' H' ⟨a3, a4, rfl, e, hp, hl, hf⟩
      rw [hl.len, List.take_length] at hf
      exact s_ret ev_c fun H1 e1 => k.1 hf H1 (e.trans e1)
theorem dn_first_unlike (T : Txt w K mg C_BadRule C_BadRules C_BadLand C_BadDay C_BadNumber C_Feast C_Calendar) (CF : Cls1 K C_Feast ["told", "bys"]) : Dn P w K mg base CX0 "first_unlike" 8 ["one", "other", "reach"] (spUnlike K C_Feast) := T.f_first_unlike.dn fun _ _ F _ _ => ok_first_unlike F T CF
theorem ev_nmax {σ : L2.St} {H : Hp} {ta tb : TE} {a b : Nat} (ha : Ev ta σ H (.int (a : Int))) (hb : Ev tb σ H (.int (b : Int))) : Ev (tCB rMax2 (tCons ta (tCons tb tNil))) σ H (.int ((max a b : Nat) : Int)) := ev_is (ev_max2 ha hb) (by
  refine congrArg V.int ?_
  split <;> omega)
def spParting (K : PySem.W.Frag) (CF CC : Addr) : Sp := fun vs H Q _ => ∃ (u v : V) (one other : Rows), vs = [u, v] ∧ CalAt K CF CC H u one ∧ CalAt K CF CC H v other ∧ depMax one < 5 ∧ depMax other < 5 ∧ reachOf one ≤ 10 ∧ reachOf other ≤ 10 ∧ RetW K (unlikeO one other (enoughL (max (reachOf one) (reachOf other)))) H Q
theorem ok_parting (F : Fun K "parting" "parting" s_parting f fd) (T : Txt w K mg C_BadRule C_BadRules C_BadLand C_BadDay C_BadNumber C_Feast C_Calendar) (CF : Cls1 K C_Feast ["told", "bys"]) (CC : Cls1 K C_Calendar ["rows", "near"]) : FnOk P w K mg base CX0 9 f fd ["one", "other"] (spParting K C_Feast C_Calendar) := by
  have D_first_unlike : Dn P w K mg base CX0 "first_unlike" 8 ["one", "other", "reach"] (spUnlike K C_Feast) := dn_first_unlike T CF
  refine F.ok sc_parting (fun vs H Q E h => ?_) (fun cdv A outer s H vs Q E hr h => ?_)
  · obtain ⟨_, _, _, _, rfl, _⟩ := h
    rfl
  · obtain ⟨u, v, one, other, rfl, ⟨cu, dxu, ru, rfl, hu, hru⟩, ⟨cv, dxv, rv, rfl, hv, hrv⟩, hd1, hd2, hr1, hr2, k⟩ := h
    refine ⟨_, (pss_one (ps_ret (pe_fn D_first_unlike (hr.mono (by omega)) pass0 rfl (pa_cons (pe_fld (pv 0) rfl) (pa_cons (pe_fld (pv 1) rfl) (pa_cons (pe_callB (call_max2 rfl) (by rfl) T.max (by decide +kernel) (pa_cons (pe_fld (pv 0) rfl) (pa_cons (pe_fld (pv 1) rfl) pa_nil))) pa_nil)))))), ?_⟩
    exact s_retC (ea_cons (ev_fld (ev_var rfl) hu CC.cl (CC.no _ (by simp)) (calF_rows _ _)) (ea_cons (ev_fld (ev_var rfl) hv CC.cl (CC.no _ (by simp)) (calF_rows _ _)) (ea_cons (ev_nmax (ev_fld (ev_var rfl) hu CC.cl (CC.no _ (by simp)) (calF_near _ _)) (ev_fld (ev_var rfl) hv CC.cl (CC.no _ (by simp)) (calF_near _ _))) ea_nil))) fun H1 e1 => ⟨_, _, one, other, _, rfl, hru.mono e1, hrv.mono e1, hd1, hd2, by omega, k.back e1⟩
theorem dn_parting (T : Txt w K mg C_BadRule C_BadRules C_BadLand C_BadDay C_BadNumber C_Feast C_Calendar) (CF : Cls1 K C_Feast ["told", "bys"]) (CC : Cls1 K C_Calendar ["rows", "near"]) : Dn P w K mg base CX0 "parting" 9 ["one", "other"] (spParting K C_Feast C_Calendar) := T.f_parting.dn fun _ _ F _ _ => ok_parting F T CF CC
def spAlike (K : PySem.W.Frag) (CF CC : Addr) : Sp := fun vs H Q _ => ∃ (u v : V) (one other : Rows), vs = [u, v] ∧ CalAt K CF CC H u one ∧ CalAt K CF CC H v other ∧ depMax one < 5 ∧ depMax other < 5 ∧ reachOf one ≤ 10 ∧ reachOf other ≤ 10 ∧ RetV (.bl (unlikeO one other (enoughL (max (reachOf one) (reachOf other)))).isNone) H Q
theorem ok_alike (F : Fun K "alike" "alike" s_alike f fd) (T : Txt w K mg C_BadRule C_BadRules C_BadLand C_BadDay C_BadNumber C_Feast C_Calendar) (CF : Cls1 K C_Feast ["told", "bys"]) (CC : Cls1 K C_Calendar ["rows", "near"]) : FnOk P w K mg base CX0 10 f fd ["one", "other"] (spAlike K C_Feast C_Calendar) := by
  have D_parting : Dn P w K mg base CX0 "parting" 9 ["one", "other"] (spParting K C_Feast C_Calendar) := dn_parting T CF CC
  refine F.ok sc_alike (fun vs H Q E h => ?_) (fun cdv A outer s H vs Q E hr h => ?_)
  · obtain ⟨_, _, _, _, rfl, _⟩ := h
    rfl
  · obtain ⟨u, v, one, other, rfl, hu, hv, hd1, hd2, hr1, hr2, k⟩ := h
    refine ⟨_, (pss_one (ps_ret (pe_cmpR op_isN (pe_fn D_parting (hr.mono (by omega)) pass0 rfl (pa_cons (pv 0) (pa_cons (pv 1) pa_nil))) pe_non (nomark _)))), ?_⟩
    refine s_retX (call_ev (ea_cons (ev_var rfl) (ea_cons (ev_var rfl) ea_nil)) fun H1 e1 => ⟨u, v, one, other, rfl, hu.mono e1, hv.mono e1, hd1, hd2, hr1, hr2, fun ho H2 e2 => ⟨rfl, ?_⟩, fun l d ho t lp H2 e2 h1 h2 => ⟨rfl, ?_⟩⟩)
    · rw [ho] at k
      exact k H2 (e1.trans e2)
    · rw [ho] at k
      exact k H2 (e1.trans e2)
theorem dn_alike (T : Txt w K mg C_BadRule C_BadRules C_BadLand C_BadDay C_BadNumber C_Feast C_Calendar) (CF : Cls1 K C_Feast ["told", "bys"]) (CC : Cls1 K C_Calendar ["rows", "near"]) : Dn P w K mg base CX0 "alike" 10 ["one", "other"] (spAlike K C_Feast C_Calendar) := T.f_alike.dn fun _ _ F _ _ => ok_alike F T CF CC
end
end WF

set_option Elab.async false
set_option linter.all false
set_option maxRecDepth 100000
set_option maxHeartbeats 1000000
/-! the law's own bys and reach -/
namespace WF
open PySem L2 Evl
section
variable {P : Program} {w : World} {K : PySem.W.Frag} {mg : Str → Option Value} {base : Heap} {C_BadRule C_BadRules C_BadLand C_BadDay C_BadNumber C_Feast C_Calendar : Addr} {f : Addr} {fd : FuncData}
def spBys (K : PySem.W.Frag) (n : Nat) : Sp := fun vs H Q _ => ∃ v r, vs = [v] ∧ RlAt K H v r ∧ r.dep < n ∧ RetV (.int ((r.bys : Nat) : Int)) H Q
theorem bys_turn (F : Fun K "_law_bys" "_law_bys" s_l_bys f fd) (T : Txt w K mg C_BadRule C_BadRules C_BadLand C_BadDay C_BadNumber C_Feast C_Calendar) (hm : mg "_law_bys" = some (.ref f)) (hb : Binds K fd ["_law_rule_here"] []) (n : Nat) (ih : FnOk P w K mg base CX0 (n + 1) f fd ["_law_rule_here"] (spBys K n)) : FnOk P w K mg base CX0 (n + 2) f fd ["_law_rule_here"] (spBys K (n + 1)) := by
  have D_l_bys : Dn P w K mg base CX0 "_law_bys" (n + 1) ["_law_rule_here"] (spBys K n) := ⟨f, fd, hm, F.kp, ih, hb⟩
  refine F.ok sc_l_bys (fun vs H Q E h => ?_) (fun cdv A outer s H vs Q E hr h => ?_)
  · obtain ⟨_, _, rfl, _⟩ := h
    rfl
  · obtain ⟨v, r, rfl, hR, hd, k⟩ := h
    refine ⟨_, (pss_cons (ps_if (pt_cmpR op_eq (pe_ix ix_tup (pv 0) pe_int (fun _ _ => rfl)) pe_str (nomark _)) (pss_one (ps_ret (pe_op op_add (pe_callB call_abs (by rfl) T.abs (by decide +kernel) (pa_cons (pe_ix ix_tup (pv 0) pe_int (fun _ _ => rfl)) pa_nil)) (pe_fn D_l_bys (hr.mono (by omega)) pass0 rfl (pa_cons (pe_ix ix_tup (pv 0) pe_int (fun _ _ => rfl)) pa_nil)))))
  pss_nil)
  (pss_cons (ps_if (pt_cmpR op_in_seq (pe_ix ix_tup (pv 0) pe_int (fun _ _ => rfl)) (pe_tup (pa_cons pe_str (pa_cons pe_str (pa_cons pe_str pa_nil)))) (by rfl)) (pss_one (ps_ret (pe_op op_add (pe_fn D_l_bys (hr.mono (by omega)) pass0 rfl (pa_cons (pe_ix ix_tup (pv 0) pe_int (fun _ _ => rfl)) pa_nil)) (pe_fn D_l_bys (hr.mono (by omega)) pass0 rfl (pa_cons (pe_ix ix_tup (pv 0) pe_int (fun _ _ => rfl)) pa_nil)))))
  pss_nil)
  (pss_one (ps_ret pe_int)))), ?_⟩
    cases hR with
    | wk hT =>
      rename_i p i
      refine q_not (et_str (ev_ixT (ev_var rfl) hT at0) (by decide +kernel)) fun H1 e1 => ?_
      refine q_not (et_is (et_test (ev_inU (xs := pairsV) (ev_ixT (ev_var rfl) (ex_t e1 hT) at0) (eu_tup (ea_cons ev_c (ea_cons ev_c (ea_cons ev_c ea_nil))) (by show 3 ≤ 100000; decide)) rfl rfl)) (by decide +kernel)) fun H2 e2 => ?_
      exact s_ret ev_c fun H3 e3 => k H3 ((e1.trans e2).trans e3)
    | fs hT =>
      rename_i p i
      refine q_not (et_str (ev_ixT (ev_var rfl) hT at0) (by decide +kernel)) fun H1 e1 => ?_
      refine q_not (et_is (et_test (ev_inU (xs := pairsV) (ev_ixT (ev_var rfl) (ex_t e1 hT) at0) (eu_tup (ea_cons ev_c (ea_cons ev_c (ea_cons ev_c ea_nil))) (by show 3 ≤ 100000; decide)) rfl rfl)) (by decide +kernel)) fun H2 e2 => ?_
      exact s_ret ev_c fun H3 e3 => k H3 ((e1.trans e2).trans e3)
    | md hT =>
      rename_i p i
      refine q_not (et_str (ev_ixT (ev_var rfl) hT at0) (by decide +kernel)) fun H1 e1 => ?_
      refine q_not (et_is (et_test (ev_inU (xs := pairsV) (ev_ixT (ev_var rfl) (ex_t e1 hT) at0) (eu_tup (ea_cons ev_c (ea_cons ev_c (ea_cons ev_c ea_nil))) (by show 3 ≤ 100000; decide)) rfl rfl)) (by decide +kernel)) fun H2 e2 => ?_
      exact s_ret ev_c fun H3 e3 => k H3 ((e1.trans e2).trans e3)
    | bh hT h2 =>
      rename_i p u r b
      have hd2 : r.dep < n := by simp only [Rl.dep] at hd; omega
      refine q_yes (et_str (ev_ixT (ev_var rfl) hT at0) (by decide +kernel)) fun H1 e1 => ?_
      refine s_ret (ev_is (ev_op (ev_abs (ev_ixT (ev_var rfl) (ex_t e1 hT) rfl)) (ev_call (ea_cons (ev_ixT (ev_var rfl) (ex_t e1 hT) rfl) ea_nil) (spV (z := .int ((r.bys : Nat) : Int)) fun H3 e3 Q _ q => ⟨_, r, rfl, h2.mono (e1.trans e3), hd2, q⟩)) rv_I0) ?_) fun H3 e3 => k H3 (e1.trans e3)
      refine congrArg V.int ?_
      show (if b < 0 then -b else b) + ((r.bys : Nat) : Int) = ((b.natAbs + r.bys : Nat) : Int)
      split <;> omega
    | bo hT h1 h2 =>
      rename_i p x y a b
      simp only [Rl.dep] at hd
      refine q_not (et_str (ev_ixT (ev_var rfl) hT at0) (by decide +kernel)) fun H1 e1 => ?_
      refine q_yes (et_is (et_test (ev_inU (xs := pairsV) (ev_ixT (ev_var rfl) (ex_t e1 hT) at0) (eu_tup (ea_cons ev_c (ea_cons ev_c (ea_cons ev_c ea_nil))) (by show 3 ≤ 100000; decide)) rfl rfl)) (by decide +kernel)) fun H2 e2 => ?_
      exact s_ret (ev_is (ev_op (ev_call (ea_cons (ev_ixT (ev_var rfl) (ex_t (e1.trans e2) hT) rfl) ea_nil) (spV (z := .int ((a.bys : Nat) : Int)) fun H3 e3 Q _ q => ⟨_, a, rfl, h1.mono ((e1.trans e2).trans e3), by omega, q⟩)) (ev_call (ea_cons (ev_ixT (ev_var rfl) (ex_t (e1.trans e2) hT) rfl) ea_nil) (spV (z := .int ((b.bys : Nat) : Int)) fun H3 e3 Q _ q => ⟨_, b, rfl, h2.mono ((e1.trans e2).trans e3), by omega, q⟩)) rv_I0) (congrArg V.int (Int.natCast_add _ _).symm)) fun H3 e3 => k H3 ((e1.trans e2).trans e3)
    | ei hT h1 h2 =>
      rename_i p x y a b
      simp only [Rl.dep] at hd
      refine q_not (et_str (ev_ixT (ev_var rfl) hT at0) (by decide +kernel)) fun H1 e1 => ?_
      refine q_yes (et_is (et_test (ev_inU (xs := pairsV) (ev_ixT (ev_var rfl) (ex_t e1 hT) at0) (eu_tup (ea_cons ev_c (ea_cons ev_c (ea_cons ev_c ea_nil))) (by show 3 ≤ 100000; decide)) rfl rfl)) (by decide +kernel)) fun H2 e2 => ?_
      exact s_ret (ev_is (ev_op (ev_call (ea_cons (ev_ixT (ev_var rfl) (ex_t (e1.trans e2) hT) rfl) ea_nil) (spV (z := .int ((a.bys : Nat) : Int)) fun H3 e3 Q _ q => ⟨_, a, rfl, h1.mono ((e1.trans e2).trans e3), by omega, q⟩)) (ev_call (ea_cons (ev_ixT (ev_var rfl) (ex_t (e1.trans e2) hT) rfl) ea_nil) (spV (z := .int ((b.bys : Nat) : Int)) fun H3 e3 Q _ q => ⟨_, b, rfl, h2.mono ((e1.trans e2).trans e3), by omega, q⟩)) rv_I0) (congrArg V.int (Int.natCast_add _ _).symm)) fun H3 e3 => k H3 ((e1.trans e2).trans e3)
    | wo hT h1 h2 =>
      rename_i p x y a b
      simp only [Rl.dep] at hd
      refine q_not (et_str (ev_ixT (ev_var rfl) hT at0) (by decide +kernel)) fun H1 e1 => ?_
      refine q_yes (et_is (et_test (ev_inU (xs := pairsV) (ev_ixT (ev_var rfl) (ex_t e1 hT) at0) (eu_tup (ea_cons ev_c (ea_cons ev_c (ea_cons ev_c ea_nil))) (by show 3 ≤ 100000; decide)) rfl rfl)) (by decide +kernel)) fun H2 e2 => ?_
      exact s_ret (ev_is (ev_op (ev_call (ea_cons (ev_ixT (ev_var rfl) (ex_t (e1.trans e2) hT) rfl) ea_nil) (spV (z := .int ((a.bys : Nat) : Int)) fun H3 e3 Q _ q => ⟨_, a, rfl, h1.mono ((e1.trans e2).trans e3), by omega, q⟩)) (ev_call (ea_cons (ev_ixT (ev_var rfl) (ex_t (e1.trans e2) hT) rfl) ea_nil) (spV (z := .int ((b.bys : Nat) : Int)) fun H3 e3 Q _ q => ⟨_, b, rfl, h2.mono ((e1.trans e2).trans e3), by omega, q⟩)) rv_I0) (congrArg V.int (Int.natCast_add _ _).symm)) fun H3 e3 => k H3 ((e1.trans e2).trans e3)
theorem ok_bys (F : Fun K "_law_bys" "_law_bys" s_l_bys f fd) (T : Txt w K mg C_BadRule C_BadRules C_BadLand C_BadDay C_BadNumber C_Feast C_Calendar) (hm : mg "_law_bys" = some (.ref f)) (hb : Binds K fd ["_law_rule_here"] []) : ∀ n : Nat, FnOk P w K mg base CX0 (n + 1) f fd ["_law_rule_here"] (spBys K n)
  | 0 => fnok_none fun _ _ _ _ ⟨_, _, _, _, h, _⟩ => absurd h (Nat.not_lt_zero _)
  | n + 1 => bys_turn F T hm hb n (ok_bys F T hm hb n)
theorem dn_bys (T : Txt w K mg C_BadRule C_BadRules C_BadLand C_BadDay C_BadNumber C_Feast C_Calendar) (n : Nat) : Dn P w K mg base CX0 "_law_bys" (n + 1) ["_law_rule_here"] (spBys K n) := T.f_l_bys.dn fun _ _ F hm hb => ok_bys F T hm hb n
theorem ev_intB {σ : L2.St} {H : Hp} {ta : TE} {b : Bool} (h : Ev ta σ H (.bl b)) : Ev (tCB (fun xs H Q => (∃ i, xs = [.int i] ∧ Q (.int i) H) ∨ ∃ k, xs = [.bl k] ∧ Q (.int (if k then 1 else 0)) H) (tCons ta tNil)) σ H (.int (if b then 1 else 0)) :=
  ev_cb (ea_cons h ea_nil) fun H1 _ Q q => .inr ⟨b, rfl, q H1 (Ex.refl H1)⟩
end
end WF

set_option Elab.async false
set_option linter.all false
set_option maxRecDepth 100000
set_option maxHeartbeats 1000000
/-! rows made from others -/
namespace WF
open PySem L2 Evl
theorem er_ifT {σ : L2.St} {H : Hp} {t : TT} {ta tb : TE} {R : Addr → Hp → Prop} (h : EvT t σ H true) (h1 : EvR ta σ H R) : EvR (tIf t ta tb) σ H R := fun H1 e Q q => h H1 e _ fun H2 e2 => by
  show ta σ H2 Q
  exact h1 H2 (e.trans e2) Q fun p H3 hp e3 h3 => q p H3 (fresh_back e2 hp) (e2.trans e3) h3
section
variable {P : Program} {w : World} {K : PySem.W.Frag} {mg : Str → Option Value} {base : Heap} {C_BadRule C_BadRules C_BadLand C_BadDay C_BadNumber C_Feast C_Calendar : Addr} {f : Addr} {fd : FuncData}
def spNear (K : PySem.W.Frag) : Sp := fun vs H Q _ => ∃ (d l : Addr) (xs ys : List V) (rows : Rows), vs = [.ref d, .ref l] ∧ H d = some (.lst xs) ∧ Good xs ∧ H l = some (.lst ys) ∧ RawL K H ys rows ∧ l ≠ d ∧ rows.length ≤ 3 ∧ RowsOk 4 rows ∧
  ∀ p rows' xs' H', RawN K rows' p H' → rows'.length ≤ 3 → RowsOk 4 rows' → p ≠ d → Good xs' → ExB d H H' → H' d = some (.lst xs') → Q (.ref p) H'
theorem ok_near (F : Fun K "_law_near" "_law_near" s_l_near f fd) (T : Txt w K mg C_BadRule C_BadRules C_BadLand C_BadDay C_BadNumber C_Feast C_Calendar) : FnOk P w K mg base CX0 11 f fd ["_law_d", "_law_rows_here"] (spNear K) := by
  have D_l_below : Dn P w K mg base CX0 "_law_below" 1 ["_law_d", "_law_size"] spBelow := dn_below T
  have D_l_leaf : Dn P w K mg base CX0 "_law_leaf" 3 ["_law_d"] (spLeaf K) := dn_leaf T
  have D_l_rows : Dn P w K mg base CX0 "_law_rows" 10 ["_law_d", "_law_many", "_law_parts"] (spRows K) := dn_rows T
  have D_l_bys : Dn P w K mg base CX0 "_law_bys" 6 ["_law_rule_here"] (spBys K 5) := dn_bys T 5
  refine F.ok sc_l_near (fun vs H Q E h => ?_) (fun cdv A outer s H vs Q E hr h => ?_)
  · obtain ⟨_, _, _, _, _, rfl, _⟩ := h
    rfl
  · obtain ⟨d, l, xs, ys, rows, rfl, hd, hg, hl, hraw, hld, hlen, hok, k⟩ := h
    have hr1 : Room 1 _ := hr.mono (by omega)
    have hyl := hraw.len
    refine ⟨_, (pss_cons (ps_if (pt_cmpR (op_eqEL (hu_of hr1)) (pv 1) (pe_lst pa_nil) (nomark _)) (pss_one (ps_ret (pe_fn D_l_rows (hr.mono (by omega)) pass0 rfl (pa_cons (pv 0) (pa_cons pe_int (pa_cons pe_int pa_nil))))))
  pss_nil)
  (pss_cons (ps_set (i := 2) sc_l_near.nd rfl (by first | exact Or.inl rfl | exact Or.inr rfl) (pe_fn D_l_below (hr.mono (by omega)) pass0 rfl (pa_cons (pv 0) (pa_cons (pe_callB call_len_seq (by rfl) T.len (by decide +kernel) (pa_cons (pv 1) pa_nil)) pa_nil))))
  (pss_cons (ps_asg (pe_ix ix_list (pv 1) (pv 2) (fun _ _ => rfl)) (pg_tup rfl (pgs_cons (pg_name (i := 3) sc_l_near.nd rfl (by first | exact Or.inl rfl | exact Or.inr rfl)) (pgs_cons (pg_name (i := 4) sc_l_near.nd rfl (by first | exact Or.inl rfl | exact Or.inr rfl)) pgs_nil))))
  (pss_cons (ps_set (i := 5) sc_l_near.nd rfl (by first | exact Or.inl rfl | exact Or.inr rfl) (pe_fn D_l_below (hr.mono (by omega)) pass0 rfl (pa_cons (pv 0) (pa_cons pe_int pa_nil))))
  (pss_cons (ps_if (pt_cmpR op_eq (pv 5) pe_int (nomark _)) (pss_one (ps_ret (pe_op op_cat (pe_slice sl_list (pv 1) po_none (po_some (pv 2))) (pe_slice sl_list (pv 1) (po_some (pe_op op_add (pv 2) pe_int)) po_none))))
  pss_nil)
  (pss_cons (ps_if (pt_cmpR op_eq (pv 5) pe_int (nomark _)) (pss_one (ps_ret (pe_op op_cat (pe_op op_cat (pe_slice sl_list (pv 1) po_none (po_some (pv 2))) (pe_lst (pa_cons (pe_tup (pa_cons (pv 3) (pa_cons (pe_not (pv 4)) pa_nil))) pa_nil))) (pe_slice sl_list (pv 1) (po_some (pe_op op_add (pv 2) pe_int)) po_none))))
  pss_nil)
  (pss_cons (ps_if (pt_cmpR op_eq (pv 5) pe_int (nomark _)) (pss_one (ps_ret (pe_revL (pv 1))))
  pss_nil)
  (pss_cons (ps_if (PW.pt (pw_and (pt_cmpR op_eq (pv 5) pe_int (nomark _)) (pw_and1 (pt_cmpR op_in_seq (pe_ix ix_tup (pv 3) pe_int (fun _ _ => rfl)) (pe_tup (pa_cons pe_str (pa_cons pe_str (pa_cons pe_str pa_nil)))) (by rfl))))) (pss_one (ps_ret (pe_op op_cat (pe_op op_cat (pe_slice sl_list (pv 1) po_none (po_some (pv 2))) (pe_lst (pa_cons (pe_tup (pa_cons (pe_tup (pa_cons (pe_ix ix_tup (pv 3) pe_int (fun _ _ => rfl)) (pa_cons (pe_ix ix_tup (pv 3) pe_int (fun _ _ => rfl)) (pa_cons (pe_ix ix_tup (pv 3) pe_int (fun _ _ => rfl)) pa_nil)))) (pa_cons (pv 4) pa_nil))) pa_nil))) (pe_slice sl_list (pv 1) (po_some (pe_op op_add (pv 2) pe_int)) po_none))))
  pss_nil)
  (pss_cons (ps_if (PW.pt (pw_and (pt_cmpR op_eq (pv 5) pe_int (nomark _)) (pw_and1 (pt_cmpR op_lt (pe_callB call_len_seq (by rfl) T.len (by decide +kernel) (pa_cons (pv 1) pa_nil)) pe_int (nomark _))))) (pss_one (ps_ret (pe_ifExp (pt_cmpR op_eq (pe_fn D_l_bys (hr.mono (by omega)) pass0 rfl (pa_cons (pv 3) pa_nil)) pe_int (nomark _)) (pe_op op_cat (pv 1) (pe_lst (pa_cons (pe_tup (pa_cons (pv 3) (pa_cons pe_bl pa_nil))) pa_nil))) (pv 1))))
  pss_nil)
  (pss_cons (ps_if (PW.pt (pw_and (pt_cmpR op_eq (pv 5) pe_int (nomark _)) (pw_and1 (pt_cmpR op_in_seq (pe_ix ix_tup (pv 3) pe_int (fun _ _ => rfl)) (pe_tup (pa_cons pe_str (pa_cons pe_str (pa_cons pe_str pa_nil)))) (by rfl))))) (pss_one (ps_ret (pe_op op_cat (pe_op op_cat (pe_slice sl_list (pv 1) po_none (po_some (pv 2))) (pe_lst (pa_cons (pe_tup (pa_cons (pe_fn D_l_leaf (hr.mono (by omega)) pass0 rfl (pa_cons (pv 0) pa_nil)) (pa_cons (pv 4) pa_nil))) pa_nil))) (pe_slice sl_list (pv 1) (po_some (pe_op op_add (pv 2) pe_int)) po_none))))
  pss_nil)
  (pss_cons (ps_set (i := 3) sc_l_near.nd rfl (by first | exact Or.inl rfl | exact Or.inr rfl) (pe_ifExp (pt_cmpR op_in_seq (pe_ix ix_tup (pv 3) pe_int (fun _ _ => rfl)) (pe_tup (pa_cons pe_str (pa_cons pe_str (pa_cons pe_str pa_nil)))) (by rfl)) (pe_tup (pa_cons pe_str (pa_cons (pv 3) (pa_cons (pv 3) pa_nil)))) (pv 3)))
  (pss_one (ps_ret (pe_op op_cat (pe_op op_cat (pe_slice sl_list (pv 1) po_none (po_some (pv 2))) (pe_lst (pa_cons (pe_tup (pa_cons (pv 3) (pa_cons (pv 4) pa_nil))) pa_nil))) (pe_slice sl_list (pv 1) (po_some (pe_op op_add (pv 2) pe_int)) po_none))))))))))))))), ?_⟩
    refine q_when (et_test (ev_eqEL (ev_var rfl) (sq_of hl))) (fun hb H1 e1 => ?_) (fun hb H1 e1 => ?_)
    · exact s_retC (ea_cons (ev_var rfl) (ea_cons ev_c (ea_cons ev_c ea_nil))) fun H2 e2 => ⟨d, xs, 1, 3, rfl, (e1.trans e2) _ _ hd, hg, by decide, by decide, by decide, fun p ys' rows' xs' H' hp hp' hraw' hlen' hok' hg' eb hd' => k p rows' xs' H' ⟨ys', hp', hraw'⟩ (by omega) (hok'.mono (by decide)) (ne_of_none ((e1.trans e2) _ _ hd) hp).symm hg' ((ExB.of (e1.trans e2)).trans eb) hd'⟩
    have hpos : 1 ≤ ys.length := by
      cases ys with
      | nil => cases hb
      | cons a b => simp
    refine q_asgX (below_ev (ev_var rfl) (ev_lenL (ev_var rfl) (sq_of (e1 _ _ hl))) (e1 _ _ hd) hg (by omega) (by omega) fun i xs1 H2 hi hg1 eb1 hd1 => ?_)
    have hi' : i < ys.length := by omega
    have hl2 := eb1 _ _ hld (e1 _ _ hl)
    have kn2 := (KeepN.of e1).trans (eb1.kn (e1 _ _ hd))
    have hraw2 := hraw.kn kn2
    obtain ⟨r, hget, p, v, hx, hT, hrl⟩ := hraw2.get (x := ys[i]) (List.getElem?_eq_getElem hi')
    have hmem : r ∈ rows := List.mem_of_getElem? hget
    have hfit := hok.fit r hmem
    refine q_asgT (ev_op (ev_var rfl) (ev_var rfl) (rv_ixL (sq_of hl2) (by rw [← hx]; exact atI_nat (List.getElem?_eq_getElem hi')))) hT fun H3 e3 => ?_
    refine q_asgX (below_ev (ev_var rfl) ev_c (e3 _ _ hd1) hg1 (by decide) (by decide) fun pk xs2 H4 hpk hg2 eb2 hd2 => ?_)
    have hl4 := eb2 _ _ hld (e3 _ _ hl2)
    have kn4 := (KeepN.of e3).trans (eb2.kn (e3 _ _ hd1))
    have hraw4 := hraw2.kn kn4
    have hrl4 : RlAt K H4 v r.1 := hrl.kn kn4
    have ebA : ExB d H H4 := ((((ExB.of e1).trans eb1).step e3)).trans eb2
    have fin : ∀ (rows' : Rows) (H5 : Hp), Ex H4 H5 → rows'.length ≤ 3 → RowsOk 4 rows' → ∀ p H6, H5 p = none → Ex H5 H6 → RawN K rows' p H6 → Q (.ref p) H6 := fun rows' H5 e5 h1 h2 p H6 hp e6 hR =>
      k p rows' xs2 H6 hR h1 h2 (ne_of_none (e5 _ _ hd2) hp).symm hg2 (ebA.step (e5.trans e6)) ((e5.trans e6) _ _ hd2)
    have hil : i < rows.length := by omega
    refine q_when (et_cmp (ev_var rfl) ev_c (rv_eq rfl)) (fun hb0 H5 e5 => ?_) (fun hb0 H5 e5 => ?_)
    · exact s_retR (er_rawC (er_rawA (i := 0) (ev_var rfl) (sq_of (e5 _ _ hl4)) (hraw4.kn (KeepN.of e5)) (ev_var rfl) (by omega)) (er_rawB (i := 0) (k := i + 1) (ev_var rfl) (sq_of (e5 _ _ hl4)) (hraw4.kn (KeepN.of e5)) (ev_op (ev_var rfl) ev_c rv_I0)) (by rw [List.length_take, List.length_drop]; omega)) (fin _ H5 e5 (Nat.le_trans (out_len hget) hlen) (rows_out hget hok))
    refine q_when (et_cmp (ev_var rfl) ev_c (rv_eq rfl)) (fun hb1 H6 e6 => ?_) (fun hb1 H6 e6 => ?_)
    · have E6 := e5.trans e6
      exact s_retR (er_rawC (er_rawC (er_rawA (i := 0) (ev_var rfl) (sq_of (E6 _ _ hl4)) (hraw4.kn (KeepN.of E6)) (ev_var rfl) (by omega)) (er_raw1 (r := (r.1, !r.2)) (ex_raw (ex_v (ev_var rfl) fun H7 e7 => hrl4.mono (E6.trans e7)) fun H7 => ev_notV (ev_var rfl))) (by rw [List.length_take]; show _ + 1 ≤ 100; omega)) (er_rawB (i := 0) (k := i + 1) (ev_var rfl) (sq_of (E6 _ _ hl4)) (hraw4.kn (KeepN.of E6)) (ev_op (ev_var rfl) ev_c rv_I0)) (by rw [List.length_append, List.length_take, List.length_drop]; show _ + 1 + _ ≤ 100; omega)) (fin _ H6 E6 (by rw [put_len hget]; exact hlen) (rows_put hget hok (Nat.le_refl _) hfit.1 hfit.2))
    refine q_when (et_cmp (ev_var rfl) ev_c (rv_eq rfl)) (fun hb2 H7 e7 => ?_) (fun hb2 H7 e7 => ?_)
    · have E7 := (e5.trans e6).trans e7
      exact s_retR (er_rawR (ev_var rfl) (sq_of (E7 _ _ hl4)) (hraw4.kn (KeepN.of E7))) (fin _ H7 E7 (by rw [List.length_reverse]; exact hlen) (rows_rev hok))
    have E7 := (e5.trans e6).trans e7
    refine q_when (et_and (et_cmp (ev_var rfl) ev_c (rv_eq rfl)) fun _ => et_pairB rfl (hrl4.mono E7)) (fun hb3 H8 e8 => ?_) (fun hb3 H8 e8 => ?_)
    · have E8 := E7.trans e8
      rw [Bool.and_eq_true] at hb3
      have hsw := swap_bys r.1
      have hX : EvX (tTup (tCons (tOp (rIxT K) (tVar 3) (tC (.int 0))) (tCons (tOp (rIxT K) (tVar 3) (tC (.int 2))) (tCons (tOp (rIxT K) (tVar 3) (tC (.int 1))) tNil)))) [some (.ref d), some (.ref l), some (.int (i : Int)), some v, some (.bl r.2), some (.int (pk : Int))] H8 (fun v H => RlAt K H v (swapR r.1)) := by
        have hrl8 := hrl4.mono E8
        generalize r.1 = rr at hrl8 hb3
        cases hrl8 with
        | wk _ => exact absurd hb3.2 (by simp [pairB])
        | fs _ => exact absurd hb3.2 (by simp [pairB])
        | md _ => exact absurd hb3.2 (by simp [pairB])
        | bh _ _ => exact absurd hb3.2 (by simp [pairB])
        | bo hT8 a b => exact ex_tup (eu_tup (ea_cons (ev_ixT (ev_var rfl) hT8 rfl) (ea_cons (ev_ixT (ev_var rfl) hT8 rfl) (ea_cons (ev_ixT (ev_var rfl) hT8 rfl) ea_nil))) (by show 3 ≤ 100000; decide)) fun p H9 e9 h9 => .bo (st_of h9) (b.mono e9) (a.mono e9)
        | ei hT8 a b => exact ex_tup (eu_tup (ea_cons (ev_ixT (ev_var rfl) hT8 rfl) (ea_cons (ev_ixT (ev_var rfl) hT8 rfl) (ea_cons (ev_ixT (ev_var rfl) hT8 rfl) ea_nil))) (by show 3 ≤ 100000; decide)) fun p H9 e9 h9 => .ei (st_of h9) (b.mono e9) (a.mono e9)
        | wo hT8 a b => exact ex_tup (eu_tup (ea_cons (ev_ixT (ev_var rfl) hT8 rfl) (ea_cons (ev_ixT (ev_var rfl) hT8 rfl) (ea_cons (ev_ixT (ev_var rfl) hT8 rfl) ea_nil))) (by show 3 ≤ 100000; decide)) fun p H9 e9 h9 => .wo (st_of h9) (b.mono e9) (a.mono e9)
      exact s_retR (er_rawC (er_rawC (er_rawA (i := 0) (ev_var rfl) (sq_of (E8 _ _ hl4)) (hraw4.kn (KeepN.of E8)) (ev_var rfl) (by omega)) (er_raw1 (r := (swapR r.1, r.2)) (ex_raw hX fun H9 => ev_var rfl)) (by rw [List.length_take]; show _ + 1 ≤ 100; omega)) (er_rawB (i := 0) (k := i + 1) (ev_var rfl) (sq_of (E8 _ _ hl4)) (hraw4.kn (KeepN.of E8)) (ev_op (ev_var rfl) ev_c rv_I0)) (by rw [List.length_append, List.length_take, List.length_drop]; show _ + 1 + _ ≤ 100; omega)) (fin _ H8 E8 (by rw [put_len hget]; exact hlen) (rows_put hget hok (Nat.le_of_eq hsw.1) (hsw.2.2.trans hfit.1) (Nat.le_trans (Nat.le_of_eq hsw.2.1) hfit.2)))
    have E8 := E7.trans e8
    refine q_when (et_and (et_cmp (ev_var rfl) ev_c (rv_eq rfl)) fun _ => et_cmp (ev_lenL (ev_var rfl) (sq_of (E8 _ _ hl4))) ev_c rv_I0) (fun hb4 H9 e9 => ?_) (fun hb4 H9 e9 => ?_)
    · have E9 := E8.trans e9
      rw [Bool.and_eq_true] at hb4
      have hl3 : rows.length < 3 := by
        have := of_decide_eq_true hb4.2
        omega
      have hdp : r.1.dep < 5 := by have := dep_parts r.1; have := hfit.2; omega
      have hev : Ev (tCall (spBys K 5) [] E0 (tCons (tVar 3) tNil)) [some (.ref d), some (.ref l), some (.int (i : Int)), some v, some (.bl r.2), some (.int (pk : Int))] H9 (.int ((r.1.bys : Nat) : Int)) := ev_call (ea_cons (ev_var rfl) ea_nil) (spV fun H10 e10 Q _ q => ⟨v, r.1, rfl, hrl4.mono (E9.trans e10), hdp, q⟩)
      by_cases hby : r.1.bys = 0
      · exact s_retR (er_ifT (et_is (et_cmp hev ev_c (rv_eq rfl)) (by rw [hby]; rfl)) (er_rawC1 (ev_var rfl) (E9 _ _ hl4) (hraw4.kn (KeepN.of E9)) (er_raw1 (r := (r.1, false)) (ex_raw (ex_v (ev_var rfl) fun H10 e10 => hrl4.mono (E9.trans e10)) fun H10 => ev_c)) (by show _ + 1 ≤ 100; omega))) (fin _ H9 E9 (by rw [List.length_append]; show _ + 1 ≤ 3; omega) (rows_snoc hok hby hfit.1 hfit.2))
      · have hF : EvT (tTest (tOp rEq (tCall (spBys K 5) [] E0 (tCons (tVar 3) tNil)) (tC (.int 0)))) [some (.ref d), some (.ref l), some (.int (i : Int)), some v, some (.bl r.2), some (.int (pk : Int))] H9 false := et_is (et_cmp hev ev_c (rv_eq rfl)) (decide_eq_false (by
          intro q
          have := V.int.inj q
          omega))
        refine s_retX (hF H9 (Ex.refl H9) _ fun H10 e10 => ?_)
        have E10 := E9.trans e10
        exact ⟨_, rfl, k l rows xs2 H10 ⟨ys, E10 _ _ hl4, hraw4.kn (KeepN.of E10)⟩ hlen hok hld hg2 (ebA.step E10) (E10 _ _ hd2)⟩
    have E9 := E8.trans e9
    refine q_when (et_and (et_cmp (ev_var rfl) ev_c (rv_eq rfl)) fun _ => et_leafB rfl (hrl4.mono E9)) (fun hb5 H10 e10 => ?_) (fun hb5 H10 e10 => ?_)
    · have E10 := E9.trans e10
      refine s_retX ?_
      refine (er_rawA (K := K) (i := 0) (te := tVar 2) (ev_var rfl) (sq_of (E10 _ _ hl4)) (hraw4.kn (KeepN.of E10)) (ev_var rfl) (by omega)) H10 (Ex.refl H10) _ fun p1 H11 hp1 e11 hR1 => ?_
      have E11 := E10.trans e11
      refine ⟨_, rfl, d, xs2, rfl, E11 _ _ hd2, hg2, fun v2 r2 xs3 H12 hrl2 hfit2 hparts2 hbys2 hg3 eb3 hd3 => ⟨_, rfl, by show 2 ≤ sizeLine; decide, fun t ht => ⟨by show 1 ≤ sizeLine; decide, fun l1 hl1 => ?_⟩⟩⟩
      have hp1d : p1 ≠ d := (ne_of_none (E10 _ _ hd2) hp1).symm
      have e12 : Ex H12 (upd (upd H12 t (.tup [v2, .bl r.2])) l1 (.lst [.ref t])) := (Ex.new ht).trans (Ex.new hl1)
      obtain ⟨zs, hz, hzl⟩ := hR1
      have kn12 := eb3.kn (E11 _ _ hd2)
      have hz12 := e12 _ _ (eb3 _ _ hp1d hz)
      have hzl12 := (hzl.kn kn12).kn (KeepN.of e12)
      have h1 : RawL K (upd (upd H12 t (.tup [v2, .bl r.2])) l1 (.lst [.ref t])) [.ref t] [(r2, r.2)] := ⟨⟨t, v2, rfl, ex_t (Ex.new hl1) (st_of upd_same), hrl2.mono e12⟩, trivial⟩
      refine ⟨p1, l1, zs, [.ref t], rfl, rfl, hz12, upd_same, Evl.sz_of (by rw [hzl.len, List.length_take]; show _ + 1 ≤ _; omega), fun q1 hq1 => ?_⟩
      have e13 := Ex.new (o := HO.lst (zs ++ [.ref t])) hq1
      have hl13 := (e12.trans e13) _ _ (eb3 _ _ hld (E11 _ _ hl4))
      have hraw13 := (hraw4.kn ((KeepN.of E11).trans kn12)).kn (KeepN.of (e12.trans e13))
      refine (er_rawB (K := K) (i := 0) (k := i + 1) (te := tOp (rI0 fun i j => .int (i + j)) (tVar 2) (tC (.int 1))) (ev_var rfl) (sq_of hl13) hraw13 (ev_op (ev_var rfl) ev_c rv_I0)) _ (Ex.refl _) _ fun q2 H14 hq2 e14 ⟨us, hus, husl⟩ => ?_
      refine ⟨q1, q2, _, us, rfl, rfl, e14 _ _ upd_same, hus, Evl.sz_of (by rw [List.length_append, hzl.len, husl.len, List.length_take, List.length_drop]; show _ + 1 + _ ≤ _; omega), fun q3 hq3 => ?_⟩
      have e15 := Ex.new (o := HO.lst ((zs ++ [.ref t]) ++ us)) hq3
      have E15 := ((e12.trans e13).trans e14).trans e15
      have hm := List.mem_of_getElem? hget
      have hlf : r.1.bys = 0 := by
        rw [Bool.and_eq_true] at hb5
        generalize r.1 = rr at hb5
        cases rr <;> first | rfl | exact absurd hb5.2 (by simp [leafB])
      refine k q3 ((rows.take i ++ [(r2, r.2)]) ++ rows.drop (i + 1)) xs3 _ ⟨_, upd_same, ?_⟩ (by rw [put_len hget]; exact hlen) (rows_put hget hok (by show r2.bys ≤ _; omega) hfit2 (by show r2.parts ≤ 4; omega)) (ne_of_none (((e12.trans e13).trans e14) _ _ hd3) hq3).symm hg3 (((ebA.step E11).trans eb3).step E15) (E15 _ _ hd3)
      exact ((hzl12.app h1).kn (KeepN.of ((e13.trans e14).trans e15))).app (husl.kn (KeepN.of e15))
    have E10 := E9.trans e10
    cases hlf : leafB r.1 with
    | true =>
      refine q_asgU (eu_ifT (et_is (et_leafB rfl (hrl4.mono E10)) hlf) (eu_tup (vs := [.str "both", v, v]) (ea_cons ev_c (ea_cons (ev_var rfl) (ea_cons (ev_var rfl) ea_nil))) (by show 3 ≤ 100000; decide))) fun t H11 _ e11 ht => ?_
      have E11 := E10.trans e11
      have h0 : r.1.bys = 0 ∧ r.1.parts = 1 := by
        generalize r.1 = rr at hlf
        cases rr <;> first | exact ⟨rfl, rfl⟩ | exact absurd hlf (by simp [leafB])
      have hrlN : RlAt K H11 (.ref t) (.bo r.1 r.1) := .bo (st_of ht) (hrl4.mono E11) (hrl4.mono E11)
      exact s_retR (er_rawC (er_rawC (er_rawA (i := 0) (ev_var rfl) (sq_of (E11 _ _ hl4)) (hraw4.kn (KeepN.of E11)) (ev_var rfl) (by omega)) (er_raw1 (r := (.bo r.1 r.1, r.2)) (ex_raw (ex_v (ev_var rfl) fun H12 e12 => hrlN.mono e12) fun H12 => ev_var rfl)) (by rw [List.length_take]; show _ + 1 ≤ 100; omega)) (er_rawB (i := 0) (k := i + 1) (ev_var rfl) (sq_of (E11 _ _ hl4)) (hraw4.kn (KeepN.of E11)) (ev_op (ev_var rfl) ev_c rv_I0)) (by rw [List.length_append, List.length_take, List.length_drop]; show _ + 1 + _ ≤ 100; omega)) (fin _ H11 E11 (by rw [put_len hget]; exact hlen) (rows_put hget hok (by show r.1.bys + r.1.bys ≤ _; omega) (by show (r.1.fit && r.1.fit) = true; rw [hfit.1]; rfl) (by show 1 + r.1.parts + r.1.parts ≤ 4; omega)))
    | false =>
      refine q_asg (v := v) (ev_ifF (et_is (et_leafB rfl (hrl4.mono E10)) hlf) (ev_var rfl)) fun H11 e11 => ?_
      have E11 := E10.trans e11
      exact s_retR (er_rawC (er_rawC (er_rawA (i := 0) (ev_var rfl) (sq_of (E11 _ _ hl4)) (hraw4.kn (KeepN.of E11)) (ev_var rfl) (by omega)) (er_raw1 (r := r) (ex_raw (ex_v (ev_var rfl) fun H12 e12 => hrl4.mono (E11.trans e12)) fun H12 => ev_var rfl)) (by rw [List.length_take]; show _ + 1 ≤ 100; omega)) (er_rawB (i := 0) (k := i + 1) (ev_var rfl) (sq_of (E11 _ _ hl4)) (hraw4.kn (KeepN.of E11)) (ev_op (ev_var rfl) ev_c rv_I0)) (by rw [List.length_append, List.length_take, List.length_drop]; show _ + 1 + _ ≤ 100; omega)) (fin _ H11 E11 (by rw [put_len hget]; exact hlen) (rows_put hget hok (Nat.le_refl _) hfit.1 hfit.2))
theorem dn_near (T : Txt w K mg C_BadRule C_BadRules C_BadLand C_BadDay C_BadNumber C_Feast C_Calendar) : Dn P w K mg base CX0 "_law_near" 11 ["_law_d", "_law_rows_here"] (spNear K) := T.f_l_near.dn fun _ _ F _ _ => ok_near F T
end
end WF

set_option Elab.async false
set_option linter.all false
set_option maxRecDepth 100000
set_option maxHeartbeats 1000000
/-! needless, swaps -/
namespace WF
open PySem L2 Evl
section
variable {P : Program} {w : World} {K : PySem.W.Frag} {mg : Str → Option Value} {base : Heap} {C_BadRule C_BadRules C_BadLand C_BadDay C_BadNumber C_Feast C_Calendar : Addr} {f : Addr} {fd : FuncData}
theorem et_unlike {σ : L2.St} {H : Hp} {E : XK} {CF : Addr} {ta tx tn : TE} {u : V} {one other : Rows} {r : Nat} (h1 : Ev ta σ H u) (h2 : EvX tx σ H fun y H2 => RowsAt K CF H2 y other) (h3 : Ev tn σ H (.int (r : Int))) (hu : RowsAt K CF H u one) (d1 : depMax one < 5) (d2 : depMax other < 5) (hr : r ≤ 10) :
    EvT (tTest (tOp (fun x y H Q => y = .non ∧ Q (.bl (decide (x = .non))) H) (tCall (spUnlike K CF) [] E (tCons ta (tCons tx (tCons tn tNil)))) (tC .non))) σ H (unlikeO one other (enoughL r)).isNone := fun H1 e Q q =>
  h1 H1 e _ fun H2 e2 => h2 H2 (e.trans e2) _ fun y H3 e3 hy => h3 H3 ((e.trans e2).trans e3) _ fun H4 e4 => ⟨u, y, one, other, r, rfl, hu.mono (((e.trans e2).trans e3).trans e4), hy.mono e4, d1, d2, hr, fun ho H5 e5 => ⟨rfl, _, rfl, by
    rw [ho] at q
    exact q H5 (((e2.trans e3).trans e4).trans e5)⟩, fun l d ho t lp H5 e5 _ _ => ⟨rfl, _, rfl, by
    rw [ho] at q
    exact q H5 (((e2.trans e3).trans e4).trans e5)⟩⟩
theorem filter_snoc {p : Nat → Bool} {n : Nat} : ((List.range (n + 1)).filter p).map (fun (k : Nat) => V.int (k : Int)) = ((List.range n).filter p).map (fun (k : Nat) => V.int (k : Int)) ++ (if p n then [V.int (n : Int)] else []) := by
  rw [List.range_succ, List.filter_append, List.map_append]
  refine congrArg (_ ++ ·) ?_
  cases h : p n <;> simp [h]
def spNeedless (K : PySem.W.Frag) (CF CC : Addr) : Sp := fun vs H Q _ => ∃ c rows, vs = [c] ∧ CalAt K CF CC H c rows ∧ depMax rows < 5 ∧ rows.length ≤ 3 ∧ reachOf rows ≤ 10 ∧ RetL ((needL rows (reachOf rows) rows.length).map fun (k : Nat) => V.int (k : Int)) H Q
theorem ok_needless (F : Fun K "needless" "needless" s_needless f fd) (T : Txt w K mg C_BadRule C_BadRules C_BadLand C_BadDay C_BadNumber C_Feast C_Calendar) (CF : Cls1 K C_Feast ["told", "bys"]) (CC : Cls1 K C_Calendar ["rows", "near"]) : FnOk P w K mg base CX0 9 f fd ["calendar"] (spNeedless K C_Feast C_Calendar) := by
  have D_first_unlike : Dn P w K mg base CX0 "first_unlike" 8 ["one", "other", "reach"] (spUnlike K C_Feast) := dn_first_unlike T CF
  refine F.ok sc_needless (fun vs H Q E h => ?_) (fun cdv A outer s H vs Q E hr h => ?_)
  · obtain ⟨_, _, rfl, _⟩ := h
    rfl
  · obtain ⟨c, rows, rfl, ⟨ca, dx, rv, rfl, hc, a, xs, rfl, hT, hRs⟩, hdep, hlen, hq10, k⟩ := h
    have hxl := hRs.len
    refine ⟨_, (pss_cons (ps_set (i := 1) sc_needless.nd rfl (by first | exact Or.inl rfl | exact Or.inr rfl) (pe_fld (pv 0) rfl))
  (pss_cons (ps_set (i := 2) sc_needless.nd rfl (by first | exact Or.inl rfl | exact Or.inr rfl) (pe_lst pa_nil))
  (pss_cons (ps_for PassesOwn.never rfl (pi_range1 (by rfl) T.range (pa_cons (pe_callB call_len_seq (by rfl) T.len (by decide +kernel) (pa_cons (pv 1) pa_nil)) pa_nil)) (pg_name (i := 3) sc_needless.nd rfl (by first | exact Or.inl rfl | exact Or.inr rfl))
  (pss_one (ps_if (pt_cmpR op_isN (pe_fn D_first_unlike (hr.mono (by omega)) pass0 rfl (pa_cons (pv 1) (pa_cons (pe_op op_catTA (pe_slice sl_tup (pv 1) po_none (po_some (pv 3))) (pe_slice sl_tup (pv 1) (po_some (pe_op op_add (pv 3) pe_int)) po_none)) (pa_cons (pe_fld (pv 0) rfl) pa_nil)))) pe_non (nomark _)) (pss_one (ps_expr (pe_bm PySem.F.plainAttrs_list PySem.F.slot_list_append PySem.F.type_list_append mt_append (pv 2) (pa_cons (pv 3) pa_nil))))
  pss_nil)))
  (pss_one (ps_ret (pv 2)))))), ?_⟩
    refine q_asg (ev_fld (ev_var rfl) hc CC.cl (CC.no _ (by simp)) (calF_rows _ _)) fun H1 e1 => ?_
    refine q_asgL (el_lst ea_nil (Nat.zero_le _)) fun Fl H2 hF e2 h2 => ?_
    have hF0 := fresh_back e1 hF
    refine q_forR1 (n := (rows.length : Int)) (ea_cons (ev_is (ev_lenT (ev_var rfl) (ex_t (e1.trans e2) hT)) (by rw [hxl])) ea_nil) ⟨by omega, by omega⟩ (fun i σ H' => ∃ a3, σ = [some (.ref ca), some (.ref a), some (.ref Fl), a3] ∧ Ex H H' ∧ H' Fl = some (.lst ((needL rows (reachOf rows) i).map fun (k : Nat) => V.int (k : Int)))) (fun H3 e3 => ⟨none, rfl, (e1.trans e2).trans e3, e3 _ _ h2⟩) ?_ ?_
    · rintro i σ' H' hi ⟨a3, rfl, e, hFl⟩
      have hi' : i < rows.length := by omega
      have hsn := filter_snoc (p := fun k => (unlikeO rows (outRow rows k) (enoughL (reachOf rows))).isNone) (n := i)
      refine s_when (et_unlike (other := outRow rows i) (ev_var rfl) (fun H3 e3 Q q => (ex_catT (xs := xs.take i) (ys := xs.drop (i + 1)) (ex_rowsA (ev_var rfl) (ex_t e hT) (hRs.mono e) (ev_var rfl) hi') (ex_rowsB (k := i + 1) (ev_var rfl) (ex_t e hT) (ev_op (ev_var rfl) ev_c rv_I0) (by omega) (by omega)) (by rw [List.length_take, List.length_drop]; omega)) H3 e3 Q fun y H4 e4 ⟨p, hy, hp⟩ => q y H4 e4 ⟨p, _, hy, hp, ((hRs.take i).app (hRs.drop (i + 1))).mono ((e.trans e3).trans e4)⟩) (ev_fld (ev_var rfl) (e _ _ hc) CC.cl (CC.no _ (by simp)) (calF_near _ _)) ⟨a, xs, rfl, ex_t e hT, hRs.mono e⟩ hdep (dep_lt.mpr fun r hr => dep_lt.mp hdep r (out_mem hr)) hq10) (fun hb H3 e3 => ?_) (fun hb H3 e3 => ?_)
      · refine s_app (v := .int (i : Int)) (e3 _ _ hFl) (ev_var rfl) (ev_var rfl) ?_ fun H4 e4 => ⟨_, rfl, (e.trans (e3.trans e4)).mut hF0, ?_⟩
        · rw [List.length_map]
          have := List.length_filter_le (fun k => (unlikeO rows (outRow rows k) (enoughL (reachOf rows))).isNone) (List.range i)
          rw [List.length_range] at this
          unfold needL
          omega
        · unfold needL
          rw [hsn, if_pos hb]
          exact upd_same
      · refine ⟨_, rfl, e.trans e3, ?_⟩
        unfold needL
        rw [hsn, hb]
        simp only [Bool.false_eq_true, if_false, List.append_nil]
        exact e3 _ _ hFl
    · rintro σ' H' ⟨a3, rfl, e, hFl⟩
      rw [Int.toNat_natCast] at hFl
      exact s_ret (ev_var rfl) fun H3 e3 => k Fl H3 hF0 (e.trans e3) (e3 _ _ hFl)
theorem dn_needless (T : Txt w K mg C_BadRule C_BadRules C_BadLand C_BadDay C_BadNumber C_Feast C_Calendar) (CF : Cls1 K C_Feast ["told", "bys"]) (CC : Cls1 K C_Calendar ["rows", "near"]) : Dn P w K mg base CX0 "needless" 9 ["calendar"] (spNeedless K C_Feast C_Calendar) := T.f_needless.dn fun _ _ F _ _ => ok_needless F T CF CC
end
end WF

set_option Elab.async false
set_option linter.all false
set_option maxRecDepth 100000
set_option maxHeartbeats 1000000
/-! meeting; walks over the keys of a new dict -/
namespace WF
open PySem L2 Evl PyProof.Rows
/-! ### for k in f(..), f giving a new dict -/
def iKeysL (td : TE) : TI := fun σ H R => td σ H fun x H1 => ∃ d kvs, x = .ref d ∧ H1 d = some (.dK kvs) ∧ ∀ o, R (Itk d o kvs) (upd H1 d (.frz o (.dK kvs)))
theorem pi_keysL {X : Cx} {tg e : Expr} {td : TE} (he : PE X e td) : PI X tg e (iKeysL td) := by
  refine ⟨fun pins s σ H R I h => ?_⟩
  refine thn (he.run pins s σ H _ I h) fun u s1 ⟨x, H1, I1, rx, d, kvs, ex, hd, q⟩ => ?_
  subst ex
  obtain rfl : u = Value.ref d := rx
  obtain ⟨od, I2⟩ := I1.lock hd trivial
  obtain ⟨hs, hgd, hx, es, ep, vs, hdt, hsz, kv, hm⟩ := I2.frzK upd_same
  refine iter_keys hs hgd hx hdt (pi_one (tk := s1.toks) I2 _ (turn_keys _ hdt) ⟨_, Heap.get?_push_size _ rfl, rfl, ?_⟩ (q od))
  rw [hsz] <;> rfl
theorem el_keysN {σ : L2.St} {H : Hp} {tl te : TE} {t : TT} {S : List Nat → Prop} {j : Nat} {vs : List Nat} (f : List Nat → Nat → Bool) (h : EvR tl σ H fun p H2 => ∃ ds, H2 p = some (.dK (dk ds)) ∧ S ds) (hz : ∀ ds, S ds → ds.length ≤ 40000) (hw : ∀ x, wipe ((wipe σ vs).set j (some x)) vs = wipe σ vs)
    (ht : ∀ ds (i : Nat) H1, S ds → Ex H H1 → i < ds.length → EvT t ((wipe σ vs).set j (some (.int ((ds.getD i 0 : Nat) : Int)))) H1 (f ds i))
    (he : ∀ ds (i : Nat) H1, S ds → Ex H H1 → i < ds.length → f ds i = true → Ev te ((wipe σ vs).set j (some (.int ((ds.getD i 0 : Nat) : Int)))) H1 (.int ((ds.getD i 0 : Nat) : Int))) :
    ∀ H1, Ex H H1 → ∀ Q : VK, (∀ ds p H2, S ds → H1 p = none → Ex H1 H2 → H2 p = some (.lst (((List.range ds.length).filter (f ds)).map fun i => V.int ((ds.getD i 0 : Nat) : Int))) → Q (.ref p) H2) → tLc (iKeysL tl) (gName j) t te vs σ H1 Q := fun H0 ee Q q => h H0 ee _ fun a H1 ha e1 ⟨ds, hd, hS⟩ => ⟨a, dk ds, rfl, hd, fun od => by
  have eL : Ex H0 (upd H1 a (.frz od (.dK (dk ds)))) := e1.mut ha
  have wk : Walk (Itk a od (dk ds)) (dk ds).length (fun H => H a = some (.frz od (.dK (dk ds)))) (YFn fun i => .int ((ds.getD i 0 : Nat) : Int)) := (walk_keys (d := a) (o := od) (kvs := dk ds)).mono (fun _ h => h) fun i H x H' hi _ y => by
    obtain ⟨h1, k, v, hk, hx⟩ := y
    refine ⟨h1, ?_⟩
    show x = V.int ((ds.getD i 0 : Nat) : Int)
    unfold dk at hk
    rw [List.getElem?_map] at hk
    rw [List.getD_eq_getElem?_getD]
    cases hi : ds[i]? with
    | none => rw [hi] at hk; cases hk
    | some d =>
      rw [hi] at hk
      cases hk
      exact hx
  have hl : (dk ds).length = ds.length := List.length_map _
  rw [hl] at wk
  refine lcX wk (f ds) (fun i y H => y = .int ((ds.getD i 0 : Nat) : Int)) (fun i y H1 H2 _ h => h) (fun H' e' => e' _ _ upd_same) (hz ds hS) hw (fun i H2 e2 hi => ht ds i H2 hS ((ee.trans eL).trans e2) hi) (fun i H2 e2 hi hf Q q => he ds i H2 hS ((ee.trans eL).trans e2) hi hf H2 (Ex.refl H2) Q fun H3 e3 => q _ H3 e3 rfl) Q fun Dl H' hD e' ⟨ys, h1, h2⟩ => q ds Dl H' hS (fresh_back eL hD) (eL.trans e') (by rw [h1, sel_eq h2])⟩
/-! ### the least lands in which two calendars meet, in which they don't -/
def meetB (one other : Rows) (l : Nat × Nat) : Bool := !decide (daysN (l.1 * l.2) (fun d => calDay l.1 l.2 one d && calDay l.1 l.2 other d) = [])
def meetO (one other : Rows) (b : Bool) (ls : List (Nat × Nat)) : Option (Nat × Nat) := ls.find? fun l => meetB one other l == b
theorem meetB_comm (one other : Rows) (l : Nat × Nat) : meetB one other l = meetB other one l := by
  unfold meetB
  have : (fun d => calDay l.1 l.2 one d && calDay l.1 l.2 other d) = fun d => calDay l.1 l.2 other d && calDay l.1 l.2 one d := funext fun d => Bool.and_comm _ _
  rw [this]
theorem meetO_comm (one other : Rows) (b : Bool) (ls : List (Nat × Nat)) : meetO one other b ls = meetO other one b ls := by
  unfold meetO
  refine congrArg (fun f => ls.find? f) (funext fun l => ?_)
  rw [meetB_comm]
theorem meet_more {one other : Rows} {b : Bool} {ls : List (Nat × Nat)} {i : Nat} {l : Nat × Nat} (h : ls[i]? = some l) : meetO one other b (ls.take (i + 1)) = (meetO one other b (ls.take i)).or (if meetB one other l = b then some l else none) := by
  unfold meetO
  rw [take_more h, List.find?_append]
  congr 1
  by_cases hb : meetB one other l = b
  · simp [hb]
  · have : (meetB one other l == b) = false := by simpa using hb
    simp [this, hb]
/-- at x: None, or a land -/
def LdAt (K : PySem.W.Frag) (H : Hp) (o : Option (Nat × Nat)) (x : V) : Prop := (o = none ∧ x = .non) ∨ ∃ l lp, o = some l ∧ x = .ref lp ∧ SqT K H lp [.int ((l.1 : Nat) : Int), .int ((l.2 : Nat) : Int)]
theorem LdAt.kn {K : PySem.W.Frag} {H H' : Hp} {o : Option (Nat × Nat)} {x : V} (e : KeepN H H') (h : LdAt K H o x) : LdAt K H' o x := by
  rcases h with h | ⟨l, lp, h1, h2, h3⟩
  · exact .inl h
  · exact .inr ⟨l, lp, h1, h2, sqt_kn e h3⟩
section
variable {P : Program} {w : World} {K : PySem.W.Frag} {mg : Str → Option Value} {base : Heap} {C_BadRule C_BadRules C_BadLand C_BadDay C_BadNumber C_Feast C_Calendar : Addr} {f : Addr} {fd : FuncData}
theorem ev_getB {σ : L2.St} {H : Hp} {td ty tx : TE} {a : Addr} {b : Bool} {z : V} {kvs : List (Bool × V)} (h1 : Ev td σ H (.ref a)) (h2 : Ev ty σ H (.bl b)) (h3 : Ev tx σ H z) (hd : H a = some (dB P w a kvs)) : Ev (tDGetB P w td ty tx) σ H ((kvs.lookup b).getD z) := fun H1 e Q q =>
  h1 H1 e _ fun H2 e2 => ⟨a, kvs, rfl, e2 _ _ (e _ _ hd), h2 H2 (e.trans e2) _ fun H3 e3 => h3 H3 ((e.trans e2).trans e3) _ fun H4 e4 => ⟨b, rfl, ((e2.trans e3).trans e4) _ _ (e _ _ hd), q H4 ((e2.trans e3).trans e4)⟩⟩
def spMeet (K : PySem.W.Frag) (CF CC : Addr) : Sp := fun vs H Q _ => ∃ (u v : V) (one other : Rows), vs = [u, v] ∧ CalAt K CF CC H u one ∧ CalAt K CF CC H v other ∧ depMax one < 5 ∧ depMax other < 5 ∧ reachOf one ≤ 10 ∧ reachOf other ≤ 10 ∧
  ∀ t x y H2, Ex H H2 → H2 t = some (.tup [x, y]) → LdAt K H2 (meetO one other true (enoughL (max (reachOf one) (reachOf other)))) x → LdAt K H2 (meetO one other false (enoughL (max (reachOf one) (reachOf other)))) y → Q (.ref t) H2
theorem ok_meeting (F : Fun K "meeting" "meeting" s_meeting f fd) (T : Txt w K mg C_BadRule C_BadRules C_BadLand C_BadDay C_BadNumber C_Feast C_Calendar) (CF : Cls1 K C_Feast ["told", "bys"]) (CC : Cls1 K C_Calendar ["rows", "near"]) : FnOk P w K mg base CX0 8 f fd ["one", "other"] (spMeet K C_Feast C_Calendar) := by
  have D_days_of : Dn P w K mg base CX0 "days_of" 7 ["rows", "land"] (spDays K C_Feast) := dn_days T CF
  have D_enough : Dn P w K mg base CX0 "enough" 3 ["reach"] (spEnough K) := dn_enough T
  refine F.ok sc_meeting (fun vs H Q E h => ?_) (fun cdv A outer s H vs Q E hr h => ?_)
  · obtain ⟨_, _, _, _, rfl, _⟩ := h
    rfl
  · obtain ⟨u, v, one, other, rfl, ⟨cu, dxu, ru, rfl, hu, hru⟩, ⟨cv, dxv, rv, rfl, hv, hrv⟩, hd1, hd2, hr1, hr2, k⟩ := h
    refine ⟨_, (pss_cons (ps_set (i := 2) sc_meeting.nd rfl (by first | exact Or.inl rfl | exact Or.inr rfl) pe_dnewB)
  (pss_cons (ps_for PassesOwn.never rfl (pi_list (pe_fn D_enough (hr.mono (by omega)) pass0 rfl (pa_cons (pe_callB (call_max2 rfl) (by rfl) T.max (by decide +kernel) (pa_cons (pe_fld (pv 0) rfl) (pa_cons (pe_fld (pv 1) rfl) pa_nil))) pa_nil))) (pg_name (i := 3) sc_meeting.nd rfl (by first | exact Or.inl rfl | exact Or.inr rfl))
  (pss_cons (ps_set (i := 4) sc_meeting.nd rfl (by first | exact Or.inl rfl | exact Or.inr rfl) (pe_cmpR op_ne (pe_op op_and (pe_fn D_days_of (hr.mono (by omega)) pass0 rfl (pa_cons (pe_fld (pv 0) rfl) (pa_cons (pv 3) pa_nil))) (pe_fn D_days_of (hr.mono (by omega)) pass0 rfl (pa_cons (pe_fld (pv 1) rfl) (pa_cons (pv 3) pa_nil)))) pe_int (nomark _)))
  (pss_one (ps_if (pt_cmp (pc_dnotinB (pv 4) (pv 2))) (pss_one (ps_dputB (pv 2) (pv 4) (pv 3) rfl))
  pss_nil))))
  (pss_one (ps_ret (pe_tup (pa_cons (pe_dgetB (pv 2) pe_bl pe_non ⟨rfl, rfl, rfl, rfl⟩) (pa_cons (pe_dgetB (pv 2) pe_bl pe_non ⟨rfl, rfl, rfl, rfl⟩) pa_nil))))))), ?_⟩
    refine q_asgX fun Fd hF => ?_
    have e1 : Ex H (upd H Fd (dB P w Fd [])) := Ex.new hF
    have hm10 : max (reachOf one) (reachOf other) ≤ 10 := by omega
    generalize hmr : max (reachOf one) (reachOf other) = r at k hm10
    refine q_forER (er_enough (r := r) (ea_cons (ev_is (ev_nmax (ev_fld (ev_var rfl) (e1 _ _ hu) CC.cl (CC.no _ (by simp)) (calF_near _ _)) (ev_fld (ev_var rfl) (e1 _ _ hv) CC.cl (CC.no _ (by simp)) (calF_near _ _))) (by rw [hmr])) ea_nil) hm10)
      (fun p xs i σ' H' => ∃ a3 a4 kvs, σ' = [some (.ref cu), some (.ref cv), some (.ref Fd), a3, a4] ∧ Ex H H' ∧ H' p = some (.lst xs) ∧ LandL K H' xs (enoughL r) ∧ H' Fd = some (dB P w Fd kvs) ∧ kvs.length ≤ i ∧ ∀ b, LdAt K H' (meetO one other b ((enoughL r).take i)) ((kvs.lookup b).getD .non) ∧ ((kvs.lookup b).isNone = (meetO one other b ((enoughL r).take i)).isNone))
      (fun p xs H1 hp e2 h1 hl => ⟨none, none, [], rfl, e1.trans e2, h1, hl, e2 _ _ upd_same, Nat.le_refl _, fun b => ⟨.inl ⟨rfl, rfl⟩, rfl⟩⟩) (fun p xs i σ' H' _ ⟨_, _, _, _, _, h, _⟩ => sq_of h) ?_ ?_
    · rintro p xs i x σ' H' hi ⟨a3, a4, kvs, rfl, e, hp, hl, hFd, hkl, hkv⟩
      obtain ⟨⟨lw, lm⟩, lp, hget, rfl, hT⟩ := hl.get hi
      have hmem : (lw, lm) ∈ enoughL r := List.mem_of_getElem? hget
      have hO : LandOk lw lm := enoughL_ok hm10 hmem
      obtain ⟨w2, wm, m6, n5⟩ := id hO
      have hil : i < 100000 := by
        have h1 := (List.getElem?_eq_some_iff.mp hget).1
        have h2 : (enoughL r).length ≤ 60000 := by
          have := (lands_eq (4 * r + 1) (6 * r + 1) (by omega))
          have h3 : (enoughL r).length = (rawL (6 * r + 1) (4 * r + 1 - 1)).length := by
            unfold enoughL
            rw [← this, List.length_mergeSort]
          have h4 := rawL_len (6 * r + 1) (4 * r + 1 - 1)
          have h5 : (4 * r + 1 - 1) * (6 * r + 1) ≤ 40 * 61 := Nat.mul_le_mul (by omega) (by omega)
          omega
        omega
      refine q_asg (v := .bl (meetB one other (lw, lm))) (ev_is (ev_op (ev_op (ev_call (ea_cons (ev_fld (ev_var rfl) (e _ _ hu) CC.cl (CC.no _ (by simp)) (calF_rows _ _)) (ea_cons (ev_var rfl) ea_nil)) (spv_days (hru.mono e) hd1 hT hO)) (ev_call (ea_cons (ev_fld (ev_var rfl) (e _ _ hv) CC.cl (CC.no _ (by simp)) (calF_rows _ _)) (ea_cons (ev_var rfl) ea_nil)) (spv_days (hrv.mono e) hd2 hT hO)) rv_I0) ev_c (rv_ne rfl)) (by
        rw [fig_and]
        unfold meetB
        refine congrArg (fun b => V.bl (!b)) ?_
        by_cases h : daysN (lw * lm) (fun d => calDay (lw : Int) (lm : Int) one d && calDay (lw : Int) (lm : Int) other d) = []
        · rw [figN_nil h, decide_eq_true h]
          rfl
        · have h0 := figN_pos h
          rw [decide_eq_false h, decide_eq_false]
          intro q
          exact h0 (Int.ofNat_inj.mp (V.int.inj q)))) fun H1 e2 => ?_
      have hFd1 := e2 _ _ hFd
      obtain ⟨hk1, hk2⟩ := hkv (meetB one other (lw, lm))
      refine s_if (b := (kvs.lookup (meetB one other (lw, lm))).isNone) (fun H2 e3 Q q => ⟨_, rfl, _, rfl, Fd, meetB one other (lw, lm), kvs, rfl, rfl, e3 _ _ hFd1, _, rfl, q H2 (Ex.refl H2)⟩) (fun hb H2 e3 => ?_) (fun hb H2 e3 => ?_)
      · have hnone : kvs.lookup (meetB one other (lw, lm)) = none := Option.isNone_iff_eq_none.mp hb
        have hmo : meetO one other (meetB one other (lw, lm)) ((enoughL r).take i) = none := Option.isNone_iff_eq_none.mp (hk2 ▸ hb)
        have E3 := e2.trans e3
        have hFd2 := e3 _ _ hFd1
        refine ⟨_, rfl, _, rfl, _, rfl, Fd, meetB one other (lw, lm), kvs, rfl, rfl, hFd2, hnone, by omega, ?_⟩
        have kn : KeepN H' (upd H2 Fd (dB P w Fd (kvs ++ [(meetB one other (lw, lm), V.ref lp)]))) → True := fun _ => trivial
        have hup : ∀ q o, q ≠ Fd → H' q = some o → upd H2 Fd (dB P w Fd (kvs ++ [(meetB one other (lw, lm), V.ref lp)])) q = some o := fun q o hq h => by
          rw [upd_ne hq]
          exact E3 _ _ h
        have sqt : ∀ {q : Addr} {zs : List V}, SqT K H' q zs → SqT K (upd H2 Fd (dB P w Fd (kvs ++ [(meetB one other (lw, lm), V.ref lp)]))) q zs := fun {q zs} h => by
          have hne : ∀ o, H' q = some o → (∀ ks, o ≠ dB P w Fd ks) → q ≠ Fd := fun o ho hn z => by
            rw [z, hFd] at ho
            exact hn kvs (Option.some.inj ho).symm
          rcases h with (h | ⟨o, h⟩) | h
          · exact .inl (.inl (hup _ _ (hne _ h fun ks z => by
              have z' : HO.tup zs = HO.ext _ := z
              cases z') h))
          · exact .inl (.inr ⟨o, hup _ _ (hne _ h fun ks z => by
              have z' : HO.frz o _ = HO.ext _ := z
              cases z') h⟩)
          · exact .inr h
        have landl : ∀ {xs : List V} {ls : List (Nat × Nat)}, LandL K H' xs ls → LandL K (upd H2 Fd (dB P w Fd (kvs ++ [(meetB one other (lw, lm), V.ref lp)]))) xs ls := by
          intro xs ls
          induction xs generalizing ls with
          | nil => intro h; cases ls <;> exact h
          | cons x xs ih =>
            intro h
            cases ls with
            | nil => exact h.elim
            | cons l ls =>
              obtain ⟨⟨p, h0, h1⟩, h2⟩ := h
              exact ⟨⟨p, h0, sqt h1⟩, ih h2⟩
        have hpF : p ≠ Fd := fun z => by
          rw [z, hFd] at hp
          exact dB_lst (Option.some.inj hp)
        refine ⟨_, _, kvs ++ [(meetB one other (lw, lm), .ref lp)], rfl, ((e.trans E3).mut hF), hup _ _ hpF hp, landl hl, upd_same, by rw [List.length_append]; show _ + 1 ≤ _; omega, fun b => ?_⟩
        rw [meet_more hget]
        obtain ⟨hb1, hb2⟩ := hkv b
        by_cases hbb : meetB one other (lw, lm) = b
        · subst hbb
          have hlk : (kvs ++ [(meetB one other (lw, lm), V.ref lp)]).lookup (meetB one other (lw, lm)) = some (.ref lp) := by
            rw [List.lookup_append, hnone]
            simp [List.lookup]
          rw [hmo, hlk, if_pos rfl]
          exact ⟨.inr ⟨(lw, lm), lp, rfl, rfl, sqt hT⟩, rfl⟩
        · have hlk : (kvs ++ [(meetB one other (lw, lm), V.ref lp)]).lookup b = kvs.lookup b := by
            rw [List.lookup_append]
            have : (b == meetB one other (lw, lm)) = false := by simpa using fun z => hbb z.symm
            simp [List.lookup, this]
          rw [hlk, if_neg hbb, Option.or_none]
          refine ⟨?_, hb2⟩
          rcases hb1 with h | ⟨l, lp', h1, h2, h3⟩
          · exact .inl h
          · exact .inr ⟨l, lp', h1, h2, sqt h3⟩
      · have E3 := e2.trans e3
        refine ⟨_, _, kvs, rfl, e.trans E3, E3 _ _ hp, hl.kn (KeepN.of E3), E3 _ _ hFd, by omega, fun b => ?_⟩
        rw [meet_more hget]
        obtain ⟨hb1, hb2⟩ := hkv b
        have hor : (meetO one other b ((enoughL r).take i)).or (if meetB one other (lw, lm) = b then some (lw, lm) else none) = meetO one other b ((enoughL r).take i) := by
          by_cases hbb : meetB one other (lw, lm) = b
          · subst hbb
            rw [hk2] at hb
            cases ho : meetO one other (meetB one other (lw, lm)) ((enoughL r).take i) with
            | none => rw [ho] at hb; cases hb
            | some z => rfl
          · rw [if_neg hbb, Option.or_none]
        rw [hor]
        exact ⟨hb1.kn (KeepN.of E3), hb2⟩
    · rintro p xs σ' H' ⟨a3, a4, kvs, rfl, e, hp, hl, hFd, hkl, hkv⟩
      rw [hl.len, List.take_length] at hkv
      refine s_retU (eu_tup (ea_cons (ev_getB (ev_var rfl) ev_c ev_c hFd) (ea_cons (ev_getB (ev_var rfl) ev_c ev_c hFd) ea_nil)) (by show 2 ≤ 100000; decide)) fun t H1 _ e2 h1 => ?_
      exact k t _ _ H1 (e.trans e2) h1 ((hkv true).1.kn (KeepN.of e2)) ((hkv false).1.kn (KeepN.of e2))
theorem dn_meeting (T : Txt w K mg C_BadRule C_BadRules C_BadLand C_BadDay C_BadNumber C_Feast C_Calendar) (CF : Cls1 K C_Feast ["told", "bys"]) (CC : Cls1 K C_Calendar ["rows", "near"]) : Dn P w K mg base CX0 "meeting" 8 ["one", "other"] (spMeet K C_Feast C_Calendar) := T.f_meeting.dn fun _ _ F _ _ => ok_meeting F T CF CC
end
end WF

set_option Elab.async false
set_option linter.all false
set_option maxRecDepth 100000
set_option maxHeartbeats 1000000
/-! words that the law uses; what holds of all lands -/
namespace WF
open PySem L2 Evl
/-! the plain law -/
theorem per_all {w m : Nat} (hN : 0 < w * m) {p : Int → Bool} (hp : Per ((w * m : Nat) : Int) p) {b : Bool} (h : ∀ d : Nat, d < w * m → p (d : Int) = b) (e : Int) : p e = b := by
  have h0 := Int.emod_nonneg e (show ((w * m : Nat) : Int) ≠ 0 by omega)
  have h1 := Int.emod_lt_of_pos e (show 0 < ((w * m : Nat) : Int) by omega)
  have := h (e % ((w * m : Nat) : Int)).toNat (by omega)
  rw [Int.toNat_of_nonneg h0, hp.emod] at this
  exact this
theorem days_none {N : Nat} {p : Int → Bool} (h : daysN N p = []) (d : Nat) (hd : d < N) : p (d : Int) = false := by
  cases hp : p (d : Int) with
  | false => rfl
  | true =>
    have : d ∈ daysN N p := daysN_mem.mpr ⟨hd, hp⟩
    rw [h] at this
    cases this
theorem unlike_none {one other : Rows} {r : Nat} (h : unlikeO one other (enoughL r) = none) (hr : r ≤ 10) {l : Nat × Nat} (hl : l ∈ enoughL r) (e : Int) : calDay l.1 l.2 one e = calDay l.1 l.2 other e := by
  have h1 := List.findSome?_eq_none_iff.mp h l hl
  unfold unlikeAt at h1
  have h2 : daysN (l.1 * l.2) (unlikeB one other l) = [] := by
    cases hd : daysN (l.1 * l.2) (unlikeB one other l) with
    | nil => rfl
    | cons a b => rw [hd] at h1; cases h1
  have hO := enoughL_ok hr hl
  have hp : Per ((l.1 * l.2 : Nat) : Int) (unlikeB one other l) := fun d => by
    unfold unlikeB
    rw [Int.natCast_mul, cal_per l.1 l.2 one d, cal_per l.1 l.2 other d]
  have h3 := per_all hO.pos hp (days_none h2) e
  unfold unlikeB at h3
  revert h3
  cases calDay l.1 l.2 one e <;> cases calDay l.1 l.2 other e <;> simp
theorem meet_none {one other : Rows} {r : Nat} (h : meetO one other true (enoughL r) = none) (hr : r ≤ 10) {l : Nat × Nat} (hl : l ∈ enoughL r) (e : Int) : (calDay l.1 l.2 one e && calDay l.1 l.2 other e) = false := by
  have h1 := List.find?_eq_none.mp h l hl
  have h2 : daysN (l.1 * l.2) (fun d => calDay l.1 l.2 one d && calDay l.1 l.2 other d) = [] := by
    unfold meetB at h1
    by_cases q : daysN (l.1 * l.2) (fun d => calDay l.1 l.2 one d && calDay l.1 l.2 other d) = []
    · exact q
    · rw [decide_eq_false q] at h1
      exact absurd rfl h1
  have hO := enoughL_ok hr hl
  exact per_all hO.pos (p := fun d => calDay l.1 l.2 one d && calDay l.1 l.2 other d) (fun d => by
    show (calDay l.1 l.2 one (d + _) && calDay l.1 l.2 other (d + _)) = _
    rw [Int.natCast_mul, cal_per l.1 l.2 one d, cal_per l.1 l.2 other d]) (days_none h2) e
theorem alike_six {one other : Rows} {r w m : Nat} (h3 : 3 ≤ r) (h10 : r ≤ 10) (hl : (w, m) ∈ sixL) (f1 : ∀ q ∈ one, q.1.fit = true) (f2 : ∀ q ∈ other, q.1.fit = true) (r1 : reachOf one ≤ r) (r2 : reachOf other ≤ r) (h : unlikeO one other (enoughL r) = none) (d : Int) : calDay w m one d = calDay w m other d := by
  obtain ⟨v, n, hmem, e, hk⟩ := six_like h3 h10 hl d
  rw [hk.cal f1 r1, hk.cal f2 r2]
  exact unlike_none h h10 hmem e
theorem never_six {one other : Rows} {r w m : Nat} (h3 : 3 ≤ r) (h10 : r ≤ 10) (hl : (w, m) ∈ sixL) (f1 : ∀ q ∈ one, q.1.fit = true) (f2 : ∀ q ∈ other, q.1.fit = true) (r1 : reachOf one ≤ r) (r2 : reachOf other ≤ r) (h : meetO one other true (enoughL r) = none) (d : Int) : (calDay w m one d && calDay w m other d) = false := by
  obtain ⟨v, n, hmem, e, hk⟩ := six_like h3 h10 hl d
  rw [hk.cal f1 r1, hk.cal f2 r2]
  exact meet_none h h10 hmem e
theorem unlike_of {one other : Rows} (h : ∀ (w m d : Int), calDay w m one d = calDay w m other d) (ls : List (Nat × Nat)) : unlikeO one other ls = none := by
  refine List.findSome?_eq_none_iff.mpr fun l _ => ?_
  unfold unlikeAt
  have : daysN (l.1 * l.2) (unlikeB one other l) = [] := by
    unfold daysN
    refine List.filter_eq_nil_iff.mpr fun d _ => ?_
    unfold unlikeB
    rw [h]
    cases calDay l.1 l.2 other d <;> simp
  rw [this]
  rfl
theorem meet_of {one other : Rows} (h : ∀ (w m d : Int), (calDay w m one d && calDay w m other d) = false) (ls : List (Nat × Nat)) : meetO one other true ls = none := by
  refine List.find?_eq_none.mpr fun l _ => ?_
  unfold meetB
  have : daysN (l.1 * l.2) (fun d => calDay l.1 l.2 one d && calDay l.1 l.2 other d) = [] := by
    unfold daysN
    refine List.filter_eq_nil_iff.mpr fun d _ => ?_
    show ¬ (calDay l.1 l.2 one d && calDay l.1 l.2 other d) = true
    rw [h]
    simp
  rw [this]
  decide
theorem one_day (w m : Int) (r : Rl) (d : Int) : calDay w m [(r, false)] d = r.day w m d := by
  unfold calDay
  simp [addRow]
theorem two_day (w m : Int) (r s : Rl) (d : Int) : calDay w m [(r, false), (s, false)] d = (r.day w m d || s.day w m d) := by
  unfold calDay
  simp [addRow]
theorem and_wo_len (p q : Int → Bool) : ∀ N : Nat, (daysN N fun d => p d && q d).length + (daysN N fun d => p d && !q d).length = (daysN N p).length
  | 0 => rfl
  | n + 1 => by
    have ih := and_wo_len p q n
    rw [daysN_succ, daysN_succ, daysN_succ, List.length_append, List.length_append, List.length_append, ← ih]
    cases p (n : Int) <;> cases q (n : Int) <;> simp <;> omega
/-- a rule of one part has a day in each round -/
theorem leaf_day {r : Rl} (hp : r.parts ≤ 1) {w m : Nat} (hO : LandOk w m) : ∃ d : Nat, d < w * m ∧ r.day w m (d : Int) = true := by
  have w2 := hO.w2
  have wm := hO.wm
  have hwm : w ≤ w * m := Nat.le_mul_of_pos_right w (by omega)
  have hmm : m ≤ w * m := Nat.le_mul_of_pos_left m (by omega)
  have key : ∀ (n : Nat) (k : Int), 0 < n → ∃ d : Nat, d < n ∧ (d : Int) % (n : Int) = k % (n : Int) := fun n k hn => by
    have h0 := Int.emod_nonneg k (show (n : Int) ≠ 0 by omega)
    have h1 := Int.emod_lt_of_pos k (show 0 < (n : Int) by omega)
    refine ⟨(k % (n : Int)).toNat, by omega, ?_⟩
    rw [Int.toNat_of_nonneg h0, Int.emod_emod]
  cases r with
  | wk k =>
    obtain ⟨d, h1, h2⟩ := key w k (by omega)
    exact ⟨d, by omega, by show ((d : Int) % (w : Int) == k % (w : Int)) = true; rw [h2]; exact beq_self_eq_true _⟩
  | md k =>
    obtain ⟨d, h1, h2⟩ := key m k (by omega)
    exact ⟨d, by omega, by show ((d : Int) % (m : Int) == k % (m : Int)) = true; rw [h2]; exact beq_self_eq_true _⟩
  | fs k =>
    obtain ⟨d, h1, h2⟩ := key w k (by omega)
    refine ⟨d, by omega, ?_⟩
    show ((d : Int) % (w : Int) == k % (w : Int) && decide ((d : Int) % (m : Int) < (w : Int))) = true
    rw [h2, Int.emod_eq_of_lt (show (0 : Int) ≤ (d : Int) by omega) (show (d : Int) < (m : Int) by omega), decide_eq_true (by omega), beq_self_eq_true]
    rfl
  | bh r b => have := parts_pos r; simp only [Rl.parts] at hp; omega
  | bo x y => have := parts_pos x; simp only [Rl.parts] at hp; omega
  | ei x y => have := parts_pos x; simp only [Rl.parts] at hp; omega
  | wo x y => have := parts_pos x; simp only [Rl.parts] at hp; omega
theorem leaf_bys {r : Rl} (hp : r.parts ≤ 1) : r.bys = 0 := by
  cases r with
  | wk _ | fs _ | md _ => rfl
  | bh r b => have := parts_pos r; simp only [Rl.parts] at hp; omega
  | bo x y => have := parts_pos x; simp only [Rl.parts] at hp; omega
  | ei x y => have := parts_pos x; simp only [Rl.parts] at hp; omega
  | wo x y => have := parts_pos x; simp only [Rl.parts] at hp; omega
theorem nth_count {w m : Nat} {ds : List Nat} (h : ds ≠ []) : ∃ z : Int, nthV w m ds 0 = .int z ∧ nthV w m ds ((ds.length : Nat) : Int) = .int (z + (w : Int) * (m : Int)) := by
  have hl : (ds.length : Int) ≠ 0 := by
    intro q
    exact h (List.length_eq_zero_iff.mp (by omega))
  unfold nthV
  rw [if_neg h, if_neg h, Int.ediv_self hl, Int.emod_self, Int.zero_ediv, Int.zero_emod]
  refine ⟨_, rfl, ?_⟩
  rw [Int.one_mul, Int.zero_mul, Int.zero_mul, Int.zero_add, Int.add_comm]
theorem sorted_same {ds es : List Nat} {a b : List Int} (h : ds.Perm es) (ha : a.Perm (ds.map fun (d : Nat) => (d : Int))) (hb : b.Perm (es.map fun (d : Nat) => (d : Int))) (sa : a.Pairwise (· ≤ ·)) (sb : b.Pairwise (· ≤ ·)) : a = b :=
  List.Perm.eq_of_pairwise (le := (· ≤ ·)) (fun x y _ _ h1 h2 => Int.le_antisymm h1 h2) sa sb (ha.trans ((h.map _).trans hb.symm))
/-! words -/
section
variable {K : PySem.W.Frag} {σ : L2.St} {H : Hp} {ta tb te tl tu : TE} {tA : TA} {xs ys : List V}
theorem tA_one {Q : List V → Hp → Prop} (h : te σ H fun x H1 => Q [x] H1) : tCons te tNil σ H Q := h
theorem tA_x {Q : List V → Hp → Prop} (h : te σ H fun x H1 => tA σ H1 fun xs H2 => Q (x :: xs) H2) : tCons te tA σ H Q := h
theorem tOp_go {r : R2} {Q : VK} (h : ta σ H fun x H1 => tb σ H1 fun y H2 => r x y H2 Q) : tOp r ta tb σ H Q := h
theorem tCall_go {sp : Sp} {E : XK} {Q : VK} (h : tA σ H fun vs H1 => sp (vs ++ []) H1 Q E) : tCall sp [] E tA σ H Q := h
theorem rule_new {d : Addr} {p b : Nat} {E : XK} {Q : VK} (hd : H d = some (.lst xs)) (hg : Good xs) (hp : p < 5) (hb : b ≤ 100) (h0 : Ev ta σ H (.ref d)) (k : ∀ v r xs' H', RlAt K H' v r → r.fit = true → r.parts ≤ 1 + p → r.bys ≤ b → Good xs' → H' d = some (.lst xs') → ExB d H H' → Q v H') :
    tCall (spRule K 5) [] E (tCons ta (tCons (tLst (tCons (tC (.int (p : Int))) (tCons (tC (.int (b : Int))) tNil))) tNil)) σ H Q :=
  h0 H (Ex.refl H) _ fun H1 e1 => (el_lst (vs := [.int (p : Int), .int (b : Int)]) (ea_cons ev_c (ea_cons ev_c ea_nil)) (by show 2 ≤ 100000; decide)) H1 e1 _ fun l H2 hl e2 h2 => ⟨d, l, xs, p, b, rfl, (e1.trans e2) _ _ hd, hg, h2, ne_of_none (e1 _ _ hd) hl, hp, hb, fun v r xs' p' b' H' hR hf hp hb hg' hd' hl' eb =>
    k v r xs' H' hR hf (by omega) (by omega) hg' hd' fun b o hb q => eb b o hb (ne_of_none (e1 _ _ q) hl) ((e1.trans e2) _ _ q)⟩
theorem mk_go {CF CR : Addr} {E : XK} {Q : VK} (h : te σ H fun v H1 => tMake CF (spFeast K CF CR) [] E (fun _ H Q => Q [v] H) σ H1 Q) : tMake CF (spFeast K CF CR) [] E (tCons te tNil) σ H Q := h
theorem mk_leaf {CF CR : Addr} {E : XK} {Q : VK} {v : V} {r : Rl} (hr : RlAt K H v r) (hf : r.fit = true) (hp : r.parts ≤ 5) (hb : r.bys ≤ 4) (k : ∀ p H2, H p = none → Ex H H2 → FeastAt K CF H2 p r → Q (.ref p) H2) : tMake CF (spFeast K CF CR) [] E (fun _ H Q => Q [v] H) σ H Q :=
  er_feast (K := K) (CF := CF) (CR := CR) (σ := σ) (H := H) (v := v) (r := r) (ta := fun _ H Q => Q [v] H) (E := E) (fun H3 _ Q q => q H3 (Ex.refl H3)) hr hf hp hb H (Ex.refl H) Q fun p H3 hp e3 hc => k p H3 hp e3 hc
theorem pick_R {d : Addr} {Q : VK} {E : XK} {S : List V → Hp → Prop} {n : Nat} (hS : ∀ ys H, S ys H → ys.length = n) (h0 : Ev ta σ H (.ref d)) (hl : EvR tl σ H fun p H2 => ∃ ys, H2 p = some (.lst ys) ∧ S ys H2) (hd : H d = some (.lst xs)) (hg : Good xs) (h1 : 1 ≤ n) (h2 : n ≤ 1000)
    (k : ∀ y ys xs' H2 H', Ex H H2 → S ys H2 → y ∈ ys → ExB d H2 H' → H2 d = some (.lst xs) → H' d = some (.lst xs') → Good xs' → Q y H') : tCall (spPick K) [] E (tCons ta (tCons tl tNil)) σ H Q :=
  h0 H (Ex.refl H) _ fun H1 e1 => hl H1 e1 _ fun p H2 hp e2 ⟨ys, hy, hs⟩ => ⟨d, p, xs, ys, rfl, (e1.trans e2) _ _ hd, hg, sq_of hy, (ne_of_none (e1 _ _ hd) hp).symm, by rw [hS _ _ hs]; exact h1, by rw [hS _ _ hs]; omega, fun y xs' H' hm hg' eb hd' =>
    k y ys xs' H2 H' (e1.trans e2) hs hm eb ((e1.trans e2) _ _ hd) hd' hg'⟩
theorem spv_alike {H : Hp} {CF CC : Addr} {u v : V} {one other : Rows} (hu : CalAt K CF CC H u one) (hv : CalAt K CF CC H v other) (h1 : depMax one < 5) (h2 : depMax other < 5) (h3 : reachOf one ≤ 10) (h4 : reachOf other ≤ 10) : SpV (spAlike K CF CC) ([u, v] ++ []) H (.bl (unlikeO one other (enoughL (max (reachOf one) (reachOf other)))).isNone) :=
  spV fun H1 e Q _ q => ⟨u, v, one, other, rfl, hu.mono e, hv.mono e, h1, h2, h3, h4, q⟩
/-- alike of two made on the way -/
theorem ev_alikeR {CF CC : Addr} {E : XK} {one other : Rows} (h1 : EvR ta σ H fun p H2 => CalAt K CF CC H2 (.ref p) one) (h2 : EvR tb σ H fun p H2 => CalAt K CF CC H2 (.ref p) other) (d1 : depMax one < 5) (d2 : depMax other < 5) (r1 : reachOf one ≤ 10) (r2 : reachOf other ≤ 10) (ho : ∀ r, unlikeO one other (enoughL r) = none) : Ev (tCall (spAlike K CF CC) [] E (tCons ta (tCons tb tNil))) σ H (.bl true) := fun H1 e Q q =>
  h1 H1 e _ fun p H2 hp e2 c1 => h2 H2 (e.trans e2) _ fun p2 H3 hp2 e3 c2 => ⟨_, _, one, other, rfl, c1.mono e3, c2, d1, d2, r1, r2, fun H4 e4 => by
    rw [ho]
    exact q H4 ((e2.trans e3).trans e4)⟩
theorem ev_alikeV {CF CC : Addr} {E : XK} {a : Addr} {one other : Rows} (h1 : EvR ta σ H fun p H2 => CalAt K CF CC H2 (.ref p) one) (h2 : Ev tb σ H (.ref a)) (hc : CalAt K CF CC H (.ref a) other) (d1 : depMax one < 5) (d2 : depMax other < 5) (r1 : reachOf one ≤ 10) (r2 : reachOf other ≤ 10) (ho : ∀ r, unlikeO one other (enoughL r) = none) : Ev (tCall (spAlike K CF CC) [] E (tCons ta (tCons tb tNil))) σ H (.bl true) := fun H1 e Q q =>
  h1 H1 e _ fun p H2 hp e2 c1 => h2 H2 (e.trans e2) _ fun H3 e3 => ⟨_, _, one, other, rfl, c1.mono e3, hc.mono ((e.trans e2).trans e3), d1, d2, r1, r2, fun H4 e4 => by
    rw [ho]
    exact q H4 ((e2.trans e3).trans e4)⟩
theorem ev_alikeW {CF CC : Addr} {E : XK} {a : Addr} {one other : Rows} (h1 : Ev ta σ H (.ref a)) (hc : CalAt K CF CC H (.ref a) one) (h2 : EvR tb σ H fun p H2 => CalAt K CF CC H2 (.ref p) other) (d1 : depMax one < 5) (d2 : depMax other < 5) (r1 : reachOf one ≤ 10) (r2 : reachOf other ≤ 10) (ho : ∀ r, unlikeO one other (enoughL r) = none) : Ev (tCall (spAlike K CF CC) [] E (tCons ta (tCons tb tNil))) σ H (.bl true) := fun H1 e Q q =>
  h1 H1 e _ fun H2 e2 => h2 H2 (e.trans e2) _ fun p2 H3 hp2 e3 c2 => ⟨_, _, one, other, rfl, hc.mono ((e.trans e2).trans e3), c2, d1, d2, r1, r2, fun H4 e4 => by
    rw [ho]
    exact q H4 ((e2.trans e3).trans e4)⟩
theorem ld_non {o : Option (Nat × Nat)} {x : V} (h : LdAt K H o x) : decide (x = .non) = o.isNone := by
  rcases h with ⟨rfl, rfl⟩ | ⟨l, lp, rfl, rfl, _⟩
  · rfl
  · rfl
/-- meeting(..)[0] is None -/
theorem ev_meetN {CF CC : Addr} {E : XK} {u v : V} {one other : Rows} (h : EvA tA σ H [u, v]) (hu : CalAt K CF CC H u one) (hv : CalAt K CF CC H v other) (d1 : depMax one < 5) (d2 : depMax other < 5) (r1 : reachOf one ≤ 10) (r2 : reachOf other ≤ 10) :
    Ev (tOp (fun x y H Q => y = .non ∧ Q (.bl (decide (x = .non))) H) (tOp (rIxT K) (tCall (spMeet K CF CC) [] E tA) (tC (.int 0))) (tC .non)) σ H (.bl (meetO one other true (enoughL (max (reachOf one) (reachOf other)))).isNone) := fun H1 e Q q =>
  h H1 e _ fun H2 e2 => ⟨u, v, one, other, rfl, hu.mono (e.trans e2), hv.mono (e.trans e2), d1, d2, r1, r2, fun t x y H3 e3 ht hx hy => ⟨t, [x, y], 0, x, rfl, rfl, st_of ht, rfl, rfl, by
    rw [ld_non hx]
    exact q H3 (e2.trans e3)⟩⟩
theorem ev_meetR {CF CC : Addr} {E : XK} {one other : Rows} (h1 : EvR ta σ H fun p H2 => CalAt K CF CC H2 (.ref p) one) (h2 : EvR tb σ H fun p H2 => CalAt K CF CC H2 (.ref p) other) (d1 : depMax one < 5) (d2 : depMax other < 5) (r1 : reachOf one ≤ 10) (r2 : reachOf other ≤ 10) (ho : ∀ r, meetO one other true (enoughL r) = none) :
    Ev (tOp (fun x y H Q => y = .non ∧ Q (.bl (!decide (x = .non))) H) (tOp (rIxT K) (tCall (spMeet K CF CC) [] E (tCons ta (tCons tb tNil))) (tC (.int 0))) (tC .non)) σ H (.bl false) := fun H1 e Q q =>
  h1 H1 e _ fun p H2 hp e2 c1 => h2 H2 (e.trans e2) _ fun p2 H3 hp2 e3 c2 => ⟨_, _, one, other, rfl, c1.mono e3, c2, d1, d2, r1, r2, fun t x y H4 e4 ht hx hy => ⟨t, [x, y], 0, x, rfl, rfl, st_of ht, rfl, rfl, by
    rw [ld_non hx, ho]
    exact q H4 ((e2.trans e3).trans e4)⟩⟩
/-- a op b, of two feasts -/
theorem er_bin {CF CR : Addr} {a b : Addr} {r s : Rl} {mk : Rl → Rl → Rl} (h1 : Ev ta σ H (.ref a)) (h2 : Ev tb σ H (.ref b)) (ha : FeastAt K CF H a r) (hb : FeastAt K CF H b s) (f1 : r.fit = true) (f2 : s.fit = true) (ok : okRl (mk r s) = true) : EvR (tBinS CF (spOp K CF CR mk) (fun _ => E0) ta tb) σ H fun p H2 => FeastAt K CF H2 p (mk r s) := fun H1 e Q q =>
  h1 H1 e _ fun H2 e2 => h2 H2 (e.trans e2) _ fun H3 e3 => by
    have E3 := (e.trans e2).trans e3
    have ha3 := ha.mono E3
    have hb3 := hb.mono E3
    obtain ⟨dx, v, ho, _⟩ := id ha3
    obtain ⟨dy, u, ho2, _⟩ := id hb3
    exact ⟨a, b, dx, _, dy, _, rfl, rfl, ho, ho2, a, b, r, s, rfl, ha3, hb3, f1, f2, (fun hn => by rw [ok] at hn; cases hn), fun _ p H4 hp e4 hf => ⟨p, rfl, q p H4 (fresh_back (e2.trans e3) hp) ((e2.trans e3).trans e4) hf⟩⟩
/-- f.moved(by) -/
theorem er_moved {CF CR : Addr} {r : Rl} {z : Int} (h1 : EvR ta σ H fun p H2 => FeastAt K CF H2 p r) (h2 : ∀ H1, Ex H H1 → Ev tb σ H1 (.int z)) (f1 : r.fit = true) (hz : byOk z = true) (ok : okRl (.bh r z) = true) : EvR (tMeth CF "moved" (spMoved K CF CR) [] E0 ta (tCons tb tNil)) σ H fun p H2 => FeastAt K CF H2 p (.bh r z) := fun H1 e Q q =>
  h1 H1 e _ fun p H2 hp e2 hF => by
    obtain ⟨dx, v, ho, hv⟩ := id hF
    refine ⟨p, dx, _, rfl, ho, feastF_no _ _ (by decide +kernel) (by decide +kernel), h2 H2 (e.trans e2) H2 (Ex.refl H2) _ fun H3 e3 => ⟨p, _, r, some z, rfl, hF.mono e3, f1, .int z, (fun hn => ?_), fun z' hz' _ _ p' H4 hp' e4 hf => ?_⟩⟩
    · rw [hn z rfl hz] at ok
      cases ok
    · cases hz'
      exact q p' H4 (fresh_back (e2.trans e3) hp') ((e2.trans e3).trans e4) hf
theorem er_feastV {CF : Addr} {a : Addr} {r : Rl} {R : Addr → Hp → Prop} (h : Ev ta σ H (.ref a)) (ha : FeastAt K CF H a r) : ∀ H1, Ex H H1 → ∀ Q : VK, (∀ H2, Ex H1 H2 → FeastAt K CF H2 a r → Q (.ref a) H2) → ta σ H1 Q := fun H1 e Q q => h H1 e Q fun H2 e2 => q H2 e2 (ha.mono (e.trans e2))
/-- sorted(list(days)) -/
theorem er_sortD {N : Nat} {p : Int → Bool} (h : EvL tu σ H xs) (hx : ∃ ds : List Nat, xs = ds.map (fun (d : Nat) => V.int (d : Int)) ∧ DaysOk N p ds) : EvR (tCB (rSortedI K) (tCons tu tNil)) σ H fun q H2 => ∃ ns : List Int, H2 q = some (.lst (ns.map V.int)) ∧ ns.Pairwise (· ≤ ·) ∧ ∃ ds : List Nat, DaysOk N p ds ∧ ns.Perm (ds.map fun (d : Nat) => (d : Int)) := by
  obtain ⟨ds, rfl, hok⟩ := hx
  refine fun H1 e Q q => h H1 e _ fun l H2 hl e2 h2 => ⟨l, ds.map fun (d : Nat) => (d : Int), rfl, sq_of (by rw [List.map_map]; exact h2), fun ns' p' hperm hs hp' => q p' _ (fresh_back e2 hp') (e2.trans (Ex.new hp')) ⟨ns', upd_same, hs, ds, hok, hperm⟩⟩
end
end WF

set_option Elab.async false
set_option linter.all false
set_option maxRecDepth 100000
set_option maxHeartbeats 4000000
/-! the law itself -/
namespace WF
open PySem L2 Evl
theorem sixL_ok : ∀ l ∈ sixL, 2 ≤ l.1 ∧ l.1 < l.2 ∧ l.2 ≤ 6000 ∧ Nat.gcd l.2 l.1 = 1 ∧ l.1 * l.2 ≤ 4000 := by decide +kernel
theorem reach_sub {a b : Rows} (h : a.Sublist b) : reachOf a ≤ reachOf b := by
  have h1 : rowsBys a ≤ rowsBys b := by
    unfold rowsBys
    induction h with
    | slnil => exact Nat.le_refl _
    | cons x _ ih => rw [List.map_cons, List.sum_cons]; omega
    | cons_cons x _ ih => rw [List.map_cons, List.map_cons, List.sum_cons, List.sum_cons]; omega
  have h2 := (h.filter fun r => r.2).length_le
  unfold reachOf
  omega
theorem out_sub (rows : Rows) (k : Nat) : (outRow rows k).Sublist rows := by
  unfold outRow
  conv => rhs; rw [← List.take_append_drop k rows]
  refine List.Sublist.append_left ?_ _
  rw [← List.drop_drop]
  exact List.drop_sublist _ _
theorem dep1 {x : Rl} (h : x.parts ≤ 5) : depMax [(x, false)] < 5 := by
  have := dep_parts x
  show max x.dep 0 < 5
  omega
theorem dep2 {x y : Rl} (h : x.parts ≤ 5) (g : y.parts ≤ 5) : depMax [(x, false), (y, false)] < 5 := by
  have := dep_parts x
  have := dep_parts y
  show max x.dep (max y.dep 0) < 5
  omega
theorem reach1 {x : Rl} (h : x.bys ≤ 4) : reachOf [(x, false)] ≤ 10 := by
  show 3 + (x.bys + 0) + 0 ≤ 10
  omega
theorem reach2 {x y : Rl} (h : x.bys + y.bys ≤ 4) : reachOf [(x, false), (y, false)] ≤ 10 := by
  show 3 + (x.bys + (y.bys + 0)) + 0 ≤ 10
  omega
theorem moved_day (w m : Int) (r : Rl) (z d : Int) : (Rl.bh (.bh r z) (-z)).day w m d = r.day w m d := by
  show r.day w m (d - -z - z) = r.day w m d
  rw [show d - -z - z = d by omega]
theorem eqv_ints_self : ∀ ns : List Int, PyData.eqv (.list (ns.map PyData.int)) (.list (ns.map PyData.int)) = true := fun ns => by
  show PyData.eqvAll _ _ = true
  induction ns with
  | nil => simp [PyData.eqvAll]
  | cons i ns ih => simp [PyData.eqvAll, PyData.eqv, ih]
section
variable {K : PySem.W.Frag} {σ : L2.St} {H : Hp} {ta tb te tl tu td : TE} {tA : TA} {D : Ends} {tz : TS}
theorem q_parX {i j : Nat} {tA : TA} (h : tA σ H fun xs H1 => ∃ x y, xs = [x, y] ∧ tz D ((σ.set i (some x)).set j (some y)) H1) : tSeq (tPar i j tA) tz D σ H := h
theorem er_made {CF CC : Addr} {E : XK} {R : Addr} {ys : List V} {rows : Rows} (h : EvA tA σ H [.ref R]) (hR : SqL K H R ys) (hraw : RawL K H ys rows) (hl : rows.length ≤ 3) (hok : RowsOk 5 rows) : EvR (tCall (spMade K CF CC) [] E tA) σ H fun p H2 => CalAt K CF CC H2 (.ref p) rows := fun H1 e Q q =>
  h H1 e _ fun H2 e2 => ⟨R, ys, rows, rfl, ex_l (e.trans e2) hR, hraw.kn (KeepN.of (e.trans e2)), hl, hok, fun p H3 hp e3 hc => q p H3 (fresh_back e2 hp) (e2.trans e3) hc⟩
theorem er_lall {E : XK} {L l : Addr} {ys : List V} {rows : Rows} {w m : Nat} (h : EvA tA σ H [.ref L, .ref l]) (hL : SqL K H L ys) (hraw : RawL K H ys rows) (hlen : rows.length ≤ 3) (hdep : depMax rows < 5) (hT : SqT K H l [.int w, .int m]) (hO : LandOk w m) :
    EvR (tCall (spAll K) [] E tA) σ H fun p H2 => ∃ ds, H2 p = some (.dK (dk ds)) ∧ DaysOk (w * m) (calDay w m rows) ds := fun H1 e Q q => h H1 e _ fun H2 e2 =>
  ⟨L, l, ys, rows, w, m, rfl, ex_l (e.trans e2) hL, hraw.kn (KeepN.of (e.trans e2)), hlen, hdep, ex_t (e.trans e2) hT, hO, fun p ds H3 hp e3 h3 hd => q p H3 (fresh_back e2 hp) (e2.trans e3) ⟨ds, h3, hd⟩⟩
theorem er_lallR {E : XK} {l : Addr} {rows : Rows} {w m : Nat} (h : EvR ta σ H (RawN K rows)) (h2 : ∀ H1, Ex H H1 → Ev tb σ H1 (.ref l)) (hlen : rows.length ≤ 3) (hdep : depMax rows < 5) (hT : SqT K H l [.int w, .int m]) (hO : LandOk w m) :
    EvR (tCall (spAll K) [] E (tCons ta (tCons tb tNil))) σ H fun p H2 => ∃ ds, H2 p = some (.dK (dk ds)) ∧ DaysOk (w * m) (calDay w m rows) ds := fun H1 e Q q => h H1 e _ fun L H2 hL e2 ⟨ys, k1, k2⟩ => h2 H2 (e.trans e2) H2 (Ex.refl H2) _ fun H3 e3 =>
  ⟨L, l, ys, rows, w, m, rfl, sq_of (e3 _ _ k1), k2.kn (KeepN.of e3), hlen, hdep, ex_t ((e.trans e2).trans e3) hT, hO, fun p ds H4 hp e4 h4 hd => q p H4 (fresh_back (e2.trans e3) hp) ((e2.trans e3).trans e4) ⟨ds, h4, hd⟩⟩
def DaysS (N : Nat) (p : Int → Bool) (l : Addr) (H : Hp) : Prop := ∃ ds : List Nat, H l = some (.lst (ds.map fun (d : Nat) => V.int (d : Int))) ∧ DaysOk N p ds
def SortS (N : Nat) (p : Int → Bool) (q : Addr) (H : Hp) : Prop := ∃ (ns : List Int) (ds : List Nat), H q = some (.lst (ns.map V.int)) ∧ ns.Pairwise (· ≤ ·) ∧ DaysOk N p ds ∧ ns.Perm (ds.map fun (d : Nat) => (d : Int))
theorem er_listN {N : Nat} {p : Int → Bool} (h : EvR td σ H fun a H2 => ∃ ds, H2 a = some (.dK (dk ds)) ∧ DaysOk N p ds) : EvR (tCB rListD (tCons td tNil)) σ H (DaysS N p) := fun H1 e Q q => h H1 e _ fun a H2 ha e2 ⟨ds, h2, ok⟩ =>
  (el_listD (ta := tC (.ref a)) (σ := σ) ev_c h2) H2 (Ex.refl H2) Q fun l H3 hl e3 h3 => q l H3 (fresh_back e2 hl) (e2.trans e3) ⟨ds, h3, ok⟩
theorem er_listV {N : Nat} {p : Int → Bool} {a : Addr} {ds : List Nat} (h : Ev td σ H (.ref a)) (ha : H a = some (.dK (dk ds))) (ok : DaysOk N p ds) : EvR (tCB rListD (tCons td tNil)) σ H (DaysS N p) := fun H1 e Q q =>
  (el_listD h ha) H1 e Q fun l H3 hl e3 h3 => q l H3 hl e3 ⟨ds, h3, ok⟩
theorem er_sort {N : Nat} {p : Int → Bool} (h : EvR tu σ H (DaysS N p)) : EvR (tCB (rSortedI K) (tCons tu tNil)) σ H (SortS N p) := fun H1 e Q q => h H1 e _ fun l H2 hl e2 ⟨ds, h2, hok⟩ => ⟨l, ds.map fun (d : Nat) => (d : Int), rfl, sq_of (by rw [List.map_map]; exact h2), fun ns' p' hperm hs hp' => q p' _ (fresh_back e2 hp') (e2.trans (Ex.new hp')) ⟨ns', ds, upd_same, hs, hok, hperm⟩⟩
theorem ev_sortNe {N : Nat} {p : Int → Bool} (h1 : EvR ta σ H (SortS N p)) (h2 : EvR tb σ H (SortS N p)) : Ev (tOp (rNeD K) ta tb) σ H (.bl false) := fun H1 e Q q => h1 H1 e _ fun a H2 ha e2 ⟨ns, ds, k1, s1, o1, p1⟩ => h2 H2 (e.trans e2) _ fun b H3 hb e3 ⟨ms, es, k2, s2, o2, p2⟩ => by
  have hperm : ds.Perm es := (List.perm_ext_iff_of_nodup o1.nd o2.nd).mpr fun x => by rw [o1.mem, o2.mem]
  have heq : ns = ms := sorted_same hperm p1 p2 s1 s2
  subst heq
  refine ⟨.list (ns.map PyData.int), .list (ns.map PyData.int), .lst (sq_of (e3 _ _ k1)) (dp_ints ns), .lst (sq_of k2) (dp_ints ns), PySem.W.ke_shaped_ints _, PySem.W.ke_shaped_ints _, ?_⟩
  rw [eqv_ints_self]
  exact q H3 (e2.trans e3)
theorem er_row1 {CF a : Addr} {r : Rl} (h : EvU tu σ H [.ref a, .bl false]) (ha : FeastAt K CF H a r) : EvR (tTup (tCons tu tNil)) σ H fun p H2 => ∃ zs, H2 p = some (.tup zs) ∧ RowsL K CF H2 zs [(r, false)] := fun H1 e Q q =>
  h H1 e _ fun t H2 ht e2 k1 => ⟨by show 1 ≤ sizeLine; decide, fun p hp => q p _ (fresh_back e2 hp) (e2.trans (Ex.new hp)) ⟨[.ref t], upd_same, ⟨t, a, rfl, st_of ((Ex.new hp) _ _ k1), ha.mono ((e.trans e2).trans (Ex.new hp))⟩, trivial⟩⟩
theorem er_row2 {CF a b : Addr} {r s : Rl} (h : EvU tu σ H [.ref a, .bl false]) (h2 : EvU td σ H [.ref b, .bl false]) (ha : FeastAt K CF H a r) (hb : FeastAt K CF H b s) : EvR (tTup (tCons tu (tCons td tNil))) σ H fun p H2 => ∃ zs, H2 p = some (.tup zs) ∧ RowsL K CF H2 zs [(r, false), (s, false)] := fun H1 e Q q =>
  h H1 e _ fun t H2 ht e2 k1 => h2 H2 (e.trans e2) _ fun t2 H3 ht2 e3 k2 => ⟨by show 2 ≤ sizeLine; decide, fun p hp => q p _ (fresh_back (e2.trans e3) hp) ((e2.trans e3).trans (Ex.new hp)) ⟨[.ref t, .ref t2], upd_same, ⟨t, a, rfl, st_of ((e3.trans (Ex.new hp)) _ _ k1), ha.mono (((e.trans e2).trans e3).trans (Ex.new hp))⟩, ⟨t2, b, rfl, st_of ((Ex.new hp) _ _ k2), hb.mono (((e.trans e2).trans e3).trans (Ex.new hp))⟩, trivial⟩⟩
def spOne (K : PySem.W.Frag) (CF CC : Addr) : Sp := fun vs H Q _ => ∃ (p : Addr) (r : Rl), vs = [.ref p] ∧ FeastAt K CF H p r ∧ r.bys ≤ 4 ∧ ∀ q H2, H q = none → Ex H H2 → CalAt K CF CC H2 (.ref q) [(r, false)] → Q (.ref q) H2
theorem er_one {CF CC : Addr} {E : XK} {r : Rl} (h : EvR ta σ H fun p H2 => FeastAt K CF H2 p r) (hb : r.bys ≤ 4) : EvR (tCall (spOne K CF CC) [] E (tCons ta tNil)) σ H fun p H2 => CalAt K CF CC H2 (.ref p) [(r, false)] := fun H1 e Q q =>
  h H1 e _ fun p H2 hp e2 hF => ⟨p, r, rfl, hF, hb, fun x H3 hx e3 hc => q x H3 (fresh_back e2 hx) (e2.trans e3) hc⟩
theorem er_oneV {CF CC a : Addr} {E : XK} {r : Rl} (h : Ev ta σ H (.ref a)) (ha : FeastAt K CF H a r) (hb : r.bys ≤ 4) : EvR (tCall (spOne K CF CC) [] E (tCons ta tNil)) σ H fun p H2 => CalAt K CF CC H2 (.ref p) [(r, false)] := fun H1 e Q q =>
  h H1 e _ fun H2 e2 => ⟨a, r, rfl, ha.mono (e.trans e2), hb, fun x H3 hx e3 hc => q x H3 (fresh_back e2 hx) (e2.trans e3) hc⟩
theorem er_movedV {CF CR a : Addr} {r : Rl} {z : Int} (h1 : Ev ta σ H (.ref a)) (ha : FeastAt K CF H a r) (h2 : ∀ H1, Ex H H1 → Ev tb σ H1 (.int z)) (f1 : r.fit = true) (hz : byOk z = true) (ok : okRl (.bh r z) = true) : EvR (tMeth CF "moved" (spMoved K CF CR) [] E0 ta (tCons tb tNil)) σ H fun p H2 => FeastAt K CF H2 p (.bh r z) := fun H1 e Q q =>
  h1 H1 e _ fun H2 e2 => by
    have hF := ha.mono (e.trans e2)
    obtain ⟨dx, v, ho, hv⟩ := id hF
    refine ⟨a, dx, _, rfl, ho, feastF_no _ _ (by decide +kernel) (by decide +kernel), h2 H2 (e.trans e2) H2 (Ex.refl H2) _ fun H3 e3 => ⟨a, _, r, some z, rfl, hF.mono e3, f1, .int z, (fun hn => ?_), fun z' hz' _ _ p' H4 hp' e4 hf => ?_⟩⟩
    · rw [hn z rfl hz] at ok
      cases ok
    · cases hz'
      exact q p' H4 (fresh_back (e2.trans e3) hp') ((e2.trans e3).trans e4) hf
theorem ev_countR {CF CC CL l : Addr} {E : XK} {rows : Rows} {w m : Nat} (h1 : EvR ta σ H fun p H2 => CalAt K CF CC H2 (.ref p) rows) (h2 : ∀ H1, Ex H H1 → Ev tb σ H1 (.ref l)) (hl : NeedL K H (.ref l) (some (w, m))) (hd : depMax rows < 5) : Ev (tCall (spCount K CF CC CL) [] E (tCons ta (tCons tb tNil))) σ H (.int ((daysN (w * m) (calDay w m rows)).length : Nat)) := fun H1 e Q q =>
  h1 H1 e _ fun p H2 hp e2 hc => h2 H2 (e.trans e2) H2 (Ex.refl H2) _ fun H3 e3 => ⟨_, _, some (w, m), rfl, hl.mono ((e.trans e2).trans e3), (fun h => nomatch h), fun w' m' h => by
    cases h
    exact ⟨rows, hc.mono e3, hd, fun H4 e4 => q H4 ((e2.trans e3).trans e4)⟩⟩
end
section
variable {P : Program} {w : World} {K : PySem.W.Frag} {mg : Str → Option Value} {base : Heap} {C_BadRule C_BadRules C_BadLand C_BadDay C_BadNumber C_Feast C_Calendar : Addr} {f : Addr} {fd : FuncData}
theorem ok_one (F : Fun K "_law_one" "_law_one" s_l_one f fd) (T : Txt w K mg C_BadRule C_BadRules C_BadLand C_BadDay C_BadNumber C_Feast C_Calendar) (CF : Cls1 K C_Feast ["told", "bys"]) (IF : ClsI K C_Feast) (CC : Cls1 K C_Calendar ["rows", "near"]) : FnOk P w K mg base CX0 4 f fd ["_law_feast"] (spOne K C_Feast C_Calendar) := by
  have M_Calendar : Mn P w K mg base CX0 C_Calendar 2 ["self", "rules"] (spCal K C_Feast C_Calendar) := mn_cal T CF IF CC
  refine F.ok sc_l_one (fun vs H Q E h => ?_) (fun cdv A outer s H vs Q E hr h => ?_)
  · obtain ⟨_, _, rfl, _⟩ := h
    rfl
  · obtain ⟨p, r, rfl, hF, hb, k⟩ := h
    refine ⟨_, (pss_one (ps_ret (pe_mk M_Calendar (hr.mono (by omega)) T.c_Calendar pass0 rfl (pa_cons (pe_tup (pa_cons (pe_tup (pa_cons (pv 0) (pa_cons pe_bl pa_nil))) pa_nil)) pa_nil)))), ?_⟩
    exact s_retR (R := fun p H2 => CalAt K C_Feast C_Calendar H2 (.ref p) [(r, false)]) (er_calX (er_row1 (eu_tup (ea_cons (ev_var rfl) (ea_cons ev_c ea_nil)) (by show 2 ≤ 100000; decide)) hF) (by show 1 ≤ 3; decide) (by show r.bys + 0 ≤ 4; omega)) fun q H2 hq e2 hc => k q H2 hq e2 hc
theorem dn_one (T : Txt w K mg C_BadRule C_BadRules C_BadLand C_BadDay C_BadNumber C_Feast C_Calendar) (CF : Cls1 K C_Feast ["told", "bys"]) (IF : ClsI K C_Feast) (CC : Cls1 K C_Calendar ["rows", "near"]) : Dn P w K mg base CX0 "_law_one" 4 ["_law_feast"] (spOne K C_Feast C_Calendar) := T.f_l_one.dn fun _ _ F _ _ => ok_one F T CF IF CC
def spLaw (K : PySem.W.Frag) : Sp := fun vs H Q _ => ∃ (a : Addr) (ns : List Int), vs = [.ref a] ∧ SqL K H a (ns.map V.int) ∧ ns.length ≤ 63 ∧ ∀ H', Q (.bl true) H'
theorem ok_law (F : Fun K "law" "law" s_law f fd) (T : Txt w K mg C_BadRule C_BadRules C_BadLand C_BadDay C_BadNumber C_Feast C_Calendar) (CF : Cls1 K C_Feast ["told", "bys"]) (IF : ClsI K C_Feast) (CC : Cls1 K C_Calendar ["rows", "near"]) (hsf : PySem.W.selfFirst K C_Feast = true) : FnOk P w K mg base CX0 13 f fd ["_law_script"] (spLaw K) := by
  have D_l_random : Dn P w K mg base CX0 "_law_random" 1 ["_law_script", "_law_salt"] (spRandom K) := dn_random T
  have D_l_below : Dn P w K mg base CX0 "_law_below" 1 ["_law_d", "_law_size"] spBelow := dn_below T
  have D_l_pick : Dn P w K mg base CX0 "_law_pick" 2 ["_law_d", "_law_items"] (spPick K) := dn_pick T
  have D_l_rule : Dn P w K mg base CX0 "_law_rule" 9 ["_law_d", "_law_left"] (spRule K 5) := dn_rule T
  have D_l_rows : Dn P w K mg base CX0 "_law_rows" 10 ["_law_d", "_law_many", "_law_parts"] (spRows K) := dn_rows T
  have D_l_near : Dn P w K mg base CX0 "_law_near" 11 ["_law_d", "_law_rows_here"] (spNear K) := dn_near T
  have D_l_made : Dn P w K mg base CX0 "_law_made" 12 ["_law_rows_here"] (spMade K C_Feast C_Calendar) := dn_made T CF IF CC
  have D_l_all : Dn P w K mg base CX0 "_law_all" 7 ["_law_rows_here", "_law_land"] (spAll K) := dn_lall T
  have D_l_one : Dn P w K mg base CX0 "_law_one" 4 ["_law_feast"] (spOne K C_Feast C_Calendar) := dn_one T CF IF CC
  have D_alike : Dn P w K mg base CX0 "alike" 10 ["one", "other"] (spAlike K C_Feast C_Calendar) := dn_alike T CF CC
  have D_meeting : Dn P w K mg base CX0 "meeting" 8 ["one", "other"] (spMeet K C_Feast C_Calendar) := dn_meeting T CF CC
  have D_needless : Dn P w K mg base CX0 "needless" 9 ["calendar"] (spNeedless K C_Feast C_Calendar) := dn_needless T CF CC
  have D_is_day : Dn P w K mg base (L2.CX P w) "is_day" 8 ["calendar", "land", "day"] (spIsDay K C_Feast C_Calendar C_BadLand C_BadDay) := dn_is_day T CF CC
  have D_count : Dn P w K mg base (L2.CX P w) "count" 8 ["calendar", "land"] (spCount K C_Feast C_Calendar C_BadLand) := dn_count T CF CC
  have D_nth : Dn P w K mg base (L2.CX P w) "nth" 8 ["calendar", "land", "n"] (spNth K C_Feast C_Calendar C_BadLand C_BadNumber) := dn_nth T CF CC
  have M_Feast : Mn P w K mg base (L2.CX P w) C_Feast 9 ["self", "rule"] (spFeast K C_Feast C_BadRule) := mn_feast T CF
  have M_Calendar : Mn P w K mg base CX0 C_Calendar 2 ["self", "rules"] (spCal K C_Feast C_Calendar) := mn_cal T CF IF CC
  have N_Feast_and : Mtn P w K mg base (L2.CX P w) C_Feast "__and__" 11 ["self", "other"] (spOp K C_Feast C_BadRule .bo) := mt_and T CF
  have N_Feast_or : Mtn P w K mg base (L2.CX P w) C_Feast "__or__" 11 ["self", "other"] (spOp K C_Feast C_BadRule .ei) := mt_or T CF
  have N_Feast_sub : Mtn P w K mg base (L2.CX P w) C_Feast "__sub__" 11 ["self", "other"] (spOp K C_Feast C_BadRule .wo) := mt_sub T CF
  have N_Feast_moved : Mtn P w K mg base (L2.CX P w) C_Feast "moved" 11 ["self", "by"] (spMoved K C_Feast C_BadRule) := mt_moved T CF
  refine F.ok sc_law (fun vs H Q E h => ?_) (fun cdv A outer s H vs Q E hr h => ?_)
  · obtain ⟨_, _, rfl, _⟩ := h
    rfl
  · obtain ⟨a, ns, rfl, hA, hn, k⟩ := h
    have hr1 : Room 1 _ := hr.mono (by omega)
    have hu := hu_of hr1
    refine ⟨_, (pss_cons (ps_set (i := 1) sc_law.nd rfl (by first | exact Or.inl rfl | exact Or.inr rfl) (pe_fn D_l_random (hr.mono (by omega)) pass0 rfl (pa_cons (pv 0) (pa_cons pe_int pa_nil))))
  (pss_cons (ps_set (i := 2) sc_law.nd rfl (by first | exact Or.inl rfl | exact Or.inr rfl) (pe_fn D_l_rows (hr.mono (by omega)) pass0 rfl (pa_cons (pv 1) (pa_cons (pe_op op_add pe_int (pe_fn D_l_below (hr.mono (by omega)) pass0 rfl (pa_cons (pv 1) (pa_cons pe_int pa_nil)))) (pa_cons pe_int pa_nil)))))
  (pss_cons (ps_set (i := 3) sc_law.nd rfl (by first | exact Or.inl rfl | exact Or.inr rfl) (pe_fn D_l_near (hr.mono (by omega)) pass0 rfl (pa_cons (pv 1) (pa_cons (pv 2) pa_nil))))
  (pss_cons (ps_par (i := 4) (j := 5) (by rfl) sc_law.nd rfl rfl (by decide) rfl rfl (pa_cons (pe_fn D_l_made (hr.mono (by omega)) pass0 rfl (pa_cons (pv 2) pa_nil)) (pa_cons (pe_fn D_l_made (hr.mono (by omega)) pass0 rfl (pa_cons (pv 3) pa_nil)) pa_nil)) (by first | rfl | exact sw2 rfl rfl rfl rfl (by decide)))
  (pss_cons (ps_set (i := 6) sc_law.nd rfl (by first | exact Or.inl rfl | exact Or.inr rfl) (pe_fn D_l_pick (hr.mono (by omega)) pass0 rfl (pa_cons (pv 1) (pa_cons (pe_lst (pa_cons (pe_tup (pa_cons pe_int (pa_cons pe_int pa_nil))) (pa_cons (pe_tup (pa_cons pe_int (pa_cons pe_int pa_nil))) (pa_cons (pe_tup (pa_cons pe_int (pa_cons pe_int pa_nil))) (pa_cons (pe_tup (pa_cons pe_int (pa_cons pe_int pa_nil))) (pa_cons (pe_tup (pa_cons pe_int (pa_cons pe_int pa_nil))) (pa_cons (pe_tup (pa_cons pe_int (pa_cons pe_int pa_nil))) pa_nil))))))) pa_nil))))
  (pss_cons (ps_set (i := 7) sc_law.nd rfl (by first | exact Or.inl rfl | exact Or.inr rfl) (pe_fn D_alike (hr.mono (by omega)) pass0 rfl (pa_cons (pv 4) (pa_cons (pv 5) pa_nil))))
  (pss_cons (ps_set (i := 8) sc_law.nd rfl (by first | exact Or.inl rfl | exact Or.inr rfl) (pe_cmpR op_isN (pe_ix ix_tup (pe_fn D_meeting (hr.mono (by omega)) pass0 rfl (pa_cons (pv 4) (pa_cons (pv 5) pa_nil))) pe_int (fun _ _ => rfl)) pe_non (nomark _)))
  (pss_cons (ps_set (i := 9) sc_law.nd rfl (by first | exact Or.inl rfl | exact Or.inr rfl) (pe_fn D_needless (hr.mono (by omega)) pass0 rfl (pa_cons (pv 4) pa_nil)))
  (pss_cons (ps_set (i := 10) sc_law.nd rfl (by first | exact Or.inl rfl | exact Or.inr rfl) (pe_fn D_l_all (hr.mono (by omega)) pass0 rfl (pa_cons (pv 2) (pa_cons (pv 6) pa_nil))))
  (pss_cons (ps_for PassesOwn.never rfl (pi_range1 (by rfl) T.range (pa_cons pe_int pa_nil)) (pg_name (i := 11) sc_law.nd rfl (by first | exact Or.inl rfl | exact Or.inr rfl))
  (pss_cons (ps_set (i := 12) sc_law.nd rfl (by first | exact Or.inl rfl | exact Or.inr rfl) (pe_op op_sub (pe_fn D_l_below (hr.mono (by omega)) pass0 rfl (pa_cons (pv 1) (pa_cons pe_int pa_nil))) pe_int))
  (pss_cons (ps_if (PW.pt (pw_and (pt_val (pv 7)) (pw_and1 (pt_cmpR op_ne (pe_fn D_is_day (hr.mono (by omega)) passL rfl (pa_cons (pv 4) (pa_cons (pv 6) (pa_cons (pv 12) pa_nil)))) (pe_fn D_is_day (hr.mono (by omega)) passL rfl (pa_cons (pv 5) (pa_cons (pv 6) (pa_cons (pv 12) pa_nil)))) (nomark _))))) (pss_one (ps_ret pe_bl))
  pss_nil)
  (pss_one (ps_if (PW.pt (pw_and (pt_val (pv 8)) (pw_and (pt_val (pe_fn D_is_day (hr.mono (by omega)) passL rfl (pa_cons (pv 4) (pa_cons (pv 6) (pa_cons (pv 12) pa_nil))))) (pw_and1 (pt_val (pe_fn D_is_day (hr.mono (by omega)) passL rfl (pa_cons (pv 5) (pa_cons (pv 6) (pa_cons (pv 12) pa_nil))))))))) (pss_one (ps_ret pe_bl))
  pss_nil)))))
  (pss_cons (ps_for PassesOwn.never rfl (pi_list (pv 9)) (pg_name (i := 13) sc_law.nd rfl (by first | exact Or.inl rfl | exact Or.inr rfl))
  (pss_one (ps_if (pt_cmpR (op_neD hr1.units) (pe_callB cr_sortedI (by rfl) T.sorted (by decide +kernel) (pa_cons (pe_callTy (call_list_dK rfl) (by rfl) T.list (by decide +kernel) (pa_cons (pe_fn D_l_all (hr.mono (by omega)) pass0 rfl (pa_cons (pe_op op_cat (pe_slice sl_list (pv 2) po_none (po_some (pv 13))) (pe_slice sl_list (pv 2) (po_some (pe_op op_add (pv 13) pe_int)) po_none)) (pa_cons (pv 6) pa_nil))) pa_nil)) pa_nil)) (pe_callB cr_sortedI (by rfl) T.sorted (by decide +kernel) (pa_cons (pe_callTy (call_list_dK rfl) (by rfl) T.list (by decide +kernel) (pa_cons (pv 10) pa_nil)) pa_nil)) (nomark _)) (pss_one (ps_ret pe_bl))
  pss_nil)))
  (pss_cons (ps_set (i := 14) sc_law.nd rfl (by first | exact Or.inl rfl | exact Or.inr rfl) (pe_mk M_Feast (hr.mono (by omega)) T.c_Feast passL rfl (pa_cons (pe_fn D_l_rule (hr.mono (by omega)) pass0 rfl (pa_cons (pv 1) (pa_cons (pe_lst (pa_cons pe_int (pa_cons pe_int pa_nil))) pa_nil))) pa_nil)))
  (pss_cons (ps_set (i := 15) sc_law.nd rfl (by first | exact Or.inl rfl | exact Or.inr rfl) (pe_mk M_Feast (hr.mono (by omega)) T.c_Feast passL rfl (pa_cons (pe_fn D_l_rule (hr.mono (by omega)) pass0 rfl (pa_cons (pv 1) (pa_cons (pe_lst (pa_cons pe_int (pa_cons pe_int pa_nil))) pa_nil))) pa_nil)))
  (pss_cons (ps_set (i := 16) sc_law.nd rfl (by first | exact Or.inl rfl | exact Or.inr rfl) (pe_fn D_l_pick (hr.mono (by omega)) pass0 rfl (pa_cons (pv 1) (pa_cons (pe_lst (pa_cons pe_int (pa_cons pe_int (pa_cons (pe_un un_neg pe_int) (pa_cons (pe_un un_neg pe_int) pa_nil))))) pa_nil))))
  (pss_cons (ps_if (pt_not (pt_val (pe_fn D_alike (hr.mono (by omega)) pass0 rfl (pa_cons (pe_fn D_l_one (hr.mono (by omega)) pass0 rfl (pa_cons (pe_mt1 N_Feast_moved (pe_mt1 N_Feast_moved (pv 14) CF.cl (hr.mono (by omega)) passL (pa_cons (pv 16) pa_nil)) CF.cl (hr.mono (by omega)) passL (pa_cons (pe_un un_neg (pv 16)) pa_nil)) pa_nil)) (pa_cons (pe_fn D_l_one (hr.mono (by omega)) pass0 rfl (pa_cons (pv 14) pa_nil)) pa_nil))))) (pss_one (ps_ret pe_bl))
  pss_nil)
  (pss_cons (ps_if (pt_cmpR op_notN (pe_ix ix_tup (pe_fn D_meeting (hr.mono (by omega)) pass0 rfl (pa_cons (pe_fn D_l_one (hr.mono (by omega)) pass0 rfl (pa_cons (pe_binS N_Feast_and hsf (hr.mono (by omega)) (fun σ pins H s e s' I h => passL pins σ H s e s' I h) (pv 14) (pv 15)) pa_nil)) (pa_cons (pe_fn D_l_one (hr.mono (by omega)) pass0 rfl (pa_cons (pe_binS N_Feast_sub hsf (hr.mono (by omega)) (fun σ pins H s e s' I h => passL pins σ H s e s' I h) (pv 14) (pv 15)) pa_nil)) pa_nil))) pe_int (fun _ _ => rfl)) pe_non (nomark _)) (pss_one (ps_ret pe_bl))
  pss_nil)
  (pss_cons (ps_set (i := 17) sc_law.nd rfl (by first | exact Or.inl rfl | exact Or.inr rfl) (pe_mk M_Calendar (hr.mono (by omega)) T.c_Calendar pass0 rfl (pa_cons (pe_tup (pa_cons (pe_tup (pa_cons (pv 14) (pa_cons pe_bl pa_nil))) (pa_cons (pe_tup (pa_cons (pv 15) (pa_cons pe_bl pa_nil))) pa_nil))) pa_nil)))
  (pss_cons (ps_if (PW.pt (pw_or (pt_not (pt_val (pe_fn D_alike (hr.mono (by omega)) pass0 rfl (pa_cons (pe_fn D_l_one (hr.mono (by omega)) pass0 rfl (pa_cons (pe_binS N_Feast_or hsf (hr.mono (by omega)) (fun σ pins H s e s' I h => passL pins σ H s e s' I h) (pv 14) (pv 15)) pa_nil)) (pa_cons (pv 17) pa_nil))))) (pw_or1 (pt_not (pt_val (pe_fn D_alike (hr.mono (by omega)) pass0 rfl (pa_cons (pv 17) (pa_cons (pe_mk M_Calendar (hr.mono (by omega)) T.c_Calendar pass0 rfl (pa_cons (pe_tup (pa_cons (pe_tup (pa_cons (pv 15) (pa_cons pe_bl pa_nil))) (pa_cons (pe_tup (pa_cons (pv 14) (pa_cons pe_bl pa_nil))) pa_nil))) pa_nil)) pa_nil)))))))) (pss_one (ps_ret pe_bl))
  pss_nil)
  (pss_cons (ps_if (pt_cmpR op_ne (pe_op op_add (pe_fn D_count (hr.mono (by omega)) passL rfl (pa_cons (pe_fn D_l_one (hr.mono (by omega)) pass0 rfl (pa_cons (pe_binS N_Feast_and hsf (hr.mono (by omega)) (fun σ pins H s e s' I h => passL pins σ H s e s' I h) (pv 14) (pv 15)) pa_nil)) (pa_cons (pv 6) pa_nil))) (pe_fn D_count (hr.mono (by omega)) passL rfl (pa_cons (pe_fn D_l_one (hr.mono (by omega)) pass0 rfl (pa_cons (pe_binS N_Feast_sub hsf (hr.mono (by omega)) (fun σ pins H s e s' I h => passL pins σ H s e s' I h) (pv 14) (pv 15)) pa_nil)) (pa_cons (pv 6) pa_nil)))) (pe_fn D_count (hr.mono (by omega)) passL rfl (pa_cons (pe_fn D_l_one (hr.mono (by omega)) pass0 rfl (pa_cons (pv 14) pa_nil)) (pa_cons (pv 6) pa_nil))) (nomark _)) (pss_one (ps_ret pe_bl))
  pss_nil)
  (pss_one (ps_ret (pe_cmpR op_eq (pe_fn D_nth (hr.mono (by omega)) passL rfl (pa_cons (pv 17) (pa_cons (pv 6) (pa_cons (pe_fn D_count (hr.mono (by omega)) passL rfl (pa_cons (pv 17) (pa_cons (pv 6) pa_nil))) pa_nil)))) (pe_op op_add (pe_fn D_nth (hr.mono (by omega)) passL rfl (pa_cons (pv 17) (pa_cons (pv 6) (pa_cons pe_int pa_nil)))) (pe_op op_mul (pe_ix ix_tup (pv 6) pe_int (fun _ _ => rfl)) (pe_ix ix_tup (pv 6) pe_int (fun _ _ => rfl)))) (nomark _))))))))))))))))))))))), ?_⟩
    refine q_call (ea_cons (ev_var rfl) (ea_cons ev_c ea_nil)) fun H1 e1 => ⟨a, ns, 613, rfl, ex_l e1 hA, hn, by decide, by decide, fun d H2 xs hg hd0 e2 hd => ?_⟩
    refine ⟨_, rfl, below_ev (ev_var rfl) ev_c hd hg (by decide) (by decide) fun many xs1 H3 hm hg1 eb1 hd1 => ⟨1, (many : Int), rfl, rfl, ⟨d, xs1, 1 + many, 3, by rw [Int.natCast_add]; rfl, hd1, hg1, by omega, by decide, by decide, fun R ys rows xs2 H4 hR0 hR hraw hlen hok hg2 eb2 hd2 => ?_⟩⟩⟩
    have hRd : R ≠ d := (ne_of_none hd1 hR0).symm
    refine q_call (ea_cons (ev_var rfl) (ea_cons (ev_var rfl) ea_nil)) fun H5 e5 => ⟨d, R, xs2, ys, rows, rfl, e5 _ _ hd2, hg2, e5 _ _ hR, hraw.kn (KeepN.of e5), hRd, by omega, hok.mono (by decide), fun So rows' xs3 H6 hS hl3' hok4 hSd hg3 eb3 hd3 => ?_⟩
    have kn6 := eb3.kn (e5 _ _ hd2)
    have hR6 := eb3 _ _ hRd (e5 _ _ hR)
    have hraw6 := (hraw.kn (KeepN.of e5)).kn kn6
    have hok5 : RowsOk 5 rows := hok.mono (by decide)
    have hok5' : RowsOk 5 rows' := hok4.mono (by decide)
    have hdep : depMax rows < 5 := hok5.dep (by decide)
    have hdep' : depMax rows' < 5 := hok5'.dep (by decide)
    have hl3 : rows.length ≤ 3 := by omega
    obtain ⟨q3, q10⟩ := reach_le hl3 hok.bys
    obtain ⟨q3', q10'⟩ := reach_le hl3' hok4.bys
    obtain ⟨zs, hS6, hraws⟩ := id hS
    refine q_parX (tA_x (er_made (ea_cons (ev_var rfl) ea_nil) (sq_of hR6) hraw6 hl3 hok5 H6 (Ex.refl H6) _ fun c1 H7 hc1 e7 hcal1 => tA_one (er_made (ea_cons (ev_var rfl) ea_nil) (sq_of (e7 _ _ hS6)) (hraws.kn (KeepN.of e7)) hl3' hok5' H7 (Ex.refl H7) _ fun c2 H8 hc2 e8 hcal2 => ⟨_, _, rfl, ?_⟩)))
    have E8 := e7.trans e8
    have hcal1' := hcal1.mono e8
    refine q_asgX (pick_R (S := fun ys H => LandL K H ys sixL) (n := 6) (fun ys H h => h.len) (ev_var rfl) (er_landsD (ly_cons (a := 41) (b := 97) (ly_cons (a := 59) (b := 60) (ly_cons (a := 2) (b := 1999) (ly_cons (a := 25) (b := 126) (ly_cons (a := 60) (b := 61) (ly_cons (a := 43) (b := 87) ly_nil)))))) (by decide)) (E8 _ _ hd3) hg3 (by decide) (by decide) fun y ysL xs4 H9 H10 e9 hls hy eb10 hd9 hd10 hg4 => ?_)
    have kn10 := eb10.kn hd9
    obtain ⟨⟨lw, lm⟩, hmem, lp, rfl, hT⟩ := (hls.kn kn10).mem hy
    obtain ⟨w2, wm, m6, hgcd, n4⟩ := sixL_ok _ hmem
    have hO : LandOk lw lm := ⟨w2, wm, m6, Nat.le_trans n4 (by decide)⟩
    have hNL : NeedL K H10 (.ref lp) (some (lw, lm)) := .good hT hO hgcd n4
    have hcal1x := (hcal1'.mono e9).kn kn10
    have hcal2x := (hcal2.mono e9).kn kn10
    have hR10 := eb10 _ _ hRd ((E8.trans e9) _ _ hR6)
    have hraw10 := (hraw6.kn (KeepN.of (E8.trans e9))).kn kn10
    have hf1 : ∀ q ∈ rows, q.1.fit = true := fun q hq => (hok.fit q hq).1
    have hf2 : ∀ q ∈ rows', q.1.fit = true := fun q hq => (hok4.fit q hq).1
    refine q_asg (v := .bl _) (ev_call (ea_cons (ev_var rfl) (ea_cons (ev_var rfl) ea_nil)) (spv_alike hcal1x hcal2x hdep hdep' q10 q10')) fun H11 e11 => ?_
    have hsame : (unlikeO rows rows' (enoughL (max (reachOf rows) (reachOf rows')))).isNone = true → ∀ z : Int, calDay lw lm rows z = calDay lw lm rows' z := fun h z => alike_six (by omega) (by omega) hmem hf1 hf2 (by omega) (by omega) (Option.isNone_iff_eq_none.mp h) z
    generalize (unlikeO rows rows' (enoughL (max (reachOf rows) (reachOf rows')))).isNone = b1 at hsame
    refine q_asg (v := .bl _) (ev_meetN (ea_cons (ev_var rfl) (ea_cons (ev_var rfl) ea_nil)) (hcal1x.mono e11) (hcal2x.mono e11) hdep hdep' q10 q10') fun H12 e12 => ?_
    have hnever : (meetO rows rows' true (enoughL (max (reachOf rows) (reachOf rows')))).isNone = true → ∀ z : Int, (calDay lw lm rows z && calDay lw lm rows' z) = false := fun h z => never_six (by omega) (by omega) hmem hf1 hf2 (by omega) (by omega) (Option.isNone_iff_eq_none.mp h) z
    generalize (meetO rows rows' true (enoughL (max (reachOf rows) (reachOf rows')))).isNone = b2 at hnever
    have E12 := e11.trans e12
    refine q_asgL (el_call (ea_cons (ev_var rfl) ea_nil) (spL fun H1 e Q _ q => ⟨_, rows, rfl, (hcal1x.mono E12).mono e, hdep, hl3, q10, q⟩)) fun Ip H13 hIp e13 hIv => ?_
    have E13 := E12.trans e13
    refine q_asgR (er_lall (ea_cons (ev_var rfl) (ea_cons (ev_var rfl) ea_nil)) (sq_of (E13 _ _ hR10)) (hraw10.kn (KeepN.of E13)) hl3 hdep (ex_t E13 hT) hO) fun Mi H14 hMi e14 ⟨dsM, hMv, okM⟩ => ?_
    have E14 := E13.trans e14
    have hd14 := E14 _ _ hd10
    have hId : Ip ≠ d := (ne_of_none (E12 _ _ hd10) hIp).symm
    have hMd : Mi ≠ d := (ne_of_none (E13 _ _ hd10) hMi).symm
    refine q_forR1 (n := 20) (ea_cons ev_c ea_nil) ⟨by decide, by decide⟩ (fun _ σ' H' => ∃ xs' a11 a12, σ' = [some (.ref a), some (.ref d), some (.ref R), some (.ref So), some (.ref c1), some (.ref c2), some (.ref lp), some (.bl b1), some (.bl b2), some (.ref Ip), some (.ref Mi), a11, a12, none, none, none, none, none] ∧ H' d = some (.lst xs') ∧ Good xs' ∧ ExB d H14 H')
      (fun H15 e15 => ⟨xs4, none, none, rfl, e15 _ _ hd14, hg4, ExB.of e15⟩) ?_ ?_
    · rintro i σ' H' hi ⟨xs', a11, a12, rfl, hd', hg', eb⟩
      refine q_asgX (tOp_go (below_ev (ev_var rfl) ev_c hd' hg' (by decide) (by decide) fun t xs5 H15 ht hg5 eb15 hd15 => ⟨_, _, rfl, rfl, ?_⟩))
      have eb15' : ExB d H14 H15 := eb.trans eb15
      have kn15 := eb15'.kn hd14
      have hc1 := (hcal1x.mono E14).kn kn15
      have hc2 := (hcal2x.mono E14).kn kn15
      have hNL15 : NeedL K H15 (.ref lp) (some (lw, lm)) := .good (sqt_kn kn15 (ex_t E14 hT)) hO hgcd n4
      dsimp only
      generalize hz : ((t : Int) - 2000) = z
      have hday : dayB (some z) = true := by
        show (decide (-(10 ^ 30) ≤ z) && decide (z ≤ 10 ^ 30)) = true
        rw [decide_eq_true (by omega), decide_eq_true (by omega)]
        rfl
      have hev : ∀ {c : Addr} {rs : Rows} {H : Hp} {σ : L2.St} {j : Nat}, Ex H15 H → CalAt K C_Feast C_Calendar H15 (.ref c) rs → depMax rs < 5 → σ[j]? = some (some (.ref c)) → σ[6]? = some (some (.ref lp)) → σ[12]? = some (some (.int z)) → Ev (tCall (spIsDay K C_Feast C_Calendar C_BadLand C_BadDay) [] E0 (tCons (tVar j) (tCons (tVar 6) (tCons (tVar 12) tNil)))) σ H (.bl (calDay lw lm rs z)) := fun {c rs H σ j} e hc hdp h1 h2 h3 =>
        ev_call (ea_cons (ev_var h1) (ea_cons (ev_var h2) (ea_cons (ev_var h3) ea_nil))) (spV fun H1 e1 Q _ q => ⟨_, _, _, some (lw, lm), some z, rfl, hNL15.mono (e.trans e1), .int z, (fun h => nomatch h), (fun _ h => by rw [hday] at h; cases h), fun w' m' i' hw hi _ => by
          cases hw
          cases hi
          exact ⟨rs, hc.mono (e.trans e1), hdp, q⟩⟩)
      refine q_not (et_is (et_and (et_B (ev_var rfl)) fun _ => et_cmp (hev (Ex.refl _) hc1 hdep rfl rfl rfl) (hev (Ex.refl _) hc2 hdep' rfl rfl rfl) (rv_ne rfl)) (by
        cases b1 with
        | false => rfl
        | true => rw [hsame rfl z, decide_eq_true rfl]; rfl)) fun H16 e16 => ?_
      refine s_no (et_is (et_and (et_B (ev_var rfl)) fun _ => et_and (et_B (hev e16 hc1 hdep rfl rfl rfl)) fun _ => et_B (hev e16 hc2 hdep' rfl rfl rfl)) (by
        cases b2 with
        | false => rfl
        | true => rw [hnever rfl z]; rfl)) fun H17 e17 => ?_
      exact ⟨xs5, _, _, rfl, (e16.trans e17) _ _ hd15, hg5, eb15'.step (e16.trans e17)⟩
    · rintro σ' H' ⟨xs5, a11, a12, rfl, hd', hg5, eb⟩
      have kn := eb.kn hd14
      have hI' := eb _ _ hId (e14 _ _ hIv)
      have hM' := eb _ _ hMd hMv
      have hR' := eb _ _ hRd (E14 _ _ hR10)
      have hraw' := (hraw10.kn (KeepN.of E14)).kn kn
      have hT' := sqt_kn kn (ex_t E14 hT)
      refine q_forL (ev_var rfl) (sq_of hI') (fun _ σ2 H2 => ∃ a13, σ2 = [some (.ref a), some (.ref d), some (.ref R), some (.ref So), some (.ref c1), some (.ref c2), some (.ref lp), some (.bl b1), some (.bl b2), some (.ref Ip), some (.ref Mi), a11, a12, a13, none, none, none, none] ∧ Ex H' H2) (fun H15 e15 => ⟨none, rfl, e15⟩) (fun i σ2 H2 _ ⟨_, _, e⟩ => sq_of (e _ _ hI')) ?_ ?_
      · rintro i x σ2 H15 hi ⟨a13, rfl, e15⟩
        dsimp only [gName]
        rw [List.getElem?_map] at hi
        obtain ⟨kk, hkk, hx⟩ := Option.map_eq_some_iff.mp hi
        subst hx
        have hmk := List.mem_of_getElem? hkk
        unfold needL at hmk
        obtain ⟨hk1, hk2⟩ := List.mem_filter.mp hmk
        have hk1' : kk < rows.length := List.mem_range.mp hk1
        have hro := reach_sub (out_sub rows kk)
        have hfo : ∀ q ∈ outRow rows kk, q.1.fit = true := fun q hq => hf1 q (out_mem hq)
        have hfun : calDay (lw : Int) (lm : Int) (outRow rows kk) = calDay (lw : Int) (lm : Int) rows := funext fun z => (alike_six q3 q10 hmem hf1 hfo (Nat.le_refl _) hro (Option.isNone_iff_eq_none.mp hk2) z).symm
        have hlo : (outRow rows kk).length ≤ 3 := Nat.le_trans (out_sub rows kk).length_le hl3
        have hdo : depMax (outRow rows kk) < 5 := dep_lt.mpr fun q hq => dep_lt.mp hdep q (out_mem hq)
        have hs1 := er_sort (K := K) (er_listN (er_lallR (K := K) (E := E0) (rows := outRow rows kk) (w := lw) (m := lm) (l := lp) (σ := [some (.ref a), some (.ref d), some (.ref R), some (.ref So), some (.ref c1), some (.ref c2), some (.ref lp), some (.bl b1), some (.bl b2), some (.ref Ip), some (.ref Mi), a11, a12, some (.int ((kk : Nat) : Int)), none, none, none, none]) (H := H15) (ta := tOp rCat (tSl (rSlL K) (tVar 2) tNoPart (tPart (tVar 13))) (tSl (rSlL K) (tVar 2) (tPart (tOp (rI0 fun i j => .int (i + j)) (tVar 13) (tC (.int 1)))) tNoPart)) (tb := tVar 6)
          (er_rawC (er_rawA (i := 0) (ev_var rfl) (sq_of (e15 _ _ hR')) (hraw'.kn (KeepN.of e15)) (ev_var rfl) (by omega)) (er_rawB (i := 0) (k := kk + 1) (ev_var rfl) (sq_of (e15 _ _ hR')) (hraw'.kn (KeepN.of e15)) (ev_is (ev_op (ev_var rfl) ev_c rv_I0) (congrArg V.int (by omega)))) (by rw [List.length_take, List.length_drop]; omega))
          (fun _ _ => ev_var rfl) hlo hdo (ex_t e15 hT') hO))
        rw [hfun] at hs1
        exact s_no (et_test (ev_sortNe hs1 (er_sort (er_listV (ev_var rfl) (e15 _ _ hM') okM)))) fun H16 e16 => ⟨_, rfl, e15.trans e16⟩
      · rintro σ2 H15 ⟨a13, rfl, e15⟩
        have hd15 := e15 _ _ hd'
        have hT15 := ex_t e15 hT'
        refine q_asgX (mk_go (rule_new (p := 0) (b := 2) hd15 hg5 (by decide) (by decide) (ev_var rfl) fun v1 r xs6 H16 hR1 f1 p1 y1 hg6 hd16 eb16 => mk_leaf hR1 f1 (by omega) (by omega) fun F1 H17 hF1 e17 hfe1 => ?_))
        have hT17 := ex_t e17 (sqt_kn (eb16.kn hd15) hT15)
        have hd17 := e17 _ _ hd16
        refine q_asgX (mk_go (rule_new (p := 1) (b := 0) hd17 hg6 (by decide) (by decide) (ev_var rfl) fun v2 s xs7 H18 hR2 f2 p2 y2 hg7 hd18 eb18 => mk_leaf hR2 f2 (by omega) (by omega) fun F2 H19 hF2 e19 hfe2 => ?_))
        have kn18 := eb18.kn hd17
        have hT19 := ex_t e19 (sqt_kn kn18 hT17)
        have hd19 := e19 _ _ hd18
        have hfe19 := (hfe1.kn kn18).mono e19
        refine q_asgX (pick_new (ev_var rfl) (el_lst (vs := [.int 1, .int 2, .int (-1), .int (-2)]) (ea_cons ev_c (ea_cons ev_c (ea_cons (ev_un ev_c ru_neg) (ea_cons (ev_un ev_c ru_neg) ea_nil)))) (by show 4 ≤ 100000; decide)) hd19 hg7 (by show 1 ≤ 4; decide) (by show 4 ≤ 1000000; decide) fun bv xs8 H20 hbv hg8 eb20 hd20 => ?_)
        obtain ⟨z, rfl, hz⟩ : ∃ z : Int, bv = .int z ∧ (z = 1 ∨ z = 2 ∨ z = -1 ∨ z = -2) := by
          simp only [List.mem_cons, List.not_mem_nil, or_false] at hbv
          rcases hbv with h | h | h | h
          · exact ⟨1, h, .inl rfl⟩
          · exact ⟨2, h, .inr (.inl rfl)⟩
          · exact ⟨-1, h, .inr (.inr (.inl rfl))⟩
          · exact ⟨-2, h, .inr (.inr (.inr rfl))⟩
        have kn20 := eb20.kn hd19
        have hT20 := sqt_kn kn20 hT19
        have hA : FeastAt K C_Feast H20 F1 r := hfe19.kn kn20
        have hB : FeastAt K C_Feast H20 F2 s := hfe2.kn kn20
        have hNL20 : NeedL K H20 (.ref lp) (some (lw, lm)) := .good hT20 hO hgcd n4
        have rb := leaf_bys p1
        have sb : s.bys = 0 := by omega
        have okBo : okRl (.bo r s) = true := decide_eq_true ⟨by simp only [Rl.parts]; omega, by simp only [Rl.bys]; omega⟩
        have okEi : okRl (.ei r s) = true := decide_eq_true ⟨by simp only [Rl.parts]; omega, by simp only [Rl.bys]; omega⟩
        have okWo : okRl (.wo r s) = true := decide_eq_true ⟨by simp only [Rl.parts]; omega, by simp only [Rl.bys]; omega⟩
        have okM1 : okRl (.bh r z) = true := decide_eq_true ⟨by simp only [Rl.parts]; omega, by simp only [Rl.bys]; omega⟩
        have okM2 : okRl (.bh (.bh r z) (-z)) = true := decide_eq_true ⟨by simp only [Rl.parts]; omega, by simp only [Rl.bys]; omega⟩
        have hz1 : byOk z = true := by rcases hz with rfl | rfl | rfl | rfl <;> decide
        have hz2 : byOk (-z) = true := by rcases hz with rfl | rfl | rfl | rfl <;> decide
        have fM1 : (Rl.bh r z).fit = true := by
          simp only [Rl.fit, f1, Bool.and_true]
          exact hz1
        refine q_not (et_is (et_not (et_B (ev_alikeR (er_one (er_moved (er_movedV (ev_var rfl) hA (fun _ _ => ev_var rfl) f1 hz1 okM1) (fun _ _ => ev_un (ev_var rfl) ru_neg) fM1 hz2 okM2) (by simp only [Rl.bys]; omega)) (er_oneV (ev_var rfl) hA (by omega)) (dep1 (by simp only [Rl.parts]; omega)) (dep1 (by omega)) (reach1 (by simp only [Rl.bys]; omega)) (reach1 (by omega)) fun _ => unlike_of (fun w m d => by rw [one_day, one_day, moved_day]) _))) rfl) fun H21 e21 => ?_
        have hA21 := hA.mono e21
        have hB21 := hB.mono e21
        have pBo : (Rl.bo r s).parts ≤ 5 := by simp only [Rl.parts]; omega
        have pWo : (Rl.wo r s).parts ≤ 5 := by simp only [Rl.parts]; omega
        have pEi : (Rl.ei r s).parts ≤ 5 := by simp only [Rl.parts]; omega
        have bBo : (Rl.bo r s).bys ≤ 4 := by simp only [Rl.bys]; omega
        have bWo : (Rl.wo r s).bys ≤ 4 := by simp only [Rl.bys]; omega
        have bEi : (Rl.ei r s).bys ≤ 4 := by simp only [Rl.bys]; omega
        refine q_not (et_test (ev_meetR (er_one (er_bin (ev_var rfl) (ev_var rfl) hA21 hB21 f1 f2 okBo) bBo) (er_one (er_bin (ev_var rfl) (ev_var rfl) hA21 hB21 f1 f2 okWo) bWo) (dep1 pBo) (dep1 pWo) (reach1 bBo) (reach1 bWo) fun _ => meet_of (fun w m d => by
          rw [one_day, one_day]
          show ((r.day w m d && s.day w m d) && (r.day w m d && !s.day w m d)) = false
          cases r.day w m d <;> cases s.day w m d <;> rfl) _)) fun H22 e22 => ?_
        have hA22 := hA21.mono e22
        have hB22 := hB21.mono e22
        refine q_asgR (er_calX (er_row2 (eu_tup (ea_cons (ev_var rfl) (ea_cons ev_c ea_nil)) (by show 2 ≤ 100000; decide)) (eu_tup (ea_cons (ev_var rfl) (ea_cons ev_c ea_nil)) (by show 2 ≤ 100000; decide)) hA22 hB22) (by show 2 ≤ 3; decide) (by show r.bys + (s.bys + 0) ≤ 4; omega)) fun Wc H23 hWc e23 hW => ?_
        have hA23 := hA22.mono e23
        have hB23 := hB22.mono e23
        have hd2 : depMax [(r, false), (s, false)] < 5 := dep2 (by omega) (by omega)
        refine q_not (et_is (et_or (et_not (et_B (ev_alikeV (er_one (er_bin (ev_var rfl) (ev_var rfl) hA23 hB23 f1 f2 okEi) bEi) (ev_var rfl) hW (dep1 pEi) hd2 (reach1 bEi) (reach2 (by omega)) fun _ => unlike_of (fun w m d => by rw [one_day, two_day]; rfl) _))) fun _ => et_not (et_B (ev_alikeW (ev_var rfl) hW (er_calX (er_row2 (eu_tup (ea_cons (ev_var rfl) (ea_cons ev_c ea_nil)) (by show 2 ≤ 100000; decide)) (eu_tup (ea_cons (ev_var rfl) (ea_cons ev_c ea_nil)) (by show 2 ≤ 100000; decide)) hB23 hA23) (by show 2 ≤ 3; decide) (by show s.bys + (r.bys + 0) ≤ 4; omega)) hd2 (dep2 (by omega) (by omega)) (reach2 (by omega)) (reach2 (by omega)) fun _ => unlike_of (fun w m d => by rw [two_day, two_day, Bool.or_comm]) _))) rfl) fun H24 e24 => ?_
        have hA24 := hA23.mono e24
        have hB24 := hB23.mono e24
        have hNL24 := hNL20.mono (((e21.trans e22).trans e23).trans e24)
        refine q_not (et_is (et_cmp (ev_op (ev_countR (er_one (er_bin (ev_var rfl) (ev_var rfl) hA24 hB24 f1 f2 okBo) bBo) (fun _ _ => ev_var rfl) hNL24 (dep1 pBo)) (ev_countR (er_one (er_bin (ev_var rfl) (ev_var rfl) hA24 hB24 f1 f2 okWo) bWo) (fun _ _ => ev_var rfl) hNL24 (dep1 pWo)) rv_I0) (ev_countR (er_oneV (ev_var rfl) hA24 (by omega)) (fun _ _ => ev_var rfl) hNL24 (dep1 (by omega))) (rv_ne rfl)) (by
          have c1 : calDay (lw : Int) (lm : Int) [(.bo r s, false)] = fun d => r.day lw lm d && s.day lw lm d := funext fun d => one_day _ _ _ d
          have c2 : calDay (lw : Int) (lm : Int) [(.wo r s, false)] = fun d => r.day lw lm d && !s.day lw lm d := funext fun d => one_day _ _ _ d
          have c3 : calDay (lw : Int) (lm : Int) [(r, false)] = fun d => r.day lw lm d := funext fun d => one_day _ _ _ d
          have c4 := and_wo_len (fun d => r.day lw lm d) (fun d => s.day lw lm d) (lw * lm)
          rw [c1, c2, c3, ← c4, Int.natCast_add, decide_eq_true rfl]
          rfl)) fun H25 e25 => ?_
        have hW25 := hW.mono (e24.trans e25)
        have hNL25 := hNL24.mono e25
        have hT25 := ex_t ((((e21.trans e22).trans e23).trans e24).trans e25) hT20
        have hne : daysN (lw * lm) (calDay (lw : Int) (lm : Int) [(r, false), (s, false)]) ≠ [] := by
          obtain ⟨e0, h1, h2⟩ := leaf_day p1 hO
          intro q
          have : e0 ∈ daysN (lw * lm) (calDay (lw : Int) (lm : Int) [(r, false), (s, false)]) := daysN_mem.mpr ⟨h1, by rw [two_day, h2]; rfl⟩
          rw [q] at this
          cases this
        obtain ⟨z0, hn0, hn1⟩ := nth_count (w := lw) (m := lm) hne
        have hle := daysN_len (lw * lm) (calDay (lw : Int) (lm : Int) [(r, false), (s, false)])
        have n4' : lw * lm ≤ 4000 := n4
        have hnth : ∀ {n : Int} {H : Hp} {σ : L2.St} {tn : TE}, Ex H25 H → 0 ≤ n → n ≤ 10 ^ 30 → σ[17]? = some (some (.ref Wc)) → σ[6]? = some (some (.ref lp)) → Ev tn σ H (.int n) → Ev (tCall (spNth K C_Feast C_Calendar C_BadLand C_BadNumber) [] E0 (tCons (tVar 17) (tCons (tVar 6) (tCons tn tNil)))) σ H (nthV lw lm (daysN (lw * lm) (calDay (lw : Int) (lm : Int) [(r, false), (s, false)])) n) := fun {n H σ tn} e hn0 hn1 h1 h2 h3 =>
          ev_call (ea_cons (ev_var h1) (ea_cons (ev_var h2) (ea_cons h3 ea_nil))) (spV fun H1 e1 Q _ q => ⟨_, _, _, some (lw, lm), some n, rfl, hNL25.mono (e.trans e1), .int n, (fun h => nomatch h), (fun _ h => by
            have : fromB (some n) 0 = true := by
              show (decide (0 ≤ n) && decide (n ≤ 10 ^ 30)) = true
              rw [decide_eq_true hn0, decide_eq_true hn1]
              rfl
            rw [this] at h
            cases h), fun w' m' i' hw hi _ => by
            cases hw
            cases hi
            exact ⟨_, hW25.mono (e.trans e1), hd2, q⟩⟩)
        have hev1 := hnth (Ex.refl _) (n := 0) (σ := [some (.ref a), some (.ref d), some (.ref R), some (.ref So), some (.ref c1), some (.ref c2), some (.ref lp), some (.bl b1), some (.bl b2), some (.ref Ip), some (.ref Mi), a11, a12, a13, some (.ref F1), some (.ref F2), some (.int z), some (.ref Wc)]) (tn := tC (.int 0)) (by decide) (by decide) rfl rfl ev_c
        have hev2 := hnth (Ex.refl _) (n := (((daysN (lw * lm) (calDay (lw : Int) (lm : Int) [(r, false), (s, false)])).length : Nat) : Int)) (σ := [some (.ref a), some (.ref d), some (.ref R), some (.ref So), some (.ref c1), some (.ref c2), some (.ref lp), some (.bl b1), some (.bl b2), some (.ref Ip), some (.ref Mi), a11, a12, a13, some (.ref F1), some (.ref F2), some (.int z), some (.ref Wc)]) (tn := tCall (spCount K C_Feast C_Calendar C_BadLand) [] E0 (tCons (tVar 17) (tCons (tVar 6) tNil))) (by omega) (by omega) rfl rfl
          (ev_call (ea_cons (ev_var rfl) (ea_cons (ev_var rfl) ea_nil)) (spV fun H1 e1 Q _ q => ⟨_, _, some (lw, lm), rfl, hNL25.mono e1, (fun h => nomatch h), fun w' m' hw => by
            cases hw
            exact ⟨_, hW25.mono e1, hd2, q⟩⟩))
        rw [hn0] at hev1
        rw [hn1] at hev2
        refine s_ret (v := .bl true) (ev_is (ev_op hev2 (ev_op hev1 (ev_op (ev_ixT (ev_var rfl) hT25 rfl) (ev_ixT (ev_var rfl) hT25 rfl) (rv_I (.inl ⟨by omega, by omega⟩))) rv_I0) (rv_eq rfl)) (by rw [decide_eq_true rfl])) fun H26 _ => k H26
theorem dn_law (T : Txt w K mg C_BadRule C_BadRules C_BadLand C_BadDay C_BadNumber C_Feast C_Calendar) (CF : Cls1 K C_Feast ["told", "bys"]) (IF : ClsI K C_Feast) (CC : Cls1 K C_Calendar ["rows", "near"]) (hsf : PySem.W.selfFirst K C_Feast = true) : Dn P w K mg base CX0 "law" 13 ["_law_script"] (spLaw K) := T.f_law.dn fun _ _ F _ _ => ok_law F T CF IF CC hsf
end
end WF

set_option Elab.async false
set_option linter.all false
set_option maxRecDepth 100000
set_option maxHeartbeats 4000000
set_option pp.maxSteps 50
set_option pp.oneline true
namespace WF
open PySem L2 Evl
theorem no5 {K : PySem.W.Frag} {d : Addr} (a : PySem.W.nsIn K d "behind" = some none) (b : PySem.W.nsIn K d "both" = some none) (c : PySem.W.nsIn K d "either" = some none) (e : PySem.W.nsIn K d "without" = some none) (f : PySem.W.nsIn K d "week" = some none) : ∀ z ∈ (["behind", "both", "either", "without", "week"] : List Str), PySem.W.nsIn K d z = some none := by
  intro z hz
  simp only [List.mem_cons, List.not_mem_nil, or_false] at hz
  rcases hz with rfl | rfl | rfl | rfl | rfl <;> assumption
open PySem.W in
theorem all_mk {l : PySem.W.OpenLaw} {w : World} {K : PySem.W.Frag} {h : Heap} {mg : Str → Option Value} {fa : Addr} (X : K.In h) (G : h.Ns mainGlobals mg) (hfa : mg "law" = some (.ref fa))
    {u_BYS d_ENDS u_W u_M u_PAIRS C_BadRule C_BadRules C_BadLand C_BadDay C_BadNumber C_Feast C_Calendar f_is_in f_within f_size_of f_is_rule f_Feast_init f_Feast_eq f_Feast_and f_Feast_or f_Feast_sub f_Feast_moved f_is_pair f_Calendar_init f_Calendar_eq f_divisor f_is_land f_need_land f_every f_turned f_figure_of f_days_of f_listed f_lands_to f_enough f_first_unlike f_parting f_alike f_meeting f_needless f_is_from f_need_day f_is_day f_nth f_count f_l_random f_l_below f_l_pick f_l_leaf f_l_rule f_l_rows f_l_made f_l_bys f_l_days f_l_all f_l_near f_l_one f_law : Addr}
    {oc_is_in kV_is_in dc_is_in pm_is_in cd_is_in ct_is_in oc_within kV_within dc_within pm_within cd_within ct_within oc_size_of kV_size_of dc_size_of pm_size_of cd_size_of ct_size_of oc_is_rule kV_is_rule dc_is_rule pm_is_rule cd_is_rule ct_is_rule oc_Feast_init kV_Feast_init dc_Feast_init pm_Feast_init cd_Feast_init ct_Feast_init oc_Feast_eq kV_Feast_eq dc_Feast_eq pm_Feast_eq cd_Feast_eq ct_Feast_eq oc_Feast_and kV_Feast_and dc_Feast_and pm_Feast_and cd_Feast_and ct_Feast_and oc_Feast_or kV_Feast_or dc_Feast_or pm_Feast_or cd_Feast_or ct_Feast_or oc_Feast_sub kV_Feast_sub dc_Feast_sub pm_Feast_sub cd_Feast_sub ct_Feast_sub oc_Feast_moved kV_Feast_moved dc_Feast_moved pm_Feast_moved cd_Feast_moved ct_Feast_moved oc_is_pair kV_is_pair dc_is_pair pm_is_pair cd_is_pair ct_is_pair oc_Calendar_init kV_Calendar_init dc_Calendar_init pm_Calendar_init cd_Calendar_init ct_Calendar_init oc_Calendar_eq kV_Calendar_eq dc_Calendar_eq pm_Calendar_eq cd_Calendar_eq ct_Calendar_eq oc_divisor kV_divisor dc_divisor pm_divisor cd_divisor ct_divisor oc_is_land kV_is_land dc_is_land pm_is_land cd_is_land ct_is_land oc_need_land kV_need_land dc_need_land pm_need_land cd_need_land ct_need_land oc_every kV_every dc_every pm_every cd_every ct_every oc_turned kV_turned dc_turned pm_turned cd_turned ct_turned oc_figure_of kV_figure_of dc_figure_of pm_figure_of cd_figure_of ct_figure_of oc_days_of kV_days_of dc_days_of pm_days_of cd_days_of ct_days_of oc_listed kV_listed dc_listed pm_listed cd_listed ct_listed oc_lands_to kV_lands_to dc_lands_to pm_lands_to cd_lands_to ct_lands_to oc_enough kV_enough dc_enough pm_enough cd_enough ct_enough oc_first_unlike kV_first_unlike dc_first_unlike pm_first_unlike cd_first_unlike ct_first_unlike oc_parting kV_parting dc_parting pm_parting cd_parting ct_parting oc_alike kV_alike dc_alike pm_alike cd_alike ct_alike oc_meeting kV_meeting dc_meeting pm_meeting cd_meeting ct_meeting oc_needless kV_needless dc_needless pm_needless cd_needless ct_needless oc_is_from kV_is_from dc_is_from pm_is_from cd_is_from ct_is_from oc_need_day kV_need_day dc_need_day pm_need_day cd_need_day ct_need_day oc_is_day kV_is_day dc_is_day pm_is_day cd_is_day ct_is_day oc_nth kV_nth dc_nth pm_nth cd_nth ct_nth oc_count kV_count dc_count pm_count cd_count ct_count oc_l_random kV_l_random dc_l_random pm_l_random cd_l_random ct_l_random oc_l_below kV_l_below dc_l_below pm_l_below cd_l_below ct_l_below oc_l_pick kV_l_pick dc_l_pick pm_l_pick cd_l_pick ct_l_pick oc_l_leaf kV_l_leaf dc_l_leaf pm_l_leaf cd_l_leaf ct_l_leaf oc_l_rule kV_l_rule dc_l_rule pm_l_rule cd_l_rule ct_l_rule oc_l_rows kV_l_rows dc_l_rows pm_l_rows cd_l_rows ct_l_rows oc_l_made kV_l_made dc_l_made pm_l_made cd_l_made ct_l_made oc_l_bys kV_l_bys dc_l_bys pm_l_bys cd_l_bys ct_l_bys oc_l_days kV_l_days dc_l_days pm_l_days cd_l_days ct_l_days oc_l_all kV_l_all dc_l_all pm_l_all cd_l_all ct_l_all oc_l_near kV_l_near dc_l_near pm_l_near cd_l_near ct_l_near oc_l_one kV_l_one dc_l_one pm_l_one cd_l_one ct_l_one oc_law kV_law dc_law pm_law cd_law ct_law : Value}
    {od_u_BYS od_u_W od_u_M od_u_PAIRS od_is_in an_is_in od_within an_within od_size_of an_size_of od_is_rule an_is_rule od_Feast_init an_Feast_init od_Feast_eq an_Feast_eq od_Feast_and an_Feast_and od_Feast_or an_Feast_or od_Feast_sub an_Feast_sub od_Feast_moved an_Feast_moved od_is_pair an_is_pair od_Calendar_init an_Calendar_init od_Calendar_eq an_Calendar_eq od_divisor an_divisor od_is_land an_is_land od_need_land an_need_land od_every an_every od_turned an_turned od_figure_of an_figure_of od_days_of an_days_of od_listed an_listed od_lands_to an_lands_to od_enough an_enough od_first_unlike an_first_unlike od_parting an_parting od_alike an_alike od_meeting an_meeting od_needless an_needless od_is_from an_is_from od_need_day an_need_day od_is_day an_is_day od_nth an_nth od_count an_count od_l_random an_l_random od_l_below an_l_below od_l_pick an_l_pick od_l_leaf an_l_leaf od_l_rule an_l_rule od_l_rows an_l_rows od_l_made an_l_made od_l_bys an_l_bys od_l_days an_l_days od_l_all an_l_all od_l_near an_l_near od_l_one an_l_one od_law an_law : Option Addr}
    {sl_u_BYS sl_u_W sl_u_M sl_u_PAIRS sl_is_in sl_within sl_size_of sl_is_rule sl_Feast_init sl_Feast_eq sl_Feast_and sl_Feast_or sl_Feast_sub sl_Feast_moved sl_is_pair sl_Calendar_init sl_Calendar_eq sl_divisor sl_is_land sl_need_land sl_every sl_turned sl_figure_of sl_days_of sl_listed sl_lands_to sl_enough sl_first_unlike sl_parting sl_alike sl_meeting sl_needless sl_is_from sl_need_day sl_is_day sl_nth sl_count sl_l_random sl_l_below sl_l_pick sl_l_leaf sl_l_rule sl_l_rows sl_l_made sl_l_bys sl_l_days sl_l_all sl_l_near sl_l_one sl_law : Array (Option Value)}
    {t_u_BYS_0 t_u_BYS_1 t_u_BYS_2 t_u_BYS_3 t_u_W_0 t_u_W_1 t_u_W_2 t_u_W_3 t_u_M_0 t_u_M_1 t_u_M_2 t_u_M_3 t_u_M_4 t_u_M_5 t_u_PAIRS_0 t_u_PAIRS_1 t_u_PAIRS_2 t_MOST_PARTS t_MOST_BYS t_MOST_RULES t_LEAST_REACH t_MOST_ROUND t_WEEKS t_MONTHS t_GREATEST : Tok}
    {nn_u_BYS nE nn_u_W nn_u_M nn_u_PAIRS : Nat}
    {es_ENDS : Array DictEntry}
    (z_len : PySem.W.nsIn K mainGlobals "len" = some none)
    (z_abs : PySem.W.nsIn K mainGlobals "abs" = some none)
    (z_sum : PySem.W.nsIn K mainGlobals "sum" = some none)
    (z_max : PySem.W.nsIn K mainGlobals "max" = some none)
    (z_isinstance : PySem.W.nsIn K mainGlobals "isinstance" = some none)
    (z_sorted : PySem.W.nsIn K mainGlobals "sorted" = some none)
    (z_all : PySem.W.nsIn K mainGlobals "all" = some none)
    (z_int : PySem.W.nsIn K mainGlobals "int" = some none)
    (z_str : PySem.W.nsIn K mainGlobals "str" = some none)
    (z_list : PySem.W.nsIn K mainGlobals "list" = some none)
    (z_tuple : PySem.W.nsIn K mainGlobals "tuple" = some none)
    (z_dict : PySem.W.nsIn K mainGlobals "dict" = some none)
    (z_bool : PySem.W.nsIn K mainGlobals "bool" = some none)
    (z_range : PySem.W.nsIn K mainGlobals "range" = some none)
    (z_enumerate : PySem.W.nsIn K mainGlobals "enumerate" = some none)
    (g_BYS : PySem.W.nsIn K mainGlobals "BYS" = some (some (.ref u_BYS)))
    (l_u_BYS : K.lookup u_BYS = some ⟨.type "tuple", od_u_BYS, .seq #[.int (-2) t_u_BYS_0, .int (-1) t_u_BYS_1, .int (1) t_u_BYS_2, .int (2) t_u_BYS_3] nn_u_BYS, sl_u_BYS⟩)
    (g_ENDS : PySem.W.nsIn K mainGlobals "ENDS" = some (some (.ref d_ENDS)))
    (l_ENDS : K.lookup d_ENDS = some ⟨.type "dict", none, .dict es_ENDS nE, #[]⟩)
    (e_ENDS : PySem.W.KeysLit w.params es_ENDS.toList)
    (w_ENDS : (d_ENDS == sysModules) = false)
    (x_weekday : PySem.W.nsIn K d_ENDS "weekday" = some (some (.ref u_W)))
    (x_first : PySem.W.nsIn K d_ENDS "first" = some (some (.ref u_W)))
    (x_monthday : PySem.W.nsIn K d_ENDS "monthday" = some (some (.ref u_M)))
    (x_behind : PySem.W.nsIn K d_ENDS "behind" = some none)
    (x_both : PySem.W.nsIn K d_ENDS "both" = some none)
    (x_either : PySem.W.nsIn K d_ENDS "either" = some none)
    (x_without : PySem.W.nsIn K d_ENDS "without" = some none)
    (x_week : PySem.W.nsIn K d_ENDS "week" = some none)
    (l_u_W : K.lookup u_W = some ⟨.type "tuple", od_u_W, .seq #[.int (-2) t_u_W_0, .int (-1) t_u_W_1, .int (0) t_u_W_2, .int (1) t_u_W_3] nn_u_W, sl_u_W⟩)
    (l_u_M : K.lookup u_M = some ⟨.type "tuple", od_u_M, .seq #[.int (-3) t_u_M_0, .int (-2) t_u_M_1, .int (-1) t_u_M_2, .int (0) t_u_M_3, .int (1) t_u_M_4, .int (2) t_u_M_5] nn_u_M, sl_u_M⟩)
    (g_PAIRS : PySem.W.nsIn K mainGlobals "PAIRS" = some (some (.ref u_PAIRS)))
    (l_u_PAIRS : K.lookup u_PAIRS = some ⟨.type "tuple", od_u_PAIRS, .seq #[.str "both" t_u_PAIRS_0, .str "either" t_u_PAIRS_1, .str "without" t_u_PAIRS_2] nn_u_PAIRS, sl_u_PAIRS⟩)
    (g_MOST_PARTS : PySem.W.nsIn K mainGlobals "MOST_PARTS" = some (some (.int 5 t_MOST_PARTS)))
    (g_MOST_BYS : PySem.W.nsIn K mainGlobals "MOST_BYS" = some (some (.int 4 t_MOST_BYS)))
    (g_MOST_RULES : PySem.W.nsIn K mainGlobals "MOST_RULES" = some (some (.int 3 t_MOST_RULES)))
    (g_LEAST_REACH : PySem.W.nsIn K mainGlobals "LEAST_REACH" = some (some (.int 3 t_LEAST_REACH)))
    (g_MOST_ROUND : PySem.W.nsIn K mainGlobals "MOST_ROUND" = some (some (.int 4000 t_MOST_ROUND)))
    (g_WEEKS : PySem.W.nsIn K mainGlobals "WEEKS" = some (some (.int 4 t_WEEKS)))
    (g_MONTHS : PySem.W.nsIn K mainGlobals "MONTHS" = some (some (.int 6 t_MONTHS)))
    (g_GREATEST : PySem.W.nsIn K mainGlobals "GREATEST" = some (some (.int 1000000000000000000000000000000 t_GREATEST)))
    (a_BadRule : PySem.W.nsIn K mainGlobals "BadRule" = some (some (.ref C_BadRule)))
    (x_BadRule : PySem.W.excIn K C_BadRule [.type "ValueError", .type "Exception", .type "BaseException", .type "object"] "ValueError.__new__" = true)
    (k_BadRule : PySem.W.keepIn K (.ref C_BadRule) = true)
    (b_BadRule : PySem.W.subIn K (.ref C_BadRule) (.type "BaseException") = some true)
    (t_BadRule : PySem.W.typeIn K (.ref C_BadRule) = some (.type "type"))
    (i_BadRule : PySem.W.isClsIn K C_BadRule = true)
    (s_BadRule : PySem.W.subIn K (.ref C_BadRule) (.ref C_BadRule) = some true)
    (a_BadRules : PySem.W.nsIn K mainGlobals "BadRules" = some (some (.ref C_BadRules)))
    (a_BadLand : PySem.W.nsIn K mainGlobals "BadLand" = some (some (.ref C_BadLand)))
    (x_BadLand : PySem.W.excIn K C_BadLand [.type "ValueError", .type "Exception", .type "BaseException", .type "object"] "ValueError.__new__" = true)
    (k_BadLand : PySem.W.keepIn K (.ref C_BadLand) = true)
    (b_BadLand : PySem.W.subIn K (.ref C_BadLand) (.type "BaseException") = some true)
    (t_BadLand : PySem.W.typeIn K (.ref C_BadLand) = some (.type "type"))
    (i_BadLand : PySem.W.isClsIn K C_BadLand = true)
    (s_BadLand : PySem.W.subIn K (.ref C_BadLand) (.ref C_BadLand) = some true)
    (a_BadDay : PySem.W.nsIn K mainGlobals "BadDay" = some (some (.ref C_BadDay)))
    (x_BadDay : PySem.W.excIn K C_BadDay [.type "ValueError", .type "Exception", .type "BaseException", .type "object"] "ValueError.__new__" = true)
    (k_BadDay : PySem.W.keepIn K (.ref C_BadDay) = true)
    (b_BadDay : PySem.W.subIn K (.ref C_BadDay) (.type "BaseException") = some true)
    (t_BadDay : PySem.W.typeIn K (.ref C_BadDay) = some (.type "type"))
    (i_BadDay : PySem.W.isClsIn K C_BadDay = true)
    (s_BadDay : PySem.W.subIn K (.ref C_BadDay) (.ref C_BadDay) = some true)
    (a_BadNumber : PySem.W.nsIn K mainGlobals "BadNumber" = some (some (.ref C_BadNumber)))
    (x_BadNumber : PySem.W.excIn K C_BadNumber [.type "ValueError", .type "Exception", .type "BaseException", .type "object"] "ValueError.__new__" = true)
    (k_BadNumber : PySem.W.keepIn K (.ref C_BadNumber) = true)
    (b_BadNumber : PySem.W.subIn K (.ref C_BadNumber) (.type "BaseException") = some true)
    (t_BadNumber : PySem.W.typeIn K (.ref C_BadNumber) = some (.type "type"))
    (i_BadNumber : PySem.W.isClsIn K C_BadNumber = true)
    (s_BadNumber : PySem.W.subIn K (.ref C_BadNumber) (.ref C_BadNumber) = some true)
    (a_Feast : PySem.W.nsIn K mainGlobals "Feast" = some (some (.ref C_Feast)))
    (a_Calendar : PySem.W.nsIn K mainGlobals "Calendar" = some (some (.ref C_Calendar)))
    (a_is_in : PySem.W.nsIn K mainGlobals "is_in" = some (some (.ref f_is_in)))
    (l_is_in : K.lookup f_is_in = some ⟨oc_is_in, od_is_in, .func (PySem.W.fnOf "is_in" "is_in" (defArgs s_is_in) (defBody s_is_in) (defScope s_is_in) .none kV_is_in dc_is_in pm_is_in an_is_in cd_is_in ct_is_in), sl_is_in⟩)
    (c_is_in : PySem.W.codeIn K cd_is_in "is_in" = true)
    (k_is_in : PySem.W.keepIn K (.ref f_is_in) = true)
    (a_within : PySem.W.nsIn K mainGlobals "within" = some (some (.ref f_within)))
    (l_within : K.lookup f_within = some ⟨oc_within, od_within, .func (PySem.W.fnOf "within" "within" (defArgs s_within) (defBody s_within) (defScope s_within) .none kV_within dc_within pm_within an_within cd_within ct_within), sl_within⟩)
    (c_within : PySem.W.codeIn K cd_within "within" = true)
    (k_within : PySem.W.keepIn K (.ref f_within) = true)
    (a_size_of : PySem.W.nsIn K mainGlobals "size_of" = some (some (.ref f_size_of)))
    (l_size_of : K.lookup f_size_of = some ⟨oc_size_of, od_size_of, .func (PySem.W.fnOf "size_of" "size_of" (defArgs s_size_of) (defBody s_size_of) (defScope s_size_of) .none kV_size_of dc_size_of pm_size_of an_size_of cd_size_of ct_size_of), sl_size_of⟩)
    (c_size_of : PySem.W.codeIn K cd_size_of "size_of" = true)
    (k_size_of : PySem.W.keepIn K (.ref f_size_of) = true)
    (a_is_rule : PySem.W.nsIn K mainGlobals "is_rule" = some (some (.ref f_is_rule)))
    (l_is_rule : K.lookup f_is_rule = some ⟨oc_is_rule, od_is_rule, .func (PySem.W.fnOf "is_rule" "is_rule" (defArgs s_is_rule) (defBody s_is_rule) (defScope s_is_rule) .none kV_is_rule dc_is_rule pm_is_rule an_is_rule cd_is_rule ct_is_rule), sl_is_rule⟩)
    (c_is_rule : PySem.W.codeIn K cd_is_rule "is_rule" = true)
    (k_is_rule : PySem.W.keepIn K (.ref f_is_rule) = true)
    (pg_Feast : PySem.W.plainGet K C_Feast Str.empty = true)
    (hd_Feast : PySem.W.hasDictIn K C_Feast = true)
    (po_Feast : PySem.W.plainOver K C_Feast = true)
    (sa_Feast : PySem.W.findIn K (.ref C_Feast) "__setattr__" = some (some (.builtin "object.__setattr__")))
    (mk_Feast : PySem.W.makesIn K C_Feast = true)
    (kc_Feast : PySem.W.keepIn K (.ref C_Feast) = true)
    (n_Feast_told : PySem.W.findIn K (.ref C_Feast) "told" = some none)
    (n_Feast_bys : PySem.W.findIn K (.ref C_Feast) "bys" = some none)
    (a_Feast_init : PySem.W.findIn K (.ref C_Feast) "__init__" = some (some (.ref f_Feast_init)))
    (i_Feast_init : PySem.W.isFn K (.ref f_Feast_init) = true)
    (l_Feast_init : K.lookup f_Feast_init = some ⟨oc_Feast_init, od_Feast_init, .func (PySem.W.fnOf "__init__" "Feast.__init__" (defArgs s_Feast_init) (defBody s_Feast_init) (defScope s_Feast_init) .none kV_Feast_init dc_Feast_init pm_Feast_init an_Feast_init cd_Feast_init ct_Feast_init), sl_Feast_init⟩)
    (c_Feast_init : PySem.W.codeIn K cd_Feast_init "Feast.__init__" = true)
    (k_Feast_init : PySem.W.keepIn K (.ref f_Feast_init) = true)
    (a_Feast_eq : PySem.W.findIn K (.ref C_Feast) "__eq__" = some (some (.ref f_Feast_eq)))
    (i_Feast_eq : PySem.W.isFn K (.ref f_Feast_eq) = true)
    (l_Feast_eq : K.lookup f_Feast_eq = some ⟨oc_Feast_eq, od_Feast_eq, .func (PySem.W.fnOf "__eq__" "Feast.__eq__" (defArgs s_Feast_eq) (defBody s_Feast_eq) (defScope s_Feast_eq) .none kV_Feast_eq dc_Feast_eq pm_Feast_eq an_Feast_eq cd_Feast_eq ct_Feast_eq), sl_Feast_eq⟩)
    (c_Feast_eq : PySem.W.codeIn K cd_Feast_eq "Feast.__eq__" = true)
    (k_Feast_eq : PySem.W.keepIn K (.ref f_Feast_eq) = true)
    (a_Feast_and : PySem.W.findIn K (.ref C_Feast) "__and__" = some (some (.ref f_Feast_and)))
    (i_Feast_and : PySem.W.isFn K (.ref f_Feast_and) = true)
    (l_Feast_and : K.lookup f_Feast_and = some ⟨oc_Feast_and, od_Feast_and, .func (PySem.W.fnOf "__and__" "Feast.__and__" (defArgs s_Feast_and) (defBody s_Feast_and) (defScope s_Feast_and) .none kV_Feast_and dc_Feast_and pm_Feast_and an_Feast_and cd_Feast_and ct_Feast_and), sl_Feast_and⟩)
    (c_Feast_and : PySem.W.codeIn K cd_Feast_and "Feast.__and__" = true)
    (k_Feast_and : PySem.W.keepIn K (.ref f_Feast_and) = true)
    (a_Feast_or : PySem.W.findIn K (.ref C_Feast) "__or__" = some (some (.ref f_Feast_or)))
    (i_Feast_or : PySem.W.isFn K (.ref f_Feast_or) = true)
    (l_Feast_or : K.lookup f_Feast_or = some ⟨oc_Feast_or, od_Feast_or, .func (PySem.W.fnOf "__or__" "Feast.__or__" (defArgs s_Feast_or) (defBody s_Feast_or) (defScope s_Feast_or) .none kV_Feast_or dc_Feast_or pm_Feast_or an_Feast_or cd_Feast_or ct_Feast_or), sl_Feast_or⟩)
    (c_Feast_or : PySem.W.codeIn K cd_Feast_or "Feast.__or__" = true)
    (k_Feast_or : PySem.W.keepIn K (.ref f_Feast_or) = true)
    (a_Feast_sub : PySem.W.findIn K (.ref C_Feast) "__sub__" = some (some (.ref f_Feast_sub)))
    (i_Feast_sub : PySem.W.isFn K (.ref f_Feast_sub) = true)
    (l_Feast_sub : K.lookup f_Feast_sub = some ⟨oc_Feast_sub, od_Feast_sub, .func (PySem.W.fnOf "__sub__" "Feast.__sub__" (defArgs s_Feast_sub) (defBody s_Feast_sub) (defScope s_Feast_sub) .none kV_Feast_sub dc_Feast_sub pm_Feast_sub an_Feast_sub cd_Feast_sub ct_Feast_sub), sl_Feast_sub⟩)
    (c_Feast_sub : PySem.W.codeIn K cd_Feast_sub "Feast.__sub__" = true)
    (k_Feast_sub : PySem.W.keepIn K (.ref f_Feast_sub) = true)
    (a_Feast_moved : PySem.W.findIn K (.ref C_Feast) "moved" = some (some (.ref f_Feast_moved)))
    (i_Feast_moved : PySem.W.isFn K (.ref f_Feast_moved) = true)
    (l_Feast_moved : K.lookup f_Feast_moved = some ⟨oc_Feast_moved, od_Feast_moved, .func (PySem.W.fnOf "moved" "Feast.moved" (defArgs s_Feast_moved) (defBody s_Feast_moved) (defScope s_Feast_moved) .none kV_Feast_moved dc_Feast_moved pm_Feast_moved an_Feast_moved cd_Feast_moved ct_Feast_moved), sl_Feast_moved⟩)
    (c_Feast_moved : PySem.W.codeIn K cd_Feast_moved "Feast.moved" = true)
    (k_Feast_moved : PySem.W.keepIn K (.ref f_Feast_moved) = true)
    (a_is_pair : PySem.W.nsIn K mainGlobals "is_pair" = some (some (.ref f_is_pair)))
    (l_is_pair : K.lookup f_is_pair = some ⟨oc_is_pair, od_is_pair, .func (PySem.W.fnOf "is_pair" "is_pair" (defArgs s_is_pair) (defBody s_is_pair) (defScope s_is_pair) .none kV_is_pair dc_is_pair pm_is_pair an_is_pair cd_is_pair ct_is_pair), sl_is_pair⟩)
    (c_is_pair : PySem.W.codeIn K cd_is_pair "is_pair" = true)
    (k_is_pair : PySem.W.keepIn K (.ref f_is_pair) = true)
    (pg_Calendar : PySem.W.plainGet K C_Calendar Str.empty = true)
    (hd_Calendar : PySem.W.hasDictIn K C_Calendar = true)
    (po_Calendar : PySem.W.plainOver K C_Calendar = true)
    (sa_Calendar : PySem.W.findIn K (.ref C_Calendar) "__setattr__" = some (some (.builtin "object.__setattr__")))
    (mk_Calendar : PySem.W.makesIn K C_Calendar = true)
    (kc_Calendar : PySem.W.keepIn K (.ref C_Calendar) = true)
    (n_Calendar_rows : PySem.W.findIn K (.ref C_Calendar) "rows" = some none)
    (n_Calendar_near : PySem.W.findIn K (.ref C_Calendar) "near" = some none)
    (a_Calendar_init : PySem.W.findIn K (.ref C_Calendar) "__init__" = some (some (.ref f_Calendar_init)))
    (i_Calendar_init : PySem.W.isFn K (.ref f_Calendar_init) = true)
    (l_Calendar_init : K.lookup f_Calendar_init = some ⟨oc_Calendar_init, od_Calendar_init, .func (PySem.W.fnOf "__init__" "Calendar.__init__" (defArgs s_Calendar_init) (defBody s_Calendar_init) (defScope s_Calendar_init) .none kV_Calendar_init dc_Calendar_init pm_Calendar_init an_Calendar_init cd_Calendar_init ct_Calendar_init), sl_Calendar_init⟩)
    (c_Calendar_init : PySem.W.codeIn K cd_Calendar_init "Calendar.__init__" = true)
    (k_Calendar_init : PySem.W.keepIn K (.ref f_Calendar_init) = true)
    (a_Calendar_eq : PySem.W.findIn K (.ref C_Calendar) "__eq__" = some (some (.ref f_Calendar_eq)))
    (i_Calendar_eq : PySem.W.isFn K (.ref f_Calendar_eq) = true)
    (l_Calendar_eq : K.lookup f_Calendar_eq = some ⟨oc_Calendar_eq, od_Calendar_eq, .func (PySem.W.fnOf "__eq__" "Calendar.__eq__" (defArgs s_Calendar_eq) (defBody s_Calendar_eq) (defScope s_Calendar_eq) .none kV_Calendar_eq dc_Calendar_eq pm_Calendar_eq an_Calendar_eq cd_Calendar_eq ct_Calendar_eq), sl_Calendar_eq⟩)
    (c_Calendar_eq : PySem.W.codeIn K cd_Calendar_eq "Calendar.__eq__" = true)
    (k_Calendar_eq : PySem.W.keepIn K (.ref f_Calendar_eq) = true)
    (a_divisor : PySem.W.nsIn K mainGlobals "divisor" = some (some (.ref f_divisor)))
    (l_divisor : K.lookup f_divisor = some ⟨oc_divisor, od_divisor, .func (PySem.W.fnOf "divisor" "divisor" (defArgs s_divisor) (defBody s_divisor) (defScope s_divisor) .none kV_divisor dc_divisor pm_divisor an_divisor cd_divisor ct_divisor), sl_divisor⟩)
    (c_divisor : PySem.W.codeIn K cd_divisor "divisor" = true)
    (k_divisor : PySem.W.keepIn K (.ref f_divisor) = true)
    (a_is_land : PySem.W.nsIn K mainGlobals "is_land" = some (some (.ref f_is_land)))
    (l_is_land : K.lookup f_is_land = some ⟨oc_is_land, od_is_land, .func (PySem.W.fnOf "is_land" "is_land" (defArgs s_is_land) (defBody s_is_land) (defScope s_is_land) .none kV_is_land dc_is_land pm_is_land an_is_land cd_is_land ct_is_land), sl_is_land⟩)
    (c_is_land : PySem.W.codeIn K cd_is_land "is_land" = true)
    (k_is_land : PySem.W.keepIn K (.ref f_is_land) = true)
    (a_need_land : PySem.W.nsIn K mainGlobals "need_land" = some (some (.ref f_need_land)))
    (l_need_land : K.lookup f_need_land = some ⟨oc_need_land, od_need_land, .func (PySem.W.fnOf "need_land" "need_land" (defArgs s_need_land) (defBody s_need_land) (defScope s_need_land) .none kV_need_land dc_need_land pm_need_land an_need_land cd_need_land ct_need_land), sl_need_land⟩)
    (c_need_land : PySem.W.codeIn K cd_need_land "need_land" = true)
    (k_need_land : PySem.W.keepIn K (.ref f_need_land) = true)
    (a_every : PySem.W.nsIn K mainGlobals "every" = some (some (.ref f_every)))
    (l_every : K.lookup f_every = some ⟨oc_every, od_every, .func (PySem.W.fnOf "every" "every" (defArgs s_every) (defBody s_every) (defScope s_every) .none kV_every dc_every pm_every an_every cd_every ct_every), sl_every⟩)
    (c_every : PySem.W.codeIn K cd_every "every" = true)
    (k_every : PySem.W.keepIn K (.ref f_every) = true)
    (a_turned : PySem.W.nsIn K mainGlobals "turned" = some (some (.ref f_turned)))
    (l_turned : K.lookup f_turned = some ⟨oc_turned, od_turned, .func (PySem.W.fnOf "turned" "turned" (defArgs s_turned) (defBody s_turned) (defScope s_turned) .none kV_turned dc_turned pm_turned an_turned cd_turned ct_turned), sl_turned⟩)
    (c_turned : PySem.W.codeIn K cd_turned "turned" = true)
    (k_turned : PySem.W.keepIn K (.ref f_turned) = true)
    (a_figure_of : PySem.W.nsIn K mainGlobals "figure_of" = some (some (.ref f_figure_of)))
    (l_figure_of : K.lookup f_figure_of = some ⟨oc_figure_of, od_figure_of, .func (PySem.W.fnOf "figure_of" "figure_of" (defArgs s_figure_of) (defBody s_figure_of) (defScope s_figure_of) .none kV_figure_of dc_figure_of pm_figure_of an_figure_of cd_figure_of ct_figure_of), sl_figure_of⟩)
    (c_figure_of : PySem.W.codeIn K cd_figure_of "figure_of" = true)
    (k_figure_of : PySem.W.keepIn K (.ref f_figure_of) = true)
    (a_days_of : PySem.W.nsIn K mainGlobals "days_of" = some (some (.ref f_days_of)))
    (l_days_of : K.lookup f_days_of = some ⟨oc_days_of, od_days_of, .func (PySem.W.fnOf "days_of" "days_of" (defArgs s_days_of) (defBody s_days_of) (defScope s_days_of) .none kV_days_of dc_days_of pm_days_of an_days_of cd_days_of ct_days_of), sl_days_of⟩)
    (c_days_of : PySem.W.codeIn K cd_days_of "days_of" = true)
    (k_days_of : PySem.W.keepIn K (.ref f_days_of) = true)
    (a_listed : PySem.W.nsIn K mainGlobals "listed" = some (some (.ref f_listed)))
    (l_listed : K.lookup f_listed = some ⟨oc_listed, od_listed, .func (PySem.W.fnOf "listed" "listed" (defArgs s_listed) (defBody s_listed) (defScope s_listed) .none kV_listed dc_listed pm_listed an_listed cd_listed ct_listed), sl_listed⟩)
    (c_listed : PySem.W.codeIn K cd_listed "listed" = true)
    (k_listed : PySem.W.keepIn K (.ref f_listed) = true)
    (a_lands_to : PySem.W.nsIn K mainGlobals "lands_to" = some (some (.ref f_lands_to)))
    (l_lands_to : K.lookup f_lands_to = some ⟨oc_lands_to, od_lands_to, .func (PySem.W.fnOf "lands_to" "lands_to" (defArgs s_lands_to) (defBody s_lands_to) (defScope s_lands_to) .none kV_lands_to dc_lands_to pm_lands_to an_lands_to cd_lands_to ct_lands_to), sl_lands_to⟩)
    (c_lands_to : PySem.W.codeIn K cd_lands_to "lands_to" = true)
    (k_lands_to : PySem.W.keepIn K (.ref f_lands_to) = true)
    (a_enough : PySem.W.nsIn K mainGlobals "enough" = some (some (.ref f_enough)))
    (l_enough : K.lookup f_enough = some ⟨oc_enough, od_enough, .func (PySem.W.fnOf "enough" "enough" (defArgs s_enough) (defBody s_enough) (defScope s_enough) .none kV_enough dc_enough pm_enough an_enough cd_enough ct_enough), sl_enough⟩)
    (c_enough : PySem.W.codeIn K cd_enough "enough" = true)
    (k_enough : PySem.W.keepIn K (.ref f_enough) = true)
    (a_first_unlike : PySem.W.nsIn K mainGlobals "first_unlike" = some (some (.ref f_first_unlike)))
    (l_first_unlike : K.lookup f_first_unlike = some ⟨oc_first_unlike, od_first_unlike, .func (PySem.W.fnOf "first_unlike" "first_unlike" (defArgs s_first_unlike) (defBody s_first_unlike) (defScope s_first_unlike) .none kV_first_unlike dc_first_unlike pm_first_unlike an_first_unlike cd_first_unlike ct_first_unlike), sl_first_unlike⟩)
    (c_first_unlike : PySem.W.codeIn K cd_first_unlike "first_unlike" = true)
    (k_first_unlike : PySem.W.keepIn K (.ref f_first_unlike) = true)
    (a_parting : PySem.W.nsIn K mainGlobals "parting" = some (some (.ref f_parting)))
    (l_parting : K.lookup f_parting = some ⟨oc_parting, od_parting, .func (PySem.W.fnOf "parting" "parting" (defArgs s_parting) (defBody s_parting) (defScope s_parting) .none kV_parting dc_parting pm_parting an_parting cd_parting ct_parting), sl_parting⟩)
    (c_parting : PySem.W.codeIn K cd_parting "parting" = true)
    (k_parting : PySem.W.keepIn K (.ref f_parting) = true)
    (a_alike : PySem.W.nsIn K mainGlobals "alike" = some (some (.ref f_alike)))
    (l_alike : K.lookup f_alike = some ⟨oc_alike, od_alike, .func (PySem.W.fnOf "alike" "alike" (defArgs s_alike) (defBody s_alike) (defScope s_alike) .none kV_alike dc_alike pm_alike an_alike cd_alike ct_alike), sl_alike⟩)
    (c_alike : PySem.W.codeIn K cd_alike "alike" = true)
    (k_alike : PySem.W.keepIn K (.ref f_alike) = true)
    (a_meeting : PySem.W.nsIn K mainGlobals "meeting" = some (some (.ref f_meeting)))
    (l_meeting : K.lookup f_meeting = some ⟨oc_meeting, od_meeting, .func (PySem.W.fnOf "meeting" "meeting" (defArgs s_meeting) (defBody s_meeting) (defScope s_meeting) .none kV_meeting dc_meeting pm_meeting an_meeting cd_meeting ct_meeting), sl_meeting⟩)
    (c_meeting : PySem.W.codeIn K cd_meeting "meeting" = true)
    (k_meeting : PySem.W.keepIn K (.ref f_meeting) = true)
    (a_needless : PySem.W.nsIn K mainGlobals "needless" = some (some (.ref f_needless)))
    (l_needless : K.lookup f_needless = some ⟨oc_needless, od_needless, .func (PySem.W.fnOf "needless" "needless" (defArgs s_needless) (defBody s_needless) (defScope s_needless) .none kV_needless dc_needless pm_needless an_needless cd_needless ct_needless), sl_needless⟩)
    (c_needless : PySem.W.codeIn K cd_needless "needless" = true)
    (k_needless : PySem.W.keepIn K (.ref f_needless) = true)
    (a_is_from : PySem.W.nsIn K mainGlobals "is_from" = some (some (.ref f_is_from)))
    (l_is_from : K.lookup f_is_from = some ⟨oc_is_from, od_is_from, .func (PySem.W.fnOf "is_from" "is_from" (defArgs s_is_from) (defBody s_is_from) (defScope s_is_from) .none kV_is_from dc_is_from pm_is_from an_is_from cd_is_from ct_is_from), sl_is_from⟩)
    (c_is_from : PySem.W.codeIn K cd_is_from "is_from" = true)
    (k_is_from : PySem.W.keepIn K (.ref f_is_from) = true)
    (a_need_day : PySem.W.nsIn K mainGlobals "need_day" = some (some (.ref f_need_day)))
    (l_need_day : K.lookup f_need_day = some ⟨oc_need_day, od_need_day, .func (PySem.W.fnOf "need_day" "need_day" (defArgs s_need_day) (defBody s_need_day) (defScope s_need_day) .none kV_need_day dc_need_day pm_need_day an_need_day cd_need_day ct_need_day), sl_need_day⟩)
    (c_need_day : PySem.W.codeIn K cd_need_day "need_day" = true)
    (k_need_day : PySem.W.keepIn K (.ref f_need_day) = true)
    (a_is_day : PySem.W.nsIn K mainGlobals "is_day" = some (some (.ref f_is_day)))
    (l_is_day : K.lookup f_is_day = some ⟨oc_is_day, od_is_day, .func (PySem.W.fnOf "is_day" "is_day" (defArgs s_is_day) (defBody s_is_day) (defScope s_is_day) .none kV_is_day dc_is_day pm_is_day an_is_day cd_is_day ct_is_day), sl_is_day⟩)
    (c_is_day : PySem.W.codeIn K cd_is_day "is_day" = true)
    (k_is_day : PySem.W.keepIn K (.ref f_is_day) = true)
    (a_nth : PySem.W.nsIn K mainGlobals "nth" = some (some (.ref f_nth)))
    (l_nth : K.lookup f_nth = some ⟨oc_nth, od_nth, .func (PySem.W.fnOf "nth" "nth" (defArgs s_nth) (defBody s_nth) (defScope s_nth) .none kV_nth dc_nth pm_nth an_nth cd_nth ct_nth), sl_nth⟩)
    (c_nth : PySem.W.codeIn K cd_nth "nth" = true)
    (k_nth : PySem.W.keepIn K (.ref f_nth) = true)
    (a_count : PySem.W.nsIn K mainGlobals "count" = some (some (.ref f_count)))
    (l_count : K.lookup f_count = some ⟨oc_count, od_count, .func (PySem.W.fnOf "count" "count" (defArgs s_count) (defBody s_count) (defScope s_count) .none kV_count dc_count pm_count an_count cd_count ct_count), sl_count⟩)
    (c_count : PySem.W.codeIn K cd_count "count" = true)
    (k_count : PySem.W.keepIn K (.ref f_count) = true)
    (a_l_random : PySem.W.nsIn K mainGlobals "_law_random" = some (some (.ref f_l_random)))
    (l_l_random : K.lookup f_l_random = some ⟨oc_l_random, od_l_random, .func (PySem.W.fnOf "_law_random" "_law_random" (defArgs s_l_random) (defBody s_l_random) (defScope s_l_random) .none kV_l_random dc_l_random pm_l_random an_l_random cd_l_random ct_l_random), sl_l_random⟩)
    (c_l_random : PySem.W.codeIn K cd_l_random "_law_random" = true)
    (k_l_random : PySem.W.keepIn K (.ref f_l_random) = true)
    (a_l_below : PySem.W.nsIn K mainGlobals "_law_below" = some (some (.ref f_l_below)))
    (l_l_below : K.lookup f_l_below = some ⟨oc_l_below, od_l_below, .func (PySem.W.fnOf "_law_below" "_law_below" (defArgs s_l_below) (defBody s_l_below) (defScope s_l_below) .none kV_l_below dc_l_below pm_l_below an_l_below cd_l_below ct_l_below), sl_l_below⟩)
    (c_l_below : PySem.W.codeIn K cd_l_below "_law_below" = true)
    (k_l_below : PySem.W.keepIn K (.ref f_l_below) = true)
    (a_l_pick : PySem.W.nsIn K mainGlobals "_law_pick" = some (some (.ref f_l_pick)))
    (l_l_pick : K.lookup f_l_pick = some ⟨oc_l_pick, od_l_pick, .func (PySem.W.fnOf "_law_pick" "_law_pick" (defArgs s_l_pick) (defBody s_l_pick) (defScope s_l_pick) .none kV_l_pick dc_l_pick pm_l_pick an_l_pick cd_l_pick ct_l_pick), sl_l_pick⟩)
    (c_l_pick : PySem.W.codeIn K cd_l_pick "_law_pick" = true)
    (k_l_pick : PySem.W.keepIn K (.ref f_l_pick) = true)
    (a_l_leaf : PySem.W.nsIn K mainGlobals "_law_leaf" = some (some (.ref f_l_leaf)))
    (l_l_leaf : K.lookup f_l_leaf = some ⟨oc_l_leaf, od_l_leaf, .func (PySem.W.fnOf "_law_leaf" "_law_leaf" (defArgs s_l_leaf) (defBody s_l_leaf) (defScope s_l_leaf) .none kV_l_leaf dc_l_leaf pm_l_leaf an_l_leaf cd_l_leaf ct_l_leaf), sl_l_leaf⟩)
    (c_l_leaf : PySem.W.codeIn K cd_l_leaf "_law_leaf" = true)
    (k_l_leaf : PySem.W.keepIn K (.ref f_l_leaf) = true)
    (a_l_rule : PySem.W.nsIn K mainGlobals "_law_rule" = some (some (.ref f_l_rule)))
    (l_l_rule : K.lookup f_l_rule = some ⟨oc_l_rule, od_l_rule, .func (PySem.W.fnOf "_law_rule" "_law_rule" (defArgs s_l_rule) (defBody s_l_rule) (defScope s_l_rule) .none kV_l_rule dc_l_rule pm_l_rule an_l_rule cd_l_rule ct_l_rule), sl_l_rule⟩)
    (c_l_rule : PySem.W.codeIn K cd_l_rule "_law_rule" = true)
    (k_l_rule : PySem.W.keepIn K (.ref f_l_rule) = true)
    (a_l_rows : PySem.W.nsIn K mainGlobals "_law_rows" = some (some (.ref f_l_rows)))
    (l_l_rows : K.lookup f_l_rows = some ⟨oc_l_rows, od_l_rows, .func (PySem.W.fnOf "_law_rows" "_law_rows" (defArgs s_l_rows) (defBody s_l_rows) (defScope s_l_rows) .none kV_l_rows dc_l_rows pm_l_rows an_l_rows cd_l_rows ct_l_rows), sl_l_rows⟩)
    (c_l_rows : PySem.W.codeIn K cd_l_rows "_law_rows" = true)
    (k_l_rows : PySem.W.keepIn K (.ref f_l_rows) = true)
    (a_l_made : PySem.W.nsIn K mainGlobals "_law_made" = some (some (.ref f_l_made)))
    (l_l_made : K.lookup f_l_made = some ⟨oc_l_made, od_l_made, .func (PySem.W.fnOf "_law_made" "_law_made" (defArgs s_l_made) (defBody s_l_made) (defScope s_l_made) .none kV_l_made dc_l_made pm_l_made an_l_made cd_l_made ct_l_made), sl_l_made⟩)
    (c_l_made : PySem.W.codeIn K cd_l_made "_law_made" = true)
    (k_l_made : PySem.W.keepIn K (.ref f_l_made) = true)
    (a_l_bys : PySem.W.nsIn K mainGlobals "_law_bys" = some (some (.ref f_l_bys)))
    (l_l_bys : K.lookup f_l_bys = some ⟨oc_l_bys, od_l_bys, .func (PySem.W.fnOf "_law_bys" "_law_bys" (defArgs s_l_bys) (defBody s_l_bys) (defScope s_l_bys) .none kV_l_bys dc_l_bys pm_l_bys an_l_bys cd_l_bys ct_l_bys), sl_l_bys⟩)
    (c_l_bys : PySem.W.codeIn K cd_l_bys "_law_bys" = true)
    (k_l_bys : PySem.W.keepIn K (.ref f_l_bys) = true)
    (a_l_days : PySem.W.nsIn K mainGlobals "_law_days" = some (some (.ref f_l_days)))
    (l_l_days : K.lookup f_l_days = some ⟨oc_l_days, od_l_days, .func (PySem.W.fnOf "_law_days" "_law_days" (defArgs s_l_days) (defBody s_l_days) (defScope s_l_days) .none kV_l_days dc_l_days pm_l_days an_l_days cd_l_days ct_l_days), sl_l_days⟩)
    (c_l_days : PySem.W.codeIn K cd_l_days "_law_days" = true)
    (k_l_days : PySem.W.keepIn K (.ref f_l_days) = true)
    (a_l_all : PySem.W.nsIn K mainGlobals "_law_all" = some (some (.ref f_l_all)))
    (l_l_all : K.lookup f_l_all = some ⟨oc_l_all, od_l_all, .func (PySem.W.fnOf "_law_all" "_law_all" (defArgs s_l_all) (defBody s_l_all) (defScope s_l_all) .none kV_l_all dc_l_all pm_l_all an_l_all cd_l_all ct_l_all), sl_l_all⟩)
    (c_l_all : PySem.W.codeIn K cd_l_all "_law_all" = true)
    (k_l_all : PySem.W.keepIn K (.ref f_l_all) = true)
    (a_l_near : PySem.W.nsIn K mainGlobals "_law_near" = some (some (.ref f_l_near)))
    (l_l_near : K.lookup f_l_near = some ⟨oc_l_near, od_l_near, .func (PySem.W.fnOf "_law_near" "_law_near" (defArgs s_l_near) (defBody s_l_near) (defScope s_l_near) .none kV_l_near dc_l_near pm_l_near an_l_near cd_l_near ct_l_near), sl_l_near⟩)
    (c_l_near : PySem.W.codeIn K cd_l_near "_law_near" = true)
    (k_l_near : PySem.W.keepIn K (.ref f_l_near) = true)
    (a_l_one : PySem.W.nsIn K mainGlobals "_law_one" = some (some (.ref f_l_one)))
    (l_l_one : K.lookup f_l_one = some ⟨oc_l_one, od_l_one, .func (PySem.W.fnOf "_law_one" "_law_one" (defArgs s_l_one) (defBody s_l_one) (defScope s_l_one) .none kV_l_one dc_l_one pm_l_one an_l_one cd_l_one ct_l_one), sl_l_one⟩)
    (c_l_one : PySem.W.codeIn K cd_l_one "_law_one" = true)
    (k_l_one : PySem.W.keepIn K (.ref f_l_one) = true)
    (a_law : PySem.W.nsIn K mainGlobals "law" = some (some (.ref f_law)))
    (l_law : K.lookup f_law = some ⟨oc_law, od_law, .func (PySem.W.fnOf "law" "law" (defArgs s_law) (defBody s_law) (defScope s_law) .none kV_law dc_law pm_law an_law cd_law ct_law), sl_law⟩)
    (c_law : PySem.W.codeIn K cd_law "law" = true)
    (k_law : PySem.W.keepIn K (.ref f_law) = true)
    (ha : PySem.W.findIn K (.ref C_Feast) "__class__" = some (some (.builtin "object.__class__")))
    (hn : PySem.W.specialIn K (.builtin "object.__class__") "__get__" = some (some (.builtin "getset_descriptor.__get__")))
    (htk : PySem.W.takesIn K (.builtin "object.__class__") = some true)
    (hm : PySem.W.mroIn K C_Feast (.type "object") = some true)
    (hsf : PySem.W.selfFirst K C_Feast = true)
    : ∃ fd : FuncData, (∀ (s : Shared) (v : Value), BindsTo s fd ⟨[v], []⟩ [("_law_script", v)]) ∧ ∀ base : Heap, K.In base → base.Ns mainGlobals mg → FnOk l.prog w K mg base CX0 13 fa fd ["_law_script"] (spLaw K) := by
  have e := hfa.symm.trans (PySem.W.mg_of X G a_law)
  cases e
  have T : Txt w K mg C_BadRule C_BadRules C_BadLand C_BadDay C_BadNumber C_Feast C_Calendar := by
    constructor
    · exact mg_none_of X G z_len
    · exact mg_none_of X G z_abs
    · exact mg_none_of X G z_sum
    · exact mg_none_of X G z_max
    · exact mg_none_of X G z_isinstance
    · exact mg_none_of X G z_sorted
    · exact mg_none_of X G z_all
    · exact mg_none_of X G z_int
    · exact mg_none_of X G z_str
    · exact mg_none_of X G z_list
    · exact mg_none_of X G z_tuple
    · exact mg_none_of X G z_dict
    · exact mg_none_of X G z_bool
    · exact mg_none_of X G z_range
    · exact mg_none_of X G z_enumerate
    · exact ⟨_, mg_of X G g_BYS, fun H => .inr ⟨_, _, _, l_u_BYS, rfl, rfl, by show 4 ≤ sizeLine; decide, (.cons ⟨t_u_BYS_0, rfl⟩ (.cons ⟨t_u_BYS_1, rfl⟩ (.cons ⟨t_u_BYS_2, rfl⟩ (.cons ⟨t_u_BYS_3, rfl⟩ .nil))))⟩⟩
    · exact ⟨_, _, _, mg_of X G g_ENDS, ⟨⟨_, _, l_ENDS, e_ENDS, w_ENDS⟩, x_weekday, x_first, x_monthday, no5 x_behind x_both x_either x_without x_week, fun H => .inr ⟨_, _, _, l_u_W, rfl, rfl, by show 4 ≤ sizeLine; decide, (.cons ⟨t_u_W_0, rfl⟩ (.cons ⟨t_u_W_1, rfl⟩ (.cons ⟨t_u_W_2, rfl⟩ (.cons ⟨t_u_W_3, rfl⟩ .nil))))⟩, fun H => .inr ⟨_, _, _, l_u_M, rfl, rfl, by show 6 ≤ sizeLine; decide, (.cons ⟨t_u_M_0, rfl⟩ (.cons ⟨t_u_M_1, rfl⟩ (.cons ⟨t_u_M_2, rfl⟩ (.cons ⟨t_u_M_3, rfl⟩ (.cons ⟨t_u_M_4, rfl⟩ (.cons ⟨t_u_M_5, rfl⟩ .nil))))))⟩⟩⟩
    · exact ⟨_, mg_of X G g_PAIRS, fun H => .inr ⟨_, _, _, l_u_PAIRS, rfl, rfl, by show 3 ≤ sizeLine; decide, (.cons ⟨t_u_PAIRS_0, rfl⟩ (.cons ⟨t_u_PAIRS_1, rfl⟩ (.cons ⟨t_u_PAIRS_2, rfl⟩ .nil)))⟩⟩
    · exact ⟨_, mg_of X G g_MOST_PARTS, t_MOST_PARTS, rfl⟩
    · exact ⟨_, mg_of X G g_MOST_BYS, t_MOST_BYS, rfl⟩
    · exact ⟨_, mg_of X G g_MOST_RULES, t_MOST_RULES, rfl⟩
    · exact ⟨_, mg_of X G g_LEAST_REACH, t_LEAST_REACH, rfl⟩
    · exact ⟨_, mg_of X G g_MOST_ROUND, t_MOST_ROUND, rfl⟩
    · exact ⟨_, mg_of X G g_WEEKS, t_WEEKS, rfl⟩
    · exact ⟨_, mg_of X G g_MONTHS, t_MONTHS, rfl⟩
    · exact ⟨_, mg_of X G g_GREATEST, t_GREATEST, congrArg (fun z => Value.int z t_GREATEST) (by decide +kernel)⟩
    · exact mg_of X G a_BadRule
    · exact ⟨x_BadRule, k_BadRule, b_BadRule, t_BadRule, i_BadRule, s_BadRule⟩
    · exact mg_of X G a_BadRules
    · exact mg_of X G a_BadLand
    · exact ⟨x_BadLand, k_BadLand, b_BadLand, t_BadLand, i_BadLand, s_BadLand⟩
    · exact mg_of X G a_BadDay
    · exact ⟨x_BadDay, k_BadDay, b_BadDay, t_BadDay, i_BadDay, s_BadDay⟩
    · exact mg_of X G a_BadNumber
    · exact ⟨x_BadNumber, k_BadNumber, b_BadNumber, t_BadNumber, i_BadNumber, s_BadNumber⟩
    · exact mg_of X G a_Feast
    · exact mg_of X G a_Calendar
    · exact ⟨⟨_, _, mg_of X G a_is_in, fun_mk (st := s_is_in) l_is_in c_is_in k_is_in, (fun_mk (st := s_is_in) l_is_in c_is_in k_is_in).binds fun _ _ _ _ _ _ us hl => match us, hl with | [_, _], _ => rfl⟩⟩
    · exact ⟨⟨_, _, mg_of X G a_within, fun_mk (st := s_within) l_within c_within k_within, (fun_mk (st := s_within) l_within c_within k_within).binds fun _ _ _ _ _ _ us hl => match us, hl with | [_], _ => rfl⟩⟩
    · exact ⟨⟨_, _, mg_of X G a_size_of, fun_mk (st := s_size_of) l_size_of c_size_of k_size_of, (fun_mk (st := s_size_of) l_size_of c_size_of k_size_of).binds fun _ _ _ _ _ _ us hl => match us, hl with | [_, _], _ => rfl⟩⟩
    · exact ⟨⟨_, _, mg_of X G a_is_rule, fun_mk (st := s_is_rule) l_is_rule c_is_rule k_is_rule, (fun_mk (st := s_is_rule) l_is_rule c_is_rule k_is_rule).binds fun _ _ _ _ _ _ us hl => match us, hl with | [_], _ => rfl⟩⟩
    · exact ⟨⟨_, _, ⟨mk_Feast, a_Feast_init, i_Feast_init, kc_Feast⟩, fun_mk (st := s_Feast_init) l_Feast_init c_Feast_init k_Feast_init, (fun_mk (st := s_Feast_init) l_Feast_init c_Feast_init k_Feast_init).binds fun _ _ _ _ _ _ us hl => match us, hl with | [_, _], _ => rfl⟩⟩
    · exact ⟨⟨_, _, ⟨a_Feast_eq, i_Feast_eq, k_Feast_eq⟩, fun_mk (st := s_Feast_eq) l_Feast_eq c_Feast_eq k_Feast_eq, (fun_mk (st := s_Feast_eq) l_Feast_eq c_Feast_eq k_Feast_eq).binds fun _ _ _ _ _ _ us hl => match us, hl with | [_, _], _ => rfl⟩⟩
    · exact ⟨⟨_, _, ⟨a_Feast_and, i_Feast_and, k_Feast_and⟩, fun_mk (st := s_Feast_and) l_Feast_and c_Feast_and k_Feast_and, (fun_mk (st := s_Feast_and) l_Feast_and c_Feast_and k_Feast_and).binds fun _ _ _ _ _ _ us hl => match us, hl with | [_, _], _ => rfl⟩⟩
    · exact ⟨⟨_, _, ⟨a_Feast_or, i_Feast_or, k_Feast_or⟩, fun_mk (st := s_Feast_or) l_Feast_or c_Feast_or k_Feast_or, (fun_mk (st := s_Feast_or) l_Feast_or c_Feast_or k_Feast_or).binds fun _ _ _ _ _ _ us hl => match us, hl with | [_, _], _ => rfl⟩⟩
    · exact ⟨⟨_, _, ⟨a_Feast_sub, i_Feast_sub, k_Feast_sub⟩, fun_mk (st := s_Feast_sub) l_Feast_sub c_Feast_sub k_Feast_sub, (fun_mk (st := s_Feast_sub) l_Feast_sub c_Feast_sub k_Feast_sub).binds fun _ _ _ _ _ _ us hl => match us, hl with | [_, _], _ => rfl⟩⟩
    · exact ⟨⟨_, _, ⟨a_Feast_moved, i_Feast_moved, k_Feast_moved⟩, fun_mk (st := s_Feast_moved) l_Feast_moved c_Feast_moved k_Feast_moved, (fun_mk (st := s_Feast_moved) l_Feast_moved c_Feast_moved k_Feast_moved).binds fun _ _ _ _ _ _ us hl => match us, hl with | [_, _], _ => rfl⟩⟩
    · exact ⟨⟨_, _, mg_of X G a_is_pair, fun_mk (st := s_is_pair) l_is_pair c_is_pair k_is_pair, (fun_mk (st := s_is_pair) l_is_pair c_is_pair k_is_pair).binds fun _ _ _ _ _ _ us hl => match us, hl with | [_], _ => rfl⟩⟩
    · exact ⟨⟨_, _, ⟨mk_Calendar, a_Calendar_init, i_Calendar_init, kc_Calendar⟩, fun_mk (st := s_Calendar_init) l_Calendar_init c_Calendar_init k_Calendar_init, (fun_mk (st := s_Calendar_init) l_Calendar_init c_Calendar_init k_Calendar_init).binds fun _ _ _ _ _ _ us hl => match us, hl with | [_, _], _ => rfl⟩⟩
    · exact ⟨⟨_, _, ⟨a_Calendar_eq, i_Calendar_eq, k_Calendar_eq⟩, fun_mk (st := s_Calendar_eq) l_Calendar_eq c_Calendar_eq k_Calendar_eq, (fun_mk (st := s_Calendar_eq) l_Calendar_eq c_Calendar_eq k_Calendar_eq).binds fun _ _ _ _ _ _ us hl => match us, hl with | [_, _], _ => rfl⟩⟩
    · exact ⟨⟨_, _, mg_of X G a_divisor, fun_mk (st := s_divisor) l_divisor c_divisor k_divisor, (fun_mk (st := s_divisor) l_divisor c_divisor k_divisor).binds fun _ _ _ _ _ _ us hl => match us, hl with | [_, _], _ => rfl⟩⟩
    · exact ⟨⟨_, _, mg_of X G a_is_land, fun_mk (st := s_is_land) l_is_land c_is_land k_is_land, (fun_mk (st := s_is_land) l_is_land c_is_land k_is_land).binds fun _ _ _ _ _ _ us hl => match us, hl with | [_], _ => rfl⟩⟩
    · exact ⟨⟨_, _, mg_of X G a_need_land, fun_mk (st := s_need_land) l_need_land c_need_land k_need_land, (fun_mk (st := s_need_land) l_need_land c_need_land k_need_land).binds fun _ _ _ _ _ _ us hl => match us, hl with | [_], _ => rfl⟩⟩
    · exact ⟨⟨_, _, mg_of X G a_every, fun_mk (st := s_every) l_every c_every k_every, (fun_mk (st := s_every) l_every c_every k_every).binds fun _ _ _ _ _ _ us hl => match us, hl with | [_, _, _], _ => rfl⟩⟩
    · exact ⟨⟨_, _, mg_of X G a_turned, fun_mk (st := s_turned) l_turned c_turned k_turned, (fun_mk (st := s_turned) l_turned c_turned k_turned).binds fun _ _ _ _ _ _ us hl => match us, hl with | [_, _, _], _ => rfl⟩⟩
    · exact ⟨⟨_, _, mg_of X G a_figure_of, fun_mk (st := s_figure_of) l_figure_of c_figure_of k_figure_of, (fun_mk (st := s_figure_of) l_figure_of c_figure_of k_figure_of).binds fun _ _ _ _ _ _ us hl => match us, hl with | [_, _], _ => rfl⟩⟩
    · exact ⟨⟨_, _, mg_of X G a_days_of, fun_mk (st := s_days_of) l_days_of c_days_of k_days_of, (fun_mk (st := s_days_of) l_days_of c_days_of k_days_of).binds fun _ _ _ _ _ _ us hl => match us, hl with | [_, _], _ => rfl⟩⟩
    · exact ⟨⟨_, _, mg_of X G a_listed, fun_mk (st := s_listed) l_listed c_listed k_listed, (fun_mk (st := s_listed) l_listed c_listed k_listed).binds fun _ _ _ _ _ _ us hl => match us, hl with | [_], _ => rfl⟩⟩
    · exact ⟨⟨_, _, mg_of X G a_lands_to, fun_mk (st := s_lands_to) l_lands_to c_lands_to k_lands_to, (fun_mk (st := s_lands_to) l_lands_to c_lands_to k_lands_to).binds fun _ _ _ _ _ _ us hl => match us, hl with | [_, _], _ => rfl⟩⟩
    · exact ⟨⟨_, _, mg_of X G a_enough, fun_mk (st := s_enough) l_enough c_enough k_enough, (fun_mk (st := s_enough) l_enough c_enough k_enough).binds fun _ _ _ _ _ _ us hl => match us, hl with | [_], _ => rfl⟩⟩
    · exact ⟨⟨_, _, mg_of X G a_first_unlike, fun_mk (st := s_first_unlike) l_first_unlike c_first_unlike k_first_unlike, (fun_mk (st := s_first_unlike) l_first_unlike c_first_unlike k_first_unlike).binds fun _ _ _ _ _ _ us hl => match us, hl with | [_, _, _], _ => rfl⟩⟩
    · exact ⟨⟨_, _, mg_of X G a_parting, fun_mk (st := s_parting) l_parting c_parting k_parting, (fun_mk (st := s_parting) l_parting c_parting k_parting).binds fun _ _ _ _ _ _ us hl => match us, hl with | [_, _], _ => rfl⟩⟩
    · exact ⟨⟨_, _, mg_of X G a_alike, fun_mk (st := s_alike) l_alike c_alike k_alike, (fun_mk (st := s_alike) l_alike c_alike k_alike).binds fun _ _ _ _ _ _ us hl => match us, hl with | [_, _], _ => rfl⟩⟩
    · exact ⟨⟨_, _, mg_of X G a_meeting, fun_mk (st := s_meeting) l_meeting c_meeting k_meeting, (fun_mk (st := s_meeting) l_meeting c_meeting k_meeting).binds fun _ _ _ _ _ _ us hl => match us, hl with | [_, _], _ => rfl⟩⟩
    · exact ⟨⟨_, _, mg_of X G a_needless, fun_mk (st := s_needless) l_needless c_needless k_needless, (fun_mk (st := s_needless) l_needless c_needless k_needless).binds fun _ _ _ _ _ _ us hl => match us, hl with | [_], _ => rfl⟩⟩
    · exact ⟨⟨_, _, mg_of X G a_is_from, fun_mk (st := s_is_from) l_is_from c_is_from k_is_from, (fun_mk (st := s_is_from) l_is_from c_is_from k_is_from).binds fun _ _ _ _ _ _ us hl => match us, hl with | [_, _], _ => rfl⟩⟩
    · exact ⟨⟨_, _, mg_of X G a_need_day, fun_mk (st := s_need_day) l_need_day c_need_day k_need_day, (fun_mk (st := s_need_day) l_need_day c_need_day k_need_day).binds fun _ _ _ _ _ _ us hl => match us, hl with | [_], _ => rfl⟩⟩
    · exact ⟨⟨_, _, mg_of X G a_is_day, fun_mk (st := s_is_day) l_is_day c_is_day k_is_day, (fun_mk (st := s_is_day) l_is_day c_is_day k_is_day).binds fun _ _ _ _ _ _ us hl => match us, hl with | [_, _, _], _ => rfl⟩⟩
    · exact ⟨⟨_, _, mg_of X G a_nth, fun_mk (st := s_nth) l_nth c_nth k_nth, (fun_mk (st := s_nth) l_nth c_nth k_nth).binds fun _ _ _ _ _ _ us hl => match us, hl with | [_, _, _], _ => rfl⟩⟩
    · exact ⟨⟨_, _, mg_of X G a_count, fun_mk (st := s_count) l_count c_count k_count, (fun_mk (st := s_count) l_count c_count k_count).binds fun _ _ _ _ _ _ us hl => match us, hl with | [_, _], _ => rfl⟩⟩
    · exact ⟨⟨_, _, mg_of X G a_l_random, fun_mk (st := s_l_random) l_l_random c_l_random k_l_random, (fun_mk (st := s_l_random) l_l_random c_l_random k_l_random).binds fun _ _ _ _ _ _ us hl => match us, hl with | [_, _], _ => rfl⟩⟩
    · exact ⟨⟨_, _, mg_of X G a_l_below, fun_mk (st := s_l_below) l_l_below c_l_below k_l_below, (fun_mk (st := s_l_below) l_l_below c_l_below k_l_below).binds fun _ _ _ _ _ _ us hl => match us, hl with | [_, _], _ => rfl⟩⟩
    · exact ⟨⟨_, _, mg_of X G a_l_pick, fun_mk (st := s_l_pick) l_l_pick c_l_pick k_l_pick, (fun_mk (st := s_l_pick) l_l_pick c_l_pick k_l_pick).binds fun _ _ _ _ _ _ us hl => match us, hl with | [_, _], _ => rfl⟩⟩
    · exact ⟨⟨_, _, mg_of X G a_l_leaf, fun_mk (st := s_l_leaf) l_l_leaf c_l_leaf k_l_leaf, (fun_mk (st := s_l_leaf) l_l_leaf c_l_leaf k_l_leaf).binds fun _ _ _ _ _ _ us hl => match us, hl with | [_], _ => rfl⟩⟩
    · exact ⟨⟨_, _, mg_of X G a_l_rule, fun_mk (st := s_l_rule) l_l_rule c_l_rule k_l_rule, (fun_mk (st := s_l_rule) l_l_rule c_l_rule k_l_rule).binds fun _ _ _ _ _ _ us hl => match us, hl with | [_, _], _ => rfl⟩⟩
    · exact ⟨⟨_, _, mg_of X G a_l_rows, fun_mk (st := s_l_rows) l_l_rows c_l_rows k_l_rows, (fun_mk (st := s_l_rows) l_l_rows c_l_rows k_l_rows).binds fun _ _ _ _ _ _ us hl => match us, hl with | [_, _, _], _ => rfl⟩⟩
    · exact ⟨⟨_, _, mg_of X G a_l_made, fun_mk (st := s_l_made) l_l_made c_l_made k_l_made, (fun_mk (st := s_l_made) l_l_made c_l_made k_l_made).binds fun _ _ _ _ _ _ us hl => match us, hl with | [_], _ => rfl⟩⟩
    · exact ⟨⟨_, _, mg_of X G a_l_bys, fun_mk (st := s_l_bys) l_l_bys c_l_bys k_l_bys, (fun_mk (st := s_l_bys) l_l_bys c_l_bys k_l_bys).binds fun _ _ _ _ _ _ us hl => match us, hl with | [_], _ => rfl⟩⟩
    · exact ⟨⟨_, _, mg_of X G a_l_days, fun_mk (st := s_l_days) l_l_days c_l_days k_l_days, (fun_mk (st := s_l_days) l_l_days c_l_days k_l_days).binds fun _ _ _ _ _ _ us hl => match us, hl with | [_, _], _ => rfl⟩⟩
    · exact ⟨⟨_, _, mg_of X G a_l_all, fun_mk (st := s_l_all) l_l_all c_l_all k_l_all, (fun_mk (st := s_l_all) l_l_all c_l_all k_l_all).binds fun _ _ _ _ _ _ us hl => match us, hl with | [_, _], _ => rfl⟩⟩
    · exact ⟨⟨_, _, mg_of X G a_l_near, fun_mk (st := s_l_near) l_l_near c_l_near k_l_near, (fun_mk (st := s_l_near) l_l_near c_l_near k_l_near).binds fun _ _ _ _ _ _ us hl => match us, hl with | [_, _], _ => rfl⟩⟩
    · exact ⟨⟨_, _, mg_of X G a_l_one, fun_mk (st := s_l_one) l_l_one c_l_one k_l_one, (fun_mk (st := s_l_one) l_l_one c_l_one k_l_one).binds fun _ _ _ _ _ _ us hl => match us, hl with | [_], _ => rfl⟩⟩
    · exact ⟨⟨_, _, mg_of X G a_law, fun_mk (st := s_law) l_law c_law k_law, (fun_mk (st := s_law) l_law c_law k_law).binds fun _ _ _ _ _ _ us hl => match us, hl with | [_], _ => rfl⟩⟩
  have K_Feast : Cls1 K C_Feast ["told", "bys"] := ⟨⟨pg_Feast, hd_Feast, po_Feast, sa_Feast⟩, fun x hx => by
    simp only [List.mem_cons, List.not_mem_nil, or_false] at hx
    rcases hx with rfl | rfl <;> assumption⟩
  have K_Calendar : Cls1 K C_Calendar ["rows", "near"] := ⟨⟨pg_Calendar, hd_Calendar, po_Calendar, sa_Calendar⟩, fun x hx => by
    simp only [List.mem_cons, List.not_mem_nil, or_false] at hx
    rcases hx with rfl | rfl <;> assumption⟩
  exact ⟨_, fun s v => .of_eq rfl, fun base _ _ => ok_law (fun_mk (st := s_law) l_law c_law k_law) T K_Feast ⟨K_Feast.cl, ha, hn, htk, hm⟩ K_Calendar hsf⟩
theorem walk {l : PySem.W.OpenLaw} {q : Program} {loose : List Str} {XP : (Str → Option Value) → Heap → Prop} {YP : World → Heap → Prop} {d : DefRec} {K : Params → PySem.W.Frag} (hn : l.most = some 63) (hdf : d.params.defaults = [])
    (hY : ∀ (w : World) (h : Heap), YP w h → (K w.params).In h)
    (F : ∀ (w : World) (mg : Str → Option Value) (fa : Addr) (h : Heap), (K w.params).In h → h.Ns mainGlobals mg → mg d.name = some (.ref fa) →
      ∃ fd : FuncData, (∀ (s : Shared) (u : Value), BindsTo s fd ⟨[u], []⟩ [("_law_script", u)]) ∧ ∀ base : Heap, (K w.params).In base → base.Ns mainGlobals mg → FnOk l.prog w (K w.params) mg base CX0 13 fa fd ["_law_script"] (spLaw (K w.params))) :
    PySem.W.WalkO q loose XP YP l.row.toRowW d [] (fun f vs => PySem.call f vs) :=
  L2.walk_of (n := 63) (k := 13) (x := "_law_script") (CX := fun _ => CX0) (sp := fun w => spLaw (K w.params)) hn (by decide) hdf ⟨rfl, by decide, by decide⟩ hY F (fun _ _ a ns hl _ hS => ⟨a, ns, rfl, hS, hl, fun _ => rfl⟩) fun _ _ _ _ _ z => z
end WF
open PySem PySem.W PyProof.Rows in
set_option maxRecDepth 100000 in
set_option maxHeartbeats 0 in
theorem PySem.Challenge.cw_weekfeasts_k13_things_that_hold_holds : PySem.Challenge.rw_weekfeasts_k13_things_that_hold.Holds := by
  w_on; o_law; k_head; (case hw => w_witness2)
  k_fill
  refine WF.walk (l := PySem.Challenge.rw_weekfeasts_k13_things_that_hold) rfl rfl (fun w h Y => PySem.W.kIn_of Y) ?F
  case F =>
    intro w mg fa h KX G hmg
    refine' WF.all_mk KX G hmg ?z_len ?z_abs ?z_sum ?z_max ?z_isinstance ?z_sorted ?z_all ?z_int ?z_str ?z_list ?z_tuple ?z_dict ?z_bool ?z_range ?z_enumerate ?g_BYS ?l_u_BYS ?g_ENDS ?l_ENDS ?e_ENDS ?w_ENDS ?x_weekday ?x_first ?x_monthday ?x_behind ?x_both ?x_either ?x_without ?x_week ?l_u_W ?l_u_M ?g_PAIRS ?l_u_PAIRS ?g_MOST_PARTS ?g_MOST_BYS ?g_MOST_RULES ?g_LEAST_REACH ?g_MOST_ROUND ?g_WEEKS ?g_MONTHS ?g_GREATEST ?a_BadRule ?x_BadRule ?k_BadRule ?b_BadRule ?t_BadRule ?i_BadRule ?s_BadRule ?a_BadRules ?a_BadLand ?x_BadLand ?k_BadLand ?b_BadLand ?t_BadLand ?i_BadLand ?s_BadLand ?a_BadDay ?x_BadDay ?k_BadDay ?b_BadDay ?t_BadDay ?i_BadDay ?s_BadDay ?a_BadNumber ?x_BadNumber ?k_BadNumber ?b_BadNumber ?t_BadNumber ?i_BadNumber ?s_BadNumber ?a_Feast ?a_Calendar ?a_is_in ?l_is_in ?c_is_in ?k_is_in ?a_within ?l_within ?c_within ?k_within ?a_size_of ?l_size_of ?c_size_of ?k_size_of ?a_is_rule ?l_is_rule ?c_is_rule ?k_is_rule ?pg_Feast ?hd_Feast ?po_Feast ?sa_Feast ?mk_Feast ?kc_Feast ?n_Feast_told ?n_Feast_bys ?a_Feast_init ?i_Feast_init ?l_Feast_init ?c_Feast_init ?k_Feast_init ?a_Feast_eq ?i_Feast_eq ?l_Feast_eq ?c_Feast_eq ?k_Feast_eq ?a_Feast_and ?i_Feast_and ?l_Feast_and ?c_Feast_and ?k_Feast_and ?a_Feast_or ?i_Feast_or ?l_Feast_or ?c_Feast_or ?k_Feast_or ?a_Feast_sub ?i_Feast_sub ?l_Feast_sub ?c_Feast_sub ?k_Feast_sub ?a_Feast_moved ?i_Feast_moved ?l_Feast_moved ?c_Feast_moved ?k_Feast_moved ?a_is_pair ?l_is_pair ?c_is_pair ?k_is_pair ?pg_Calendar ?hd_Calendar ?po_Calendar ?sa_Calendar ?mk_Calendar ?kc_Calendar ?n_Calendar_rows ?n_Calendar_near ?a_Calendar_init ?i_Calendar_init ?l_Calendar_init ?c_Calendar_init ?k_Calendar_init ?a_Calendar_eq ?i_Calendar_eq ?l_Calendar_eq ?c_Calendar_eq ?k_Calendar_eq ?a_divisor ?l_divisor ?c_divisor ?k_divisor ?a_is_land ?l_is_land ?c_is_land ?k_is_land ?a_need_land ?l_need_land ?c_need_land ?k_need_land ?a_every ?l_every ?c_every ?k_every ?a_turned ?l_turned ?c_turned ?k_turned ?a_figure_of ?l_figure_of ?c_figure_of ?k_figure_of ?a_days_of ?l_days_of ?c_days_of ?k_days_of ?a_listed ?l_listed ?c_listed ?k_listed ?a_lands_to ?l_lands_to ?c_lands_to ?k_lands_to ?a_enough ?l_enough ?c_enough ?k_enough ?a_first_unlike ?l_first_unlike ?c_first_unlike ?k_first_unlike ?a_parting ?l_parting ?c_parting ?k_parting ?a_alike ?l_alike ?c_alike ?k_alike ?a_meeting ?l_meeting ?c_meeting ?k_meeting ?a_needless ?l_needless ?c_needless ?k_needless ?a_is_from ?l_is_from ?c_is_from ?k_is_from ?a_need_day ?l_need_day ?c_need_day ?k_need_day ?a_is_day ?l_is_day ?c_is_day ?k_is_day ?a_nth ?l_nth ?c_nth ?k_nth ?a_count ?l_count ?c_count ?k_count ?a_l_random ?l_l_random ?c_l_random ?k_l_random ?a_l_below ?l_l_below ?c_l_below ?k_l_below ?a_l_pick ?l_l_pick ?c_l_pick ?k_l_pick ?a_l_leaf ?l_l_leaf ?c_l_leaf ?k_l_leaf ?a_l_rule ?l_l_rule ?c_l_rule ?k_l_rule ?a_l_rows ?l_l_rows ?c_l_rows ?k_l_rows ?a_l_made ?l_l_made ?c_l_made ?k_l_made ?a_l_bys ?l_l_bys ?c_l_bys ?k_l_bys ?a_l_days ?l_l_days ?c_l_days ?k_l_days ?a_l_all ?l_l_all ?c_l_all ?k_l_all ?a_l_near ?l_l_near ?c_l_near ?k_l_near ?a_l_one ?l_l_one ?c_l_one ?k_l_one ?a_law ?l_law ?c_law ?k_law ?ha ?hn ?htk ?hm ?hsf
    (case z_len => k_is)
    (case z_abs => k_is)
    (case z_sum => k_is)
    (case z_max => k_is)
    (case z_isinstance => k_is)
    (case z_sorted => k_is)
    (case z_all => k_is)
    (case z_int => k_is)
    (case z_str => k_is)
    (case z_list => k_is)
    (case z_tuple => k_is)
    (case z_dict => k_is)
    (case z_bool => k_is)
    (case z_range => k_is)
    (case z_enumerate => k_is)
    (case g_BYS => k_is)
    (case l_u_BYS => k_is)
    (case g_ENDS => k_is)
    (case l_ENDS => k_is)
    (case e_ENDS => exact ⟨⟨_, _, rfl, rfl⟩, ⟨_, _, rfl, rfl⟩, ⟨_, _, rfl, rfl⟩, trivial⟩)
    (case w_ENDS => first | rfl | decide +kernel | k_is)
    (case x_weekday => k_is)
    (case x_first => k_is)
    (case x_monthday => k_is)
    (case x_behind => k_is)
    (case x_both => k_is)
    (case x_either => k_is)
    (case x_without => k_is)
    (case x_week => k_is)
    (case l_u_W => k_is)
    (case l_u_M => k_is)
    (case g_PAIRS => k_is)
    (case l_u_PAIRS => k_is)
    (case g_MOST_PARTS => k_is)
    (case g_MOST_BYS => k_is)
    (case g_MOST_RULES => k_is)
    (case g_LEAST_REACH => k_is)
    (case g_MOST_ROUND => k_is)
    (case g_WEEKS => k_is)
    (case g_MONTHS => k_is)
    (case g_GREATEST => k_is)
    (case a_BadRule => k_is)
    (case x_BadRule => k_exc)
    (case k_BadRule => k_is)
    (case b_BadRule => k_is)
    (case t_BadRule => k_is)
    (case i_BadRule => k_is)
    (case s_BadRule => first | rfl | k_is)
    (case a_BadRules => k_is)
    (case a_BadLand => k_is)
    (case x_BadLand => k_exc)
    (case k_BadLand => k_is)
    (case b_BadLand => k_is)
    (case t_BadLand => k_is)
    (case i_BadLand => k_is)
    (case s_BadLand => first | rfl | k_is)
    (case a_BadDay => k_is)
    (case x_BadDay => k_exc)
    (case k_BadDay => k_is)
    (case b_BadDay => k_is)
    (case t_BadDay => k_is)
    (case i_BadDay => k_is)
    (case s_BadDay => first | rfl | k_is)
    (case a_BadNumber => k_is)
    (case x_BadNumber => k_exc)
    (case k_BadNumber => k_is)
    (case b_BadNumber => k_is)
    (case t_BadNumber => k_is)
    (case i_BadNumber => k_is)
    (case s_BadNumber => first | rfl | k_is)
    (case a_Feast => k_is)
    (case a_Calendar => k_is)
    (case a_is_in => k_is)
    (case l_is_in => k_is)
    (case c_is_in => k_is)
    (case k_is_in => k_is)
    (case a_within => k_is)
    (case l_within => k_is)
    (case c_within => k_is)
    (case k_within => k_is)
    (case a_size_of => k_is)
    (case l_size_of => k_is)
    (case c_size_of => k_is)
    (case k_size_of => k_is)
    (case a_is_rule => k_is)
    (case l_is_rule => k_is)
    (case c_is_rule => k_is)
    (case k_is_rule => k_is)
    (case pg_Feast => k_is)
    (case hd_Feast => k_is)
    (case po_Feast => k_is)
    (case sa_Feast => k_is)
    (case mk_Feast => k_is)
    (case kc_Feast => k_is)
    (case n_Feast_told => k_is)
    (case n_Feast_bys => k_is)
    (case a_Feast_init => k_is)
    (case i_Feast_init => k_is)
    (case l_Feast_init => k_is)
    (case c_Feast_init => k_is)
    (case k_Feast_init => k_is)
    (case a_Feast_eq => k_is)
    (case i_Feast_eq => k_is)
    (case l_Feast_eq => k_is)
    (case c_Feast_eq => k_is)
    (case k_Feast_eq => k_is)
    (case a_Feast_and => k_is)
    (case i_Feast_and => k_is)
    (case l_Feast_and => k_is)
    (case c_Feast_and => k_is)
    (case k_Feast_and => k_is)
    (case a_Feast_or => k_is)
    (case i_Feast_or => k_is)
    (case l_Feast_or => k_is)
    (case c_Feast_or => k_is)
    (case k_Feast_or => k_is)
    (case a_Feast_sub => k_is)
    (case i_Feast_sub => k_is)
    (case l_Feast_sub => k_is)
    (case c_Feast_sub => k_is)
    (case k_Feast_sub => k_is)
    (case a_Feast_moved => k_is)
    (case i_Feast_moved => k_is)
    (case l_Feast_moved => k_is)
    (case c_Feast_moved => k_is)
    (case k_Feast_moved => k_is)
    (case a_is_pair => k_is)
    (case l_is_pair => k_is)
    (case c_is_pair => k_is)
    (case k_is_pair => k_is)
    (case pg_Calendar => k_is)
    (case hd_Calendar => k_is)
    (case po_Calendar => k_is)
    (case sa_Calendar => k_is)
    (case mk_Calendar => k_is)
    (case kc_Calendar => k_is)
    (case n_Calendar_rows => k_is)
    (case n_Calendar_near => k_is)
    (case a_Calendar_init => k_is)
    (case i_Calendar_init => k_is)
    (case l_Calendar_init => k_is)
    (case c_Calendar_init => k_is)
    (case k_Calendar_init => k_is)
    (case a_Calendar_eq => k_is)
    (case i_Calendar_eq => k_is)
    (case l_Calendar_eq => k_is)
    (case c_Calendar_eq => k_is)
    (case k_Calendar_eq => k_is)
    (case a_divisor => k_is)
    (case l_divisor => k_is)
    (case c_divisor => k_is)
    (case k_divisor => k_is)
    (case a_is_land => k_is)
    (case l_is_land => k_is)
    (case c_is_land => k_is)
    (case k_is_land => k_is)
    (case a_need_land => k_is)
    (case l_need_land => k_is)
    (case c_need_land => k_is)
    (case k_need_land => k_is)
    (case a_every => k_is)
    (case l_every => k_is)
    (case c_every => k_is)
    (case k_every => k_is)
    (case a_turned => k_is)
    (case l_turned => k_is)
    (case c_turned => k_is)
    (case k_turned => k_is)
    (case a_figure_of => k_is)
    (case l_figure_of => k_is)
    (case c_figure_of => k_is)
    (case k_figure_of => k_is)
    (case a_days_of => k_is)
    (case l_days_of => k_is)
    (case c_days_of => k_is)
    (case k_days_of => k_is)
    (case a_listed => k_is)
    (case l_listed => k_is)
    (case c_listed => k_is)
    (case k_listed => k_is)
    (case a_lands_to => k_is)
    (case l_lands_to => k_is)
    (case c_lands_to => k_is)
    (case k_lands_to => k_is)
    (case a_enough => k_is)
    (case l_enough => k_is)
    (case c_enough => k_is)
    (case k_enough => k_is)
    (case a_first_unlike => k_is)
    (case l_first_unlike => k_is)
    (case c_first_unlike => k_is)
    (case k_first_unlike => k_is)
    (case a_parting => k_is)
    (case l_parting => k_is)
    (case c_parting => k_is)
    (case k_parting => k_is)
    (case a_alike => k_is)
    (case l_alike => k_is)
    (case c_alike => k_is)
    (case k_alike => k_is)
    (case a_meeting => k_is)
    (case l_meeting => k_is)
    (case c_meeting => k_is)
    (case k_meeting => k_is)
    (case a_needless => k_is)
    (case l_needless => k_is)
    (case c_needless => k_is)
    (case k_needless => k_is)
    (case a_is_from => k_is)
    (case l_is_from => k_is)
    (case c_is_from => k_is)
    (case k_is_from => k_is)
    (case a_need_day => k_is)
    (case l_need_day => k_is)
    (case c_need_day => k_is)
    (case k_need_day => k_is)
    (case a_is_day => k_is)
    (case l_is_day => k_is)
    (case c_is_day => k_is)
    (case k_is_day => k_is)
    (case a_nth => k_is)
    (case l_nth => k_is)
    (case c_nth => k_is)
    (case k_nth => k_is)
    (case a_count => k_is)
    (case l_count => k_is)
    (case c_count => k_is)
    (case k_count => k_is)
    (case a_l_random => k_is)
    (case l_l_random => k_is)
    (case c_l_random => k_is)
    (case k_l_random => k_is)
    (case a_l_below => k_is)
    (case l_l_below => k_is)
    (case c_l_below => k_is)
    (case k_l_below => k_is)
    (case a_l_pick => k_is)
    (case l_l_pick => k_is)
    (case c_l_pick => k_is)
    (case k_l_pick => k_is)
    (case a_l_leaf => k_is)
    (case l_l_leaf => k_is)
    (case c_l_leaf => k_is)
    (case k_l_leaf => k_is)
    (case a_l_rule => k_is)
    (case l_l_rule => k_is)
    (case c_l_rule => k_is)
    (case k_l_rule => k_is)
    (case a_l_rows => k_is)
    (case l_l_rows => k_is)
    (case c_l_rows => k_is)
    (case k_l_rows => k_is)
    (case a_l_made => k_is)
    (case l_l_made => k_is)
    (case c_l_made => k_is)
    (case k_l_made => k_is)
    (case a_l_bys => k_is)
    (case l_l_bys => k_is)
    (case c_l_bys => k_is)
    (case k_l_bys => k_is)
    (case a_l_days => k_is)
    (case l_l_days => k_is)
    (case c_l_days => k_is)
    (case k_l_days => k_is)
    (case a_l_all => k_is)
    (case l_l_all => k_is)
    (case c_l_all => k_is)
    (case k_l_all => k_is)
    (case a_l_near => k_is)
    (case l_l_near => k_is)
    (case c_l_near => k_is)
    (case k_l_near => k_is)
    (case a_l_one => k_is)
    (case l_l_one => k_is)
    (case c_l_one => k_is)
    (case k_l_one => k_is)
    (case a_law => k_is)
    (case l_law => k_is)
    (case c_law => k_is)
    (case k_law => k_is)
    (case ha => k_is)
    (case hn => k_is)
    (case htk => k_is)
    (case hm => k_is)
    (case hsf => k_is)


