import PyProof.Rows.All
import Wide.All
import OpenK.AllK
import Wide.FinOn
import HandS.ForMost
import HandS.ForExc
import HandS.Evl
import HandS.WideBits
import HandS.IsInst
import HandS.Small
import HandS.More
import HandS.Walk
import KE.GoesEnum
import KE.GoesMore
import HandS.Property
import HandS.Conv
import PyProof.LongRange
import HandS.TryMany
import HandS.TryOnly
import HandS.ExcOwn
import HandS.WordsDict
import KE.SortKeyHeap
import KE.SortData
import HandS.Sort
import HandS.SortKw
import PyProof.WalksMore
import HandS.OwnEq
import OpenK.KOps
import HandS.ExcInit
import HandS.ExcField
import HandS.ExcSuper
import KE.KExcSuper
import KE.RegKSuper
import HandS.Text
import HandS.Star
import KE.KDictList
import KE.KxIndex
import PySem.Challenge.RW_weekfeasts_k12_whole_texts_refused
import HandS.Iter
/-! WMath: the plain law. Rules as data, their days, figures as numbers. -/
set_option Elab.async false
set_option linter.all false
namespace WF

/-- a rule, as data -/
inductive Rl where
  | wk (k : Int) | fs (k : Int) | md (k : Int)
  | bh (r : Rl) (b : Int)
  | bo (x y : Rl) | ei (x y : Rl) | wo (x y : Rl)
  deriving DecidableEq, Inhabited

/-- is day d one of the rule, in the land (w, m) -/
def Rl.day (w m : Int) : Rl → Int → Bool
  | .wk k, d => d % w == k % w
  | .fs k, d => d % w == k % w && decide (d % m < w)
  | .md k, d => d % m == k % m
  | .bh r b, d => r.day w m (d - b)
  | .bo x y, d => x.day w m d && y.day w m d
  | .ei x y, d => x.day w m d || y.day w m d
  | .wo x y, d => x.day w m d && !y.day w m d
def Rl.parts : Rl → Nat
  | .wk _ | .fs _ | .md _ => 1
  | .bh r _ => 1 + r.parts
  | .bo x y | .ei x y | .wo x y => 1 + x.parts + y.parts
def Rl.bys : Rl → Nat
  | .wk _ | .fs _ | .md _ => 0
  | .bh r b => b.natAbs + r.bys
  | .bo x y | .ei x y | .wo x y => x.bys + y.bys
/-- the numbers in it are such as may stand -/
def Rl.fit : Rl → Bool
  | .wk k | .fs k => decide (-2 ≤ k ∧ k ≤ 1)
  | .md k => decide (-3 ≤ k ∧ k ≤ 2)
  | .bh r b => decide (b = -2 ∨ b = -1 ∨ b = 1 ∨ b = 2) && r.fit
  | .bo x y | .ei x y | .wo x y => x.fit && y.fit
/-- a calendar's rows -/
abbrev Rows := List (Rl × Bool)
def addRow (w m : Int) (f : Int → Bool) (r : Rl × Bool) : Int → Bool := fun d =>
  f d || (r.1.day w m d && !(r.2 && f d)) || (r.2 && (r.1.day w m (d - 1) && f (d - 1)))
def calDay (w m : Int) (rows : Rows) : Int → Bool := rows.foldl (addRow w m) fun _ => false

/-! ### all goes round -/
def Per (N : Int) (p : Int → Bool) : Prop := ∀ d, p (d + N) = p d
theorem Per.sub {N : Int} {p : Int → Bool} (h : Per N p) (d : Int) : p (d - N) = p d := by
  have := h (d - N)
  rw [Int.sub_add_cancel] at this
  exact this.symm
theorem Per.mulN {N : Int} {p : Int → Bool} (h : Per N p) (d : Int) : ∀ k : Nat, p (d + N * (k : Int)) = p d
  | 0 => by simp
  | k + 1 => by
    have e : d + N * ((k + 1 : Nat) : Int) = (d + N * (k : Int)) + N := by
      rw [Int.natCast_add, Int.mul_add]; simp; omega
    rw [e, h, Per.mulN h d k]
theorem Per.mul {N : Int} {p : Int → Bool} (h : Per N p) (d k : Int) : p (d + N * k) = p d := by
  rcases Int.le_total 0 k with hk | hk
  · obtain ⟨n, rfl⟩ := Int.eq_ofNat_of_zero_le hk
    exact h.mulN d n
  · obtain ⟨n, hn⟩ := Int.eq_ofNat_of_zero_le (show 0 ≤ -k by omega)
    have e : k = -(n : Int) := by omega
    have := h.mulN (d + N * k) n
    have e2 : d + N * k + N * (n : Int) = d := by
      rw [e, Int.mul_neg]; omega
    rw [e2] at this
    exact this.symm
theorem Per.emod {N : Int} {p : Int → Bool} (h : Per N p) (d : Int) : p (d % N) = p d := by
  have e : d % N = d + N * (-(d / N)) := by
    have := Int.emod_add_mul_ediv d N
    rw [Int.mul_neg]; omega
  rw [e, h.mul]
theorem rl_per (w m : Int) : ∀ r : Rl, Per (w * m) (r.day w m)
  | .wk k => fun d => by
    show (((d + w * m) % w == k % w) = (d % w == k % w))
    rw [Int.add_mul_emod_self_left]
  | .fs k => fun d => by
    show (((d + w * m) % w == k % w && decide ((d + w * m) % m < w)) = (d % w == k % w && decide (d % m < w)))
    rw [Int.add_mul_emod_self_left, Int.mul_comm w m, Int.add_mul_emod_self_left]
  | .md k => fun d => by
    show (((d + w * m) % m == k % m) = (d % m == k % m))
    rw [Int.mul_comm w m, Int.add_mul_emod_self_left]
  | .bh r b => fun d => by
    show r.day w m (d + w * m - b) = r.day w m (d - b)
    rw [show d + w * m - b = d - b + w * m by omega]
    exact rl_per w m r _
  | .bo x y => fun d => by
    show (x.day w m (d + w * m) && y.day w m (d + w * m)) = _
    rw [rl_per w m x d, rl_per w m y d]; rfl
  | .ei x y => fun d => by
    show (x.day w m (d + w * m) || y.day w m (d + w * m)) = _
    rw [rl_per w m x d, rl_per w m y d]; rfl
  | .wo x y => fun d => by
    show (x.day w m (d + w * m) && !y.day w m (d + w * m)) = _
    rw [rl_per w m x d, rl_per w m y d]; rfl
theorem add_per {w m : Int} {f : Int → Bool} (h : Per (w * m) f) (r : Rl × Bool) : Per (w * m) (addRow w m f r) := fun d => by
  unfold addRow
  rw [h d, rl_per w m r.1 d, show d + w * m - 1 = d - 1 + w * m by omega, h (d - 1), rl_per w m r.1 (d - 1)]
theorem fold_per {w m : Int} : ∀ (rows : Rows) {f : Int → Bool}, Per (w * m) f → Per (w * m) (rows.foldl (addRow w m) f)
  | [], _, h => h
  | r :: rows, _, h => fold_per rows (add_per h r)
theorem cal_per (w m : Int) (rows : Rows) : Per (w * m) (calDay w m rows) := fold_per rows fun _ => rfl

/-! ### figures -/
/-- the figure of N days: bit d tells p d -/
def figN : Nat → (Int → Bool) → Nat
  | 0, _ => 0
  | n + 1, p => figN n p + (if p (n : Int) then 2 ^ n else 0)
theorem figN_lt : ∀ (n : Nat) (p : Int → Bool), figN n p < 2 ^ n
  | 0, _ => by simp [figN]
  | n + 1, p => by
    have := figN_lt n p
    unfold figN
    rw [Nat.pow_succ]
    split <;> omega
theorem figN_bit : ∀ (n : Nat) (p : Int → Bool) (d : Nat), (figN n p).testBit d = (decide (d < n) && p (d : Int))
  | 0, p, d => by simp [figN]
  | n + 1, p, d => by
    unfold figN
    have hl := figN_lt n p
    have ih := figN_bit n p d
    by_cases hp : p (n : Int) = true
    · rw [if_pos hp, Nat.add_comm]
      rcases Nat.lt_trichotomy d n with h | h | h
      · rw [Nat.testBit_two_pow_add_gt h, ih, decide_eq_true h, decide_eq_true (Nat.lt_succ_of_lt h)]
      · subst h
        rw [Nat.testBit_two_pow_add_eq, Nat.testBit_lt_two_pow hl, hp, decide_eq_true (Nat.lt_succ_self d)]; rfl
      · have hz : 2 ^ n + figN n p < 2 ^ d := by
          have h1 : 2 ^ (n + 1) ≤ 2 ^ d := Nat.pow_le_pow_right (by decide) h
          rw [Nat.pow_succ] at h1
          omega
        rw [Nat.testBit_lt_two_pow hz, decide_eq_false (by omega)]; rfl
    · rw [if_neg hp, Nat.add_zero, ih]
      rcases Nat.lt_trichotomy d n with h | h | h
      · rw [decide_eq_true h, decide_eq_true (Nat.lt_succ_of_lt h)]
      · subst h
        rw [decide_eq_false (Nat.lt_irrefl d)]
        simp at hp
        rw [hp]; simp
      · rw [decide_eq_false (by omega), decide_eq_false (by omega)]
theorem figN_eq {N n : Nat} {p : Int → Bool} (hl : n < 2 ^ N) (h : ∀ d, d < N → n.testBit d = p (d : Int)) : n = figN N p := by
  apply Nat.eq_of_testBit_eq
  intro d
  rw [figN_bit]
  by_cases hd : d < N
  · rw [h d hd, decide_eq_true hd]; rfl
  · rw [decide_eq_false hd, Nat.testBit_lt_two_pow (Nat.lt_of_lt_of_le hl (Nat.pow_le_pow_right (by decide) (by omega)))]; rfl
theorem figN_congr {N : Nat} {p q : Int → Bool} (h : ∀ d : Nat, d < N → p (d : Int) = q (d : Int)) : figN N p = figN N q :=
  figN_eq (figN_lt _ _) fun d hd => by rw [figN_bit, decide_eq_true hd, h d hd]; rfl
theorem figN_and (N : Nat) (p q : Int → Bool) : figN N p &&& figN N q = figN N fun d => p d && q d :=
  figN_eq (Nat.lt_of_le_of_lt Nat.and_le_left (figN_lt _ _)) fun d hd => by rw [Nat.testBit_and, figN_bit, figN_bit, decide_eq_true hd]; rfl
theorem figN_wo : ∀ (N : Nat) (p q : Int → Bool), figN N p = figN N (fun d => p d && !q d) + figN N (fun d => p d && q d)
  | 0, _, _ => rfl
  | n + 1, p, q => by
    unfold figN
    have ih := figN_wo n p q
    cases hp : p (n : Int) <;> cases hq : q (n : Int) <;> simp [hp, hq] <;> omega
theorem figN_orE : ∀ (N : Nat) (p q : Int → Bool), figN N (fun d => p d || q d) + figN N (fun d => p d && q d) = figN N p + figN N q
  | 0, _, _ => rfl
  | n + 1, p, q => by
    unfold figN
    have ih := figN_orE n p q
    cases hp : p (n : Int) <;> cases hq : q (n : Int) <;> simp [hp, hq] <;> omega
theorem figN_xorE : ∀ (N : Nat) (p q : Int → Bool), figN N (fun d => p d ^^ q d) + 2 * figN N (fun d => p d && q d) = figN N p + figN N q
  | 0, _, _ => rfl
  | n + 1, p, q => by
    unfold figN
    have ih := figN_xorE n p q
    cases hp : p (n : Int) <;> cases hq : q (n : Int) <;> simp [hp, hq] <;> omega

/-! ### one that is turned -/
def maskN (N : Nat) : Nat := 2 ^ N - 1
theorem turn_fig {N b : Nat} {p : Int → Bool} (hp : Per (N : Int) p) (hb : b < N) :
    (figN N p * 2 ^ b) % 2 ^ N ||| (figN N p * 2 ^ b) / 2 ^ N = figN N fun d => p (d - (b : Int)) := by
  have h1 : (figN N p * 2 ^ b) / 2 ^ N < 2 ^ N := by
    apply Nat.div_lt_of_lt_mul
    have := figN_lt N p
    have h2 : 2 ^ b < 2 ^ N := Nat.pow_lt_pow_right (by decide) hb
    exact Nat.mul_lt_mul'' this h2
  refine figN_eq (Nat.or_lt_two_pow (Nat.mod_lt _ (Nat.two_pow_pos _)) h1) fun d hd => ?_
  rw [Nat.testBit_or, Nat.testBit_mod_two_pow, ← Nat.shiftLeft_eq, ← Nat.shiftRight_eq_div_pow, Nat.testBit_shiftRight, Nat.testBit_shiftLeft, Nat.testBit_shiftLeft, figN_bit, figN_bit, decide_eq_true hd]
  have e1 : decide (N + d ≥ b) = true := decide_eq_true (by omega)
  rw [e1]
  by_cases hbd : b ≤ d
  · have e2 : decide (d ≥ b) = true := decide_eq_true hbd
    have e3 : decide (d - b < N) = true := decide_eq_true (by omega)
    have e4 : decide (N + d - b < N) = false := decide_eq_false (by omega)
    rw [e2, e3, e4, show ((d - b : Nat) : Int) = (d : Int) - (b : Int) by omega]
    simp
  · have e2 : decide (d ≥ b) = false := decide_eq_false (by omega)
    have e4 : decide (N + d - b < N) = true := decide_eq_true (by omega)
    rw [e2, e4, show ((N + d - b : Nat) : Int) = ((d : Int) - (b : Int)) + (N : Int) by omega, hp]
    simp
/-! ### a sum of powers whose exponents rise -/
theorem fig_step {n e : Nat} {p : Int → Bool} (hb : ∀ d : Nat, d < e → n ≤ d → p (d : Int) = false) (he : p (e : Int) = true) (hn : n ≤ e) : figN n p + 2 ^ e = figN (e + 1) p := by
  have h : ∀ k, n + k ≤ e → figN (n + k) p = figN n p := by
    intro k
    induction k with
    | zero => intro _; rfl
    | succ k ih =>
      intro hk
      show figN (n + k) p + (if p ((n + k : Nat) : Int) then 2 ^ (n + k) else 0) = figN n p
      rw [hb (n + k) (by omega) (by omega), ih (by omega)]
      simp
  have := h (e - n) (by omega)
  rw [show n + (e - n) = e by omega] at this
  show _ = figN e p + (if p (e : Int) then 2 ^ e else 0)
  rw [he, this]; simp
theorem fig_more {n m : Nat} {p : Int → Bool} (h : ∀ d : Nat, n ≤ d → d < m → p (d : Int) = false) (hn : n ≤ m) : figN m p = figN n p := by
  have g : ∀ k, n + k ≤ m → figN (n + k) p = figN n p := by
    intro k
    induction k with
    | zero => intro _; rfl
    | succ k ih =>
      intro hk
      show figN (n + k) p + (if p ((n + k : Nat) : Int) then 2 ^ (n + k) else 0) = figN n p
      rw [h (n + k) (by omega) (by omega), ih (by omega)]
      simp
  have := g (m - n) (by omega)
  rwa [show n + (m - n) = m by omega] at this
/-- a block with just one day -/
theorem fig_block {n e n' : Nat} {p : Int → Bool} (h1 : n ≤ e) (h2 : e < n') (he : p (e : Int) = true) (ho : ∀ d : Nat, n ≤ d → d < n' → d ≠ e → p (d : Int) = false) : figN n p + 2 ^ e = figN n' p := by
  rw [fig_step (fun d hd hn => ho d hn (by omega) (by omega)) he h1]
  exact (fig_more (n := e + 1) (m := n') (fun d h3 h4 => ho d (by omega) h4 (by omega)) (by omega)).symm
theorem fig_blocks {L : Nat} {e : Nat → Nat} {p : Int → Bool} : ∀ T : Nat, (∀ t, t < T → L * t ≤ e t ∧ e t < L * (t + 1) ∧ ∀ d : Nat, L * t ≤ d → d < L * (t + 1) → (p (d : Int) = true ↔ d = e t)) →
    (((List.range T).map fun t => 2 ^ e t).sum = figN (L * T) p)
  | 0, _ => by simp [figN]
  | T + 1, h => by
    obtain ⟨h1, h2, h3⟩ := h T (Nat.lt_succ_self T)
    rw [List.range_succ, List.map_append, List.sum_append, fig_blocks T fun t ht => h t (Nat.lt_succ_of_lt ht)]
    simp only [List.map_cons, List.map_nil, List.sum_cons, List.sum_nil, Nat.add_zero]
    refine fig_block h1 h2 ((h3 (e T) h1 h2).mpr rfl) fun d hd hd' hne => ?_
    cases hp : p (d : Int) with
    | false => rfl
    | true => exact absurd ((h3 d hd hd').mp hp) hne
/-- days that come by a step -/
theorem every_fig {w : Nat} (k : Int) (hw : 0 < w) (T : Nat) : (((List.range T).map fun t => 2 ^ ((k % (w : Int)).toNat + w * t)).sum = figN (w * T) fun d => d % (w : Int) == k % (w : Int)) := by
  have h0 : 0 ≤ k % (w : Int) := Int.emod_nonneg _ (by omega)
  have h1 : k % (w : Int) < (w : Int) := Int.emod_lt_of_pos _ (by omega)
  refine fig_blocks T fun t _ => ⟨by omega, by rw [Nat.mul_add]; omega, fun d hd hd' => ?_⟩
  rw [beq_iff_eq]
  have hd'' : d < w * t + w := by rw [Nat.mul_add, Nat.mul_one] at hd'; exact hd'
  have e : (d : Int) % (w : Int) = (d : Int) - (w : Int) * (t : Int) := by
    have : (d : Int) = ((d : Int) - (w : Int) * (t : Int)) + (w : Int) * (t : Int) := by omega
    rw [this, Int.add_mul_emod_self_left, Int.emod_eq_of_lt]
    · omega
    · have : ((w * t : Nat) : Int) = (w : Int) * (t : Int) := Int.natCast_mul w t
      omega
    · have : ((w * t : Nat) : Int) = (w : Int) * (t : Int) := Int.natCast_mul w t
      omega
  have q : ((w * t : Nat) : Int) = (w : Int) * (t : Int) := Int.natCast_mul w t
  rw [e]
  omega
theorem first_fig {w m : Nat} (k : Int) (hw : 0 < w) (hm : w < m) (T : Nat) :
    (((List.range T).map fun (t : Nat) => 2 ^ (m * t + ((k - (m : Int) * (t : Int)) % (w : Int)).toNat)).sum = figN (m * T) fun d => d % (w : Int) == k % (w : Int) && decide (d % (m : Int) < (w : Int))) := by
  refine fig_blocks T fun t _ => ?_
  have h0 : 0 ≤ (k - (m : Int) * (t : Int)) % (w : Int) := Int.emod_nonneg _ (by omega)
  have h1 : (k - (m : Int) * (t : Int)) % (w : Int) < (w : Int) := Int.emod_lt_of_pos _ (by omega)
  have q : ((m * t : Nat) : Int) = (m : Int) * (t : Int) := Int.natCast_mul m t
  refine ⟨by omega, by rw [Nat.mul_add]; omega, fun d hd hd' => ?_⟩
  have hd'' : d < m * t + m := by rw [Nat.mul_add, Nat.mul_one] at hd'; exact hd'
  have e : (d : Int) % (m : Int) = (d : Int) - (m : Int) * (t : Int) := by
    have : (d : Int) = ((d : Int) - (m : Int) * (t : Int)) + (m : Int) * (t : Int) := by omega
    rw [this, Int.add_mul_emod_self_left, Int.emod_eq_of_lt]
    · omega
    · omega
    · omega
  rw [Bool.and_eq_true, beq_iff_eq, decide_eq_true_iff, e]
  constructor
  · rintro ⟨a, b⟩
    have : (k - (m : Int) * (t : Int)) % (w : Int) = (d : Int) - (m : Int) * (t : Int) := by
      rw [Int.sub_emod, ← a, ← Int.sub_emod, Int.emod_eq_of_lt (by omega) b]
    omega
  · intro hde
    have hx : (d : Int) - (m : Int) * (t : Int) = (k - (m : Int) * (t : Int)) % (w : Int) := by omega
    refine ⟨?_, by omega⟩
    have : (d : Int) = ((k - (m : Int) * (t : Int)) % (w : Int)) + (m : Int) * (t : Int) := by omega
    rw [this, Int.add_emod, Int.emod_emod, ← Int.add_emod, Int.sub_add_cancel]

/-! ### what is counted -/
def daysN (N : Nat) (p : Int → Bool) : List Nat := (List.range N).filter fun (d : Nat) => p (d : Int)
theorem daysN_mem {N d : Nat} {p : Int → Bool} : d ∈ daysN N p ↔ d < N ∧ p (d : Int) = true := by
  unfold daysN
  rw [List.mem_filter, List.mem_range]
theorem daysN_len (N : Nat) (p : Int → Bool) : (daysN N p).length ≤ N := by
  unfold daysN
  have h := List.length_filter_le (fun (d : Nat) => p (d : Int)) (List.range N)
  rwa [List.length_range] at h
theorem daysN_nodup (N : Nat) (p : Int → Bool) : (daysN N p).Nodup := List.Pairwise.filter _ List.nodup_range
theorem nodup_len : ∀ {l1 l2 : List Nat}, l1.Nodup → l2.Nodup → (∀ x, x ∈ l1 ↔ x ∈ l2) → l1.length = l2.length := fun {l1 l2} h1 h2 h =>
  ((List.perm_ext_iff_of_nodup h1 h2).mpr h).length_eq

theorem figN_zero {N : Nat} {q : Int → Bool} (h : ∀ d : Nat, d < N → q (d : Int) = false) : figN N q = 0 := by
  have := fig_more (n := 0) (m := N) (p := q) (fun d _ hd => h d hd) (Nat.zero_le _)
  rw [this]; rfl
theorem least : ∀ (N : Nat) (q : Nat → Bool), (∃ d, d < N ∧ q d = true) → ∃ j, j < N ∧ q j = true ∧ ∀ d, d < j → q d = false
  | 0, _, ⟨_, h, _⟩ => absurd h (Nat.not_lt_zero _)
  | n + 1, q, ⟨d, h, hd⟩ => by
    by_cases h0 : ∃ d, d < n ∧ q d = true
    · obtain ⟨j, h1, h2, h3⟩ := least n q h0
      exact ⟨j, by omega, h2, h3⟩
    · refine ⟨d, h, hd, fun e he => ?_⟩
      cases hq : q e with
      | false => rfl
      | true => exact absurd ⟨e, by omega, hq⟩ h0
theorem fig_one {N j : Nat} (hj : j < N) : 2 ^ j = figN N fun d => d == (j : Int) := by
  have := fig_block (n := 0) (e := j) (n' := N) (p := fun d => d == (j : Int)) (Nat.zero_le _) hj (by simp) (fun d _ _ hne => by
    rw [beq_eq_false_iff_ne]; omega)
  rw [← this]; simp [figN]
theorem fig_low {N : Nat} {q : Int → Bool} (h : 0 < figN N q) : ∃ j a : Nat, j < N ∧ q (j : Int) = true ∧ (∀ d : Nat, d < j → q (d : Int) = false) ∧ figN N q = 2 ^ j * (2 * a + 1) := by
  have hex : ∃ d, d < N ∧ (fun (d : Nat) => q (d : Int)) d = true := by
    apply Classical.byContradiction
    intro hn
    have := figN_zero (N := N) (q := q) fun d hd => by
      cases hq : q (d : Int) with
      | false => rfl
      | true => exact absurd ⟨d, hd, hq⟩ hn
    omega
  obtain ⟨j, h1, h2, h3⟩ := least N (fun (d : Nat) => q (d : Int)) hex
  refine ⟨j, figN N q / 2 ^ (j + 1), h1, h2, h3, ?_⟩
  have hm : figN N q % 2 ^ (j + 1) = 2 ^ j := by
    apply Nat.eq_of_testBit_eq
    intro d
    rw [Nat.testBit_mod_two_pow, figN_bit, Nat.testBit_two_pow]
    by_cases hd : d < j
    · have : q (d : Int) = false := h3 d hd
      rw [this]; simp; omega
    · by_cases hd2 : d = j
      · subst hd2
        have h2' : q (d : Int) = true := h2
        rw [h2']; simp; omega
      · rw [decide_eq_false (show ¬ d < j + 1 by omega)]; simp; omega
  have := Nat.div_add_mod (figN N q) (2 ^ (j + 1))
  rw [hm] at this
  generalize figN N q / 2 ^ (j + 1) = a at this ⊢
  rw [← this, Nat.mul_add, Nat.mul_one, Nat.pow_succ, Nat.mul_assoc]
theorem daysN_succ (n : Nat) (p : Int → Bool) : daysN (n + 1) p = daysN n p ++ (if p (n : Int) then [n] else []) := by
  unfold daysN
  rw [List.range_succ, List.filter_append]
  congr 1
  by_cases h : p (n : Int) = true
  · rw [if_pos h, List.filter_cons, if_pos h]; rfl
  · rw [if_neg h, List.filter_cons, if_neg h]; rfl
theorem daysN_more {i j : Nat} {p : Int → Bool} (h : ∀ d : Nat, i ≤ d → d < j → p (d : Int) = false) (hij : i ≤ j) : daysN j p = daysN i p := by
  have g : ∀ k, i + k ≤ j → daysN (i + k) p = daysN i p := by
    intro k
    induction k with
    | zero => intro _; rfl
    | succ k ih =>
      intro hk
      rw [show i + (k + 1) = (i + k) + 1 by omega, daysN_succ, h (i + k) (by omega) (by omega), ih (by omega)]
      simp
  have := g (j - i) (by omega)
  rwa [show i + (j - i) = j by omega] at this
end WF

set_option Elab.async false
set_option linter.all false
set_option maxRecDepth 100000
set_option maxHeartbeats 2000000
/-! WLayer: further words over the hand layer: a def by its name with its promise (Dn), readings that evaluate (ev_..) -/
namespace WF
open PySem L2 Evl
/-! ### a def of the text, by its name: where it stands, its promise -/
structure Dn (P : Program) (w : World) (K : PySem.W.Frag) (mg : Str → Option Value) (base : Heap) (CX : CXT) (x : Str) (k : Nat) (ps : List Str) (sp : Sp) : Prop where
  ex : ∃ (f : Addr) (fd : FuncData), mg x = some (.ref f) ∧ PySem.W.keepIn K (.ref f) = true ∧ FnOk P w K mg base CX k f fd ps sp ∧ Binds K fd ps []
structure FunAt (K : PySem.W.Frag) (mg : Str → Option Value) (x : Str) (st : Stmt) (ps : List Str) : Prop where
  ex : ∃ (f : Addr) (fd : FuncData), mg x = some (.ref f) ∧ Fun K x x st f fd ∧ Binds K fd ps []
section
variable {P : Program} {w : World} {K : PySem.W.Frag} {mg : Str → Option Value} {base : Heap} {CX : CXT} {x : Str} {k : Nat} {ps : List Str} {sp : Sp} {st : Stmt}
theorem FunAt.dn (F : FunAt K mg x st ps) (h : ∀ f fd, Fun K x x st f fd → mg x = some (.ref f) → Binds K fd ps [] → FnOk P w K mg base CX k f fd ps sp) : Dn P w K mg base CX x k ps sp := by
  obtain ⟨f, fd, h1, h2, h3⟩ := F.ex
  exact ⟨f, fd, h1, h2.kp, h f fd h2 h1 h3, h3⟩
theorem Dn.mono {j : Nat} (D : Dn P w K mg base CX x j ps sp) (h : j ≤ k) : Dn P w K mg base CX x k ps sp := by
  obtain ⟨f, fd, h1, h2, h3, h4⟩ := D.ex
  exact ⟨f, fd, h1, h2, h3.mono h, h4⟩
end
theorem fnok_none {P : Program} {w : World} {K : PySem.W.Frag} {mg : Str → Option Value} {base : Heap} {CX : CXT} {k : Nat} {f : Addr} {fd : FuncData} {ps : List Str} {sp : Sp} (h : ∀ vs H Q E, ¬ sp vs H Q E) : FnOk P w K mg base CX k f fd ps sp :=
  ⟨fun vs H Q E q => (h vs H Q E q).elim, fun _ _ _ _ _ _ _ _ _ _ _ _ _ q => (h _ _ _ _ q).elim⟩
section
variable {X : Cx} {CX : CXT} {x : Str} {k : Nat} {ps : List Str} {sp : Sp} {E : XK} {e : Expr} {es : List Expr} {p pos : Pos} {t : TA}
theorem pe_fn (D : Dn X.prog X.w X.K X.mg X.base CX x k ps sp) (hr : Room k X.A) (hx : Passes CX X E) (hg : Gl X x) (ha : PA X (e :: es) t) (hdb : (x == ("__debug__" : Str)) = false := by decide)
    (he : starEach (e :: es) X.env = (false, eval e X.env) :: starEach es X.env := by rfl) (hpl : (backTo pos (starEach es X.env)).any (·.1) = false := by rfl) : PE X (.Call (.Name x p) (e :: es) [] pos) (tCall sp [] E t) := by
  obtain ⟨f, fd, h1, h2, h3, h4⟩ := D.ex
  exact pe_call h3 hr hg h1 h2 h4 .nil hx ha hdb he hpl
end
/-! ### rules within a comprehension: the written part by its own name -/
section
variable {X : Cx} {K : PySem.W.Frag}
theorem ix_tupK (hK : X.K = K := by rfl) : IxR X (rIxT K) := by
  subst hK
  exact ix_tup
theorem ix_listK (hK : X.K = K := by rfl) : IxR X (rIxL K) := by
  subst hK
  exact ix_list
theorem op_in_seqK (hK : X.K = K := by rfl) : OpR X (compareOp .In) (rIn K false) := by
  subst hK
  exact op_in_seq
theorem op_notIn_seqK (hK : X.K = K := by rfl) : OpR X (compareOp .NotIn) (rIn K true) := by
  subst hK
  exact op_notIn_seq
theorem call_len_seqK (hK : X.K = K := by rfl) : CallR X (.builtin "len") (rLenS K) := by
  subst hK
  exact call_len_seq
theorem call_isiK1 (hK : X.K = K := by rfl) : CallR X (.builtin "isinstance") (rIsi K) := by
  subst hK
  exact call_isi
theorem pe_fldK {e : Expr} {f : Str} {ta : TE} {pos : Pos} (he : PE X e ta) (hb : attributeBase e f X.env (eval e X.env) = eval e X.env) (hK : X.K = K := by rfl) : PE X (.Attribute e f pos) (tFld K ta f) := by
  subst hK
  exact pe_fld he hb
theorem pg_tupK {es : List Expr} {k : Nat} {t : TGs} {n : Nat} {pos : Pos} (hc : X.calm = true) (h : PGs X es t) (hn : (assignEach es X.env).length = n := by rfl) (hst : (assignEach es X.env).findIdx? (·.1) = none := by rfl) (hK : X.K = K := by rfl) :
    PG X (.Tuple es k pos) (gTup K n t) := by
  subst hK
  exact pg_tup hc h hn hst
end
/-! ### readings -/
section
variable {K : PySem.W.Frag} {σ : L2.St} {H H' : Hp} {ta tb tc te : TE} {x y z v : V} {r r' : R2} {t u : TT}
theorem given_all (n : Nat) (v : Nat → V) : given n (fun _ => true) v = (List.range n).map v := by
  unfold given
  rw [List.filter_eq_self.mpr]
  intro _ _; rfl
theorem et_yes : EvT tYes σ H true := fun H1 _ _ q => q H1 (Ex.refl H1)
theorem ev_sum {ta : TE} {ns : List Int} (h : EvL ta σ H (ns.map V.int)) : Ev (tCB (rSum K) (tCons ta tNil)) σ H (.int ns.sum) := fun H1 e Q q =>
  h H1 e _ fun p H2 _ e2 h2 => ⟨p, ns, rfl, sq_of h2, q H2 e2⟩
theorem ev_sumR {ta : TE} {n : Nat} (v : Nat → Int) (h : EvL ta σ H ((List.range n).map fun i => V.int (v i))) : Ev (tCB (rSum K) (tCons ta tNil)) σ H (.int ((List.range n).map v).sum) := by
  refine ev_sum ?_
  rw [List.map_map]
  exact h
/-- the items of a comprehension over range(n) without a test -/
theorem el_rng {ta : TA} {j : Nat} {vs : List Nat} {n : Int} (v : Nat → V) (h : EvA ta σ H [.int n]) (hn : 0 ≤ n ∧ n ≤ 40000) (hw : ∀ x, wipe ((wipe σ vs).set j (some x)) vs = wipe σ vs)
    (he : ∀ (i : Nat) H1, Ex H H1 → (i : Int) < n → Ev te ((wipe σ vs).set j (some (.int (i : Int)))) H1 (v i)) :
    EvL (tLc (iRng1 ta) (gName j) tYes te vs) σ H ((List.range n.toNat).map v) := by
  have := el_lcR1 (fun _ => true) v h hn hw (fun _ _ _ _ => et_yes) (fun i H1 e hi _ => he i H1 e hi)
  rwa [given_all] at this
theorem et_cmp {b : Bool} (ha : Ev ta σ H x) (hb : Ev tb σ H y) (hr : RV r x y H (.bl b)) : EvT (tTest (tOp r ta tb)) σ H b := et_test (ev_op ha hb hr)
/-- a call whose promise is a value -/
theorem spV {sp : Sp} {vs : List V} (h : ∀ H1, Ex H H1 → ∀ (Q : VK) (E : XK), RetV z H1 Q → sp vs H1 Q E) : SpV sp (vs ++ []) H z := fun H1 e Q q E => by
  rw [List.append_nil]
  exact h H1 e Q E q
theorem spL {sp : Sp} {vs xs : List V} (h : ∀ H1, Ex H H1 → ∀ (Q : VK) (E : XK), RetL xs H1 Q → sp vs H1 Q E) : SpL sp (vs ++ []) H xs := fun H1 e Q q E => by
  rw [List.append_nil]
  exact h H1 e Q E q
theorem s_par {D : Ends} {i j : Nat} {ta : TA} (h : EvA ta σ H [x, y]) (k : ∀ H1, Ex H H1 → D.nx ((σ.set i (some x)).set j (some y)) H1) : tPar i j ta D σ H := h H (Ex.refl H) _ fun H1 e => ⟨x, y, rfl, k H1 e⟩
theorem q_par {D : Ends} {i j : Nat} {ta : TA} {tz : TS} (h : EvA ta σ H [x, y]) (k : ∀ H1, Ex H H1 → tz D ((σ.set i (some x)).set j (some y)) H1) : tSeq (tPar i j ta) tz D σ H := s_par (D := { D with nx := tz D }) h k
theorem s_asgT {D : Ends} {i j : Nat} {a : Addr} (h : Ev te σ H (.ref a)) (ht : SqT K H a [x, y]) (k : ∀ H1, Ex H H1 → D.nx ((σ.set i (some x)).set j (some y)) H1) : tAsg te (gTup K 2 (gCons (gName i) (gCons (gName j) gNil))) D σ H :=
  h H (Ex.refl H) _ fun H1 e => ⟨a, [x, y], rfl, ex_t e ht, rfl, _, _, rfl, _, _, rfl, rfl, k H1 e⟩
theorem q_asgT {D : Ends} {i j : Nat} {a : Addr} {tz : TS} (h : Ev te σ H (.ref a)) (ht : SqT K H a [x, y]) (k : ∀ H1, Ex H H1 → tz D ((σ.set i (some x)).set j (some y)) H1) : tSeq (tAsg te (gTup K 2 (gCons (gName i) (gCons (gName j) gNil)))) tz D σ H := s_asgT (D := { D with nx := tz D }) h ht k
theorem q_yes {D : Ends} {tu tw tz : TS} (h : EvT t σ H true) (k : ∀ H1, Ex H H1 → tu { D with nx := tz D } σ H1) : tSeq (tIfS t tu tw) tz D σ H := q_if h (fun _ => k) (fun hb => nomatch hb)
theorem q_no {D : Ends} {tu tw tz : TS} (h : EvT t σ H false) (k : ∀ H1, Ex H H1 → tw { D with nx := tz D } σ H1) : tSeq (tIfS t tu tw) tz D σ H := q_if h (fun hb => nomatch hb) (fun _ => k)
/-- an if without else, not gone into -/
theorem q_not {D : Ends} {tu tz : TS} (h : EvT t σ H false) (k : ∀ H1, Ex H H1 → tz D σ H1) : tSeq (tIfS t tu tNext) tz D σ H := q_no h k
theorem s_yes {D : Ends} {tu tw : TS} (h : EvT t σ H true) (k : ∀ H1, Ex H H1 → tu D σ H1) : tIfS t tu tw D σ H := s_if h (fun _ => k) (fun hb => nomatch hb)
theorem s_no {D : Ends} {tu tw : TS} (h : EvT t σ H false) (k : ∀ H1, Ex H H1 → tw D σ H1) : tIfS t tu tw D σ H := s_if h (fun hb => nomatch hb) (fun _ => k)
theorem et_str {a b : Str} {c : Bool} (h : Ev ta σ H (.str a)) (hc : decide (a = b) = c) : EvT (tTest (tOp rEq ta (tC (.str b)))) σ H c := et_is (et_cmp h ev_c (rv_eq rfl)) (by
  rw [← hc]
  by_cases q : a = b
  · rw [q, decide_eq_true rfl, decide_eq_true rfl]
  · rw [decide_eq_false q, decide_eq_false]
    intro z
    injection z with z
    exact q z)
theorem ev_ifT (h : EvT t σ H true) (h1 : Ev ta σ H v) : Ev (tIf t ta tb) σ H v := ev_if h (fun _ => h1) (fun hb => nomatch hb)
theorem ev_ifF (h : EvT t σ H false) (h1 : Ev tb σ H v) : Ev (tIf t ta tb) σ H v := ev_if h (fun hb => nomatch hb) (fun _ => h1)
theorem ev_ixT {p : Addr} {xs : List V} {i : Int} (h : Ev ta σ H (.ref p)) (hs : SqT K H p xs) (ha : atI xs i = some v) : Ev (tOp (rIxT K) ta (tC (.int i))) σ H v := ev_op h ev_c (rv_ixT hs ha)
theorem ru_inv {i : Int} : RU (rU fun i => .int (Builtin.bitNot i)) (.int i) H (.int (Builtin.bitNot i)) := fun H1 _ _ q => ⟨i, rfl, q H1 (Ex.refl H1)⟩
theorem ev_fld {a C dx : Addr} {fs : List (Str × V)} {f : Str} (h : Ev ta σ H (.ref a)) (ho : H a = some (.ins C dx fs)) (hc : Cls K C) (hn : NoAttr K C f) (hl : fs.lookup f = some v) : Ev (tFld K ta f) σ H v := fun H1 e Q q =>
  h H1 e _ fun H2 e2 => ⟨a, C, dx, fs, v, rfl, e2 _ _ (e _ _ ho), hc, hn, hl, q H2 e2⟩
theorem ev_bits {i : Int} (h : Ev te σ H (.int i)) : Ev (tBits te) σ H (.int (Builtin.Int.intBits i : Nat)) := fun H1 e Q q => h H1 e _ fun H2 e2 => ⟨i, rfl, q H2 e2⟩
theorem el_is {xs ys : List V} (h : EvL te σ H xs) (e : xs = ys) : EvL te σ H ys := e ▸ h
theorem et_or1 (h : EvT t σ H true) : EvT (tOr t u) σ H true := et_or (a := true) (b := true) h fun q => nomatch q
theorem et_and0 (h : EvT t σ H false) : EvT (tAnd t u) σ H false := et_and (a := false) (b := false) h fun q => nomatch q
theorem ev_and0 (h : Ev ta σ H (.bl false)) : Ev (tAndV ta tb) σ H (.bl false) := ev_andV (a := false) (b := false) h fun q => nomatch q
theorem eu_ifT {xs : List V} (h : EvT t σ H true) (h1 : EvU ta σ H xs) : EvU (tIf t ta tb) σ H xs := fun H1 e Q q => h H1 e _ fun H2 e2 => by
  show ta σ H2 Q
  exact h1 H2 (e.trans e2) Q fun p H3 hp e3 h3 => q p H3 (fresh_back e2 hp) (e2.trans e3) h3
theorem eu_ifF {xs : List V} (h : EvT t σ H false) (h1 : EvU tb σ H xs) : EvU (tIf t ta tb) σ H xs := fun H1 e Q q => h H1 e _ fun H2 e2 => by
  show tb σ H2 Q
  exact h1 H2 (e.trans e2) Q fun p H3 hp e3 h3 => q p H3 (fresh_back e2 hp) (e2.trans e3) h3
theorem el_ifT {xs : List V} (h : EvT t σ H true) (h1 : EvL ta σ H xs) : EvL (tIf t ta tb) σ H xs := fun H1 e Q q => h H1 e _ fun H2 e2 => by
  show ta σ H2 Q
  exact h1 H2 (e.trans e2) Q fun p H3 hp e3 h3 => q p H3 (fresh_back e2 hp) (e2.trans e3) h3
theorem el_ifF {xs : List V} (h : EvT t σ H false) (h1 : EvL tb σ H xs) : EvL (tIf t ta tb) σ H xs := fun H1 e Q q => h H1 e _ fun H2 e2 => by
  show tb σ H2 Q
  exact h1 H2 (e.trans e2) Q fun p H3 hp e3 h3 => q p H3 (fresh_back e2 hp) (e2.trans e3) h3
/-- x = f(..), whatever f's promise is -/
theorem s_call {sp : Sp} {E : XK} {ta : TA} {D : Ends} {i : Nat} {vs : List V} (h : EvA ta σ H vs) (k : ∀ H1, Ex H H1 → sp vs H1 (fun x H2 => D.nx (σ.set i (some x)) H2) E) : tAsg (tCall sp [] E ta) (gName i) D σ H :=
  h H (Ex.refl H) _ fun H1 e => by
    rw [List.append_nil]
    exact k H1 e
theorem q_call {sp : Sp} {E : XK} {ta : TA} {tz : TS} {D : Ends} {i : Nat} {vs : List V} (h : EvA ta σ H vs) (k : ∀ H1, Ex H H1 → sp vs H1 (fun x H2 => tz D (σ.set i (some x)) H2) E) : tSeq (tAsg (tCall sp [] E ta) (gName i)) tz D σ H := s_call (D := { D with nx := tz D }) h k
/-- return f(..) -/
theorem s_retC {sp : Sp} {E : XK} {ta : TA} {D : Ends} {vs : List V} (h : EvA ta σ H vs) (k : ∀ H1, Ex H H1 → sp vs H1 D.rt E) : tRet (tCall sp [] E ta) D σ H :=
  h H (Ex.refl H) _ fun H1 e => by
    rw [List.append_nil]
    exact k H1 e
theorem rv_isN : RV (fun x y H Q => y = .non ∧ Q (.bl (decide (x = .non))) H) x .non H (.bl (decide (x = .non))) := fun H1 _ _ q => ⟨rfl, q H1 (Ex.refl H1)⟩
theorem rv_notN : RV (fun x y H Q => y = .non ∧ Q (.bl (!decide (x = .non))) H) x .non H (.bl (!decide (x = .non))) := fun H1 _ _ q => ⟨rfl, q H1 (Ex.refl H1)⟩
theorem cast_sum (l : List Nat) : ((l.map fun (n : Nat) => (n : Int))).sum = ((l.sum : Nat) : Int) := by
  induction l with
  | nil => rfl
  | cons a l ih => rw [List.map_cons, List.sum_cons, List.sum_cons, ih, Int.natCast_add]
theorem cast_sumR (n : Nat) (v : Nat → Nat) : ((List.range n).map fun i => ((v i : Nat) : Int)).sum = (((List.range n).map v).sum : Nat) := by
  rw [← cast_sum, List.map_map]
  rfl
end
end WF

set_option Elab.async false
set_option linter.all false
set_option maxRecDepth 100000
set_option maxHeartbeats 2000000
/-! WBits: the program's bit operators upon figures -/
namespace WF
open PySem L2 Evl PyProof.Rows PySem.W Bits
theorem fig_and (N : Nat) (p q : Int → Bool) : Builtin.bitAnd (figN N p : Int) (figN N q : Int) = (figN N fun d => p d && q d : Nat) := by
  rw [bitAnd_pp (Int.natCast_nonneg _) (Int.natCast_nonneg _), Int.toNat_natCast, Int.toNat_natCast, figN_and]
theorem fig_wo (N : Nat) (p q : Int → Bool) : Builtin.bitAnd (figN N p : Int) (Builtin.bitNot (figN N q : Int)) = (figN N fun d => p d && !q d : Nat) := by
  rw [bitAnd_not, fig_and]
  have := figN_wo N p q
  omega
theorem fig_or (N : Nat) (p q : Int → Bool) : Builtin.bitOr (figN N p : Int) (figN N q : Int) = (figN N fun d => p d || q d : Nat) := by
  rw [bitOr_and, fig_and]
  have := figN_orE N p q
  omega
theorem fig_xor (N : Nat) (p q : Int → Bool) : Builtin.bitXor (figN N p : Int) (figN N q : Int) = (figN N fun d => p d ^^ q d : Nat) := by
  rw [bitXor_and, fig_and]
  have := figN_xorE N p q
  omega
theorem fig_bits (N : Nat) (p : Int → Bool) : Builtin.Int.intBits (figN N p : Int) ≤ N := intBits_le_iff.mpr (by
  show figN N p < 2 ^ N
  exact figN_lt N p)
theorem bits_pow (j : Nat) : Builtin.Int.intBits ((2 ^ j : Nat) : Int) = j + 1 := by
  apply Nat.le_antisymm
  · exact intBits_le_iff.mpr (by
      show 2 ^ j < 2 ^ (j + 1)
      exact Nat.pow_lt_pow_right (by decide) (Nat.lt_succ_self j))
  · apply Classical.byContradiction
    intro h
    have := (intBits_le_iff (m := j) (x := ((2 ^ j : Nat) : Int))).mp (by omega)
    exact Nat.lt_irrefl _ (show 2 ^ j < 2 ^ j from this)
theorem bits_one : Builtin.Int.intBits 1 = 1 := by decide +kernel
theorem fig_turn {N b : Nat} {p : Int → Bool} (hp : Per (N : Int) p) (hb : b < N) :
    Builtin.bitOr (Builtin.bitAnd ((figN N p : Int) * 2 ^ b) (1 * 2 ^ N - 1)) ((figN N p : Int) * 2 ^ b / 2 ^ N) = (figN N fun d => p (d - (b : Int)) : Nat) := by
  rw [Int.one_mul, kbt_mask]
  have e : (figN N p : Int) * 2 ^ b = ((figN N p * 2 ^ b : Nat) : Int) := by rw [Int.natCast_mul, Int.natCast_pow]; rfl
  have e2 : (2 : Int) ^ N = ((2 ^ N : Nat) : Int) := by rw [Int.natCast_pow]; rfl
  rw [e, e2, ← Int.natCast_emod, ← Int.natCast_ediv, bitOr_pp (Int.natCast_nonneg _) (Int.natCast_nonneg _), Int.toNat_natCast, Int.toNat_natCast, turn_fig hp hb]
end WF

set_option Elab.async false
set_option linter.all false
set_option maxRecDepth 100000
set_option maxHeartbeats 2000000
/-! WRule: rules, calendars' rows, lands as they lie in the heap -/
namespace WF
open PySem L2 Evl
/-- at v lies the rule r -/
inductive RlAt (K : PySem.W.Frag) (H : Hp) : V → Rl → Prop where
  | wk {p : Addr} {k : Int} : SqT K H p [.str "weekday", .int k] → RlAt K H (.ref p) (.wk k)
  | fs {p : Addr} {k : Int} : SqT K H p [.str "first", .int k] → RlAt K H (.ref p) (.fs k)
  | md {p : Addr} {k : Int} : SqT K H p [.str "monthday", .int k] → RlAt K H (.ref p) (.md k)
  | bh {p : Addr} {v : V} {r : Rl} {b : Int} : SqT K H p [.str "behind", v, .int b] → RlAt K H v r → RlAt K H (.ref p) (.bh r b)
  | bo {p : Addr} {u v : V} {x y : Rl} : SqT K H p [.str "both", u, v] → RlAt K H u x → RlAt K H v y → RlAt K H (.ref p) (.bo x y)
  | ei {p : Addr} {u v : V} {x y : Rl} : SqT K H p [.str "either", u, v] → RlAt K H u x → RlAt K H v y → RlAt K H (.ref p) (.ei x y)
  | wo {p : Addr} {u v : V} {x y : Rl} : SqT K H p [.str "without", u, v] → RlAt K H u x → RlAt K H v y → RlAt K H (.ref p) (.wo x y)
theorem RlAt.mono {K : PySem.W.Frag} {H H' : Hp} {v : V} {r : Rl} (e : Ex H H') (h : RlAt K H v r) : RlAt K H' v r := by
  induction h with
  | wk h => exact .wk (ex_t e h)
  | fs h => exact .fs (ex_t e h)
  | md h => exact .md (ex_t e h)
  | bh h _ i => exact .bh (ex_t e h) i
  | bo h _ _ i j => exact .bo (ex_t e h) i j
  | ei h _ _ i j => exact .ei (ex_t e h) i j
  | wo h _ _ i j => exact .wo (ex_t e h) i j
def Rl.dep : Rl → Nat
  | .wk _ | .fs _ | .md _ => 0
  | .bh r _ => r.dep + 1
  | .bo x y | .ei x y | .wo x y => max x.dep y.dep + 1
theorem dep_parts : ∀ r : Rl, r.dep + 1 ≤ r.parts
  | .wk _ | .fs _ | .md _ => Nat.le_refl _
  | .bh r _ => by have := dep_parts r; simp only [Rl.dep, Rl.parts]; omega
  | .bo x y | .ei x y | .wo x y => by have := dep_parts x; have := dep_parts y; simp only [Rl.dep, Rl.parts]; omega
/-- a land of which one reckons -/
structure LandOk (w m : Nat) : Prop where
  w2 : 2 ≤ w
  wm : w < m
  m6 : m ≤ 6000
  n5 : w * m ≤ 10000
theorem LandOk.pos {w m : Nat} (h : LandOk w m) : 0 < w * m := Nat.mul_pos (by have := h.w2; omega) (by have := h.wm; omega)
/-! ### objects -/
def feastF (v : V) (n : Int) : List (Str × V) := putF "bys" (.int n) (putF "told" v [])
theorem tb_ne : ¬ (("told" : Str) = "bys") := by decide +kernel
theorem bt_ne : ¬ (("bys" : Str) = "told") := by decide +kernel
theorem feastF_told (v : V) (n : Int) : (feastF v n).lookup ("told" : Str) = some v := by
  unfold feastF
  rw [lookup_putF, if_neg tb_ne, lookup_putF, if_pos rfl]
theorem feastF_bys (v : V) (n : Int) : (feastF v n).lookup ("bys" : Str) = some (.int n) := by
  unfold feastF
  rw [lookup_putF, if_pos rfl]
theorem feastF_no (v : V) (n : Int) {m : Str} (h1 : ¬ m = "told") (h2 : ¬ m = "bys") : (feastF v n).lookup m = none := by
  unfold feastF
  rw [lookup_putF, if_neg h2, lookup_putF, if_neg h1]
  all_goals rfl
/-- at p a feast of the rule r -/
def FeastAt (K : PySem.W.Frag) (CF : Addr) (H : Hp) (p : Addr) (r : Rl) : Prop := ∃ dx v, H p = some (.ins CF dx (feastF v r.bys)) ∧ RlAt K H v r
theorem FeastAt.mono {K : PySem.W.Frag} {CF p : Addr} {H H' : Hp} {r : Rl} (e : Ex H H') (h : FeastAt K CF H p r) : FeastAt K CF H' p r := by
  obtain ⟨dx, v, h1, h2⟩ := h
  exact ⟨dx, v, e _ _ h1, h2.mono e⟩
/-- a row: a pair of a feast and a truth -/
def RowAt (K : PySem.W.Frag) (CF : Addr) (H : Hp) (x : V) (r : Rl × Bool) : Prop := ∃ p q, x = .ref p ∧ SqT K H p [.ref q, .bl r.2] ∧ FeastAt K CF H q r.1
theorem RowAt.mono {K : PySem.W.Frag} {CF : Addr} {H H' : Hp} {x : V} {r : Rl × Bool} (e : Ex H H') (h : RowAt K CF H x r) : RowAt K CF H' x r := by
  obtain ⟨p, q, h0, h1, h2⟩ := h
  exact ⟨p, q, h0, ex_t e h1, h2.mono e⟩
/-- the items xs are rows -/
def RowsL (K : PySem.W.Frag) (CF : Addr) (H : Hp) : List V → Rows → Prop
  | [], [] => True
  | x :: xs, r :: rs => RowAt K CF H x r ∧ RowsL K CF H xs rs
  | _, _ => False
theorem RowsL.mono {K : PySem.W.Frag} {CF : Addr} {H H' : Hp} (e : Ex H H') : ∀ {xs : List V} {rs : Rows}, RowsL K CF H xs rs → RowsL K CF H' xs rs
  | [], [], _ => trivial
  | _ :: _, _ :: _, h => ⟨h.1.mono e, RowsL.mono e h.2⟩
  | [], _ :: _, h => h
  | _ :: _, [], h => h
theorem RowsL.len {K : PySem.W.Frag} {CF : Addr} {H : Hp} : ∀ {xs : List V} {rs : Rows}, RowsL K CF H xs rs → xs.length = rs.length
  | [], [], _ => rfl
  | _ :: _, _ :: _, h => congrArg (· + 1) (RowsL.len h.2)
  | [], _ :: _, h => h.elim
  | _ :: _, [], h => h.elim
theorem RowsL.get {K : PySem.W.Frag} {CF : Addr} {H : Hp} : ∀ {xs : List V} {rs : Rows} {i : Nat} {x : V}, RowsL K CF H xs rs → xs[i]? = some x → ∃ r, rs[i]? = some r ∧ RowAt K CF H x r
  | _ :: _, r :: _, 0, _, h, e => ⟨r, rfl, by cases e; exact h.1⟩
  | _ :: xs, _ :: rs, i + 1, x, h, e => RowsL.get (xs := xs) (rs := rs) (i := i) (x := x) h.2 e
  | [], [], i, x, _, e => by simp at e
  | [], _ :: _, _, _, h, _ => h.elim
  | _ :: _, [], _, _, h, _ => h.elim
/-- at v a tuple of rows -/
def RowsAt (K : PySem.W.Frag) (CF : Addr) (H : Hp) (v : V) (rs : Rows) : Prop := ∃ a xs, v = .ref a ∧ SqT K H a xs ∧ RowsL K CF H xs rs
theorem RowsAt.mono {K : PySem.W.Frag} {CF : Addr} {H H' : Hp} {v : V} {rs : Rows} (e : Ex H H') (h : RowsAt K CF H v rs) : RowsAt K CF H' v rs := by
  obtain ⟨a, xs, h0, h1, h2⟩ := h
  exact ⟨a, xs, h0, ex_t e h1, h2.mono e⟩
theorem take_more {α : Type} : ∀ {l : List α} {i : Nat} {x : α}, l[i]? = some x → l.take (i + 1) = l.take i ++ [x]
  | [], i, x, h => by simp at h
  | a :: l, 0, x, h => by cases h; rfl
  | a :: l, i + 1, x, h => by
    show a :: l.take (i + 1) = a :: l.take i ++ [x]
    rw [take_more (l := l) (i := i) (x := x) h]
    rfl
theorem cal_more (w m : Int) {rows : Rows} {i : Nat} {r : Rl × Bool} (h : rows[i]? = some r) : calDay w m (rows.take (i + 1)) = addRow w m (calDay w m (rows.take i)) r := by
  unfold calDay
  rw [take_more h, List.foldl_append]
  rfl
def depMax (rows : Rows) : Nat := rows.foldr (fun r n => max r.1.dep n) 0
theorem dep_le : ∀ {rows : Rows} {i : Nat} {r : Rl × Bool}, rows[i]? = some r → r.1.dep ≤ depMax rows
  | [], i, r, h => by simp at h
  | a :: rows, 0, r, h => by cases h; exact Nat.le_max_left _ _
  | a :: rows, i + 1, r, h => Nat.le_trans (dep_le (rows := rows) (i := i) (r := r) h) (Nat.le_max_right _ _)
end WF

set_option Elab.async false
set_option linter.all false
set_option maxRecDepth 100000
set_option maxHeartbeats 2000000
/-! WIsi: kinds of values, isinstance, constants of the top, an own error without arguments -/
namespace WF
open PySem L2 Evl
section
variable {K : PySem.W.Frag} {H H' : Hp} {a : Addr} {xs : List V} {x : V} {t : Value}
theorem ty_tup (h : SqT K H a xs) : TyX K H (.ref a) (.type "tuple") := by
  rcases h with (h | ⟨o, h⟩) | ⟨o, its, n, h, c, _⟩
  · exact .base (.tup h)
  · exact .fTuple h
  · exact .kTuple h c
theorem ty_lst (h : SqL K H a xs) : TyX K H (.ref a) (.type "list") := by
  rcases h with (h | ⟨o, h⟩) | ⟨o, its, n, h, c, _⟩
  · exact .base (.lst h)
  · exact .base (.frz h)
  · exact .kList h c
theorem TyOf.mono (e : Ex H H') (h : TyOf K H x t) : TyOf K H' x t := by
  cases h with
  | non => exact .non
  | bl b => exact .bl b
  | int i => exact .int i
  | str z => exact .str z
  | flt z => exact .flt z
  | lst h => exact .lst (e _ _ h)
  | frz h => exact .frz (e _ _ h)
  | tup h => exact .tup (e _ _ h)
  | dK h => exact .dK (e _ _ h)
  | dT h => exact .dT (e _ _ h)
  | ins h cl ha hn htk hm => exact .ins (e _ _ h) cl ha hn htk hm
theorem ty_mono (e : Ex H H') (h : TyX K H x t) : TyX K H' x t := by
  cases h with
  | base h => exact .base (TyOf.mono e h)
  | byt b => exact .byt b
  | set h => exact .set (e _ _ h)
  | kList h c => exact .kList h c
  | kTuple h c => exact .kTuple h c
  | kDict h c => exact .kDict h c
  | fTuple h => exact .fTuple (e _ _ h)
  | fDict h => exact .fDict (e _ _ h)
theorem ty_int (i : Int) : TyX K H (.int i) (.type "int") := .base (.int i)
theorem ty_bl (i : Bool) : TyX K H (.bl i) (.type "bool") := .base (.bl i)
theorem ty_str (i : Str) : TyX K H (.str i) (.type "str") := .base (.str i)
theorem ty_non : TyX K H .non (.type "NoneType") := .base .non
end
section
variable {K : PySem.W.Frag} {σ : L2.St} {H H' : Hp} {ta tb tc te : TE} {x y z v : V} {r r' : R2} {t u : TT}
theorem ev_isi {b : Bool} {T : String} {ty : Value} (h : Ev ta σ H x) (hy : TyX K H x ty) (hb : PySem.W.kitOne K ty (.type T) = some b) : Ev (tCB (rIsi K) (tCons ta (tCons (tC (.ty T)) tNil))) σ H (.bl b) := fun H1 e Q q =>
  h H1 e _ fun H2 e2 => ⟨x, _, _, _, b, rfl, .ty T, ty_mono (e.trans e2) hy, hb, q H2 e2⟩
theorem ev_isiC {b : Bool} {C : Addr} {ty : Value} (h : Ev ta σ H x) (hy : TyX K H x ty) (hb : PySem.W.kitOne K ty (.ref C) = some b) : Ev (tCB (rIsi K) (tCons ta (tCons (tC (.ref C)) tNil))) σ H (.bl b) := fun H1 e Q q =>
  h H1 e _ fun H2 e2 => ⟨x, _, _, _, b, rfl, .own C, ty_mono (e.trans e2) hy, hb, q H2 e2⟩
theorem ev_lenT {p : Addr} {xs : List V} (ha : Ev ta σ H (.ref p)) (h : SqT K H p xs) : Ev (tCB (rLenS K) (tCons ta tNil)) σ H (.int (xs.length : Int)) := fun H1 e Q q =>
  ha H1 e _ fun H2 e2 => ⟨p, xs, rfl, .inr (ex_t (e.trans e2) h), q H2 e2⟩
theorem ev_chain {b1 b2 : Bool} (ha : Ev ta σ H x) (hb : Ev tb σ H y) (hr : RV r x y H (.bl b1)) (hc : b1 = true → Ev tc σ H z) (hr' : b1 = true → RV r' y z H (.bl b2)) : Ev (tChain r r' ta tb tc) σ H (.bl (b1 && b2)) := fun H1 e Q q =>
  ha H1 e _ fun H2 e2 => hb H2 (e.trans e2) _ fun H3 e3 => hr H3 ((e.trans e2).trans e3) _ fun H4 e4 => ⟨b1, rfl, by
    cases b1 with
    | true =>
      show tc σ H4 fun w' H5 => r' y w' H5 Q
      exact hc rfl H4 (((e.trans e2).trans e3).trans e4) _ fun H5 e5 => hr' rfl H5 ((((e.trans e2).trans e3).trans e4).trans e5) Q fun H6 e6 => q H6 ((((e2.trans e3).trans e4).trans e5).trans e6)
    | false =>
      show Q (.bl false) H4
      exact q H4 ((e2.trans e3).trans e4)⟩
theorem ev_all {ta : TE} {bs : List Bool} (h : EvL ta σ H (bs.map V.bl)) : Ev (tCB (rAll K) (tCons ta tNil)) σ H (.bl (bs.all id)) := fun H1 e Q q =>
  h H1 e _ fun p H2 _ e2 h2 => ⟨p, bs, rfl, sq_of h2, q H2 e2⟩
/-- a comprehension over a tuple; over a tuple, a list of pairs -/
theorem el_tupN {a : Addr} {xs : List V} {tl : TE} {j : Nat} {vs : List Nat} (f : Nat → Bool) (v : Nat → V) (h : Ev tl σ H (.ref a)) (hx : SqT K H a xs) (hz : xs.length ≤ 40000) (hw : ∀ x, wipe ((wipe σ vs).set j (some x)) vs = wipe σ vs)
    (ht : ∀ (i : Nat) (x : V) H1, Ex H H1 → xs[i]? = some x → EvT t ((wipe σ vs).set j (some x)) H1 (f i))
    (he : ∀ (i : Nat) (x : V) H1, Ex H H1 → xs[i]? = some x → f i = true → Ev te ((wipe σ vs).set j (some x)) H1 (v i)) : EvL (tLc (iTup K tl) (gName j) t te vs) σ H (given xs.length f v) := by
  intro H0 e Q q
  refine h H0 e _ fun H1 e1 => ⟨a, rfl, ⟨xs, ex_t (e.trans e1) hx⟩, fun Dl hD => ?_⟩
  refine lc_tup (xs := xs) (Cw H1 f v Dl) ⟨hD, Ex.new hD, upd_same⟩ (fun i H' _ p => ex_t ((e.trans e1).trans p.2.1) hx) (fun i x H' hi p => ⟨hw x, ?_⟩) fun H' p => q Dl H' (fresh_back e1 p.1) (e1.trans p.2.1) p.2.2
  have hlt := (List.getElem?_eq_some_iff.mp hi).1
  exact cw_turn p (by omega) (ht i x H1 (e.trans e1) hi) fun hf => he i x H1 (e.trans e1) hi hf
theorem el_tup2 {a : Addr} {xs : List V} {tl : TE} {j k : Nat} {vs : List Nat} (A B : Nat → V) (f : Nat → Bool) (v : Nat → V) (h : Ev tl σ H (.ref a)) (hx : SqT K H a xs) (hz : xs.length ≤ 40000) (hw : ∀ x y, wipe (((wipe σ vs).set j (some x)).set k (some y)) vs = wipe σ vs)
    (hp : ∀ (i : Nat) (x : V), xs[i]? = some x → ∃ p, x = .ref p ∧ SqT K H p [A i, B i])
    (ht : ∀ (i : Nat) H1, Ex H H1 → i < xs.length → EvT t (((wipe σ vs).set j (some (A i))).set k (some (B i))) H1 (f i))
    (he : ∀ (i : Nat) H1, Ex H H1 → i < xs.length → f i = true → Ev te (((wipe σ vs).set j (some (A i))).set k (some (B i))) H1 (v i)) :
    EvL (tLc (iTup K tl) (gTup K 2 (gCons (gName j) (gCons (gName k) gNil))) t te vs) σ H (given xs.length f v) := by
  intro H0 e Q q
  refine h H0 e _ fun H1 e1 => ⟨a, rfl, ⟨xs, ex_t (e.trans e1) hx⟩, fun Dl hD => ?_⟩
  refine lc_tup (xs := xs) (Cw H1 f v Dl) ⟨hD, Ex.new hD, upd_same⟩ (fun i H' _ p => ex_t ((e.trans e1).trans p.2.1) hx) (fun i x H' hi p => ?_) fun H' p => q Dl H' (fresh_back e1 p.1) (e1.trans p.2.1) p.2.2
  have hlt := (List.getElem?_eq_some_iff.mp hi).1
  obtain ⟨r, rfl, hr⟩ := hp i x hi
  exact ⟨_, _, rfl, ex_t ((e.trans e1).trans p.2.1) hr, rfl, _, _, rfl, _, _, rfl, rfl, hw _ _, cw_turn p (by omega) (ht i H1 (e.trans e1) hlt) fun hf => he i H1 (e.trans e1) hlt hf⟩
theorem el_lst2 {a : Addr} {xs : List V} {tl : TE} {j k : Nat} {vs : List Nat} (A B : Nat → V) (f : Nat → Bool) (v : Nat → V) (h : Ev tl σ H (.ref a)) (hx : SqL K H a xs) (hz : xs.length ≤ 40000) (hw : ∀ x y, wipe (((wipe σ vs).set j (some x)).set k (some y)) vs = wipe σ vs)
    (hp : ∀ (i : Nat) (x : V), xs[i]? = some x → ∃ p, x = .ref p ∧ SqT K H p [A i, B i])
    (ht : ∀ (i : Nat) H1, Ex H H1 → i < xs.length → EvT t (((wipe σ vs).set j (some (A i))).set k (some (B i))) H1 (f i))
    (he : ∀ (i : Nat) H1, Ex H H1 → i < xs.length → f i = true → Ev te (((wipe σ vs).set j (some (A i))).set k (some (B i))) H1 (v i)) :
    EvL (tLc (iList K tl) (gTup K 2 (gCons (gName j) (gCons (gName k) gNil))) t te vs) σ H (given xs.length f v) := by
  intro H0 e Q q
  refine h H0 e _ fun H1 e1 => ⟨a, rfl, ⟨xs, ex_l (e.trans e1) hx⟩, fun Dl hD => ?_⟩
  refine lc_list (xs := xs) (Cw H1 f v Dl) ⟨hD, Ex.new hD, upd_same⟩ (fun i H' _ p => ex_l ((e.trans e1).trans p.2.1) hx) (fun i x H' hi p => ?_) fun H' p => q Dl H' (fresh_back e1 p.1) (e1.trans p.2.1) p.2.2
  have hlt := (List.getElem?_eq_some_iff.mp hi).1
  obtain ⟨r, rfl, hr⟩ := hp i x hi
  exact ⟨_, _, rfl, ex_t ((e.trans e1).trans p.2.1) hr, rfl, _, _, rfl, _, _, rfl, rfl, hw _ _, cw_turn p (by omega) (ht i H1 (e.trans e1) hlt) fun hf => he i H1 (e.trans e1) hlt hf⟩
theorem given_allL {α : Type} (xs : List α) (v : Nat → V) : given xs.length (fun _ => true) v = (List.range xs.length).map v := given_all _ _
end
/-! ### a constant of the top; an own error without arguments -/
section
variable {X : Cx}
theorem pe_globE {x : Str} {v : V} {pos : Pos} (hg : Gl X x) (h : ∃ u, X.mg x = some u ∧ RelV v u) (hd : (x == ("__debug__" : Str)) = false := by decide) : PE X (.Name x pos) (tC v) := by
  obtain ⟨u, h1, h2⟩ := h
  exact pe_glob hg h1 h2 hd
theorem pmk_own0 {C : Addr} {bmB : List Value} {B newId initId : String} {x : Str} {p pos : Pos} (F : ExcBaseFacts B newId initId bmB) (q : PySem.W.excIn X.K C bmB newId = true) (gC : X.mg x = some (.ref C))
    (kC : PySem.W.keepIn X.K (.ref C) = true) (r : Raises X (.ref C)) (hg : Gl X x) (hdb : (x == ("__debug__" : Str)) = false := by decide) : PMk X (.Call (.Name x p) [] [] pos) (fun _ H Q => Q (.ref C) none H) := by
  intro pins s σ H Q I h
  refine wpAny_Call_Name_kw (ld_glob I hg gC ?_ hdb)
  refine PySem.W.callWith_K0 I.kIn kC ?_
  obtain ⟨bm, N, nm, qn, bs, hdct, sn, sub, ab, col, dd, k0, k1, k2, k3, k5, mN, hC, hN, hni, T⟩ := exc_obj I.kIn q
  refine wpAny_call_exc_subT F T hC hN hni (fun h' e hm => ?_) (Nat.zero_le _)
  exact mk_of I hm r h (I.hok.gone hm.new)
end
/-- what the top says of an own error class without a method of its own -/
structure Err (K : PySem.W.Frag) (C : Addr) : Prop where
  ex : PySem.W.excIn K C [.type "ValueError", .type "Exception", .type "BaseException", .type "object"] "ValueError.__new__" = true
  kp : PySem.W.keepIn K (.ref C) = true
  be : PySem.W.subIn K (.ref C) (.type "BaseException") = some true
  ty : PySem.W.typeIn K (.ref C) = some (.type "type")
  is : PySem.W.isClsIn K C = true
  se : PySem.W.subIn K (.ref C) (.ref C) = some true
section
variable {X : Cx}
/-- raise C() -/
theorem ps_raise0 {W : WX} {C : Addr} {x : Str} {p pos pos2 : Pos} (hc : X.calm = true) (tk : Takes X W) (h : Err X.K C) (gC : X.mg x = some (.ref C)) (hg : Gl X x) (hdb : (x == ("__debug__" : Str)) = false := by decide) :
    PS X (.Raise (some (.Call (.Name x p) [] [] pos)) none pos2) (fun _ σ H => W (.ref C) none σ H) :=
  ps_raise hc tk (pmk_own0 PySem.F.excBase_ValueError h.ex gC h.kp (raises_own h.be h.ty) hg hdb)
end
/-! ### kinds that the program asks for -/
/-- a kind that is no integer's (a truth's is none) -/
def NotI (K : PySem.W.Frag) (t : Value) : Prop := ∃ b1 b2, PySem.W.kitOne K t (.type "int") = some b1 ∧ PySem.W.kitOne K t (.type "bool") = some b2 ∧ (b1 && !b2) = false
theorem notI_ty {K : PySem.W.Frag} {a : String} {b1 b2 : Bool} (h1 : kitB a "int" = some b1) (h2 : kitB a "bool" = some b2) (h : (b1 && !b2) = false) : NotI K (.type a) := ⟨b1, b2, kit_ty h1, kit_ty h2, h⟩
theorem notI_non {K : PySem.W.Frag} : NotI K (.type "NoneType") := notI_ty (b1 := false) (b2 := false) (by decide +kernel) (by decide +kernel) rfl
theorem notI_bl {K : PySem.W.Frag} : NotI K (.type "bool") := notI_ty (b1 := true) (b2 := true) (by decide +kernel) (by decide +kernel) rfl
theorem notI_str {K : PySem.W.Frag} : NotI K (.type "str") := notI_ty (b1 := false) (b2 := false) (by decide +kernel) (by decide +kernel) rfl
theorem notI_tup {K : PySem.W.Frag} : NotI K (.type "tuple") := notI_ty (b1 := false) (b2 := false) (by decide +kernel) (by decide +kernel) rfl
theorem kit_ii {K : PySem.W.Frag} : PySem.W.kitOne K (.type "int") (.type "int") = some true := kit_ty (by decide +kernel)
theorem kit_ib {K : PySem.W.Frag} : PySem.W.kitOne K (.type "int") (.type "bool") = some false := kit_ty (by decide +kernel)
theorem kit_tt {K : PySem.W.Frag} : PySem.W.kitOne K (.type "tuple") (.type "tuple") = some true := kit_ty (by decide +kernel)
/-- a value that is an integer z (some z) or none -/
inductive NumV (K : PySem.W.Frag) (H : Hp) : V → Option Int → Prop where
  | int (z : Int) : NumV K H (.int z) (some z)
  | odd {v : V} {t : Value} (h : TyX K H v t) (n : NotI K t) : NumV K H v none
theorem NumV.mono {K : PySem.W.Frag} {H H' : Hp} {v : V} {o : Option Int} (e : Ex H H') (h : NumV K H v o) : NumV K H' v o := by
  cases h with
  | int z => exact .int z
  | odd h n => exact .odd (ty_mono e h) n
def landB (w m : Int) : Bool := decide (2 ≤ w) && decide (w < m) && decide (Int.gcd m w = 1)
/-- a value, and whether it is a land -/
inductive LandV (K : PySem.W.Frag) (H : Hp) : V → Bool → Prop where
  | no {v : V} {t : Value} (h : TyX K H v t) (n : PySem.W.kitOne K t (.type "tuple") = some false) : LandV K H v false
  | len {a : Addr} {xs : List V} (h : SqT K H a xs) (n : xs.length ≠ 2) (z : xs.length ≤ 100) : LandV K H (.ref a) false
  | odd {a : Addr} {x y : V} {o p : Option Int} (h : SqT K H a [x, y]) (hx : NumV K H x o) (hy : NumV K H y p) (n : o = none ∨ p = none) : LandV K H (.ref a) false
  | two {a : Addr} {w m : Int} (h : SqT K H a [.int w, .int m]) (z1 : -4294967296 < w ∧ w < 4294967296) (z2 : -4294967296 < m ∧ m < 4294967296) : LandV K H (.ref a) (landB w m)
theorem LandV.mono {K : PySem.W.Frag} {H H' : Hp} {v : V} {b : Bool} (e : Ex H H') (h : LandV K H v b) : LandV K H' v b := by
  cases h with
  | no h n => exact .no (ty_mono e h) n
  | len h n z => exact .len (ex_t e h) n z
  | odd h hx hy n => exact .odd (ex_t e h) (hx.mono e) (hy.mono e) n
  | two h z1 z2 => exact .two (ex_t e h) z1 z2
section
variable {K : PySem.W.Frag} {σ : L2.St} {H H' : Hp} {ta tb tc te : TE} {x y z v : V} {r r' : R2} {t u : TT}
/-- isinstance(x, int) and not isinstance(x, bool) -/
theorem ev_isInt {o : Option Int} (h : ∀ H1, Ex H H1 → Ev ta σ H1 x) (hx : NumV K H x o) : Ev (tAndV (tCB (rIsi K) (tCons ta (tCons (tC (.ty "int")) tNil))) (tNotV (tCB (rIsi K) (tCons ta (tCons (tC (.ty "bool")) tNil))))) σ H (.bl o.isSome) := by
  cases hx with
  | int z => exact ev_is (ev_andV (ev_isi (h H (Ex.refl H)) (ty_int z) kit_ii) fun _ => ev_notV (ev_isi (h H (Ex.refl H)) (ty_int z) kit_ib)) rfl
  | odd hy n =>
    obtain ⟨b1, b2, h1, h2, h3⟩ := n
    exact ev_is (ev_andV (ev_isi (h H (Ex.refl H)) hy h1) fun _ => ev_notV (ev_isi (h H (Ex.refl H)) hy h2)) (by rw [h3]; rfl)
/-- .. and a third test -/
theorem ev_isInt3 {o : Option Int} {b : Bool} (h : Ev ta σ H x) (hx : NumV K H x o) (hb : ∀ z, o = some z → x = .int z → Ev tb σ H (.bl b)) (hn : o = none → b = false) :
    Ev (tAndV (tCB (rIsi K) (tCons ta (tCons (tC (.ty "int")) tNil))) (tAndV (tNotV (tCB (rIsi K) (tCons ta (tCons (tC (.ty "bool")) tNil)))) tb)) σ H (.bl b) := by
  cases hx with
  | int z => exact ev_is (ev_andV (ev_isi h (ty_int z) kit_ii) fun _ => ev_andV (ev_notV (ev_isi h (ty_int z) kit_ib)) fun _ => hb z rfl rfl) (by cases b <;> rfl)
  | odd hy n =>
    obtain ⟨b1, b2, h1, h2, h3⟩ := n
    rw [hn rfl]
    cases b1 with
    | false => exact ev_is (ev_andV (b := false) (ev_isi h hy h1) fun q => nomatch q) rfl
    | true =>
      have hb2 : b2 = true := by cases b2 <;> simp_all
      subst hb2
      exact ev_is (ev_andV (ev_isi h hy h1) fun _ => ev_andV (b := false) (ev_notV (ev_isi h hy h2)) fun q => nomatch q) rfl
theorem q_dropX {sp : Sp} {E : XK} {ta : TA} {tz : TS} {D : Ends} {vs : List V} (h : EvA ta σ H vs) (k : ∀ H1, Ex H H1 → sp vs H1 (fun _ H2 => tz D σ H2) E) : tSeq (tDrop (tCall sp [] E ta)) tz D σ H :=
  h H (Ex.refl H) _ fun H1 e => by
    rw [List.append_nil]
    exact k H1 e
end
/-! ### calendars -/
def calF (v : V) (n : Int) : List (Str × V) := putF "near" (.int n) (putF "rows" v [])
theorem rn_ne : ¬ (("rows" : Str) = "near") := by decide +kernel
theorem calF_rows (v : V) (n : Int) : (calF v n).lookup ("rows" : Str) = some v := by
  unfold calF
  rw [lookup_putF, if_neg rn_ne, lookup_putF, if_pos rfl]
theorem calF_near (v : V) (n : Int) : (calF v n).lookup ("near" : Str) = some (.int n) := by
  unfold calF
  rw [lookup_putF, if_pos rfl]
theorem calF_no (v : V) (n : Int) {m : Str} (h1 : ¬ m = "rows") (h2 : ¬ m = "near") : (calF v n).lookup m = none := by
  unfold calF
  rw [lookup_putF, if_neg h2, lookup_putF, if_neg h1]
  all_goals rfl
def rowsBys (rows : Rows) : Nat := (rows.map fun r => r.1.bys).sum
def reachOf (rows : Rows) : Nat := 3 + rowsBys rows + (rows.filter fun r => r.2).length
/-- at v a calendar -/
def CalAt (K : PySem.W.Frag) (CF CC : Addr) (H : Hp) (v : V) (rows : Rows) : Prop := ∃ c dx rv, v = .ref c ∧ H c = some (.ins CC dx (calF rv (reachOf rows))) ∧ RowsAt K CF H rv rows
theorem CalAt.mono {K : PySem.W.Frag} {CF CC : Addr} {H H' : Hp} {v : V} {rows : Rows} (e : Ex H H') (h : CalAt K CF CC H v rows) : CalAt K CF CC H' v rows := by
  obtain ⟨c, dx, rv, h0, h1, h2⟩ := h
  exact ⟨c, dx, rv, h0, e _ _ h1, h2.mono e⟩
end WF

set_option Elab.async false
set_option linter.all false
set_option maxRecDepth 100000
set_option maxHeartbeats 2000000
/-! WSize: the written tables ENDS, PAIRS, BYS; how a value's size comes -/
namespace WF
open PySem L2 Evl
structure EndsAt (w : World) (K : PySem.W.Frag) (d aW aM : Addr) : Prop where
  kd : ∃ es n, KDict K w d es n
  week : PySem.W.nsIn K d "weekday" = some (some (.ref aW))
  first : PySem.W.nsIn K d "first" = some (some (.ref aW))
  month : PySem.W.nsIn K d "monthday" = some (some (.ref aM))
  no : ∀ z ∈ (["behind", "both", "either", "without", "week"] : List Str), PySem.W.nsIn K d z = some none
  sW : ∀ H, SqT K H aW [.int (-2), .int (-1), .int 0, .int 1]
  sM : ∀ H, SqT K H aM [.int (-3), .int (-2), .int (-1), .int 0, .int 1, .int 2]
def isEnd (s : Str) : Prop := s = "weekday" ∨ s = "first" ∨ s = "monthday"
def isPair (s : Str) : Prop := s = "both" ∨ s = "either" ∨ s = "without"
def endOk (s : Str) (k : Int) : Bool := if s = "monthday" then decide (-3 ≤ k ∧ k ≤ 2) else decide (-2 ≤ k ∧ k ≤ 1)
def byOk (k : Int) : Bool := decide (k = -2 ∨ k = -1 ∨ k = 1 ∨ k = 2)
theorem EndsAt.in {w : World} {K : PySem.W.Frag} {d aW aM : Addr} (h : EndsAt w K d aW aM) {s : Str} (hs : isEnd s) : ∃ a, PySem.W.nsIn K d s = some (some (.ref a)) ∧ ∃ xs, (∀ H, SqT K H a xs) ∧ xs.all flatV = true ∧ ∀ k, inV (.int k) xs = endOk s k := by
  have w1 : ∀ k, inV (.int k) [.int (-2), .int (-1), .int 0, .int 1] = decide (-2 ≤ k ∧ k ≤ 1) := fun k => by
    rw [Bool.eq_iff_iff, decide_eq_true_iff]
    simp [inV, eqV]
    omega
  have m1 : ∀ k, inV (.int k) [.int (-3), .int (-2), .int (-1), .int 0, .int 1, .int 2] = decide (-3 ≤ k ∧ k ≤ 2) := fun k => by
    rw [Bool.eq_iff_iff, decide_eq_true_iff]
    simp [inV, eqV]
    omega
  rcases hs with rfl | rfl | rfl
  · exact ⟨aW, h.week, _, h.sW, rfl, fun k => by rw [w1, endOk, if_neg (by decide +kernel)]⟩
  · exact ⟨aW, h.first, _, h.sW, rfl, fun k => by rw [w1, endOk, if_neg (by decide +kernel)]⟩
  · exact ⟨aM, h.month, _, h.sM, rfl, fun k => by rw [m1, endOk, if_pos rfl]⟩
theorem EndsAt.kdct {w : World} {K : PySem.W.Frag} {d aW aM a : Addr} (h : EndsAt w K d aW aM) {s : Str} (e : PySem.W.nsIn K d s = some (some (.ref a))) : KDct K w d s (.ref a) := by
  obtain ⟨es, n, k⟩ := h.kd
  exact ⟨es, n, _, k.at_, k.lit, e, rfl⟩
def pairsV : List V := [.str "both", .str "either", .str "without"]
def bysV : List V := [.int (-2), .int (-1), .int 1, .int 2]
theorem inV_bys (k : Int) : inV (.int k) bysV = byOk k := by
  unfold byOk
  rw [Bool.eq_iff_iff, decide_eq_true_iff]
  simp [inV, eqV, bysV]
  omega
theorem inV_pairs (s : Str) : inV (.str s) pairsV = decide (s = "both" ∨ s = "either" ∨ s = "without") := by
  rw [Bool.eq_iff_iff, decide_eq_true_iff]
  simp [inV, eqV, pairsV]
  constructor
  · rintro (h | h | h) <;> simp [h]
  · rintro (h | h | h) <;> simp [h]
/-! ### x == () -/
def rEqE (K : PySem.W.Frag) : R2 := fun x y H Q => ∃ p q xs, x = .ref p ∧ y = .ref q ∧ SqT K H p xs ∧ SqT K H q [] ∧ Q (.bl xs.isEmpty) H
theorem op_eqE {X : Cx} (hu : X.A.units + 1 < cLine) : OpR X (compareOp .Eq) (rEqE X.K) := by
  intro pins s σ H x y v u Q I rx ry h
  obtain ⟨p, q, xs, rfl, rfl, h1, h2, hq⟩ := h
  cases rx
  cases ry
  obtain ⟨its, r, pl, hz⟩ := I.tuple h1
  obtain ⟨its2, r2, pl2, hz2⟩ := I.tuple h2
  have e2 : its2 = [] := by
    have := r2.length
    exact List.length_eq_zero_iff.mp (by simpa using this.symm)
  subst e2
  have hk : ((List.range (min its.toArray.size ([] : List Value).toArray.size)).all (fun _ => true) && its.toArray.size == ([] : List Value).toArray.size) = xs.isEmpty := by
    have := r.length
    cases xs with
    | nil =>
      have e : its = [] := List.length_eq_zero_iff.mp (by simpa using this.symm)
      subst e; rfl
    | cons a l =>
      cases its with
      | nil => simp at this
      | cons b l2 => simp
  refine SeqAt.RcAt.tuples (A := X.A) (e := fun _ => true) pl pl2 (by omega) (fun j h1 h2 => absurd h2 (by simp)) _ _ _ _ ?_
  rw [hk]
  exact ⟨.bl _, H, I, rfl, hq⟩
/-! ### the size of a value, of which no more than n parts are wanted -/
inductive SzAt (K : PySem.W.Frag) (H : Hp) : V → Nat → Option (Nat × Nat) → Prop where
  | zero {v : V} : SzAt K H v 0 none
  | kind {v : V} {t : Value} {n : Nat} (h : TyX K H v t) (k : PySem.W.kitOne K t (.type "tuple") = some false) : SzAt K H v (n + 1) none
  | empty {a : Addr} {n : Nat} (h : SqT K H a []) : SzAt K H (.ref a) (n + 1) none
  | head {a : Addr} {x : V} {xs : List V} {t : Value} {n : Nat} (h : SqT K H a (x :: xs)) (ht : TyX K H x t) (k : PySem.W.kitOne K t (.type "str") = some false) : SzAt K H (.ref a) (n + 1) none
  | leaf {a : Addr} {s : Str} {k : Int} {n : Nat} (hs : isEnd s) (h : SqT K H a [.str s, .int k]) (ok : endOk s k = true) : SzAt K H (.ref a) (n + 1) (some (1, 0))
  | leafLen {a : Addr} {s : Str} {xs : List V} {n : Nat} (hs : isEnd s) (h : SqT K H a (.str s :: xs)) (l : xs.length ≠ 1) : SzAt K H (.ref a) (n + 1) none
  | leafNum {a : Addr} {s : Str} {x : V} {o : Option Int} {n : Nat} (hs : isEnd s) (h : SqT K H a [.str s, x]) (hx : NumV K H x o) (no : ∀ z, o = some z → endOk s z = false) : SzAt K H (.ref a) (n + 1) none
  | word {a : Addr} {s : Str} {xs : List V} {n : Nat} (hs : s ∈ (["behind", "both", "either", "without", "week"] : List Str)) (h : SqT K H a (.str s :: xs)) (l : xs.length ≠ 2 ∨ s = "week") : SzAt K H (.ref a) (n + 1) none
  | byBad {a : Addr} {x b : V} {o : Option Int} {n : Nat} (h : SqT K H a [.str "behind", x, b]) (hb : NumV K H b o) (no : ∀ z, o = some z → byOk z = false) : SzAt K H (.ref a) (n + 1) none
  | behind {a : Addr} {x : V} {b : Int} {n : Nat} {o : Option (Nat × Nat)} (h : SqT K H a [.str "behind", x, .int b]) (ok : byOk b = true) (hx : SzAt K H x n o) : SzAt K H (.ref a) (n + 1) (o.map fun p => (1 + p.1, b.natAbs + p.2))
  | pairNo {a : Addr} {s : Str} {x y : V} {n : Nat} (hs : isPair s) (h : SqT K H a [.str s, x, y]) (hx : SzAt K H x n none) : SzAt K H (.ref a) (n + 1) none
  | pair {a : Addr} {s : Str} {x y : V} {n p q : Nat} {o : Option (Nat × Nat)} (hs : isPair s) (h : SqT K H a [.str s, x, y]) (hx : SzAt K H x n (some (p, q))) (hp : p ≤ n) (hy : SzAt K H y (n - p) o) : SzAt K H (.ref a) (n + 1) (o.map fun r => (1 + p + r.1, q + r.2))
theorem SzAt.mono {K : PySem.W.Frag} {H H' : Hp} {v : V} {n : Nat} {o : Option (Nat × Nat)} (e : Ex H H') (h : SzAt K H v n o) : SzAt K H' v n o := by
  induction h with
  | zero => exact .zero
  | kind h k => exact .kind (ty_mono e h) k
  | empty h => exact .empty (ex_t e h)
  | head h ht k => exact .head (ex_t e h) (ty_mono e ht) k
  | leaf hs h ok => exact .leaf hs (ex_t e h) ok
  | leafLen hs h l => exact .leafLen hs (ex_t e h) l
  | leafNum hs h hx no => exact .leafNum hs (ex_t e h) (hx.mono e) no
  | word hs h l => exact .word hs (ex_t e h) l
  | byBad h hb no => exact .byBad (ex_t e h) (hb.mono e) no
  | behind h ok _ i => exact .behind (ex_t e h) ok i
  | pairNo hs h _ i => exact .pairNo hs (ex_t e h) i
  | pair hs h _ hp _ i j => exact .pair hs (ex_t e h) i hp j
def szOf (r : Rl) (n : Nat) : Option (Nat × Nat) := if r.parts ≤ n then some (r.parts, r.bys) else none
theorem parts_pos : ∀ r : Rl, 1 ≤ r.parts
  | .wk _ | .fs _ | .md _ => Nat.le_refl _
  | .bh r _ => by simp only [Rl.parts]; omega
  | .bo x y | .ei x y | .wo x y => by simp only [Rl.parts]; omega
theorem szOf_pair {K : PySem.W.Frag} {H : Hp} {a : Addr} {s : Str} {u v : V} {x y r : Rl} (hp : r.parts = 1 + x.parts + y.parts) (hb : r.bys = x.bys + y.bys) (hs : isPair s) (h : SqT K H a [.str s, u, v])
    (hx : ∀ n, SzAt K H u n (szOf x n)) (hy : ∀ n, SzAt K H v n (szOf y n)) : ∀ n, SzAt K H (.ref a) n (szOf r n)
  | 0 => by
    have := parts_pos x
    unfold szOf
    rw [if_neg (by omega)]
    exact .zero
  | n + 1 => by
    by_cases h1 : x.parts ≤ n
    · have e := SzAt.pair (o := szOf y (n - x.parts)) hs h (by have := hx n; rw [szOf, if_pos h1] at this; exact this) h1 (hy _)
      have e2 : (szOf y (n - x.parts)).map (fun r => (1 + x.parts + r.1, x.bys + r.2)) = szOf r (n + 1) := by
        unfold szOf
        by_cases h2 : y.parts ≤ n - x.parts
        · rw [if_pos h2, if_pos (by omega), hp, hb]; rfl
        · rw [if_neg h2, if_neg (by omega)]; rfl
      rw [← e2]
      exact e
    · unfold szOf
      rw [if_neg (by omega)]
      exact .pairNo hs h (by have := hx n; rw [szOf, if_neg h1] at this; exact this)
/-- a rule of which all numbers may stand -/
theorem sz_of {K : PySem.W.Frag} {H : Hp} {v : V} {r : Rl} (h : RlAt K H v r) (hf : r.fit = true) : ∀ n, SzAt K H v n (szOf r n) := by
  have leaf : ∀ {a : Addr} {s : Str} {k : Int} {r : Rl}, r.parts = 1 → r.bys = 0 → isEnd s → SqT K H a [.str s, .int k] → endOk s k = true → ∀ n, SzAt K H (.ref a) n (szOf r n) := by
    intro a s k r h1 h2 hs hT ok n
    cases n with
    | zero => rw [szOf, if_neg (by omega)]; exact .zero
    | succ n => rw [szOf, if_pos (by omega), h1, h2]; exact .leaf hs hT ok
  induction h with
  | wk h => exact leaf rfl rfl (.inl rfl) h (by rw [endOk, if_neg (by decide +kernel)]; exact hf)
  | fs h => exact leaf rfl rfl (.inr (.inl rfl)) h (by rw [endOk, if_neg (by decide +kernel)]; exact hf)
  | md h => exact leaf rfl rfl (.inr (.inr rfl)) h (by rw [endOk, if_pos rfl]; exact hf)
  | bh h _ i =>
    rename_i p u r b _
    simp only [Rl.fit, Bool.and_eq_true] at hf
    intro n
    cases n with
    | zero => rw [szOf, if_neg (by have := parts_pos (.bh r b); omega)]; exact .zero
    | succ n =>
      have e := SzAt.behind h hf.1 (i hf.2 n)
      have e2 : (szOf r n).map (fun p => (1 + p.1, b.natAbs + p.2)) = szOf (.bh r b) (n + 1) := by
        have hp : (Rl.bh r b).parts = 1 + r.parts := rfl
        unfold szOf
        by_cases h2 : r.parts ≤ n
        · rw [if_pos h2, if_pos (show (Rl.bh r b).parts ≤ n + 1 by omega)]; rfl
        · rw [if_neg h2, if_neg (show ¬ (Rl.bh r b).parts ≤ n + 1 by omega)]; rfl
      rw [← e2]
      exact e
  | bo h _ _ i j =>
    simp only [Rl.fit, Bool.and_eq_true] at hf
    exact szOf_pair rfl rfl (.inl rfl) h (i hf.1) (j hf.2)
  | ei h _ _ i j =>
    simp only [Rl.fit, Bool.and_eq_true] at hf
    exact szOf_pair rfl rfl (.inr (.inl rfl)) h (i hf.1) (j hf.2)
  | wo h _ _ i j =>
    simp only [Rl.fit, Bool.and_eq_true] at hf
    exact szOf_pair rfl rfl (.inr (.inr rfl)) h (i hf.1) (j hf.2)
/-- what a size comes back as -/
def RetO (o : Option (Nat × Nat)) (H : Hp) (Q : VK) : Prop := (o = none → RetV .non H Q) ∧ ∀ p q, o = some (p, q) → ∀ t H2, H t = none → Ex H H2 → H2 t = some (.tup [.int (p : Int), .int (q : Int)]) → Q (.ref t) H2
theorem at0 {x : V} {xs : List V} : atI (x :: xs) 0 = some x := atI_nat (j := 0) rfl
theorem RetO.back {o : Option (Nat × Nat)} {H H' : Hp} {Q : VK} (k : RetO o H Q) (e : Ex H H') : RetO o H' Q :=
  ⟨fun h H2 e2 => k.1 h H2 (e.trans e2), fun p q h t H2 ht e2 h2 => k.2 p q h t H2 (fresh_back e ht) (e.trans e2) h2⟩
end WF

set_option Elab.async false
set_option linter.all false
set_option maxRecDepth 100000
set_option maxHeartbeats 2000000
/-! WEnum: for i, x in enumerate(t), t a tuple -/
namespace WF
open PySem L2 Evl
section
open PySem.Calls PyProof.Rows
open AutoSeq1 (wpAny_loadPart')
theorem new_enumT (t : Addr) (its : Array Value) :
    Meets (Builtin.«enumerate.__new__» ⟨[.type "enumerate", .ref t], []⟩) (fun _ R s => s.heap.IsTuple t its ∧
      R (.ok (.ret (.ref (s.heap.push { cls := .type "tuple_iterator", data := .fields #[.ref t, .int 0 0] }).objs.size)))
        { s with heap := (s.heap.push { cls := .type "tuple_iterator", data := .fields #[.ref t, .int 0 0] }).push { cls := .type "enumerate", data := .fields #[.none, .bool false, .ref s.heap.objs.size, rawInt 0, .none, .none] } }) :=
  .of_wp fun prog w A R s hh => by
    obtain ⟨hp, gg, dd, tk, os⟩ := s
    obtain ⟨hT, hq⟩ := hh
    have hsub := sub_enumerate
    have it0 : ∀ {A' : Around} {E : Value → Shared → Prop} {Q : Value → Shared → Prop}, Q (.ref hp.objs.size) ⟨hp.push { cls := .type "tuple_iterator", data := .fields #[.ref t, .int 0 0] }, gg, dd, tk, os⟩ → wpAny (model prog w) A' (pyIter (.ref t)) Q E ⟨hp, gg, dd, tk, os⟩ :=
      fun q => wpAny_pyIter_tuple hT q
    wp_walk using it0
    refine wpAny_stack_any fun st => wpAny_pure ?_
    split
    · rename_i c _ _ _ _ _
      cases (c == Value.type "enumerate")
      · wp_walk using it0
        exact ⟨_, rfl, hq⟩
      · wp_walk using it0
        exact ⟨_, rfl, hq⟩
    · wp_walk using it0
      exact ⟨_, rfl, hq⟩
section
variable {prog : Program} {w : World} {A : Around} {E : Value → Shared → Prop} {s : Shared}
theorem call_enumT {t : Addr} {its : Array Value} {Q : Value → Shared → Prop} (hT : s.heap.IsTuple t its)
    (h : ∀ h', IsEnum h' (s.heap.objs.size + 1) s.heap.objs.size 0 .none → h'.IsTupleIter s.heap.objs.size t 0 → (∀ b o, s.heap.get? b = some o → h'.get? b = some o) → Q (.ref (s.heap.objs.size + 1)) { s with heap := h' }) :
    wpAny (model prog w) A (call (.type "enumerate") [.ref t]) Q E s := by
  refine callType_new F.called_enumerate (by decide) (F.typeCall_enumerate_1 _) (F.newCall_enumerate_1 _) (fun ob => F.args_object_init_2 ob _) F.entry_enumerate_new (new_enumT t its) ⟨hT, ?_⟩
  have hz : (s.heap.push { cls := .type "tuple_iterator", data := .fields #[.ref t, .int 0 0] }).objs.size = s.heap.objs.size + 1 := Heap.size_push ..
  show _ ∧ _
  rw [hz]
  have he : IsEnum ((s.heap.push { cls := .type "tuple_iterator", data := .fields #[.ref t, .int 0 0] }).push { cls := .type "enumerate", data := .fields #[.none, .bool false, .ref s.heap.objs.size, rawInt 0, .none, .none] }) (s.heap.objs.size + 1) s.heap.objs.size 0 .none := by
    have z := Heap.get?_push_size (s.heap.push { cls := .type "tuple_iterator", data := .fields #[.ref t, .int 0 0] }) (o := { cls := .type "enumerate", data := .fields #[.none, .bool false, .ref s.heap.objs.size, rawInt 0, .none, .none] }) rfl
    rw [hz] at z
    exact z
  exact ⟨⟨_, he, rfl⟩, h _ he ⟨_, Heap.get?_push_of_some _ (Heap.get?_push_size _ rfl), rfl, rfl⟩ fun b o x => Heap.get?_push_of_some _ (Heap.get?_push_of_some _ x)⟩
end
/-- the tuple at a as it stands at each turn, each item in a new pair -/
def Itet (K : PySem.W.Frag) (a : Addr) : It :=
  ⟨fun i H => ∃ (xs : List V) (x : V), SqT K H a xs ∧ xs[i]? = some x, fun i H v H' => ∃ T x, v = .ref T ∧ H T = none ∧ H' = upd H T (.tup [.int (i : Nat), x]) ∧ ∀ xs, SqT K H a xs → xs[i]? = some x, fun i H => ∃ xs : List V, SqT K H a xs ∧ xs.length ≤ i⟩
theorem turn_enumT {P : Program} {w : World} {K : PySem.W.Frag} {elts : List Expr} {kk : Nat} {tpos : Pos} (a e it : Addr) :
    Turn P w K (.Tuple elts kk tpos) (Itet K a) [e, it] e (fun i h => (∃ old, IsEnum h e it ((i : Nat) : Int) old) ∧ h.IsTupleIter it a i ∧ e ≠ it ∧ a ≠ it ∧ e ≠ a) where
  mem := by simp
  obj := fun i h st b hb => by
    obtain ⟨⟨old, he⟩, ⟨o, ho, hc, hd⟩, _⟩ := st
    rcases (show b = e ∨ b = it by simpa using hb) with rfl | rfl
    · exact ⟨_, he, fun v q => nomatch q⟩
    · exact ⟨o, ho, fun v q => by rw [hd] at q; cases q⟩
  keep := fun i h h' st k => by
    obtain ⟨⟨old, he⟩, ⟨o, ho, hc, hd⟩, hne⟩ := st
    exact ⟨⟨old, k e (by simp) _ he⟩, ⟨o, k it (by simp) _ ho, hc, hd⟩, hne⟩
  item := by
    intro X hP hw hK hc i pins s σ H E I hf st hg
    subst hP hw hK
    obtain ⟨⟨old, he⟩, hit, hne, hai, hea⟩ := st
    obtain ⟨xs, x, hq, hx⟩ := hg
    obtain ⟨its, rv, p, hz⟩ := I.tuple hq
    obtain ⟨u, hu, ru⟩ := rv.get hx
    have hlt : i < its.toArray.size := by
      have := (List.getElem?_eq_some_iff.mp hu).1
      simpa using this
    have hel : e < s.heap.objs.size := Heap.lt_size he
    have hil : it < s.heap.objs.size := by obtain ⟨_, q, _⟩ := hit; exact Heap.lt_size q
    refine wpAny_pyNext_enum_itemC (Draws.tuple (prog := X.prog) (w := X.w) (A := X.A.in1) (I.ok.hd hc) it a hai its.toArray) he ⟨hit, p⟩ hlt hne (by simp [hne, hea]) fun y h' tk hy ho hst' hT hsz hk => ?_
    have hyu : y = u := by
      rw [List.getElem?_toArray, hu] at hy
      exact (Option.some.inj hy).symm
    subst hyu
    refine ⟨_, rfl, wpAny_letOwnedTupleGo_enum (s := { s with heap := h', toks := tk + 1 }) ho fun h'' he' sb => ?_⟩
    have hT2 : h''.get? s.heap.objs.size = some { cls := .type "tuple", data := .seq #[.int i tk, y] } := (sb.2 _ (Nat.ne_of_gt hel)).trans hT
    have new : ObjOk X.prog X.w (upd H s.heap.objs.size (.tup [.int (i : Nat), x])) h'' s.heap.objs.size (.tup [.int (i : Nat), x]) :=
      ⟨by show 2 ≤ sizeLine; decide, [.int i tk, y], .cons ⟨_, rfl⟩ (.cons ru .nil), ⟨_, hT2, rfl, _, rfl⟩⟩
    have I1 : Inv X pins σ (upd H s.heap.objs.size (.tup [.int (i : Nat), x])) { s with heap := h'', toks := tk + 1 } :=
      I.turnedNew (ch := [e, it]) (fun b ob hb q => (sb.2 b (fun z => hb (by simp [z]))).trans (hk b ob (fun z => hb (by simp [z])) (fun z => hb (by simp [z])) q)) hf (Nat.le_refl _) new
    obtain ⟨oi, hoi, hci, hdi⟩ := hst'.1
    refine ⟨.ref s.heap.objs.size, _, I1, rfl, ⟨_, x, rfl, I.hok.fresh (Nat.le_refl _), rfl, fun ys hy => by rw [I.tuple_inj hy hq]; exact hx⟩, ⟨⟨y, ?_⟩, ⟨oi, (sb.2 it (Ne.symm hne)).trans hoi, hci, hdi⟩, hne, hai, hea⟩, fun b hb => ?_⟩
    · have e1 : ((i + 1 : Nat) : Int) = (i : Int) + 1 := by omega
      rw [e1]
      exact he'
    · have hb' : b < s.heap.objs.size := by
        rcases (show b = e ∨ b = it by simpa using hb) with rfl | rfl
        · exact hel
        · exact hil
      rw [upd_ne (Nat.ne_of_lt hb')]
      exact (hf b hb).1
  done := by
    intro X hP hw hK hc i pins s σ H E I hf st hg
    subst hP hw hK
    obtain ⟨⟨old, he⟩, hit, hne, hai, hea⟩ := st
    obtain ⟨xs, hq, hx⟩ := hg
    obtain ⟨its, rv, p, hz⟩ := I.tuple hq
    obtain ⟨f0, f1, f2, f3, f4, f5⟩ := hf it (by simp)
    have hl := rv.length
    obtain ⟨oi, hoi, hci, hdi⟩ := id hit
    have D0 := Draws.tuple (prog := X.prog) (w := X.w) (A := X.A.in1) (I.ok.hd hc) it a hai its.toArray
    have D : Draws X.prog X.w X.A.in1 it [it, a] i (fun j v => True) (fun j h => j = i ∧ h.IsTupleIter it a j ∧ h.IsTuple a its.toArray) :=
      ⟨fun j h st' => D0.live j h st'.2, fun j h h' st' k => ⟨st'.1, D0.frame j h h' st'.2 k⟩, fun j s' Q E' hj st' hQ => absurd st'.1 (Nat.ne_of_lt hj),
        fun s' Q E' st' hE => wpAny_nextOf_tuple_end (I.ok.hd hc) st'.2.1 st'.2.2 (by simp; omega) hE⟩
    exact wpAny_pyNext_enum_endD D he ⟨rfl, hit, p⟩ fun h' eb => ⟨rfl, I.turned (t' := s.toks) (fun b o hb q => eb b o hb q) f0 f1 f3 f4 f5⟩
  self := fun A i s Q E st h => let ⟨⟨_, he⟩, _⟩ := st; wpAny_pyIter_enum he h
def iEnumT (K : PySem.W.Frag) (ta : TA) : TI := fun σ H R => ta σ H fun vs H1 => ∃ a xs, vs = [.ref a] ∧ SqT K H1 a xs ∧ R (Itet K a) H1
theorem pi_enumT {X : Cx} {e : Expr} {ta : TA} {p pos tpos : Pos} {elts : List Expr} {kk : Nat} (hg : Gl X "enumerate") (hm : X.mg "enumerate" = none) (ha : PA X [e] ta) (hs : starEach [e] X.env = [(false, eval e X.env)] := by rfl) :
    PI X (.Tuple elts kk tpos) (.Call (.Name "enumerate" p) [e] [] pos) (iEnumT X.K ta) := by
  refine ⟨fun pins s σ H R I hh => ?_⟩
  refine Call_ (ld_blt I hg hm boot_enumerate (callWith_type1 (thn (ha.run pos pins s σ H _ I hh) fun us s1 ⟨vs, H1, I1, r1, q1⟩ => ?_) hs rfl))
  obtain ⟨a, xs, ex, hq, q⟩ := q1
  subst ex
  cases r1 with
  | cons r rr =>
    cases rr
    cases r
    obtain ⟨its, rv, pT, hz⟩ := I1.tuple hq
    have hal : a < s1.heap.objs.size := by
      obtain ⟨oT, hoT, _⟩ := pT
      exact Heap.lt_size hoT
    refine call_enumT pT fun h' he hit hk => wpAny_pyIter_enum he ?_
    have I2 : Inv X pins σ H1 { s1 with heap := h' } := I1.kept (t' := s1.toks) hk
    refine ⟨s1.heap.objs.size + 1, [s1.heap.objs.size + 1, s1.heap.objs.size], _, _, H1, rfl, I2, turn_enumT a (s1.heap.objs.size + 1) s1.heap.objs.size, ⟨⟨.none, he⟩, hit, Nat.succ_ne_self _, Nat.ne_of_lt hal, Nat.ne_of_gt (Nat.lt_succ_of_lt hal)⟩, fun b hb => ?_, q⟩
    have hle : s1.heap.objs.size ≤ b := by
      rcases (show b = s1.heap.objs.size + 1 ∨ b = s1.heap.objs.size by simpa using hb) with z | z
      · rw [z]; exact Nat.le_add_right _ _
      · rw [z]; exact Nat.le_refl _
    exact I1.fpOk hle (I1.hok.fresh hle)
theorem walk_enumT {K : PySem.W.Frag} {a : Addr} {xs : List V} : Walk (Itet K a) xs.length (fun H => SqT K H a xs) (YPair (fun i => some (.int (i : Nat))) (fun i => xs[i]?)) := by
  refine ⟨fun i _ hi q => ⟨xs, xs[i], q, by simp [hi]⟩, fun _ q => ⟨xs, q, Nat.le_refl _⟩, fun i H v H' _ q y => ?_⟩
  obtain ⟨T, x, y1, y2, y3, y4⟩ := y
  exact ⟨T, .int (i : Nat), x, y1, y2, y3, rfl, y4 xs q⟩
/-- for i, x in enumerate(t): Pv by the turn, the slots and the heap -/
theorem q_forEnT {K : PySem.W.Frag} {σ : L2.St} {H : Hp} {a : Addr} {xs : List V} {ta : TE} {j k : Nat} {tu tz : TS} {D : Ends} (h : Ev ta σ H (.ref a)) (hx : SqT K H a xs) (Pv : Nat → L2.St → Hp → Prop) (h0 : ∀ H1, Ex H H1 → Pv 0 σ H1)
    (hl : ∀ i σ' H', i ≤ xs.length → Pv i σ' H' → SqT K H' a xs)
    (hs : ∀ i x σ' H' H2, xs[i]? = some x → Pv i σ' H' → Ex H' H2 → tu { D with nx := Pv (i + 1), ct := Pv (i + 1), bk := tz D } ((σ'.set j (some (.int ((i : Nat) : Int)))).set k (some x)) H2)
    (hd : ∀ σ' H', Pv xs.length σ' H' → tz D σ' H') : tSeq (tFor (iEnumT K (tCons ta tNil)) (gTup K 2 (gCons (gName j) (gCons (gName k) gNil))) tu) tz D σ H := by
  refine h H (Ex.refl H) _ fun H1 e1 => ⟨a, xs, rfl, ex_t e1 hx, ?_⟩
  refine for_it (D := { D with nx := tz D }) walk_enumT Pv (h0 H1 e1) hl (fun i x σ' H' H2 hi p y => ?_) hd
  obtain ⟨T, u, v, rfl, hT, rfl, hu, hv⟩ := y
  cases hu
  exact ⟨T, _, rfl, st_of upd_same, rfl, _, _, rfl, _, _, rfl, rfl, hs i v σ' H' _ hv p (Ex.new hT)⟩
end
end WF

set_option Elab.async false
set_option linter.all false
set_option maxRecDepth 100000
set_option maxHeartbeats 2000000
/-! WObj: objects made and changed -/
namespace WF
open PySem L2 Evl
structure Cls1 (K : PySem.W.Frag) (C : Addr) (fs : List Str) : Prop where
  cl : Cls K C
  no : ∀ x ∈ fs, NoAttr K C x
/-- all but p is kept -/
def ExB (p : Addr) (H H' : Hp) : Prop := ∀ b o, b ≠ p → H b = some o → H' b = some o
theorem ExB.of {p : Addr} {H H' : Hp} (e : Ex H H') : ExB p H H' := fun b o _ h => e b o h
theorem ExB.step {p : Addr} {H H1 H2 : Hp} (a : ExB p H H1) (e : Ex H1 H2) : ExB p H H2 := fun b o h q => e b o (a b o h q)
theorem ExB.upd {p : Addr} {H H' : Hp} {o : HO} (a : ExB p H H') : ExB p H (upd H' p o) := fun b u h q => by
  rw [upd_ne h]
  exact a b u h q
theorem ExB.trans {p : Addr} {H H1 H2 : Hp} (a : ExB p H H1) (b : ExB p H1 H2) : ExB p H H2 := fun c o h q => b c o h (a c o h q)
/-- what stood ahead of p stands -/
theorem ExB.old {p : Addr} {H0 H H' : Hp} (a : ExB p H H') (e : Ex H0 H) (h : H0 p = none) : Ex H0 H' := fun b o q => a b o (ne_of_none q h) (e b o q)
structure MkAt (K : PySem.W.Frag) (C : Addr) (qual : Str) (st : Stmt) (ps : List Str) : Prop where
  ex : ∃ (f : Addr) (fd : FuncData), Mk K C f ∧ Fun K "__init__" qual st f fd ∧ Binds K fd ps []
structure MtAt (K : PySem.W.Frag) (C : Addr) (m qual : Str) (st : Stmt) (ps : List Str) : Prop where
  ex : ∃ (f : Addr) (fd : FuncData), Meth K C m f ∧ Fun K m qual st f fd ∧ Binds K fd ps []
structure Mn (P : Program) (w : World) (K : PySem.W.Frag) (mg : Str → Option Value) (base : Heap) (CX : CXT) (C : Addr) (k : Nat) (ps : List Str) (sp : Sp) : Prop where
  ex : ∃ (f : Addr) (fd : FuncData), Mk K C f ∧ FnOk P w K mg base CX k f fd ps sp ∧ Binds K fd ps []
structure Mtn (P : Program) (w : World) (K : PySem.W.Frag) (mg : Str → Option Value) (base : Heap) (CX : CXT) (C : Addr) (m : Str) (k : Nat) (ps : List Str) (sp : Sp) : Prop where
  ex : ∃ (f : Addr) (fd : FuncData), Meth K C m f ∧ PySem.W.keepIn K (.ref f) = true ∧ FnOk P w K mg base CX k f fd ps sp ∧ Binds K fd ps []
section
variable {P : Program} {w : World} {K : PySem.W.Frag} {mg : Str → Option Value} {base : Heap} {CX : CXT} {C : Addr} {m qual : Str} {k : Nat} {ps : List Str} {sp : Sp} {st : Stmt}
theorem MkAt.mn (F : MkAt K C qual st ps) (h : ∀ f fd, Fun K "__init__" qual st f fd → FnOk P w K mg base CX k f fd ps sp) : Mn P w K mg base CX C k ps sp := by
  obtain ⟨f, fd, h1, h2, h3⟩ := F.ex
  exact ⟨f, fd, h1, h f fd h2, h3⟩
theorem MtAt.mtn (F : MtAt K C m qual st ps) (h : ∀ f fd, Fun K m qual st f fd → FnOk P w K mg base CX k f fd ps sp) : Mtn P w K mg base CX C m k ps sp := by
  obtain ⟨f, fd, h1, h2, h3⟩ := F.ex
  exact ⟨f, fd, h1, h2.kp, h f fd h2, h3⟩
end
section
variable {X : Cx} {CX : CXT} {x m : Str} {C : Addr} {k : Nat} {ps : List Str} {sp : Sp} {E : XK} {e o : Expr} {es : List Expr} {p pos apos : Pos} {t : TA} {ta : TE}
theorem pe_mk (M : Mn X.prog X.w X.K X.mg X.base CX C k ps sp) (hr : Room (k + 1) X.A) (gC : X.mg x = some (.ref C)) (hx : Passes CX X E) (hg : Gl X x) (ha : PA X (e :: es) t) (hdb : (x == ("__debug__" : Str)) = false := by decide)
    (he : starEach (e :: es) X.env = (false, eval e X.env) :: starEach es X.env := by rfl) (hpl : (backTo pos (starEach es X.env)).any (·.1) = false := by rfl) : PE X (.Call (.Name x p) (e :: es) [] pos) (tMake C sp [] E t) := by
  obtain ⟨f, fd, h1, h2, h3⟩ := M.ex
  exact pe_make h1 h2 hr hg gC h3 .nil hx ha hdb he hpl
end
/-- te gives a new object of which R tells -/
def EvR (te : TE) (σ : L2.St) (H : Hp) (R : Addr → Hp → Prop) : Prop := ∀ H1, Ex H H1 → ∀ Q : VK, (∀ p H2, H1 p = none → Ex H1 H2 → R p H2 → Q (.ref p) H2) → te σ H1 Q
section
variable {K : PySem.W.Frag} {σ : L2.St} {H H' : Hp} {ta tb tc te tv : TE} {x y z v : V} {r r' : R2} {t u : TT} {D : Ends} {tz : TS}
theorem s_fld {a C dx : Addr} {fs : List (Str × V)} {f : Str} (hv : Ev tv σ H y) (h : Ev ta σ H (.ref a)) (ho : H a = some (.ins C dx fs)) (hc : Cls K C) (hn : NoAttr K C f) (hz : fs.length < 1000)
    (k : ∀ H1, Ex H H1 → D.nx σ (upd H1 a (.ins C dx (putF f y fs)))) : sFld K ta tv f D σ H :=
  hv H (Ex.refl H) _ fun H1 e1 => h H1 e1 _ fun H2 e2 => ⟨a, C, dx, fs, rfl, e2 _ _ (e1 _ _ ho), hc, hn, hz, k H2 (e1.trans e2)⟩
theorem q_fld {a C dx : Addr} {fs : List (Str × V)} {f : Str} (hv : Ev tv σ H y) (h : Ev ta σ H (.ref a)) (ho : H a = some (.ins C dx fs)) (hc : Cls K C) (hn : NoAttr K C f) (hz : fs.length < 1000)
    (k : ∀ H1, Ex H H1 → tz D σ (upd H1 a (.ins C dx (putF f y fs)))) : tSeq (sFld K ta tv f) tz D σ H := s_fld (D := { D with nx := tz D }) hv h ho hc hn hz k
/-- a new instance by __init__: R tells of the made one -/
theorem er_make {C : Addr} {sp : Sp} {E : XK} {ta : TA} {vs : List V} {R : Addr → Hp → Prop} (h : EvA ta σ H vs)
    (hs : ∀ H1, Ex H H1 → ∀ x dx, H1 x = none → H1 dx = none → dx ≠ x → ∀ Q : VK, (∀ H2, Ex H1 H2 → R x H2 → Q .non H2) → sp (.ref x :: vs) (upd (upd H1 dx (.own x)) x (.ins C dx [])) Q E) : EvR (tMake C sp [] E ta) σ H R :=
  fun H1 e Q q => h H1 e _ fun H2 e2 x dx hx hdx hne => by
    rw [List.append_nil]
    exact hs H2 (e.trans e2) x dx hx hdx hne _ fun H3 e3 hR => ⟨rfl, q x H3 (fresh_back e2 hx) (e2.trans e3) hR⟩
theorem ex_made {H1 : Hp} {x dx C : Addr} (hx : H1 x = none) (hdx : H1 dx = none) : Ex H1 (upd (upd H1 dx (.own x)) x (.ins C dx [])) := fun b o h => by
  rw [upd_ne (ne_of_none h hx), upd_ne (ne_of_none h hdx)]
  exact h
theorem s_asgR {i : Nat} {R : Addr → Hp → Prop} (h : EvR te σ H R) (k : ∀ p H1, H p = none → Ex H H1 → R p H1 → D.nx (σ.set i (some (.ref p))) H1) : tAsg te (gName i) D σ H := h H (Ex.refl H) _ fun p H1 hp e h1 => k p H1 hp e h1
theorem q_asgR {i : Nat} {R : Addr → Hp → Prop} (h : EvR te σ H R) (k : ∀ p H1, H p = none → Ex H H1 → R p H1 → tz D (σ.set i (some (.ref p))) H1) : tSeq (tAsg te (gName i)) tz D σ H := s_asgR (D := { D with nx := tz D }) h k
theorem s_retR {R : Addr → Hp → Prop} (h : EvR te σ H R) (k : ∀ p H1, H p = none → Ex H H1 → R p H1 → D.rt (.ref p) H1) : tRet te D σ H := h H (Ex.refl H) _ fun p H1 hp e h1 => k p H1 hp e h1
theorem el_R {xs : List V} (h : EvL te σ H xs) : EvR te σ H fun p H2 => H2 p = some (.lst xs) := h
theorem eu_R {xs : List V} (h : EvU te σ H xs) : EvR te σ H fun p H2 => H2 p = some (.tup xs) := h
end
/-- what the top says of an own class, further: for isinstance -/
structure ClsI (K : PySem.W.Frag) (C : Addr) : Prop where
  cl : Cls K C
  ha : PySem.W.findIn K (.ref C) "__class__" = some (some (.builtin "object.__class__"))
  hn : PySem.W.specialIn K (.builtin "object.__class__") "__get__" = some (some (.builtin "getset_descriptor.__get__"))
  htk : PySem.W.takesIn K (.builtin "object.__class__") = some true
  hm : PySem.W.mroIn K C (.type "object") = some true
theorem ClsI.ty {K : PySem.W.Frag} {C a dx : Addr} {H : Hp} {fs : List (Str × V)} (h : ClsI K C) (ho : H a = some (.ins C dx fs)) : TyX K H (.ref a) (.ref C) := .base (.ins ho h.cl h.ha h.hn h.htk h.hm)
theorem kit_self {K : PySem.W.Frag} {C : Addr} : PySem.W.kitOne K (.ref C) (.ref C) = some true := by
  unfold PySem.W.kitOne
  rw [if_pos (by simp)]
/-! a store to an instance: tuples, and what is told by them, stand -/
section
variable {K : PySem.W.Frag} {H : Hp} {p C dx : Addr} {fs fs' : List (Str × V)}
theorem sqt_upd {a : Addr} {xs : List V} (hp : H p = some (.ins C dx fs)) (h : SqT K H a xs) : SqT K (upd H p (.ins C dx fs')) a xs := by
  rcases h with (h | ⟨o, h⟩) | h
  · refine .inl (.inl ?_)
    rw [upd_ne (ne_of h hp (by intro q; cases q))]
    exact h
  · refine .inl (.inr ⟨o, ?_⟩)
    rw [upd_ne (ne_of h hp (by intro q; cases q))]
    exact h
  · exact .inr h
theorem ty_upd {x : V} {t : Value} (hp : H p = some (.ins C dx fs)) (h : TyX K H x t) : TyX K (upd H p (.ins C dx fs')) x t := by
  have mv : ∀ {a : Addr} {o : HO}, H a = some o → o ≠ .ins C dx fs → upd H p (.ins C dx fs') a = some o := fun {a o} e n => by
    rw [upd_ne (ne_of e hp n)]
    exact e
  cases h with
  | base h =>
    cases h with
    | non => exact .base .non
    | bl b => exact .base (.bl b)
    | int i => exact .base (.int i)
    | str z => exact .base (.str z)
    | flt z => exact .base (.flt z)
    | lst h => exact .base (.lst (mv h (by intro q; cases q)))
    | frz h => exact .base (.frz (mv h (by intro q; cases q)))
    | tup h => exact .base (.tup (mv h (by intro q; cases q)))
    | dK h => exact .base (.dK (mv h (by intro q; cases q)))
    | dT h => exact .base (.dT (mv h (by intro q; cases q)))
    | @ins a C' dx' fs0 h cl ha hn htk hm =>
      by_cases hap : a = p
      · subst hap
        rw [hp] at h
        injection h with h
        injection h with h1 h2 h3
        subst h1 h2
        exact .base (.ins upd_same cl ha hn htk hm)
      · exact .base (.ins (by rw [upd_ne hap]; exact h) cl ha hn htk hm)
  | byt b => exact .byt b
  | set h => exact .set (mv h (by intro q; cases q))
  | kList h c => exact .kList h c
  | kTuple h c => exact .kTuple h c
  | kDict h c => exact .kDict h c
  | fTuple h => exact .fTuple (mv h (by intro q; cases q))
  | fDict h => exact .fDict (mv h (by intro q; cases q))
theorem num_upd {x : V} {o : Option Int} (hp : H p = some (.ins C dx fs)) (h : NumV K H x o) : NumV K (upd H p (.ins C dx fs')) x o := by
  cases h with
  | int z => exact .int z
  | odd h n => exact .odd (ty_upd hp h) n
theorem sz_upd {x : V} {n : Nat} {o : Option (Nat × Nat)} (hp : H p = some (.ins C dx fs)) (h : SzAt K H x n o) : SzAt K (upd H p (.ins C dx fs')) x n o := by
  induction h with
  | zero => exact .zero
  | kind h k => exact .kind (ty_upd hp h) k
  | empty h => exact .empty (sqt_upd hp h)
  | head h ht k => exact .head (sqt_upd hp h) (ty_upd hp ht) k
  | leaf hs h ok => exact .leaf hs (sqt_upd hp h) ok
  | leafLen hs h l => exact .leafLen hs (sqt_upd hp h) l
  | leafNum hs h hx no => exact .leafNum hs (sqt_upd hp h) (num_upd hp hx) no
  | word hs h l => exact .word hs (sqt_upd hp h) l
  | byBad h hb no => exact .byBad (sqt_upd hp h) (num_upd hp hb) no
  | behind h ok _ i => exact .behind (sqt_upd hp h) ok i
  | pairNo hs h _ i => exact .pairNo hs (sqt_upd hp h) i
  | pair hs h _ hl _ i j => exact .pair hs (sqt_upd hp h) i hl j
end
end WF

set_option Elab.async false
set_option linter.all false
set_option maxRecDepth 100000
set_option maxHeartbeats 400000
/-! WProp: properties of own classes -/
namespace WF
open PySem L2 Evl
structure PropAt (K : PySem.W.Frag) (C : Addr) (f qual : Str) (st : Stmt) : Prop where
  ex : ∃ (p g : Addr) (fd : FuncData), PropOf K C f p g ∧ Fun K f qual st g fd ∧ Binds K fd ["self"] []
structure Prn (P : Program) (w : World) (K : PySem.W.Frag) (mg : Str → Option Value) (base : Heap) (C : Addr) (f : Str) (k : Nat) (sp : Sp) : Prop where
  ex : ∃ (p g : Addr) (fd : FuncData), PropOf K C f p g ∧ FnOk P w K mg base CX0 k g fd ["self"] sp ∧ Binds K fd ["self"] []
theorem PropAt.prn {P : Program} {w : World} {K : PySem.W.Frag} {mg : Str → Option Value} {base : Heap} {C : Addr} {f qual : Str} {k : Nat} {sp : Sp} {st : Stmt} (F : PropAt K C f qual st) (h : ∀ g fd, Fun K f qual st g fd → FnOk P w K mg base CX0 k g fd ["self"] sp) : Prn P w K mg base C f k sp := by
  obtain ⟨p, g, fd, h1, h2, h3⟩ := F.ex
  exact ⟨p, g, fd, h1, h g fd h2, h3⟩
section
variable {X : Cx} {C : Addr} {f : Str} {k : Nat} {sp : Sp} {e : Expr} {pos : Pos} {ta : TE}
theorem pe_prp (R : Prn X.prog X.w X.K X.mg X.base C f k sp) (he : PE X e ta) (c : Cls X.K C) (hr : Room (k + 1) X.A) (hab : attributeBase e f X.env (eval e X.env) = eval e X.env) : PE X (.Attribute e f pos) (tProp C sp [] E0 ta) := by
  obtain ⟨p, g, fd, h1, h2, h3⟩ := R.ex
  exact pe_prop he c h1 h2 hr h3 .nil pass0 hab
end
theorem ev_prp {σ : L2.St} {H : Hp} {ta : TE} {C a dx : Addr} {fs : List (Str × V)} {sp : Sp} {E : XK} {z : V} (h : Ev ta σ H (.ref a)) (ho : H a = some (.ins C dx fs)) (k : ∀ H1, Ex H H1 → ∀ (Q : VK) (E : XK), RetV z H1 Q → sp [.ref a] H1 Q E) : Ev (tProp C sp [] E ta) σ H z := fun H1 e Q q =>
  h H1 e _ fun H2 e2 => ⟨a, dx, fs, rfl, e2 _ _ (e _ _ ho), k H2 (e.trans e2) Q E fun H3 e3 => q H3 (e2.trans e3)⟩
end WF

set_option Elab.async false
set_option linter.all false
set_option maxRecDepth 100000
set_option maxHeartbeats 2000000
/-! WDraw: the drawn numbers' list; what stands when lists change -/
namespace WF
open PySem L2 Evl
/-- the list that numbers are drawn from -/
def Good (xs : List V) : Prop := ∃ (s r : Int) (bs : List Int), xs = .int s :: .int r :: bs.map V.int ∧ 0 ≤ s ∧ s < 2147483647 ∧ 0 ≤ r ∧ (∀ b ∈ bs, 0 ≤ b) ∧ bs.length ≤ 100
theorem Good.len {xs : List V} (h : Good xs) : 2 ≤ xs.length ∧ xs.length ≤ 102 := by
  obtain ⟨s, r, bs, rfl, _, _, _, _, h⟩ := h
  simp
  omega
/-- all that is no list stands -/
def KeepN (H H' : Hp) : Prop := ∀ b o, (∀ xs, o ≠ .lst xs) → H b = some o → H' b = some o
theorem KeepN.refl (H : Hp) : KeepN H H := fun _ _ _ h => h
theorem KeepN.of {H H' : Hp} (e : Ex H H') : KeepN H H' := fun b o _ h => e b o h
theorem KeepN.trans {H H1 H2 : Hp} (a : KeepN H H1) (b : KeepN H1 H2) : KeepN H H2 := fun c o n h => b c o n (a c o n h)
theorem ExB.kn {d : Addr} {H H' : Hp} {xs : List V} (e : ExB d H H') (h : H d = some (.lst xs)) : KeepN H H' := fun b o n q => e b o (fun z => by
  subst z
  rw [h] at q
  exact n xs (Option.some.inj q).symm) q
section
variable {K : PySem.W.Frag} {H H' : Hp} {a l d CF CC : Addr} {xs : List V} {v x : V}
theorem sqt_kn (e : KeepN H H') (h : SqT K H a xs) : SqT K H' a xs := by
  rcases h with (h | ⟨o, h⟩) | h
  · exact .inl (.inl (e _ _ (fun _ q => nomatch q) h))
  · exact .inl (.inr ⟨o, e _ _ (fun _ q => nomatch q) h⟩)
  · exact .inr h
theorem sql_but (e : ExB d H H') (hne : l ≠ d) (h : SqL K H l xs) : SqL K H' l xs := by
  rcases h with (h | ⟨o, h⟩) | h
  · exact .inl (.inl (e _ _ hne h))
  · exact .inl (.inr ⟨o, e _ _ hne h⟩)
  · exact .inr h
theorem RlAt.kn {r : Rl} (e : KeepN H H') (h : RlAt K H v r) : RlAt K H' v r := by
  induction h with
  | wk h => exact .wk (sqt_kn e h)
  | fs h => exact .fs (sqt_kn e h)
  | md h => exact .md (sqt_kn e h)
  | bh h _ i => exact .bh (sqt_kn e h) i
  | bo h _ _ i j => exact .bo (sqt_kn e h) i j
  | ei h _ _ i j => exact .ei (sqt_kn e h) i j
  | wo h _ _ i j => exact .wo (sqt_kn e h) i j
theorem FeastAt.kn {r : Rl} (e : KeepN H H') (h : FeastAt K CF H a r) : FeastAt K CF H' a r := by
  obtain ⟨dx, v, h1, h2⟩ := h
  exact ⟨dx, v, e _ _ (fun _ q => nomatch q) h1, h2.kn e⟩
theorem RowAt.kn {r : Rl × Bool} (e : KeepN H H') (h : RowAt K CF H x r) : RowAt K CF H' x r := by
  obtain ⟨p, q, h0, h1, h2⟩ := h
  exact ⟨p, q, h0, sqt_kn e h1, h2.kn e⟩
theorem RowsL.kn (e : KeepN H H') : ∀ {xs : List V} {rs : Rows}, RowsL K CF H xs rs → RowsL K CF H' xs rs
  | [], [], _ => trivial
  | _ :: _, _ :: _, h => ⟨h.1.kn e, RowsL.kn e h.2⟩
  | [], _ :: _, h => h
  | _ :: _, [], h => h
theorem RowsAt.kn {rs : Rows} (e : KeepN H H') (h : RowsAt K CF H v rs) : RowsAt K CF H' v rs := by
  obtain ⟨a, xs, h0, h1, h2⟩ := h
  exact ⟨a, xs, h0, sqt_kn e h1, h2.kn e⟩
theorem CalAt.kn {rs : Rows} (e : KeepN H H') (h : CalAt K CF CC H v rs) : CalAt K CF CC H' v rs := by
  obtain ⟨c, dx, rv, h0, h1, h2⟩ := h
  exact ⟨c, dx, rv, h0, e _ _ (fun _ q => nomatch q) h1, h2.kn e⟩
end
/-- a raw row: a pair of a rule and a truth -/
def RawAt (K : PySem.W.Frag) (H : Hp) (x : V) (r : Rl × Bool) : Prop := ∃ p v, x = .ref p ∧ SqT K H p [v, .bl r.2] ∧ RlAt K H v r.1
def RawL (K : PySem.W.Frag) (H : Hp) : List V → Rows → Prop
  | [], [] => True
  | x :: xs, r :: rs => RawAt K H x r ∧ RawL K H xs rs
  | _, _ => False
section
variable {K : PySem.W.Frag} {H H' : Hp} {x : V}
theorem RawAt.kn {r : Rl × Bool} (e : KeepN H H') (h : RawAt K H x r) : RawAt K H' x r := by
  obtain ⟨p, v, h0, h1, h2⟩ := h
  exact ⟨p, v, h0, sqt_kn e h1, h2.kn e⟩
theorem RawL.kn (e : KeepN H H') : ∀ {xs : List V} {rs : Rows}, RawL K H xs rs → RawL K H' xs rs
  | [], [], _ => trivial
  | _ :: _, _ :: _, h => ⟨h.1.kn e, RawL.kn e h.2⟩
  | [], _ :: _, h => h
  | _ :: _, [], h => h
theorem RawL.len : ∀ {xs : List V} {rs : Rows}, RawL K H xs rs → xs.length = rs.length
  | [], [], _ => rfl
  | _ :: _, _ :: _, h => congrArg (· + 1) (RawL.len h.2)
  | [], _ :: _, h => h.elim
  | _ :: _, [], h => h.elim
theorem RawL.get : ∀ {xs : List V} {rs : Rows} {i : Nat} {x : V}, RawL K H xs rs → xs[i]? = some x → ∃ r, rs[i]? = some r ∧ RawAt K H x r
  | _ :: _, r :: _, 0, _, h, e => ⟨r, rfl, by cases e; exact h.1⟩
  | _ :: xs, _ :: rs, i + 1, x, h, e => RawL.get (xs := xs) (rs := rs) (i := i) (x := x) h.2 e
  | [], [], i, x, _, e => by simp at e
  | [], _ :: _, _, _, h, _ => h.elim
  | _ :: _, [], _, _, h, _ => h.elim
theorem RawL.snoc : ∀ {xs : List V} {rs : Rows} {x : V} {r : Rl × Bool}, RawL K H xs rs → RawAt K H x r → RawL K H (xs ++ [x]) (rs ++ [r])
  | [], [], _, _, _, h => ⟨h, trivial⟩
  | _ :: _, _ :: _, _, _, h, g => ⟨h.1, RawL.snoc h.2 g⟩
  | [], _ :: _, _, _, h, _ => h.elim
  | _ :: _, [], _, _, h, _ => h.elim
end
section
variable {K : PySem.W.Frag} {σ : L2.St} {H H' : Hp} {ta tb tc te tv : TE} {x y z v : V} {r r' : R2} {t u : TT} {D : Ends} {tz : TS}
theorem ev_int1 {i : Int} (h : Ev ta σ H (.int i)) : Ev (tCB (fun xs H Q => (∃ i, xs = [.int i] ∧ Q (.int i) H) ∨ ∃ k, xs = [.bl k] ∧ Q (.int (if k then 1 else 0)) H) (tCons ta tNil)) σ H (.int i) :=
  ev_cb (ea_cons h ea_nil) fun H1 _ Q q => .inl ⟨i, rfl, q H1 (Ex.refl H1)⟩
theorem ev_abs {i : Int} (h : Ev ta σ H (.int i)) : Ev (tCB (fun xs H Q => ∃ i, xs = [.int i] ∧ Q (.int (if i < 0 then -i else i)) H) (tCons ta tNil)) σ H (.int (if i < 0 then -i else i)) :=
  ev_cb (ea_cons h ea_nil) fun H1 _ Q q => ⟨i, rfl, q H1 (Ex.refl H1)⟩
theorem ev_ixL {p : Addr} {xs : List V} {i : Int} (h : Ev ta σ H (.ref p)) (hs : SqL K H p xs) (ha : atI xs i = some v) : Ev (tOp (rIxL K) ta (tC (.int i))) σ H v := ev_op h ev_c (rv_ixL hs ha)
theorem ev_lenL {p : Addr} {xs : List V} (ha : Ev ta σ H (.ref p)) (h : SqL K H p xs) : Ev (tCB (rLenS K) (tCons ta tNil)) σ H (.int (xs.length : Int)) := fun H1 e Q q =>
  ha H1 e _ fun H2 e2 => ⟨p, xs, rfl, .inl (ex_l (e.trans e2) h), q H2 e2⟩
/-- two new lists, one behind the other -/
theorem el_cat {xs ys : List V} (h1 : EvL ta σ H xs) (h2 : EvL tb σ H ys) (hz : xs.length + ys.length ≤ 100000) : EvL (tOp rCat ta tb) σ H (xs ++ ys) := fun H1 e Q q =>
  h1 H1 e _ fun p H2 hp e2 k1 => h2 H2 (e.trans e2) _ fun p2 H3 hp2 e3 k2 => ⟨p, p2, xs, ys, rfl, rfl, e3 _ _ k1, k2, Evl.sz_of hz, fun p3 hp3 => q p3 _ (fresh_back (e2.trans e3) hp3) ((e2.trans e3).trans (Ex.new hp3)) upd_same⟩
/-- xs[i] = e, a list of the call's own, at a written place -/
theorem s_setI {l : Addr} {xs : List V} {i : Int} {j : Nat} (hl : H l = some (.lst xs)) (h : Ev te σ H v) (ho : Ev ta σ H (.ref l)) (hj : ixN xs.length i = some j) (k : ∀ H1, Ex H H1 → D.nx σ (upd H1 l (.lst (xs.set j v)))) :
    tAsg te (gSub ta (tC (.int i)) rSetL) D σ H := h H (Ex.refl H) _ fun H1 e1 => ho H1 e1 _ fun H2 e2 => ⟨l, xs, i, j, rfl, rfl, (e1.trans e2) _ _ hl, hj, k H2 (e1.trans e2)⟩
theorem q_setI {l : Addr} {xs : List V} {i : Int} {j : Nat} (hl : H l = some (.lst xs)) (h : Ev te σ H v) (ho : Ev ta σ H (.ref l)) (hj : ixN xs.length i = some j) (k : ∀ H1, Ex H H1 → tz D σ (upd H1 l (.lst (xs.set j v)))) :
    tSeq (tAsg te (gSub ta (tC (.int i)) rSetL)) tz D σ H := s_setI (D := { D with nx := tz D }) hl h ho hj k
/-! what is handed on by the readings themselves -/
theorem call_ev {sp : Sp} {E : XK} {ta : TA} {vs : List V} {Q : VK} (h : EvA ta σ H vs) (k : ∀ H1, Ex H H1 → sp vs H1 Q E) : tCall sp [] E ta σ H Q := h H (Ex.refl H) _ fun H1 e => by
  rw [List.append_nil]
  exact k H1 e
theorem q_asgX {i : Nat} (h : te σ H fun x H1 => tz D (σ.set i (some x)) H1) : tSeq (tAsg te (gName i)) tz D σ H := h
theorem s_asgX {i : Nat} (h : te σ H fun x H1 => D.nx (σ.set i (some x)) H1) : tAsg te (gName i) D σ H := h
theorem s_retX (h : te σ H D.rt) : tRet te D σ H := h
theorem q_ifX {tu tw : TS} (h : t σ H fun b H1 => if b = true then tu { D with nx := tz D } σ H1 else tw { D with nx := tz D } σ H1) : tSeq (tIfS t tu tw) tz D σ H := h
/-- a call's answer compared -/
theorem t_cmpX {b : V} {Q : Bool → Hp → Prop} (h : ta σ H fun x H1 => scal x b = true ∧ Q (decide (x = b)) H1) (hmono : ∀ Q1 Q2 : VK, (∀ v H1, Q1 v H1 → Q2 v H1) → ta σ H Q1 → ta σ H Q2) : tTest (tOp rEq ta (tC b)) σ H Q :=
  hmono _ _ (fun v H1 h => ⟨h.1, _, rfl, h.2⟩) h
end
/-- all but d and l is kept -/
def ExB2 (d l : Addr) (H H' : Hp) : Prop := ∀ b o, b ≠ d → b ≠ l → H b = some o → H' b = some o
theorem ExB.two {d l : Addr} {H H' : Hp} (e : ExB d H H') : ExB2 d l H H' := fun b o h _ q => e b o h q
theorem ExB.two' {d l : Addr} {H H' : Hp} (e : ExB l H H') : ExB2 d l H H' := fun b o _ h q => e b o h q
theorem ExB2.of {d l : Addr} {H H' : Hp} (e : Ex H H') : ExB2 d l H H' := fun b o _ _ q => e b o q
theorem ExB2.trans {d l : Addr} {H H1 H2 : Hp} (a : ExB2 d l H H1) (b : ExB2 d l H1 H2) : ExB2 d l H H2 := fun c o h g q => b c o h g (a c o h g q)
theorem ExB2.step {d l : Addr} {H H1 H2 : Hp} (a : ExB2 d l H H1) (e : Ex H1 H2) : ExB2 d l H H2 := a.trans (.of e)
theorem ExB2.updL {d l : Addr} {H H' : Hp} {o : HO} (a : ExB2 d l H H') : ExB2 d l H (upd H' l o) := fun b u h g q => by
  rw [upd_ne g]
  exact a b u h g q
theorem ExB2.kn {d l : Addr} {H H' : Hp} {xs ys : List V} (e : ExB2 d l H H') (h : H d = some (.lst xs)) (g : H l = some (.lst ys)) : KeepN H H' := fun b o n q => e b o (fun z => by
  subst z
  rw [h] at q
  exact n xs (Option.some.inj q).symm) (fun z => by
  subst z
  rw [g] at q
  exact n ys (Option.some.inj q).symm) q
/-- l new: all but d of what stood is kept -/
theorem ExB2.one {d l : Addr} {H0 H H' : Hp} (e : ExB2 d l H H') (e0 : Ex H0 H) (h : H0 l = none) : ExB d H0 H' := fun b o hb q => e b o hb (ne_of_none q h) (e0 b o q)
theorem ExB.mut {d p : Addr} {H H' : Hp} {o : HO} (e : ExB d H H') (h : H p = none) : ExB d H (L2.upd H' p o) := fun b u hb q => by
  rw [upd_ne (ne_of_none q h)]
  exact e b u hb q
theorem KeepN.lst {H H' : Hp} {p : Addr} {xs ys : List V} (e : KeepN H H') (h : H p = some (.lst xs)) : KeepN H (upd H' p (.lst ys)) := fun b o n q => by
  have hb : b ≠ p := fun z => by
    rw [z, h] at q
    exact n xs (Option.some.inj q).symm
  rw [upd_ne hb]
  exact e b o n q
section
variable {K : PySem.W.Frag} {σ : L2.St} {H H' : Hp} {ta tb tc te tv : TE} {x y z v : V} {r r' : R2} {t u : TT} {D : Ends} {tz : TS}
/-- a comprehension over a list of pairs, whose elements are made: R tells of each -/
theorem er_lst2X {a : Addr} {xs : List V} {tl : TE} {j k : Nat} {vs : List Nat} (A B : Nat → V) (R : Nat → V → Hp → Prop) (hR : ∀ i y H1 H2, KeepN H1 H2 → R i y H1 → R i y H2) (h : Ev tl σ H (.ref a)) (hx : SqL K H a xs) (hz : xs.length ≤ 40000)
    (hw : ∀ x y, wipe (((wipe σ vs).set j (some x)).set k (some y)) vs = wipe σ vs) (hp : ∀ (i : Nat) (x : V), xs[i]? = some x → ∃ p, x = .ref p ∧ SqT K H p [A i, B i])
    (he : ∀ (i : Nat) H1, Ex H H1 → i < xs.length → ∀ Q : VK, (∀ y H2, Ex H1 H2 → R i y H2 → Q y H2) → te (((wipe σ vs).set j (some (A i))).set k (some (B i))) H1 Q) :
    EvR (tLc (iList K tl) (gTup K 2 (gCons (gName j) (gCons (gName k) gNil))) tYes te vs) σ H fun p H2 => ∃ ys, H2 p = some (.lst ys) ∧ ys.length = xs.length ∧ ∀ i y, ys[i]? = some y → R i y H2 := by
  intro H0 e Q q
  refine h H0 e _ fun H1 e1 => ⟨a, rfl, ⟨xs, ex_l (e.trans e1) hx⟩, fun Dl hD => ?_⟩
  refine lc_list (xs := xs) (fun i H' => Ex H1 H' ∧ ∃ ys, H' Dl = some (.lst ys) ∧ ys.length = i ∧ ∀ j y, ys[j]? = some y → R j y H') ⟨Ex.new hD, [], upd_same, rfl, fun j y z => by simp at z⟩ (fun i H' _ p => ex_l ((e.trans e1).trans p.1) hx) (fun i x H' hi p => ?_)
    fun H' p => q Dl H' (fresh_back e1 hD) (e1.trans p.1) p.2
  obtain ⟨p1, ys, p2, p3, p4⟩ := p
  have hlt := (List.getElem?_eq_some_iff.mp hi).1
  obtain ⟨r, rfl, hr⟩ := hp i x hi
  refine ⟨_, _, rfl, ex_t ((e.trans e1).trans p1) hr, rfl, _, _, rfl, _, _, rfl, rfl, hw _ _, ?_⟩
  refine he i H' ((e.trans e1).trans p1) hlt _ fun y H4 e4 hy => ⟨ys, e4 _ _ p2, by rw [p3]; exact Evl.sz_lt (by omega), Ex.mut (p1.trans e4) hD, ys ++ [y], upd_same, by rw [List.length_append, p3]; rfl, fun j z hz => ?_⟩
  have kn : KeepN H4 (upd H4 Dl (.lst (ys ++ [y]))) := (KeepN.refl H4).lst (e4 _ _ p2)
  rcases Nat.lt_or_ge j ys.length with hj | hj
  · rw [List.getElem?_append_left hj] at hz
    exact hR j z _ _ ((KeepN.of e4).trans kn) (p4 j z hz)
  · rw [List.getElem?_append_right hj] at hz
    have : j - ys.length = 0 := by
      rcases Nat.eq_zero_or_pos (j - ys.length) with h | h
      · exact h
      · rw [List.getElem?_eq_none (by simp; omega)] at hz
        cases hz
    rw [this] at hz
    cases hz
    have : j = i := by omega
    subst this
    exact hR j y _ _ kn hy
/-- tuple(a new list) -/
theorem er_tuple {S : List V → Hp → Prop} (hS : ∀ ys H1 H2, KeepN H1 H2 → S ys H1 → S ys H2) (h : EvR ta σ H fun p H2 => ∃ ys, H2 p = some (.lst ys) ∧ S ys H2) :
    EvR (tCB (fun xs H Q => ∃ p ys, xs = [.ref p] ∧ ((SqL K H p ys ∧ ∀ l, H l = none → Q (.ref l) (upd H l (.tup ys))) ∨ (SqT K H p ys ∧ Q (.ref p) H))) (tCons ta tNil)) σ H fun p H2 => ∃ ys, H2 p = some (.tup ys) ∧ S ys H2 := fun H1 e Q q =>
  h H1 e _ fun p H2 hp e2 ⟨ys, h2, hs⟩ => ⟨p, ys, rfl, .inl ⟨sq_of h2, fun l hl => q l _ (fresh_back e2 hl) (e2.trans (Ex.new hl)) ⟨ys, upd_same, hS ys _ _ (KeepN.of (Ex.new hl)) hs⟩⟩⟩
theorem RawL.fn {xs : List V} {rows : Rows} (h : RawL K H xs rows) (d : Rl × Bool) : ∃ q : Nat → V, ∀ i x, xs[i]? = some x → ∃ p, x = .ref p ∧ SqT K H p [q i, .bl (rows.getD i d).2] ∧ RlAt K H (q i) (rows.getD i d).1 := by
  have : ∀ i, ∃ q : V, ∀ x, xs[i]? = some x → ∃ p, x = .ref p ∧ SqT K H p [q, .bl (rows.getD i d).2] ∧ RlAt K H q (rows.getD i d).1 := fun i => by
    cases e : xs[i]? with
    | none => exact ⟨.non, fun x hx => nomatch hx⟩
    | some y =>
      obtain ⟨r, hr, p, q, h0, h1, h2⟩ := h.get e
      refine ⟨q, fun x hx => ?_⟩
      cases hx
      have : rows.getD i d = r := by rw [List.getD_eq_getElem?_getD, hr]; rfl
      rw [this]
      exact ⟨p, h0, h1, h2⟩
  exact Classical.axiomOfChoice this
theorem rowsL_of {CF : Addr} (d : Rl × Bool) : ∀ {ys : List V} {rows : Rows}, ys.length = rows.length → (∀ i y, ys[i]? = some y → RowAt K CF H y (rows.getD i d)) → RowsL K CF H ys rows
  | [], [], _, _ => trivial
  | y :: ys, r :: rows, hl, h => ⟨h 0 y rfl, rowsL_of d (by simpa using hl) fun i y hy => h (i + 1) y hy⟩
  | [], _ :: _, hl, _ => by simp at hl
  | _ :: _, [], hl, _ => by simp at hl
end
/-- rows that may stand: bys 4 at most in all, each rule fit and of at most n parts -/
structure RowsOk (n : Nat) (rows : Rows) : Prop where
  bys : rowsBys rows ≤ 4
  fit : ∀ r ∈ rows, r.1.fit = true ∧ r.1.parts ≤ n
theorem bys_le : ∀ {rows : Rows} {r : Rl × Bool}, r ∈ rows → r.1.bys ≤ rowsBys rows
  | a :: rows, r, h => by
    unfold rowsBys
    rw [List.map_cons, List.sum_cons]
    rcases List.mem_cons.mp h with rfl | h
    · omega
    · have := bys_le h
      unfold rowsBys at this
      omega
theorem getD_mem {rows : Rows} {d : Rl × Bool} {i : Nat} (h : i < rows.length) : rows.getD i d ∈ rows := by
  rw [List.getD_eq_getElem?_getD, List.getElem?_eq_getElem h]
  exact List.getElem_mem h
theorem RowsOk.dep {n : Nat} {rows : Rows} (h : RowsOk n rows) (hn : n ≤ 5) : depMax rows < 5 := by
  have : ∀ rows : Rows, (∀ r ∈ rows, r.1.parts ≤ 5) → depMax rows < 5 := by
    intro rows
    induction rows with
    | nil => intro _; exact (by decide : 0 < 5)
    | cons r rows ih =>
      intro h
      have h1 := h r List.mem_cons_self
      have h2 := dep_parts r.1
      have h3 := ih fun r hr => h r (List.mem_cons_of_mem _ hr)
      show max r.1.dep (depMax rows) < 5
      omega
  exact this rows fun r hr => Nat.le_trans (h.fit r hr).2 hn
end WF

set_option Elab.async false
set_option linter.all false
set_option maxRecDepth 100000
set_option maxHeartbeats 2000000
/-! WDict: comprehensions whose elements are made, over anything; dicts whose keys are days -/
namespace WF
open PySem L2 Evl
/-! ### comprehensions, once for all that is walked -/
def Sel (f : Nat → Bool) (R : Nat → V → Hp → Prop) (n : Nat) (ys : List V) (H : Hp) : Prop := ys.length = ((List.range n).filter f).length ∧ ∀ (k i : Nat) (y : V), ((List.range n).filter f)[k]? = some i → ys[k]? = some y → R i y H
theorem sel_yes {f : Nat → Bool} {R : Nat → V → Hp → Prop} {n : Nat} {ys : List V} {H H' : Hp} {y : V} (hR : ∀ i y H1 H2, KeepN H1 H2 → R i y H1 → R i y H2) (h : Sel f R n ys H) (hf : f n = true) (e : KeepN H H') (hy : R n y H') : Sel f R (n + 1) (ys ++ [y]) H' := by
  have hr : (List.range (n + 1)).filter f = (List.range n).filter f ++ [n] := by
    rw [List.range_succ, List.filter_append, List.filter_cons, if_pos hf]
    rfl
  refine ⟨by rw [hr, List.length_append, List.length_append, h.1]; rfl, fun k i z hk hz => ?_⟩
  rw [hr] at hk
  rcases Nat.lt_or_ge k ys.length with hlt | hge
  · rw [List.getElem?_append_left (by rw [← h.1]; exact hlt)] at hk
    rw [List.getElem?_append_left hlt] at hz
    exact hR i z _ _ e (h.2 k i z hk hz)
  · rw [List.getElem?_append_right (by rw [← h.1]; exact hge)] at hk
    rw [List.getElem?_append_right hge] at hz
    rw [← h.1] at hk
    have h0 : k - ys.length = 0 := by
      rcases Nat.eq_zero_or_pos (k - ys.length) with q | q
      · exact q
      · rw [List.getElem?_eq_none (by simp; omega)] at hz
        cases hz
    rw [h0] at hk hz
    cases hk
    cases hz
    exact hy
theorem sel_no {f : Nat → Bool} {R : Nat → V → Hp → Prop} {n : Nat} {ys : List V} {H H' : Hp} (hR : ∀ i y H1 H2, KeepN H1 H2 → R i y H1 → R i y H2) (h : Sel f R n ys H) (hf : f n = false) (e : KeepN H H') : Sel f R (n + 1) ys H' := by
  have hr : (List.range (n + 1)).filter f = (List.range n).filter f := by
    rw [List.range_succ, List.filter_append, List.filter_cons, if_neg (by rw [hf]; exact Bool.false_ne_true)]
    exact List.append_nil _
  unfold Sel
  rw [hr]
  exact ⟨h.1, fun k i z hk hz => hR i z _ _ e (h.2 k i z hk hz)⟩
theorem lcX {J : It} {n : Nat} {G : Hp → Prop} {X : Nat → V} (wk : Walk J n G (YFn X)) {σ : L2.St} {H1 : Hp} {j : Nat} {vs : List Nat} {tt : TT} {te : TE} (f : Nat → Bool) (R : Nat → V → Hp → Prop) (hR : ∀ i y H1 H2, KeepN H1 H2 → R i y H1 → R i y H2) (hG : ∀ H', Ex H1 H' → G H') (hn : n ≤ 40000)
    (hw : ∀ x, wipe ((wipe σ vs).set j (some x)) vs = wipe σ vs) (ht : ∀ (i : Nat) H2, Ex H1 H2 → i < n → EvT tt ((wipe σ vs).set j (some (X i))) H2 (f i))
    (he : ∀ (i : Nat) H2, Ex H1 H2 → i < n → f i = true → ∀ Q : VK, (∀ y H3, Ex H2 H3 → R i y H3 → Q y H3) → te ((wipe σ vs).set j (some (X i))) H2 Q) (Q : VK) (q : ∀ Dl H', H1 Dl = none → Ex H1 H' → (∃ ys, H' Dl = some (.lst ys) ∧ Sel f R n ys H') → Q (.ref Dl) H') :
    ∀ Dl, H1 Dl = none → ∃ W : Nat → Nat → Hp → Prop, (∃ m, W 0 m (upd H1 Dl (.lst []))) ∧ ∀ i m H, W i m H →
      (J.stop i H ∧ Q (.ref Dl) H) ∨ (J.go i H ∧ ∃ Nx : Hp → Prop, (∀ H', Nx H' → ∃ m', m' < m ∧ W (i + 1) m' H') ∧ ∀ x H', J.yld i H x H' → gName j x (wipe σ vs) H' fun σ2 H2 => wipe σ2 vs = wipe σ vs ∧ tt σ2 H2 fun b H3 =>
        if b = true then te σ2 H3 fun y H4 => ∃ acc, H4 Dl = some (.lst acc) ∧ acc.length < sizeLine ∧ Nx (upd H4 Dl (.lst (acc ++ [y]))) else Nx H3) := by
  intro Dl hD
  refine lc_it wk (fun i H' => Ex H1 H' ∧ ∃ ys, H' Dl = some (.lst ys) ∧ Sel f R i ys H') ⟨Ex.new hD, [], upd_same, rfl, fun k i y hk hy => by simp at hk⟩ (fun i H' _ p => hG H' p.1) (fun i x H' H2 hi p y => ?_) fun H' p => q Dl H' hD p.1 p.2
  obtain ⟨rfl, rfl⟩ := y
  obtain ⟨p1, ys, p2, p3⟩ := p
  refine ⟨hw _, ht i _ p1 hi _ (Ex.refl _) _ fun H3 e3 => ?_⟩
  cases hf : f i with
  | true =>
    refine he i H3 (p1.trans e3) hi hf _ fun y H4 e4 hy => ⟨ys, e4 _ _ (e3 _ _ p2), ?_, Ex.mut ((p1.trans e3).trans e4) hD, ys ++ [y], upd_same, ?_⟩
    · have h1 := List.length_filter_le f (List.range i)
      rw [List.length_range] at h1
      have h2 := p3.1
      exact Evl.sz_lt (by omega)
    · have kn : KeepN H4 (upd H4 Dl (.lst (ys ++ [y]))) := (KeepN.refl H4).lst (e4 _ _ (e3 _ _ p2))
      exact sel_yes hR p3 hf ((KeepN.of (e3.trans e4)).trans kn) (hR _ _ _ _ kn hy)
  | false => exact ⟨p1.trans e3, ys, e3 _ _ p2, sel_no hR p3 hf (KeepN.of e3)⟩
/-! ### pairs of a day and True -/
def PairsL (K : PySem.W.Frag) (H : Hp) (ys : List V) (es : List Int) : Prop := ∃ ps : List Addr, ys = ps.map V.ref ∧ Paired (fun p (e : Int) => SqT K H p [.int e, .bl true]) ps es
theorem pairs_of {K : PySem.W.Frag} {H : Hp} : ∀ {ys : List V} {es : List Int}, ys.length = es.length → (∀ (k : Nat) y e, ys[k]? = some y → es[k]? = some e → ∃ p, y = .ref p ∧ SqT K H p [.int e, .bl true]) → PairsL K H ys es
  | [], [], _, _ => ⟨[], rfl, .nil⟩
  | y :: ys, e :: es, hl, h => by
    obtain ⟨p, rfl, hp⟩ := h 0 y e rfl rfl
    obtain ⟨ps, rfl, hps⟩ := pairs_of (ys := ys) (es := es) (by simpa using hl) fun k z c hz hc => h (k + 1) z c hz hc
    exact ⟨p :: ps, rfl, .cons hp hps⟩
  | [], _ :: _, hl, _ => by simp at hl
  | _ :: _, [], hl, _ => by simp at hl
theorem pairs_sel {K : PySem.W.Frag} {H : Hp} {f : Nat → Bool} {n : Nat} {ys : List V} {e : Nat → Int} (h : Sel f (fun i y H => ∃ p, y = .ref p ∧ SqT K H p [.int (e i), .bl true]) n ys H) : PairsL K H ys (((List.range n).filter f).map e) := by
  refine pairs_of (by rw [List.length_map]; exact h.1) fun k y c hy hc => ?_
  rw [List.getElem?_map] at hc
  cases hi : ((List.range n).filter f)[k]? with
  | none => rw [hi] at hc; cases hc
  | some i =>
    rw [hi] at hc
    cases hc
    exact h.2 k i y hi hy
/-- the dict of days ds, in their order -/
def dk (ds : List Nat) : List (Key × V) := ds.map fun (d : Nat) => ((Sum.inl (d : Int) : Key), V.bl true)
def addD (acc : List Nat) (d : Nat) : List Nat := if d ∈ acc then acc else acc ++ [d]
theorem putK_dk (acc : List Nat) (d : Nat) : putK (dk acc) (Sum.inl (d : Int)) (.bl true) = dk (addD acc d) := by
  have hany : ((dk acc).any fun kv => decide (kv.1 = (Sum.inl (d : Int) : Key))) = decide (d ∈ acc) := by
    rw [Bool.eq_iff_iff, List.any_eq_true, decide_eq_true_iff]
    constructor
    · rintro ⟨kv, h1, h2⟩
      have h2 := of_decide_eq_true h2
      unfold dk at h1
      rw [List.mem_map] at h1
      obtain ⟨c, hc, rfl⟩ := h1
      have : (c : Int) = (d : Int) := Sum.inl.inj h2
      have : c = d := by omega
      exact this ▸ hc
    · intro h
      exact ⟨(Sum.inl (d : Int), .bl true), List.mem_map.mpr ⟨d, h, rfl⟩, decide_eq_true rfl⟩
  unfold putK addD
  rw [hany]
  by_cases h : d ∈ acc
  · rw [decide_eq_true h, if_pos rfl, if_pos h]
    unfold dk
    rw [List.map_map]
    apply List.map_congr_left
    intro c _
    show (if (Sum.inl (c : Int) : Key) = Sum.inl (d : Int) then ((Sum.inl (c : Int) : Key), V.bl true) else (Sum.inl (c : Int), V.bl true)) = _
    split <;> rfl
  · rw [decide_eq_false h, if_neg Bool.false_ne_true, if_neg h]
    unfold dk
    rw [List.map_append]
    rfl
theorem addD_mem {acc : List Nat} {d x : Nat} : x ∈ addD acc d ↔ x ∈ acc ∨ x = d := by
  unfold addD
  by_cases h : d ∈ acc
  · rw [if_pos h]
    constructor
    · exact .inl
    · rintro (h' | rfl)
      · exact h'
      · exact h
  · rw [if_neg h]; simp
theorem addD_nodup {acc : List Nat} {d : Nat} (h : acc.Nodup) : (addD acc d).Nodup := by
  unfold addD
  by_cases hd : d ∈ acc
  · rw [if_pos hd]; exact h
  · rw [if_neg hd]
    refine List.nodup_append.mpr ⟨h, by simp, fun a ha b hb => ?_⟩
    simp at hb
    subst hb
    exact fun e => hd (e ▸ ha)
theorem merge_dk : ∀ (es : List Nat) (acc : List Nat), mergeK (dk acc) (dk es) = dk (es.foldl addD acc)
  | [], _ => rfl
  | e :: es, acc => by
    show mergeK (putK (dk acc) (Sum.inl (e : Int)) (.bl true)) (dk es) = _
    rw [putK_dk, merge_dk es]
    rfl
theorem fold_mem : ∀ (es acc : List Nat) (x : Nat), x ∈ es.foldl addD acc ↔ x ∈ acc ∨ x ∈ es
  | [], _, _ => by simp
  | e :: es, acc, x => by
    rw [List.foldl_cons, fold_mem es, addD_mem, List.mem_cons]
    exact or_assoc
theorem fold_nodup : ∀ (es acc : List Nat), acc.Nodup → (es.foldl addD acc).Nodup
  | [], _, h => h
  | e :: es, acc, h => fold_nodup es _ (addD_nodup h)
/-- the days of a round by p, as a dict's keys -/
structure DaysOk (N : Nat) (p : Int → Bool) (ds : List Nat) : Prop where
  nd : ds.Nodup
  mem : ∀ d : Nat, d ∈ ds ↔ d < N ∧ p (d : Int) = true
theorem DaysOk.len {N : Nat} {p : Int → Bool} {ds : List Nat} (h : DaysOk N p ds) : ds.length = (daysN N p).length :=
  nodup_len h.nd (daysN_nodup N p) fun x => by rw [h.mem, daysN_mem]
theorem DaysOk.le {N : Nat} {p : Int → Bool} {ds : List Nat} (h : DaysOk N p ds) : ds.length ≤ N := by
  rw [h.len]
  exact daysN_len N p
theorem dk_get {ds : List Nat} {d : Nat} : (valV (dk ds) (Sum.inl (d : Int))).isSome = decide (d ∈ ds) := by
  rw [← valV_any, Bool.eq_iff_iff, List.any_eq_true, decide_eq_true_iff]
  constructor
  · rintro ⟨kv, h1, h2⟩
    have h2 := of_decide_eq_true h2
    unfold dk at h1
    rw [List.mem_map] at h1
    obtain ⟨c, hc, rfl⟩ := h1
    have : (c : Int) = (d : Int) := Sum.inl.inj h2
    have : c = d := by omega
    exact this ▸ hc
  · intro h
    exact ⟨(Sum.inl (d : Int), .bl true), List.mem_map.mpr ⟨d, h, rfl⟩, decide_eq_true rfl⟩
section
variable {K : PySem.W.Frag} {σ : L2.St} {H H' : Hp} {ta tb tc te tv : TE} {x y z v : V} {r r' : R2} {t u : TT} {D : Ends} {tz : TS}
/-- dict(a new list of such pairs) -/
theorem er_dict {es : List Nat} (h : EvR ta σ H fun p H2 => ∃ ys, H2 p = some (.lst ys) ∧ PairsL K H2 ys (es.map fun (d : Nat) => (d : Int))) :
    EvR (tCB (fun xs H Q => ∃ (a : Addr) (ps : List Addr) (kvs : List (Key × V)), xs = [.ref a] ∧ SqL K H a (ps.map V.ref) ∧ Paired (fun p kv => SqT K H p [kV kv.1, kv.2]) ps kvs ∧ ∀ p, H p = none → Q (.ref p) (upd H p (.dK (mergeK [] kvs)))) (tCons ta tNil)) σ H
      fun p H2 => H2 p = some (.dK (dk (es.foldl addD []))) := fun H1 e Q q =>
  h H1 e _ fun p H2 hp e2 ⟨ys, h2, ps, hy, hps⟩ => by
    subst hy
    have hpk : Paired (fun p (kv : Key × V) => SqT K H2 p [kV kv.1, kv.2]) ps (dk es) := by
      have : ∀ {ps : List Addr} {es : List Nat}, Paired (fun p (e : Int) => SqT K H2 p [.int e, .bl true]) ps (es.map fun (d : Nat) => (d : Int)) → Paired (fun p (kv : Key × V) => SqT K H2 p [kV kv.1, kv.2]) ps (dk es) := by
        intro ps
        induction ps with
        | nil =>
          intro es h
          cases es with
          | nil => exact .nil
          | cons a es => cases h
        | cons p ps ih =>
          intro es h
          cases es with
          | nil => cases h
          | cons a es =>
            cases h with
            | cons h1 h2 => exact .cons h1 (ih h2)
      exact this hps
    refine ⟨p, ps, dk es, rfl, sq_of h2, hpk, fun l hl => q l _ (fresh_back e2 hl) (e2.trans (Ex.new hl)) ?_⟩
    have := merge_dk es []
    rw [show dk [] = [] from rfl] at this
    rw [this]
    exact upd_same
theorem tup_V {Q : VK} (ha : Ev ta σ H x) (k : ∀ t H2, Ex H H2 → H2 t = some (.tup [x, .bl true]) → Q (.ref t) H2) : tTup (tCons ta (tCons (tC (.bl true)) tNil)) σ H Q :=
  ha H (Ex.refl H) _ fun H1 e1 => ⟨by show 2 ≤ sizeLine; decide, fun t ht => k t _ (e1.trans (Ex.new ht)) upd_same⟩
theorem pair_kn (e : Int) (i : Nat) (y : V) (H1 H2 : Hp) (kn : KeepN H1 H2) (h : ∃ p, y = .ref p ∧ SqT K H1 p [.int e, .bl true]) : ∃ p, y = .ref p ∧ SqT K H2 p [.int e, .bl true] := by
  obtain ⟨p, h1, h2⟩ := h
  exact ⟨p, h1, sqt_kn kn h2⟩
/-- [(e, True) for x in range(n)] -/
theorem er_pairsR {tA : TA} {j : Nat} {vs : List Nat} {n : Int} (e : Nat → Int) (h : EvA tA σ H [.int n]) (hn : 0 ≤ n ∧ n ≤ 40000) (hw : ∀ x, wipe ((wipe σ vs).set j (some x)) vs = wipe σ vs)
    (he : ∀ (i : Nat) H1, Ex H H1 → (i : Int) < n → Ev te ((wipe σ vs).set j (some (.int (0 + (i : Int))))) H1 (.int (e i))) :
    EvR (tLc (iRng1 tA) (gName j) tYes (tTup (tCons te (tCons (tC (.bl true)) tNil))) vs) σ H fun p H2 => ∃ ys, H2 p = some (.lst ys) ∧ PairsL K H2 ys ((List.range n.toNat).map e) := fun H0 ee Q q => h H0 ee _ fun H1 e1 => ⟨n, rfl, by omega, by omega,
  lcX (walk_range (lo := 0) (n := n.toNat)) (fun _ => true) (fun i y H => ∃ p, y = .ref p ∧ SqT K H p [.int (e i), .bl true]) (fun i y H1 H2 => pair_kn (e i) i y H1 H2) (fun _ _ => trivial) (by omega) hw (fun i H2 e2 hi => et_yes) (fun i H2 e2 hi _ Q q => tup_V (he i H2 ((ee.trans e1).trans e2) (by omega)) fun t H3 e3 ht => q _ H3 e3 ⟨t, rfl, st_of ht⟩) Q fun Dl H' hD e' ⟨ys, h1, h2⟩ => q Dl H' (fresh_back e1 hD) (e1.trans e') ⟨ys, h1, by
    have := pairs_sel h2
    rwa [List.filter_eq_self.mpr (fun _ _ => rfl)] at this⟩⟩
/-- [(e, True) for x in d if t], d a dict of days that stands locked at a -/
theorem er_pairsK {tl : TE} {a : Addr} {od : Obj} {ds : List Nat} {j : Nat} {vs : List Nat} (f : Nat → Bool) (e : Nat → Int) (h : Ev tl σ H (.ref a)) (hd : H a = some (.frz od (.dK (dk ds)))) (hz : ds.length ≤ 40000) (hw : ∀ x, wipe ((wipe σ vs).set j (some x)) vs = wipe σ vs)
    (ht : ∀ (i : Nat) H1, Ex H H1 → i < ds.length → EvT t ((wipe σ vs).set j (some (.int ((ds.getD i 0 : Nat) : Int)))) H1 (f i))
    (he : ∀ (i : Nat) H1, Ex H H1 → i < ds.length → f i = true → Ev te ((wipe σ vs).set j (some (.int ((ds.getD i 0 : Nat) : Int)))) H1 (.int (e i))) :
    EvR (tLc (iKeys tl) (gName j) t (tTup (tCons te (tCons (tC (.bl true)) tNil))) vs) σ H fun p H2 => ∃ ys, H2 p = some (.lst ys) ∧ PairsL K H2 ys (((List.range ds.length).filter f).map e) := fun H0 ee Q q => h H0 ee _ fun H1 e1 => ⟨a, od, rfl, .inl ⟨dk ds, (ee.trans e1) _ _ hd, by
  have wk : Walk (Itk a od (dk ds)) (dk ds).length (fun H => H a = some (.frz od (.dK (dk ds)))) (YFn fun i => .int ((ds.getD i 0 : Nat) : Int)) := (walk_keys (d := a) (o := od) (kvs := dk ds)).mono (fun _ h => h) fun i H x H' hi _ y => by
    obtain ⟨h1, k, v, hk, hx⟩ := y
    refine ⟨h1, ?_⟩
    show x = V.int ((ds.getD i 0 : Nat) : Int)
    unfold dk at hk
    rw [List.getElem?_map] at hk
    rw [List.getD_eq_getElem?_getD]
    cases hi : ds[i]? with
    | none => rw [hi] at hk; cases hk
    | some d =>
      rw [hi] at hk
      cases hk
      exact hx
  have hl : (dk ds).length = ds.length := List.length_map _
  rw [hl] at wk
  refine lcX wk f (fun i y H => ∃ p, y = .ref p ∧ SqT K H p [.int (e i), .bl true]) (fun i y H1 H2 => pair_kn (e i) i y H1 H2) (fun H' e' => ((ee.trans e1).trans e') _ _ hd) hz hw (fun i H2 e2 hi => ht i H2 ((ee.trans e1).trans e2) hi) (fun i H2 e2 hi hf Q q => tup_V (he i H2 ((ee.trans e1).trans e2) hi hf) fun t H3 e3 ht => q _ H3 e3 ⟨t, rfl, st_of ht⟩) Q fun Dl H' hD e' ⟨ys, h1, h2⟩ => q Dl H' (fresh_back e1 hD) (e1.trans e') ⟨ys, h1, pairs_sel h2⟩⟩⟩
/-- a new thing made while the object at d is walked -/
theorem ex_lock {H1 : Hp} {d : Addr} {u : HO} {od : Obj} (e : Ex H H1) : Ex (upd H d (.frz od u)) (upd H1 d (.frz od u)) := fun b o h => by
  by_cases hb : b = d
  · subst hb
    rw [upd_same] at h ⊢
    exact h
  · rw [upd_ne hb] at h ⊢
    exact e _ _ h
theorem ex_unlock {H1 H2 : Hp} {d : Addr} {u : HO} {od : Obj} (hd : H1 d = some u) (e : Ex (upd H1 d (.frz od u)) H2) : Ex H1 (upd H2 d u) := fun b o h => by
  by_cases hb : b = d
  · subst hb
    rw [upd_same, ← h, hd]
  · rw [upd_ne hb]
    refine e _ _ ?_
    rw [upd_ne hb]
    exact h
theorem er_lock {d : Addr} {u : HO} {R R' : Addr → Hp → Prop} (hd : H d = some u) (mu : Mut (some u)) (h : ∀ od, EvR te σ (upd H d (.frz od u)) R) (hR : ∀ od p H2, p ≠ d → H2 d = some (.frz od u) → R p H2 → R' p (upd H2 d u)) : EvR (tLockE te) σ H R' := fun H1 e Q q =>
  ⟨d, u, e _ _ hd, mu, fun od => h od _ (ex_lock e) _ fun p H2 hp e2 hr => by
    have hpd : p ≠ d := fun z => by
      rw [z, upd_same] at hp
      cases hp
    refine ⟨e2 _ _ upd_same, q p _ ?_ (ex_unlock (e _ _ hd) e2) (hR od p H2 hpd (e2 _ _ upd_same) hr)⟩
    rw [upd_ne hpd] at hp
    exact hp⟩
theorem pairs_unlock {d : Addr} {u : HO} {od : Obj} {H2 : Hp} (hu : ∀ xs, u ≠ .tup xs) (h : H2 d = some (.frz od u)) {ys : List V} {es : List Int} (hp : PairsL K H2 ys es) : PairsL K (upd H2 d u) ys es := by
  obtain ⟨ps, h1, h2⟩ := hp
  refine ⟨ps, h1, Paired.mapP h2 fun p e hq => ?_⟩
  rcases hq with (hq | ⟨o, hq⟩) | hq
  · refine .inl (.inl ?_)
    rw [upd_ne (ne_of hq h (by intro z; cases z))]
    exact hq
  · refine .inl (.inr ⟨o, ?_⟩)
    rw [upd_ne (ne_of hq h (by intro z; injection z with z1 z2; exact hu _ z2.symm))]
    exact hq
  · exact .inr hq
/-- [(e, True) for x in a new list of days] -/
theorem er_pairsL {tl : TE} {ds : List Nat} {j : Nat} {vs : List Nat} (e : Nat → Int) (h : EvL tl σ H (ds.map fun (d : Nat) => V.int (d : Int))) (hz : ds.length ≤ 40000) (hw : ∀ x, wipe ((wipe σ vs).set j (some x)) vs = wipe σ vs)
    (he : ∀ (i : Nat) H1, Ex H H1 → i < ds.length → Ev te ((wipe σ vs).set j (some (.int ((ds.getD i 0 : Nat) : Int)))) H1 (.int (e i))) :
    EvR (tLc (iList K tl) (gName j) tYes (tTup (tCons te (tCons (tC (.bl true)) tNil))) vs) σ H fun p H2 => ∃ ys, H2 p = some (.lst ys) ∧ PairsL K H2 ys ((List.range ds.length).map e) := fun H0 ee Q q => h H0 ee _ fun a H1 ha e1 h1 => ⟨a, rfl, ⟨_, sq_of h1⟩, by
  have wk : Walk (Itl K a) (ds.map fun (d : Nat) => V.int (d : Int)).length (fun H => SqL K H a (ds.map fun (d : Nat) => V.int (d : Int))) (YFn fun i => .int ((ds.getD i 0 : Nat) : Int)) := (walk_list (K := K) (a := a) (xs := ds.map fun (d : Nat) => V.int (d : Int))).mono (fun _ h => h) fun i H x H' hi _ y => by
    obtain ⟨h1, hk⟩ := y
    refine ⟨h1, ?_⟩
    show x = V.int ((ds.getD i 0 : Nat) : Int)
    rw [List.getElem?_map] at hk
    rw [List.getD_eq_getElem?_getD]
    cases hi : ds[i]? with
    | none => rw [hi] at hk; cases hk
    | some d =>
      rw [hi] at hk
      exact (Option.some.inj hk).symm
  rw [List.length_map] at wk
  refine lcX wk (fun _ => true) (fun i y H => ∃ p, y = .ref p ∧ SqT K H p [.int (e i), .bl true]) (fun i y H1 H2 => pair_kn (e i) i y H1 H2) (fun H' e' => sq_of (e' _ _ h1)) hz hw (fun i H2 e2 hi => et_yes) (fun i H2 e2 hi _ Q q => tup_V (he i H2 ((ee.trans e1).trans e2) hi) fun t H3 e3 ht => q _ H3 e3 ⟨t, rfl, st_of ht⟩) Q fun Dl H' hD e' ⟨ys, h1, h2⟩ => q Dl H' (fresh_back e1 hD) (e1.trans e') ⟨ys, h1, by
    have := pairs_sel h2
    rwa [List.filter_eq_self.mpr (fun _ _ => rfl)] at this⟩⟩
theorem el_listD {a : Addr} {ds : List Nat} (h : Ev ta σ H (.ref a)) (hd : H a = some (.dK (dk ds))) : EvL (tCB rListD (tCons ta tNil)) σ H (ds.map fun (d : Nat) => V.int (d : Int)) := fun H1 e Q q => h H1 e _ fun H2 e2 => ⟨a, dk ds, rfl, e2 _ _ (e _ _ hd), fun l hl => q l _ (fresh_back e2 hl) (e2.trans (Ex.new hl)) (by
  unfold dk
  rw [List.map_map]
  exact upd_same)⟩
theorem ev_din {a : Addr} {ds : List Nat} {d : Nat} (h : Ev ta σ H (.int (d : Int))) (h2 : Ev tb σ H (.ref a)) (hd : H a = some (.dK (dk ds))) : Ev (tDIn ta tb) σ H (.bl (decide (d ∈ ds))) := fun H1 e Q q =>
  h H1 e _ fun H2 e2 => h2 H2 (e.trans e2) _ fun H3 e3 => ⟨a, _, rfl, DGet.k (k := Sum.inl (d : Int)) (((e.trans e2).trans e3) _ _ hd), by rw [dk_get]; exact q H3 (e2.trans e3)⟩
theorem ev_dnotin {a : Addr} {ds : List Nat} {d : Nat} (h : Ev ta σ H (.int (d : Int))) (h2 : Ev tb σ H (.ref a)) (hd : H a = some (.dK (dk ds))) : Ev (tDNotIn ta tb) σ H (.bl (!decide (d ∈ ds))) := fun H1 e Q q =>
  h H1 e _ fun H2 e2 => h2 H2 (e.trans e2) _ fun H3 e3 => ⟨a, _, rfl, DGet.k (k := Sum.inl (d : Int)) (((e.trans e2).trans e3) _ _ hd), by rw [dk_get]; exact q H3 (e2.trans e3)⟩
end
section
variable {K : PySem.W.Frag} {σ : L2.St} {H H' : Hp} {ta tb tc te tv td : TE} {x y z v : V} {r r' : R2} {t u : TT} {D : Ends} {tz tu : TS}
theorem sqt_other {a d : Addr} {o o' : HO} {xs : List V} (hd : H d = some o) (h1 : ∀ xs, o ≠ .tup xs) (h2 : ∀ ob xs, o ≠ .frz ob (.tup xs)) (h : SqT K H a xs) : SqT K (upd H d o') a xs := by
  rcases h with (h | ⟨ob, h⟩) | h
  · refine .inl (.inl ?_)
    rw [upd_ne (ne_of h hd (fun z => h1 _ z.symm))]
    exact h
  · refine .inl (.inr ⟨ob, ?_⟩)
    rw [upd_ne (ne_of h hd (fun z => h2 _ _ z.symm))]
    exact h
  · exact .inr h
theorem q_asgD {i : Nat} (k : ∀ p, H p = none → tz D (σ.set i (some (.ref p))) (upd H p (.dK (dk [])))) : tSeq (tAsg tDNewK (gName i)) tz D σ H := fun p hp => k p hp
theorem s_dput {a : Addr} {ds : List Nat} {d : Nat} (hd : H a = some (.dK (dk ds))) (hv : Ev tv σ H (.bl true)) (ho : Ev td σ H (.ref a)) (hk : Ev ta σ H (.int (d : Int))) (hz : ds.length < 100000) (k : ∀ H1, Ex H H1 → D.nx σ (upd H1 a (.dK (dk (addD ds d))))) : sDPut td ta tv D σ H :=
  hv H (Ex.refl H) _ fun H1 e1 => ho H1 e1 _ fun H2 e2 => hk H2 (e1.trans e2) _ fun H3 e3 => ⟨a, _, rfl, DPut.k (k := Sum.inl (d : Int)) (((e1.trans e2).trans e3) _ _ hd) (by
    unfold dk
    rw [List.length_map]
    exact Evl.sz_lt hz), by
    rw [putK_dk]
    exact k H3 ((e1.trans e2).trans e3)⟩
theorem q_forR3 {tA : TA} {j : Nat} {lo hi c : Int} {n : Nat} (h : EvA tA σ H [.int lo, .int hi, .int c]) (hr : RgC lo hi c n) (Pv : Nat → L2.St → Hp → Prop) (h0 : ∀ H1, Ex H H1 → Pv 0 σ H1)
    (hs : ∀ (i : Nat) σ' H', i < n → Pv i σ' H' → tu { D with nx := Pv (i + 1), ct := Pv (i + 1), bk := tz D } (σ'.set j (some (.int (lo + (i : Int) * c)))) H') (hd : ∀ σ' H', Pv n σ' H' → tz D σ' H') : tSeq (tFor (iRng3 tA) (gName j) tu) tz D σ H :=
  h H (Ex.refl H) _ fun H1 e => ⟨lo, hi, c, n, rfl, hr, for_it (D := { D with nx := tz D }) (walk_rangeC (lo := lo) (c := c) (n := n)) Pv (h0 H1 e) (fun _ _ _ _ _ => trivial) (fun i x σ' H' H2 hi p y => by
    obtain ⟨rfl, rfl⟩ := y
    exact hs i σ' H2 hi p) hd⟩
end
/-! ### lands in a list -/
def LandL (K : PySem.W.Frag) (H : Hp) : List V → List (Nat × Nat) → Prop
  | [], [] => True
  | x :: xs, l :: ls => (∃ p, x = .ref p ∧ SqT K H p [.int (l.1 : Int), .int (l.2 : Int)]) ∧ LandL K H xs ls
  | _, _ => False
section
variable {K : PySem.W.Frag} {H H' : Hp}
theorem LandL.kn (e : KeepN H H') : ∀ {xs : List V} {ls : List (Nat × Nat)}, LandL K H xs ls → LandL K H' xs ls
  | [], [], _ => trivial
  | _ :: _, _ :: _, ⟨⟨p, h0, h1⟩, h2⟩ => ⟨⟨p, h0, sqt_kn e h1⟩, LandL.kn e h2⟩
  | [], _ :: _, h => h
  | _ :: _, [], h => h
theorem LandL.len : ∀ {xs : List V} {ls : List (Nat × Nat)}, LandL K H xs ls → xs.length = ls.length
  | [], [], _ => rfl
  | _ :: _, _ :: _, h => congrArg (· + 1) (LandL.len h.2)
  | [], _ :: _, h => h.elim
  | _ :: _, [], h => h.elim
theorem LandL.snoc : ∀ {xs : List V} {ls : List (Nat × Nat)} {p : Addr} {l : Nat × Nat}, LandL K H xs ls → SqT K H p [.int (l.1 : Int), .int (l.2 : Int)] → LandL K H (xs ++ [.ref p]) (ls ++ [l])
  | [], [], p, _, _, h => ⟨⟨p, rfl, h⟩, trivial⟩
  | _ :: _, _ :: _, _, _, h, g => ⟨h.1, LandL.snoc h.2 g⟩
  | [], _ :: _, _, _, h, _ => h.elim
  | _ :: _, [], _, _, h, _ => h.elim
theorem LandL.app : ∀ {xs ys : List V} {ls ms : List (Nat × Nat)}, LandL K H xs ls → LandL K H ys ms → LandL K H (xs ++ ys) (ls ++ ms)
  | [], _, [], _, _, h => h
  | _ :: _, _, _ :: _, _, h, g => ⟨h.1, LandL.app h.2 g⟩
  | [], _, _ :: _, _, h, _ => h.elim
  | _ :: _, _, [], _, h, _ => h.elim
theorem LandL.mem : ∀ {xs : List V} {ls : List (Nat × Nat)} {x : V}, LandL K H xs ls → x ∈ xs → ∃ l ∈ ls, ∃ p, x = .ref p ∧ SqT K H p [.int (l.1 : Int), .int (l.2 : Int)]
  | _ :: _, l :: _, x, h, hm => by
    rcases List.mem_cons.mp hm with rfl | hm
    · exact ⟨l, List.mem_cons_self, h.1⟩
    · obtain ⟨m, h1, h2⟩ := LandL.mem h.2 hm
      exact ⟨m, List.mem_cons_of_mem _ h1, h2⟩
  | [], [], _, _, hm => nomatch hm
  | [], _ :: _, _, h, _ => h.elim
  | _ :: _, [], _, h, _ => h.elim
end
/-- the law's row of lands, by w below a total, then by total -/
def innerL (t M n : Nat) : List (Nat × Nat) := (List.range n).flatMap fun j => if t - (2 + j) ≤ M ∧ Nat.gcd (t - (2 + j)) (2 + j) = 1 then [(2 + j, t - (2 + j))] else []
def landsL (W M n : Nat) : List (Nat × Nat) := (List.range n).flatMap fun i => innerL (5 + i) M (min W ((4 + i) / 2) - 1)
theorem innerL_succ (t M n : Nat) : innerL t M (n + 1) = innerL t M n ++ (if t - (2 + n) ≤ M ∧ Nat.gcd (t - (2 + n)) (2 + n) = 1 then [(2 + n, t - (2 + n))] else []) := by
  unfold innerL
  rw [List.range_succ, List.flatMap_append]
  simp
theorem landsL_succ (W M n : Nat) : landsL W M (n + 1) = landsL W M n ++ innerL (5 + n) M (min W ((4 + n) / 2) - 1) := by
  unfold landsL
  rw [List.range_succ, List.flatMap_append]
  simp
theorem innerL_len (t M : Nat) : ∀ n, (innerL t M n).length ≤ n
  | 0 => Nat.le_refl _
  | n + 1 => by
    rw [innerL_succ, List.length_append]
    have := innerL_len t M n
    split
    · show _ + 1 ≤ _; omega
    · show _ + 0 ≤ _; omega
theorem innerL_mem {t M n : Nat} {l : Nat × Nat} (h : l ∈ innerL t M n) : 2 ≤ l.1 ∧ l.1 < 2 + n ∧ l.2 = t - l.1 ∧ l.2 ≤ M ∧ Nat.gcd l.2 l.1 = 1 := by
  unfold innerL at h
  rw [List.mem_flatMap] at h
  obtain ⟨j, hj, h⟩ := h
  rw [List.mem_range] at hj
  split at h
  · rename_i hc
    rw [List.mem_singleton] at h
    subst h
    exact ⟨by show 2 ≤ 2 + j; omega, by show 2 + j < 2 + n; omega, rfl, hc.1, hc.2⟩
  · cases h
/-- every land of it is one: w within W, m within M -/
theorem landsL_mem {W M n : Nat} {l : Nat × Nat} (h : l ∈ landsL W M n) : 2 ≤ l.1 ∧ l.1 ≤ W ∧ l.1 < l.2 ∧ l.2 ≤ M ∧ Nat.gcd l.2 l.1 = 1 := by
  unfold landsL at h
  rw [List.mem_flatMap] at h
  obtain ⟨i, hi, h⟩ := h
  obtain ⟨h1, h2, h3, h4, h5⟩ := innerL_mem h
  exact ⟨h1, by omega, by omega, h4, h5⟩
theorem rgC_by {i n c : Nat} (hi : i < c) (hn : 0 < n) (hc : c < 100000) (hz : c * n ≤ 1000000) : RgC (i : Int) ((c * n : Nat) : Int) (c : Int) n := by
  have hle : c ≤ c * n := Nat.le_mul_of_pos_right c hn
  have e : Builtin.Range.rangeSize (i : Int) ((c * n : Nat) : Int) (c : Int) = n := by
    unfold Builtin.Range.rangeSize
    rw [if_pos (by omega), if_pos (by omega)]
    have h1 : ((c * n : Nat) : Int) - (i : Int) - 1 = ((c : Int) - 1 - (i : Int)) + (c : Int) * ((n : Int) - 1) := by
      rw [Int.mul_sub, Int.mul_one, Int.natCast_mul]
      omega
    rw [h1, Int.add_mul_ediv_left _ _ (by omega), Int.ediv_eq_zero_of_lt (by omega) (by omega)]
    omega
  refine ⟨by omega, by omega, ?_, e⟩
  unfold Builtin.Range.small
  rw [e]
  simp only [Builtin.Range.rangeFitsLong, Bool.and_eq_true, Bool.or_eq_true, decide_eq_true_eq, beq_iff_eq]
  rw [if_pos (by omega)]
  have hn2 : n ≤ c * n := Nat.le_mul_of_pos_left n (by omega)
  refine ⟨⟨⟨⟨by omega, by omega⟩, by omega⟩, by omega⟩, .inr (by rw [Bool.and_eq_true, decide_eq_true_iff, decide_eq_true_iff]; omega)⟩
end WF

set_option Elab.async false
set_option linter.all false
set_option maxRecDepth 100000
set_option maxHeartbeats 400000
/-! WLong: for i in range(a, b), however far a and b lie -/
namespace WF
open PySem L2 Evl PySem.Spec PyProof.Rows
theorem turn_long {P : Program} {w : World} {K : PySem.W.Frag} {tg : Expr} (it : Addr) (lo : Int) (n : Nat) : Turn P w K tg (Itr lo n) [it] it (fun i h => IsLongIter h it (lo + (i : Nat) * 1) ((n : Int) - (i : Nat)) 1) where
  mem := by simp
  obj := fun i h st b hb => by
    have e : b = it := by simpa using hb
    rw [e]
    exact ⟨_, st, fun v z => nomatch (show Data.fields _ = Data.cell v from z)⟩
  keep := fun i h h' st k => k it (by simp) _ st
  item := fun X hP hw hK hc i pins s σ H E I hf st hg => by
    cases hP
    cases hw
    cases hK
    obtain ⟨f0, f1, f2, f3, f4, f5⟩ := hf it (by simp)
    refine (Walks.longrange (prog := X.prog) (w := X.w) (I.ok.hd hc) it lo 1 n).item i s _ _ hg st fun v h' tk hv st' kk => ?_
    obtain ⟨t, rfl⟩ := hv
    have I1 : Inv X pins σ H { s with heap := h', toks := tk } := I.turned (fun b o hb e => kk b o (by simpa using hb) e) f0 f1 f3 f4 f5
    refine ⟨_, rfl, go_of (n := "longrange_iterator") (s := { s with heap := h', toks := tk }) st' rfl rfl (by decide) ⟨.int (lo + i), H, I1, ⟨t, by rw [Int.mul_one]⟩, ⟨rfl, rfl⟩, st', fun b hb => (hf b hb).1⟩⟩
  done := fun X hP hw hK hc i pins s σ H E I hf st hg => by
    cases hP
    cases hw
    cases hK
    obtain ⟨f0, f1, f2, f3, f4, f5⟩ := hf it (by simp)
    exact wpAny_pyNext_long_end (I.ok.hd hc) st (by have : n ≤ i := hg; omega) fun h' eb => ⟨rfl, I.turned (t' := s.toks) (fun b o hb e => eb b o hb e) f0 f1 f3 f4 f5⟩
  self := fun _ _ _ _ _ st h => wpAny_pyIter_longiter st h
section
variable {X : Cx} {tg : Expr}
theorem range_itA {pins : List (Addr × Obj)} {σ : L2.St} {H : Hp} {s : Shared} {R : It → Hp → Prop} {E : Value → Shared → Prop} {lo hi : Int} {t u v : Tok} {tk : Nat} (I : Inv X pins σ H s)
    (q : R (Itr lo (hi - lo).toNat) H) : wpAny (model X.prog X.w) X.A (pyIter (.ref s.heap.objs.size)) (PIE X pins σ tg R) E { s with heap := s.heap.push { cls := .type "range", data := .fields #[.int lo t, .int hi u, .int 1 v] }, toks := tk } := by
  have I1 : Inv X pins σ H { s with heap := s.heap.push { cls := .type "range", data := .fields #[.int lo t, .int hi u, .int 1 v] }, toks := tk } := I.kept fun b o e => Heap.get?_push_of_some _ e
  have e1 : lo + ((0 : Nat) : Int) * 1 = lo := by simp
  have e2 : (((hi - lo).toNat : Nat) : Int) - ((0 : Nat) : Int) = Builtin.Range.rangeSize lo hi 1 := by rw [rangeSize_one]; split <;> omega
  cases hs : Builtin.Range.small lo hi 1 with
  | true =>
    refine wpAny_pyIter_range (IsRange.new ..) hs ?_
    refine ⟨_, [(s.heap.push { cls := .type "range", data := .fields #[.int lo t, .int hi u, .int 1 v] }).objs.size], _, _, H, rfl, I1.kept (t' := tk) fun b o e => Heap.get?_push_of_some _ e, turn_range _ lo (hi - lo).toNat, ?_, fun b hb => ?_, q⟩
    · show IsRangeIter _ _ (lo + ((0 : Nat) : Int) * 1) ((((hi - lo).toNat : Nat) : Int) - ((0 : Nat) : Int)) 1
      rw [e1, e2]
      exact Heap.get?_push_size _ rfl
    · have eb : b = (s.heap.push { cls := .type "range", data := .fields #[.int lo t, .int hi u, .int 1 v] }).objs.size := by simpa using hb
      cases eb
      exact I1.fpOk (Nat.le_refl _) (I1.hok.fresh (Nat.le_refl _))
  | false =>
    refine wpAny_pyIter_longrange (IsRange.new ..) hs ?_
    refine ⟨_, [(s.heap.push { cls := .type "range", data := .fields #[.int lo t, .int hi u, .int 1 v] }).objs.size], _, _, H, rfl, I1.kept (t' := tk) fun b o e => Heap.get?_push_of_some _ e, turn_long _ lo (hi - lo).toNat, ?_, fun b hb => ?_, q⟩
    · show IsLongIter _ _ (lo + ((0 : Nat) : Int) * 1) ((((hi - lo).toNat : Nat) : Int) - ((0 : Nat) : Int)) 1
      rw [e1, e2]
      exact Heap.get?_push_size _ rfl
    · have eb : b = (s.heap.push { cls := .type "range", data := .fields #[.int lo t, .int hi u, .int 1 v] }).objs.size := by simpa using hb
      cases eb
      exact I1.fpOk (Nat.le_refl _) (I1.hok.fresh (Nat.le_refl _))
def iRngA (ta : TA) : TI := fun σ H R => ta σ H fun vs H1 => ∃ i j : Int, vs = [.int i, .int j] ∧ R (Itr i (j - i).toNat) H1
theorem pi_rangeA {a b : Expr} {ta : TA} {p pos : Pos} (hg : Gl X "range") (hm : X.mg "range" = none) (ha : PA X [a, b] ta) (hs : starEach [a, b] X.env = [(false, eval a X.env), (false, eval b X.env)] := by rfl) (hs2 : starEach [b] X.env = [(false, eval b X.env)] := by rfl) :
    PI X tg (.Call (.Name "range" p) [a, b] [] pos) (iRngA ta) := by
  refine ⟨fun pins s σ H R I w0 => ?_⟩
  refine Call_ (ld_blt I hg hm boot_range (PyProof.Rows.callWith_type1 (thn (ha.run pos pins s σ H _ I w0) fun us s1 ⟨vs, H1, I1, r1, w1⟩ => ?_) (by rw [hs, hs2]) (by rw [hs2]; rfl)))
  obtain ⟨i, j, hv, w2⟩ := w1
  subst hv
  cases r1 with
  | cons ra rest =>
    cases rest with
    | cons rb rest =>
      cases rest
      obtain ⟨t1, rfl⟩ := ra
      obtain ⟨t2, rfl⟩ := rb
      exact call_range_2 (range_itA I1 w2)
end
section
variable {K : PySem.W.Frag} {σ : L2.St} {H H' : Hp} {D : Ends} {tu tz : TS}
theorem s_forRA {ta : TA} {j : Nat} {lo n : Int} (h : EvA ta σ H [.int lo, .int n]) (Pv : Nat → L2.St → Hp → Prop) (h0 : ∀ H1, Ex H H1 → Pv 0 σ H1)
    (hs : ∀ (i : Nat) σ' H', lo + (i : Int) < n → Pv i σ' H' → tu { D with nx := Pv (i + 1), ct := Pv (i + 1), bk := D.nx } (σ'.set j (some (.int (lo + (i : Int))))) H') (hd : ∀ σ' H', Pv (n - lo).toNat σ' H' → D.nx σ' H') : tFor (iRngA ta) (gName j) tu D σ H :=
  h H (Ex.refl H) _ fun H1 e => ⟨lo, n, rfl, for_it (walk_range (lo := lo) (n := (n - lo).toNat)) Pv (h0 H1 e) (fun _ _ _ _ _ => trivial) (fun i x σ' H' H2 hi p y => by
    obtain ⟨rfl, rfl⟩ := y
    exact hs i σ' H2 (by omega) p) hd⟩
theorem q_forRA {ta : TA} {j : Nat} {lo n : Int} (h : EvA ta σ H [.int lo, .int n]) (Pv : Nat → L2.St → Hp → Prop) (h0 : ∀ H1, Ex H H1 → Pv 0 σ H1)
    (hs : ∀ (i : Nat) σ' H', lo + (i : Int) < n → Pv i σ' H' → tu { D with nx := Pv (i + 1), ct := Pv (i + 1), bk := tz D } (σ'.set j (some (.int (lo + (i : Int))))) H') (hd : ∀ σ' H', Pv (n - lo).toNat σ' H' → tz D σ' H') : tSeq (tFor (iRngA ta) (gName j) tu) tz D σ H :=
  s_forRA (D := { D with nx := tz D }) h Pv h0 hs hd
end
end WF

set_option Elab.async false
set_option linter.all false
set_option maxRecDepth 100000
set_option maxHeartbeats 400000
/-! WTry: calls within a try; lists of what one may not land upon -/
namespace WF
open PySem L2 Evl
theorem takes0 {X : Cx} : Takes X (fun _ _ _ _ => False) := fun _ _ h => by
  obtain ⟨_, _, _, _, _, _, _, _, _, _, _, _, _, _, _, _, no⟩ := h
  exact no.elim
section
variable {X : Cx} {K : PySem.W.Frag} {CX : CXT} {x : Str} {k : Nat} {ps : List Str} {sp : Sp} {E : L2.St → XK} {e : Expr} {es : List Expr} {p pos : Pos} {t : TA}
theorem ix_seqK (hK : X.K = K := by rfl) : IxR X (rIx K) := by
  subst hK
  exact ix_seq
theorem pe_fnS (D : Dn X.prog X.w X.K X.mg X.base CX x k ps sp) (hr : Room k X.A) (hx : ∀ σ, PassesAt CX X σ (E σ)) (hg : Gl X x) (ha : PA X (e :: es) t) (hdb : (x == ("__debug__" : Str)) = false := by decide)
    (he : starEach (e :: es) X.env = (false, eval e X.env) :: starEach es X.env := by rfl) (hpl : (backTo pos (starEach es X.env)).any (·.1) = false := by rfl) : PE X (.Call (.Name x p) (e :: es) [] pos) (tCallS sp E t) := by
  obtain ⟨f, fd, h1, h2, h3, h4⟩ := D.ex
  exact pe_callS h3 hr hg h1 h2 h4 hx ha hdb he hpl
end
/-- an error of a class is what except names by that class -/
theorem Err.self {K : PySem.W.Frag} {C : Addr} (h : Err K C) : PySem.W.exmOne K (.ref C) (.ref C) = some true := by
  unfold PySem.W.exmOne
  rw [h.be, if_pos (by rfl)]
  unfold PySem.W.kitCls
  have h2 : (PySem.W.clsIn K C).isSome = true := h.is
  simp only [h2, h.ty, h.se]
  rfl
theorem Err.other {K : PySem.W.Frag} {C B : Addr} (h : Err K C) (hB : Err K B) (hs : PySem.W.subIn K (.ref C) (.ref B) = some false) : PySem.W.exmOne K (.ref C) (.ref B) = some false := by
  unfold PySem.W.exmOne
  rw [hB.be, if_pos (by rfl)]
  unfold PySem.W.kitCls
  have h2 : (PySem.W.clsIn K B).isSome = true := hB.is
  simp only [h2, hB.ty, hs]
  rfl
section
variable {K : PySem.W.Frag} {H H' : Hp} {d : Addr} {xs xs' : List V} {x v : V} {t : Value}
/-! what a changed list leaves -/
theorem ty_but (hd : H d = some (.lst xs)) (hd' : H' d = some (.lst xs')) (e : ExB d H H') (h : TyX K H x t) : TyX K H' x t := by
  have mv : ∀ {a : Addr} {o : HO}, H a = some o → (∀ ys, o ≠ .lst ys) → H' a = some o := fun {a o} q n => e.kn hd _ _ n q
  cases h with
  | base h =>
    cases h with
    | non => exact .base .non
    | bl b => exact .base (.bl b)
    | int i => exact .base (.int i)
    | str z => exact .base (.str z)
    | flt z => exact .base (.flt z)
    | @lst a ys h =>
      by_cases had : a = d
      · subst had
        exact .base (.lst hd')
      · exact .base (.lst (e _ _ had h))
    | frz h => exact .base (.frz (mv h (fun _ q => nomatch q)))
    | tup h => exact .base (.tup (mv h (fun _ q => nomatch q)))
    | dK h => exact .base (.dK (mv h (fun _ q => nomatch q)))
    | dT h => exact .base (.dT (mv h (fun _ q => nomatch q)))
    | ins h cl ha hn htk hm => exact .base (.ins (mv h (fun _ q => nomatch q)) cl ha hn htk hm)
  | byt b => exact .byt b
  | set h => exact .set (mv h (fun _ q => nomatch q))
  | kList h c => exact .kList h c
  | kTuple h c => exact .kTuple h c
  | kDict h c => exact .kDict h c
  | fTuple h => exact .fTuple (mv h (fun _ q => nomatch q))
  | fDict h => exact .fDict (mv h (fun _ q => nomatch q))
theorem num_but {o : Option Int} (hd : H d = some (.lst xs)) (hd' : H' d = some (.lst xs')) (e : ExB d H H') (h : NumV K H x o) : NumV K H' x o := by
  cases h with
  | int z => exact .int z
  | odd h n => exact .odd (ty_but hd hd' e h) n
theorem land_but {b : Bool} (hd : H d = some (.lst xs)) (hd' : H' d = some (.lst xs')) (e : ExB d H H') (h : LandV K H x b) : LandV K H' x b := by
  have kn := e.kn hd
  cases h with
  | no h n => exact .no (ty_but hd hd' e h) n
  | len h n z => exact .len (sqt_kn kn h) n z
  | odd h hx hy n => exact .odd (sqt_kn kn h) (num_but hd hd' e hx) (num_but hd hd' e hy) n
  | two h z1 z2 => exact .two (sqt_kn kn h) z1 z2
end
/-! ### lists whose items are made, told by what holds of each -/
section
variable {K : PySem.W.Frag} {σ : L2.St} {H H' : Hp} {ta tb tc te tl : TE} {tA : TA} {x y z v : V} {S : V → Hp → Prop} {P : List V → Hp → Prop}
def EvX (te : TE) (σ : L2.St) (H : Hp) (S : V → Hp → Prop) : Prop := ∀ H1, Ex H H1 → ∀ Q : VK, (∀ y H2, Ex H1 H2 → S y H2 → Q y H2) → te σ H1 Q
def EvY (ta : TA) (σ : L2.St) (H : Hp) (P : List V → Hp → Prop) : Prop := ∀ H1, Ex H H1 → ∀ Q : List V → Hp → Prop, (∀ ys H2, Ex H1 H2 → P ys H2 → Q ys H2) → ta σ H1 Q
def AllS (S : V → Hp → Prop) (n : Nat) (ys : List V) (H : Hp) : Prop := ys.length = n ∧ ∀ y ∈ ys, S y H
theorem AllS.mono {n : Nat} {ys : List V} (hS : ∀ y H1 H2, Ex H1 H2 → S y H1 → S y H2) (e : Ex H H') (h : AllS S n ys H) : AllS S n ys H' := ⟨h.1, fun y hy => hS y _ _ e (h.2 y hy)⟩
theorem ex_v (h : Ev te σ H v) (hv : ∀ H1, Ex H H1 → S v H1) : EvX te σ H S := fun H1 e Q q => h H1 e Q fun H2 e2 => q v H2 e2 (hv H2 (e.trans e2))
theorem ex_tup {us : List V} (h : EvU te σ H us) (hv : ∀ p H1, Ex H H1 → H1 p = some (.tup us) → S (.ref p) H1) : EvX te σ H S := fun H1 e Q q => h H1 e Q fun p H2 hp e2 h2 => q _ H2 e2 (hv p H2 (e.trans e2) h2)
theorem ex_lst {us : List V} (h : EvL te σ H us) (hv : ∀ p H1, Ex H H1 → H1 p = some (.lst us) → S (.ref p) H1) : EvX te σ H S := fun H1 e Q q => h H1 e Q fun p H2 hp e2 h2 => q _ H2 e2 (hv p H2 (e.trans e2) h2)
theorem ey_nil : EvY tNil σ H (AllS S 0) := fun H1 _ Q q => q [] H1 (Ex.refl H1) ⟨rfl, fun _ h => nomatch h⟩
theorem ey_cons {n : Nat} (hS : ∀ y H1 H2, Ex H1 H2 → S y H1 → S y H2) (h : EvX te σ H S) (hr : EvY tA σ H (AllS S n)) : EvY (tCons te tA) σ H (AllS S (n + 1)) := fun H1 e Q q =>
  h H1 e _ fun y H2 e2 hy => hr H2 (e.trans e2) _ fun ys H3 e3 hys => q (y :: ys) H3 (e2.trans e3) ⟨congrArg (· + 1) hys.1, fun z hz => (List.mem_cons.mp hz).elim (fun h => h ▸ hS _ _ _ e3 hy) (hys.2 z)⟩
/-- pick from a display -/
theorem er_disp {n : Nat} (hS : ∀ y H1 H2, Ex H1 H2 → S y H1 → S y H2) (h : EvY tA σ H (AllS S n)) (hn : n ≤ 1000) : EvR (tLst tA) σ H fun p H2 => ∃ ys, H2 p = some (.lst ys) ∧ AllS S n ys H2 := fun H1 e Q q =>
  h H1 e _ fun ys H2 e2 hys => ⟨Evl.sz_of (by rw [hys.1]; omega), fun p hp => q p _ (fresh_back e2 hp) (e2.trans (Ex.new hp)) ⟨ys, upd_same, hys.mono hS (Ex.new hp)⟩⟩
end
/-! lands of a display -/
section
variable {K : PySem.W.Frag} {σ : L2.St} {H H' : Hp} {ta tb tc te tl : TE} {tA : TA}
theorem ly_nil : EvY tNil σ H (fun ys H2 => LandL K H2 ys []) := fun H1 _ Q q => q [] H1 (Ex.refl H1) trivial
theorem ly_cons {a b : Nat} {ls : List (Nat × Nat)} (hr : EvY tA σ H (fun ys H2 => LandL K H2 ys ls)) : EvY (tCons (tTup (tCons (tC (.int (a : Int))) (tCons (tC (.int (b : Int))) tNil))) tA) σ H (fun ys H2 => LandL K H2 ys ((a, b) :: ls)) := fun H1 e Q q =>
  ⟨by show 2 ≤ sizeLine; decide, fun p hp => hr _ (e.trans (Ex.new hp)) _ fun ys H3 e3 hys => q (.ref p :: ys) H3 ((Ex.new hp).trans e3) ⟨⟨p, rfl, ex_t e3 (st_of upd_same)⟩, hys⟩⟩
theorem er_landsD {ls : List (Nat × Nat)} (h : EvY tA σ H (fun ys H2 => LandL K H2 ys ls)) (hn : ls.length ≤ 1000) : EvR (tLst tA) σ H fun p H2 => ∃ ys, H2 p = some (.lst ys) ∧ LandL K H2 ys ls := fun H1 e Q q =>
  h H1 e _ fun ys H2 e2 hys => ⟨Evl.sz_of (by rw [hys.len]; omega), fun p hp => q p _ (fresh_back e2 hp) (e2.trans (Ex.new hp)) ⟨ys, upd_same, hys.kn (KeepN.of (Ex.new hp))⟩⟩
theorem er_landsC {ls ms : List (Nat × Nat)} (h1 : EvR ta σ H fun p H2 => ∃ ys, H2 p = some (.lst ys) ∧ LandL K H2 ys ls) (h2 : EvR tb σ H fun p H2 => ∃ ys, H2 p = some (.lst ys) ∧ LandL K H2 ys ms) (hn : ls.length + ms.length ≤ 100000) :
    EvR (tOp rCat ta tb) σ H fun p H2 => ∃ ys, H2 p = some (.lst ys) ∧ LandL K H2 ys (ls ++ ms) := fun H1 e Q q =>
  h1 H1 e _ fun p H2 hp e2 ⟨ys, k1, l1⟩ => h2 H2 (e.trans e2) _ fun p2 H3 hp2 e3 ⟨zs, k2, l2⟩ => ⟨p, p2, ys, zs, rfl, rfl, e3 _ _ k1, k2, Evl.sz_of (by rw [l1.len, l2.len]; exact hn), fun p3 hp3 => q p3 _ (fresh_back (e2.trans e3) hp3) ((e2.trans e3).trans (Ex.new hp3)) ⟨ys ++ zs, upd_same, (l1.kn (KeepN.of (e3.trans (Ex.new hp3)))).app (l2.kn (KeepN.of (Ex.new hp3)))⟩⟩
theorem ev_lenD {a : Addr} {ds : List Nat} (h : Ev ta σ H (.ref a)) (hd : H a = some (.dK (dk ds))) : Ev (tCB (fun xs H Q => ∃ a kvs, xs = [V.ref a] ∧ H a = some (.dK kvs) ∧ Q (.int kvs.length) H) (tCons ta tNil)) σ H (.int ((ds.length : Nat) : Int)) := fun H1 e Q q =>
  h H1 e _ fun H2 e2 => ⟨a, dk ds, rfl, e2 _ _ (e _ _ hd), by
    unfold dk
    rw [List.length_map]
    exact q H2 e2⟩
/-- x = f(..) in a try -/
theorem q_asgS {sp : Sp} {W : Ends → WX} {D : Ends} {i : Nat} {tz : TS} {vs : List V} (h : EvA tA σ H vs) (k : ∀ H1, Ex H H1 → sp vs H1 (fun x H2 => tz D (σ.set i (some x)) H2) (fun cls d H2 => W { D with nx := tz D } cls d σ H2)) :
    tSeq (fun D σ H => tAsg (tCallS sp (WE (W D)) tA) (gName i) D σ H) tz D σ H := h H (Ex.refl H) _ fun H1 e => k H1 e
/-- a call with a new tuple among what is handed over -/
theorem ev_callT3 {sp : Sp} {E : XK} {us : List V} {x z v : V} (ha : Ev ta σ H x) (hb : EvU tb σ H us) (hc : Ev tc σ H z) (h : ∀ p H1, Ex H H1 → H1 p = some (.tup us) → ∀ (Q : VK) (E : XK), RetV v H1 Q → sp [x, .ref p, z] H1 Q E) :
    Ev (tCall sp [] E (tCons ta (tCons tb (tCons tc tNil)))) σ H v := fun H1 e Q q => ha H1 e _ fun H2 e2 => hb H2 (e.trans e2) _ fun p H3 hp e3 h3 => hc H3 ((e.trans e2).trans e3) _ fun H4 e4 => h p H4 (((e.trans e2).trans e3).trans e4) (e4 _ _ h3) Q E fun H5 e5 => q H5 (((e2.trans e3).trans e4).trans e5)
theorem ev_callT2 {sp : Sp} {E : XK} {us : List V} {x v : V} (ha : Ev ta σ H x) (hb : EvU tb σ H us) (h : ∀ p H1, Ex H H1 → H1 p = some (.tup us) → ∀ (Q : VK) (E : XK), RetV v H1 Q → sp [x, .ref p] H1 Q E) :
    Ev (tCall sp [] E (tCons ta (tCons tb tNil))) σ H v := fun H1 e Q q => ha H1 e _ fun H2 e2 => hb H2 (e.trans e2) _ fun p H3 hp e3 h3 => h p H3 ((e.trans e2).trans e3) h3 Q E fun H5 e5 => q H5 ((e2.trans e3).trans e5)
end
end WF

set_option Elab.async false
set_option linter.all false
set_option maxRecDepth 100000
set_option maxHeartbeats 400000
/-! WDrawI: whole numbers that are drawn: S tells of each; I stands whatever is drawn -/
namespace WF
open PySem L2 Evl
def DrI (te : TE) (σ : L2.St) (d : Addr) (I : Hp → Prop) (S : Int → Prop) : Prop := ∀ H xs, I H → H d = some (.lst xs) → Good xs → ∀ Q : VK, (∀ i H' xs', S i → I H' → ExB d H H' → H' d = some (.lst xs') → Good xs' → Q (.int i) H') → te σ H Q
def DrA (ta : TA) (σ : L2.St) (d : Addr) (I : Hp → Prop) (n : Nat) (S : Int → Prop) : Prop := ∀ H xs, I H → H d = some (.lst xs) → Good xs → ∀ Q : List V → Hp → Prop, (∀ (is : List Int) H' xs', is.length = n → (∀ i ∈ is, S i) → I H' → ExB d H H' → H' d = some (.lst xs') → Good xs' → Q (is.map V.int) H') → ta σ H Q
section
variable {K : PySem.W.Frag} {σ : L2.St} {H H' : Hp} {ta tb te : TE} {tA : TA} {d : Addr} {I : Hp → Prop} {S A B : Int → Prop} {i : Int} {n : Nat} {D : Ends} {tz : TS}
theorem dr_ev (hI : ∀ H H', I H → ExB d H H' → I H') (h : ∀ H, I H → Ev te σ H (.int i)) (hs : S i) : DrI te σ d I S := fun H xs hi hd hg Q q => h H hi H (Ex.refl H) Q fun H2 e => q i H2 xs hs (hI _ _ hi (ExB.of e)) (ExB.of e) (e _ _ hd) hg
theorem dr_op {g : Int → Int → Int} (ha : DrI ta σ d I A) (hb : DrI tb σ d I B) (hs : ∀ i j, A i → B j → S (g i j)) : DrI (tOp (rI0 fun i j => .int (g i j)) ta tb) σ d I S := fun H xs hi hd hg Q q =>
  ha H xs hi hd hg _ fun i H1 xs1 h1 i1 e1 d1 g1 => hb H1 xs1 i1 d1 g1 _ fun j H2 xs2 h2 i2 e2 d2 g2 => ⟨i, j, rfl, rfl, q _ H2 xs2 (hs i j h1 h2) i2 (e1.trans e2) d2 g2⟩
theorem dr_nil : DrA tNil σ d I 0 S := fun H xs hi hd hg Q q => q [] H xs rfl (fun _ h => nomatch h) hi (ExB.of (Ex.refl H)) hd hg
theorem dr_cons (ha : DrI te σ d I S) (hr : DrA tA σ d I n S) : DrA (tCons te tA) σ d I (n + 1) S := fun H xs hi hd hg Q q =>
  ha H xs hi hd hg _ fun i H1 xs1 h1 i1 e1 d1 g1 => hr H1 xs1 i1 d1 g1 _ fun is H2 xs2 hl h2 i2 e2 d2 g2 => q (i :: is) H2 xs2 (congrArg (· + 1) hl) (fun z hz => (List.mem_cons.mp hz).elim (fun h => h ▸ h1) (h2 z)) i2 (e1.trans e2) d2 g2
theorem q_dr {j : Nat} {xs : List V} (h : DrI te σ d I S) (hi : I H) (hd : H d = some (.lst xs)) (hg : Good xs) (k : ∀ i H' xs', S i → I H' → ExB d H H' → H' d = some (.lst xs') → Good xs' → tz D (σ.set j (some (.int i))) H') : tSeq (tAsg te (gName j)) tz D σ H := h H xs hi hd hg _ k
end
end WF

set_option Elab.async false
set_option linter.all false
set_option maxRecDepth 100000
set_option maxHeartbeats 200000
/-! WSort: sorted(pairs, key=sum) -/
namespace WF
open PySem L2 Evl PyProof.Rows
theorem kept_push {h h' : Heap} {o0 : Obj} (hk : ∀ b o, b ∉ [h.objs.size] → (h.push o0).get? b = some o → h'.get? b = some o) : ∀ b o, h.get? b = some o → h'.get? b = some o := fun b o q =>
  hk b o (fun hm => Nat.lt_irrefl _ (Nat.lt_of_lt_of_eq (Heap.lt_size q) (List.mem_singleton.mp hm).symm)) (Heap.get?_push_of_some _ q)
/-- sum of a pair of whole numbers -/
theorem sum_pair {prog : Program} {w : World} {A : Around} {E : Value → Shared → Prop} {s : Shared} {Q : Value → Shared → Prop} {a : Addr} {i j : Int} {t1 t2 : Tok} (hh : A.handled = none) (ht : s.heap.IsTuple a #[.int i t1, .int j t2])
    (h : ∀ h' tk t', (∀ b o, s.heap.get? b = some o → h'.get? b = some o) → Q (.int (i + j) t') { s with heap := h', toks := tk }) : wpAny (model prog w) A (call (.builtin "sum") [.ref a]) Q E s := by
  have hlt : a < s.heap.objs.size := by obtain ⟨o, e, _⟩ := ht; exact Heap.lt_size e
  have W := Walks.tuple (prog := prog) (w := w) (A := A.in1) hh s.heap.objs.size a (Nat.ne_of_lt hlt) #[.int i t1, .int j t2]
  refine PySem.call_sum_walkG (PySem.wpAny_pyIter_tuple ht ?_)
  refine ⟨s.heap.objs.size, [s.heap.objs.size, a], [s.heap.objs.size], 2, _, _, fun k => if k = 0 then i else j, rfl, W, ⟨⟨_, Heap.get?_push_size _ rfl, rfl, rfl⟩, ?_⟩, fun b hb => ?_, fun k v hk => ?_, fun h' tk t' hk => ?_⟩
  · obtain ⟨o, e, r⟩ := ht
    exact ⟨o, Heap.get?_push_of_some _ e, r⟩
  · show b < (s.heap.push _).objs.size
    rw [Heap.size_push]
    rcases List.mem_cons.mp hb with rfl | hb
    · exact Nat.lt_succ_self _
    · rcases List.mem_cons.mp hb with rfl | hb
      · exact Nat.lt_succ_of_lt hlt
      · cases hb
  · match k, hk with
    | 0, hk => simp at hk; exact ⟨t1, hk.symm⟩
    | 1, hk => simp at hk; exact ⟨t2, hk.symm⟩
    | n + 2, hk => simp at hk
  · have e : preSum (fun k => if k = 0 then i else j) 2 = i + j := by
      simp [preSum]
    rw [e]
    exact h h' tk t' (kept_push hk)
def sumLe (a b : Nat × Nat) : Bool := decide (((a.1 : Int) + (a.2 : Int)) ≤ ((b.1 : Int) + (b.2 : Int)))
/-- at v a pair, in the model's heap too -/
def PrAt (K : PySem.W.Frag) (H : Hp) (h : Heap) (v : Value) (l : Nat × Nat) : Prop := ∃ t t1 t2, v = .ref t ∧ SqT K H t [.int (l.1 : Int), .int (l.2 : Int)] ∧ h.IsTuple t #[.int (l.1 : Int) t1, .int (l.2 : Int) t2]
theorem land_each {X : Cx} {pins : List (Addr × Obj)} {σ : L2.St} {H : Hp} {s : Shared} (I : Inv X pins σ H s) {xs : List V} {its : List Value} (r : Vals xs its) : ∀ {ls : List (Nat × Nat)}, LandL X.K H xs ls → PySem.W.EachIs (PrAt X.K H s.heap) its ls := by
  induction r with
  | nil =>
    intro ls h
    cases ls with
    | nil => exact .nil
    | cons l ls => exact h.elim
  | cons r t ih =>
    intro ls h
    cases ls with
    | nil => exact h.elim
    | cons l ls =>
      obtain ⟨⟨p, h0, h1⟩, h2⟩ := h
      subst h0
      have r' := r
      cases r'
      refine .cons ?_ (ih h2)
      obtain ⟨its, r2, ht, _⟩ := I.tuple h1
      obtain ⟨u1, u2, rfl, r3, r4⟩ := vals2 r2
      obtain ⟨t1, rfl⟩ := r3
      obtain ⟨t2, rfl⟩ := r4
      exact ⟨p, t1, t2, rfl, h1, ht⟩
theorem each_land {K : PySem.W.Frag} {H : Hp} {h : Heap} : ∀ {out : List Value} {ls : List (Nat × Nat)}, PySem.W.EachIs (PrAt K H h) out ls → ∃ ys, Vals ys out ∧ LandL K H ys ls
  | _, _, .nil => ⟨[], .nil, trivial⟩
  | _, _, .cons h t => by
    obtain ⟨ys, h1, h2⟩ := each_land t
    obtain ⟨p, t1, t2, rfl, h3, _⟩ := h
    exact ⟨.ref p :: ys, .cons rfl h1, ⟨p, rfl, h3⟩, h2⟩
def rSortSum (K : PySem.W.Frag) : List V → Hp → VK → Prop := fun vs H1 Q => ∃ a xs ls, vs = [.ref a] ∧ SqL K H1 a xs ∧ LandL K H1 xs ls ∧ ∀ ys p, LandL K H1 ys (ls.mergeSort sumLe) → H1 p = none → Q (.ref p) (upd H1 p (.lst ys))
theorem sortSum_run {X : Cx} {pins : List (Addr × Obj)} {σ : L2.St} {H1 : Hp} {s1 : Shared} {Q : VK} {a : Addr} {xs : List V} {ls : List (Nat × Nat)} (hc : X.calm = true) (hu : X.A.units + 64 < cLine) (I1 : Inv X pins σ H1 s1) (hs : SqL X.K H1 a xs) (hl : LandL X.K H1 xs ls)
    (q : ∀ ys p, LandL X.K H1 ys (ls.mergeSort sumLe) → H1 p = none → Q (.ref p) (upd H1 p (.lst ys))) : wpAny (model X.prog X.w) X.A (call (.builtin "sorted") [.ref a] [(Str.ofString "key", .builtin "sum")]) (EP X pins σ Q) X.xe s1 := by
  obtain ⟨its, rv, hL, hz⟩ := I1.list hs
  have each := land_each I1 rv hl
  have hh : X.A.handled = none := I1.ok.hd hc
  have hlen : ls.length ≤ sizeLine := by rw [← each.length, ← rv.length]; exact hz
  refine PySem.W.sorted_key_data (b := false) (fun l : Nat × Nat => .int ((l.1 : Int) + (l.2 : Int))) hL.isList each ?_ ?_ hlen ?_ (PyProof.Rows.ksk_s1 _ _) (fun _ => PyProof.Rows.ksk_l1 _ _) (fun _ => PyProof.Rows.ksk_t4 _ _) ?_ ?_
  · exact PySem.W.AllAlike.of fun _ _ => rfl
  · exact PySem.W.Sortable.others fun _ => ⟨(fun h => nomatch h), (fun _ h => nomatch h)⟩
  · intro l _
    have : (PyData.int ((l.1 : Int) + (l.2 : Int))).depth = 0 := rfl
    rw [this]
    omega
  · intro v l hv _ h tk kp
    obtain ⟨t, t1, t2, rfl, _, o, ho, hr⟩ := hv
    exact sum_pair hh ⟨o, kp _ _ ho, hr⟩ fun h2 tk2 t' kp2 => ⟨h2, tk2, rfl, kp2, .int _ _⟩
  · intro out c h' tk kp hn hD hlen eo
    rw [PySem.W.dataLe_int] at eo
    obtain ⟨ys, hv, hY⟩ := each_land eo
    have hfr : H1 (s1.heap.objs.size + 1) = none := I1.hok.fresh (Nat.le_succ _)
    refine ⟨.ref _, upd H1 (s1.heap.objs.size + 1) (.lst ys), I1.laid kp (Nat.le_succ _) ⟨?_, out, c, hv, hD⟩, rfl, q ys _ hY hfr⟩
    rw [hv.length, hlen, ← each.length, ← rv.length]
    exact hz
theorem pe_sortSum {X : Cx} {e : Expr} {t : TA} {p p2 pos kp : Pos} (hc : X.calm = true) (hu : X.A.units + 64 < cLine) (hg : Gl X "sorted") (hm : X.mg "sorted" = none) (hg2 : Gl X "sum") (hm2 : X.mg "sum" = none) (ha : PA X [e] t)
    (h1 : backTo pos (starEach [e] X.env) = (false, eval e X.env) :: backTo pos (starEach [] X.env) := by rfl) (h2 : (backTo pos (starEach [e] X.env)).any (·.1) = false := by rfl)
    (hall : (backToKw pos (keywordEach [⟨some "key", .Name "sum" p2, kp⟩] X.env)).all (·.1.isSome) = true := by rfl) (hnone : (backToKw pos (keywordEach [⟨some "key", .Name "sum" p2, kp⟩] X.env)).any (·.1.isNone) = false := by rfl)
    (hks : (backToKw pos (keywordEach [⟨some "key", .Name "sum" p2, kp⟩] X.env)).filterMap (·.1) = [Str.ofString "key"] := by rfl) : PE X (.Call (.Name "sorted" p) [e] [⟨some "key", .Name "sum" p2, kp⟩] pos) (tCB (rSortSum X.K) t) := by
  refine ⟨fun pins s σ H Q I h => ?_⟩
  refine wpAny_Call_Name_kw (ld_blt I hg hm (by decide +kernel : bootBuiltins "sorted" = some (.builtin "sorted")) ?_)
  refine PyProof.Rows.callWith_kw (thn (ha.run pos pins s σ H (fun vs H1 => ∃ a xs ls, vs = [.ref a] ∧ SqL X.K H1 a xs ∧ LandL X.K H1 xs ls ∧ ∀ ys p, LandL X.K H1 ys (ls.mergeSort sumLe) → H1 p = none → Q (.ref p) (upd H1 p (.lst ys))) I h) fun us s1 ⟨vs, H1, I1, r1, q1⟩ => ?_) h1 h2 hall hnone
  obtain ⟨a, xs, ls, rfl, hs, hl, q⟩ := q1
  obtain rfl := Vals.ref1 r1
  show wpAny _ _ (evalAll ((do let v ← eval (.Name "sum" p2) X.env; standAt pos; pure v) :: [])) _ _ s1
  refine wpAny_evalAll_cons (wpAny_bind (ld_blt I1 hg2 hm2 (by decide +kernel : bootBuiltins "sum" = some (.builtin "sum")) (wpAny_bind (wpAny_standAt (wpAny_pure (wpAny_evalAll_nil ?_))))))
  rw [hks]
  exact sortSum_run hc hu I1 hs hl q
end WF

set_option Elab.async false
set_option linter.all false
set_option maxRecDepth 100000
set_option maxHeartbeats 400000
/-! WLandsM: the lands by their sums, two ways -/
namespace WF
open List
/-- w from 2 on, n of them; m from w + 1 to M -/
def mL (M w n : Nat) : List (Nat × Nat) := (List.range n).flatMap fun j => if Nat.gcd (w + 1 + j) w = 1 then [(w, w + 1 + j)] else []
def rawL (M n : Nat) : List (Nat × Nat) := (List.range n).flatMap fun i => mL M (2 + i) (M - (2 + i))
theorem mL_succ (M w n : Nat) : mL M w (n + 1) = mL M w n ++ (if Nat.gcd (w + 1 + n) w = 1 then [(w, w + 1 + n)] else []) := by
  unfold mL
  rw [List.range_succ, List.flatMap_append]
  simp
theorem rawL_succ (M n : Nat) : rawL M (n + 1) = rawL M n ++ mL M (2 + n) (M - (2 + n)) := by
  unfold rawL
  rw [List.range_succ, List.flatMap_append]
  simp
theorem mL_len (M w : Nat) : ∀ n, (mL M w n).length ≤ n
  | 0 => Nat.le_refl 0
  | n + 1 => by
    rw [mL_succ, List.length_append]
    have := mL_len M w n
    split
    · show _ + 1 ≤ _; omega
    · show _ + 0 ≤ _; omega
theorem rawL_len (M : Nat) : ∀ n, (rawL M n).length ≤ n * M
  | 0 => Nat.zero_le _
  | n + 1 => by
    rw [rawL_succ, List.length_append, Nat.succ_mul]
    have := rawL_len M n
    have := mL_len M (2 + n) (M - (2 + n))
    omega
theorem mL_mem {M w n : Nat} {l : Nat × Nat} : l ∈ mL M w n ↔ l.1 = w ∧ w < l.2 ∧ l.2 ≤ w + n ∧ Nat.gcd l.2 l.1 = 1 := by
  unfold mL
  rw [List.mem_flatMap]
  constructor
  · rintro ⟨j, hj, h⟩
    rw [List.mem_range] at hj
    split at h
    · rename_i hc
      rw [List.mem_singleton] at h
      subst h
      exact ⟨rfl, by show w < w + 1 + j; omega, by show w + 1 + j ≤ w + n; omega, hc⟩
    · cases h
  · rintro ⟨h1, h2, h3, h4⟩
    obtain ⟨a, b⟩ := l
    simp only at h1 h2 h3 h4
    subst h1
    refine ⟨b - (a + 1), List.mem_range.mpr (by omega), ?_⟩
    have e : a + 1 + (b - (a + 1)) = b := by omega
    rw [e, if_pos h4]
    exact List.mem_singleton.mpr rfl
theorem rawL_mem {M n : Nat} {l : Nat × Nat} : l ∈ rawL M n ↔ 2 ≤ l.1 ∧ l.1 < 2 + n ∧ l.1 < l.2 ∧ l.2 ≤ M ∧ Nat.gcd l.2 l.1 = 1 := by
  unfold rawL
  rw [List.mem_flatMap]
  constructor
  · rintro ⟨i, hi, h⟩
    rw [List.mem_range] at hi
    obtain ⟨h1, h2, h3, h4⟩ := mL_mem.mp h
    exact ⟨by omega, by omega, by omega, by omega, h4⟩
  · rintro ⟨h1, h2, h3, h4, h5⟩
    exact ⟨l.1 - 2, List.mem_range.mpr (by omega), mL_mem.mpr ⟨by omega, by omega, by omega, h5⟩⟩
theorem landsL_memI {W M : Nat} {l : Nat × Nat} (h : 2 ≤ l.1 ∧ l.1 ≤ W ∧ l.1 < l.2 ∧ l.2 ≤ M ∧ Nat.gcd l.2 l.1 = 1) : l ∈ landsL W M (W + M - 4) := by
  obtain ⟨h1, h2, h3, h4, h5⟩ := h
  obtain ⟨a, b⟩ := l
  simp only at h1 h2 h3 h4 h5
  unfold landsL
  rw [List.mem_flatMap]
  refine ⟨a + b - 5, List.mem_range.mpr (by omega), ?_⟩
  unfold innerL
  rw [List.mem_flatMap]
  refine ⟨a - 2, List.mem_range.mpr (by omega), ?_⟩
  have e1 : 2 + (a - 2) = a := by omega
  have e2 : 5 + (a + b - 5) - a = b := by omega
  rw [e1, e2, if_pos ⟨h4, h5⟩]
  exact List.mem_singleton.mpr rfl
/-- by the sum, then by w -/
def SumLt (a b : Nat × Nat) : Prop := a.1 + a.2 < b.1 + b.2 ∨ (a.1 + a.2 = b.1 + b.2 ∧ a.1 < b.1)
theorem SumLt.irr {a : Nat × Nat} (h : SumLt a a) : False := by
  rcases h with h | ⟨_, h⟩ <;> exact Nat.lt_irrefl _ h
theorem innerL_lt (t M : Nat) : ∀ n, 2 + n ≤ t → (innerL t M n).Pairwise SumLt := by
  intro n hn
  unfold innerL
  rw [List.pairwise_flatMap]
  refine ⟨fun j _ => ?_, ?_⟩
  · split
    · exact List.pairwise_singleton _ _
    · exact List.Pairwise.nil
  · refine (List.pairwise_lt_range (n := n)).imp_of_mem fun {i j} hi hj hij x hx y hy => ?_
    rw [List.mem_range] at hi hj
    split at hx
    · split at hy
      · rw [List.mem_singleton] at hx hy
        subst hx hy
        exact .inr ⟨by show 2 + i + (t - (2 + i)) = 2 + j + (t - (2 + j)); omega, by show 2 + i < 2 + j; omega⟩
      · cases hy
    · cases hx
theorem landsL_lt (W M n : Nat) : (landsL W M n).Pairwise SumLt := by
  unfold landsL
  rw [List.pairwise_flatMap]
  refine ⟨fun i _ => innerL_lt _ _ _ (by omega), ?_⟩
  refine (List.pairwise_lt_range (n := n)).imp_of_mem fun {i j} hi hj hij x hx y hy => ?_
  obtain ⟨h1, h2, h3, h4, h5⟩ := innerL_mem hx
  obtain ⟨g1, g2, g3, g4, g5⟩ := innerL_mem hy
  exact .inl (by omega)
theorem rawL_lx (M n : Nat) : (rawL M n).Pairwise fun a b => a.1 < b.1 ∨ (a.1 = b.1 ∧ a.2 < b.2) := by
  unfold rawL
  rw [List.pairwise_flatMap]
  refine ⟨fun i _ => ?_, ?_⟩
  · unfold mL
    rw [List.pairwise_flatMap]
    refine ⟨fun j _ => ?_, ?_⟩
    · split
      · exact List.pairwise_singleton _ _
      · exact List.Pairwise.nil
    · refine (List.pairwise_lt_range).imp_of_mem fun {a b} ha hb hab x hx y hy => ?_
      split at hx
      · split at hy
        · rw [List.mem_singleton] at hx hy
          subst hx hy
          exact .inr ⟨rfl, by show _ + a < _ + b; omega⟩
        · cases hy
      · cases hx
  · refine (List.pairwise_lt_range).imp_of_mem fun {i j} hi hj hij x hx y hy => ?_
    have h1 := (mL_mem.mp hx).1
    have h2 := (mL_mem.mp hy).1
    exact .inl (by omega)
theorem two_or {α : Type} {a b : α} : ∀ {l : List α}, a ∈ l → b ∈ l → a ≠ b → [a, b] <+ l ∨ [b, a] <+ l
  | c :: l, ha, hb, hne => by
    rcases List.mem_cons.mp ha with rfl | ha'
    · rcases List.mem_cons.mp hb with rfl | hb'
      · exact absurd rfl hne
      · exact .inl (List.cons_sublist_cons.mpr (List.singleton_sublist.mpr hb'))
    · rcases List.mem_cons.mp hb with rfl | hb'
      · exact .inr (List.cons_sublist_cons.mpr (List.singleton_sublist.mpr ha'))
      · rcases two_or ha' hb' hne with h | h
        · exact .inl (h.cons _)
        · exact .inr (h.cons _)
theorem two_not {α : Type} {a b : α} : ∀ {l : List α}, l.Nodup → [a, b] <+ l → [b, a] <+ l → False
  | [], _, h, _ => by simp at h
  | c :: l, hn, h1, h2 => by
    have hn' := List.nodup_cons.mp hn
    rcases List.sublist_cons_iff.mp h1 with h1 | ⟨r, e1, h1⟩
    · rcases List.sublist_cons_iff.mp h2 with h2 | ⟨r2, e2, h2⟩
      · exact two_not hn'.2 h1 h2
      · injection e2 with e2 e3
        have hb : b ∈ l := h1.subset (by simp)
        exact hn'.1 (e2 ▸ hb)
    · injection e1 with e1 e3
      rcases List.sublist_cons_iff.mp h2 with h2 | ⟨r2, e2, h2⟩
      · have ha : a ∈ l := h2.subset (by simp)
        exact hn'.1 (e1 ▸ ha)
      · injection e2 with e2 e4
        have hb : b ∈ l := h1.subset (by rw [← e3]; exact List.mem_singleton.mpr rfl)
        exact hn'.1 (e2 ▸ hb)
theorem lands_eq (W M : Nat) (hW : 1 ≤ W) : (rawL M (W - 1)).mergeSort sumLe = landsL W M (W + M - 4) := by
  have hp := List.mergeSort_perm (rawL M (W - 1)) sumLe
  have tr : ∀ a b c : Nat × Nat, sumLe a b = true → sumLe b c = true → sumLe a c = true := fun a b c h1 h2 => by
    unfold sumLe at *
    rw [decide_eq_true_iff] at *
    omega
  have to : ∀ a b : Nat × Nat, (sumLe a b || sumLe b a) = true := fun a b => by
    unfold sumLe
    rw [Bool.or_eq_true, decide_eq_true_iff, decide_eq_true_iff]
    omega
  have hlx := rawL_lx M (W - 1)
  have hnr : (rawL M (W - 1)).Nodup := hlx.imp fun {a b} h e => by
    subst e
    rcases h with h | ⟨_, h⟩ <;> exact Nat.lt_irrefl _ h
  have hns : ((rawL M (W - 1)).mergeSort sumLe).Nodup := hp.nodup_iff.mpr hnr
  have hle := List.pairwise_mergeSort tr to (rawL M (W - 1))
  have hS : ((rawL M (W - 1)).mergeSort sumLe).Pairwise SumLt := by
    rw [List.pairwise_iff_forall_sublist] at hle ⊢
    intro a b hab
    have h1 := hle hab
    have hne : a ≠ b := (List.pairwise_iff_forall_sublist.mp hns) hab
    unfold sumLe at h1
    rw [decide_eq_true_iff] at h1
    rcases Nat.lt_or_ge (a.1 + a.2) (b.1 + b.2) with h | h
    · exact .inl h
    · have he : a.1 + a.2 = b.1 + b.2 := by omega
      have ha : a ∈ rawL M (W - 1) := hp.mem_iff.mp (hab.subset (by simp))
      have hb : b ∈ rawL M (W - 1) := hp.mem_iff.mp (hab.subset (by simp))
      rcases two_or ha hb hne with h2 | h2
      · rcases (List.pairwise_iff_forall_sublist.mp hlx) h2 with h3 | ⟨h3, h4⟩
        · exact .inr ⟨he, h3⟩
        · omega
      · exfalso
        have : sumLe b a = true := by
          unfold sumLe
          rw [decide_eq_true_iff]
          omega
        exact two_not hns hab (List.pair_sublist_mergeSort tr to this h2)
  have hL := landsL_lt W M (W + M - 4)
  have hnl : (landsL W M (W + M - 4)).Nodup := hL.imp fun {a b} h e => by
    subst e
    exact h.irr
  refine List.Perm.eq_of_pairwise (le := SumLt) (fun a b _ _ h1 h2 => ?_) hS hL (hp.trans ((List.perm_ext_iff_of_nodup hnr hnl).mpr fun l => ?_))
  · exfalso
    rcases h1 with h1 | ⟨h1, h3⟩ <;> rcases h2 with h2 | ⟨h2, h4⟩ <;> omega
  · rw [rawL_mem]
    exact ⟨fun ⟨h1, h2, h3, h4, h5⟩ => landsL_memI ⟨h1, by omega, h3, h4, h5⟩, fun h => by
      obtain ⟨h1, h2, h3, h4, h5⟩ := landsL_mem h
      exact ⟨h1, by omega, h3, h4, h5⟩⟩
end WF

set_option Elab.async false
set_option linter.all false
set_option maxRecDepth 100000
set_option maxHeartbeats 400000
/-! WComp2: comprehensions of two loops over ranges; loops over a list of which S tells -/
namespace WF
open PySem L2 Evl
theorem lc2_out {lo : Int} {n : Nat} {g g1 : TG} {tt tt1 : TT} {te : TE} {wi1 : TI} {vs vs1 : List Nat} {σ : L2.St} {H1 : Hp} {Dl : Addr} {Qd : Hp → Prop} (Pv : Nat → Hp → Prop) (h0 : Pv 0 (upd H1 Dl (.lst [])))
    (hs : ∀ i H, i < n → Pv i H → g (.int (lo + i)) (wipe σ vs) H fun σ2 H2 => wipe σ2 vs = wipe σ vs ∧ tt σ2 H2 fun b H3 =>
      if b = true then wi1 σ2 H3 fun J1 H4 => ∃ W1 : Nat → Nat → Hp → Prop, (∃ m, W1 0 m H4) ∧ ∀ j k H, W1 j k H →
        (J1.stop j H ∧ Pv (i + 1) H) ∨ (J1.go j H ∧ ∃ Nx1 : Hp → Prop, (∀ H', Nx1 H' → ∃ k', k' < k ∧ W1 (j + 1) k' H') ∧ ∀ x H', J1.yld j H x H' → g1 x (wipe σ2 vs1) H' fun σ3 H5 => wipe σ3 vs1 = wipe σ2 vs1 ∧ tt1 σ3 H5 fun b H6 =>
          if b = true then te σ3 H6 fun y H7 => ∃ acc, H7 Dl = some (.lst acc) ∧ acc.length < sizeLine ∧ Nx1 (upd H7 Dl (.lst (acc ++ [y]))) else Nx1 H6)
      else Pv (i + 1) H3) (hd : ∀ H, Pv n H → Qd H) :
    ∃ W : Nat → Nat → Hp → Prop, (∃ m, W 0 m (upd H1 Dl (.lst []))) ∧ ∀ i m H, W i m H →
      ((Itr lo n).stop i H ∧ Qd H) ∨ ((Itr lo n).go i H ∧ ∃ Nx : Hp → Prop, (∀ H', Nx H' → ∃ m', m' < m ∧ W (i + 1) m' H') ∧ ∀ x H', (Itr lo n).yld i H x H' → g x (wipe σ vs) H' fun σ2 H2 => wipe σ2 vs = wipe σ vs ∧ tt σ2 H2 fun b H3 =>
        if b = true then wi1 σ2 H3 fun J1 H4 => ∃ W1 : Nat → Nat → Hp → Prop, (∃ m, W1 0 m H4) ∧ ∀ j k H, W1 j k H →
          (J1.stop j H ∧ Nx H) ∨ (J1.go j H ∧ ∃ Nx1 : Hp → Prop, (∀ H', Nx1 H' → ∃ k', k' < k ∧ W1 (j + 1) k' H') ∧ ∀ x H', J1.yld j H x H' → g1 x (wipe σ2 vs1) H' fun σ3 H5 => wipe σ3 vs1 = wipe σ2 vs1 ∧ tt1 σ3 H5 fun b H6 =>
            if b = true then te σ3 H6 fun y H7 => ∃ acc, H7 Dl = some (.lst acc) ∧ acc.length < sizeLine ∧ Nx1 (upd H7 Dl (.lst (acc ++ [y]))) else Nx1 H6)
        else Nx H3) := by
  refine ⟨fun i m H => m = n - i ∧ i ≤ n ∧ Pv i H, ⟨n, rfl, Nat.zero_le _, h0⟩, ?_⟩
  rintro i m H ⟨rfl, hi, hp⟩
  rcases Nat.lt_or_ge i n with hlt | hge
  · refine .inr ⟨hlt, Pv (i + 1), fun H' p' => ⟨n - (i + 1), by omega, rfl, hlt, p'⟩, fun x H' y => ?_⟩
    obtain ⟨e1, e2⟩ := y
    subst e1 e2
    exact hs i _ hlt hp
  · have e : i = n := Nat.le_antisymm hi hge
    subst e
    exact .inl ⟨Nat.le_refl _, hd H hp⟩
theorem lc2_in {lo : Int} {n : Nat} {g1 : TG} {tt1 : TT} {te : TE} {vs1 : List Nat} {σ2 : L2.St} {H4 : Hp} {Dl : Addr} {Nx : Hp → Prop} (Pv : Nat → Hp → Prop) (h0 : Pv 0 H4)
    (hs : ∀ j H, j < n → Pv j H → g1 (.int (lo + j)) (wipe σ2 vs1) H fun σ3 H5 => wipe σ3 vs1 = wipe σ2 vs1 ∧ tt1 σ3 H5 fun b H6 =>
      if b = true then te σ3 H6 fun y H7 => ∃ acc, H7 Dl = some (.lst acc) ∧ acc.length < sizeLine ∧ Pv (j + 1) (upd H7 Dl (.lst (acc ++ [y]))) else Pv (j + 1) H6) (hd : ∀ H, Pv n H → Nx H) :
    ∃ W1 : Nat → Nat → Hp → Prop, (∃ m, W1 0 m H4) ∧ ∀ j k H, W1 j k H →
      ((Itr lo n).stop j H ∧ Nx H) ∨ ((Itr lo n).go j H ∧ ∃ Nx1 : Hp → Prop, (∀ H', Nx1 H' → ∃ k', k' < k ∧ W1 (j + 1) k' H') ∧ ∀ x H', (Itr lo n).yld j H x H' → g1 x (wipe σ2 vs1) H' fun σ3 H5 => wipe σ3 vs1 = wipe σ2 vs1 ∧ tt1 σ3 H5 fun b H6 =>
        if b = true then te σ3 H6 fun y H7 => ∃ acc, H7 Dl = some (.lst acc) ∧ acc.length < sizeLine ∧ Nx1 (upd H7 Dl (.lst (acc ++ [y]))) else Nx1 H6) := by
  refine ⟨fun i m H => m = n - i ∧ i ≤ n ∧ Pv i H, ⟨n, rfl, Nat.zero_le _, h0⟩, ?_⟩
  rintro i m H ⟨rfl, hi, hp⟩
  rcases Nat.lt_or_ge i n with hlt | hge
  · refine .inr ⟨hlt, Pv (i + 1), fun H' p' => ⟨n - (i + 1), by omega, rfl, hlt, p'⟩, fun x H' y => ?_⟩
    obtain ⟨e1, e2⟩ := y
    subst e1 e2
    exact hs i _ hlt hp
  · have e : i = n := Nat.le_antisymm hi hge
    subst e
    exact .inl ⟨Nat.le_refl _, hd H hp⟩
theorem iRng2_ev {ta : TA} {σ : L2.St} {H : Hp} {lo hi : Int} {R : It → Hp → Prop} {n : Nat} (h : EvA ta σ H [.int lo, .int hi]) (hb : -1000000000 ≤ lo ∧ lo ≤ 1000000000 ∧ -1000000000 ≤ hi ∧ hi ≤ 1000000000) (hn : (hi - lo).toNat = n) (k : ∀ H1, Ex H H1 → R (Itr lo n) H1) : iRng2 ta σ H R :=
  h H (Ex.refl H) _ fun H1 e => ⟨lo, hi, rfl, ⟨by omega, by omega, by omega, by omega⟩, by
    rw [hn]
    exact k H1 e⟩
section
variable {K : PySem.W.Frag} {σ : L2.St} {H H' : Hp} {tl : TE} {D : Ends} {tu tz : TS} {S : List V → Hp → Prop}
theorem s_forER {j : Nat} (h : EvR tl σ H fun p H2 => ∃ xs, H2 p = some (.lst xs) ∧ S xs H2) (Pv : Addr → List V → Nat → L2.St → Hp → Prop) (h0 : ∀ p xs H1, H p = none → Ex H H1 → H1 p = some (.lst xs) → S xs H1 → Pv p xs 0 σ H1)
    (hl : ∀ p xs i σ' H', i ≤ xs.length → Pv p xs i σ' H' → SqL K H' p xs) (hs : ∀ p xs i x σ' H', xs[i]? = some x → Pv p xs i σ' H' → tu { D with nx := Pv p xs (i + 1), ct := Pv p xs (i + 1), bk := D.nx } (σ'.set j (some x)) H')
    (hd : ∀ p xs σ' H', Pv p xs xs.length σ' H' → D.nx σ' H') : tFor (iList K tl) (gName j) tu D σ H :=
  h H (Ex.refl H) _ fun p H1 hp e ⟨xs, h1, hS⟩ => ⟨p, rfl, ⟨xs, sq_of h1⟩, for_list (Pv p xs) (h0 p xs H1 hp e h1 hS) (hl p xs) (hs p xs) (hd p xs)⟩
theorem q_forER {j : Nat} (h : EvR tl σ H fun p H2 => ∃ xs, H2 p = some (.lst xs) ∧ S xs H2) (Pv : Addr → List V → Nat → L2.St → Hp → Prop) (h0 : ∀ p xs H1, H p = none → Ex H H1 → H1 p = some (.lst xs) → S xs H1 → Pv p xs 0 σ H1)
    (hl : ∀ p xs i σ' H', i ≤ xs.length → Pv p xs i σ' H' → SqL K H' p xs) (hs : ∀ p xs i x σ' H', xs[i]? = some x → Pv p xs i σ' H' → tu { D with nx := Pv p xs (i + 1), ct := Pv p xs (i + 1), bk := tz D } (σ'.set j (some x)) H')
    (hd : ∀ p xs σ' H', Pv p xs xs.length σ' H' → tz D σ' H') : tSeq (tFor (iList K tl) (gName j) tu) tz D σ H := s_forER (D := { D with nx := tz D }) h Pv h0 hl hs hd
theorem LandL.get : ∀ {xs : List V} {ls : List (Nat × Nat)} {i : Nat} {x : V}, LandL K H xs ls → xs[i]? = some x → ∃ l p, ls[i]? = some l ∧ x = .ref p ∧ SqT K H p [.int (l.1 : Int), .int (l.2 : Int)]
  | _ :: _, l :: _, 0, _, h, e => by
    cases e
    obtain ⟨⟨p, h0, h1⟩, _⟩ := h
    exact ⟨l, p, rfl, h0, h1⟩
  | _ :: xs, _ :: ls, i + 1, x, h, e => LandL.get (xs := xs) (ls := ls) (i := i) (x := x) h.2 e
  | [], [], i, x, _, e => by simp at e
  | [], _ :: _, _, _, h, _ => h.elim
  | _ :: _, [], _, _, h, _ => h.elim
end
section
variable {σ : L2.St} {H : Hp} {D : Ends} {tu tz : TS}
theorem s_forR1N {ta : TA} {j : Nat} {n : Int} (h : EvA ta σ H [.int n]) (hn : -100000 ≤ n ∧ n ≤ 100000) (Pv : Nat → L2.St → Hp → Prop) (h0 : ∀ H1, Ex H H1 → Pv 0 σ H1)
    (hs : ∀ (i : Nat) σ' H', (i : Int) < n → Pv i σ' H' → tu { D with nx := Pv (i + 1), ct := Pv (i + 1), bk := D.nx } (σ'.set j (some (.int (i : Int)))) H') (hd : ∀ σ' H', Pv n.toNat σ' H' → D.nx σ' H') : tFor (iRng1 ta) (gName j) tu D σ H :=
  h H (Ex.refl H) _ fun H1 e => ⟨n, rfl, by omega, by omega, for_range (lo := 0) (n := n.toNat) Pv (h0 H1 e) (fun i σ' H' hi p => by
    have e0 : (0 : Int) + (i : Int) = (i : Int) := Int.zero_add _
    show tu { D with nx := Pv (i + 1), ct := Pv (i + 1), bk := D.nx } (σ'.set j (some (.int ((0 : Int) + (i : Int))))) H'
    rw [e0]
    exact hs i σ' H' (by omega) p) hd⟩
theorem q_forR1N {ta : TA} {j : Nat} {n : Int} (h : EvA ta σ H [.int n]) (hn : -100000 ≤ n ∧ n ≤ 100000) (Pv : Nat → L2.St → Hp → Prop) (h0 : ∀ H1, Ex H H1 → Pv 0 σ H1)
    (hs : ∀ (i : Nat) σ' H', (i : Int) < n → Pv i σ' H' → tu { D with nx := Pv (i + 1), ct := Pv (i + 1), bk := tz D } (σ'.set j (some (.int (i : Int)))) H') (hd : ∀ σ' H', Pv n.toNat σ' H' → tz D σ' H') : tSeq (tFor (iRng1 ta) (gName j) tu) tz D σ H := s_forR1N (D := { D with nx := tz D }) h hn Pv h0 hs hd
end
/-! the first land in which two calendars are unlike -/
def unlikeB (one other : Rows) (l : Nat × Nat) : Int → Bool := fun d => calDay l.1 l.2 one d ^^ calDay l.1 l.2 other d
def unlikeAt (one other : Rows) (l : Nat × Nat) : Option ((Nat × Nat) × Nat) := (daysN (l.1 * l.2) (unlikeB one other l)).head?.map fun d => (l, d)
def unlikeO (one other : Rows) (ls : List (Nat × Nat)) : Option ((Nat × Nat) × Nat) := ls.findSome? (unlikeAt one other)
theorem find_more {α β : Type} {f : α → Option β} : ∀ {l : List α} {i : Nat} {x : α}, l[i]? = some x → (l.take i).findSome? f = none → f x = none → (l.take (i + 1)).findSome? f = none := fun {l i x} h h1 h2 => by
  rw [take_more h, List.findSome?_append, h1]
  simp [h2]
theorem find_hit {α β : Type} {f : α → Option β} {l : List α} {i : Nat} {x : α} {y : β} (h : l[i]? = some x) (h1 : (l.take i).findSome? f = none) (h2 : f x = some y) : l.findSome? f = some y := by
  have hs : l = l.take (i + 1) ++ l.drop (i + 1) := (List.take_append_drop _ _).symm
  rw [hs, take_more h, List.findSome?_append, List.findSome?_append, h1]
  simp [h2]
theorem figN_pos {N : Nat} {q : Int → Bool} (h : daysN N q ≠ []) : figN N q ≠ 0 := fun z => by
  obtain ⟨d, l, e⟩ := List.exists_cons_of_ne_nil h
  have hm : d ∈ daysN N q := by rw [e]; exact List.mem_cons_self
  obtain ⟨h1, h2⟩ := daysN_mem.mp hm
  have := figN_bit N q d
  rw [z, Nat.zero_testBit, h2, decide_eq_true h1] at this
  cases this
theorem figN_nil {N : Nat} {q : Int → Bool} (h : daysN N q = []) : figN N q = 0 := figN_zero fun d hd => by
  cases hq : q (d : Int) with
  | false => rfl
  | true =>
    have : d ∈ daysN N q := daysN_mem.mpr ⟨hd, hq⟩
    rw [h] at this
    cases this
theorem reach_le {rows : Rows} (hl : rows.length ≤ 3) (hb : rowsBys rows ≤ 4) : 3 ≤ reachOf rows ∧ reachOf rows ≤ 10 := by
  unfold reachOf
  have := List.length_filter_le (fun r : Rl × Bool => r.2) rows
  omega
def enoughL (r : Nat) : List (Nat × Nat) := landsL (4 * r + 1) (6 * r + 1) (4 * r + 1 + (6 * r + 1) - 4)
theorem enoughL_ok {r : Nat} (hr : r ≤ 10) {l : Nat × Nat} (h : l ∈ enoughL r) : LandOk l.1 l.2 := by
  obtain ⟨h1, h2, h3, h4, h5⟩ := landsL_mem h
  have : l.1 * l.2 ≤ 41 * 61 := Nat.mul_le_mul (by omega) (by omega)
  exact ⟨h1, h3, by omega, by omega⟩
/-- the answer: None, or a new pair of a land and a day -/
def RetW (K : PySem.W.Frag) (o : Option ((Nat × Nat) × Nat)) (H : Hp) (Q : VK) : Prop := (o = none → RetV .non H Q) ∧ ∀ l d, o = some (l, d) → ∀ t lp H2, Ex H H2 → H2 t = some (.tup [.ref lp, .int (d : Int)]) → SqT K H2 lp [.int (l.1 : Int), .int (l.2 : Int)] → Q (.ref t) H2
theorem RetW.back {K : PySem.W.Frag} {o : Option ((Nat × Nat) × Nat)} {H H' : Hp} {Q : VK} (k : RetW K o H Q) (e : Ex H H') : RetW K o H' Q := ⟨fun h H2 e2 => k.1 h H2 (e.trans e2), fun l d h t lp H2 e2 h1 h2 => k.2 l d h t lp H2 (e.trans e2) h1 h2⟩
end WF

set_option Elab.async false
set_option linter.all false
set_option maxRecDepth 100000
set_option maxHeartbeats 400000
/-! WLen: len(o) by an own __len__ -/
namespace WF
open PySem L2 Evl
section
variable {X : Cx} {CX : CXT} {C : Addr} {n : Nat} {ps : List Str} {sp : Sp} {E : XK}
def rLenO (C : Addr) (sp : Sp) (E : XK) : List V → Hp → VK → Prop := fun xs H Q => ∃ a dx fs, xs = [.ref a] ∧ H a = some (.ins C dx fs) ∧ sp [.ref a] H (fun v H' => ∃ i, v = .int i ∧ 0 ≤ i ∧ i < 2 ^ 63 ∧ Q (.int i) H') E
theorem call_lenO (M : Mtn X.prog X.w X.K X.mg X.base CX C "__len__" n ps sp) (hr : Room (n + 1) X.A) (hx : Passes CX X E) : CallR X (.builtin "len") (rLenO C sp E) := by
  intro pins s σ H xs us Q I rv hq
  obtain ⟨f, fd, hM, hk, F, hb⟩ := M.ex
  obtain ⟨a, dx, fs, rfl, ha, hsp⟩ := hq
  obtain ⟨u, rfl, ru⟩ := vals1 rv
  cases ru
  have sb0 : L2.Sub X (n + 1) X.A := ⟨hr, rfl⟩
  have sb := sb0.in1
  obtain ⟨mA, J0, _⟩ := ins_get I.hok ha
  obtain ⟨od, J, _⟩ := J0.look
  obtain ⟨m, hF⟩ := I.fr
  refine PySem.W.len_K hF I.ok.mod.kin J hM.at_ hM.fn ?_
  have e0 : Env0 X.prog X.w X.K X.mg X.base X.A.in1 X.stack s H := by
    have e := I.env0
    exact ⟨(sb.fr ▸ e.frames : _), e.mod, e.bs, e.bsz, e.funs, e.frf, e.hok, e.bare⟩
  have hl := F.len _ _ _ _ hsp
  have r2 : Vals [V.ref a] [Value.ref a] := .cons rfl .nil
  refine wpAny_call (codeAny_mono (F.run X.A.in1 X.stack s H ⟨[.ref a], []⟩ [.ref a] [.ref a] _ E sb.room e0 (by
    have := hb s [.ref a] I.kIn (by simpa using hl)
    simpa using this) r2 hsp) fun r s' hq => ?_)
  cases r with
  | error e => exact hx pins σ H s e s' I hq
  | ok fl =>
    cases fl with
    | ret w =>
      obtain ⟨z, H', I', rz, i, ez, h0, h1, q⟩ := I.after hq
      cases ez
      obtain ⟨t, rfl⟩ := rz
      refine ⟨⟨h0, h1⟩, .int i, H', ?_, ⟨_, rfl⟩, q⟩
      exact I'.kept (t' := s'.toks + 1) fun b o e => e
    | next => exact hq.elim
    | brk => exact hq.elim
    | cont => exact hq.elim
/-! methods by their names -/
variable {k : Nat} {m : Str} {o e : Expr} {es : List Expr} {ta : TE} {t : TA} {pos apos : Pos}
theorem pe_mt0 {pl : Sem Bool} (M : Mtn X.prog X.w X.K X.mg X.base CX C m k ps sp) (he : PE X o ta) (c : Cls X.K C) (hr : Room k X.A) (hx : Passes CX X E)
    (ht : eval (.Call (.Attribute o m apos) [] [] pos) X.env = (do
      let ov ← eval o X.env
      standAt apos.atName
      let (f, first) ← holding [ov] (getMethod ov m pl)
      callWith pos f first (backTo pos (starEach [] X.env)) (backToKw pos (keywordEach [] X.env))) := by rfl) : PE X (.Call (.Attribute o m apos) [] [] pos) (tMeth C m sp [] E ta tNil) := by
  obtain ⟨f, fd, h1, h2, h3, h4⟩ := M.ex
  exact pe_meth0 he c h1 h3 hr h4 .nil hx ht
/-- o.m(e, ..) that lets out nothing, or within a try -/
def tMtS (C : Addr) (m : Str) (sp : Sp) (E : L2.St → XK) (ta : TE) (t : TA) : TE := fun σ H Q => ta σ H fun x H1 => ∃ a dx fs, x = .ref a ∧ H1 a = some (.ins C dx fs) ∧ fs.lookup m = none ∧ t σ H1 fun vs H2 => sp (x :: vs) H2 Q (E σ)
theorem pe_mtS {pl : Sem Bool} {E : L2.St → XK} (M : Mtn X.prog X.w X.K X.mg X.base CX C m k ps sp) (he : PE X o ta) (c : Cls X.K C) (hr : Room k X.A) (hx : ∀ σ, PassesAt CX X σ (E σ)) (ha : PA X (e :: es) t)
    (hst : starEach (e :: es) X.env = (false, eval e X.env) :: starEach es X.env := by rfl) (hpl : (backTo pos (starEach es X.env)).any (·.1) = false := by rfl)
    (ht : eval (.Call (.Attribute o m apos) (e :: es) [] pos) X.env = (do
      let ov ← eval o X.env
      standAt apos.atName
      let (f, first) ← holding [ov] (getMethod ov m pl)
      callWith pos f first (backTo pos (starEach (e :: es) X.env)) (backToKw pos (keywordEach [] X.env))) := by rfl) : PE X (.Call (.Attribute o m apos) (e :: es) [] pos) (tMtS C m sp E ta t) := by
  obtain ⟨f, fd, hm, hk, F, hb⟩ := M.ex
  refine ⟨fun pins s σ H Q I h => ?_⟩
  refine PySem.W.methodCall_KW (pl := pl) (thn (he.run pins s σ H _ I h) fun u s1 ⟨x, H1, I1, rx, a, dx, fs, ex, ea, l, q⟩ => ?_) ht
  subst ex
  obtain rfl : u = Value.ref a := rx
  refine getmeth_ok I1 ea c hm l ?_
  refine PySem.W.callWith_K (first := [.ref a]) (h₀ := X.base) I.ok.mod.kin hm.kp (thn (ha.run pos pins s1 σ H1 _ I1 q) fun us s2 ⟨vs, H2, I2, r, q2⟩ => ⟨I2.kIn, ?_⟩) hst hpl
  exact run_fnS (us := .ref a :: us) (vs := .ref a :: vs) F hr hb (hx σ) I2 (.cons rfl r) q2
end
section
variable {X : Cx} {CX : CXT} {C f : Addr} {k : Nat} {fd : FuncData} {ps : List Str} {sp : Sp} {m x : Str} {o e : Expr} {es : List Expr} {ta : TE} {t : TA} {p pos apos : Pos}
theorem pe_mt1 {E : XK} {pl : Sem Bool} (M : Mtn X.prog X.w X.K X.mg X.base CX C m k ps sp) (he : PE X o ta) (c : Cls X.K C) (hr : Room k X.A) (hx : Passes CX X E) (ha : PA X (e :: es) t)
    (hst : starEach (e :: es) X.env = (false, eval e X.env) :: starEach es X.env := by rfl) (hpl : (backTo pos (starEach es X.env)).any (·.1) = false := by rfl)
    (ht : eval (.Call (.Attribute o m apos) (e :: es) [] pos) X.env = (do
      let ov ← eval o X.env
      standAt apos.atName
      let (f, first) ← holding [ov] (getMethod ov m pl)
      callWith pos f first (backTo pos (starEach (e :: es) X.env)) (backToKw pos (keywordEach [] X.env))) := by rfl) : PE X (.Call (.Attribute o m apos) (e :: es) [] pos) (tMeth C m sp [] E ta t) := by
  obtain ⟨f, fd, h1, h2, h3, h4⟩ := M.ex
  exact pe_meth he c h1 h3 hr h4 .nil hx ha hst hpl ht
/-- C(e, ..) within a try -/
def tMakeS (C : Addr) (sp : Sp) (E : L2.St → XK) (t : TA) : TE := fun σ H Q => t σ H fun vs H1 => ∀ x dx, H1 x = none → H1 dx = none → dx ≠ x →
  sp (.ref x :: vs) (upd (upd H1 dx (.own x)) x (.ins C dx [])) (fun v H2 => v = .non ∧ Q (.ref x) H2) (E σ)
theorem run_makeS {E : L2.St → XK} {pins : List (Addr × Obj)} {σ : L2.St} {H : Hp} {s : Shared} {Q : VK} {us : List Value} {vs : List V} (M : Mk X.K C f) (F : FnOk X.prog X.w X.K X.mg X.base CX k f fd ps sp) (hr : Room (k + 1) X.A) (hb : Binds X.K fd ps [])
    (hx : ∀ σ, PassesAt CX X σ (E σ)) (I : Inv X pins σ H s) (r : Vals vs us)
    (h : ∀ x dx, H x = none → H dx = none → dx ≠ x → sp (.ref x :: vs) (upd (upd H dx (.own x)) x (.ins C dx [])) (fun v H2 => v = .non ∧ Q (.ref x) H2) (E σ)) :
    wpAny (model X.prog X.w) X.A (call (.ref C) us) (EP X pins σ Q) X.xe s := by
  have hq := h (s.heap.objs.size + 1) s.heap.objs.size (I.hok.fresh (Nat.le_succ _)) (I.hok.fresh (Nat.le_refl _)) (Nat.ne_of_lt (Nat.lt_succ_self _))
  have I2 := Inv.made (C := C) I
  have r2 : Vals (V.ref (s.heap.objs.size + 1) :: (vs ++ [])) (Value.ref (s.heap.objs.size + 1) :: (us ++ [])) := .cons rfl (r.append .nil)
  have hl : (Value.ref (s.heap.objs.size + 1) :: us ++ []).length = ps.length := by
    have e := r2.length
    rw [List.append_nil, F.len _ _ _ _ hq] at e
    exact e.symm
  rw [← List.append_nil vs] at hq
  have hb2 := hb _ (Value.ref (s.heap.objs.size + 1) :: us) I2.kIn hl
  rw [List.cons_append] at hb2
  refine wpAny_call (make_map (f := f) I.kIn M.makes M.init (beq_iff_eq.mp M.fn) (codeAny_mono (F.run _ X.stack _ _ ⟨Value.ref (s.heap.objs.size + 1) :: us, []⟩ (Value.ref (s.heap.objs.size + 1) :: (us ++ [])) _ _ (E σ) (hr.make C us [])
    (I2.env0.make C us []) hb2 r2 hq) fun r s' hq' => ?_))
  cases r with
  | error e => exact hx σ pins _ _ e s' I2 hq'
  | ok fl =>
    cases fl with
    | ret u =>
      obtain ⟨v, H', I3, rv, ev, q3⟩ := I2.after hq'
      subst ev
      exact ⟨rv, ⟨V.ref (s.heap.objs.size + 1), H', I3, rfl, q3⟩⟩
    | next => exact False.elim hq'
    | brk => exact False.elim hq'
    | cont => exact False.elim hq'
theorem pe_mkS {E : L2.St → XK} (M : Mn X.prog X.w X.K X.mg X.base CX C k ps sp) (hr : Room (k + 1) X.A) (gC : X.mg x = some (.ref C)) (hx : ∀ σ, PassesAt CX X σ (E σ)) (hg : Gl X x) (ha : PA X (e :: es) t) (hdb : (x == ("__debug__" : Str)) = false := by decide)
    (he : starEach (e :: es) X.env = (false, eval e X.env) :: starEach es X.env := by rfl) (hpl : (backTo pos (starEach es X.env)).any (·.1) = false := by rfl) : PE X (.Call (.Name x p) (e :: es) [] pos) (tMakeS C sp E t) := by
  obtain ⟨f, fd, h1, h2, h3⟩ := M.ex
  refine ⟨fun pins s σ H Q I h => ?_⟩
  refine wpAny_Call_Name_kw (ld_glob I hg gC ?_ hdb)
  refine PySem.W.callWith_K (h₀ := X.base) I.ok.mod.kin h1.kp (thn (ha.run pos pins s σ H _ I h) fun us s1 ⟨vs, H1, I1, r, q⟩ => ⟨I1.kIn, ?_⟩) he hpl
  exact run_makeS h1 h2 hr h3 hx I1 r q
end
section
variable {K : PySem.W.Frag} {σ : L2.St} {H H' : Hp} {ta tb tc te tv : TE} {x y z v : V} {t : TT} {D : Ends} {tz : TS}
theorem s_fldR {a C dx : Addr} {fs : List (Str × V)} {f : Str} {R : Addr → Hp → Prop} (hv : EvR tv σ H R) (h : ∀ H1, Ev ta σ H1 (.ref a)) (ho : H a = some (.ins C dx fs)) (hc : Cls K C) (hn : NoAttr K C f) (hz : fs.length < 1000)
    (k : ∀ q H1 H2, H q = none → Ex H H1 → R q H1 → Ex H1 H2 → D.nx σ (upd H2 a (.ins C dx (putF f (.ref q) fs)))) : sFld K ta tv f D σ H :=
  hv H (Ex.refl H) _ fun q H1 hq e1 hR => h H1 H1 (Ex.refl H1) _ fun H2 e2 => ⟨a, C, dx, fs, rfl, e2 _ _ (e1 _ _ ho), hc, hn, hz, k q H1 H2 hq e1 hR e2⟩
theorem el_lcR2 {ta : TA} {j : Nat} {vs : List Nat} {lo : Int} {n : Nat} (f : Nat → Bool) (v : Nat → V) (h : EvA ta σ H [.int lo, .int (lo + (n : Int))]) (hb : -1000000000 ≤ lo ∧ lo ≤ 1000000000) (hn : n ≤ 40000) (hw : ∀ x, wipe ((wipe σ vs).set j (some x)) vs = wipe σ vs)
    (ht : ∀ (i : Nat) H1, Ex H H1 → i < n → EvT t ((wipe σ vs).set j (some (.int (lo + (i : Int))))) H1 (f i)) (he : ∀ (i : Nat) H1, Ex H H1 → i < n → f i = true → Ev te ((wipe σ vs).set j (some (.int (lo + (i : Int))))) H1 (v i)) :
    EvL (tLc (iRng2 ta) (gName j) t te vs) σ H (given n f v) := fun H0 e Q q => h H0 e _ fun H1 e1 => by
  have hN : (lo + (n : Int) - lo).toNat = n := by omega
  refine ⟨lo, lo + (n : Int), rfl, ⟨by omega, by omega, by omega, by omega⟩, ?_⟩
  rw [hN]
  exact fun Dl hD => lc_range (lo := lo) (n := n) (Cw H1 f v Dl) ⟨hD, Ex.new hD, upd_same⟩ (fun i H' hi p => ⟨hw _, cw_turn p (by omega) (ht i H1 (e.trans e1) hi) (fun hf => he i H1 (e.trans e1) hi hf)⟩) (fun H' p => q Dl H' (fresh_back e1 p.1) (e1.trans p.2.1) p.2.2)
theorem et_orInt3 {o : Option Int} {b : Bool} (h : Ev ta σ H x) (hx : NumV K H x o) (hb : ∀ z, o = some z → x = .int z → Ev tb σ H (.bl b)) (hn : o = none → b = false) :
    EvT (tOr (tNot (tB (tCB (rIsi K) (tCons ta (tCons (tC (.ty "int")) tNil))))) (tOr (tB (tCB (rIsi K) (tCons ta (tCons (tC (.ty "bool")) tNil)))) (tNot (tTest tb)))) σ H (!b) := by
  cases hx with
  | int z => exact et_is (et_or (et_not (et_B (ev_isi h (ty_int z) kit_ii))) fun _ => et_or (et_B (ev_isi h (ty_int z) kit_ib)) fun _ => et_not (et_test (hb z rfl rfl))) (by cases b <;> rfl)
  | odd hy n =>
    obtain ⟨b1, b2, h1, h2, h3⟩ := n
    rw [hn rfl]
    cases b1 with
    | false => exact et_is (et_or (b := true) (et_not (et_B (ev_isi h hy h1))) fun q => nomatch q) rfl
    | true =>
      have hb2 : b2 = true := by cases b2 <;> simp_all
      subst hb2
      exact et_is (et_or (et_not (et_B (ev_isi h hy h1))) fun _ => et_or (b := true) (et_B (ev_isi h hy h2)) fun q => nomatch q) rfl
theorem q_pop {l : Addr} {xs : List V} {y : V} (hl : H l = some (.lst (xs ++ [y]))) (ha : Ev ta σ H (.ref l)) (k : ∀ H1, Ex H H1 → tz D σ (upd H1 l (.lst xs))) : tSeq (tDrop (tBM0 K "list" rPop ta)) tz D σ H :=
  ha H (Ex.refl H) _ fun H1 e1 => ⟨Or.inl ⟨rfl, _, sq_of (e1 l _ hl)⟩, l, xs ++ [y], y, rfl, rfl, e1 _ _ hl, by simp, by
    rw [List.dropLast_concat]
    exact k H1 e1⟩
end
section
variable {K : PySem.W.Frag} {H : Hp}
theorem LandL.last : ∀ {ls : List (Nat × Nat)} {l : Nat × Nat} {xs : List V}, LandL K H xs (ls ++ [l]) → ∃ ys q, xs = ys ++ [.ref q] ∧ LandL K H ys ls ∧ SqT K H q [.int (l.1 : Int), .int (l.2 : Int)]
  | [], l, [x], h => by
    obtain ⟨⟨q, rfl, hq⟩, _⟩ := h
    exact ⟨[], q, rfl, trivial, hq⟩
  | [], _, [], h => h.elim
  | [], _, _ :: _ :: _, h => h.2.elim
  | a :: ls, l, [], h => h.elim
  | a :: ls, l, x :: xs, h => by
    obtain ⟨h1, h2⟩ := h
    obtain ⟨ys, q, rfl, h3, h4⟩ := LandL.last (ls := ls) h2
    exact ⟨x :: ys, q, rfl, ⟨h1, h3⟩, h4⟩
theorem cut1 (x : V) (xs : List V) : cutV (x :: xs) (some 1) none = xs := by
  unfold cutV
  have h1 : HT.sIx (x :: xs).length 0 (some 1) = 1 := by
    unfold HT.sIx
    simp
  have h2 : HT.sIx (x :: xs).length (x :: xs).length none = (x :: xs).length := rfl
  rw [h1, h2]
  simp
end
end WF

set_option Elab.async false
set_option linter.all false
set_option maxRecDepth 100000
set_option maxHeartbeats 400000
/-! WOwn: == and operators by an own class's methods -/
namespace WF
open PySem L2 Evl
section
variable {X : Cx} {CX : CXT} {C : Addr} {n : Nat} {ps : List Str} {sp : Sp}
/-- o == y by o's own __eq__; y an object of the class, or a tuple -/
def rEqO (K : PySem.W.Frag) (C : Addr) (sp : Sp) (E : XK) : R2 := fun x y H Q => ∃ a b dx fs, x = .ref a ∧ y = .ref b ∧ H a = some (.ins C dx fs) ∧ ((∃ dy gs, H b = some (.ins C dy gs)) ∨ ((∃ ys, SqT K H b ys) ∧ PySem.W.notFirst K C (.type "tuple") = true)) ∧ sp [x, y] H (fun v H' => ∃ t, v = .bl t ∧ Q v H') E
theorem op_eqO {E : XK} (M : Mtn X.prog X.w X.K X.mg X.base CX C "__eq__" n ps sp) (hr : Room n X.A) (hx : Passes CX X E) : OpR X (compareOp .Eq) (rEqO X.K C sp E) := by
  intro pins s σ H x y v u Q I rx ry hq
  obtain ⟨f, fd, hM, hk, F, hb⟩ := M.ex
  obtain ⟨a, b, dx, fs, rfl, rfl, ha, hy, hsp⟩ := hq
  cases rx
  cases ry
  have sb : L2.Sub X n X.A := ⟨hr, rfl⟩
  obtain ⟨mA, J0, _⟩ := ins_get I.hok ha
  obtain ⟨od, J, _⟩ := J0.look
  obtain ⟨m, hF⟩ := I.fr
  obtain ⟨tb, hty, hnf⟩ : ∃ tb, PySem.W.Looks (model X.prog X.w) s.heap (typeOf (.ref b)) tb ∧ PySem.W.notFirst X.K C tb = true := by
    rcases hy with ⟨dy, gs, hb'⟩ | ⟨⟨ys, hT⟩, hn⟩
    · obtain ⟨mB, J1, _⟩ := ins_get I.hok hb'
      obtain ⟨od', J', _⟩ := J1.look
      exact ⟨.ref C, J'.type, by simp [PySem.W.notFirst]⟩
    · obtain ⟨its, r1, ⟨o, ho, hc, _⟩, _⟩ := I.tuple hT
      exact ⟨.type "tuple", fun A Q E s' k q => wpAny_typeOf_ref (k _ _ ho) (by rw [hc]; exact q), hn⟩
  show wpAny (model X.prog X.w) X.A (richCompare .Eq _ _) (EP X pins σ Q) X.xe s
  refine PySem.W.cmp_K (op := .Eq) (tb := tb) sb.room.units0 hF I.ok.mod.kin J hty hnf hM.at_ hM.fn ?_
  have e0 : Env0 X.prog X.w X.K X.mg X.base X.A X.stack s H := I.env0
  have hl := F.len _ _ _ _ hsp
  have r2 : Vals [V.ref a, V.ref b] [Value.ref a, Value.ref b] := .cons rfl (.cons rfl .nil)
  refine wpAny_call (codeAny_mono (F.run X.A X.stack s H ⟨[.ref a, .ref b], []⟩ [.ref a, .ref b] [.ref a, .ref b] _ E sb.room e0 (by
    have := hb s [.ref a, .ref b] I.kIn (by simpa using hl)
    simpa using this) r2 hsp) fun r s' hq => ?_)
  cases r with
  | error e => exact hx pins σ H s e s' I hq
  | ok fl =>
    cases fl with
    | ret w =>
      obtain ⟨z, H', I', rz, t, ez, q⟩ := I.after hq
      subst ez
      cases rz
      exact ⟨.bl t, H', I', rfl, q⟩
    | next => exact False.elim hq
    | brk => exact False.elim hq
    | cont => exact False.elim hq
/-- a op b, both of the class, by a's own method; within a try too -/
def tBinS (C : Addr) (sp : Sp) (E : L2.St → XK) (ta tb : TE) : TE := fun σ H Q => ta σ H fun x H1 => tb σ H1 fun y H2 => ∃ a b dx fs dy gs, x = .ref a ∧ y = .ref b ∧ H2 a = some (.ins C dx fs) ∧ H2 b = some (.ins C dy gs) ∧ sp [x, y] H2 (fun v H' => ∃ r, v = .ref r ∧ Q v H') (E σ)
theorem pe_binS {E : L2.St → XK} {op : Operator} {e1 e2 : Expr} {ta tb : TE} {pos : Pos} (M : Mtn X.prog X.w X.K X.mg X.base CX C (PySem.dunder op.info.2) n ps sp) (hsf : PySem.W.selfFirst X.K C = true) (hr : Room n X.A) (hx : ∀ σ, PassesAt CX X σ (E σ)) (h1 : PE X e1 ta) (h2 : PE X e2 tb) :
    PE X (.BinOp e1 op e2 pos) (tBinS C sp E ta tb) := by
  obtain ⟨f, fd, hM, hk, F, hb⟩ := M.ex
  refine ⟨fun pins s σ H Q I h => ?_⟩
  refine wpAny_BinOp (binT (R := fun x y H2 => ∃ a b dx fs dy gs, x = .ref a ∧ y = .ref b ∧ H2 a = some (.ins C dx fs) ∧ H2 b = some (.ins C dy gs) ∧ sp [x, y] H2 (fun v H' => ∃ r, v = .ref r ∧ Q v H') (E σ)) h1 h2 I h fun v u s2 x y H2 I2 rx ry q => ?_)
  obtain ⟨a, b, dx, fs, dy, gs, rfl, rfl, ha, hb', hsp⟩ := q
  cases rx
  cases ry
  have sb : L2.Sub X n X.A := ⟨hr, rfl⟩
  obtain ⟨mA, J0, _⟩ := ins_get I2.hok ha
  obtain ⟨od, J, _⟩ := J0.look
  obtain ⟨mB, J1, _⟩ := ins_get I2.hok hb'
  obtain ⟨od', J', _⟩ := J1.look
  obtain ⟨m, hF⟩ := I2.fr
  refine PySem.W.binop_K hF I2.ok.mod.kin J J'.type hsf hM.at_ hM.fn ?_
  have e0 : Env0 X.prog X.w X.K X.mg X.base X.A X.stack s2 H2 := I2.env0
  have hl := F.len _ _ _ _ hsp
  have r2 : Vals [V.ref a, V.ref b] [Value.ref a, Value.ref b] := .cons rfl (.cons rfl .nil)
  refine wpAny_call (codeAny_mono (F.run X.A X.stack s2 H2 ⟨[.ref a, .ref b], []⟩ [.ref a, .ref b] [.ref a, .ref b] _ (E σ) hr e0 (by
    have := hb s2 [.ref a, .ref b] I2.kIn (by simpa using hl)
    simpa using this) r2 hsp) fun r s' hq => ?_)
  cases r with
  | error e => exact hx σ pins H2 s2 e s' I2 hq
  | ok fl =>
    cases fl with
    | ret w =>
      obtain ⟨z, H', I', rz, t, ez, q⟩ := I2.after hq
      subst ez
      cases rz
      exact ⟨.ref t, H', I', rfl, q⟩
    | next => exact False.elim hq
    | brk => exact False.elim hq
    | cont => exact False.elim hq
end
/-! rules as data -/
def dRl : Rl → PyData
  | .wk k => .tuple [.str "weekday", .int k]
  | .fs k => .tuple [.str "first", .int k]
  | .md k => .tuple [.str "monthday", .int k]
  | .bh r b => .tuple [.str "behind", dRl r, .int b]
  | .bo x y => .tuple [.str "both", dRl x, dRl y]
  | .ei x y => .tuple [.str "either", dRl x, dRl y]
  | .wo x y => .tuple [.str "without", dRl x, dRl y]
theorem dp_rl {K : PySem.W.Frag} {H : Hp} {v : V} {r : Rl} (h : RlAt K H v r) : Dp K H v (dRl r) := by
  induction h with
  | wk h => exact .tup h (.cons (.str _) (.cons (.int _) .nil))
  | fs h => exact .tup h (.cons (.str _) (.cons (.int _) .nil))
  | md h => exact .tup h (.cons (.str _) (.cons (.int _) .nil))
  | bh h _ i => exact .tup h (.cons (.str _) (.cons i (.cons (.int _) .nil)))
  | bo h _ _ i j => exact .tup h (.cons (.str _) (.cons i (.cons j .nil)))
  | ei h _ _ i j => exact .tup h (.cons (.str _) (.cons i (.cons j .nil)))
  | wo h _ _ i j => exact .tup h (.cons (.str _) (.cons i (.cons j .nil)))
theorem dRl_lay : ∀ r : Rl, (dRl r).canLay0 = true
  | .wk k | .fs k | .md k => by simp only [dRl, PyData.canLay0, PyData.canLayAll0]; decide +kernel
  | .bh r b => by
    simp only [dRl, PyData.canLay0, PyData.canLayAll0, dRl_lay r]
    decide +kernel
  | .bo x y | .ei x y | .wo x y => by
    simp only [dRl, PyData.canLay0, PyData.canLayAll0, dRl_lay x, dRl_lay y]
    decide +kernel
theorem dRl_depth : ∀ r : Rl, (dRl r).depth ≤ r.dep + 1
  | .wk k | .fs k | .md k => by simp [dRl, PyData.depth, PyData.depthAll, Rl.dep]
  | .bh r b => by
    have := dRl_depth r
    simp only [dRl, PyData.depth, PyData.depthAll, Rl.dep]
    omega
  | .bo x y | .ei x y | .wo x y => by
    have h1 := dRl_depth x
    have h2 := dRl_depth y
    simp only [dRl, PyData.depth, PyData.depthAll, Rl.dep]
    omega
theorem dRl_shaped {r : Rl} (h : r.dep ≤ 50) : SeqAt.shaped (dRl r) = true := by
  unfold SeqAt.shaped
  rw [dRl_lay, Bool.true_and, decide_eq_true_iff]
  have := dRl_depth r
  omega
theorem dRl_self : ∀ r : Rl, PyData.eqv (dRl r) (dRl r) = true
  | .wk k | .fs k | .md k => by simp [dRl, PyData.eqv, PyData.eqvAll]
  | .bh r b => by simp [dRl, PyData.eqv, PyData.eqvAll, dRl_self r]
  | .bo x y | .ei x y | .wo x y => by simp [dRl, PyData.eqv, PyData.eqvAll, dRl_self x, dRl_self y]
theorem ev_eqRl {K : PySem.W.Frag} {σ : L2.St} {H : Hp} {ta tb : TE} {u v : V} {r s : Rl} (h1 : Ev ta σ H u) (h2 : Ev tb σ H v) (hr : RlAt K H u r) (hs : RlAt K H v s) (d1 : r.dep ≤ 50) (d2 : s.dep ≤ 50) : Ev (tOp (rEqD K) ta tb) σ H (.bl (PyData.eqv (dRl r) (dRl s))) :=
  ev_op h1 h2 fun H1 e Q q => ⟨dRl r, dRl s, dp_rl (hr.mono e), dp_rl (hs.mono e), dRl_shaped d1, dRl_shaped d2, q H1 (Ex.refl H1)⟩
def okRl (r : Rl) : Bool := decide (r.parts ≤ 5 ∧ r.bys ≤ 4)
end WF

set_option Elab.async false
set_option linter.all false
set_option maxRecDepth 100000
set_option maxHeartbeats 2000000
/-! WSup: an own error's __init__ that says super().__init__("X") ahead of its stores -/
namespace WF
open PySem L2 Evl PyProof.Rows
open PySem.W (ksEnv ksFn kxs_mw)
structure SupFn (P : Program) (K : PySem.W.Frag) (C : Addr) (qual : Str) (st : Stmt) (f : Addr) (fd : FuncData) (cc cda : Addr) : Prop where
  lk : ∃ oc od osl dV kV doc pm an ct, fd = ksFn "__init__" qual (defArgs st) (defBody st) (defScope st) dV kV doc pm an (.ref cda) ct cc ∧ K.lookup f = some ⟨oc, od, .func fd, osl⟩
  hcd : PySem.W.codeIn K (.ref cda) qual = true
  kp : PySem.W.keepIn K (.ref f) = true
  code : ∃ ccl cdd vs ccs file tf, K.lookup cda = some ⟨ccl, cdd, .fields vs, ccs⟩ ∧ vs[2]? = some (.str file tf) ∧ ((P.main.file : Str) == file) = true
  cell : ∃ cl cld csl, K.lookup cc = some ⟨cl, cld, .cell (some (.ref C)), csl⟩
  mro : PySem.W.mroIn K C (.ref C) = some true
  nsup : PySem.W.nsIn K mainGlobals "super" = some none
  top : (P.main.scope.names.lookup ("super" : Str)).isSome = false
  any : PySem.W.nsIn K cStatics "thirdparty.any" = some none
  sup : PySem.W.ks_superIn K C C "__init__" = some (some (.builtin "ValueError.__init__"))
  subV : PySem.W.subIn K (.ref C) (.type "ValueError") = some true
/-- the context of such an __init__ -/
def cxS (CX : CXT) (P : Program) (w : World) (K : PySem.W.Frag) (mg : Str → Option Value) (base : Heap) (N : List Str) (qual : Str) (scope : Scope) (f cda cc : Addr) (A : Around) (outer : List Env) (s : Shared) (H : Hp) (E : XK) : Cx where
  prog := P
  w := w
  K := K
  mg := mg
  base := base
  A := A.deeper (ksEnv qual scope s.heap.objs.size f (.ref cda) cc)
  N := N
  s_0 := s
  H_0 := H
  env := ksEnv qual scope s.heap.objs.size f (.ref cda) cc
  outer := outer
  stack := ksEnv qual scope s.heap.objs.size f (.ref cda) cc :: outer
  ex := []
  calm := true
  fn := fun x => x != ("__class__" : Str)
  pn := []
  xe := fun e s' => wpAny (model P w) (A.deeper (ksEnv qual scope s.heap.objs.size f (.ref cda) cc)) (leaving (ksEnv qual scope s.heap.objs.size f (.ref cda) cc) e) (fun _ s'' => CX outer H s E e s'') (fun e' s'' => CX outer H s E e' s'') s'
structure ScopeS (ps : List Str) (sc : Scope) : Prop where
  kind : sc.kind = .function
  co : sc.isCoroutine = false
  gen : sc.isGenerator = false
  nd : ps.Nodup
  par : ∀ x ∈ ps, sc.names.lookup x = some .local
  only : ∀ y ∈ sc.names, y.2 ≠ .cell ∧ (y.2 = .free → y.1 = ("__class__" : Str))
  sup : sc.names.lookup ("super" : Str) = some .globalImplicit
  cls : sc.names.lookup ("__class__" : Str) = some .free
theorem look_mem : ∀ {l : List (Str × Value)} {x : Str} {u : Value}, (l.map (·.1)).Nodup → (x, u) ∈ l → l.lookup x = some u
  | (y, v) :: l, x, u, hn, hm => by
    rw [List.map_cons, List.nodup_cons] at hn
    rcases List.mem_cons.mp hm with e | hm
    · cases e
      rw [List.lookup_cons, beq_self_eq_true]
    · have hne : x ≠ y := fun z => hn.1 (List.mem_map.mpr ⟨(x, u), hm, z⟩)
      have hb : (x == y) = false := beq_eq_false_iff_ne.mpr hne
      rw [List.lookup_cons, hb]
      exact look_mem hn.2 hm
theorem zip_look {ps : List Str} {us : List Value} (hn : ps.Nodup) {i : Nat} {x : Str} {u : Value} (h1 : ps[i]? = some x) (h2 : us[i]? = some u) : (ps.zip us).reverse.lookup x = some u := by
  refine look_mem ?_ ?_
  · rw [List.map_reverse]
    have hs : ((ps.zip us).map (·.1)).Sublist ps := by
      clear h1 h2 hn
      induction ps generalizing us with
      | nil => simp
      | cons p ps ih =>
        cases us with
        | nil => simp
        | cons u us => exact List.cons_sublist_cons.mpr ih
    exact List.pairwise_reverse.mpr ((hn.sublist hs).imp fun h => h.symm)
  · rw [List.mem_reverse]
    refine List.mem_of_getElem? (i := i) ?_
    rw [List.getElem?_zip_eq_some]
    exact ⟨h1, h2⟩
theorem inv_startS {CX : CXT} {P : Program} {w : World} {K : PySem.W.Frag} {mg : Str → Option Value} {base : Heap} {ps : List Str} {qual : Str} {scope : Scope} {f cda cc : Addr} {A : Around} {outer : List Env} {s : Shared} {h1 : Heap} {t : Nat} {H : Hp} {E : XK} {us : List Value} {vs : List V} {ocl : Obj} {vcl : Option Value}
    (S : ScopeS ps scope) (hd : A.handled = none) (e0 : Env0 P w K mg base A outer s H) (hl : vs.length = ps.length) (r : Vals vs us) (hcc : K.lookup cc = some ocl) (hcv : ocl.data = .cell vcl)
    (hns : h1.Ns s.heap.objs.size (fun x => (ps.zip us).reverse.lookup x)) (hk : ∀ b o, s.heap.get? b = some o → h1.get? b = some o) :
    Inv (cxS CX P w K mg base ps qual scope f cda cc A outer s H E) [] (L2.start ps vs) H { s with heap := h1, toks := t } := by
  have hb : base.get? cc = some ocl := e0.mod.kin _ _ hcc
  have noA : ∀ b : Addr, b ∉ (cxS CX P w K mg base ps qual scope f cda cc A outer s H E).ex := fun b z => absurd (show b ∈ ([] : List Addr) from z) (by simp)
  have lk : ∀ x c, (cxS CX P w K mg base ps qual scope f cda cc A outer s H E).env.cells.lookup x = some c → x = ("__class__" : Str) ∧ c = cc := fun x c h => by
    have h : ([(("__class__" : Str), cc)] : List (Str × Addr)).lookup x = some c := h
    rw [List.lookup_cons] at h
    split at h
    · rename_i q
      exact ⟨beq_iff_eq.mp q, (Option.some.inj h).symm⟩
    · cases h
  refine ⟨⟨e0.mod, S.kind, rfl, rfl, Nat.le_refl _, fun x y c h1 h2 => (lk x c h1).1.trans (lk y c h2).1.symm, fun x hx => ?_, fun x c hf h => ?_, fun _ => hd, Around.frames_deeper e0.frames, .inr ⟨rfl, rfl⟩, fun b z => absurd z (noA b), e0.bs, e0.bsz, fun b _ _ => noA b, fun b z => absurd z (noA b), e0.funs, e0.frf⟩,
    rfl, e0.bare, Un.kept hk, ⟨_, hns, fun i x v h1 h2 h3 => ?_⟩, fun x c h => ?_, e0.hok.fresh (Nat.le_refl _), fun x c h => ?_, fun p hp => absurd (show p ∈ ([] : List (Addr × Obj)) from hp) (by simp), e0.hok.kept hk, ?_⟩
  · have hx' : scope.names.lookup x = some .cell ∨ scope.names.lookup x = some .free := hx
    rcases hx' with hx' | hx'
    · exact absurd rfl (S.only _ (PySem.mem_of_lookup hx')).1
    · have := (S.only _ (PySem.mem_of_lookup hx')).2 rfl
      have this : x = ("__class__" : Str) := this
      subst this
      exact ⟨cc, by show ([(("__class__" : Str), cc)] : List (Str × Addr)).lookup _ = _; rw [List.lookup_cons, beq_self_eq_true]⟩
  · rw [(lk x c h).1] at hf
    have hf : (("__class__" : Str) != ("__class__" : Str)) = true := hf
    rw [bne_self_eq_false] at hf
    cases hf
  · have hi : i < vs.length := by
      unfold L2.start at h2
      by_cases hi : i < vs.length
      · exact hi
      · rw [List.getElem?_append_right (by simpa using hi)] at h2
        rw [List.getElem?_replicate] at h2
        split at h2 <;> cases h2
    have ha : vs[i]? = some v := by
      unfold L2.start at h2
      rw [List.getElem?_append_left (by simpa using hi), List.getElem?_map] at h2
      cases e : vs[i]? with
      | none => rw [e] at h2; cases h2
      | some a => rw [e] at h2; cases h2; rfl
    obtain ⟨u, hu, rv⟩ := r.get ha
    have h1' : ps[i]? = some x := h1
    exact ⟨u, rv, .inl ⟨S.par x (List.mem_of_getElem? h1'), zip_look S.nd h1' hu⟩⟩
  · rw [(lk x c h).2]
    exact ⟨vcl, ocl, hk _ _ (e0.bs _ _ hb).1, hcv⟩
  · rw [(lk x c h).2]
    exact (e0.bs _ _ hb).2
  · unfold L2.start
    show _ = ps.length
    rw [List.length_append, List.length_map, List.length_replicate]
    omega
section
variable {prog : Program} {w : World} {A : Around} {E : Value → Shared → Prop} {h : Heap} {g : Array GenState} {d : Drawn} {t : Nat} {os : OsState}
variable {nm q : Str} {C N : Addr} {bs bm : List Value} {hdct : Bool} {sn : List Str} {sub : List Value} {ab : Bool} {col : Option Bool} {dd : Option Addr} {k0 k1 k2 k3 k5 : Option Value}
theorem call_bwV {u e t0 : Addr} {rest : List Value} {Q : Value → Shared → Prop}
    (hC : h.get? C = some (excClassObj nm q C N bs bm hdct sn sub ab col dd k0 k1 k2 k3 k5 "ValueError.__new__")) (he : h.get? e = some (PySem.HandSPX.excO C t0)) (hu : h.get? u = some (kxs_mw "ValueError.__init__" e)) (hrest : rest.length ≤ sizeLine)
    (hq : ∀ h' t1, (∀ b o, b ≠ e → h.get? b = some o → h'.get? b = some o) → h'.get? e = some (PySem.HandSPX.excO C t1) → Q .none ⟨h', g, d, t, os⟩) :
    wpAny (model prog w) A (call (.ref u) rest) Q E ⟨h, g, d, t, os⟩ := by
  refine wpAny_call (codeAny_of_tree ?_)
  show wpAny _ A.in1 (callAny (.ref u) ⟨rest, []⟩) _ _ _
  simp only [callAny]
  refine wpAny_bind (wpAny_load hu ?_)
  simp only [kxs_mw, show (Value.type "method-wrapper" == Value.type "method" || Value.type "method-wrapper" == Value.type "builtin_function_or_method" || Value.type "method-wrapper" == Value.type "method-wrapper") = true by decide, if_true]
  refine PySem.W.KFB.if_so (by decide) ?_
  refine wpAny_bind (PySem.ESX.check_bound F.excBase_ValueError hC he rfl ?_)
  refine wpAny_bind (wpAny_pure (wpAny_pure ?_))
  refine ⟨Code.quiet_builtin _ (by decide +kernel), codeAny_builtin F.excBase_ValueError.initEntry ?_⟩
  rw [Around.under_plainId F.excBase_ValueError.init.plain _]
  wp_walk
  refine hq _ h.objs.size (fun b o hb ho => ?_) ?_
  · rw [Heap.get?_update_other _ _ (Ne.symm hb)]
    exact Heap.get?_push_of_some _ ho
  · rw [Heap.get?_update_self _ (Heap.get?_push_of_some _ he) rfl]
    rfl
end

/-- THE RULE: an __init__ that says super().__init__(text), then the rest -/
theorem fn_sup {CX : CXT} {P : Program} {w : World} {K : PySem.W.Frag} {mg : Str → Option Value} {base : Heap} {k : Nat} {C f cc cda : Addr} {fd : FuncData} {qual : Str} {st : Stmt} {ps : List Str} {sp : Sp} {rest : List Stmt} {p0 p1 p2 pos epos cp : Pos} {ktx : Nat} {tx : Str} {ap : Arg}
    (SF : SupFn P K C qual st f fd cc cda) (hsup : mg "super" = none) (S : ScopeS ps (defScope st)) (len : ∀ vs H Q E, sp vs H Q E → vs.length = ps.length)
    (hp : ((defArgs st).posonlyargs ++ (defArgs st).args).head? = some ap) (h0 : ps[0]? = some ap.arg)
    (hbd : defBody st = .Expr (.Call (.Attribute (.Call (.Name "super" p0) [] [] p1) "__init__" p2) [.Constant (.str tx) ktx cp] [] pos) epos :: rest)
    (he : ∀ env : Env, ∃ pl : Sem Bool, eval (.Call (.Attribute (.Call (.Name "super" p0) [] [] p1) "__init__" p2) [.Constant (.str tx) ktx cp] [] pos) env = (do
      let ov ← attributeBase (.Call (.Name "super" p0) [] [] p1) "__init__" env (eval (.Call (.Name "super" p0) [] [] p1) env)
      standAt p2.atName
      let (f, first) ← holding [ov] (getMethod ov "__init__" pl)
      callWith pos f first (backTo pos (starEach [.Constant (.str tx) ktx cp] env)) []))
    (hbody : ∀ (A : Around) (outer : List Env) (s : Shared) (H : Hp) (vs : List V) (Q : VK) (E : XK), Room k (A.deeper (ksEnv qual (defScope st) s.heap.objs.size f (.ref cda) cc)) → sp vs H Q E →
      OexC K C ∧ (∃ a, vs[0]? = some (.ref a) ∧ H a = some (exo a C none)) ∧ ∃ t, PSs (cxS CX P w K mg base ps qual (defScope st) f cda cc A outer s H E) rest t ∧ t { nx := fun _ H' => Q .non H', rt := Q } (L2.start ps vs) H) :
    FnOk P w K mg base CX (k + 1) f fd ps sp := by
  obtain ⟨oc, od, osl, dV, kV, doc, pm, an, ct, rfl, lk⟩ := SF.lk
  obtain ⟨ccl, cdd, vsC, ccs, file, tf, hcode, hvs, hfile⟩ := SF.code
  obtain ⟨cl, cld, csl, hcell⟩ := SF.cell
  refine ⟨len, fun A outer s H args us vs Q E hr e0 hb r hsp => ?_⟩
  have hl := len _ _ _ _ hsp
  have KX : K.In s.heap := e0.mod.kin.keeps fun b o e => (e0.bs b o e).1
  have lim : s.heap.NoLimit := e0.mod.nolimit.keeps fun b o e => (e0.bs b o e).1
  obtain ⟨T, ⟨a, hva, hHa⟩, t, ht, hq⟩ := hbody A outer s H vs Q E (hr.deeper _) hsp
  refine ks_codeAny_call_defAt (fd := ksFn "__init__" qual (defArgs st) (defBody st) (defScope st) dV kV doc pm an (.ref cda) ct cc) (body := defBody st) (binds := ps.zip us) hr.depth (KX _ _ lk) rfl lim (PySem.W.codeRec_of KX SF.hcd) rfl hb (fun x hx => (S.only x hx).1) (fun x hx => S.par _ (List.of_mem_zip hx).1) (fun h1 hns hk1 => ?_) S.co S.gen S.kind
  have I : Inv (cxS CX P w K mg base ps qual (defScope st) f cda cc A outer s H E) [] (L2.start ps vs) H { s with heap := h1, toks := s.toks + (ps.zip us).length } := inv_startS S hr.hd e0 hl r hcell rfl hns hk1
  have X1 : K.In h1 := I.kIn
  obtain ⟨u0, hu0, rv0⟩ := r.get hva
  cases rv0
  rw [hbd]
  obtain ⟨pl, hev⟩ := he (ksEnv qual (defScope st) s.heap.objs.size f (.ref cda) cc)
  refine ks_wpAt_execs_cons (ks_wpAt_Expr_any (ks_wpAt_MethodCall ?_ hev) (show interactive (ksEnv qual (defScope st) s.heap.objs.size f (.ref cda) cc) = false by simp [interactive, Env.blockKind, S.kind]))
  · refine ks_wpAt_super_base (env := ksEnv qual (defScope st) s.heap.objs.size f (.ref cda) cc) S.sup S.cls (by decide) rfl (X1 _ _ lk) rfl hp rfl (X1 _ _ hcode) rfl hvs hfile SF.top ?_
    obtain ⟨mb, hb1, hb2⟩ := I.mod.blt
    refine PySem.W.ks_loadName_global S.kind S.sup (PySem.Calls.loadGlobal_builtin (env := ksEnv qual (defScope st) s.heap.objs.size f (.ref cda) cc) (I.mod.glob.keeps I.bk) hsup (hb1.keeps I.bk) ((hb2 (Str.ofString "super") (by decide)).trans (show bootBuiltins (Str.ofString "super") = some (.type "super") by decide +kernel)) ⟨rfl, ?_⟩)
    refine wpAny_loadName_free S.kind S.cls rfl ⟨_, X1 _ _ hcell, rfl⟩ ?_
    refine wpAny_loadName_local S.kind (S.par _ (List.mem_of_getElem? h0)) hns (zip_look S.nd h0 hu0) ?_
    obtain ⟨nm, q, N, bs, bm, sn, sub, ab, col, dd, k0, k1, k2, k3, k5, hC, hbm⟩ := T.cls
    have hcl : PySem.W.clsIn K C = some { name := nm, bases := bs, mro := .ref C :: bm, ns := N, qualname := q, hasDict := true, slotNames := sn, subclasses := sub, abstract := ab, collection := col, hasDel := false } := by unfold PySem.W.clsIn; rw [hC] <;> rfl
    obtain ⟨t1, ho⟩ := exo_at I.hok hHa
    have hne : a ≠ C := fun z => by
      rw [z] at ho
      have e := X1 _ _ hC
      rw [show h1.get? C = _ from ho] at e
      have e2 := congrArg Obj.data (Option.some.inj e)
      cases e2
    refine ks_wpAny_isType_cls (X1 _ _ hC) rfl ⟨rfl, ?_⟩
    refine ks_wpAny_call_super (X1 _ _ hC) rfl ho rfl (fun c e => nomatch e) (PySem.W.looks_mroIn X1 SF.mro) (fun h2 hso k2' => ?_)
    have X2 : K.In h2 := fun b o q => k2' b o (X1 b o q)
    have I2 := I.kept (t' := s.toks + (ps.zip us).length) k2'
    have hsup2 := SF.sup
    unfold PySem.W.ks_superIn at hsup2
    rw [hcl, Option.bind_some] at hsup2
    refine PySem.W.kxs_getMethod PySem.W.kxs_ValueError hso (PySem.W.looks_opaque X2 SF.any) (l₀ := .ref C :: bm) (fun A Q E s k q => wpAny_bind ((PySem.W.looks_clsIn X2 hcl) A _ E s k (wpAny_pure q))) rfl X2 hsup2 ((PySem.W.InstAt.type (C := C) (od := none) ⟨k2' _ _ ho, rfl, rfl, trivial⟩).andThen (PySem.W.looks_subIn X2 SF.subV)) hne (by decide) ?_
    have hu : (h2.push (kxs_mw "ValueError.__init__" a)).get? h2.objs.size = some (kxs_mw "ValueError.__init__" a) := Heap.get?_push_at rfl rfl
    have k3' : ∀ b o, h2.get? b = some o → (h2.push (kxs_mw "ValueError.__init__" a)).get? b = some o := fun b o e => Heap.get?_push_of_some _ e
    have I3 := I2.kept (t' := s.toks + (ps.zip us).length + 1 + 1) k3'
    refine PySem.W.kxs_callWith (i := "ValueError.__init__") (x := a) rfl (PySem.Calls.evalArgs_plain (PySem.Calls.spliced_cons (PySem.Calls.Constant_str (k := ktx) (pos := cp) (PySem.Calls.spliced_nil ⟨hu, ?_⟩))))
    obtain ⟨t3, ho3⟩ := exo_at I3.hok hHa
    refine call_bwV (k3' _ _ (X2 _ _ hC)) ho3 hu (by show 1 ≤ sizeLine; decide) fun h4 t4 k4 hx4 => ?_
    have I4 := I3.write (t' := s.toks + (ps.zip us).length + 1 + 1) (x := a) (e := a) (o := exo a C none) (by rw [hHa]; exact True.intro) (.inl rfl) k4 ⟨_, hx4⟩ (exo_ok hx4)
    have eu : upd H a (exo a C none) = H := by
      funext b
      by_cases hb : b = a
      · rw [hb, upd_same, hHa]
      · rw [upd_ne hb]
    rw [eu] at I4
    refine wpAt_of_wpAny (wpAny_mono (ht.run [] _ _ H _ I4 hq) (fun fl s' hs => ?_) fun e s' hs => hs)
    have fin : ∀ {σ' : L2.St} {H' : Hp} {v : V} {u : Value}, Inv (cxS CX P w K mg base ps qual (defScope st) f cda cc A outer s H E) [] σ' H' s' → RelV v u → Q v H' → CE outer P w H s Q u s' :=
      fun {σ' H' v u} J rv q => ⟨v, H', J.os, J.bare, J.base, J.hok, rv, q⟩
    cases fl with
    | ret u =>
      obtain ⟨v, σ', H', J, rv, q⟩ := hs
      exact fin J rv q
    | next =>
      obtain ⟨σ', H', J, q⟩ := hs
      exact fin (v := V.non) (u := Value.none) J rfl q
    | brk =>
      obtain ⟨_, _, _, q⟩ := hs
      exact False.elim q
    | cont =>
      obtain ⟨_, _, _, q⟩ := hs
      exact False.elim q
/-! what such an error keeps; raised -/
def spE1 (C : Addr) (f : Str) : Sp := fun vs H Q _ => ∃ a v, vs = [.ref a, v] ∧ H a = some (exo a C none) ∧ ∀ dx, H dx = none → dx ≠ a → Q .non (upd (upd H dx (exd dx [(f, v)])) a (exo a C (some dx)))
def spE2 (C : Addr) (f g : Str) : Sp := fun vs H Q _ => ∃ a u v, vs = [.ref a, u, v] ∧ H a = some (exo a C none) ∧ ∀ dx, H dx = none → dx ≠ a → Q .non (upd (upd (upd H dx (exd dx [(f, u)])) a (exo a C (some dx))) dx (exd dx [(g, v), (f, u)]))
structure MnE (P : Program) (w : World) (K : PySem.W.Frag) (mg : Str → Option Value) (base : Heap) (C : Addr) (k : Nat) (sp : Sp) : Prop where
  ex : ∃ (f : Addr) (fd : FuncData) (ps : List Str), PySem.W.findIn K (.ref C) "__init__" = some (some (.ref f)) ∧ PySem.W.typeIn K (.ref f) = some (.type "function") ∧ FnOk P w K mg base CX0 k f fd ps sp ∧ Binds K fd ps []
  ox : OexC K C
/-- what the top says of such a class -/
structure ErrS (P : Program) (K : PySem.W.Frag) (C : Addr) (qual : Str) (st : Stmt) (ps fs : List Str) : Prop where
  ox : OexC K C
  sup : ∃ f fd cc cda, SupFn P K C qual st f fd cc cda ∧ PySem.W.findIn K (.ref C) "__init__" = some (some (.ref f)) ∧ PySem.W.typeIn K (.ref f) = some (.type "function") ∧ Binds K fd ps []
  xf : XfC K C
  no : ∀ x ∈ fs, PySem.W.findIn K (.ref C) x = some none
  is : PySem.W.isClsIn K C = true
  se : PySem.W.subIn K (.ref C) (.ref C) = some true
theorem ErrS.self {P : Program} {K : PySem.W.Frag} {C : Addr} {qual : Str} {st : Stmt} {ps fs : List Str} (h : ErrS P K C qual st ps fs) : PySem.W.exmOne K (.ref C) (.ref C) = some true := by
  unfold PySem.W.exmOne
  rw [h.ox.exC, if_pos (by rfl)]
  unfold PySem.W.kitCls
  have h2 : (PySem.W.clsIn K C).isSome = true := h.is
  simp only [h2, h.ox.tyC, h.se]
  rfl
section
variable {X : Cx} {C : Addr} {k : Nat} {sp : Sp} {x : Str} {e : Expr} {es : List Expr} {p pos pos2 : Pos} {ta : TA}
theorem ps_raiseS {W : WX} (hc : X.calm = true) (tk : Takes X W) (M : MnE X.prog X.w X.K X.mg X.base C k sp) (hr : Room (k + 1) X.A) (gC : X.mg x = some (.ref C)) (hg : Gl X x) (ha : PA X (e :: es) ta) (hdb : (x == ("__debug__" : Str)) = false := by decide)
    (he : starEach (e :: es) X.env = (false, eval e X.env) :: starEach es X.env := by rfl) (hpl : (backTo pos (starEach es X.env)).any (·.1) = false := by rfl) :
    PS X (.Raise (some (.Call (.Name x p) (e :: es) [] pos)) none pos2) (fun _ σ H => tMkO C sp [] ta σ H fun cls d H' => W cls d σ H') := by
  obtain ⟨f, fd, ps, h1, h2, h3, h4⟩ := M.ex
  exact ps_raise hc tk (pmk_oex M.ox h1 h2 h3 hr h4 .nil (fun _ _ _ _ _ _ _ z => z.elim) hg gC ha hdb he hpl)
end
theorem raise1 {C : Addr} {f : Str} {σ : L2.St} {H : Hp} {ta : TA} {v : V} {W : WX} (h : EvA ta σ H [v]) (k : ∀ d H2, Ex H H2 → H d = none → H2 d = some (.xd [(f, v)]) → W (.ref C) (some d) σ H2) : tMkO C (spE1 C f) [] ta σ H (fun cls d H' => W cls d σ H') :=
  h H (Ex.refl H) _ fun H1 e1 => ⟨by show 1 ≤ 1000; decide, fun a ha => ⟨a, v, rfl, upd_same, fun dx hdx hne => by
    have hdx' : H1 dx = none := by
      rw [upd_ne hne] at hdx
      exact hdx
    refine ⟨rfl, dx, [(f, v)], upd_same, ?_, hdx', k dx _ (fun b o hb => ?_) (fresh_back e1 hdx') upd_same⟩
    · rw [upd_ne hne]
      exact upd_same
    · have hb1 := e1 _ _ hb
      have n1 : b ≠ dx := ne_of_none hb1 hdx'
      have n2 : b ≠ a := ne_of_none hb1 ha
      rw [upd_ne n1, del_ne n2, upd_ne n2, upd_ne n1, upd_ne n2]
      exact hb1⟩⟩
end WF

set_option Elab.async false
set_option linter.all false
set_option maxRecDepth 100000
set_option maxHeartbeats 1000000
/-! WOwnB: == of tuples whose items are compared by an own __eq__, whatever it answers -/
namespace WF
open PySem PySem.Spec PyProof.Rows L2 Evl
section
open PySem.SeqAt AutoSeq1 GQ
variable {prog : Program} {w : World} {A : Around} {R : Result → Shared → Prop}
/-- two tuples, item by item: es tells of the answers -/
theorem tuple_eqB (l b : Addr) (items items2 : Array Value) (n n2 : Nat) (dd dd2 : Option Addr) (sl sl2 : Array (Option Value)) (es : Nat → Bool) (I : Nat → Shared → Prop)
    (turn : ∀ i (h1 : i < items.size) (h2 : i < items2.size) s, I i s → wpAny (model prog w) A.in1 (eqBool items[i] items2[i]) (fun r s' => r = es i ∧ I (i + 1) s') (fun e s' => R (.error e) s') s)
    (no : ∀ i s, i < items.size → i < items2.size → es i = false → I (i + 1) s → R (.ok (.ret (.bool false))) s)
    (fin : ∀ s, (∀ i, i < items.size → i < items2.size → es i = true) → I (min items.size items2.size) s → R (.ok (.ret (.bool (items.size == items2.size)))) s) {s : Shared}
    (hl1 : s.heap.get? l = some { cls := .type "tuple", dict := dd, data := .seq items n, slots := sl }) (hb1 : s.heap.get? b = some { cls := .type "tuple", dict := dd2, data := .seq items2 n2, slots := sl2 }) (h : I 0 s) :
    wpAny (model prog w) A.in1 (Builtin.«tuple.__eq__» ⟨[.ref l, .ref b], []⟩) (FinOf prog w A R) (fun e s' => R (.error e) s') s := by
  have f2 := AutoSeq1.sub_tuple_tuple
  have hZ : (items.toList.zip items2.toList).length = min items.size items2.size := by simp
  have h0 := h
  obtain ⟨hp, g, d, tk, os⟩ := s
  wp_walk using wpAny_loadPart' hl1, wpAny_loadPart' hb1, wpAny_forIn_list _ (fun rest b s' => b.1 = none ∧ ∃ i, rest = (items.toList.zip items2.toList).drop i ∧ i ≤ min items.size items2.size ∧ (∀ j, j < i → es j = true) ∧ I i s') _
  case turn =>
    rintro ⟨y, x⟩ rest b s' ⟨hb', i, hz, hi, he, hI⟩
    have hlt : i < (items.toList.zip items2.toList).length := by
      rcases Nat.lt_or_ge i (items.toList.zip items2.toList).length with h' | h'
      · exact h'
      · rw [List.drop_of_length_le h'] at hz; cases hz
    have h1 : i < items.size := by omega
    have h2 : i < items2.size := by omega
    rw [List.drop_eq_getElem_cons hlt] at hz
    injection hz with hyx hrest
    have hy : y = items[i] := by have := congrArg Prod.fst hyx; simpa using this
    have hx : x = items2[i] := by have := congrArg Prod.snd hyx; simpa using this
    subst hy hx
    refine wpAny_bind (wpAny_mono (turn i h1 h2 s' hI) (fun r s2 q2 => ?_) fun _ _ x => x)
    obtain ⟨hr, q2⟩ := q2
    subst hr
    cases hes : es i with
    | true =>
      wp_walk
      exact ⟨rfl, i + 1, hrest, by omega, fun j hj => by
        rcases Nat.lt_or_ge j i with h | h
        · exact he j h
        · rw [show j = i by omega]; exact hes, q2⟩
    | false =>
      have hR := no i s2 h1 h2 hes q2
      wp_walk
      exact hR
  case fin =>
    rintro ⟨b1, b2⟩ s' ⟨hb', i, hz, hi, he, hI⟩
    simp only at hb'
    subst hb'
    have hge : min items.size items2.size ≤ i := by
      rcases Nat.lt_or_ge i (items.toList.zip items2.toList).length with h' | h'
      · rw [List.drop_eq_getElem_cons h'] at hz; cases hz
      · exact hZ ▸ h'
    have hi' : i = min items.size items2.size := by omega
    have hR := fin s' (fun j h1 h2 => he j (by omega)) (hi' ▸ hI)
    wp_walk
    exact hR
  case h =>
    exact ⟨rfl, 0, rfl, Nat.zero_le _, fun j hj => absurd hj (Nat.not_lt_zero _), h0⟩
end
section
variable {prog : Program} {w : World} {A : Around} {E : Value → Shared → Prop} {s : Shared}
open GQ in
theorem rc_tupB {l b : Addr} {items items2 : Array Value} {Q : Value → Shared → Prop} (es : Nat → Bool) (hu : A.units < cLine) (I : Nat → Shared → Prop)
    (hl : s.heap.IsTuple l items) (hb : s.heap.IsTuple b items2)
    (turn : ∀ i (h1 : i < items.size) (h2 : i < items2.size) s, I i s → wpAny (model prog w) A.in1 (eqBool items[i] items2[i]) (fun r s' => r = es i ∧ I (i + 1) s') E s)
    (no : ∀ i s, i < items.size → i < items2.size → es i = false → I (i + 1) s → Q (.bool false) s)
    (fin : ∀ s, (∀ i, i < items.size → i < items2.size → es i = true) → I (min items.size items2.size) s → Q (.bool (items.size == items2.size)) s) (h : I 0 s) : wpAny (model prog w) A (richCompare .Eq (.ref l) (.ref b)) Q E s := by
  obtain ⟨⟨cls, dd, data, sl⟩, ho, hc, n, hd⟩ := id hl
  obtain ⟨⟨cls2, dd2, data2, sl2⟩, ho2, hc2, n2, hd2⟩ := id hb
  simp only at hc hd hc2 hd2
  subst hc hd hc2 hd2
  refine wpAny_richCompare_same_room (op := .Eq) ⟨_, ho, rfl⟩ ⟨_, ho2, rfl⟩ F.slot_tuple_eq (call_here F.slot_tuple_eq ⟨_, ho, rfl⟩ F.entry_tuple_eq (F.args_tuple_eq_2 _ _) ?_) hu
  exact tuple_eqB (R := wants (fun v s' => v ≠ .notImplemented ∧ Q v s') E) l b items items2 n n2 dd dd2 sl sl2 es I turn (fun i s' g1 g2 g3 q => ⟨(fun x => nomatch x), no i s' g1 g2 g3 q⟩) (fun s' g q => ⟨(fun x => nomatch x), fin s' g q⟩) ho ho2 h
end
/-- how two values compare, as far as the own heap tells -/
abbrev EqvB := V → V → Bool → Hp → Prop
def MonB (D : EqvB) : Prop := ∀ x y b H H', Ex H H' → D x y b H → D x y b H'
/-- == answers what D says, and only makes objects -/
def EqBG (X : Cx) (n : Nat) (D : EqvB) : Prop :=
  ∀ (A : Around) (pins : List (Addr × Obj)) (s : Shared) (σ : L2.St) (H : Hp) (x y : V) (u v : Value) (b : Bool), L2.Sub X n A → Inv X pins σ H s → RelV x u → RelV y v → D x y b H →
    wpAny (model X.prog X.w) A (eqBool u v) (fun r s' => r = b ∧ ∃ H', Inv X pins σ H' s' ∧ Ex H H') X.xe s
def RcBG (X : Cx) (n : Nat) (D : EqvB) : Prop :=
  ∀ (A : Around) (pins : List (Addr × Obj)) (s : Shared) (σ : L2.St) (H : Hp) (x y : V) (u v : Value) (b : Bool), L2.Sub X n A → Inv X pins σ H s → RelV x u → RelV y v → D x y b H →
    wpAny (model X.prog X.w) A (richCompare .Eq u v) (fun r s' => r = .bool b ∧ ∃ H', Inv X pins σ H' s' ∧ Ex H H') X.xe s
section
variable {X : Cx} {n m : Nat} {D D' : EqvB}
theorem EqBG.mono (h : EqBG X n D) (hn : n ≤ m) : EqBG X m D := fun A pins s σ H x y u v b sb => h A pins s σ H x y u v b (sb.mono hn)
theorem EqBG.or (h : EqBG X n D) (h' : EqBG X n D') : EqBG X n (fun x y b H => D x y b H ∨ D' x y b H) := fun A pins s σ H x y u v b sb I rx ry d => by
  rcases d with d | d
  · exact h A pins s σ H x y u v b sb I rx ry d
  · exact h' A pins s σ H x y u v b sb I rx ry d
theorem MonB.or (h : MonB D) (h' : MonB D') : MonB (fun x y b H => D x y b H ∨ D' x y b H) := fun x y b H H' e d => d.elim (fun d => .inl (h x y b H H' e d)) fun d => .inr (h' x y b H H' e d)
def DFlatB : EqvB := fun x y b _ => flatV x = true ∧ flatV y = true ∧ eqV x y = b
theorem monB_flat : MonB DFlatB := fun _ _ _ _ _ _ d => d
theorem eqBG_flat : EqBG X 0 DFlatB := by
  intro A pins s σ H x y u v b sb I rx ry d
  obtain ⟨fx, fy, e⟩ := d
  have q := eqAt_V (A := A) (s := s) rx ry fx fy
  rw [e] at q
  exact q X.prog X.w X.xe _ ⟨rfl, H, I, Ex.refl H⟩
/-- two tuples: es tells of the answers of their items -/
def DTupB (K : PySem.W.Frag) (D : EqvB) : EqvB := fun x y b H => ∃ (p q : Addr) (xs ys : List V) (es : Nat → Bool), x = .ref p ∧ y = .ref q ∧ SqT K H p xs ∧ SqT K H q ys ∧ (∀ i x y, xs[i]? = some x → ys[i]? = some y → D x y (es i) H) ∧
  (b = true ↔ xs.length = ys.length ∧ ∀ i, i < xs.length → i < ys.length → es i = true)
theorem monB_tup {K : PySem.W.Frag} (hD : MonB D) : MonB (DTupB K D) := fun x y b H H' e ⟨p, q, xs, ys, es, h1, h2, h3, h4, h5, h6⟩ => ⟨p, q, xs, ys, es, h1, h2, ex_t e h3, ex_t e h4, fun i x y g1 g2 => hD _ _ _ _ _ e (h5 i x y g1 g2), h6⟩
theorem rcBG_tup (hD : MonB D) (h : EqBG X n D) : RcBG X (n + 1) (DTupB X.K D) := by
  intro A pins s σ H x y u v b sb I rx ry d
  obtain ⟨p, q, xs, ys, es, rfl, rfl, hp, hq, hi, hb⟩ := d
  cases rx
  cases ry
  obtain ⟨its, r, e, z⟩ := I.tuple hp
  obtain ⟨its2, r2, e2, z2⟩ := I.tuple hq
  have l1 : its.toArray.size = xs.length := by rw [List.size_toArray, ← r.length]
  have l2 : its2.toArray.size = ys.length := by rw [List.size_toArray, ← r2.length]
  refine rc_tupB es sb.room.units0 (fun _ s' => ∃ H', Inv X pins σ H' s' ∧ Ex H H') e e2 (fun i h1 h2 s' l => ?_) (fun i s' g1 g2 g3 ⟨H', I', e'⟩ => ⟨?_, H', I', e'⟩) (fun s' g ⟨H', I', e'⟩ => ⟨?_, H', I', e'⟩) ⟨H, I, Ex.refl H⟩
  · obtain ⟨H1, I1, e1⟩ := l
    have g1 : its[i]? = some its.toArray[i] := by
      have h1' : i < its.length := by simpa using h1
      rw [List.getElem?_eq_getElem h1'] <;> simp
    have g2 : its2[i]? = some its2.toArray[i] := by
      have h2' : i < its2.length := by simpa using h2
      rw [List.getElem?_eq_getElem h2'] <;> simp
    have k1 : i < xs.length := by omega
    have k2 : i < ys.length := by omega
    obtain ⟨u, hu, ru⟩ := r.get (List.getElem?_eq_getElem k1)
    obtain ⟨v, hv, rv⟩ := r2.get (List.getElem?_eq_getElem k2)
    rw [g1] at hu
    rw [g2] at hv
    rw [Option.some.inj hu, Option.some.inj hv]
    refine wpAny_mono (h A.in1 pins s' σ H1 _ _ u v _ sb.in1 I1 ru rv (hD _ _ _ _ _ e1 (hi i _ _ (List.getElem?_eq_getElem k1) (List.getElem?_eq_getElem k2)))) (fun r s2 q => ?_) fun _ _ x => x
    obtain ⟨hr, H2, I2, e2⟩ := q
    exact ⟨hr, H2, I2, e1.trans e2⟩
  · have hf : b = false := by
      cases hbb : b with
      | false => rfl
      | true =>
        have := (hb.mp hbb).2 i (by omega) (by omega)
        rw [g3] at this
        cases this
    rw [hf]
  · congr 1
    rw [Bool.eq_iff_iff, hb, beq_iff_eq, l1, l2]
    exact ⟨fun h => ⟨h, fun i g1 g2 => g i (by omega) (by omega)⟩, fun h => h.1⟩
/-- what is compared with itself is equal -/
def ReflB (X : Cx) (D : EqvB) : Prop := ∀ (x : V) (b : Bool) (pins : List (Addr × Obj)) (σ : L2.St) (H : Hp) (s : Shared), Inv X pins σ H s → D x x b H → b = true
theorem ReflB.or (h : ReflB X D) (h' : ReflB X D') : ReflB X (fun x y b H => D x y b H ∨ D' x y b H) := fun x b pins σ H s I d => d.elim (h x b pins σ H s I) (h' x b pins σ H s I)
theorem reflB_flat : ReflB X DFlatB := fun x b _ _ _ _ _ ⟨h1, _, h3⟩ => by
  rw [← h3]
  cases x with
  | bl a => exact beq_self_eq_true a
  | int a => exact beq_self_eq_true a
  | str a => exact beq_self_eq_true a
  | non => rfl
  | _ => cases h1
theorem sqt_uniq {pins : List (Addr × Obj)} {σ : L2.St} {H : Hp} {s : Shared} {a : Addr} {xs ys : List V} (I : Inv X pins σ H s) (h1 : SqT X.K H a xs) (h2 : SqT X.K H a ys) : xs = ys := I.tuple_inj h1 h2
theorem reflB_tup (h : ReflB X D) : ReflB X (DTupB X.K D) := fun x b pins σ H s I ⟨p, q, xs, ys, es, h1, h2, h3, h4, h5, h6⟩ => by
  rw [h1] at h2
  cases h2
  have e := sqt_uniq I h3 h4
  subst e
  refine h6.mpr ⟨rfl, fun i g1 g2 => ?_⟩
  exact h _ _ pins σ H s I (h5 i _ _ (List.getElem?_eq_getElem g1) (List.getElem?_eq_getElem g1))
/-- from a rich comparison to == within a tuple: one object is equal to itself -/
theorem RcBG.eqG (h : RcBG X n D) (hr : ∀ x y b H, D x y b H → ∃ p q, x = .ref p ∧ y = .ref q) (hs : ReflB X D) : EqBG X n D := by
  intro A pins s σ H x y u v b sb I rx ry d
  obtain ⟨p, q, rfl, rfl⟩ := hr _ _ _ _ d
  cases rx
  cases ry
  by_cases hab : p = q
  · subst hab
    rw [hs _ _ _ _ _ _ I d]
    exact SeqAt.EqAt.same (A := A) (s := s) (.ref p) X.prog X.w X.xe _ ⟨rfl, H, I, Ex.refl H⟩
  · refine GQ.eqBool_refG hab (wpAny_mono (h A pins s σ H (.ref p) (.ref q) _ _ b sb I rfl rfl d) (fun r s' q => ?_) fun _ _ x => x)
    obtain ⟨hr', q⟩ := q
    exact ⟨b, hr', rfl, q⟩
theorem rl_uniq {pins : List (Addr × Obj)} {σ : L2.St} {H : Hp} {s : Shared} (I : Inv X pins σ H s) {v : V} {r : Rl} (h : RlAt X.K H v r) : ∀ {t : Rl}, RlAt X.K H v t → r = t := by
  induction h with
  | wk h =>
    intro t g
    cases g with
    | wk g => have := sqt_uniq I h g; injection this with _ this; injection this with this; injection this with this; rw [this]
    | fs g => exact absurd (sqt_uniq I h g) (fun z => by injection z with z; exact absurd (V.str.inj z) (by decide +kernel))
    | md g => exact absurd (sqt_uniq I h g) (fun z => by injection z with z; exact absurd (V.str.inj z) (by decide +kernel))
    | _ g => exact absurd (congrArg List.length (sqt_uniq I h g)) (by simp)
  | fs h =>
    intro t g
    cases g with
    | fs g => have := sqt_uniq I h g; injection this with _ this; injection this with this; injection this with this; rw [this]
    | wk g => exact absurd (sqt_uniq I h g) (fun z => by injection z with z; exact absurd (V.str.inj z) (by decide +kernel))
    | md g => exact absurd (sqt_uniq I h g) (fun z => by injection z with z; exact absurd (V.str.inj z) (by decide +kernel))
    | _ g => exact absurd (congrArg List.length (sqt_uniq I h g)) (by simp)
  | md h =>
    intro t g
    cases g with
    | md g => have := sqt_uniq I h g; injection this with _ this; injection this with this; injection this with this; rw [this]
    | fs g => exact absurd (sqt_uniq I h g) (fun z => by injection z with z; exact absurd (V.str.inj z) (by decide +kernel))
    | wk g => exact absurd (sqt_uniq I h g) (fun z => by injection z with z; exact absurd (V.str.inj z) (by decide +kernel))
    | _ g => exact absurd (congrArg List.length (sqt_uniq I h g)) (by simp)
  | bh h _ ih =>
    intro t g
    cases g with
    | bh g g1 =>
      have := sqt_uniq I h g
      injection this with _ this
      injection this with e1 this
      injection this with this
      injection this with this
      subst e1
      rw [ih g1, this]
    | wk g | fs g | md g => exact absurd (congrArg List.length (sqt_uniq I h g)) (by simp)
    | _ g => exact absurd (sqt_uniq I h g) (fun z => by injection z with z; exact absurd (V.str.inj z) (by decide +kernel))
  | bo h _ _ i1 i2 =>
    intro t g
    cases g with
    | bo g g1 g2 =>
      have := sqt_uniq I h g
      injection this with _ this
      injection this with e1 this
      injection this with e2 this
      subst e1 e2
      rw [i1 g1, i2 g2]
    | wk g | fs g | md g => exact absurd (congrArg List.length (sqt_uniq I h g)) (by simp)
    | _ g => exact absurd (sqt_uniq I h g) (fun z => by injection z with z; exact absurd (V.str.inj z) (by decide +kernel))
  | ei h _ _ i1 i2 =>
    intro t g
    cases g with
    | ei g g1 g2 =>
      have := sqt_uniq I h g
      injection this with _ this
      injection this with e1 this
      injection this with e2 this
      subst e1 e2
      rw [i1 g1, i2 g2]
    | wk g | fs g | md g => exact absurd (congrArg List.length (sqt_uniq I h g)) (by simp)
    | _ g => exact absurd (sqt_uniq I h g) (fun z => by injection z with z; exact absurd (V.str.inj z) (by decide +kernel))
  | wo h _ _ i1 i2 =>
    intro t g
    cases g with
    | wo g g1 g2 =>
      have := sqt_uniq I h g
      injection this with _ this
      injection this with e1 this
      injection this with e2 this
      subst e1 e2
      rw [i1 g1, i2 g2]
    | wk g | fs g | md g => exact absurd (congrArg List.length (sqt_uniq I h g)) (by simp)
    | _ g => exact absurd (sqt_uniq I h g) (fun z => by injection z with z; exact absurd (V.str.inj z) (by decide +kernel))
/-- two objects of a class, by its own __eq__, which answers what R says -/
def DInsB (C : Addr) (R : Addr → Addr → Bool → Hp → Prop) : EqvB := fun x y b H => ∃ p q dx dy fs gs, x = .ref p ∧ y = .ref q ∧ H p = some (.ins C dx fs) ∧ H q = some (.ins C dy gs) ∧ R p q b H
theorem monB_ins {C : Addr} {R : Addr → Addr → Bool → Hp → Prop} (hR : ∀ p q b H H', Ex H H' → R p q b H → R p q b H') : MonB (DInsB C R) := fun x y b H H' e ⟨p, q, dx, dy, fs, gs, hx, hy, h1, h2, r⟩ => ⟨p, q, dx, dy, fs, gs, hx, hy, e _ _ h1, e _ _ h2, hR p q b H H' e r⟩
theorem rcBG_ins {CX : CXT} {C : Addr} {ps : List Str} {sp : Sp} {R : Addr → Addr → Bool → Hp → Prop} {E : XK} (M : Mtn X.prog X.w X.K X.mg X.base CX C "__eq__" n ps sp) (hx : Passes CX X E)
    (hsp : ∀ p q b H Q, R p q b H → (∀ H', Ex H H' → Q (.bl b) H') → sp [.ref p, .ref q] H Q E) : RcBG X n (DInsB C R) := by
  intro A pins s σ H x y u v b sb I rx ry d
  obtain ⟨f, fd, hM, hk, F, hb⟩ := M.ex
  obtain ⟨p, q, dx, dy, fs, gs, rfl, rfl, hp, hq, hr⟩ := d
  cases rx
  cases ry
  obtain ⟨mA, J, _⟩ := ins_get I.hok hp
  obtain ⟨mB, J', _⟩ := ins_get I.hok hq
  obtain ⟨od, J, _⟩ := J.look
  obtain ⟨od', J', _⟩ := J'.look
  obtain ⟨m, hF⟩ := I.fr
  refine PySem.W.cmp_K (op := .Eq) (tb := .ref C) sb.room.units0 hF I.ok.mod.kin J J'.type (by simp [PySem.W.notFirst]) hM.at_ hM.fn ?_
  have hS : sp [.ref p, .ref q] H (fun v H' => v = .bl b ∧ Ex H H') E := hsp p q b H _ hr fun H' e => ⟨rfl, e⟩
  have e0 : Env0 X.prog X.w X.K X.mg X.base A X.stack s H := by
    have e := I.env0
    exact ⟨by rw [sb.fr]; exact e.frames, e.mod, e.bs, e.bsz, e.funs, e.frf, e.hok, e.bare⟩
  have hl := F.len _ _ _ _ hS
  have r2 : Vals [V.ref p, V.ref q] [Value.ref p, Value.ref q] := .cons rfl (.cons rfl .nil)
  refine wpAny_call (codeAny_mono (F.run A X.stack s H ⟨[.ref p, .ref q], []⟩ [.ref p, .ref q] [.ref p, .ref q] _ E sb.room e0 (by
    have := hb s [.ref p, .ref q] I.kIn (by simpa using hl)
    simpa using this) r2 hS) fun r s' hq => ?_)
  cases r with
  | error e => exact hx pins σ H s e s' I hq
  | ok fl =>
    cases fl with
    | ret w =>
      obtain ⟨z, H', I', rz, ez, ex⟩ := I.after hq
      subst ez
      cases rz
      exact ⟨rfl, H', I', ex⟩
    | next => exact False.elim hq
    | brk => exact False.elim hq
    | cont => exact False.elim hq
/-- x == y as an expression -/
def rEqB (D : EqvB) : R2 := fun x y H Q => ∃ b, D x y b H ∧ ∀ H', Ex H H' → Q (.bl b) H'
theorem op_eqB (h : RcBG X n D) (hr : Room n X.A) : OpR X (compareOp .Eq) (rEqB D) := by
  intro pins s σ H x y v u Q I rx ry hq
  obtain ⟨b, d, q⟩ := hq
  show wpAny (model X.prog X.w) X.A (richCompare .Eq v u) (EP X pins σ Q) X.xe s
  refine wpAny_mono (h X.A pins s σ H x y v u b ⟨hr, rfl⟩ I rx ry d) (fun r s' z => ?_) fun _ _ x => x
  obtain ⟨hr', H', I', e⟩ := z
  subst hr'
  exact ⟨.bl b, H', I', rfl, q H' e⟩
theorem rv_eqB {x y : V} {b : Bool} {H : Hp} (hm : MonB D) (h : D x y b H) : RV (rEqB D) x y H (.bl b) := fun H1 e Q q => ⟨b, hm _ _ _ _ _ e h, fun H' e' => q H' e'⟩
/-! the rows of calendars -/
/-- two feasts -/
def DFst (K : PySem.W.Frag) (CF : Addr) : EqvB := DInsB CF fun p q b H => ∃ r t, FeastAt K CF H p r ∧ FeastAt K CF H q t ∧ r.dep ≤ 50 ∧ t.dep ≤ 50 ∧ b = PyData.eqv (dRl r) (dRl t)
theorem monB_fst {K : PySem.W.Frag} {CF : Addr} : MonB (DFst K CF) := monB_ins fun p q b H H' e ⟨r, t, h1, h2, h3⟩ => ⟨r, t, h1.mono e, h2.mono e, h3⟩
theorem reflB_fst {CF : Addr} : ReflB X (DFst X.K CF) := fun x b pins σ H s I ⟨p, q, dx, dy, fs, gs, h1, h2, _, _, r, t, ⟨_, v, g1, g2⟩, ⟨_, v', g3, g4⟩, _, _, h⟩ => by
  rw [h1] at h2
  cases h2
  rw [g1] at g3
  have e : feastF v r.bys = feastF v' t.bys := by
    injection g3 with g3
    injection g3
  have e2 : v = v' := by
    have := congrArg (fun l => l.lookup ("told" : Str)) e
    simp only [feastF_told] at this
    exact Option.some.inj this
  subst e2
  rw [h, rl_uniq I g2 g4]
  exact dRl_self t
/-- two rows; two tuples of rows -/
def DRow (K : PySem.W.Frag) (CF : Addr) : EqvB := DTupB K fun x y b H => DFst K CF x y b H ∨ DFlatB x y b H
def DRows (K : PySem.W.Frag) (CF : Addr) : EqvB := DTupB K (DRow K CF)
theorem monB_row {K : PySem.W.Frag} {CF : Addr} : MonB (DRow K CF) := monB_tup (monB_fst.or monB_flat)
theorem monB_rows {K : PySem.W.Frag} {CF : Addr} : MonB (DRows K CF) := monB_tup monB_row
theorem rcB_rows {CF : Addr} (h : RcBG X n (DFst X.K CF)) : RcBG X (n + 2) (DRows X.K CF) := by
  have h1 : EqBG X n (DFst X.K CF) := h.eqG (fun _ _ _ _ ⟨p, q, _, _, _, _, hx, hy, _⟩ => ⟨p, q, hx, hy⟩) reflB_fst
  have h2 : EqBG X (n + 1) (DRow X.K CF) := (rcBG_tup (monB_fst.or monB_flat) (h1.or (eqBG_flat.mono (Nat.zero_le n)))).eqG (fun _ _ _ _ ⟨p, q, _, _, _, hx, hy, _⟩ => ⟨p, q, hx, hy⟩) (reflB_tup (reflB_fst.or reflB_flat))
  exact rcBG_tup monB_row h2
def eqRowB (r t : Rl × Bool) : Bool := PyData.eqv (dRl r.1) (dRl t.1) && (r.2 == t.2)
def eqRows : Rows → Rows → Bool
  | [], [] => true
  | r :: a, t :: b => eqRowB r t && eqRows a b
  | _, _ => false
theorem eqRows_iff : ∀ {a b : Rows} (d : Rl × Bool), eqRows a b = true ↔ a.length = b.length ∧ ∀ i, i < a.length → i < b.length → eqRowB (a.getD i d) (b.getD i d) = true
  | [], [], d => by simp [eqRows]
  | [], _ :: _, d => by simp [eqRows]
  | _ :: _, [], d => by simp [eqRows]
  | r :: a, t :: b, d => by
    have ih := eqRows_iff (a := a) (b := b) d
    show (eqRowB r t && eqRows a b) = true ↔ _
    rw [Bool.and_eq_true, ih]
    constructor
    · rintro ⟨h1, h2, h3⟩
      refine ⟨by rw [List.length_cons, List.length_cons, h2], fun i g1 g2 => ?_⟩
      cases i with
      | zero => exact h1
      | succ i => exact h3 i (by simpa using g1) (by simpa using g2)
    · rintro ⟨h1, h2⟩
      refine ⟨h2 0 (by simp) (by simp), by simpa using h1, fun i g1 g2 => ?_⟩
      exact h2 (i + 1) (by simpa using g1) (by simpa using g2)
theorem row_eqB {K : PySem.W.Frag} {CF : Addr} {H : Hp} {x y : V} {r t : Rl × Bool} (h1 : RowAt K CF H x r) (h2 : RowAt K CF H y t) (d1 : r.1.dep ≤ 50) (d2 : t.1.dep ≤ 50) : DRow K CF x y (eqRowB r t) H := by
  obtain ⟨p, q, rfl, hp, hq⟩ := h1
  obtain ⟨p', q', rfl, hp', hq'⟩ := h2
  refine ⟨p, p', _, _, fun i => if i = 0 then PyData.eqv (dRl r.1) (dRl t.1) else (r.2 == t.2), rfl, rfl, hp, hp', fun i x y g1 g2 => ?_, ?_⟩
  · match i, g1, g2 with
    | 0, g1, g2 =>
      cases g1
      cases g2
      obtain ⟨dx, v, ho, hv⟩ := id hq
      obtain ⟨dy, v', ho', hv'⟩ := id hq'
      exact .inl ⟨q, q', dx, dy, _, _, rfl, rfl, ho, ho', r.1, t.1, hq, hq', d1, d2, rfl⟩
    | 1, g1, g2 =>
      cases g1
      cases g2
      exact .inr ⟨rfl, rfl, rfl⟩
    | n + 2, g1, g2 => simp at g1
  · unfold eqRowB
    rw [Bool.and_eq_true]
    constructor
    · rintro ⟨a, b⟩
      refine ⟨rfl, fun i g1 g2 => ?_⟩
      match i, g1 with
      | 0, _ => exact a
      | 1, _ => exact b
      | n + 2, g1 => exact absurd g1 (by simp)
    · rintro ⟨_, b⟩
      exact ⟨b 0 (by simp) (by simp), b 1 (by simp) (by simp)⟩
theorem rows_eqB {K : PySem.W.Frag} {CF : Addr} {H : Hp} {x y : V} {a b : Rows} (h1 : RowsAt K CF H x a) (h2 : RowsAt K CF H y b) (d1 : ∀ r ∈ a, r.1.dep ≤ 50) (d2 : ∀ r ∈ b, r.1.dep ≤ 50) : DRows K CF x y (eqRows a b) H := by
  obtain ⟨p, xs, rfl, hp, hx⟩ := h1
  obtain ⟨q, ys, rfl, hq, hy⟩ := h2
  have l1 := hx.len
  have l2 := hy.len
  refine ⟨p, q, xs, ys, fun i => eqRowB (a.getD i (.wk 0, false)) (b.getD i (.wk 0, false)), rfl, rfl, hp, hq, fun i x y g1 g2 => ?_, ?_⟩
  · obtain ⟨r, hr, hrow⟩ := hx.get g1
    obtain ⟨t, ht, trow⟩ := hy.get g2
    have e1 : a.getD i (.wk 0, false) = r := by rw [List.getD_eq_getElem?_getD, hr]; rfl
    have e2 : b.getD i (.wk 0, false) = t := by rw [List.getD_eq_getElem?_getD, ht]; rfl
    show DRow K CF x y (eqRowB (a.getD i (.wk 0, false)) (b.getD i (.wk 0, false))) H
    rw [e1, e2]
    exact row_eqB hrow trow (d1 r (List.mem_of_getElem? hr)) (d2 t (List.mem_of_getElem? ht))
  · rw [eqRows_iff (.wk 0, false), l1, l2]
theorem eqRows_self : ∀ a : Rows, eqRows a a = true
  | [] => rfl
  | r :: a => by
    show (eqRowB r r && eqRows a a) = true
    unfold eqRowB
    rw [dRl_self, eqRows_self a]
    simp
def dRows (a : Rows) : PyData := .list (a.map fun r => .tuple [dRl r.1, .bool r.2])
theorem dRows_eqv : ∀ a b : Rows, PyData.eqv (dRows a) (dRows b) = eqRows a b
  | [], [] => by simp [dRows, PyData.eqv, PyData.eqvAll, eqRows]
  | [], _ :: _ => by simp [dRows, PyData.eqv, PyData.eqvAll, eqRows]
  | _ :: _, [] => by simp [dRows, PyData.eqv, PyData.eqvAll, eqRows]
  | r :: a, t :: b => by
    have ih := dRows_eqv a b
    unfold dRows PyData.eqv at ih ⊢
    simp only [List.map_cons, PyData.eqvAll, eqRows, ih]
    simp [PyData.eqv, PyData.eqvAll, eqRowB]
end
end WF

set_option Elab.async false
set_option linter.all false
set_option maxRecDepth 100000
set_option maxHeartbeats 1000000
/-! WText: list(a written dict); xs.extend(a written tuple); words and lines of rules -/
namespace WF
open PySem PySem.Spec PyProof.Rows L2 Evl TL
/-- the entries' keys are these texts -/
def KeysAre : List DictEntry → List Str → Prop
  | [], [] => True
  | e :: r, k :: ks => (∃ t, e.key = .str k t) ∧ KeysAre r ks
  | _, _ => False
theorem keys_len : ∀ {es : List DictEntry} {ks : List Str}, KeysAre es ks → es.length = ks.length
  | [], [], _ => rfl
  | _ :: _, _ :: _, h => congrArg (· + 1) (keys_len h.2)
  | [], _ :: _, h => h.elim
  | _ :: _, [], h => h.elim
theorem keys_pairs {P : Program} {w : World} : ∀ {es : List DictEntry} {ks : List Str}, KeysAre es ks → Pairs (PySem.strKind P w) es (ks.zip (es.map (·.val)))
  | [], [], _ => .nil
  | e :: es, k :: ks, ⟨⟨t, h⟩, r⟩ => .cons (by rw [h]; exact PySem.strKind_is P w k t) rfl (keys_pairs r)
  | [], _ :: _, h => h.elim
  | _ :: _, [], h => h.elim
section
variable {X : Cx} {d : Addr} {es : Array DictEntry} {n : Nat} {ks : List Str}
theorem kd_dictAt {h : Heap} (Y : X.K.In h) (D : KDict X.K X.w d es n) (hk : KeysAre es.toList ks) (nd : ks.Nodup) : h.DictAt (PySem.strKind X.prog X.w) d (ks.zip (es.toList.map (·.val))) n := by
  obtain ⟨o, es', ep, ho, hx, hd, hkeys, _⟩ := PySem.W.mapOf_K (prog := X.prog) Y D.at_ D.lit
  have h0 := Y _ _ D.at_
  rw [h0] at ho
  cases ho
  cases hd
  refine ⟨_, es, h0, hx, rfl, hkeys, keys_pairs hk, ?_⟩
  rw [List.map_fst_zip (by rw [List.length_map, keys_len hk]; exact Nat.le_refl _)]
  exact nd
/-- list(a dict of the module) -/
def rListK (d : Addr) (ks : List Str) : List V → Hp → VK → Prop := fun xs H Q => xs = [.ref d] ∧ ∀ q, H q = none → Q (.ref q) (upd H q (.lst (ks.map V.str)))
theorem call_list_kd (hc : X.calm = true) (D : KDict X.K X.w d es n) (hk : KeysAre es.toList ks) (nd : ks.Nodup) (hz : ks.length ≤ 1000) : CallR X (.type "list") (rListK d ks) := by
  intro pins s σ H xs us Q I r h
  obtain ⟨e, q⟩ := h
  subst e
  obtain ⟨u, eu, rx⟩ := vals1 r
  subst eu
  obtain rfl : u = Value.ref d := rx
  have hl : (ks.zip (es.toList.map (·.val))).length = ks.length := by rw [List.length_zip, List.length_map, keys_len hk, Nat.min_self]
  have hz' : ks.length ≤ sizeLine := Nat.le_trans hz (by decide)
  refine PySem.W.kdl_call (PySem.W.kdl_dict (knd := PySem.strKind X.prog X.w) (kvs := ks.zip (es.toList.map (·.val))) (ep := n) D.low) (I.ok.hd hc) (kd_dictAt I.kIn D hk nd) (by rw [hl]; exact hz') fun h' tk acc' c' hkeep hS hacc => ?_
  refine ⟨.ref s.heap.objs.size, upd H s.heap.objs.size (.lst (ks.map V.str)), I.laid hkeep (Nat.le_refl _) (show ObjOk X.prog X.w _ _ _ (.lst (ks.map V.str)) from ⟨?_, acc'.toList, c', ?_, ?_⟩), rfl, q _ (I.hok.fresh (Nat.le_refl _))⟩
  · rw [List.length_map]; exact hz'
  · have el : acc'.toList.length = acc'.size := by simp
    refine vals_of_at (by rw [List.length_map, el, hacc.1, hl]) fun j x w h1 h2 => ?_
    obtain ⟨k, y, hky, hi⟩ := hacc.2 j w (by rw [← Array.getElem?_toList]; exact h2)
    have e1 : ks[j]? = some k := by
      rw [List.getElem?_zip_eq_some] at hky
      exact hky.1
    rw [List.getElem?_map, e1] at h1
    cases h1
    obtain ⟨t, rfl⟩ := Value.isStrOf_shape hi
    exact ⟨t, rfl⟩
  · rw [Array.toArray_toList]; exact hS
end
/-- a tuple of the module, as it stands -/
def KTupX (K : PySem.W.Frag) (a : Addr) (xs : List V) : Prop := ∃ (its : Array Value) (n : Nat), K.lookup a = some ⟨.type "tuple", none, .seq its n, #[]⟩ ∧ Vals xs its.toList
def rExtK (b : Addr) (zs : List V) : V → List V → Hp → VK → Prop := fun x vs H Q => ∃ l xs, x = .ref l ∧ vs = [.ref b] ∧ H l = some (.lst xs) ∧ xs.length + zs.length ≤ 1000 ∧ Q .non (upd H l (.lst (xs ++ zs)))
theorem mt_extendK {X : Cx} {b : Addr} {zs : List V} (hK : KTupX X.K b zs) : MtM X "list.extend" (rExtK b zs) := by
  intro pins s σ H x vs v us Q I rx rv h
  obtain ⟨l, xs, rfl, rfl, hH, hz, q⟩ := h
  obtain ⟨its2, n2, e2', r2⟩ := hK
  have e2 := I.kIn _ _ e2'
  cases rx
  obtain ⟨u, rfl, ru⟩ := rv.one
  cases ru
  obtain ⟨z, its, n, r, hl, e⟩ := I.lstM hH
  have hl2 : zs.length = its2.size := by rw [r2.length]; simp
  have hsz : its.toArray.size + its2.size ≤ sizeLine := by
    rw [List.size_toArray]
    exact Nat.le_trans (by omega) (show 1000 ≤ sizeLine by decide)
  have hlong : ¬ (!its.toArray.isEmpty && Builtin.List.listTooLong (its.toArray.size + its2.size)) = true := by
    rw [notLongL hsz, Bool.and_false]
    exact Bool.false_ne_true
  refine call_meets F.slot_list_extend ⟨_, e, rfl⟩ F.entry_list_extend (F.args_list_extend_2 _ _)
    (AutoSeq1.list_extend_list_tuple_0 l its.toArray n b its2 n2 hlong (by rw [List.size_toArray]; exact Nat.le_trans (by omega) (show 1000 ≤ sizeLine by decide)) (by omega)) ⟨e, e2, ?_⟩
  refine ⟨.non, _, I.lset (its' := its ++ its2.toList) hH e (by simp) (r.append r2) ?_, rfl, q⟩
  rw [List.length_append]
  exact Nat.le_trans hz (by decide)
/-! words of rules -/
def numS (i : Int) : Str := Str.ofString (toString i)
def wordsR : Rl → List Str
  | .wk k => ["weekday", numS k]
  | .fs k => ["first", numS k]
  | .md k => ["monthday", numS k]
  | .bh r b => "behind" :: numS b :: wordsR r
  | .bo x y => "both" :: (wordsR x ++ wordsR y)
  | .ei x y => "either" :: (wordsR x ++ wordsR y)
  | .wo x y => "without" :: (wordsR x ++ wordsR y)
def beginS (y : Bool) : Str := if y then "yields" else "plain"
def lineS (r : Rl × Bool) : Str := Txt.join " " (beginS r.2 :: wordsR r.1)
def textS (rows : Rows) : Str := Txt.join "" (rows.map fun r => lineS r ++ "\n")
theorem words_len : ∀ r : Rl, (wordsR r).length ≤ 2 * r.parts
  | .wk _ | .fs _ | .md _ => Nat.le_refl _
  | .bh r b => by
    have := words_len r
    simp only [wordsR, Rl.parts, List.length_append, List.length_cons, List.length_nil]
    omega
  | .bo x y | .ei x y | .wo x y => by
    have := words_len x
    have := words_len y
    simp only [wordsR, Rl.parts, List.length_append, List.length_cons, List.length_nil]
    omega
/-! signs of words -/
theorem num_cases {k : Int} (h : -3 ≤ k ∧ k ≤ 2) : k = -3 ∨ k = -2 ∨ k = -1 ∨ k = 0 ∨ k = 1 ∨ k = 2 := by omega
def WordOk (x : Str) : Prop := x.length ≤ 10 ∧ 32 ∉ tl x ∧ 10 ∉ tl x
instance (x : Str) : Decidable (WordOk x) := inferInstanceAs (Decidable (_ ∧ _ ∧ _))
theorem num_ok {k : Int} (h : -3 ≤ k ∧ k ≤ 2) : WordOk (numS k) := by
  rcases num_cases h with rfl | rfl | rfl | rfl | rfl | rfl <;> decide +kernel
theorem int_numS {k : Int} (h : -3 ≤ k ∧ k ≤ 2) : PySem.intText? (numS k) = some k := by
  rcases num_cases h with rfl | rfl | rfl | rfl | rfl | rfl <;> decide +kernel
theorem words_ok : ∀ r : Rl, r.fit = true → ∀ x ∈ wordsR r, WordOk x
  | .wk k, hf, x, hx => by
    have hk := of_decide_eq_true hf
    simp only [wordsR, List.mem_cons, List.not_mem_nil, or_false] at hx
    rcases hx with rfl | rfl
    · decide +kernel
    · exact num_ok (by omega)
  | .fs k, hf, x, hx => by
    have hk := of_decide_eq_true hf
    simp only [wordsR, List.mem_cons, List.not_mem_nil, or_false] at hx
    rcases hx with rfl | rfl
    · decide +kernel
    · exact num_ok (by omega)
  | .md k, hf, x, hx => by
    have hk := of_decide_eq_true hf
    simp only [wordsR, List.mem_cons, List.not_mem_nil, or_false] at hx
    rcases hx with rfl | rfl
    · decide +kernel
    · exact num_ok (by omega)
  | .bh r b, hf, x, hx => by
    simp only [Rl.fit, Bool.and_eq_true] at hf
    have hb := of_decide_eq_true hf.1
    simp only [wordsR, List.mem_cons] at hx
    rcases hx with rfl | rfl | hx
    · decide +kernel
    · exact num_ok (by omega)
    · exact words_ok r hf.2 x hx
  | .bo a b, hf, x, hx => by
    simp only [Rl.fit, Bool.and_eq_true] at hf
    simp only [wordsR, List.mem_cons, List.mem_append] at hx
    rcases hx with rfl | hx | hx
    · decide +kernel
    · exact words_ok a hf.1 x hx
    · exact words_ok b hf.2 x hx
  | .ei a b, hf, x, hx => by
    simp only [Rl.fit, Bool.and_eq_true] at hf
    simp only [wordsR, List.mem_cons, List.mem_append] at hx
    rcases hx with rfl | hx | hx
    · decide +kernel
    · exact words_ok a hf.1 x hx
    · exact words_ok b hf.2 x hx
  | .wo a b, hf, x, hx => by
    simp only [Rl.fit, Bool.and_eq_true] at hf
    simp only [wordsR, List.mem_cons, List.mem_append] at hx
    rcases hx with rfl | hx | hx
    · decide +kernel
    · exact words_ok a hf.1 x hx
    · exact words_ok b hf.2 x hx
theorem begin_ok (y : Bool) : WordOk (beginS y) := by cases y <;> decide +kernel
theorem joinL_len (S : List Nat) : ∀ ps : List (List Nat), (joinL S ps).length ≤ (ps.map (·.length)).sum + ps.length * S.length
  | [] => Nat.zero_le _
  | [p] => by simp [joinL]
  | p :: q :: r => by
    have ih := joinL_len S (q :: r)
    simp only [joinL, List.length_append, List.map_cons, List.sum_cons, List.length_cons, Nat.add_mul, Nat.one_mul] at ih ⊢
    omega
theorem joinL_mem {S : List Nat} {c : Nat} : ∀ {ps : List (List Nat)}, c ∈ joinL S ps → c ∈ S ∨ ∃ p ∈ ps, c ∈ p
  | [], h => by cases h
  | [p], h => .inr ⟨p, List.mem_cons_self, h⟩
  | p :: q :: r, h => by
    have h : c ∈ p ++ (S ++ joinL S (q :: r)) := h
    rcases List.mem_append.mp h with h | h
    · exact .inr ⟨p, List.mem_cons_self, h⟩
    · rcases List.mem_append.mp h with h | h
      · exact .inl h
      · rcases joinL_mem h with h | ⟨z, hz, h⟩
        · exact .inl h
        · exact .inr ⟨z, List.mem_cons_of_mem _ hz, h⟩
theorem sum_le {ls : List Nat} {n : Nat} (h : ∀ x ∈ ls, x ≤ n) : ls.sum ≤ ls.length * n := by
  induction ls with
  | nil => exact Nat.zero_le _
  | cons a ls ih =>
    have h1 := h a List.mem_cons_self
    have h2 := ih fun x hx => h x (List.mem_cons_of_mem _ hx)
    rw [List.sum_cons, List.length_cons, Nat.add_mul, Nat.one_mul]
    omega
theorem join_len (a : Str) (ys : List Str) : (Txt.join a ys).length ≤ (ys.map (·.length)).sum + ys.length * a.length := by
  have h := joinL_len (tl a) (ys.map tl)
  rw [← tl_join, ← join_eq, ← len_tl, ← len_tl, List.length_map, List.map_map] at h
  have e : (ys.map (List.length ∘ tl)) = ys.map (·.length) := List.map_congr_left fun x _ => (len_tl x).symm
  rw [e] at h
  exact h
def lineW (r : Rl × Bool) : List Str := beginS r.2 :: wordsR r.1
theorem lineW_ok {r : Rl × Bool} (hf : r.1.fit = true) : ∀ x ∈ lineW r, WordOk x := fun x hx => by
  rcases List.mem_cons.mp hx with rfl | hx
  · exact begin_ok _
  · exact words_ok _ hf x hx
theorem lineW_len {r : Rl × Bool} (hp : r.1.parts ≤ 5) : (lineW r).length ≤ 11 := by
  have := words_len r.1
  show (wordsR r.1).length + 1 ≤ 11
  omega
theorem lineW_sum {r : Rl × Bool} (hf : r.1.fit = true) (hp : r.1.parts ≤ 5) : ((lineW r).map (·.length)).sum ≤ 110 := by
  have h1 := sum_le (ls := (lineW r).map (·.length)) (n := 10) fun x hx => by
    obtain ⟨z, hz, rfl⟩ := List.mem_map.mp hx
    exact (lineW_ok hf z hz).1
  rw [List.length_map] at h1
  have h2 := lineW_len hp
  omega
theorem line_len {r : Rl × Bool} (hf : r.1.fit = true) (hp : r.1.parts ≤ 5) : (lineS r).length ≤ 121 := by
  have h1 := join_len " " (lineW r)
  have h2 := lineW_len hp
  have h3 := lineW_sum hf hp
  have h4 : (" " : Str).length = 1 := by decide +kernel
  rw [h4, Nat.mul_one] at h1
  show (Txt.join " " (lineW r)).length ≤ 121
  omega
theorem line_free {r : Rl × Bool} (hf : r.1.fit = true) : 10 ∉ tl (lineS r) := fun h => by
  have h : 10 ∈ tl (Txt.join " " (lineW r)) := h
  rw [join_eq, tl_join] at h
  rcases joinL_mem h with h | ⟨p, hp, h⟩
  · revert h; decide +kernel
  · obtain ⟨z, hz, rfl⟩ := List.mem_map.mp hp
    exact (lineW_ok hf z hz).2.2 h
theorem line_split {r : Rl × Bool} (hf : r.1.fit = true) : Txt.split (lineS r) " " = lineW r :=
  split_join (y := " ") (s := 32) (S := []) (by decide +kernel) (by decide +kernel) (by simp [lineW]) fun x hx => (lineW_ok hf x hx).2.1
theorem joinL_nl : ∀ ls : List (List Nat), joinL [] (ls.map (· ++ [10])) = joinL [10] (ls ++ [[]])
  | [] => rfl
  | [p] => by simp [joinL]
  | p :: q :: r => by
    have ih := joinL_nl (q :: r)
    simp only [List.map_cons, List.cons_append, joinL, List.nil_append] at ih ⊢
    rw [ih, List.append_assoc]
    rfl
theorem text_split {rows : Rows} (hf : ∀ r ∈ rows, r.1.fit = true) : Txt.split (textS rows) "\n" = rows.map lineS ++ [("" : Str)] := by
  have e : textS rows = Txt.join "\n" (rows.map lineS ++ [("" : Str)]) := by
    refine ext_tl ?_
    unfold textS
    rw [join_eq, tl_join, join_eq, tl_join, List.map_map, List.map_append, List.map_map]
    have h1 : (rows.map (tl ∘ fun r => lineS r ++ "\n")) = (rows.map (tl ∘ lineS)).map (· ++ [10]) := by
      rw [List.map_map]
      refine List.map_congr_left fun r _ => ?_
      show tl (lineS r ++ "\n") = tl (lineS r) ++ [10]
      rw [tl_append]
      rfl
    rw [h1]
    exact joinL_nl _
  rw [e]
  refine split_join (y := "\n") (s := 10) (S := []) (by decide +kernel) (by decide +kernel) (by simp) fun x hx => ?_
  rcases List.mem_append.mp hx with hx | hx
  · obtain ⟨r, hr, rfl⟩ := List.mem_map.mp hx
    exact line_free (hf r hr)
  · rw [List.mem_singleton.mp hx]
    decide +kernel
theorem text_len {rows : Rows} (hf : ∀ r ∈ rows, r.1.fit = true ∧ r.1.parts ≤ 5) (hl : rows.length ≤ 3) : (textS rows).length ≤ 400 := by
  have h1 := join_len "" (rows.map fun r => lineS r ++ "\n")
  have h2 := sum_le (ls := (rows.map fun r => lineS r ++ "\n").map (·.length)) (n := 122) fun x hx => by
    obtain ⟨z, hz, rfl⟩ := List.mem_map.mp hx
    obtain ⟨r, hr, rfl⟩ := List.mem_map.mp hz
    have := line_len (hf r hr).1 (hf r hr).2
    rw [len_tl, tl_append, List.length_append, ← len_tl]
    show (lineS r).length + 1 ≤ 122
    omega
  have h3 : ("" : Str).length = 0 := by decide +kernel
  rw [h3, Nat.mul_zero] at h1
  rw [List.length_map, List.length_map] at h2
  show (Txt.join "" (rows.map fun r => lineS r ++ "\n")).length ≤ 400
  omega
section
variable {X : Cx} {K : PySem.W.Frag} {o e : Expr} {es : List Expr} {to te : TE} {t : TA} {apos cpos p : Pos}
def rJoin (K : PySem.W.Frag) : V → List V → Hp → VK → Prop := fun x xs H Q => ∃ a p, ∃ ys : List Str, x = .str a ∧ xs = [.ref p] ∧ (SqL K H p (ys.map V.str) ∨ SqT K H p (ys.map V.str)) ∧ (ys.map (·.length)).sum + ys.length * a.length ≤ 16777216 ∧ Q (.str (Txt.join a ys)) H
theorem pe_joinK (ho : PE X o to) (ha : PA X (e :: es) t)
    (hbase : attributeBase o ("join" : Str) X.env (eval o X.env) = eval o X.env := by rfl)
    (hfew : ((backTo cpos (starEach (e :: es) X.env)).all (fun x => !x.1) && (backToKw cpos (keywordEach [] X.env)).all (fun x => x.1.isSome)
      && decide ((e :: es).length + ([] : List Keyword).length + (if ([] : List Keyword).isEmpty then 0 else 1) < 30)) = true := by rfl)
    (hline : (apos.endLine == cpos.line) = true := by rfl) (hs : starEach (e :: es) X.env = (false, eval e X.env) :: starEach es X.env := by rfl) (hplain : (backTo cpos (starEach es X.env)).any (·.1) = false := by rfl)
    (hK : X.K = K := by rfl) : PE X (.Call (.Attribute o ("join" : Str) apos) (e :: es) [] cpos) (tBM K "str" (rJoin K) to t) := by
  subst hK
  exact pe_bm PySem.F.plainAttrs_str PySem.F.slot_str_join PySem.F.type_str_join mt_join ho ha hbase hfew hline hs hplain
theorem pa_starK (he : PE X e te) (hr : PA X es t) (hs : starEach (.Starred e p :: es) X.env = (true, eval e X.env) :: starEach es X.env := by rfl) (hK : X.K = K := by rfl) : PA X (.Starred e p :: es) (StX.tStar K te t) := by
  subst hK
  exact StX.pa_star he hr hs
end
end WF

set_option Elab.async false
set_option linter.all false
set_option maxRecDepth 100000
set_option maxHeartbeats 1000000
/-! WParse: a reader of a line, as an object; what it reads -/
namespace WF
open PySem PySem.Spec PyProof.Rows L2 Evl
def lineF (n : Int) (W : Addr) (a p d r : Int) : List (Str × V) := [("number", .int n), ("row", .ref W), ("spot", .int a), ("parts", .int p), ("due", .int d), ("room", .int r)]
theorem nb_number_row : (("number" : Str) == ("row" : Str)) = false := by decide +kernel
theorem ne_number_row : ¬ (("number" : Str) = ("row" : Str)) := by decide +kernel
theorem nb_number_spot : (("number" : Str) == ("spot" : Str)) = false := by decide +kernel
theorem ne_number_spot : ¬ (("number" : Str) = ("spot" : Str)) := by decide +kernel
theorem nb_number_parts : (("number" : Str) == ("parts" : Str)) = false := by decide +kernel
theorem ne_number_parts : ¬ (("number" : Str) = ("parts" : Str)) := by decide +kernel
theorem nb_number_due : (("number" : Str) == ("due" : Str)) = false := by decide +kernel
theorem ne_number_due : ¬ (("number" : Str) = ("due" : Str)) := by decide +kernel
theorem nb_number_room : (("number" : Str) == ("room" : Str)) = false := by decide +kernel
theorem ne_number_room : ¬ (("number" : Str) = ("room" : Str)) := by decide +kernel
theorem nb_row_number : (("row" : Str) == ("number" : Str)) = false := by decide +kernel
theorem ne_row_number : ¬ (("row" : Str) = ("number" : Str)) := by decide +kernel
theorem nb_row_spot : (("row" : Str) == ("spot" : Str)) = false := by decide +kernel
theorem ne_row_spot : ¬ (("row" : Str) = ("spot" : Str)) := by decide +kernel
theorem nb_row_parts : (("row" : Str) == ("parts" : Str)) = false := by decide +kernel
theorem ne_row_parts : ¬ (("row" : Str) = ("parts" : Str)) := by decide +kernel
theorem nb_row_due : (("row" : Str) == ("due" : Str)) = false := by decide +kernel
theorem ne_row_due : ¬ (("row" : Str) = ("due" : Str)) := by decide +kernel
theorem nb_row_room : (("row" : Str) == ("room" : Str)) = false := by decide +kernel
theorem ne_row_room : ¬ (("row" : Str) = ("room" : Str)) := by decide +kernel
theorem nb_spot_number : (("spot" : Str) == ("number" : Str)) = false := by decide +kernel
theorem ne_spot_number : ¬ (("spot" : Str) = ("number" : Str)) := by decide +kernel
theorem nb_spot_row : (("spot" : Str) == ("row" : Str)) = false := by decide +kernel
theorem ne_spot_row : ¬ (("spot" : Str) = ("row" : Str)) := by decide +kernel
theorem nb_spot_parts : (("spot" : Str) == ("parts" : Str)) = false := by decide +kernel
theorem ne_spot_parts : ¬ (("spot" : Str) = ("parts" : Str)) := by decide +kernel
theorem nb_spot_due : (("spot" : Str) == ("due" : Str)) = false := by decide +kernel
theorem ne_spot_due : ¬ (("spot" : Str) = ("due" : Str)) := by decide +kernel
theorem nb_spot_room : (("spot" : Str) == ("room" : Str)) = false := by decide +kernel
theorem ne_spot_room : ¬ (("spot" : Str) = ("room" : Str)) := by decide +kernel
theorem nb_parts_number : (("parts" : Str) == ("number" : Str)) = false := by decide +kernel
theorem ne_parts_number : ¬ (("parts" : Str) = ("number" : Str)) := by decide +kernel
theorem nb_parts_row : (("parts" : Str) == ("row" : Str)) = false := by decide +kernel
theorem ne_parts_row : ¬ (("parts" : Str) = ("row" : Str)) := by decide +kernel
theorem nb_parts_spot : (("parts" : Str) == ("spot" : Str)) = false := by decide +kernel
theorem ne_parts_spot : ¬ (("parts" : Str) = ("spot" : Str)) := by decide +kernel
theorem nb_parts_due : (("parts" : Str) == ("due" : Str)) = false := by decide +kernel
theorem ne_parts_due : ¬ (("parts" : Str) = ("due" : Str)) := by decide +kernel
theorem nb_parts_room : (("parts" : Str) == ("room" : Str)) = false := by decide +kernel
theorem ne_parts_room : ¬ (("parts" : Str) = ("room" : Str)) := by decide +kernel
theorem nb_due_number : (("due" : Str) == ("number" : Str)) = false := by decide +kernel
theorem ne_due_number : ¬ (("due" : Str) = ("number" : Str)) := by decide +kernel
theorem nb_due_row : (("due" : Str) == ("row" : Str)) = false := by decide +kernel
theorem ne_due_row : ¬ (("due" : Str) = ("row" : Str)) := by decide +kernel
theorem nb_due_spot : (("due" : Str) == ("spot" : Str)) = false := by decide +kernel
theorem ne_due_spot : ¬ (("due" : Str) = ("spot" : Str)) := by decide +kernel
theorem nb_due_parts : (("due" : Str) == ("parts" : Str)) = false := by decide +kernel
theorem ne_due_parts : ¬ (("due" : Str) = ("parts" : Str)) := by decide +kernel
theorem nb_due_room : (("due" : Str) == ("room" : Str)) = false := by decide +kernel
theorem ne_due_room : ¬ (("due" : Str) = ("room" : Str)) := by decide +kernel
theorem nb_room_number : (("room" : Str) == ("number" : Str)) = false := by decide +kernel
theorem ne_room_number : ¬ (("room" : Str) = ("number" : Str)) := by decide +kernel
theorem nb_room_row : (("room" : Str) == ("row" : Str)) = false := by decide +kernel
theorem ne_room_row : ¬ (("room" : Str) = ("row" : Str)) := by decide +kernel
theorem nb_room_spot : (("room" : Str) == ("spot" : Str)) = false := by decide +kernel
theorem ne_room_spot : ¬ (("room" : Str) = ("spot" : Str)) := by decide +kernel
theorem nb_room_parts : (("room" : Str) == ("parts" : Str)) = false := by decide +kernel
theorem ne_room_parts : ¬ (("room" : Str) = ("parts" : Str)) := by decide +kernel
theorem nb_room_due : (("room" : Str) == ("due" : Str)) = false := by decide +kernel
theorem ne_room_due : ¬ (("room" : Str) = ("due" : Str)) := by decide +kernel
section
variable {n : Int} {W : Addr} {a p d r : Int}
theorem lineF_number : (lineF n W a p d r).lookup ("number" : Str) = some (.int n) := by
  unfold lineF
  rw [List.lookup_cons, beq_self_eq_true]
theorem lineF_row : (lineF n W a p d r).lookup ("row" : Str) = some (.ref W) := by
  unfold lineF
  rw [List.lookup_cons, nb_row_number]
  dsimp only
  rw [List.lookup_cons, beq_self_eq_true]
theorem lineF_spot : (lineF n W a p d r).lookup ("spot" : Str) = some (.int a) := by
  unfold lineF
  rw [List.lookup_cons, nb_spot_number]
  dsimp only
  rw [List.lookup_cons, nb_spot_row]
  dsimp only
  rw [List.lookup_cons, beq_self_eq_true]
theorem lineF_parts : (lineF n W a p d r).lookup ("parts" : Str) = some (.int p) := by
  unfold lineF
  rw [List.lookup_cons, nb_parts_number]
  dsimp only
  rw [List.lookup_cons, nb_parts_row]
  dsimp only
  rw [List.lookup_cons, nb_parts_spot]
  dsimp only
  rw [List.lookup_cons, beq_self_eq_true]
theorem lineF_due : (lineF n W a p d r).lookup ("due" : Str) = some (.int d) := by
  unfold lineF
  rw [List.lookup_cons, nb_due_number]
  dsimp only
  rw [List.lookup_cons, nb_due_row]
  dsimp only
  rw [List.lookup_cons, nb_due_spot]
  dsimp only
  rw [List.lookup_cons, nb_due_parts]
  dsimp only
  rw [List.lookup_cons, beq_self_eq_true]
theorem lineF_room : (lineF n W a p d r).lookup ("room" : Str) = some (.int r) := by
  unfold lineF
  rw [List.lookup_cons, nb_room_number]
  dsimp only
  rw [List.lookup_cons, nb_room_row]
  dsimp only
  rw [List.lookup_cons, nb_room_spot]
  dsimp only
  rw [List.lookup_cons, nb_room_parts]
  dsimp only
  rw [List.lookup_cons, nb_room_due]
  dsimp only
  rw [List.lookup_cons, beq_self_eq_true]
theorem lineF_no_take : (lineF n W a p d r).lookup ("take" : Str) = none := by
  unfold lineF
  rw [List.lookup_cons, show (("take" : Str) == ("number" : Str)) = false by decide +kernel]
  dsimp only
  rw [List.lookup_cons, show (("take" : Str) == ("row" : Str)) = false by decide +kernel]
  dsimp only
  rw [List.lookup_cons, show (("take" : Str) == ("spot" : Str)) = false by decide +kernel]
  dsimp only
  rw [List.lookup_cons, show (("take" : Str) == ("parts" : Str)) = false by decide +kernel]
  dsimp only
  rw [List.lookup_cons, show (("take" : Str) == ("due" : Str)) = false by decide +kernel]
  dsimp only
  rw [List.lookup_cons, show (("take" : Str) == ("room" : Str)) = false by decide +kernel]
  dsimp only
  rfl
theorem lineF_no_take_number : (lineF n W a p d r).lookup ("take_number" : Str) = none := by
  unfold lineF
  rw [List.lookup_cons, show (("take_number" : Str) == ("number" : Str)) = false by decide +kernel]
  dsimp only
  rw [List.lookup_cons, show (("take_number" : Str) == ("row" : Str)) = false by decide +kernel]
  dsimp only
  rw [List.lookup_cons, show (("take_number" : Str) == ("spot" : Str)) = false by decide +kernel]
  dsimp only
  rw [List.lookup_cons, show (("take_number" : Str) == ("parts" : Str)) = false by decide +kernel]
  dsimp only
  rw [List.lookup_cons, show (("take_number" : Str) == ("due" : Str)) = false by decide +kernel]
  dsimp only
  rw [List.lookup_cons, show (("take_number" : Str) == ("room" : Str)) = false by decide +kernel]
  dsimp only
  rfl
theorem lineF_no_whole_rule : (lineF n W a p d r).lookup ("whole_rule" : Str) = none := by
  unfold lineF
  rw [List.lookup_cons, show (("whole_rule" : Str) == ("number" : Str)) = false by decide +kernel]
  dsimp only
  rw [List.lookup_cons, show (("whole_rule" : Str) == ("row" : Str)) = false by decide +kernel]
  dsimp only
  rw [List.lookup_cons, show (("whole_rule" : Str) == ("spot" : Str)) = false by decide +kernel]
  dsimp only
  rw [List.lookup_cons, show (("whole_rule" : Str) == ("parts" : Str)) = false by decide +kernel]
  dsimp only
  rw [List.lookup_cons, show (("whole_rule" : Str) == ("due" : Str)) = false by decide +kernel]
  dsimp only
  rw [List.lookup_cons, show (("whole_rule" : Str) == ("room" : Str)) = false by decide +kernel]
  dsimp only
  rfl
theorem lineF_no_end : (lineF n W a p d r).lookup ("end" : Str) = none := by
  unfold lineF
  rw [List.lookup_cons, show (("end" : Str) == ("number" : Str)) = false by decide +kernel]
  dsimp only
  rw [List.lookup_cons, show (("end" : Str) == ("row" : Str)) = false by decide +kernel]
  dsimp only
  rw [List.lookup_cons, show (("end" : Str) == ("spot" : Str)) = false by decide +kernel]
  dsimp only
  rw [List.lookup_cons, show (("end" : Str) == ("parts" : Str)) = false by decide +kernel]
  dsimp only
  rw [List.lookup_cons, show (("end" : Str) == ("due" : Str)) = false by decide +kernel]
  dsimp only
  rw [List.lookup_cons, show (("end" : Str) == ("room" : Str)) = false by decide +kernel]
  dsimp only
  rfl
theorem putF_spot {x : Int} : putF ("spot" : Str) (.int x) (lineF n W a p d r) = lineF n W x p d r := by
  unfold lineF
  rw [putF, if_neg ne_number_spot]
  rw [putF, if_neg ne_row_spot]
  rw [putF, if_pos rfl]
theorem putF_parts {x : Int} : putF ("parts" : Str) (.int x) (lineF n W a p d r) = lineF n W a x d r := by
  unfold lineF
  rw [putF, if_neg ne_number_parts]
  rw [putF, if_neg ne_row_parts]
  rw [putF, if_neg ne_spot_parts]
  rw [putF, if_pos rfl]
theorem putF_due {x : Int} : putF ("due" : Str) (.int x) (lineF n W a p d r) = lineF n W a p x r := by
  unfold lineF
  rw [putF, if_neg ne_number_due]
  rw [putF, if_neg ne_row_due]
  rw [putF, if_neg ne_spot_due]
  rw [putF, if_neg ne_parts_due]
  rw [putF, if_pos rfl]
theorem putF_room {x : Int} : putF ("room" : Str) (.int x) (lineF n W a p d r) = lineF n W a p d x := by
  unfold lineF
  rw [putF, if_neg ne_number_room]
  rw [putF, if_neg ne_row_room]
  rw [putF, if_neg ne_spot_room]
  rw [putF, if_neg ne_parts_room]
  rw [putF, if_neg ne_due_room]
  rw [putF, if_pos rfl]
theorem lineF_mk : putF ("room" : Str) (.int r) (putF ("due" : Str) (.int d) (putF ("parts" : Str) (.int p) (putF ("spot" : Str) (.int a) (putF ("row" : Str) (.ref W) (putF ("number" : Str) (.int n) []))))) = lineF n W a p d r := by
  unfold lineF
  simp only [putF, if_neg ne_number_row, if_neg ne_number_spot, if_neg ne_row_spot, if_neg ne_number_parts, if_neg ne_row_parts, if_neg ne_spot_parts, if_neg ne_number_due, if_neg ne_row_due, if_neg ne_spot_due, if_neg ne_parts_due, if_neg ne_number_room, if_neg ne_row_room, if_neg ne_spot_room, if_neg ne_parts_room, if_neg ne_due_room, if_false]
end
def LineAt (K : PySem.W.Frag) (CL : Addr) (H : Hp) (p : Addr) (num : Int) (ws : List Str) (a pa du ro : Nat) : Prop := ∃ dx W, H p = some (.ins CL dx (lineF num W a pa du ro)) ∧ H W = some (.lst (ws.map V.str))
theorem LineAt.mono {K : PySem.W.Frag} {CL p : Addr} {H H' : Hp} {num : Int} {ws : List Str} {a pa du ro : Nat} (e : Ex H H') (h : LineAt K CL H p num ws a pa du ro) : LineAt K CL H' p num ws a pa du ro := by
  obtain ⟨dx, W, h1, h2⟩ := h
  exact ⟨dx, W, e _ _ h1, e _ _ h2⟩
/-! what is read -/
def ends3 : List Str := ["weekday", "first", "monthday"]
def pairs3 : List Str := ["both", "either", "without"]
def leafN (z : Str) : List Int := if z = "monthday" then [-3, -2, -1, 0, 1, 2] else [-2, -1, 0, 1]
def mkLeaf (z : Str) (k : Int) : Rl := if z = "weekday" then .wk k else if z = "first" then .fs k else .md k
def mkPair (z : Str) (x y : Rl) : Rl := if z = "both" then .bo x y else if z = "either" then .ei x y else .wo x y
def able (pa du ro : Nat) : List Str := (if pa + du < 5 ∧ 0 < ro then ends3 ++ [("behind" : Str)] else ends3) ++ (if pa + du < 4 then pairs3 else [])
def bysL (ro : Nat) : List Int := ([-2, -1, 1, 2] : List Int).filter fun b => decide (b.natAbs ≤ ro)
def takeW (ws : List Str) (a : Nat) (some : List Str) : Option Str := match ws[a]? with
  | none => none
  | Option.some z => if z ∈ some then Option.some z else none
def takeN (ws : List Str) (a : Nat) (ns : List Int) : Option Int := match takeW ws a (ns.map numS) with
  | none => none
  | some z => ns.find? fun k => decide (numS k = z)
inductive Res where
  | ok (r : Rl) (a pa du ro : Nat)
  | bad (a : Nat)
def parse : Nat → List Str → Nat → Nat → Nat → Nat → Res
  | 0, _, a, _, _, _ => .bad a
  | n + 1, ws, a, pa, du, ro => match takeW ws a (able pa du ro) with
    | none => .bad a
    | some z =>
      if z ∈ ends3 then match takeN ws (a + 1) (leafN z) with
        | none => .bad (a + 1)
        | some k => .ok (mkLeaf z k) (a + 2) (pa + 1) (du - 1) ro
      else if z = "behind" then match takeN ws (a + 1) (bysL ro) with
        | none => .bad (a + 1)
        | some b => match parse n ws (a + 2) (pa + 1) du (ro - b.natAbs) with
          | .bad i => .bad i
          | .ok r a1 pa1 du1 ro1 => .ok (.bh r b) a1 pa1 du1 ro1
      else match parse n ws (a + 1) (pa + 1) (du + 1) ro with
        | .bad i => .bad i
        | .ok x a1 pa1 du1 ro1 => match parse n ws a1 pa1 du1 ro1 with
          | .bad i => .bad i
          | .ok y a2 pa2 du2 ro2 => .ok (mkPair z x y) a2 pa2 du2 ro2
theorem takeW_lt {ws : List Str} {a : Nat} {some : List Str} {z : Str} (h : takeW ws a some = Option.some z) : a < ws.length ∧ z ∈ some ∧ ws[a]? = Option.some z := by
  unfold takeW at h
  cases e : ws[a]? with
  | none => rw [e] at h; cases h
  | some y =>
    rw [e] at h
    dsimp only at h
    by_cases hm : y ∈ some
    · rw [if_pos hm] at h
      cases h
      exact ⟨(List.getElem?_eq_some_iff.mp e).1, hm, rfl⟩
    · rw [if_neg hm] at h; cases h
theorem takeN_lt {ws : List Str} {a : Nat} {ns : List Int} {k : Int} (h : takeN ws a ns = some k) : a < ws.length ∧ k ∈ ns ∧ takeW ws a (ns.map numS) = some (numS k) := by
  unfold takeN at h
  cases e : takeW ws a (ns.map numS) with
  | none => rw [e] at h; cases h
  | some z =>
    rw [e] at h
    dsimp only at h
    have h1 := List.find?_some h
    have h2 := List.mem_of_find?_eq_some h
    rw [of_decide_eq_true h1]
    exact ⟨(takeW_lt e).1, h2, rfl⟩
theorem takeN_none {ws : List Str} {a : Nat} {ns : List Int} (h : takeN ws a ns = none) : takeW ws a (ns.map numS) = none := by
  unfold takeN at h
  cases e : takeW ws a (ns.map numS) with
  | none => rfl
  | some z =>
    rw [e] at h
    dsimp only at h
    obtain ⟨_, hm, _⟩ := takeW_lt e
    obtain ⟨k, hk, hz⟩ := List.mem_map.mp hm
    have := List.find?_eq_none.mp h k hk
    rw [hz] at this
    exact absurd (decide_eq_true rfl) this
/-- what a reader keeps -/
theorem parse_keep : ∀ (n : Nat) (ws : List Str) (a pa du ro : Nat) {r : Rl} {a1 pa1 du1 ro1 : Nat}, parse n ws a pa du ro = .ok r a1 pa1 du1 ro1 → 1 ≤ du → pa + du ≤ 5 → a ≤ ws.length → du1 + 1 = du ∧ pa1 + du1 ≤ 5 ∧ a1 ≤ ws.length ∧ ro1 ≤ ro
  | 0, _, _, _, _, _, _, _, _, _, _, h, _, _, _ => by cases h
  | n + 1, ws, a, pa, du, ro, r, a1, pa1, du1, ro1, h, h1, h2, h3 => by
    unfold parse at h
    cases e : takeW ws a (able pa du ro) with
    | none => rw [e] at h; cases h
    | some z =>
      rw [e] at h
      dsimp only at h
      obtain ⟨hl, hm, _⟩ := takeW_lt e
      by_cases hz : z ∈ ends3
      · rw [if_pos hz] at h
        cases e2 : takeN ws (a + 1) (leafN z) with
        | none => rw [e2] at h; cases h
        | some k =>
          rw [e2] at h
          cases h
          have := (takeN_lt e2).1
          exact ⟨by omega, by omega, by omega, by omega⟩
      · rw [if_neg hz] at h
        unfold able at hm
        by_cases hb : z = "behind"
        · rw [if_pos hb] at h
          have hab : pa + du < 5 := by
            by_cases q : pa + du < 5 ∧ 0 < ro
            · exact q.1
            · rw [if_neg q] at hm
              rcases List.mem_append.mp hm with hm | hm
              · exact absurd hm hz
              · split at hm
                · rw [hb] at hm; exact absurd hm (by decide +kernel)
                · cases hm
          cases e2 : takeN ws (a + 1) (bysL ro) with
          | none => rw [e2] at h; cases h
          | some b =>
            rw [e2] at h
            dsimp only at h
            have h4 := (takeN_lt e2).1
            cases e3 : parse n ws (a + 2) (pa + 1) du (ro - b.natAbs) with
            | bad i => rw [e3] at h; cases h
            | ok r' a' pa' du' ro' =>
              rw [e3] at h
              cases h
              have := parse_keep n ws _ _ _ _ e3 h1 (by omega) (by omega)
              exact ⟨this.1, this.2.1, this.2.2.1, by omega⟩
        · rw [if_neg hb] at h
          have hab : pa + du < 4 := by
            by_cases q : pa + du < 4
            · exact q
            · rw [if_neg q, List.append_nil] at hm
              split at hm
              · rcases List.mem_append.mp hm with hm | hm
                · exact absurd hm hz
                · exact absurd (List.mem_singleton.mp hm) hb
              · exact absurd hm hz
          cases e2 : parse n ws (a + 1) (pa + 1) (du + 1) ro with
          | bad i => rw [e2] at h; cases h
          | ok x a2 pa2 du2 ro2 =>
            rw [e2] at h
            dsimp only at h
            have k1 := parse_keep n ws _ _ _ _ e2 (by omega) (by omega) (by omega)
            cases e3 : parse n ws a2 pa2 du2 ro2 with
            | bad i => rw [e3] at h; cases h
            | ok y a3 pa3 du3 ro3 =>
              rw [e3] at h
              cases h
              have k2 := parse_keep n ws _ _ _ _ e3 (by omega) (by omega) (by omega)
              exact ⟨by omega, by omega, by omega, by omega⟩
theorem raise2 {C : Addr} {f g : Str} {σ : L2.St} {H : Hp} {ta : TA} {u v : V} {E : XK} (h : EvA ta σ H [u, v]) (k : ∀ d H2, Ex H H2 → H d = none → H2 d = some (.xd [(g, v), (f, u)]) → E (.ref C) (some d) H2) : tMkO C (spE2 C f g) [] ta σ H E :=
  h H (Ex.refl H) _ fun H1 e1 => ⟨by show 2 ≤ 1000; decide, fun a ha => ⟨a, u, v, rfl, upd_same, fun dx hdx hne => by
    have hdx' : H1 dx = none := by
      rw [upd_ne hne] at hdx
      exact hdx
    refine ⟨rfl, dx, [(g, v), (f, u)], ?_, upd_same, hdx', k dx _ (fun b o hb => ?_) (fresh_back e1 hdx') upd_same⟩
    · rw [upd_ne (Ne.symm hne)]
      exact upd_same
    · have hb1 := e1 _ _ hb
      have n1 : b ≠ dx := ne_of_none hb1 hdx'
      have n2 : b ≠ a := ne_of_none hb1 ha
      rw [upd_ne n1, del_ne n2, upd_ne n1, upd_ne n2, upd_ne n1, upd_ne n2]
      exact hb1⟩⟩
end WF

set_option Elab.async false
set_option linter.all false
set_option maxRecDepth 100000
set_option maxHeartbeats 1000000
/-! WRead: what a text is read as; a written text is read back -/
namespace WF
open PySem PySem.Spec PyProof.Rows L2 Evl TL
/-! a sound reading -/
theorem bysL_in {ro : Nat} {b : Int} (h : b ∈ bysL ro) : (b = -2 ∨ b = -1 ∨ b = 1 ∨ b = 2) ∧ b.natAbs ≤ ro := by
  obtain ⟨h1, h2⟩ := List.mem_filter.mp h
  simp only [List.mem_cons, List.not_mem_nil, or_false] at h1
  exact ⟨h1, of_decide_eq_true h2⟩
theorem bysL_has {ro : Nat} {b : Int} (h : b = -2 ∨ b = -1 ∨ b = 1 ∨ b = 2) (hl : b.natAbs ≤ ro) : b ∈ bysL ro :=
  List.mem_filter.mpr ⟨by simp only [List.mem_cons, List.not_mem_nil, or_false]; exact h, decide_eq_true hl⟩
theorem leaf_fit {z : Str} {k : Int} (hz : z ∈ ends3) (hk : k ∈ leafN z) : (mkLeaf z k).fit = true ∧ (mkLeaf z k).parts = 1 ∧ (mkLeaf z k).bys = 0 := by
  simp only [ends3, List.mem_cons, List.not_mem_nil, or_false] at hz
  rcases hz with rfl | rfl | rfl
  · rw [leafN, if_neg (by decide +kernel)] at hk
    simp only [List.mem_cons, List.not_mem_nil, or_false] at hk
    rw [mkLeaf, if_pos rfl]
    exact ⟨decide_eq_true (by omega), rfl, rfl⟩
  · rw [leafN, if_neg (by decide +kernel)] at hk
    simp only [List.mem_cons, List.not_mem_nil, or_false] at hk
    rw [mkLeaf, if_neg (by decide +kernel), if_pos rfl]
    exact ⟨decide_eq_true (by omega), rfl, rfl⟩
  · rw [leafN, if_pos rfl] at hk
    simp only [List.mem_cons, List.not_mem_nil, or_false] at hk
    rw [mkLeaf, if_neg (by decide +kernel), if_neg (by decide +kernel)]
    exact ⟨decide_eq_true (by omega), rfl, rfl⟩
theorem pair_is (z : Str) (x y : Rl) : (mkPair z x y).fit = (x.fit && y.fit) ∧ (mkPair z x y).parts = 1 + x.parts + y.parts ∧ (mkPair z x y).bys = x.bys + y.bys := by
  unfold mkPair
  split
  · exact ⟨rfl, rfl, rfl⟩
  · split
    · exact ⟨rfl, rfl, rfl⟩
    · exact ⟨rfl, rfl, rfl⟩
theorem parse_sound : ∀ (n : Nat) (ws : List Str) (a pa du ro : Nat) {r : Rl} {a1 pa1 du1 ro1 : Nat}, parse n ws a pa du ro = .ok r a1 pa1 du1 ro1 → r.fit = true ∧ pa1 = pa + r.parts ∧ ro1 + r.bys = ro ∧ a < a1
  | 0, _, _, _, _, _, _, _, _, _, _, h => by cases h
  | n + 1, ws, a, pa, du, ro, r, a1, pa1, du1, ro1, h => by
    unfold parse at h
    cases e : takeW ws a (able pa du ro) with
    | none => rw [e] at h; cases h
    | some z =>
      rw [e] at h
      dsimp only at h
      by_cases hz : z ∈ ends3
      · rw [if_pos hz] at h
        cases e2 : takeN ws (a + 1) (leafN z) with
        | none => rw [e2] at h; cases h
        | some k =>
          rw [e2] at h
          cases h
          obtain ⟨h1, h2, h3⟩ := leaf_fit hz (takeN_lt e2).2.1
          exact ⟨h1, by rw [h2], by rw [h3]; rfl, by omega⟩
      · rw [if_neg hz] at h
        by_cases hb : z = "behind"
        · rw [if_pos hb] at h
          cases e2 : takeN ws (a + 1) (bysL ro) with
          | none => rw [e2] at h; cases h
          | some b =>
            rw [e2] at h
            dsimp only at h
            obtain ⟨b1, b2⟩ := bysL_in (takeN_lt e2).2.1
            cases e3 : parse n ws (a + 2) (pa + 1) du (ro - b.natAbs) with
            | bad i => rw [e3] at h; cases h
            | ok r' a' pa' du' ro' =>
              rw [e3] at h
              cases h
              obtain ⟨k1, k2, k3, k4⟩ := parse_sound n ws _ _ _ _ e3
              refine ⟨?_, ?_, ?_, by omega⟩
              · simp only [Rl.fit, Bool.and_eq_true]
                exact ⟨decide_eq_true b1, k1⟩
              · simp only [Rl.parts]; omega
              · simp only [Rl.bys]; omega
        · rw [if_neg hb] at h
          cases e2 : parse n ws (a + 1) (pa + 1) (du + 1) ro with
          | bad i => rw [e2] at h; cases h
          | ok x a2 pa2 du2 ro2 =>
            rw [e2] at h
            dsimp only at h
            cases e3 : parse n ws a2 pa2 du2 ro2 with
            | bad i => rw [e3] at h; cases h
            | ok y a3 pa3 du3 ro3 =>
              rw [e3] at h
              cases h
              obtain ⟨k1, k2, k3, k4⟩ := parse_sound n ws _ _ _ _ e2
              obtain ⟨l1, l2, l3, l4⟩ := parse_sound n ws _ _ _ _ e3
              obtain ⟨p1, p2, p3⟩ := pair_is z x y
              refine ⟨by rw [p1, k1, l1]; rfl, by rw [p2]; omega, by rw [p3]; omega, by omega⟩
/-! a reading of written words -/
theorem numS_inj {i j : Int} (hi : -3 ≤ i ∧ i ≤ 2) (hj : -3 ≤ j ∧ j ≤ 2) (h : numS i = numS j) : i = j := by
  have := int_numS hi
  rw [h, int_numS hj] at this
  exact (Option.some.inj this).symm
theorem find_num {k : Int} (hk : -3 ≤ k ∧ k ≤ 2) : ∀ {ns : List Int}, (∀ i ∈ ns, -3 ≤ i ∧ i ≤ 2) → k ∈ ns → (ns.find? fun i => decide (numS i = numS k)) = some k
  | [], _, h => by cases h
  | i :: ns, hn, h => by
    rw [List.find?_cons]
    by_cases q : i = k
    · rw [q, decide_eq_true rfl]
    · rw [decide_eq_false (fun e => q (numS_inj (hn _ List.mem_cons_self) hk e))]
      exact find_num hk (fun x hx => hn x (List.mem_cons_of_mem _ hx)) ((List.mem_cons.mp h).resolve_left fun e => q e.symm)
theorem takeW_is {ws zs : List Str} {a : Nat} {z : Str} (h : ws[a]? = some z) (hm : z ∈ zs) : takeW ws a zs = some z := by
  unfold takeW
  rw [h]
  exact if_pos hm
theorem takeN_is {ws : List Str} {a : Nat} {ns : List Int} {k : Int} (hk : -3 ≤ k ∧ k ≤ 2) (hn : ∀ i ∈ ns, -3 ≤ i ∧ i ≤ 2) (h : ws[a]? = some (numS k)) (hm : k ∈ ns) : takeN ws a ns = some k := by
  unfold takeN
  rw [takeW_is h (List.mem_map.mpr ⟨k, hm, rfl⟩)]
  exact find_num hk hn hm
theorem leafN_in (z : Str) : ∀ i ∈ leafN z, -3 ≤ i ∧ i ≤ 2 := by
  unfold leafN
  split
  · decide
  · decide
theorem bysL_ran {ro : Nat} : ∀ i ∈ bysL ro, -3 ≤ i ∧ i ≤ 2 := fun i hi => by
  rcases (bysL_in hi).1 with rfl | rfl | rfl | rfl <;> decide
theorem at_drop {ws l : List Str} {a : Nat} {z : Str} (h : ws.drop a = z :: l) : ws[a]? = some z ∧ ws.drop (a + 1) = l := by
  refine ⟨?_, ?_⟩
  · have := List.getElem?_drop (xs := ws) (i := a) (j := 0)
    rw [h] at this
    exact this.symm
  · rw [← List.drop_drop, h]
    rfl
theorem ends_able {z : Str} {pa du ro : Nat} (h : z ∈ ends3) : z ∈ able pa du ro := by
  unfold able
  refine List.mem_append_left _ ?_
  split
  · exact List.mem_append_left _ h
  · exact h
theorem parse_words : ∀ (n : Nat) (r : Rl) (ws post : List Str) (a pa du ro : Nat), r.fit = true → r.dep < n → 1 ≤ du → pa + du + r.parts ≤ 6 → r.bys ≤ ro → ws.drop a = wordsR r ++ post →
    parse n ws a pa du ro = .ok r (a + (wordsR r).length) (pa + r.parts) (du - 1) (ro - r.bys)
  | 0, _, _, _, _, _, _, _, _, hd, _, _, _, _ => by omega
  | n + 1, .wk k, ws, post, a, pa, du, ro, hf, hd, h1, hp, hb, h => by
    obtain ⟨w0, w'⟩ := at_drop h
    obtain ⟨w1, _⟩ := at_drop w'
    have hk := of_decide_eq_true hf
    unfold parse
    rw [takeW_is w0 (ends_able (by decide +kernel))]
    dsimp only
    rw [if_pos (by decide +kernel), takeN_is (by omega) (leafN_in _) w1 (by rw [leafN, if_neg (by decide +kernel)]; simp only [List.mem_cons, List.not_mem_nil, or_false]; omega)]
    dsimp only
    rw [mkLeaf, if_pos rfl]
    rfl
  | n + 1, .fs k, ws, post, a, pa, du, ro, hf, hd, h1, hp, hb, h => by
    obtain ⟨w0, w'⟩ := at_drop h
    obtain ⟨w1, _⟩ := at_drop w'
    have hk := of_decide_eq_true hf
    unfold parse
    rw [takeW_is w0 (ends_able (by decide +kernel))]
    dsimp only
    rw [if_pos (by decide +kernel), takeN_is (by omega) (leafN_in _) w1 (by rw [leafN, if_neg (by decide +kernel)]; simp only [List.mem_cons, List.not_mem_nil, or_false]; omega)]
    dsimp only
    rw [mkLeaf, if_neg (by decide +kernel), if_pos rfl]
    rfl
  | n + 1, .md k, ws, post, a, pa, du, ro, hf, hd, h1, hp, hb, h => by
    obtain ⟨w0, w'⟩ := at_drop h
    obtain ⟨w1, _⟩ := at_drop w'
    have hk := of_decide_eq_true hf
    unfold parse
    rw [takeW_is w0 (ends_able (by decide +kernel))]
    dsimp only
    rw [if_pos (by decide +kernel), takeN_is (by omega) (leafN_in _) w1 (by rw [leafN, if_pos rfl]; simp only [List.mem_cons, List.not_mem_nil, or_false]; omega)]
    dsimp only
    rw [mkLeaf, if_neg (by decide +kernel), if_neg (by decide +kernel)]
    rfl
  | n + 1, .bh r b, ws, post, a, pa, du, ro, hf, hd, h1, hp, hb, h => by
    obtain ⟨w0, w'⟩ := at_drop h
    obtain ⟨w1, w2⟩ := at_drop w'
    simp only [Rl.fit, Bool.and_eq_true] at hf
    simp only [Rl.dep] at hd
    simp only [Rl.parts] at hp
    simp only [Rl.bys] at hb
    have hbb := of_decide_eq_true hf.1
    have hpp := dep_parts r
    have ih := parse_words n r ws post (a + 2) (pa + 1) du (ro - b.natAbs) hf.2 (by omega) h1 (by omega) (by omega) w2
    unfold parse
    rw [takeW_is w0 (by
      unfold able
      rw [if_pos ⟨by omega, by omega⟩]
      exact List.mem_append_left _ (List.mem_append_right _ (List.mem_singleton.mpr rfl)))]
    dsimp only
    rw [if_neg (by decide +kernel), if_pos rfl, takeN_is (by omega) bysL_ran w1 (bysL_has hbb (by omega))]
    dsimp only
    rw [ih]
    dsimp only
    refine congr (congr (congr (congrArg _ ?_) ?_) ?_) ?_ <;> (try simp only [wordsR, Rl.parts, Rl.bys, List.length_cons, List.length_append]) <;> omega
  | n + 1, .bo x y, ws, post, a, pa, du, ro, hf, hd, h1, hp, hb, h => by
    obtain ⟨w0, w'⟩ := at_drop h
    simp only [Rl.fit, Bool.and_eq_true] at hf
    simp only [Rl.dep] at hd
    simp only [Rl.parts] at hp
    simp only [Rl.bys] at hb
    have hpx := dep_parts x
    have hpy := dep_parts y
    replace w' : ws.drop (a + 1) = wordsR x ++ (wordsR y ++ post) := w'.trans (List.append_assoc _ _ _)
    have ih1 := parse_words n x ws (wordsR y ++ post) (a + 1) (pa + 1) (du + 1) ro hf.1 (by omega) (by omega) (by omega) (by omega) w'
    have w2 : ws.drop (a + 1 + (wordsR x).length) = wordsR y ++ post := by rw [← List.drop_drop, w', List.drop_left]
    have ih2 := parse_words n y ws post (a + 1 + (wordsR x).length) (pa + 1 + x.parts) (du + 1 - 1) (ro - x.bys) hf.2 (by omega) (by omega) (by omega) (by omega) w2
    unfold parse
    rw [takeW_is w0 (by
      unfold able
      rw [if_pos (show pa + du < 4 by omega)]
      exact List.mem_append_right _ (by decide +kernel))]
    dsimp only
    rw [if_neg (by decide +kernel), if_neg (by decide +kernel), ih1]
    dsimp only
    rw [ih2]
    dsimp only
    rw [mkPair, if_pos rfl]
    refine congr (congr (congr (congrArg _ ?_) ?_) ?_) ?_ <;> (try simp only [wordsR, Rl.parts, Rl.bys, List.length_cons, List.length_append]) <;> omega
  | n + 1, .ei x y, ws, post, a, pa, du, ro, hf, hd, h1, hp, hb, h => by
    obtain ⟨w0, w'⟩ := at_drop h
    simp only [Rl.fit, Bool.and_eq_true] at hf
    simp only [Rl.dep] at hd
    simp only [Rl.parts] at hp
    simp only [Rl.bys] at hb
    have hpx := dep_parts x
    have hpy := dep_parts y
    replace w' : ws.drop (a + 1) = wordsR x ++ (wordsR y ++ post) := w'.trans (List.append_assoc _ _ _)
    have ih1 := parse_words n x ws (wordsR y ++ post) (a + 1) (pa + 1) (du + 1) ro hf.1 (by omega) (by omega) (by omega) (by omega) w'
    have w2 : ws.drop (a + 1 + (wordsR x).length) = wordsR y ++ post := by rw [← List.drop_drop, w', List.drop_left]
    have ih2 := parse_words n y ws post (a + 1 + (wordsR x).length) (pa + 1 + x.parts) (du + 1 - 1) (ro - x.bys) hf.2 (by omega) (by omega) (by omega) (by omega) w2
    unfold parse
    rw [takeW_is w0 (by
      unfold able
      rw [if_pos (show pa + du < 4 by omega)]
      exact List.mem_append_right _ (by decide +kernel))]
    dsimp only
    rw [if_neg (by decide +kernel), if_neg (by decide +kernel), ih1]
    dsimp only
    rw [ih2]
    dsimp only
    rw [mkPair, if_neg (by decide +kernel), if_pos rfl]
    refine congr (congr (congr (congrArg _ ?_) ?_) ?_) ?_ <;> (try simp only [wordsR, Rl.parts, Rl.bys, List.length_cons, List.length_append]) <;> omega
  | n + 1, .wo x y, ws, post, a, pa, du, ro, hf, hd, h1, hp, hb, h => by
    obtain ⟨w0, w'⟩ := at_drop h
    simp only [Rl.fit, Bool.and_eq_true] at hf
    simp only [Rl.dep] at hd
    simp only [Rl.parts] at hp
    simp only [Rl.bys] at hb
    have hpx := dep_parts x
    have hpy := dep_parts y
    replace w' : ws.drop (a + 1) = wordsR x ++ (wordsR y ++ post) := w'.trans (List.append_assoc _ _ _)
    have ih1 := parse_words n x ws (wordsR y ++ post) (a + 1) (pa + 1) (du + 1) ro hf.1 (by omega) (by omega) (by omega) (by omega) w'
    have w2 : ws.drop (a + 1 + (wordsR x).length) = wordsR y ++ post := by rw [← List.drop_drop, w', List.drop_left]
    have ih2 := parse_words n y ws post (a + 1 + (wordsR x).length) (pa + 1 + x.parts) (du + 1 - 1) (ro - x.bys) hf.2 (by omega) (by omega) (by omega) (by omega) w2
    unfold parse
    rw [takeW_is w0 (by
      unfold able
      rw [if_pos (show pa + du < 4 by omega)]
      exact List.mem_append_right _ (by decide +kernel))]
    dsimp only
    rw [if_neg (by decide +kernel), if_neg (by decide +kernel), ih1]
    dsimp only
    rw [ih2]
    dsimp only
    rw [mkPair, if_neg (by decide +kernel), if_neg (by decide +kernel)]
    refine congr (congr (congr (congrArg _ ?_) ?_) ?_) ?_ <;> (try simp only [wordsR, Rl.parts, Rl.bys, List.length_cons, List.length_append]) <;> omega
/-! whole texts -/
inductive RRes where
  | ok (rows : Rows)
  | bad (i j : Nat)
def begins2 : List Str := ["plain", "yields"]
def readL : List Str → Nat → Nat → Rows → RRes
  | [], _, _, acc => .ok acc
  | l :: ls, k, ro, acc => match takeW (Txt.split l " ") 0 (if k < 3 then begins2 else []) with
    | none => .bad (k + 1) 1
    | some z => match parse 5 (Txt.split l " ") 1 0 1 ro with
      | .bad i => .bad (k + 1) (i + 1)
      | .ok r a _ _ ro' => if a < (Txt.split l " ").length then .bad (k + 1) (a + 1) else readL ls (k + 1) ro' (acc ++ [(r, decide (z = "yields"))])
theorem readL_cons (l : Str) (ls : List Str) (k ro : Nat) (acc : Rows) : readL (l :: ls) k ro acc = match takeW (Txt.split l " ") 0 (if k < 3 then begins2 else []) with
    | none => .bad (k + 1) 1
    | some z => match parse 5 (Txt.split l " ") 1 0 1 ro with
      | .bad i => .bad (k + 1) (i + 1)
      | .ok r a _ _ ro' => if a < (Txt.split l " ").length then .bad (k + 1) (a + 1) else readL ls (k + 1) ro' (acc ++ [(r, decide (z = "yields"))]) := rfl
def readS (ls : List Str) : RRes := match readL ls.dropLast 0 4 [] with
  | .bad i j => .bad i j
  | .ok rows => if ls.getLast? = some ("" : Str) then .ok rows else .bad ls.length 1
def readT (t : Str) : RRes := readS (Txt.split t "\n")
theorem readL_written : ∀ (rows : Rows) (k ro : Nat) (acc : Rows), k + rows.length ≤ 3 → (∀ r ∈ rows, r.1.fit = true ∧ r.1.parts ≤ 5) → rowsBys rows ≤ ro → readL (rows.map lineS) k ro acc = .ok (acc ++ rows)
  | [], _, _, acc, _, _, _ => by rw [List.append_nil]; rfl
  | (r, y) :: rows, k, ro, acc, hk, hok, hb => by
    obtain ⟨hf, hp⟩ : r.fit = true ∧ r.parts ≤ 5 := hok _ List.mem_cons_self
    have hlen : (rows.length + 1) + k ≤ 3 := by rw [List.length_cons] at hk; omega
    have hbys : r.bys + rowsBys rows ≤ ro := by
      unfold rowsBys at hb ⊢
      rw [List.map_cons, List.sum_cons] at hb
      exact hb
    have hd := dep_parts r
    have hs : Txt.split (lineS (r, y)) " " = beginS y :: wordsR r := line_split hf
    have ih := readL_written rows (k + 1) (ro - r.bys) (acc ++ [(r, decide (beginS y = "yields"))]) (by omega) (fun x hx => hok x (List.mem_cons_of_mem _ hx)) (by omega)
    rw [List.map_cons]
    unfold readL
    rw [hs, if_pos (show k < 3 by omega), takeW_is (z := beginS y) rfl (by cases y <;> decide +kernel)]
    dsimp only
    rw [parse_words 5 r (beginS y :: wordsR r) [] 1 0 1 ro hf (by omega) (by omega) (by omega) (by omega) (by rw [List.append_nil]; rfl)]
    dsimp only
    rw [if_neg (by rw [List.length_cons]; omega), ih]
    have hy : decide (beginS y = "yields") = y := by cases y <;> decide +kernel
    rw [hy, List.append_assoc]
    rfl
theorem readT_written {rows : Rows} (hl : rows.length ≤ 3) (hok : ∀ r ∈ rows, r.1.fit = true ∧ r.1.parts ≤ 5) (hb : rowsBys rows ≤ 4) : readT (textS rows) = .ok rows := by
  unfold readT readS
  rw [text_split fun r hr => (hok r hr).1, List.dropLast_concat, readL_written rows 0 4 [] (by omega) hok hb, List.getLast?_concat]
  dsimp only
  rw [if_pos rfl, List.nil_append]
/-! pieces of any text -/
theorem spl_small (S : List Nat) (n : Nat) : ∀ (l acc : List Nat) (k : Nat), acc.length + l.length ≤ n → spl S k acc l ≠ [] ∧ ∀ p ∈ spl S k acc l, p.length ≤ n
  | [], acc, k, h => by
    rw [TL.spl_nil]
    exact ⟨by simp, fun p hp => by rw [List.mem_singleton.mp hp]; simp only [List.length_nil] at h; omega⟩
  | c :: r, acc, 0, h => by
    rw [List.length_cons] at h
    cases e : TL.pre S (c :: r) with
    | true =>
      rw [TL.spl_hit e]
      refine ⟨by simp, fun p hp => ?_⟩
      rcases List.mem_cons.mp hp with rfl | hp
      · omega
      · exact (spl_small S n r [] _ (by simp only [List.length_nil]; omega)).2 p hp
    | false =>
      rw [TL.spl_miss e]
      exact spl_small S n r (acc ++ [c]) 0 (by rw [List.length_append, List.length_singleton]; omega)
  | c :: r, acc, k + 1, h => spl_small S n r acc k (by rw [List.length_cons] at h; omega)
theorem split_small {x y : Str} (hy : TL.tl y ≠ []) (hk : y.cps.all (· < 256) = true) : Txt.split x y ≠ [] ∧ ∀ p ∈ Txt.split x y, p.length ≤ x.length := by
  have h := TL.split_spl x y hy (TL.kind_ok hk)
  obtain ⟨h1, h2⟩ := spl_small (TL.tl y) x.length (TL.tl x) [] 0 (by rw [List.length_nil, ← TL.len_tl]; omega)
  rw [← h] at h1 h2
  refine ⟨fun e => h1 (by rw [e]; rfl), fun p hp => ?_⟩
  have := h2 _ (List.mem_map.mpr ⟨p, hp, rfl⟩)
  rw [TL.len_tl]
  exact this
theorem lines_small (x : Str) : Txt.split x "\n" ≠ [] ∧ ∀ p ∈ Txt.split x "\n", p.length ≤ x.length := split_small (by decide +kernel) (by decide +kernel)
theorem words_small (x : Str) : Txt.split x " " ≠ [] ∧ ∀ p ∈ Txt.split x " ", p.length ≤ x.length := split_small (by decide +kernel) (by decide +kernel)
theorem cut_last {α : Type} (f : α → V) (ls : List α) : cutV (ls.map f) none (some (-1)) = ls.dropLast.map f := by
  unfold cutV
  have h1 : HT.sIx (ls.map f).length 0 none = 0 := rfl
  have h2 : HT.sIx (ls.map f).length (ls.map f).length (some (-1)) = ls.length - 1 := by
    rw [List.length_map]
    show (if (-1 : Int) < 0 then (-1 + (ls.length : Int)).toNat else min (-1 : Int).toNat ls.length) = _
    rw [if_pos (by decide)]
    omega
  rw [h1, h2, List.drop_zero, Nat.sub_zero, ← List.map_take, ← List.dropLast_eq_take]
theorem at_last {ls : List Str} (h : ls ≠ []) : ∃ z, ls.getLast? = some z ∧ atI (ls.map V.str) (-1) = some (.str z) := by
  have hl : 0 < ls.length := List.length_pos_iff.mpr h
  refine ⟨ls.getLast h, List.getLast?_eq_some_getLast h, ?_⟩
  have e : ixN (ls.map V.str).length (-1) = some (ls.length - 1) := by
    unfold ixN
    rw [if_neg (by decide), List.length_map, if_pos (by omega)]
    exact congrArg some (by omega)
  unfold atI
  rw [e]
  show (ls.map V.str)[ls.length - 1]? = _
  rw [List.getElem?_map, List.getElem?_eq_getElem (show ls.length - 1 < ls.length by omega), List.getLast_eq_getElem]
  rfl
theorem readT_bad {t : Str} {i j : Nat} (h : readL (Txt.split t "\n").dropLast 0 4 [] = .bad i j) : readT t = .bad i j := by
  unfold readT readS
  rw [h]
end WF

set_option Elab.async false
set_option linter.all false
set_option maxRecDepth 100000
set_option maxHeartbeats 1000000
/-! WScan: the law's own reading of a line, part by part, says what the reader says -/
namespace WF
open PySem PySem.Spec PyProof.Rows L2 Evl TL
/-- n: parts that can still come; du: rules that are due -/
def scan : Nat → List Str → Nat → Nat → Nat → Option Nat × Nat
  | _, ws, a, 0, ro => (if a < ws.length then some (a + 1) else none, ro)
  | 0, _, _, _ + 1, _ => (none, 0)
  | n + 1, ws, a, du + 1, ro => match takeW ws a (able (4 - n) (du + 1) ro) with
    | none => (some (a + 1), ro)
    | some z =>
      if z ∈ ends3 then match takeN ws (a + 1) (leafN z) with
        | none => (some (a + 2), ro)
        | some _ => scan n ws (a + 2) du ro
      else if z = "behind" then match takeN ws (a + 1) (bysL ro) with
        | none => (some (a + 2), ro)
        | some b => scan n ws (a + 2) (du + 1) (ro - b.natAbs)
      else scan n ws (a + 1) (du + 2) ro
theorem scan_end (n : Nat) (ws : List Str) (a ro : Nat) : scan n ws a 0 ro = (if a < ws.length then some (a + 1) else none, ro) := by cases n <;> rfl
theorem scan_more (n : Nat) (ws : List Str) (a du ro : Nat) : scan (n + 1) ws a (du + 1) ro = match takeW ws a (able (4 - n) (du + 1) ro) with
    | none => (some (a + 1), ro)
    | some z =>
      if z ∈ ends3 then match takeN ws (a + 1) (leafN z) with
        | none => (some (a + 2), ro)
        | some _ => scan n ws (a + 2) du ro
      else if z = "behind" then match takeN ws (a + 1) (bysL ro) with
        | none => (some (a + 2), ro)
        | some b => scan n ws (a + 2) (du + 1) (ro - b.natAbs)
      else scan n ws (a + 1) (du + 2) ro := rfl
def Agree (x : Res) (du : Nat) (ws : List Str) (s : Option Nat × Nat) : Prop := match x with
  | .bad i => s.1 = some (i + 1)
  | .ok _ a1 pa1 _ ro1 => s = scan (5 - pa1) ws a1 du ro1
theorem parse_scan : ∀ (m : Nat) (ws : List Str) (a pa du ro : Nat), pa + du + 1 ≤ 5 → 5 ≤ pa + m → a ≤ ws.length → Agree (parse m ws a pa (du + 1) ro) du ws (scan (5 - pa) ws a (du + 1) ro)
  | 0, _, _, _, _, _, h1, h2, _ => by omega
  | m + 1, ws, a, pa, du, ro, h1, h2, ha => by
    obtain ⟨n, hn⟩ : ∃ n, 5 - pa = n + 1 := ⟨4 - pa, by omega⟩
    have hpa : 4 - n = pa := by omega
    have h5 : 5 - (pa + 1) = n := by omega
    have key := parse_scan m ws
    rw [hn, scan_more, hpa]
    unfold parse
    cases e : takeW ws a (able pa (du + 1) ro) with
    | none => exact rfl
    | some z =>
      dsimp only
      obtain ⟨hl, hm, _⟩ := takeW_lt e
      by_cases hz : z ∈ ends3
      · rw [if_pos hz, if_pos hz]
        cases e2 : takeN ws (a + 1) (leafN z) with
        | none => exact rfl
        | some k =>
          show scan n ws (a + 2) du ro = scan (5 - (pa + 1)) ws (a + 2) du ro
          rw [h5]
      · rw [if_neg hz, if_neg hz]
        have hab : (z = "behind" → pa + (du + 1) < 5) ∧ (z ≠ "behind" → pa + (du + 1) < 4) := by
          unfold able at hm
          by_cases q : pa + (du + 1) < 4
          · exact ⟨fun _ => by omega, fun _ => q⟩
          · rw [if_neg q, List.append_nil] at hm
            by_cases q2 : pa + (du + 1) < 5 ∧ 0 < ro
            · rw [if_pos q2] at hm
              rcases List.mem_append.mp hm with hm | hm
              · exact absurd hm hz
              · exact ⟨fun _ => q2.1, fun hb => absurd (List.mem_singleton.mp hm) hb⟩
            · rw [if_neg q2] at hm
              exact absurd hm hz
        by_cases hb : z = "behind"
        · rw [if_pos hb, if_pos hb]
          have hlt := hab.1 hb
          cases e2 : takeN ws (a + 1) (bysL ro) with
          | none => exact rfl
          | some b =>
            dsimp only
            have h4 := (takeN_lt e2).1
            have ih := key (a + 2) (pa + 1) du (ro - b.natAbs) (by omega) (by omega) (by omega)
            rw [h5] at ih
            cases e3 : parse m ws (a + 2) (pa + 1) (du + 1) (ro - b.natAbs) with
            | bad i => rw [e3] at ih; exact ih
            | ok r a1 pa1 du1 ro1 => rw [e3] at ih; exact ih
        · rw [if_neg hb, if_neg hb]
          have hlt := hab.2 hb
          have ih := key (a + 1) (pa + 1) (du + 1) ro (by omega) (by omega) (by omega)
          rw [h5] at ih
          cases e3 : parse m ws (a + 1) (pa + 1) (du + 1 + 1) ro with
          | bad i => rw [e3] at ih; exact ih
          | ok x a1 pa1 du1 ro1 =>
            rw [e3] at ih
            have ih : scan n ws (a + 1) (du + 1 + 1) ro = scan (5 - pa1) ws a1 (du + 1) ro1 := ih
            obtain ⟨k1, k2, k3, k4⟩ := parse_keep m ws _ _ _ _ e3 (by omega) (by omega) (by omega)
            obtain ⟨_, k5, _, _⟩ := parse_sound m ws _ _ _ _ e3
            have hdu : du1 = du + 1 := by omega
            subst hdu
            dsimp only
            show Agree _ du ws (scan n ws (a + 1) (du + 2) ro)
            have ih2 := key a1 pa1 du ro1 (by omega) (by omega) k3
            rw [show scan n ws (a + 1) (du + 2) ro = _ from ih]
            cases e4 : parse m ws a1 pa1 (du + 1) ro1 with
            | bad i => rw [e4] at ih2; exact ih2
            | ok y a2 pa2 du2 ro2 => rw [e4] at ih2; exact ih2
/-- the law's line -/
def lineD (ws : List Str) (ro : Nat) : Option Nat × Nat := match takeW ws 0 begins2 with
  | none => (some 1, ro)
  | some _ => scan 5 ws 1 1 ro
/-- the law's text: (line, word) of the first word that cannot stand -/
def dueL : List Str → Nat → Nat → Option (Nat × Nat)
  | [], _, _ => none
  | l :: ls, k, ro => if k = 3 then some (4, 1) else match lineD (Txt.split l " ") ro with
    | (some j, _) => some (k + 1, j)
    | (none, ro') => dueL ls (k + 1) ro'
def dueS (ls : List Str) : Option (Nat × Nat) := match dueL ls.dropLast 0 4 with
  | some p => some p
  | none => if ls.getLast? = some ("" : Str) then none else some (ls.length, 1)
def RRes.told : RRes → Option (Nat × Nat)
  | .ok _ => none
  | .bad i j => some (i, j)
theorem dueL_read : ∀ (ls : List Str) (k ro : Nat) (acc : Rows), k ≤ 3 → (readL ls k ro acc).told = dueL ls k ro
  | [], _, _, _, _ => rfl
  | l :: ls, k, ro, acc, hk => by
    rw [readL_cons]
    unfold dueL
    by_cases h3 : k = 3
    · subst h3
      rw [if_neg (by decide), if_pos rfl]
      have : takeW (Txt.split l " ") 0 [] = none := by
        unfold takeW
        split
        · rfl
        · rw [if_neg (by simp)]
      rw [this]
      rfl
    · rw [if_pos (show k < 3 by omega), if_neg h3]
      unfold lineD
      cases e : takeW (Txt.split l " ") 0 begins2 with
      | none => rfl
      | some z =>
        dsimp only
        have hl := (takeW_lt e).1
        have ag := parse_scan 5 (Txt.split l " ") 1 0 0 ro (by omega) (by omega) (by omega)
        cases e2 : parse 5 (Txt.split l " ") 1 0 1 ro with
        | bad i =>
          rw [e2] at ag
          have ag : (scan 5 (Txt.split l " ") 1 1 ro).1 = some (i + 1) := ag
          dsimp only
          cases e3 : scan 5 (Txt.split l " ") 1 1 ro with
          | mk o r =>
            rw [e3] at ag
            dsimp only at ag
            subst ag
            rfl
        | ok r a1 pa1 du1 ro1 =>
          rw [e2] at ag
          have ag : scan 5 (Txt.split l " ") 1 1 ro = scan (5 - pa1) (Txt.split l " ") a1 0 ro1 := ag
          rw [ag, scan_end]
          dsimp only
          by_cases h : a1 < (Txt.split l " ").length
          · rw [if_pos h, if_pos h]
            rfl
          · rw [if_neg h, if_neg h]
            exact dueL_read ls (k + 1) ro1 _ (by omega)
theorem dueS_read (ls : List Str) : (readS ls).told = dueS ls := by
  unfold readS dueS
  rw [← dueL_read ls.dropLast 0 4 [] (by decide)]
  cases readL ls.dropLast 0 4 [] with
  | bad i j => rfl
  | ok rows =>
    dsimp only [RRes.told]
    by_cases h : ls.getLast? = some ("" : Str)
    · rw [if_pos h, if_pos h]
    · rw [if_neg h, if_neg h]
/-! the law's tests -/
def seven : List Str := ["weekday", "first", "monthday", "behind", "both", "either", "without"]
def needW (z : Str) : Nat := if z ∈ pairs3 then 2 else if z = "behind" then 1 else 0
theorem seven_iff {z : Str} : z ∈ seven ↔ z ∈ ends3 ∨ z = "behind" ∨ z ∈ pairs3 := by
  have e : seven = ends3 ++ ([("behind" : Str)] ++ pairs3) := rfl
  rw [e, List.mem_append, List.mem_append, List.mem_singleton]
theorem ends_no {z : Str} (h : z ∈ ends3) : z ≠ "behind" ∧ z ∉ pairs3 := by
  simp only [ends3, List.mem_cons, List.not_mem_nil, or_false] at h
  rcases h with rfl | rfl | rfl <;> exact ⟨by decide +kernel, by decide +kernel⟩
theorem behind_no : ("behind" : Str) ∉ ends3 ∧ ("behind" : Str) ∉ pairs3 := ⟨by decide +kernel, by decide +kernel⟩
theorem pairs_no {z : Str} (h : z ∈ pairs3) : z ≠ "behind" ∧ z ∉ ends3 := by
  simp only [pairs3, List.mem_cons, List.not_mem_nil, or_false] at h
  rcases h with rfl | rfl | rfl <;> exact ⟨by decide +kernel, by decide +kernel⟩
theorem able_iff0 {pa du ro : Nat} {z : Str} : z ∈ able pa du ro ↔ z ∈ ends3 ∨ (z = "behind" ∧ pa + du < 5 ∧ 0 < ro) ∨ (z ∈ pairs3 ∧ pa + du < 4) := by
  unfold able
  rw [List.mem_append]
  by_cases c1 : pa + du < 5 ∧ 0 < ro
  · rw [if_pos c1, List.mem_append, List.mem_singleton]
    by_cases c2 : pa + du < 4
    · rw [if_pos c2]
      constructor
      · rintro ((h | h) | h)
        · exact .inl h
        · exact .inr (.inl ⟨h, c1⟩)
        · exact .inr (.inr ⟨h, c2⟩)
      · rintro (h | h | h)
        · exact .inl (.inl h)
        · exact .inl (.inr h.1)
        · exact .inr h.1
    · rw [if_neg c2]
      constructor
      · rintro ((h | h) | h)
        · exact .inl h
        · exact .inr (.inl ⟨h, c1⟩)
        · cases h
      · rintro (h | h | h)
        · exact .inl (.inl h)
        · exact .inl (.inr h.1)
        · exact absurd h.2 c2
  · rw [if_neg c1]
    by_cases c2 : pa + du < 4
    · rw [if_pos c2]
      constructor
      · rintro (h | h)
        · exact .inl h
        · exact .inr (.inr ⟨h, c2⟩)
      · rintro (h | h | h)
        · exact .inl h
        · exact absurd h.2 c1
        · exact .inr h.1
    · rw [if_neg c2]
      constructor
      · rintro (h | h)
        · exact .inl h
        · cases h
      · rintro (h | h | h)
        · exact .inl h
        · exact absurd h.2 c1
        · exact absurd h.2 c2
theorem able_iff {pa du ro : Nat} {z : Str} (h5 : pa + du ≤ 5) : z ∈ able pa du ro ↔ z ∈ seven ∧ ¬ (5 < pa + du + needW z ∨ (z = "behind" ∧ ro = 0)) := by
  rw [able_iff0, seven_iff]
  unfold needW
  by_cases he : z ∈ ends3
  · obtain ⟨h1, h2⟩ := ends_no he
    rw [if_neg h2, if_neg h1]
    exact ⟨fun _ => ⟨.inl he, fun q => q.elim (fun q => by omega) fun q => h1 q.1⟩, fun _ => .inl he⟩
  · by_cases hb : z = "behind"
    · have h2 : z ∉ pairs3 := hb ▸ behind_no.2
      rw [if_neg h2, if_pos hb]
      constructor
      · rintro (h | h | h)
        · exact absurd h he
        · exact ⟨.inr (.inl hb), fun q => q.elim (fun q => by omega) fun q => by omega⟩
        · exact absurd h.1 h2
      · rintro ⟨_, h⟩
        refine .inr (.inl ⟨hb, ?_, ?_⟩)
        · have : ¬ 5 < pa + du + 1 := fun q => h (.inl q)
          omega
        · have : ¬ ro = 0 := fun q => h (.inr ⟨hb, q⟩)
          omega
    · by_cases hp : z ∈ pairs3
      · rw [if_pos hp]
        constructor
        · rintro (h | h | h)
          · exact absurd h he
          · exact absurd h.1 hb
          · exact ⟨.inr (.inr hp), fun q => q.elim (fun q => by omega) fun q => hb q.1⟩
        · rintro ⟨_, h⟩
          refine .inr (.inr ⟨hp, ?_⟩)
          have : ¬ 5 < pa + du + 2 := fun q => h (.inl q)
          omega
      · exact ⟨fun h => h.elim (fun h => absurd h he) fun h => h.elim (fun h => absurd h.1 hb) fun h => absurd h.1 hp, fun h => h.1.elim (fun h => absurd h he) fun h => h.elim (fun h => absurd h hb) fun h => absurd h hp⟩
theorem q_able {pa du ro : Nat} : ("?" : Str) ∉ able pa du ro := fun h => by
  rcases able_iff0.mp h with h | h | h
  · exact absurd h (by decide +kernel)
  · exact absurd h.1 (by decide +kernel)
  · exact absurd h.1 (by decide +kernel)
theorem takeW_getD {ws zs : List Str} {a : Nat} (hq : ("?" : Str) ∉ zs) : takeW ws a zs = if (ws[a]?).getD "?" ∈ zs then some ((ws[a]?).getD "?") else none := by
  unfold takeW
  cases e : ws[a]? with
  | none => exact (if_neg hq).symm
  | some z => rfl
def bys4 : List Int := [-2, -1, 1, 2]
theorem bysL_sub {ro : Nat} {b : Int} (h : b ∈ bysL ro) : b ∈ bys4 := (List.mem_filter.mp h).1
/-- a number behind `behind` -/
theorem takeN_bys {ws : List Str} {a ro : Nat} : takeN ws a (bysL ro) = match takeN ws a bys4 with
    | none => none
    | some b => if b.natAbs ≤ ro then some b else none := by
  have r4 : ∀ i ∈ bys4, -3 ≤ i ∧ i ≤ 2 := by decide
  cases e : takeN ws a bys4 with
  | none =>
    dsimp only
    cases e2 : takeN ws a (bysL ro) with
    | none => rfl
    | some b =>
      obtain ⟨h1, h2, h3⟩ := takeN_lt e2
      obtain ⟨_, _, h4⟩ := takeW_lt h3
      rw [takeN_is (bysL_ran _ h2) r4 h4 (bysL_sub h2)] at e
      cases e
  | some b =>
    dsimp only
    obtain ⟨h1, h2, h3⟩ := takeN_lt e
    obtain ⟨_, _, h4⟩ := takeW_lt h3
    by_cases hb : b.natAbs ≤ ro
    · rw [if_pos hb]
      exact takeN_is (r4 _ h2) bysL_ran h4 (List.mem_filter.mpr ⟨h2, decide_eq_true hb⟩)
    · rw [if_neg hb]
      cases e2 : takeN ws a (bysL ro) with
      | none => rfl
      | some c =>
        obtain ⟨g1, g2, g3⟩ := takeN_lt e2
        obtain ⟨_, _, g4⟩ := takeW_lt g3
        rw [h4] at g4
        have := numS_inj (r4 _ h2) (bysL_ran _ g2) (Option.some.inj g4)
        subst this
        exact absurd (bysL_in g2).2 hb
/-! how many pieces; the room that is left -/
theorem spl_len (S : List Nat) : ∀ (l acc : List Nat) (k : Nat), (spl S k acc l).length ≤ l.length + 1
  | [], acc, k => by
    rw [TL.spl_nil]
    exact Nat.le_refl _
  | c :: r, acc, 0 => by
    cases e : TL.pre S (c :: r) with
    | true =>
      rw [TL.spl_hit e, List.length_cons, List.length_cons]
      exact Nat.succ_le_succ (spl_len S r [] _)
    | false =>
      rw [TL.spl_miss e, List.length_cons]
      exact Nat.le_succ_of_le (spl_len S r _ 0)
  | c :: r, acc, k + 1 => by
    rw [List.length_cons]
    exact Nat.le_succ_of_le (spl_len S r acc k)
theorem split_len {x y : Str} (hy : TL.tl y ≠ []) (hk : y.cps.all (· < 256) = true) : (Txt.split x y).length ≤ x.length + 1 := by
  have h := TL.split_spl x y hy (TL.kind_ok hk)
  have h2 := spl_len (TL.tl y) (TL.tl x) [] 0
  rw [← h, List.length_map, ← TL.len_tl] at h2
  exact h2
theorem lines_len (x : Str) : (Txt.split x "\n").length ≤ x.length + 1 := split_len (by decide +kernel) (by decide +kernel)
theorem words_lenS (x : Str) : (Txt.split x " ").length ≤ x.length + 1 := split_len (by decide +kernel) (by decide +kernel)
theorem scan_room : ∀ (n : Nat) (ws : List Str) (a du ro : Nat), (scan n ws a du ro).2 ≤ ro
  | n, ws, a, 0, ro => by rw [scan_end]; exact Nat.le_refl _
  | 0, _, _, _ + 1, _ => Nat.zero_le _
  | n + 1, ws, a, du + 1, ro => by
    rw [scan_more]
    cases takeW ws a (able (4 - n) (du + 1) ro) with
    | none => exact Nat.le_refl _
    | some z =>
      dsimp only
      split
      · cases takeN ws (a + 1) (leafN z) with
        | none => exact Nat.le_refl _
        | some k => exact scan_room n ws _ _ _
      · split
        · cases takeN ws (a + 1) (bysL ro) with
          | none => exact Nat.le_refl _
          | some b => exact Nat.le_trans (scan_room n ws _ _ _) (Nat.sub_le _ _)
        · exact scan_room n ws _ _ _
theorem lineD_room (ws : List Str) (ro : Nat) : (lineD ws ro).2 ≤ ro := by
  unfold lineD
  cases takeW ws 0 begins2 with
  | none => exact Nat.le_refl _
  | some z => exact scan_room _ _ _ _ _
theorem dueL_cons (l : Str) (ls : List Str) (k ro : Nat) : dueL (l :: ls) k ro = if k = 3 then some (4, 1) else match lineD (Txt.split l " ") ro with
    | (some j, _) => some (k + 1, j)
    | (none, ro') => dueL ls (k + 1) ro' := rfl
end WF

set_option Elab.async false
set_option linter.all false
set_option maxRecDepth 100000
set_option maxHeartbeats 1000000
/-! WStrM: a text times a number -/
namespace WF
open PySem PySem.Spec PyProof.Rows L2 Evl TL
section
variable {X : Cx}
def rSRep : R2 := fun x y H Q => ∃ a i, x = .str a ∧ y = .int i ∧ a.length ≤ 1000 ∧ 0 ≤ i ∧ i ≤ 1000 ∧ Q (.str (Txt.mul a i)) H
theorem op_srep : OpR X (binaryOp .Mult) rSRep := by
  intro pins s σ H x y v u Q I rx ry h
  obtain ⟨a, i, rfl, rfl, hl, h0, h1, q⟩ := h
  obtain ⟨t, rfl⟩ := rx
  obtain ⟨t2, rfl⟩ := ry
  exact SB.mul (mulOk_of 1000 1000 hl (by omega) (by omega) (by decide) (by decide)) fun t' k => ⟨.str _, H, I.tok _, ⟨_, rfl⟩, q⟩
end
theorem mul_len {a : Str} {i : Int} (h0 : 0 ≤ i) : (Txt.mul a i).length = a.length * i.toNat := by
  have e := len_mul a i
  rw [if_neg (fun c => absurd (of_decide_eq_true c) (by omega))] at e
  have e2 : ((Txt.mul a i).length : Int) = ((a.length * i.toNat : Nat) : Int) := by rw [e, Int.natCast_mul, Int.toNat_of_nonneg h0]
  exact Int.ofNat.inj e2
section
variable {K : PySem.W.Frag} {σ : L2.St} {H : Hp} {ta tb : TE}
theorem rv_srep {a : Str} {i : Int} (hl : a.length ≤ 1000) (h0 : 0 ≤ i) (h1 : i ≤ 1000) : RV rSRep (.str a) (.int i) H (.str (Txt.mul a i)) := fun H1 _ _ q => ⟨a, i, rfl, rfl, hl, h0, h1, q H1 (Ex.refl H1)⟩
end
/-- what is told: None, or (line, word) -/
def TolV (K : PySem.W.Frag) (H : Hp) (v : V) : Option (Nat × Nat) → Prop
  | none => v = .non
  | some (i, j) => ∃ p, v = .ref p ∧ SqT K H p [.int (i : Int), .int (j : Int)]
theorem TolV.mono {K : PySem.W.Frag} {H H' : Hp} {v : V} {o : Option (Nat × Nat)} (e : Ex H H') (h : TolV K H v o) : TolV K H' v o := by
  cases o with
  | none => exact h
  | some z =>
    obtain ⟨p, h1, h2⟩ := h
    exact ⟨p, h1, ex_t e h2⟩
end WF

set_option Elab.async false
set_option linter.all false
set_option maxRecDepth 100000
set_option maxHeartbeats 2000000
/-! the text by its places -/
namespace WF
open PySem L2 Evl
def top (i : Nat) : Stmt := PySem.Challenge.pw_weekfeasts_k12_whole_texts_refused.main.body.getD i (.Pass ⟨0, 0, 0, 0⟩)
abbrev s_is_in : Stmt := top 14
theorem sc_is_in : FnScope ["value", "some"] ["value", "some"] (defScope s_is_in) := ⟨rfl, rfl, rfl, by decide +kernel, rfl, by decide +kernel, by decide +kernel⟩
abbrev s_within : Stmt := top 15
theorem sc_within : FnScope ["rule"] ["rule"] (defScope s_within) := ⟨rfl, rfl, rfl, by decide +kernel, rfl, by decide +kernel, by decide +kernel⟩
abbrev s_size_of : Stmt := top 16
theorem sc_size_of : FnScope ["value", "room", "parts", "bys", "rule", "found"] ["value", "room"] (defScope s_size_of) := ⟨rfl, rfl, rfl, by decide +kernel, rfl, by decide +kernel, by decide +kernel⟩
abbrev s_is_rule : Stmt := top 17
theorem sc_is_rule : FnScope ["value", "size"] ["value"] (defScope s_is_rule) := ⟨rfl, rfl, rfl, by decide +kernel, rfl, by decide +kernel, by decide +kernel⟩
abbrev s_Feast_init : Stmt := inClass (top 18) 0
theorem sc_Feast_init : FnScope ["self", "rule"] ["self", "rule"] (defScope s_Feast_init) := ⟨rfl, rfl, rfl, by decide +kernel, rfl, by decide +kernel, by decide +kernel⟩
abbrev s_Feast_rule : Stmt := inClass (top 18) 1
theorem sc_Feast_rule : FnScope ["self"] ["self"] (defScope s_Feast_rule) := ⟨rfl, rfl, rfl, by decide +kernel, rfl, by decide +kernel, by decide +kernel⟩
abbrev s_Feast_eq : Stmt := inClass (top 18) 2
theorem sc_Feast_eq : FnScope ["self", "other"] ["self", "other"] (defScope s_Feast_eq) := ⟨rfl, rfl, rfl, by decide +kernel, rfl, by decide +kernel, by decide +kernel⟩
abbrev s_Feast_and : Stmt := inClass (top 18) 3
theorem sc_Feast_and : FnScope ["self", "other"] ["self", "other"] (defScope s_Feast_and) := ⟨rfl, rfl, rfl, by decide +kernel, rfl, by decide +kernel, by decide +kernel⟩
abbrev s_Feast_or : Stmt := inClass (top 18) 4
theorem sc_Feast_or : FnScope ["self", "other"] ["self", "other"] (defScope s_Feast_or) := ⟨rfl, rfl, rfl, by decide +kernel, rfl, by decide +kernel, by decide +kernel⟩
abbrev s_Feast_sub : Stmt := inClass (top 18) 5
theorem sc_Feast_sub : FnScope ["self", "other"] ["self", "other"] (defScope s_Feast_sub) := ⟨rfl, rfl, rfl, by decide +kernel, rfl, by decide +kernel, by decide +kernel⟩
abbrev s_Feast_moved : Stmt := inClass (top 18) 6
theorem sc_Feast_moved : FnScope ["self", "by"] ["self", "by"] (defScope s_Feast_moved) := ⟨rfl, rfl, rfl, by decide +kernel, rfl, by decide +kernel, by decide +kernel⟩
abbrev s_is_pair : Stmt := top 22
theorem sc_is_pair : FnScope ["value"] ["value"] (defScope s_is_pair) := ⟨rfl, rfl, rfl, by decide +kernel, rfl, by decide +kernel, by decide +kernel⟩
abbrev s_Calendar_init : Stmt := inClass (top 23) 0
theorem sc_Calendar_init : FnScope ["self", "rules", "index", "rule", "bys", "feast", "yields"] ["self", "rules"] (defScope s_Calendar_init) := ⟨rfl, rfl, rfl, by decide +kernel, rfl, by decide +kernel, by decide +kernel⟩
abbrev s_Calendar_rules : Stmt := inClass (top 23) 1
theorem sc_Calendar_rules : FnScope ["self"] ["self"] (defScope s_Calendar_rules) := ⟨rfl, rfl, rfl, by decide +kernel, rfl, by decide +kernel, by decide +kernel⟩
abbrev s_Calendar_reach : Stmt := inClass (top 23) 2
theorem sc_Calendar_reach : FnScope ["self"] ["self"] (defScope s_Calendar_reach) := ⟨rfl, rfl, rfl, by decide +kernel, rfl, by decide +kernel, by decide +kernel⟩
abbrev s_Calendar_eq : Stmt := inClass (top 23) 3
theorem sc_Calendar_eq : FnScope ["self", "other"] ["self", "other"] (defScope s_Calendar_eq) := ⟨rfl, rfl, rfl, by decide +kernel, rfl, by decide +kernel, by decide +kernel⟩
abbrev s_Line_init : Stmt := inClass (top 26) 0
theorem sc_Line_init : FnScope ["self", "number", "text", "room"] ["self", "number", "text", "room"] (defScope s_Line_init) := ⟨rfl, rfl, rfl, by decide +kernel, rfl, by decide +kernel, by decide +kernel⟩
abbrev s_Line_take : Stmt := inClass (top 26) 1
theorem sc_Line_take : FnScope ["self", "some"] ["self", "some"] (defScope s_Line_take) := ⟨rfl, rfl, rfl, by decide +kernel, rfl, by decide +kernel, by decide +kernel⟩
abbrev s_Line_take_number : Stmt := inClass (top 26) 2
theorem sc_Line_take_number : FnScope ["self", "some", "number"] ["self", "some"] (defScope s_Line_take_number) := ⟨rfl, rfl, rfl, by decide +kernel, rfl, by decide +kernel, by decide +kernel⟩
abbrev s_Line_whole_rule : Stmt := inClass (top 26) 3
theorem sc_Line_whole_rule : FnScope ["self", "left", "words", "word", "by", "one", "number"] ["self"] (defScope s_Line_whole_rule) := ⟨rfl, rfl, rfl, by decide +kernel, rfl, by decide +kernel, by decide +kernel⟩
abbrev s_Line_end : Stmt := inClass (top 26) 4
theorem sc_Line_end : FnScope ["self"] ["self"] (defScope s_Line_end) := ⟨rfl, rfl, rfl, by decide +kernel, rfl, by decide +kernel, by decide +kernel⟩
abbrev s_read : Stmt := top 27
theorem sc_read : FnScope ["text", "lines", "rules", "room", "at", "row", "line", "yields"] ["text"] (defScope s_read) := ⟨rfl, rfl, rfl, by decide +kernel, rfl, by decide +kernel, by decide +kernel⟩
abbrev s_l_random : Stmt := top 29
theorem sc_l_random : FnScope ["_law_script", "_law_salt", "_law_seed", "_law_cell"] ["_law_script", "_law_salt"] (defScope s_l_random) := ⟨rfl, rfl, rfl, by decide +kernel, rfl, by decide +kernel, by decide +kernel⟩
abbrev s_l_below : Stmt := top 30
theorem sc_l_below : FnScope ["_law_d", "_law_size", "_law_result"] ["_law_d", "_law_size"] (defScope s_l_below) := ⟨rfl, rfl, rfl, by decide +kernel, rfl, by decide +kernel, by decide +kernel⟩
abbrev s_l_pick : Stmt := top 31
theorem sc_l_pick : FnScope ["_law_d", "_law_items"] ["_law_d", "_law_items"] (defScope s_l_pick) := ⟨rfl, rfl, rfl, by decide +kernel, rfl, by decide +kernel, by decide +kernel⟩
abbrev s_l_equal : Stmt := top 32
theorem sc_l_equal : FnScope ["_law_actual", "_law_expected", "_law_key", "_law_k"] ["_law_actual", "_law_expected"] (defScope s_l_equal) := ⟨rfl, rfl, rfl, by decide +kernel, rfl, by decide +kernel, by decide +kernel⟩
abbrev s_l_leaf : Stmt := top 33
theorem sc_l_leaf : FnScope ["_law_d"] ["_law_d"] (defScope s_l_leaf) := ⟨rfl, rfl, rfl, by decide +kernel, rfl, by decide +kernel, by decide +kernel⟩
abbrev s_l_rule : Stmt := top 34
theorem sc_l_rule : FnScope ["_law_d", "_law_left", "_law_pick_here", "_law_by", "_law_word", "_law_one"] ["_law_d", "_law_left"] (defScope s_l_rule) := ⟨rfl, rfl, rfl, by decide +kernel, rfl, by decide +kernel, by decide +kernel⟩
abbrev s_l_rows : Stmt := top 35
theorem sc_l_rows : FnScope ["_law_d", "_law_many", "_law_parts", "_law_bys", "_law_found", "_law_k", "_law_left", "_law_rule_here"] ["_law_d", "_law_many", "_law_parts"] (defScope s_l_rows) := ⟨rfl, rfl, rfl, by decide +kernel, rfl, by decide +kernel, by decide +kernel⟩
abbrev s_l_words : Stmt := top 36
theorem sc_l_words : FnScope ["_law_rule_here"] ["_law_rule_here"] (defScope s_l_words) := ⟨rfl, rfl, rfl, by decide +kernel, rfl, by decide +kernel, by decide +kernel⟩
abbrev s_l_lines : Stmt := top 37
theorem sc_l_lines : FnScope ["_law_rows_here", "_law_rule_here", "_law_yields"] ["_law_rows_here"] (defScope s_l_lines) := ⟨rfl, rfl, rfl, by decide +kernel, rfl, by decide +kernel, by decide +kernel⟩
abbrev s_l_told : Stmt := top 38
theorem sc_l_told : FnScope ["_law_text", "_law_told_here", "e"] ["_law_text"] (defScope s_l_told) := ⟨rfl, rfl, rfl, by decide +kernel, rfl, by decide +kernel, by decide +kernel⟩
abbrev s_l_leaves : Stmt := top 39
theorem sc_l_leaves : FnScope ["_law_word"] ["_law_word"] (defScope s_l_leaves) := ⟨rfl, rfl, rfl, by decide +kernel, rfl, by decide +kernel, by decide +kernel⟩
abbrev s_l_line : Stmt := top 40
theorem sc_l_line : FnScope ["_law_words_here", "_law_room", "_law_at", "_law_done", "_law_due_here", "_law_word", "_law_need", "_law_able"] ["_law_words_here", "_law_room"] (defScope s_l_line) := ⟨rfl, rfl, rfl, by decide +kernel, rfl, by decide +kernel, by decide +kernel⟩
abbrev s_l_due : Stmt := top 41
theorem sc_l_due : FnScope ["_law_text", "_law_rows_here", "_law_room", "_law_k", "_law_word"] ["_law_text"] (defScope s_l_due) := ⟨rfl, rfl, rfl, by decide +kernel, rfl, by decide +kernel, by decide +kernel⟩
abbrev s_l_spoilt : Stmt := top 42
theorem sc_l_spoilt : FnScope ["_law_d", "_law_words_here", "_law_more", "_law_at", "_law_some"] ["_law_d", "_law_words_here"] (defScope s_l_spoilt) := ⟨rfl, rfl, rfl, by decide +kernel, rfl, by decide +kernel, by decide +kernel⟩
abbrev s_law : Stmt := top 43
theorem sc_law : FnScope ["_law_script", "_law_d", "_law_k", "_law_lines_here", "_law_pick_here", "_law_words_here", "_law_turn", "_law_text", "_law_deep", "_law_wide", "_law_line_here"] ["_law_script"] (defScope s_law) := ⟨rfl, rfl, rfl, by decide +kernel, rfl, by decide +kernel, by decide +kernel⟩
abbrev s_BadText_init : Stmt := inClass (top 5) 0
theorem scs_BadText_init : ScopeS ["self", "line", "word"] (defScope s_BadText_init) := ⟨rfl, rfl, rfl, by decide +kernel, by decide +kernel, by decide +kernel, rfl, rfl⟩
structure Txt (P : Program) (w : World) (K : PySem.W.Frag) (mg : Str → Option Value) (C_BadRule C_BadRules C_BadText C_Feast C_Calendar C_Line : Addr) : Prop where
  «super» : mg "super" = none
  x_BadText : ErrS P K C_BadText "BadText.__init__" s_BadText_init ["self", "line", "word"] ["line", "word"]
  «len» : mg "len" = none
  «abs» : mg "abs" = none
  «sum» : mg "sum" = none
  «isinstance» : mg "isinstance" = none
  «sorted» : mg "sorted" = none
  «all» : mg "all" = none
  «int» : mg "int" = none
  «str» : mg "str" = none
  «list» : mg "list" = none
  «tuple» : mg "tuple" = none
  «dict» : mg "dict" = none
  «bool» : mg "bool" = none
  «range» : mg "range" = none
  «enumerate» : mg "enumerate" = none
  g_BYS : ∃ a, mg "BYS" = some (.ref a) ∧ ∀ H, SqT K H a bysV
  g_ENDS : ∃ d aW aM, mg "ENDS" = some (.ref d) ∧ EndsAt w K d aW aM
  g_PAIRS : ∃ a, mg "PAIRS" = some (.ref a) ∧ ∀ H, SqT K H a pairsV
  g_MOST_PARTS : ∃ u, mg "MOST_PARTS" = some u ∧ RelV (.int 5) u
  g_MOST_BYS : ∃ u, mg "MOST_BYS" = some u ∧ RelV (.int 4) u
  g_MOST_RULES : ∃ u, mg "MOST_RULES" = some u ∧ RelV (.int 3) u
  g_LEAST_REACH : ∃ u, mg "LEAST_REACH" = some u ∧ RelV (.int 3) u
  k_ENDS : ∀ d, mg "ENDS" = some (.ref d) → ∃ (es : Array DictEntry) (n : Nat), KDict K w d es n ∧ KeysAre es.toList ["weekday", "first", "monthday"]
  k_PAIRS : ∃ a, mg "PAIRS" = some (.ref a) ∧ KTupX K a pairsV ∧ ∀ H, SqT K H a pairsV
  k_BEGINS : ∃ d es n, mg "BEGINS" = some (.ref d) ∧ KDict K w d es n ∧ KeysAre es.toList ["plain", "yields"] ∧ PySem.W.nsIn K d "plain" = some (some (.bool false)) ∧ PySem.W.nsIn K d "yields" = some (some (.bool true))
  c_BadRule : mg "BadRule" = some (.ref C_BadRule)
  e_BadRule : Err K C_BadRule
  c_BadRules : mg "BadRules" = some (.ref C_BadRules)
  c_BadText : mg "BadText" = some (.ref C_BadText)
  c_Feast : mg "Feast" = some (.ref C_Feast)
  c_Calendar : mg "Calendar" = some (.ref C_Calendar)
  c_Line : mg "Line" = some (.ref C_Line)
  f_is_in : FunAt K mg "is_in" s_is_in ["value", "some"]
  f_within : FunAt K mg "within" s_within ["rule"]
  f_size_of : FunAt K mg "size_of" s_size_of ["value", "room"]
  f_is_rule : FunAt K mg "is_rule" s_is_rule ["value"]
  m_Feast_init : MkAt K C_Feast "Feast.__init__" s_Feast_init ["self", "rule"]
  m_Feast_eq : MtAt K C_Feast "__eq__" "Feast.__eq__" s_Feast_eq ["self", "other"]
  m_Feast_and : MtAt K C_Feast "__and__" "Feast.__and__" s_Feast_and ["self", "other"]
  m_Feast_or : MtAt K C_Feast "__or__" "Feast.__or__" s_Feast_or ["self", "other"]
  m_Feast_sub : MtAt K C_Feast "__sub__" "Feast.__sub__" s_Feast_sub ["self", "other"]
  m_Feast_moved : MtAt K C_Feast "moved" "Feast.moved" s_Feast_moved ["self", "by"]
  f_is_pair : FunAt K mg "is_pair" s_is_pair ["value"]
  m_Calendar_init : MkAt K C_Calendar "Calendar.__init__" s_Calendar_init ["self", "rules"]
  m_Calendar_eq : MtAt K C_Calendar "__eq__" "Calendar.__eq__" s_Calendar_eq ["self", "other"]
  m_Line_init : MkAt K C_Line "Line.__init__" s_Line_init ["self", "number", "text", "room"]
  m_Line_take : MtAt K C_Line "take" "Line.take" s_Line_take ["self", "some"]
  m_Line_take_number : MtAt K C_Line "take_number" "Line.take_number" s_Line_take_number ["self", "some"]
  m_Line_whole_rule : MtAt K C_Line "whole_rule" "Line.whole_rule" s_Line_whole_rule ["self"]
  m_Line_end : MtAt K C_Line "end" "Line.end" s_Line_end ["self"]
  f_read : FunAt K mg "read" s_read ["text"]
  f_l_random : FunAt K mg "_law_random" s_l_random ["_law_script", "_law_salt"]
  f_l_below : FunAt K mg "_law_below" s_l_below ["_law_d", "_law_size"]
  f_l_pick : FunAt K mg "_law_pick" s_l_pick ["_law_d", "_law_items"]
  f_l_equal : FunAt K mg "_law_equal" s_l_equal ["_law_actual", "_law_expected"]
  f_l_leaf : FunAt K mg "_law_leaf" s_l_leaf ["_law_d"]
  f_l_rule : FunAt K mg "_law_rule" s_l_rule ["_law_d", "_law_left"]
  f_l_rows : FunAt K mg "_law_rows" s_l_rows ["_law_d", "_law_many", "_law_parts"]
  f_l_words : FunAt K mg "_law_words" s_l_words ["_law_rule_here"]
  f_l_lines : FunAt K mg "_law_lines" s_l_lines ["_law_rows_here"]
  f_l_told : FunAt K mg "_law_told" s_l_told ["_law_text"]
  f_l_leaves : FunAt K mg "_law_leaves" s_l_leaves ["_law_word"]
  f_l_line : FunAt K mg "_law_line" s_l_line ["_law_words_here", "_law_room"]
  f_l_due : FunAt K mg "_law_due" s_l_due ["_law_text"]
  f_l_spoilt : FunAt K mg "_law_spoilt" s_l_spoilt ["_law_d", "_law_words_here"]
  f_law : FunAt K mg "law" s_law ["_law_script"]

end WF

set_option Elab.async false
set_option linter.all false
set_option maxRecDepth 100000
set_option maxHeartbeats 1000000
/-! the errors' own __init__ -/
namespace WF
open PySem L2 Evl
section
variable {P : Program} {w : World} {K : PySem.W.Frag} {mg : Str → Option Value} {base : Heap} {C_BadRule C_BadRules C_BadText C_Feast C_Calendar C_Line : Addr}
theorem me_BadText (T : Txt P w K mg C_BadRule C_BadRules C_BadText C_Feast C_Calendar C_Line) : MnE P w K mg base C_BadText 2 (spE2 C_BadText "line" "word") := by
  obtain ⟨f, fd, cc, cda, SF, h1, h2, hb⟩ := T.x_BadText.sup
  refine ⟨⟨f, fd, _, h1, h2, fn_sup (k := 1) SF T.super scs_BadText_init (fun vs H Q E h => ?_) rfl rfl rfl (fun env => ⟨_, rfl⟩) (fun A outer s H vs Q E hr h => ?_), hb⟩, T.x_BadText.ox⟩
  · obtain ⟨_, _, _, rfl, _⟩ := h
    rfl
  · obtain ⟨a, u, v, rfl, ha, k⟩ := h
    refine ⟨T.x_BadText.ox, ⟨a, rfl, ha⟩, _, pss_cons (ps_ost (pv 0) (pv 1)) (pss_one (ps_ost (pv 0) (pv 2))), _, rfl, _, rfl, a, C_BadText, rfl, T.x_BadText.ox, T.x_BadText.no _ (by simp), .inl ⟨ha, fun dx h1 h2 => ?_⟩⟩
    exact ⟨_, rfl, _, rfl, a, C_BadText, rfl, T.x_BadText.ox, T.x_BadText.no _ (by simp), .inr ⟨dx, _, upd_same, (by rw [upd_ne h2]; exact upd_same), (by show 1 ≤ 900; decide), k dx h1 h2⟩⟩

end
end WF

set_option Elab.async false
set_option linter.all false
set_option maxRecDepth 100000
set_option maxHeartbeats 4000000
/-! feasts' rules: is_in, within, size_of, is_rule -/
namespace WF
open PySem L2 Evl
section
variable {P : Program} {w : World} {K : PySem.W.Frag} {mg : Str → Option Value} {base : Heap} {C_BadRule C_BadRules C_BadText C_Feast C_Calendar C_Line : Addr} {f : Addr} {fd : FuncData}
def inB (o : Option Int) (xs : List V) : Bool := match o with
  | some z => inV (.int z) xs
  | none => false
def spIsIn (K : PySem.W.Frag) : Sp := fun vs H Q _ => ∃ v o a xs, vs = [v, .ref a] ∧ NumV K H v o ∧ SqT K H a xs ∧ xs.all flatV = true ∧ RetV (.bl (inB o xs)) H Q
theorem ok_is_in (F : Fun K "is_in" "is_in" s_is_in f fd) (T : Txt P w K mg C_BadRule C_BadRules C_BadText C_Feast C_Calendar C_Line) : FnOk P w K mg base CX0 1 f fd ["value", "some"] (spIsIn K) := by
  refine F.ok sc_is_in (fun vs H Q E h => ?_) (fun cdv A outer s H vs Q E hr h => ?_)
  · obtain ⟨_, _, _, _, rfl, _⟩ := h
    rfl
  · obtain ⟨v, o, a, xs, rfl, hV, hA, hf, k⟩ := h
    refine ⟨_, (pss_one (ps_ret (pe_and (pe_callB call_isi (by rfl) T.isinstance (by decide +kernel) (pa_cons (pv 0) (pa_cons (pe_bltn (v := .ty "int") (by rfl) T.int (by decide +kernel) rfl) pa_nil))) (pe_and (pe_not (pe_callB call_isi (by rfl) T.isinstance (by decide +kernel) (pa_cons (pv 0) (pa_cons (pe_bltn (v := .ty "bool") (by rfl) T.bool (by decide +kernel) rfl) pa_nil)))) (pe_one (pe_cmpR op_in_seq (pv 0) (pv 1) (by rfl))))))), ?_⟩
    refine s_ret (ev_isInt3 (ev_var rfl) hV (fun z ho hz => ?_) (fun ho => by rw [ho]; rfl)) k
    subst ho hz
    exact ev_op (ev_var rfl) (ev_var rfl) (rv_isT hA rfl hf)
theorem dn_is_in (T : Txt P w K mg C_BadRule C_BadRules C_BadText C_Feast C_Calendar C_Line) : Dn P w K mg base CX0 "is_in" 1 ["value", "some"] (spIsIn K) := T.f_is_in.dn fun _ _ F _ _ => ok_is_in F T
theorem spv_is_in {H : Hp} {v : V} {o : Option Int} {a : Addr} {xs : List V} {b : Bool} (h : NumV K H v o) (ha : SqT K H a xs) (hf : xs.all flatV = true) (hb : inB o xs = b) : SpV (spIsIn K) ([v, .ref a] ++ []) H (.bl b) :=
  spV fun H1 e Q _ q => ⟨v, o, a, xs, rfl, h.mono e, ex_t e ha, hf, by rw [hb]; exact q⟩
def spWithin (K : PySem.W.Frag) : Sp := fun vs H Q _ => ∃ a, vs = [.ref a] ∧ ((∃ s x y, isPair s ∧ SqT K H a [.str s, x, y] ∧ RetL [x, y] H Q) ∨ ∃ x y, SqT K H a [.str "behind", x, y] ∧ RetL [x] H Q)
theorem pair_not {s : Str} (h : isPair s) : decide (s = "both" ∨ s = "either" ∨ s = "without") = true := decide_eq_true h
theorem ok_within (F : Fun K "within" "within" s_within f fd) (T : Txt P w K mg C_BadRule C_BadRules C_BadText C_Feast C_Calendar C_Line) : FnOk P w K mg base CX0 1 f fd ["rule"] (spWithin K) := by
  obtain ⟨aP, gPAIRS, sP⟩ := T.g_PAIRS
  refine F.ok sc_within (fun vs H Q E h => ?_) (fun cdv A outer s H vs Q E hr h => ?_)
  · obtain ⟨_, rfl, _⟩ := h
    rfl
  · obtain ⟨a, rfl, h⟩ := h
    refine ⟨_, (pss_cons (ps_if (pt_cmpR op_in_seq (pe_ix ix_tup (pv 0) pe_int (fun _ _ => rfl)) (pe_glob (v := .ref aP) rfl gPAIRS rfl) (by rfl)) (pss_one (ps_ret (pe_lst (pa_cons (pe_ix ix_tup (pv 0) pe_int (fun _ _ => rfl)) (pa_cons (pe_ix ix_tup (pv 0) pe_int (fun _ _ => rfl)) pa_nil)))))
  pss_nil)
  (pss_one (ps_ret (pe_ifExp (pt_cmpR op_eq (pe_ix ix_tup (pv 0) pe_int (fun _ _ => rfl)) pe_str (nomark _)) (pe_lst (pa_cons (pe_ix ix_tup (pv 0) pe_int (fun _ _ => rfl)) pa_nil)) (pe_lst pa_nil))))), ?_⟩
    rcases h with ⟨s, x, y, hs, hT, k⟩ | ⟨x, y, hT, k⟩
    · refine q_yes (et_is (et_cmp (ev_ixT (ev_var rfl) hT rfl) ev_c (rv_isT (sP _) rfl rfl)) ?_) fun H1 e1 => ?_
      · rw [inV_pairs]; exact pair_not hs
      · exact s_retL (el_lst (ea_cons (ev_ixT (ev_var rfl) (ex_t e1 hT) rfl) (ea_cons (ev_ixT (ev_var rfl) (ex_t e1 hT) rfl) ea_nil)) (by show 2 ≤ 100000; decide)) fun p H2 hp e2 h2 => k p H2 (fresh_back e1 hp) (e1.trans e2) h2
    · refine q_not (et_is (et_cmp (ev_ixT (ev_var rfl) hT rfl) ev_c (rv_isT (sP _) rfl rfl)) ?_) fun H1 e1 => ?_
      · rw [inV_pairs]; decide +kernel
      · exact s_retL (el_ifT (et_str (ev_ixT (ev_var rfl) (ex_t e1 hT) rfl) (by decide +kernel)) (el_lst (ea_cons (ev_ixT (ev_var rfl) (ex_t e1 hT) rfl) ea_nil) (by show 1 ≤ 100000; decide))) fun p H2 hp e2 h2 => k p H2 (fresh_back e1 hp) (e1.trans e2) h2
theorem dn_within (T : Txt P w K mg C_BadRule C_BadRules C_BadText C_Feast C_Calendar C_Line) : Dn P w K mg base CX0 "within" 1 ["rule"] (spWithin K) := T.f_within.dn fun _ _ F _ _ => ok_within F T
def spSize (K : PySem.W.Frag) (n : Nat) : Sp := fun vs H Q _ => ∃ (v : V) (m : Nat) (o : Option (Nat × Nat)), vs = [v, .int m] ∧ m < n ∧ SzAt K H v m o ∧ RetO o H Q
theorem RetO.no {o : Option (Nat × Nat)} {H : Hp} {Q : VK} (k : RetO o H Q) (h : o = none) {H' : Hp} (e : Ex H H') : Q .non H' := k.1 h H' e
theorem et_eqU {σ : L2.St} {H : Hp} {te : TE} {p : Addr} {xs : List V} (h : Ev te σ H (.ref p)) (hT : SqT K H p xs) : EvT (tTest (tOp (rEqE K) te (tTup tNil))) σ H xs.isEmpty :=
  et_test (ev_opU (xs := []) h (eu_tup ea_nil (Nat.zero_le _)) fun q H1 hq e1 H2 e2 Q k => ⟨p, q, xs, rfl, rfl, ex_t (e1.trans e2) hT, st_of (e2 _ _ hq), k H2 (Ex.refl H2)⟩)
theorem kit_ss {K : PySem.W.Frag} : PySem.W.kitOne K (.type "str") (.type "str") = some true := kit_ty (by decide +kernel)
theorem et_inK {σ : L2.St} {H : Hp} {te : TE} {d : Addr} {s : Str} {r : Option Value} (h : Ev te σ H (.str s)) (e : PySem.W.nsIn K d s = some r) : EvT (tTest (tOp (fun x y H Q => ∃ (z : Str) (r : Option Value), x = .str z ∧ y = .ref d ∧ PySem.W.nsIn K d z = some r ∧ Q (.bl r.isSome) H) te (tC (.ref d)))) σ H r.isSome :=
  et_test (ev_op h ev_c fun H1 _ Q k => ⟨s, r, rfl, rfl, e, k H1 (Ex.refl H1)⟩)
/-- a turn of size_of's loop: the part within, its parts and bys added -/
theorem size_step {n m P0 Q0 : Nat} {va x : V} {R : Int} {v5 : Option V} {o : Option (Nat × Nat)} {D : Ends} {H1 : Hp} (hz : SzAt K H1 x m o) (hm : m < n) (hR : R - (P0 : Int) = (m : Int)) (kN : o = none → ∀ H2, Ex H1 H2 → D.rt .non H2)
    (kS : ∀ p q, o = some (p, q) → ∀ H2 z, Ex H1 H2 → D.nx [some va, some (.int R), some (.int ((P0 + p : Nat) : Int)), some (.int ((Q0 + q : Nat) : Int)), some x, z] H2) :
    tSeq (tAsg (tCall (spSize K n) [] E0 (tCons (tVar 4) (tCons (tOp (rI0 fun i j => .int (i - j)) (tVar 1) (tVar 2)) tNil))) (gName 5)) (tSeq (tIfS (tTest (tOp (fun x y H Q => y = .non ∧ Q (.bl (decide (x = .non))) H) (tVar 5) (tC .non))) (tRet (tC .non)) tNext)
      (tPar 2 3 (tCons (tOp (rI0 fun i j => .int (i + j)) (tVar 2) (tOp (rIxT K) (tVar 5) (tC (.int 0)))) (tCons (tOp (rI0 fun i j => .int (i + j)) (tVar 3) (tOp (rIxT K) (tVar 5) (tC (.int 1)))) tNil)))) D
      [some va, some (.int R), some (.int (P0 : Int)), some (.int (Q0 : Int)), some x, v5] H1 := by
  refine q_call (vs := [x, .int (m : Int)]) (ea_cons (ev_var rfl) (ea_cons (ev_is (ev_op (ev_var rfl) (ev_var rfl) rv_I0) (by rw [hR])) ea_nil)) fun H2 e2 => ⟨x, m, o, rfl, hm, hz.mono e2, fun ho H3 e3 => ?_, fun p q ho t H3 ht e3 h3 => ?_⟩
  · refine q_yes (et_is (et_cmp (ev_var rfl) ev_c rv_isN) rfl) fun H4 e4 => ?_
    exact s_ret ev_c fun H5 e5 => kN ho H5 (((e2.trans e3).trans e4).trans e5)
  · refine q_not (et_is (et_cmp (ev_var rfl) ev_c rv_isN) rfl) fun H4 e4 => ?_
    refine s_par (ea_cons (ev_is (ev_op (ev_var rfl) (ev_ixT (ev_var rfl) (st_of (e4 _ _ h3)) rfl) rv_I0) rfl) (ea_cons (ev_is (ev_op (ev_var rfl) (ev_ixT (ev_var rfl) (st_of (e4 _ _ h3)) rfl) rv_I0) rfl) ea_nil)) fun H5 e5 => ?_
    have := kS p q ho H5 (some (.ref t)) (((e2.trans e3).trans e4).trans e5)
    rw [Int.natCast_add, Int.natCast_add] at this
    exact this
theorem abs_val (b : Int) : (if b < 0 then -b else b) = ((b.natAbs : Nat) : Int) := by
  split <;> omega
theorem size_turn (F : Fun K "size_of" "size_of" s_size_of f fd) (T : Txt P w K mg C_BadRule C_BadRules C_BadText C_Feast C_Calendar C_Line) (hm : mg "size_of" = some (.ref f)) (hb : Binds K fd ["value", "room"] []) (n : Nat) (ih : FnOk P w K mg base CX0 (n + 1) f fd ["value", "room"] (spSize K n)) : FnOk P w K mg base CX0 (n + 2) f fd ["value", "room"] (spSize K (n + 1)) := by
  obtain ⟨aP, gPAIRS, sP⟩ := T.g_PAIRS
  obtain ⟨aB, gBYS, sB⟩ := T.g_BYS
  obtain ⟨dE, aW, aM, gENDS, tE⟩ := T.g_ENDS
  obtain ⟨esE, nE, kdENDS⟩ := tE.kd
  have D_is_in : Dn P w K mg base CX0 "is_in" 1 ["value", "some"] (spIsIn K) := dn_is_in T
  have D_within : Dn P w K mg base CX0 "within" 1 ["rule"] (spWithin K) := dn_within T
  have D_size_of : Dn P w K mg base CX0 "size_of" (n + 1) ["value", "room"] (spSize K n) := ⟨f, fd, hm, F.kp, ih, hb⟩
  refine F.ok sc_size_of (fun vs H Q E h => ?_) (fun cdv A outer s H vs Q E hr h => ?_)
  · obtain ⟨_, _, _, rfl, _⟩ := h
    rfl
  · obtain ⟨v, m, o, rfl, hmn, hZ, k⟩ := h
    have hr1 : Room 1 _ := hr.mono (by omega)
    refine ⟨_, (pss_cons (ps_if (PW.pt (pw_or (pt_cmpR op_eq (pv 1) pe_int (nomark _)) (pw_or (pt_not (pt_val (pe_callB call_isi (by rfl) T.isinstance (by decide +kernel) (pa_cons (pv 0) (pa_cons (pe_bltn (v := .ty "tuple") (by rfl) T.tuple (by decide +kernel) rfl) pa_nil))))) (pw_or (pt_cmpR (op_eqE (hu_of hr1)) (pv 0) (pe_tup pa_nil) (nomark _)) (pw_or1 (pt_not (pt_val (pe_callB call_isi (by rfl) T.isinstance (by decide +kernel) (pa_cons (pe_ix ix_tup (pv 0) pe_int (fun _ _ => rfl)) (pa_cons (pe_bltn (v := .ty "str") (by rfl) T.str (by decide +kernel) rfl) pa_nil)))))))))) (pss_one (ps_ret pe_non))
  pss_nil)
  (pss_cons (ps_if (pt_cmpR (op_in_kd kdENDS) (pe_ix ix_tup (pv 0) pe_int (fun _ _ => rfl)) (pe_glob (v := .ref dE) rfl gENDS rfl) (by rfl)) (pss_one (ps_ret (pe_ifExp (PW.pt (pw_and (pt_cmpR op_eq (pe_callB call_len_seq (by rfl) T.len (by decide +kernel) (pa_cons (pv 0) pa_nil)) pe_int (nomark _)) (pw_and1 (pt_val (pe_fn D_is_in (hr.mono (by omega)) pass0 rfl (pa_cons (pe_ix ix_tup (pv 0) pe_int (fun _ _ => rfl)) (pa_cons (pe_ix ix_kdict (pe_glob (v := .ref dE) rfl gENDS rfl) (pe_ix ix_tup (pv 0) pe_int (fun _ _ => rfl)) (fun _ _ => rfl)) pa_nil))))))) (pe_tup (pa_cons pe_int (pa_cons pe_int pa_nil))) pe_non)))
  pss_nil)
  (pss_cons (ps_if (PW.pt (pw_or (pt_cmpR op_ne (pe_callB call_len_seq (by rfl) T.len (by decide +kernel) (pa_cons (pv 0) pa_nil)) pe_int (nomark _)) (pw_or1 (PW.pt (pw_and (pt_cmpR op_ne (pe_ix ix_tup (pv 0) pe_int (fun _ _ => rfl)) pe_str (nomark _)) (pw_and1 (pt_cmpR op_notIn_seq (pe_ix ix_tup (pv 0) pe_int (fun _ _ => rfl)) (pe_glob (v := .ref aP) rfl gPAIRS rfl) (by rfl)))))))) (pss_one (ps_ret pe_non))
  pss_nil)
  (pss_cons (ps_if (PW.pt (pw_and (pt_cmpR op_eq (pe_ix ix_tup (pv 0) pe_int (fun _ _ => rfl)) pe_str (nomark _)) (pw_and1 (pt_not (pt_val (pe_fn D_is_in (hr.mono (by omega)) pass0 rfl (pa_cons (pe_ix ix_tup (pv 0) pe_int (fun _ _ => rfl)) (pa_cons (pe_glob (v := .ref aB) rfl gBYS rfl) pa_nil)))))))) (pss_one (ps_ret pe_non))
  pss_nil)
  (pss_cons (ps_par (i := 2) (j := 3) (by rfl) sc_size_of.nd rfl rfl (by decide) rfl rfl (pa_cons pe_int (pa_cons (pe_ifExp (pt_cmpR op_eq (pe_ix ix_tup (pv 0) pe_int (fun _ _ => rfl)) pe_str (nomark _)) (pe_callB call_abs (by rfl) T.abs (by decide +kernel) (pa_cons (pe_ix ix_tup (pv 0) pe_int (fun _ _ => rfl)) pa_nil)) pe_int) pa_nil)) (by first | rfl | exact sw2 rfl rfl rfl rfl (by decide)))
  (pss_cons (ps_for PassesOwn.never rfl (pi_list (pe_fn D_within (hr.mono (by omega)) pass0 rfl (pa_cons (pv 0) pa_nil))) (pg_name (i := 4) sc_size_of.nd rfl (by first | exact Or.inl rfl | exact Or.inr rfl))
  (pss_cons (ps_set (i := 5) sc_size_of.nd rfl (by first | exact Or.inl rfl | exact Or.inr rfl) (pe_fn D_size_of (hr.mono (by omega)) pass0 rfl (pa_cons (pv 4) (pa_cons (pe_op op_sub (pv 1) (pv 2)) pa_nil))))
  (pss_cons (ps_if (pt_cmpR op_isN (pv 5) pe_non (nomark _)) (pss_one (ps_ret pe_non))
  pss_nil)
  (pss_one (ps_par (i := 2) (j := 3) (by rfl) sc_size_of.nd rfl rfl (by decide) rfl rfl (pa_cons (pe_op op_add (pv 2) (pe_ix ix_tup (pv 5) pe_int (fun _ _ => rfl))) (pa_cons (pe_op op_add (pv 3) (pe_ix ix_tup (pv 5) pe_int (fun _ _ => rfl))) pa_nil)) (by first | rfl | exact sw2 rfl rfl rfl rfl (by decide)))))))
  (pss_one (ps_ret (pe_tup (pa_cons (pv 2) (pa_cons (pv 3) pa_nil))))))))))), ?_⟩
    -- the first test: not none
    have gate : ∀ {a : Addr} {s : Str} {xs : List V} {m : Nat}, SqT K H a (.str s :: xs) → EvT (tOr (tTest (tOp rEq (tVar 1) (tC (.int 0)))) (tOr (tNot (tB (tCB (rIsi K) (tCons (tVar 0) (tCons (tC (.ty "tuple")) tNil))))) (tOr (tTest (tOp (rEqE K) (tVar 0) (tTup tNil))) (tNot (tB (tCB (rIsi K) (tCons (tOp (rIxT K) (tVar 0) (tC (.int 0))) (tCons (tC (.ty "str")) tNil)))))))) (start ["value", "room", "parts", "bys", "rule", "found"] [.ref a, .int ((m + 1 : Nat) : Int)]) H false := fun {a s xs m} hT =>
      et_is (et_or (et_cmp (ev_var rfl) ev_c (rv_eq rfl)) fun _ => et_or (et_not (et_B (ev_isi (ev_var rfl) (ty_tup hT) kit_tt))) fun _ => et_or (et_eqU (ev_var rfl) hT) fun _ => et_not (et_B (ev_isi (ev_ixT (ev_var rfl) hT at0) (ty_str s) kit_ss))) (by
        have : ¬ (V.int ((m + 1 : Nat) : Int) = V.int 0) := fun q => by injection q with q; omega
        rw [decide_eq_false this]
        rfl)
    have notEnd : ∀ {s : Str}, s ∈ (["behind", "both", "either", "without", "week"] : List Str) → PySem.W.nsIn K dE s = some none := fun h => tE.no _ h
    have pos : ∀ {m : Nat}, ¬ (V.int ((m + 1 : Nat) : Int) = V.int 0) := fun q => by
      injection q with q
      omega
    -- a word of ENDS; none
    have inE : ∀ {a : Addr} {s : Str} {xs : List V} {σ : L2.St} {H1 : Hp}, SqT K H1 a (.str s :: xs) → σ[0]? = some (some (V.ref a)) → isEnd s → EvT (tTest (tOp (fun x y H Q => ∃ (z : Str) (r : Option Value), x = .str z ∧ y = .ref dE ∧ PySem.W.nsIn K dE z = some r ∧ Q (.bl r.isSome) H) (tOp (rIxT K) (tVar 0) (tC (.int 0))) (tC (.ref dE)))) σ H1 true := fun {a s xs σ H1} hT h0 hs => by
      obtain ⟨a1, h1, _⟩ := tE.in hs
      exact et_is (et_inK (ev_ixT (ev_var h0) hT at0) h1) rfl
    have outE : ∀ {a : Addr} {s : Str} {xs : List V} {σ : L2.St} {H1 : Hp}, SqT K H1 a (.str s :: xs) → σ[0]? = some (some (V.ref a)) → s ∈ (["behind", "both", "either", "without", "week"] : List Str) → EvT (tTest (tOp (fun x y H Q => ∃ (z : Str) (r : Option Value), x = .str z ∧ y = .ref dE ∧ PySem.W.nsIn K dE z = some r ∧ Q (.bl r.isSome) H) (tOp (rIxT K) (tVar 0) (tC (.int 0))) (tC (.ref dE)))) σ H1 false := fun {a s xs σ H1} hT h0 hs => et_is (et_inK (ev_ixT (ev_var h0) hT at0) (notEnd hs)) rfl
    have len2 : ∀ {a : Addr} {xs : List V} {σ : L2.St} {H1 : Hp} {c : Int}, SqT K H1 a xs → σ[0]? = some (some (V.ref a)) → Ev (tCB (rLenS K) (tCons (tVar 0) tNil)) σ H1 (.int (xs.length : Int)) := fun hT h0 => ev_lenT (ev_var h0) hT
    have wordT : ∀ {a : Addr} {s : Str} {xs : List V} {σ : L2.St} {H1 : Hp}, SqT K H1 a (.str s :: xs) → σ[0]? = some (some (V.ref a)) → EvT (tOr (tTest (tOp rNe (tCB (rLenS K) (tCons (tVar 0) tNil)) (tC (.int 3)))) (tAnd (tTest (tOp rNe (tOp (rIxT K) (tVar 0) (tC (.int 0))) (tC (.str "behind")))) (tTest (tOp (rIn K true) (tOp (rIxT K) (tVar 0) (tC (.int 0))) (tC (.ref aP)))))) σ H1
        (!decide (xs.length = 2) || (!decide (s = "behind") && !decide (s = "both" ∨ s = "either" ∨ s = "without"))) := fun {a s xs σ H1} hT h0 =>
      et_or (et_is (et_cmp (ev_lenT (ev_var h0) hT) ev_c (rv_ne rfl)) (by
        show (!decide (V.int (((xs.length + 1 : Nat)) : Int) = V.int 3)) = !decide (xs.length = 2)
        by_cases h : xs.length = 2
        · rw [h]; rfl
        · rw [decide_eq_false h, decide_eq_false]
          intro q
          injection q with q
          omega)) fun _ => et_and (et_is (et_cmp (ev_ixT (ev_var h0) hT at0) ev_c (rv_ne rfl)) (by
        show (!decide (V.str s = V.str "behind")) = !decide (s = "behind")
        by_cases h : s = "behind"
        · rw [h]; rfl
        · rw [decide_eq_false h, decide_eq_false]
          intro q
          injection q with q
          exact h q)) fun _ => et_is (et_cmp (ev_ixT (ev_var h0) hT at0) ev_c (rv_niT (sP _) rfl rfl)) (by rw [inV_pairs])
    cases hZ with
    | zero =>
      refine q_yes (et_or1 (et_is (et_cmp (ev_var rfl) ev_c (rv_eq rfl)) rfl)) fun H1 e1 => ?_
      exact s_ret ev_c fun H2 e2 => k.1 rfl H2 (e1.trans e2)
    | kind hy hk =>
      refine q_yes (et_is (et_or (et_cmp (ev_var rfl) ev_c (rv_eq rfl)) fun _ => et_or1 (et_not (et_B (ev_isi (ev_var rfl) hy hk)))) (by rw [decide_eq_false pos]; rfl)) fun H1 e1 => ?_
      exact s_ret ev_c fun H2 e2 => k.1 rfl H2 (e1.trans e2)
    | empty hT =>
      refine q_yes (et_is (et_or (et_cmp (ev_var rfl) ev_c (rv_eq rfl)) fun _ => et_or (et_not (et_B (ev_isi (ev_var rfl) (ty_tup hT) kit_tt))) fun _ => et_or1 (et_eqU (ev_var rfl) hT)) (by rw [decide_eq_false pos]; rfl)) fun H1 e1 => ?_
      exact s_ret ev_c fun H2 e2 => k.1 rfl H2 (e1.trans e2)
    | head hT hy hk =>
      refine q_yes (et_is (et_or (et_cmp (ev_var rfl) ev_c (rv_eq rfl)) fun _ => et_or (et_not (et_B (ev_isi (ev_var rfl) (ty_tup hT) kit_tt))) fun _ => et_or (et_eqU (ev_var rfl) hT) fun _ => et_not (et_B (ev_isi (ev_ixT (ev_var rfl) hT at0) hy hk))) (by rw [decide_eq_false pos]; rfl)) fun H1 e1 => ?_
      exact s_ret ev_c fun H2 e2 => k.1 rfl H2 (e1.trans e2)
    | leaf hs hT ok =>
      rename_i a s kk m
      obtain ⟨aE, h1, xsE, hxs, hfl, hin⟩ := tE.in hs
      refine q_not (gate hT) fun H1 e1 => ?_
      refine q_yes (inE (ex_t e1 hT) rfl hs) fun H2 e2 => ?_
      have hT2 := ex_t (e1.trans e2) hT
      refine s_retU (eu_ifT (et_and (et_is (et_cmp (ev_lenT (ev_var rfl) hT2) ev_c (rv_eq rfl)) rfl) fun _ => et_B (ev_call (ea_cons (ev_ixT (ev_var rfl) hT2 rfl) (ea_cons (ev_op (ev_c) (ev_ixT (ev_var rfl) hT2 at0) fun H3 _ Q q => ⟨dE, s, .ref aE, rfl, rfl, tE.kdct h1, q H3 (Ex.refl H3)⟩) ea_nil)) (spv_is_in (b := true) (.int kk) (hxs _) hfl (by show inV (.int kk) xsE = true; rw [hin, ok])))) (eu_tup (ea_cons ev_c (ea_cons ev_c ea_nil)) (by show 2 ≤ 100000; decide))) fun t H3 ht e3 h3 => k.2 1 0 rfl t H3 (fresh_back (e1.trans e2) ht) ((e1.trans e2).trans e3) h3
    | leafLen hs hT hl =>
      rename_i a s xs m
      refine q_not (gate hT) fun H1 e1 => ?_
      refine q_yes (inE (ex_t e1 hT) rfl hs) fun H2 e2 => ?_
      have hT2 := ex_t (e1.trans e2) hT
      refine s_ret (ev_ifF (et_and0 (et_is (et_cmp (ev_lenT (ev_var rfl) hT2) ev_c (rv_eq rfl)) (decide_eq_false fun q => ?_))) ev_c) fun H3 e3 => k.1 rfl H3 ((e1.trans e2).trans e3)
      injection q with q
      have : ((V.str s :: xs).length : Int) = (xs.length : Int) + 1 := by simp
      omega
    | leafNum hs hT hx no =>
      rename_i a s x o m
      obtain ⟨aE, h1, xsE, hxs, hfl, hin⟩ := tE.in hs
      refine q_not (gate hT) fun H1 e1 => ?_
      refine q_yes (inE (ex_t e1 hT) rfl hs) fun H2 e2 => ?_
      have hT2 := ex_t (e1.trans e2) hT
      refine s_ret (ev_ifF (et_is (et_and (et_is (et_cmp (ev_lenT (ev_var rfl) hT2) ev_c (rv_eq rfl)) rfl) fun _ => et_B (ev_call (ea_cons (ev_ixT (ev_var rfl) hT2 rfl) (ea_cons (ev_op (ev_c) (ev_ixT (ev_var rfl) hT2 at0) fun H3 _ Q q => ⟨dE, s, .ref aE, rfl, rfl, tE.kdct h1, q H3 (Ex.refl H3)⟩) ea_nil)) (spv_is_in (b := false) (hx.mono (e1.trans e2)) (hxs _) hfl (by
        cases o with
        | none => rfl
        | some z => show inV (.int z) xsE = false; rw [hin, no z rfl])))) rfl) ev_c) fun H3 e3 => k.1 rfl H3 ((e1.trans e2).trans e3)
    | word hs hT hl =>
      rename_i a s xs m
      refine q_not (gate hT) fun H1 e1 => ?_
      refine q_not (outE (ex_t e1 hT) rfl hs) fun H2 e2 => ?_
      refine q_yes (et_is (wordT (ex_t (e1.trans e2) hT) rfl) ?_) fun H3 e3 => ?_
      · rcases hl with hl | rfl
        · rw [decide_eq_false hl]; rfl
        · rw [show decide (("week" : Str) = "behind") = false by decide +kernel, show decide (("week" : Str) = "both" ∨ ("week" : Str) = "either" ∨ ("week" : Str) = "without") = false by decide +kernel]
          cases decide (xs.length = 2) <;> rfl
      · exact s_ret ev_c fun H4 e4 => k.1 rfl H4 (((e1.trans e2).trans e3).trans e4)
    | byBad hT hb no =>
      rename_i a x b o m
      refine q_not (gate hT) fun H1 e1 => ?_
      refine q_not (outE (ex_t e1 hT) rfl (by simp)) fun H2 e2 => ?_
      refine q_not (et_is (wordT (ex_t (e1.trans e2) hT) rfl) (by simp)) fun H3 e3 => ?_
      have E3 := (e1.trans e2).trans e3
      refine q_yes (et_is (et_and (et_str (c := true) (ev_ixT (ev_var rfl) (ex_t E3 hT) rfl) (by decide +kernel)) fun _ => et_not (et_B (ev_call (ea_cons (ev_ixT (ev_var rfl) (ex_t E3 hT) rfl) (ea_cons ev_c ea_nil)) (spv_is_in (b := false) (hb.mono E3) (sB _) rfl (by
        cases o with
        | none => rfl
        | some z => show inV (.int z) bysV = false; rw [inV_bys, no z rfl]))))) rfl) fun H4 e4 => ?_
      exact s_ret ev_c fun H5 e5 => k.1 rfl H5 ((E3.trans e4).trans e5)
    | behind hT ok hx =>
      rename_i a x b m o
      refine q_not (gate hT) fun H1 e1 => ?_
      refine q_not (outE (ex_t e1 hT) rfl (by simp)) fun H2 e2 => ?_
      refine q_not (et_is (wordT (ex_t (e1.trans e2) hT) rfl) (by simp)) fun H3 e3 => ?_
      have E3 := (e1.trans e2).trans e3
      refine q_not (et_is (et_and (et_str (c := true) (ev_ixT (ev_var rfl) (ex_t E3 hT) rfl) (by decide +kernel)) fun _ => et_not (et_B (ev_call (ea_cons (ev_ixT (ev_var rfl) (ex_t E3 hT) rfl) (ea_cons ev_c ea_nil)) (spv_is_in (b := true) (.int b) (sB _) rfl (by
        show inV (.int b) bysV = true; rw [inV_bys, ok]))))) rfl) fun H4 e4 => ?_
      have E4 := E3.trans e4
      refine q_par (y := .int ((b.natAbs : Nat) : Int)) (ea_cons ev_c (ea_cons (ev_ifT (et_str (ev_ixT (ev_var rfl) (ex_t E4 hT) rfl) (by decide +kernel)) (ev_cb (ea_cons (ev_ixT (ev_var rfl) (ex_t E4 hT) rfl) ea_nil) fun H5 _ Q q => ⟨b, rfl, by rw [abs_val]; exact q H5 (Ex.refl H5)⟩)) ea_nil)) fun H5 e5 => ?_
      have E5 := E4.trans e5
      refine q_forNLn (xs := [x]) (el_call (ea_cons (ev_var rfl) ea_nil) (spL fun H6 e6 Q _ q => ⟨a, rfl, .inr ⟨x, _, ex_t (E5.trans e6) hT, q⟩⟩))
        (fun l i σ H' => Ex H H' ∧ H' l = some (.lst [x]) ∧ ∃ p q z4 z5, σ = [some (.ref a), some (.int ((m + 1 : Nat) : Int)), some (.int ((p : Nat) : Int)), some (.int ((q : Nat) : Int)), z4, z5] ∧ ((i = 0 ∧ p = 1 ∧ q = b.natAbs) ∨ (i = 1 ∧ ∃ p1 q1, o = some (p1, q1) ∧ p = 1 + p1 ∧ q = b.natAbs + q1)))
        (fun l H6 _ e6 h6 => ⟨E5.trans e6, h6, 1, b.natAbs, _, _, rfl, .inl ⟨rfl, rfl, rfl⟩⟩) (fun l i σ' H' _ h => sq_of h.2.1) ?_ ?_
      · rintro l i y σ' H' hi ⟨e, hl, p, q, z4, z5, rfl, hc⟩
        rcases hc with ⟨rfl, rfl, rfl⟩ | ⟨rfl, _⟩
        · cases hi
          refine size_step (hx.mono e) (by omega) (by omega) (fun ho H6 e6 => k.1 (by rw [ho]; rfl) H6 (e.trans e6)) fun p q ho H6 z e6 => ⟨e.trans e6, e6 _ _ hl, _, _, _, _, rfl, .inr ⟨rfl, p, q, ho, rfl, rfl⟩⟩
        · simp at hi
      · rintro l σ' H' ⟨e, hl, p, q, z4, z5, rfl, hc⟩
        rcases hc with ⟨h0, _⟩ | ⟨_, p1, q1, ho, rfl, rfl⟩
        · cases h0
        · exact s_retU (eu_tup (ea_cons (ev_var rfl) (ea_cons (ev_var rfl) ea_nil)) (by show 2 ≤ 100000; decide)) fun t H6 ht e6 h6 => k.2 _ _ (by rw [ho]; rfl) t H6 (fresh_back e ht) (e.trans e6) h6
    | pairNo hs hT hx =>
      rename_i a s x y m
      have hsM : s ∈ (["behind", "both", "either", "without", "week"] : List Str) := by rcases hs with rfl | rfl | rfl <;> simp
      have hsB : decide (s = "behind") = false := by rcases hs with rfl | rfl | rfl <;> decide +kernel
      refine q_not (gate hT) fun H1 e1 => ?_
      refine q_not (outE (ex_t e1 hT) rfl hsM) fun H2 e2 => ?_
      refine q_not (et_is (wordT (ex_t (e1.trans e2) hT) rfl) (by rw [pair_not hs]; simp)) fun H3 e3 => ?_
      have E3 := (e1.trans e2).trans e3
      refine q_not (et_and0 (et_str (ev_ixT (ev_var rfl) (ex_t E3 hT) rfl) hsB)) fun H4 e4 => ?_
      have E4 := E3.trans e4
      refine q_par (y := .int ((0 : Nat) : Int)) (ea_cons ev_c (ea_cons (ev_ifF (et_str (ev_ixT (ev_var rfl) (ex_t E4 hT) rfl) hsB) ev_c) ea_nil)) fun H5 e5 => ?_
      have E5 := E4.trans e5
      refine q_forNLn (xs := [x, y]) (el_call (ea_cons (ev_var rfl) ea_nil) (spL fun H6 e6 Q _ q => ⟨a, rfl, .inl ⟨s, x, y, hs, ex_t (E5.trans e6) hT, q⟩⟩))
        (fun l i σ H' => Ex H H' ∧ H' l = some (.lst [x, y]) ∧ ∃ z4 z5, σ = [some (.ref a), some (.int ((m + 1 : Nat) : Int)), some (.int ((1 : Nat) : Int)), some (.int ((0 : Nat) : Int)), z4, z5] ∧ i = 0)
        (fun l H6 _ e6 h6 => ⟨E5.trans e6, h6, _, _, rfl, rfl⟩) (fun l i σ' H' _ h => sq_of h.2.1) ?_ ?_
      · rintro l i y σ' H' hi ⟨e, hl, z4, z5, rfl, rfl⟩
        cases hi
        exact size_step (hx.mono e) (by omega) (by omega) (fun ho H6 e6 => k.1 rfl H6 (e.trans e6)) fun p q ho => nomatch ho
      · rintro l σ' H' ⟨e, hl, z4, z5, rfl, h0⟩
        cases h0
    | pair hs hT hx hp hy =>
      rename_i a s x y m p1 q1 o
      have hsM : s ∈ (["behind", "both", "either", "without", "week"] : List Str) := by rcases hs with rfl | rfl | rfl <;> simp
      have hsB : decide (s = "behind") = false := by rcases hs with rfl | rfl | rfl <;> decide +kernel
      refine q_not (gate hT) fun H1 e1 => ?_
      refine q_not (outE (ex_t e1 hT) rfl hsM) fun H2 e2 => ?_
      refine q_not (et_is (wordT (ex_t (e1.trans e2) hT) rfl) (by rw [pair_not hs]; simp)) fun H3 e3 => ?_
      have E3 := (e1.trans e2).trans e3
      refine q_not (et_and0 (et_str (ev_ixT (ev_var rfl) (ex_t E3 hT) rfl) hsB)) fun H4 e4 => ?_
      have E4 := E3.trans e4
      refine q_par (y := .int ((0 : Nat) : Int)) (ea_cons ev_c (ea_cons (ev_ifF (et_str (ev_ixT (ev_var rfl) (ex_t E4 hT) rfl) hsB) ev_c) ea_nil)) fun H5 e5 => ?_
      have E5 := E4.trans e5
      refine q_forNLn (xs := [x, y]) (el_call (ea_cons (ev_var rfl) ea_nil) (spL fun H6 e6 Q _ q => ⟨a, rfl, .inl ⟨s, x, y, hs, ex_t (E5.trans e6) hT, q⟩⟩))
        (fun l i σ H' => Ex H H' ∧ H' l = some (.lst [x, y]) ∧ ∃ p q z4 z5, σ = [some (.ref a), some (.int ((m + 1 : Nat) : Int)), some (.int ((p : Nat) : Int)), some (.int ((q : Nat) : Int)), z4, z5] ∧ ((i = 0 ∧ p = 1 ∧ q = 0) ∨ (i = 1 ∧ p = 1 + p1 ∧ q = q1) ∨ (i = 2 ∧ ∃ p2 q2, o = some (p2, q2) ∧ p = 1 + p1 + p2 ∧ q = q1 + q2)))
        (fun l H6 _ e6 h6 => ⟨E5.trans e6, h6, 1, 0, _, _, rfl, .inl ⟨rfl, rfl, rfl⟩⟩) (fun l i σ' H' _ h => sq_of h.2.1) ?_ ?_
      · rintro l i z σ' H' hi ⟨e, hl, p, q, z4, z5, rfl, hc⟩
        rcases hc with ⟨rfl, rfl, rfl⟩ | ⟨rfl, rfl, rfl⟩ | ⟨rfl, _⟩
        · cases hi
          refine size_step (hx.mono e) (by omega) (by omega) (fun ho => nomatch ho) fun p q ho H6 z e6 => ⟨e.trans e6, e6 _ _ hl, _, _, _, _, rfl, .inr (.inl ⟨rfl, ?_, ?_⟩)⟩
          · injection ho with ho; injection ho with h1 h2; omega
          · injection ho with ho; injection ho with h1 h2; omega
        · cases hi
          exact size_step (hy.mono e) (by omega) (by omega) (fun ho H6 e6 => k.1 (by rw [ho]; rfl) H6 (e.trans e6)) fun p q ho H6 z e6 => ⟨e.trans e6, e6 _ _ hl, _, _, _, _, rfl, .inr (.inr ⟨rfl, p, q, ho, rfl, rfl⟩)⟩
        · simp at hi
      · rintro l σ' H' ⟨e, hl, p, q, z4, z5, rfl, hc⟩
        rcases hc with ⟨h0, _⟩ | ⟨h0, _⟩ | ⟨_, p2, q2, ho, rfl, rfl⟩
        · cases h0
        · cases h0
        · exact s_retU (eu_tup (ea_cons (ev_var rfl) (ea_cons (ev_var rfl) ea_nil)) (by show 2 ≤ 100000; decide)) fun t H6 ht e6 h6 => k.2 _ _ (by rw [ho]; rfl) t H6 (fresh_back e ht) (e.trans e6) h6
theorem ok_size (F : Fun K "size_of" "size_of" s_size_of f fd) (T : Txt P w K mg C_BadRule C_BadRules C_BadText C_Feast C_Calendar C_Line) (hm : mg "size_of" = some (.ref f)) (hb : Binds K fd ["value", "room"] []) : ∀ n : Nat, FnOk P w K mg base CX0 (n + 1) f fd ["value", "room"] (spSize K n)
  | 0 => fnok_none fun _ _ _ _ ⟨_, _, _, _, h, _⟩ => absurd h (Nat.not_lt_zero _)
  | n + 1 => size_turn F T hm hb n (ok_size F T hm hb n)
theorem dn_size (T : Txt P w K mg C_BadRule C_BadRules C_BadText C_Feast C_Calendar C_Line) : Dn P w K mg base CX0 "size_of" 7 ["value", "room"] (spSize K 6) := T.f_size_of.dn fun _ _ F hm hb => ok_size F T hm hb 6
/-- is a rule: at most five parts, bys of at most four -/
def isRuleB (o : Option (Nat × Nat)) : Bool := match o with
  | some (_, q) => decide (q ≤ 4)
  | none => false
def spIsRule (K : PySem.W.Frag) : Sp := fun vs H Q _ => ∃ v o, vs = [v] ∧ SzAt K H v 5 o ∧ RetV (.bl (isRuleB o)) H Q
theorem ok_is_rule (F : Fun K "is_rule" "is_rule" s_is_rule f fd) (T : Txt P w K mg C_BadRule C_BadRules C_BadText C_Feast C_Calendar C_Line) : FnOk P w K mg base CX0 8 f fd ["value"] (spIsRule K) := by
  have D_size_of : Dn P w K mg base CX0 "size_of" 7 ["value", "room"] (spSize K 6) := dn_size T
  refine F.ok sc_is_rule (fun vs H Q E h => ?_) (fun cdv A outer s H vs Q E hr h => ?_)
  · obtain ⟨_, _, rfl, _⟩ := h
    rfl
  · obtain ⟨v, o, rfl, hZ, k⟩ := h
    refine ⟨_, (pss_cons (ps_set (i := 1) sc_is_rule.nd rfl (by first | exact Or.inl rfl | exact Or.inr rfl) (pe_fn D_size_of (hr.mono (by omega)) pass0 rfl (pa_cons (pv 0) (pa_cons (pe_globE rfl T.g_MOST_PARTS) pa_nil))))
  (pss_one (ps_ret (pe_and (pe_cmpR op_notN (pv 1) pe_non (nomark _)) (pe_one (pe_cmpR op_le (pe_ix ix_tup (pv 1) pe_int (fun _ _ => rfl)) (pe_globE rfl T.g_MOST_BYS) (nomark _))))))), ?_⟩
    refine q_call (vs := [v, .int ((5 : Nat) : Int)]) (ea_cons (ev_var rfl) (ea_cons ev_c ea_nil)) fun H2 e2 => ⟨v, 5, o, rfl, by decide, hZ.mono e2, fun ho H3 e3 => ?_, fun p q ho t H3 ht e3 h3 => ?_⟩
    · subst ho
      exact s_ret (ev_and0 (ev_is (ev_op (ev_var rfl) ev_c rv_notN) rfl)) fun H4 e4 => k H4 ((e2.trans e3).trans e4)
    · subst ho
      refine s_ret (v := .bl (isRuleB (some (p, q)))) (ev_is (ev_andV (ev_is (ev_op (ev_var rfl) ev_c rv_notN) rfl) fun _ => ev_op (ev_ixT (ev_var rfl) (st_of h3) rfl) ev_c rv_I0) ?_) fun H4 e4 => k H4 ((e2.trans e3).trans e4)
      show V.bl (true && decide ((q : Int) ≤ 4)) = V.bl (decide (q ≤ 4))
      rw [Bool.true_and]
      by_cases h : q ≤ 4
      · rw [decide_eq_true h, decide_eq_true (by omega)]
      · rw [decide_eq_false h, decide_eq_false (by omega)]
theorem dn_is_rule (T : Txt P w K mg C_BadRule C_BadRules C_BadText C_Feast C_Calendar C_Line) : Dn P w K mg base CX0 "is_rule" 8 ["value"] (spIsRule K) := T.f_is_rule.dn fun _ _ F _ _ => ok_is_rule F T
end
end WF

set_option Elab.async false
set_option linter.all false
set_option maxRecDepth 100000
set_option maxHeartbeats 2000000
/-! Feast's __init__ -/
namespace WF
open PySem L2 Evl
section
variable {P : Program} {w : World} {K : PySem.W.Frag} {mg : Str → Option Value} {base : Heap} {C_BadRule C_BadRules C_BadText C_Feast C_Calendar C_Line : Addr} {f : Addr} {fd : FuncData}
def spFeast (K : PySem.W.Frag) (CF CR : Addr) : Sp := fun vs H Q E => ∃ (p dx : Addr) (v : V) (o : Option (Nat × Nat)), vs = [.ref p, v] ∧ H p = some (.ins CF dx []) ∧ SzAt K H v 5 o ∧
  (isRuleB o = false → ∀ H1, Ex H H1 → E (.ref CR) none H1) ∧ (∀ a q, o = some (a, q) → q ≤ 4 → ∀ H', ExB p H H' → H' p = some (.ins CF dx (feastF v q)) → Q .non H')
theorem ev_sizeAt {σ : L2.St} {H : Hp} {v : V} {ta : TA} {a q n m : Nat} (h : EvA ta σ H [v, .int (m : Int)]) (hm : m < n) (hz : SzAt K H v m (some (a, q))) : Ev (tOp (rIxT K) (tCall (spSize K n) [] E0 ta) (tC (.int 1))) σ H (.int (q : Int)) := fun H1 e Q k =>
  h H1 e _ fun H2 e2 => ⟨v, m, some (a, q), rfl, hm, hz.mono (e.trans e2), ⟨fun ho => (by cases ho), fun a' q' ho t H3 ht e3 h3 => by
    cases ho
    exact ⟨t, _, 1, .int (q : Int), rfl, rfl, st_of h3, rfl, k H3 (e2.trans e3)⟩⟩⟩
theorem ok_feast (F : Fun K "__init__" "Feast.__init__" s_Feast_init f fd) (T : Txt P w K mg C_BadRule C_BadRules C_BadText C_Feast C_Calendar C_Line) (CF : Cls1 K C_Feast ["told", "bys"]) : FnOk P w K mg base (L2.CX P w) 9 f fd ["self", "rule"] (spFeast K C_Feast C_BadRule) := by
  have D_size_of : Dn P w K mg base CX0 "size_of" 7 ["value", "room"] (spSize K 6) := dn_size T
  have D_is_rule : Dn P w K mg base CX0 "is_rule" 8 ["value"] (spIsRule K) := dn_is_rule T
  refine F.okX sc_Feast_init (fun vs H Q E h => ?_) (fun cdv A outer s H vs Q E hr h => ?_)
  · obtain ⟨_, _, _, _, rfl, _⟩ := h
    rfl
  · obtain ⟨p, dx, v, o, rfl, hp, hZ, kE, kG⟩ := h
    refine ⟨_, (pss_cons (ps_if (pt_not (pt_val (pe_fn D_is_rule (hr.mono (by omega)) pass0 rfl (pa_cons (pv 1) pa_nil)))) (pss_one (ps_raise0 rfl (takes_of rfl rfl rfl rfl) T.e_BadRule T.c_BadRule rfl))
  pss_nil)
  (pss_cons (ps_fld (pv 0) (pv 1) rfl)
  (pss_one (ps_fld (pv 0) (pe_ix ix_tup (pe_fn D_size_of (hr.mono (by omega)) pass0 rfl (pa_cons (pv 1) (pa_cons (pe_globE rfl T.g_MOST_PARTS) pa_nil))) pe_int (fun _ _ => rfl)) rfl)))), ?_⟩
    have hev : EvT (tNot (tB (tCall (spIsRule K) [] E0 (tCons (tVar 1) tNil)))) (start ["self", "rule"] [.ref p, v]) H (!isRuleB o) := et_not (et_B (ev_call (ea_cons (ev_var rfl) ea_nil) (spV (z := .bl (isRuleB o)) fun H1 e Q _ q => ⟨v, o, rfl, hZ.mono e, q⟩)))
    cases hb : isRuleB o with
    | false =>
      rw [hb] at hev
      exact q_yes hev fun H1 e1 => kE hb H1 e1
    | true =>
      rw [hb] at hev
      refine q_not hev fun H1 e1 => ?_
      obtain ⟨a, q, rfl, hq⟩ : ∃ a q, o = some (a, q) ∧ q ≤ 4 := by
        cases o with
        | none => cases hb
        | some z => exact ⟨z.1, z.2, rfl, of_decide_eq_true hb⟩
      refine q_fld (ev_var rfl) (ev_var rfl) (e1 _ _ hp) CF.cl (CF.no _ (by simp)) (by show 0 < 1000; decide) fun H2 e2 => ?_
      have hZ2 : SzAt K (upd H2 p (.ins C_Feast dx (putF "told" v []))) v 5 (some (a, q)) := sz_upd ((e1.trans e2) _ _ hp) (hZ.mono (e1.trans e2))
      refine s_fld (y := .int (q : Int)) (ev_sizeAt (m := 5) (ea_cons (ev_var rfl) (ea_cons ev_c ea_nil)) (by decide) hZ2) (ev_var rfl) upd_same CF.cl (CF.no _ (by simp)) (by show 1 < 1000; decide) fun H3 e3 => ?_
      exact kG a q rfl hq _ (((ExB.of (e1.trans e2)).upd.step e3).upd) upd_same
theorem mn_feast (T : Txt P w K mg C_BadRule C_BadRules C_BadText C_Feast C_Calendar C_Line) (CF : Cls1 K C_Feast ["told", "bys"]) : Mn P w K mg base (L2.CX P w) C_Feast 9 ["self", "rule"] (spFeast K C_Feast C_BadRule) := T.m_Feast_init.mn fun _ _ F => ok_feast F T CF
/-- Feast(rule), of a rule that may be one -/
theorem er_feast {CF CR : Addr} {σ : L2.St} {H : Hp} {v : V} {r : Rl} {ta : TA} {E : XK} (h : EvA ta σ H [v]) (hr : RlAt K H v r) (hf : r.fit = true) (hp : r.parts ≤ 5) (hb : r.bys ≤ 4) : EvR (tMake CF (spFeast K CF CR) [] E ta) σ H fun p H2 => FeastAt K CF H2 p r :=
  er_make h fun H1 e1 x dx hx hdx hne Q k => by
    have e2 : Ex H1 (upd (upd H1 dx (.own x)) x (.ins CF dx [])) := ex_made hx hdx
    have hz := sz_of (hr.mono (e1.trans e2)) hf 5
    rw [szOf, if_pos hp] at hz
    refine ⟨x, dx, v, _, rfl, upd_same, hz, fun hn => ?_, fun a q ho hq H' eb h' => ?_⟩
    · have : isRuleB (some (r.parts, r.bys)) = true := decide_eq_true hb
      rw [this] at hn
      cases hn
    · cases ho
      have ee : Ex H1 H' := eb.old e2 hx
      exact k H' ee ⟨dx, v, h', hr.mono (e1.trans ee)⟩
end
end WF

set_option Elab.async false
set_option linter.all false
set_option maxRecDepth 100000
set_option maxHeartbeats 2000000
/-! is_pair and Calendar's __init__, of right rows -/
namespace WF
open PySem L2 Evl
section
variable {P : Program} {w : World} {K : PySem.W.Frag} {mg : Str → Option Value} {base : Heap} {C_BadRule C_BadRules C_BadText C_Feast C_Calendar C_Line : Addr} {f : Addr} {fd : FuncData}
theorem kit_bb {K : PySem.W.Frag} : PySem.W.kitOne K (.type "bool") (.type "bool") = some true := kit_ty (by decide +kernel)
def spIsPair (K : PySem.W.Frag) (CF : Addr) : Sp := fun vs H Q _ => ∃ v r, vs = [v] ∧ RowAt K CF H v r ∧ RetV (.bl true) H Q
theorem ok_is_pair (F : Fun K "is_pair" "is_pair" s_is_pair f fd) (T : Txt P w K mg C_BadRule C_BadRules C_BadText C_Feast C_Calendar C_Line) (IF : ClsI K C_Feast) : FnOk P w K mg base CX0 1 f fd ["value"] (spIsPair K C_Feast) := by
  refine F.ok sc_is_pair (fun vs H Q E h => ?_) (fun cdv A outer s H vs Q E hr h => ?_)
  · obtain ⟨_, _, rfl, _⟩ := h
    rfl
  · obtain ⟨v, r, rfl, ⟨p, q, rfl, hT, dx, tv, hq, _⟩, k⟩ := h
    refine ⟨_, (pss_cons (ps_if (PW.pt (pw_or (pt_not (pt_val (pe_callB call_isi (by rfl) T.isinstance (by decide +kernel) (pa_cons (pv 0) (pa_cons (pe_bltn (v := .ty "tuple") (by rfl) T.tuple (by decide +kernel) rfl) pa_nil))))) (pw_or1 (pt_cmpR op_ne (pe_callB call_len_seq (by rfl) T.len (by decide +kernel) (pa_cons (pv 0) pa_nil)) pe_int (nomark _))))) (pss_one (ps_ret pe_bl))
  pss_nil)
  (pss_one (ps_ret (pe_and (pe_callB call_isi (by rfl) T.isinstance (by decide +kernel) (pa_cons (pe_ix ix_tup (pv 0) pe_int (fun _ _ => rfl)) (pa_cons (pe_glob (v := .ref C_Feast) rfl T.c_Feast rfl) pa_nil))) (pe_one (pe_callB call_isi (by rfl) T.isinstance (by decide +kernel) (pa_cons (pe_ix ix_tup (pv 0) pe_int (fun _ _ => rfl)) (pa_cons (pe_bltn (v := .ty "bool") (by rfl) T.bool (by decide +kernel) rfl) pa_nil)))))))), ?_⟩
    refine q_not (et_is (et_or (et_not (et_B (ev_isi (ev_var rfl) (ty_tup hT) kit_tt))) fun _ => et_cmp (ev_lenT (ev_var rfl) hT) ev_c (rv_ne rfl)) rfl) fun H1 e1 => ?_
    exact s_ret (ev_is (ev_andV (ev_isiC (ev_ixT (ev_var rfl) (ex_t e1 hT) rfl) (IF.ty (e1 _ _ hq)) kit_self) fun _ => ev_isi (ev_ixT (ev_var rfl) (ex_t e1 hT) rfl) (ty_bl _) kit_bb) rfl) fun H2 e2 => k H2 (e1.trans e2)
theorem dn_is_pair (T : Txt P w K mg C_BadRule C_BadRules C_BadText C_Feast C_Calendar C_Line) (IF : ClsI K C_Feast) : Dn P w K mg base CX0 "is_pair" 1 ["value"] (spIsPair K C_Feast) := T.f_is_pair.dn fun _ _ F _ _ => ok_is_pair F T IF
theorem rows_eq (d : Rl × Bool) : ∀ rows : Rows, (List.range rows.length).map (fun i => rows.getD i d) = rows
  | [] => rfl
  | r :: rows => by
    rw [List.length_cons, List.range_succ_eq_map, List.map_cons, List.map_map]
    exact congrArg (List.cons r) (rows_eq d rows)
/-- the rows' feasts, by their place -/
theorem RowsL.fn {CF : Addr} {H : Hp} {xs : List V} {rows : Rows} (h : RowsL K CF H xs rows) (d : Rl × Bool) : ∃ q : Nat → Addr, ∀ i x, xs[i]? = some x → ∃ p, x = .ref p ∧ SqT K H p [.ref (q i), .bl (rows.getD i d).2] ∧ FeastAt K CF H (q i) (rows.getD i d).1 := by
  have : ∀ i, ∃ q : Addr, ∀ x, xs[i]? = some x → ∃ p, x = .ref p ∧ SqT K H p [.ref q, .bl (rows.getD i d).2] ∧ FeastAt K CF H q (rows.getD i d).1 := fun i => by
    cases e : xs[i]? with
    | none => exact ⟨0, fun x hx => nomatch hx⟩
    | some y =>
      obtain ⟨r, hr, p, q, h0, h1, h2⟩ := h.get e
      refine ⟨q, fun x hx => ?_⟩
      cases hx
      have : rows.getD i d = r := by rw [List.getD_eq_getElem?_getD, hr]; rfl
      rw [this]
      exact ⟨p, h0, h1, h2⟩
  exact Classical.axiomOfChoice this
def spCal (K : PySem.W.Frag) (CF CC : Addr) : Sp := fun vs H Q E => ∃ (p dx : Addr) (v : V) (rows : Rows), vs = [.ref p, v] ∧ H p = some (.ins CC dx []) ∧ RowsAt K CF H v rows ∧ rows.length ≤ 3 ∧ rowsBys rows ≤ 4 ∧
  (∀ H', ExB p H H' → H' p = some (.ins CC dx (calF v (reachOf rows))) → Q .non H')
theorem ok_cal (F : Fun K "__init__" "Calendar.__init__" s_Calendar_init f fd) (T : Txt P w K mg C_BadRule C_BadRules C_BadText C_Feast C_Calendar C_Line) (CF : Cls1 K C_Feast ["told", "bys"]) (IF : ClsI K C_Feast) (CC : Cls1 K C_Calendar ["rows", "near"]) : FnOk P w K mg base CX0 2 f fd ["self", "rules"] (spCal K C_Feast C_Calendar) := by
  have D_is_pair : Dn P w K mg base CX0 "is_pair" 1 ["value"] (spIsPair K C_Feast) := dn_is_pair T IF
  refine F.ok sc_Calendar_init (fun vs H Q E h => ?_) (fun cdv A outer s H vs Q E hr h => ?_)
  · obtain ⟨_, _, _, _, rfl, _⟩ := h
    rfl
  · obtain ⟨p, dx, v, rows, rfl, hp, ⟨a, xs, rfl, hX, hRs⟩, hlen, hbys, k⟩ := h
    obtain ⟨qf, hqf⟩ := hRs.fn (.wk 0, false)
    have hxl := hRs.len
    refine ⟨_, (pss_cons (ps_if (PW.pt (pw_or (pt_not (pt_val (pe_callB call_isi (by rfl) T.isinstance (by decide +kernel) (pa_cons (pv 1) (pa_cons (pe_bltn (v := .ty "tuple") (by rfl) T.tuple (by decide +kernel) rfl) pa_nil))))) (pw_or1 (pt_cmpR op_gt (pe_callB call_len_seq (by rfl) T.len (by decide +kernel) (pa_cons (pv 1) pa_nil)) (pe_globE rfl T.g_MOST_RULES) (nomark _))))) (pss_one ps_never)
  pss_nil)
  (pss_cons (ps_for PassesOwn.never rfl (pi_enumT (by rfl) T.enumerate (pa_cons (pv 1) pa_nil)) (pg_tup rfl (pgs_cons (pg_name (i := 2) sc_Calendar_init.nd rfl (by first | exact Or.inl rfl | exact Or.inr rfl)) (pgs_cons (pg_name (i := 3) sc_Calendar_init.nd rfl (by first | exact Or.inl rfl | exact Or.inr rfl)) pgs_nil)))
  (pss_one (ps_if (pt_not (pt_val (pe_fn D_is_pair (hr.mono (by omega)) pass0 rfl (pa_cons (pv 3) pa_nil)))) (pss_one ps_never)
  pss_nil)))
  (pss_cons (ps_set (i := 4) sc_Calendar_init.nd rfl (by first | exact Or.inl rfl | exact Or.inr rfl) (pe_callB (cr_sum rfl) (by rfl) T.sum (by decide +kernel) (pa_cons (pe_lc (own := [("feast", 5), ("yields", 6)]) (tt := tYes) rfl sc_Calendar_init.nd (pi_tup (pv 1)) (blkOk_by (own := [("feast", 5), ("yields", 6)]) (N := ["self", "rules", "index", "rule", "bys", "feast", "yields"]) (sc := defScope s_Calendar_init) (by decide +kernel)) (fun _ _ _ _ _ => (pg_tupK (K := K) (n := 2) rfl (pgs_cons (pg_name (i := 5) sc_Calendar_init.nd rfl (by first | exact Or.inl rfl | exact Or.inr rfl)) (pgs_cons (pg_name (i := 6) sc_Calendar_init.nd rfl (by first | exact Or.inl rfl | exact Or.inr rfl)) pgs_nil)))) (fun _ _ _ _ _ => pts_nil) (fun _ _ _ _ _ => (pe_fldK (K := K) (pv 5) rfl))) pa_nil)))
  (pss_cons (ps_if (pt_cmpR op_gt (pv 4) (pe_globE rfl T.g_MOST_BYS) (nomark _)) (pss_one ps_never)
  pss_nil)
  (pss_cons (ps_fld (pv 0) (pv 1) rfl)
  (pss_one (ps_fld (pv 0) (pe_op op_add (pe_op op_add (pe_globE rfl T.g_LEAST_REACH) (pv 4)) (pe_callB call_len_seq (by rfl) T.len (by decide +kernel) (pa_cons (pe_lc (own := [("feast", 5), ("yields", 6)]) rfl sc_Calendar_init.nd (pi_tup (pv 1)) (blkOk_by (own := [("feast", 5), ("yields", 6)]) (N := ["self", "rules", "index", "rule", "bys", "feast", "yields"]) (sc := defScope s_Calendar_init) (by decide +kernel)) (fun _ _ _ _ _ => (pg_tupK (K := K) (n := 2) rfl (pgs_cons (pg_name (i := 5) sc_Calendar_init.nd rfl (by first | exact Or.inl rfl | exact Or.inr rfl)) (pgs_cons (pg_name (i := 6) sc_Calendar_init.nd rfl (by first | exact Or.inl rfl | exact Or.inr rfl)) pgs_nil)))) (fun _ _ _ _ _ => (pts_one (pt_val (pv 6)))) (fun _ _ _ _ _ => (pv 5))) pa_nil))) rfl))))))), ?_⟩
    refine q_not (et_is (et_or (et_not (et_B (ev_isi (ev_var rfl) (ty_tup hX) kit_tt))) fun _ => et_cmp (ev_lenT (ev_var rfl) hX) ev_c rv_I0) ?_) fun H1 e1 => ?_
    · show (false || decide ((3 : Int) < ((xs.length : Nat) : Int))) = false
      rw [decide_eq_false (by omega)]
      rfl
    refine q_forEnT (ev_var rfl) (ex_t e1 hX) (fun i σ H' => Ex H H' ∧ ∃ a2 a3, σ = [some (.ref p), some (.ref a), a2, a3, none, none, none]) (fun H2 e2 => ⟨e1.trans e2, _, _, rfl⟩) (fun i σ' H' _ h => ex_t h.1 hX) ?_ ?_
    · rintro i x σ' H' H2 hi ⟨e, a2, a3, rfl⟩ e2
      obtain ⟨r, hr', hrow⟩ := hRs.get hi
      refine s_no (et_is (et_not (et_B (ev_call (ea_cons (ev_var rfl) ea_nil) (spV (z := .bl true) fun H3 e3 Q _ q => ⟨x, r, rfl, hrow.mono ((e.trans e2).trans e3), q⟩)))) rfl) fun H3 e3 => ⟨(e.trans e2).trans e3, _, _, rfl⟩
    rintro σ' H' ⟨e, a2, a3, rfl⟩
    have hsum : (((List.range xs.length).map fun i => (((rows.getD i (.wk 0, false)).1.bys : Nat) : Int)).sum) = ((rowsBys rows : Nat) : Int) := by
      rw [cast_sumR, hxl]
      have := rows_eq (.wk 0, false) rows
      unfold rowsBys
      conv => rhs; rw [← this]
      rw [List.map_map]
      rfl
    refine q_asg (v := .int ((rowsBys rows : Nat) : Int)) (ev_is (ev_sumR (n := xs.length) (fun i => (((rows.getD i (.wk 0, false)).1.bys : Nat) : Int)) (el_is (el_tup2 (fun i => .ref (qf i)) (fun i => .bl (rows.getD i (.wk 0, false)).2) (fun _ => true) _ (ev_var rfl) (ex_t e hX) (by omega) (fun _ _ => rfl) (fun i x hi => ?_) (fun _ _ _ _ => et_yes) (fun i H2 e2 hi _ => ?_)) (given_allL xs _))) (by rw [hsum])) fun H2 e2 => ?_
    · obtain ⟨p', h0, h1, _⟩ := hqf i x hi
      exact ⟨p', h0, ex_t e h1⟩
    · obtain ⟨x, hx⟩ : ∃ x, xs[i]? = some x := ⟨xs[i], by simp [hi]⟩
      obtain ⟨p', h0, h1, dx', tv, hq', _⟩ := hqf i x hx
      exact ev_fld (ev_var rfl) ((e.trans e2) _ _ hq') CF.cl (CF.no _ (by simp)) (feastF_bys _ _)
    refine q_not (et_is (et_cmp (ev_var rfl) ev_c rv_I0) (decide_eq_false (by omega))) fun H3 e3 => ?_
    have E3 := (e.trans e2).trans e3
    refine q_fld (ev_var rfl) (ev_var rfl) (E3 _ _ hp) CC.cl (CC.no _ (by simp)) (by show 0 < 1000; decide) fun H4 e4 => ?_
    have E4 := E3.trans e4
    have hp4 := E4 _ _ hp
    refine s_fld (y := .int ((reachOf rows : Nat) : Int)) (ev_is (ev_op (ev_op ev_c (ev_var rfl) rv_I0) (ev_lenN (el_tup2 (fun i => .ref (qf i)) (fun i => .bl (rows.getD i (.wk 0, false)).2) (fun i => (rows.getD i (.wk 0, false)).2) (fun i => .ref (qf i)) (ev_var rfl) (sqt_upd hp4 (ex_t E4 hX)) (by omega) (fun _ _ => rfl) (fun i x hi => ?_) (fun i H5 e5 hi => et_B (ev_var rfl)) (fun i H5 e5 hi _ => ev_var rfl))) rv_I0) ?_) (ev_var rfl) upd_same CC.cl (CC.no _ (by simp)) (by show 1 < 1000; decide) fun H5 e5 => k _ (((ExB.of E4).upd.step e5).upd) upd_same
    · obtain ⟨p', h0, h1, _⟩ := hqf i x hi
      exact ⟨p', h0, sqt_upd hp4 (ex_t E4 h1)⟩
    · have hl : (given xs.length (fun i => (rows.getD i (.wk 0, false)).2) (fun i => V.ref (qf i))).length = (rows.filter fun r => r.2).length := by
        unfold given
        rw [List.length_map, hxl]
        have := rows_eq (.wk 0, false) rows
        conv => rhs; rw [← this]
        rw [List.filter_map, List.length_map]
        rfl
      rw [hl]
      show V.int (3 + ((rowsBys rows : Nat) : Int) + _) = _
      unfold reachOf
      rw [Int.natCast_add, Int.natCast_add]
      rfl
theorem mn_cal (T : Txt P w K mg C_BadRule C_BadRules C_BadText C_Feast C_Calendar C_Line) (CF : Cls1 K C_Feast ["told", "bys"]) (IF : ClsI K C_Feast) (CC : Cls1 K C_Calendar ["rows", "near"]) : Mn P w K mg base CX0 C_Calendar 2 ["self", "rules"] (spCal K C_Feast C_Calendar) := T.m_Calendar_init.mn fun _ _ F => ok_cal F T CF IF CC
/-- Calendar(rules) -/
theorem er_cal {CF CC : Addr} {σ : L2.St} {H : Hp} {v : V} {rows : Rows} {ta : TA} {E : XK} (h : EvA ta σ H [v]) (hr : RowsAt K CF H v rows) (hl : rows.length ≤ 3) (hb : rowsBys rows ≤ 4) : EvR (tMake CC (spCal K CF CC) [] E ta) σ H fun p H2 => CalAt K CF CC H2 (.ref p) rows :=
  er_make h fun H1 e1 x dx hx hdx hne Q k => by
    have e2 : Ex H1 (upd (upd H1 dx (.own x)) x (.ins CC dx [])) := ex_made hx hdx
    refine ⟨x, dx, v, rows, rfl, upd_same, hr.mono (e1.trans e2), hl, hb, fun H' eb h' => ?_⟩
    have ee : Ex H1 H' := eb.old e2 hx
    exact k H' ee ⟨x, dx, v, rfl, h', hr.mono (e1.trans ee)⟩
end
end WF

set_option Elab.async false
set_option linter.all false
set_option maxRecDepth 100000
set_option maxHeartbeats 2000000
/-! the law's own defs: what is drawn -/
namespace WF
open PySem L2 Evl
section
variable {P : Program} {w : World} {K : PySem.W.Frag} {mg : Str → Option Value} {base : Heap} {C_BadRule C_BadRules C_BadText C_Feast C_Calendar C_Line : Addr} {f : Addr} {fd : FuncData}
def spRandom (K : PySem.W.Frag) : Sp := fun vs H Q _ => ∃ (a : Addr) (ns : List Int) (salt : Int), vs = [.ref a, .int salt] ∧ SqL K H a (ns.map V.int) ∧ ns.length ≤ 63 ∧ 0 ≤ salt ∧ salt < 1000000 ∧ ∀ p H2 xs, Good xs → H p = none → Ex H H2 → H2 p = some (.lst xs) → Q (.ref p) H2
theorem ok_random (F : Fun K "_law_random" "_law_random" s_l_random f fd) (T : Txt P w K mg C_BadRule C_BadRules C_BadText C_Feast C_Calendar C_Line) : FnOk P w K mg base CX0 1 f fd ["_law_script", "_law_salt"] (spRandom K) := by
  refine F.ok sc_l_random (fun vs H Q E h => ?_) (fun cdv A outer s H vs Q E hr h => ?_)
  · obtain ⟨_, _, _, rfl, _⟩ := h
    rfl
  · obtain ⟨a, ns, salt, rfl, hA, hn, h0, h1, k⟩ := h
    refine ⟨_, (pss_cons (ps_set (i := 2) sc_l_random.nd rfl (by first | exact Or.inl rfl | exact Or.inr rfl) (pv 1))
  (pss_cons (ps_for PassesOwn.never rfl (pi_list (pv 0)) (pg_name (i := 3) sc_l_random.nd rfl (by first | exact Or.inl rfl | exact Or.inr rfl))
  (pss_one (ps_set (i := 2) sc_l_random.nd rfl (by first | exact Or.inl rfl | exact Or.inr rfl) (pe_op op_mod (pe_callTy call_int1 (by rfl) T.int (by decide +kernel) (pa_cons (pe_op op_add (pe_op op_mul (pv 2) pe_int) (pe_callB call_abs (by rfl) T.abs (by decide +kernel) (pa_cons (pv 3) pa_nil))) pa_nil)) pe_int))))
  (pss_one (ps_ret (pe_op op_cat (pe_lst (pa_cons (pv 2) (pa_cons pe_int pa_nil))) (pe_lc (own := [("_law_cell", 3)]) (g := gName 3) rfl sc_l_random.nd (pi_list (pv 0)) (blkOk_by (own := [("_law_cell", 3)]) (N := ["_law_script", "_law_salt", "_law_seed", "_law_cell"]) (sc := defScope s_l_random) (by decide +kernel)) (fun _ _ _ _ _ => (pg_name (i := 3) sc_l_random.nd rfl (by first | exact Or.inl rfl | exact Or.inr rfl))) (fun _ _ _ _ _ => (pts_one (pt_cmpR op_ge (pv 3) (pe_op op_pow pe_int pe_int) (nomark _)))) (fun _ _ _ _ _ => (pv 3)))))))), ?_⟩
    refine q_asg (ev_var rfl) fun H1 e1 => ?_
    refine q_forLn (ev_var rfl) (ex_l e1 hA) (fun i σ H' => Ex H H' ∧ ∃ z c, 0 ≤ z ∧ z < 2147483647 ∧ σ = [some (.ref a), some (.int salt), some (.int z), c]) (fun H2 e2 => ⟨e1.trans e2, salt, none, h0, by omega, rfl⟩) (fun i σ' H' _ h => ex_l h.1 hA) ?_ ?_
    · rintro i x σ' H' hi ⟨e, z, c, hz0, hz1, rfl⟩
      obtain ⟨n, _, rfl⟩ : ∃ n, ns[i]? = some n ∧ x = .int n := by
        rw [List.getElem?_map] at hi
        cases en : ns[i]? with
        | none => rw [en] at hi; cases hi
        | some n => rw [en] at hi; exact ⟨n, rfl, (Option.some.inj hi).symm⟩
      refine s_asg (ev_op (ev_int1 (ev_op (ev_op (ev_var rfl) ev_c (rv_I (.inl ⟨by omega, by omega⟩))) (ev_abs (ev_var rfl)) rv_I0)) ev_c (rv_I (by decide))) fun H2 e2 => ⟨e.trans e2, _, _, Int.emod_nonneg _ (by decide), Int.emod_lt_of_pos _ (by decide), rfl⟩
    · rintro σ' H' ⟨e, z, c, hz0, hz1, rfl⟩
      refine s_retL (el_cat (el_lst (ea_cons (ev_var rfl) (ea_cons ev_c ea_nil)) (by show 2 ≤ 100000; decide)) (el_lcL (fun i => decide (10 ^ 18 ≤ ns.getD i 0)) (fun i => .int (ns.getD i 0)) (ev_var rfl) (ex_l e hA) (by rw [List.length_map]; omega) (fun _ => rfl) (fun i x H2 e2 hi => ?_) (fun i x H2 e2 hi hf => ?_)) ?_) fun p H2 hp e2 h2 => ?_
      · have hx : x = .int (ns.getD i 0) := by
          rw [List.getElem?_map] at hi
          rw [List.getD_eq_getElem?_getD]
          cases en : ns[i]? with
          | none => rw [en] at hi; cases hi
          | some n => rw [en] at hi; exact (Option.some.inj hi).symm
        subst hx
        exact et_cmp (ev_var rfl) (ev_op ev_c ev_c (rv_I ⟨by decide, by decide, by decide⟩)) rv_I0
      · have hx : x = .int (ns.getD i 0) := by
          rw [List.getElem?_map] at hi
          rw [List.getD_eq_getElem?_getD]
          cases en : ns[i]? with
          | none => rw [en] at hi; cases hi
          | some n => rw [en] at hi; exact (Option.some.inj hi).symm
        subst hx
        exact ev_var rfl
      · have := given_len (ns.map V.int).length (fun i => decide (10 ^ 18 ≤ ns.getD i 0)) (fun i => V.int (ns.getD i 0))
        rw [List.length_map] at this ⊢
        show 2 + _ ≤ 100000
        omega
      · refine k p H2 _ ⟨z, 0, ((List.range ns.length).filter fun i => decide (10 ^ 18 ≤ ns.getD i 0)).map fun i => ns.getD i 0, ?_, hz0, hz1, Int.le_refl _, fun b hb => ?_, ?_⟩ (fresh_back e hp) (e.trans e2) h2
        · rw [List.map_map, List.length_map]
          rfl
        · rw [List.mem_map] at hb
          obtain ⟨i, hi, rfl⟩ := hb
          rw [List.mem_filter] at hi
          have h18 := of_decide_eq_true hi.2
          have : (0 : Int) ≤ 10 ^ 18 := by decide
          omega
        · rw [List.length_map]
          have := List.length_filter_le (fun i => decide (10 ^ 18 ≤ ns.getD i 0)) (List.range ns.length)
          rw [List.length_range] at this
          omega
theorem dn_random (T : Txt P w K mg C_BadRule C_BadRules C_BadText C_Feast C_Calendar C_Line) : Dn P w K mg base CX0 "_law_random" 1 ["_law_script", "_law_salt"] (spRandom K) := T.f_l_random.dn fun _ _ F _ _ => ok_random F T
def spBelow : Sp := fun vs H Q _ => ∃ (d : Addr) (xs : List V) (n : Int), vs = [.ref d, .int n] ∧ H d = some (.lst xs) ∧ Good xs ∧ 1 ≤ n ∧ n < 1073741824 ∧ ∀ (r : Nat) xs' H', (r : Int) < n → Good xs' → ExB d H H' → H' d = some (.lst xs') → Q (.int r) H'
theorem at1 {x y : V} {xs : List V} : atI (x :: y :: xs) 1 = some y := atI_nat (j := 1) rfl
theorem ixN0 {n : Nat} (h : 0 < n) : ixN n 0 = some 0 := by
  have := ixN_nat (n := n) (j := 0) h
  exact this
theorem ixN1 {n : Nat} (h : 1 < n) : ixN n 1 = some 1 := ixN_nat (n := n) (j := 1) h
theorem ok_below (F : Fun K "_law_below" "_law_below" s_l_below f fd) (T : Txt P w K mg C_BadRule C_BadRules C_BadText C_Feast C_Calendar C_Line) : FnOk P w K mg base CX0 1 f fd ["_law_d", "_law_size"] spBelow := by
  refine F.ok sc_l_below (fun vs H Q E h => ?_) (fun cdv A outer s H vs Q E hr h => ?_)
  · obtain ⟨_, _, _, rfl, _⟩ := h
    rfl
  · obtain ⟨d, xs, n, rfl, hd, hg, h1, h2, k⟩ := h
    refine ⟨_, (Evl.pss_cut (ps_if (PW.pt (pw_and (pt_cmpR op_eq (pe_ix ix_list (pv 0) pe_int (fun _ _ => rfl)) pe_int (nomark _)) (pw_and1 (pt_cmpR op_gt (pe_callB call_len_seq (by rfl) T.len (by decide +kernel) (pa_cons (pv 0) pa_nil)) pe_int (nomark _))))) (pss_one (ps_asg (pe_bm PySem.F.plainAttrs_list PySem.F.slot_list_pop PySem.F.type_list_pop mt_popAt (pv 0) (pa_cons pe_int pa_nil)) (pg_sub (pv 0) pe_int set_list)))
  pss_nil)
  (pss_cons (ps_if (pt_cmpR op_gt (pe_ix ix_list (pv 0) pe_int (fun _ _ => rfl)) pe_int (nomark _)) (pss_cons (ps_set (i := 2) sc_l_below.nd rfl (by first | exact Or.inl rfl | exact Or.inr rfl) (pe_op op_mod (pe_callTy call_int1 (by rfl) T.int (by decide +kernel) (pa_cons (pe_ix ix_list (pv 0) pe_int (fun _ _ => rfl)) pa_nil)) (pv 1)))
  (pss_cons (ps_asg (pe_op op_fdiv (pe_ix ix_list (pv 0) pe_int (fun _ _ => rfl)) (pv 1)) (pg_sub (pv 0) pe_int set_list))
  (pss_one (ps_ret (pv 2)))))
  pss_nil)
  (pss_cons (ps_asg (pe_op op_mod (pe_callTy call_int1 (by rfl) T.int (by decide +kernel) (pa_cons (pe_op op_add (pe_op op_mul (pe_ix ix_list (pv 0) pe_int (fun _ _ => rfl)) pe_int) pe_int) pa_nil)) pe_int) (pg_sub (pv 0) pe_int set_list))
  (pss_one (ps_ret (pe_op op_mod (pe_callTy call_int1 (by rfl) T.int (by decide +kernel) (pa_cons (pe_op op_fdiv (pe_ix ix_list (pv 0) pe_int (fun _ _ => rfl)) pe_int) pa_nil)) (pv 1))))))), ?_⟩
    obtain ⟨z, r, bs, rfl, hz0, hz1, hr0, hbs, hl⟩ := hg
    refine q_cut (M := fun σ' H' => σ' = [some (.ref d), some (.int n), none] ∧ ∃ (z r : Int) (bs : List Int), H' d = some (.lst (.int z :: .int r :: bs.map V.int)) ∧ 0 ≤ z ∧ z < 2147483647 ∧ 0 ≤ r ∧ (∀ b ∈ bs, 0 ≤ b) ∧ bs.length ≤ 100 ∧ ExB d H H') ?_ ?_
    · refine s_when (et_and (et_cmp (ev_ixL (ev_var rfl) (sq_of hd) at1) ev_c (rv_eq rfl)) fun _ => et_cmp (ev_lenL (ev_var rfl) (sq_of hd)) ev_c rv_I0) (fun hb H1 e1 => ?_) (fun hb H1 e1 => ⟨rfl, z, r, bs, e1 _ _ hd, hz0, hz1, hr0, hbs, hl, ExB.of e1⟩)
      rw [Bool.and_eq_true] at hb
      have hlen := of_decide_eq_true hb.2
      cases bs with
      | nil => exact absurd hlen (by simp)
      | cons b bs =>
        refine ⟨_, rfl, .inl ⟨rfl, _, sq_of (e1 _ _ hd)⟩, d, _, 2, 2, .int b, rfl, rfl, e1 _ _ hd, by decide, by decide, ?_, rfl, _, rfl, d, _, 1, 1, rfl, rfl, upd_same, ?_, ?_⟩
        · show (if 0 ≤ (2 : Int) && (2 : Int) < (((V.int z :: V.int r :: (b :: bs).map V.int).length : Nat) : Int) then some (2 : Int).toNat else none) = some 2
          rw [if_pos]
          · rfl
          · simp
            omega
        · exact ixN1 (by simp)
        · refine ⟨rfl, z, b, bs, upd_same, hz0, hz1, hbs b List.mem_cons_self, fun c hc => hbs c (List.mem_cons_of_mem _ hc), ?_, (ExB.of e1).upd.upd⟩
          simp at hl
          omega
    · rintro σ' H' ⟨rfl, z, r, bs, hd', hz0, hz1, hr0, hbs, hl, eb⟩
      refine q_when (et_cmp (ev_ixL (ev_var rfl) (sq_of hd') at1) ev_c rv_I0) (fun hb H1 e1 => ?_) (fun hb H1 e1 => ?_)
      · refine q_asg (ev_op (ev_int1 (ev_ixL (ev_var rfl) (sq_of (e1 _ _ hd')) at1)) (ev_var rfl) (rv_I (by omega))) fun H2 e2 => ?_
        refine q_setI (j := 1) ((e1.trans e2) _ _ hd') (ev_op (ev_ixL (ev_var rfl) (sq_of ((e1.trans e2) _ _ hd')) at1) (ev_var rfl) (rv_I ⟨by omega, h2⟩)) (ev_var rfl) (ixN1 (by simp)) fun H3 e3 => ?_
        refine s_ret (ev_var rfl) fun H4 e4 => ?_
        have hm0 := Int.emod_nonneg r (show n ≠ 0 by omega)
        have hm1 := Int.emod_lt_of_pos r (show 0 < n by omega)
        have hk := k (r % n).toNat _ H4 (by omega) ⟨z, r / n, bs, rfl, hz0, hz1, Int.ediv_nonneg hr0 (by omega), hbs, hl⟩ (((eb.step ((e1.trans e2).trans e3)).upd).step e4) (e4 _ _ upd_same)
        rw [Int.toNat_of_nonneg hm0] at hk
        exact hk
      · refine q_setI (j := 0) (e1 _ _ hd') (ev_op (ev_int1 (ev_op (ev_op (ev_ixL (ev_var rfl) (sq_of (e1 _ _ hd')) at0) ev_c (rv_I (.inl ⟨by omega, by omega⟩))) ev_c rv_I0)) ev_c (rv_I (by decide))) (ev_var rfl) (ixN0 (by simp)) fun H2 e2 => ?_
        refine s_ret (ev_op (ev_int1 (ev_op (ev_ixL (ev_var rfl) (sq_of upd_same) at0) ev_c (rv_I ⟨by decide, by decide⟩))) (ev_var rfl) (rv_I (by omega))) fun H4 e4 => ?_
        have hm0 := Int.emod_nonneg ((z * 48271 + 11) % 2147483647 / 64) (show n ≠ 0 by omega)
        have hm1 := Int.emod_lt_of_pos ((z * 48271 + 11) % 2147483647 / 64) (show 0 < n by omega)
        have hk := k ((z * 48271 + 11) % 2147483647 / 64 % n).toNat _ H4 (by omega) ⟨(z * 48271 + 11) % 2147483647, r, bs, rfl, Int.emod_nonneg _ (by decide), Int.emod_lt_of_pos _ (by decide), hr0, hbs, hl⟩ (((eb.step (e1.trans e2)).upd).step e4) (e4 _ _ upd_same)
        rw [Int.toNat_of_nonneg hm0] at hk
        exact hk
theorem dn_below (T : Txt P w K mg C_BadRule C_BadRules C_BadText C_Feast C_Calendar C_Line) : Dn P w K mg base CX0 "_law_below" 1 ["_law_d", "_law_size"] spBelow := T.f_l_below.dn fun _ _ F _ _ => ok_below F T
end
end WF

set_option Elab.async false
set_option linter.all false
set_option maxRecDepth 100000
set_option maxHeartbeats 2000000
/-! pick, leaf, rule -/
namespace WF
open PySem L2 Evl
section
variable {P : Program} {w : World} {K : PySem.W.Frag} {mg : Str → Option Value} {base : Heap} {C_BadRule C_BadRules C_BadText C_Feast C_Calendar C_Line : Addr} {f : Addr} {fd : FuncData}
def spPick (K : PySem.W.Frag) : Sp := fun vs H Q _ => ∃ (d l : Addr) (xs ys : List V), vs = [.ref d, .ref l] ∧ H d = some (.lst xs) ∧ Good xs ∧ SqL K H l ys ∧ l ≠ d ∧ 1 ≤ ys.length ∧ ys.length ≤ 1000000 ∧
  ∀ y xs' H', y ∈ ys → Good xs' → ExB d H H' → H' d = some (.lst xs') → Q y H'
theorem ok_pick (F : Fun K "_law_pick" "_law_pick" s_l_pick f fd) (T : Txt P w K mg C_BadRule C_BadRules C_BadText C_Feast C_Calendar C_Line) : FnOk P w K mg base CX0 2 f fd ["_law_d", "_law_items"] (spPick K) := by
  have D_l_below : Dn P w K mg base CX0 "_law_below" 1 ["_law_d", "_law_size"] spBelow := dn_below T
  refine F.ok sc_l_pick (fun vs H Q E h => ?_) (fun cdv A outer s H vs Q E hr h => ?_)
  · obtain ⟨_, _, _, _, rfl, _⟩ := h
    rfl
  · obtain ⟨d, l, xs, ys, rfl, hd, hg, hl, hne, h1, h2, k⟩ := h
    refine ⟨_, (pss_one (ps_ret (pe_ix ix_list (pv 1) (pe_fn D_l_below (hr.mono (by omega)) pass0 rfl (pa_cons (pv 0) (pa_cons (pe_callB call_len_seq (by rfl) T.len (by decide +kernel) (pa_cons (pv 1) pa_nil)) pa_nil))) (fun _ _ => rfl)))), ?_⟩
    refine ⟨_, rfl, call_ev (ea_cons (ev_var rfl) (ea_cons (ev_lenL (ev_var rfl) hl) ea_nil)) fun H1 e1 => ⟨d, xs, _, rfl, e1 _ _ hd, hg, by omega, by omega, fun r xs' H' hr' hg' eb hd' => ?_⟩⟩
    have hlt : r < ys.length := by omega
    have eb' : ExB d H H' := fun b o hb q => eb b o hb (e1 b o q)
    exact ⟨l, ys, _, ys[r], rfl, rfl, sql_but eb' hne hl, atI_nat (by simp [hlt]), k _ xs' H' (List.getElem_mem hlt) hg' eb' hd'⟩
theorem dn_pick (T : Txt P w K mg C_BadRule C_BadRules C_BadText C_Feast C_Calendar C_Line) : Dn P w K mg base CX0 "_law_pick" 2 ["_law_d", "_law_items"] (spPick K) := T.f_l_pick.dn fun _ _ F _ _ => ok_pick F T
/-- pick of a new list -/
theorem pick_new {σ : L2.St} {H : Hp} {ta tl : TE} {d : Addr} {xs ys : List V} {Q : VK} {E : XK} (h0 : Ev ta σ H (.ref d)) (hl : EvL tl σ H ys) (hd : H d = some (.lst xs)) (hg : Good xs) (h1 : 1 ≤ ys.length) (h2 : ys.length ≤ 1000000)
    (k : ∀ y xs' H', y ∈ ys → Good xs' → ExB d H H' → H' d = some (.lst xs') → Q y H') : tCall (spPick K) [] E (tCons ta (tCons tl tNil)) σ H Q :=
  h0 H (Ex.refl H) _ fun H1 e1 => hl H1 e1 _ fun p H2 hp e2 hp2 => ⟨d, p, xs, ys, rfl, (e1.trans e2) _ _ hd, hg, sq_of hp2, (ne_of_none (e1 _ _ hd) hp).symm, h1, h2, fun y xs' H' hy hg' eb hd' =>
    k y xs' H' hy hg' (fun b o hb q => eb b o hb ((e1.trans e2) b o q)) hd'⟩
theorem below_ev {σ : L2.St} {H : Hp} {ta tb : TE} {d : Addr} {xs : List V} {n : Int} {Q : VK} {E : XK} (h0 : Ev ta σ H (.ref d)) (hl : Ev tb σ H (.int n)) (hd : H d = some (.lst xs)) (hg : Good xs) (h1 : 1 ≤ n) (h2 : n < 1073741824)
    (k : ∀ (r : Nat) xs' H', (r : Int) < n → Good xs' → ExB d H H' → H' d = some (.lst xs') → Q (.int r) H') : tCall spBelow [] E (tCons ta (tCons tb tNil)) σ H Q :=
  call_ev (ea_cons h0 (ea_cons hl ea_nil)) fun H1 e1 => ⟨d, xs, n, rfl, e1 _ _ hd, hg, h1, h2, fun r xs' H' hr hg' eb hd' => k r xs' H' hr hg' (fun b o hb q => eb b o hb (e1 b o q)) hd'⟩
/-- below(..) == c -/
theorem below_eq {σ : L2.St} {H : Hp} {ta tb : TE} {d : Addr} {xs : List V} {n c : Int} {Q : Bool → Hp → Prop} {E : XK} (h0 : Ev ta σ H (.ref d)) (hl : Ev tb σ H (.int n)) (hd : H d = some (.lst xs)) (hg : Good xs) (h1 : 1 ≤ n) (h2 : n < 1073741824)
    (k : ∀ (r : Nat) xs' H', (r : Int) < n → Good xs' → ExB d H H' → H' d = some (.lst xs') → Q (decide (V.int r = V.int c)) H') : tTest (tOp rEq (tCall spBelow [] E (tCons ta (tCons tb tNil))) (tC (.int c))) σ H Q :=
  below_ev h0 hl hd hg h1 h2 fun r xs' H' hr hg' eb hd' => ⟨rfl, _, rfl, k r xs' H' hr hg' eb hd'⟩
def spLeaf (K : PySem.W.Frag) : Sp := fun vs H Q _ => ∃ (d : Addr) (xs : List V), vs = [.ref d] ∧ H d = some (.lst xs) ∧ Good xs ∧
  ∀ v r xs' H', RlAt K H' v r → r.fit = true → r.parts = 1 → r.bys = 0 → Good xs' → ExB d H H' → H' d = some (.lst xs') → Q v H'
theorem ok_leaf (F : Fun K "_law_leaf" "_law_leaf" s_l_leaf f fd) (T : Txt P w K mg C_BadRule C_BadRules C_BadText C_Feast C_Calendar C_Line) : FnOk P w K mg base CX0 3 f fd ["_law_d"] (spLeaf K) := by
  have D_l_below : Dn P w K mg base CX0 "_law_below" 1 ["_law_d", "_law_size"] spBelow := dn_below T
  have D_l_pick : Dn P w K mg base CX0 "_law_pick" 2 ["_law_d", "_law_items"] (spPick K) := dn_pick T
  refine F.ok sc_l_leaf (fun vs H Q E h => ?_) (fun cdv A outer s H vs Q E hr h => ?_)
  · obtain ⟨_, _, rfl, _⟩ := h
    rfl
  · obtain ⟨d, xs, rfl, hd, hg, k⟩ := h
    refine ⟨_, (pss_cons (ps_if (pt_cmpR op_eq (pe_fn D_l_below (hr.mono (by omega)) pass0 rfl (pa_cons (pv 0) (pa_cons pe_int pa_nil))) pe_int (nomark _)) (pss_one (ps_ret (pe_tup (pa_cons pe_str (pa_cons (pe_fn D_l_pick (hr.mono (by omega)) pass0 rfl (pa_cons (pv 0) (pa_cons (pe_lst (pa_cons (pe_un un_neg pe_int) (pa_cons (pe_un un_neg pe_int) (pa_cons (pe_un un_neg pe_int) (pa_cons pe_int (pa_cons pe_int (pa_cons pe_int pa_nil))))))) pa_nil))) pa_nil)))))
  pss_nil)
  (pss_one (ps_ret (pe_tup (pa_cons (pe_fn D_l_pick (hr.mono (by omega)) pass0 rfl (pa_cons (pv 0) (pa_cons (pe_lst (pa_cons pe_str (pa_cons pe_str (pa_cons pe_str pa_nil)))) pa_nil))) (pa_cons (pe_fn D_l_pick (hr.mono (by omega)) pass0 rfl (pa_cons (pv 0) (pa_cons (pe_lst (pa_cons (pe_un un_neg pe_int) (pa_cons (pe_un un_neg pe_int) (pa_cons pe_int (pa_cons pe_int pa_nil))))) pa_nil))) pa_nil)))))), ?_⟩
    refine q_ifX (below_eq (ev_var rfl) ev_c hd hg (by decide) (by decide) fun r xs1 H1 hr1 hg1 eb1 hd1 => ite2 (fun _ => ?_) (fun _ => ?_))
    · refine pick_new (ev_var rfl) (el_lst (ea_cons (ev_un ev_c ru_neg) (ea_cons (ev_un ev_c ru_neg) (ea_cons (ev_un ev_c ru_neg) (ea_cons ev_c (ea_cons ev_c (ea_cons ev_c ea_nil)))))) (by show 6 ≤ 100000; decide)) hd1 hg1 (by decide) (by decide) fun y xs2 H2 hy hg2 eb2 hd2 => ?_
      refine ⟨by show 2 ≤ sizeLine; decide, fun p hp => ?_⟩
      have hyk : ∃ j : Int, y = .int j ∧ -3 ≤ j ∧ j ≤ 2 := by
        simp at hy
        rcases hy with rfl | rfl | rfl | rfl | rfl | rfl <;> exact ⟨_, rfl, by decide, by decide⟩
      obtain ⟨j, rfl, h3, h4⟩ := hyk
      refine k _ (.md j) xs2 _ (.md (st_of upd_same)) (decide_eq_true ⟨h3, h4⟩) rfl rfl hg2 ((eb1.trans eb2).step (Ex.new hp)) ?_
      rw [upd_ne (ne_of_none hd2 hp)]
      exact hd2
    · refine pick_new (ev_var rfl) (el_lst (ea_cons ev_c (ea_cons ev_c (ea_cons ev_c ea_nil))) (by show 3 ≤ 100000; decide)) hd1 hg1 (by decide) (by decide) fun x xs2 H2 hx hg2 eb2 hd2 => ?_
      refine pick_new (ev_var rfl) (el_lst (ea_cons (ev_un ev_c ru_neg) (ea_cons (ev_un ev_c ru_neg) (ea_cons ev_c (ea_cons ev_c ea_nil)))) (by show 4 ≤ 100000; decide)) hd2 hg2 (by decide) (by decide) fun y xs3 H3 hy hg3 eb3 hd3 => ?_
      refine ⟨by show 2 ≤ sizeLine; decide, fun p hp => ?_⟩
      have hyk : ∃ j : Int, y = .int j ∧ -2 ≤ j ∧ j ≤ 1 := by
        simp at hy
        rcases hy with rfl | rfl | rfl | rfl <;> exact ⟨_, rfl, by decide, by decide⟩
      obtain ⟨j, rfl, h3, h4⟩ := hyk
      have hd4 : upd H3 p (.tup [x, .int j]) d = some (.lst xs3) := by
        rw [upd_ne (ne_of_none hd3 hp)]
        exact hd3
      have eb : ExB d H (upd H3 p (.tup [x, .int j])) := ((eb1.trans eb2).trans eb3).step (Ex.new hp)
      have hxk : x = .str "weekday" ∨ x = .str "first" := by
        simp at hx
        rcases hx with rfl | rfl
        · exact .inl rfl
        · exact .inr rfl
      rcases hxk with rfl | rfl
      · exact k _ (.wk j) xs3 _ (.wk (st_of upd_same)) (decide_eq_true ⟨h3, h4⟩) rfl rfl hg3 eb hd4
      · exact k _ (.fs j) xs3 _ (.fs (st_of upd_same)) (decide_eq_true ⟨h3, h4⟩) rfl rfl hg3 eb hd4
theorem dn_leaf (T : Txt P w K mg C_BadRule C_BadRules C_BadText C_Feast C_Calendar C_Line) : Dn P w K mg base CX0 "_law_leaf" 3 ["_law_d"] (spLeaf K) := T.f_l_leaf.dn fun _ _ F _ _ => ok_leaf F T
def spRule (K : PySem.W.Frag) (n : Nat) : Sp := fun vs H Q _ => ∃ (d l : Addr) (xs : List V) (p b : Nat), vs = [.ref d, .ref l] ∧ H d = some (.lst xs) ∧ Good xs ∧ H l = some (.lst [.int (p : Int), .int (b : Int)]) ∧ d ≠ l ∧ p < n ∧ b ≤ 100 ∧
  ∀ v r xs' (p' b' : Nat) H', RlAt K H' v r → r.fit = true → r.parts + p' = 1 + p → r.bys + b' = b → Good xs' → H' d = some (.lst xs') → H' l = some (.lst [.int (p' : Int), .int (b' : Int)]) → ExB2 d l H H' → Q v H'
theorem rule_turn (F : Fun K "_law_rule" "_law_rule" s_l_rule f fd) (T : Txt P w K mg C_BadRule C_BadRules C_BadText C_Feast C_Calendar C_Line) (hm : mg "_law_rule" = some (.ref f)) (hb : Binds K fd ["_law_d", "_law_left"] []) (n : Nat) (ih : FnOk P w K mg base CX0 (n + 4) f fd ["_law_d", "_law_left"] (spRule K n)) : FnOk P w K mg base CX0 (n + 5) f fd ["_law_d", "_law_left"] (spRule K (n + 1)) := by
  have D_l_below : Dn P w K mg base CX0 "_law_below" 1 ["_law_d", "_law_size"] spBelow := dn_below T
  have D_l_pick : Dn P w K mg base CX0 "_law_pick" 2 ["_law_d", "_law_items"] (spPick K) := dn_pick T
  have D_l_leaf : Dn P w K mg base CX0 "_law_leaf" 3 ["_law_d"] (spLeaf K) := dn_leaf T
  have D_l_rule : Dn P w K mg base CX0 "_law_rule" (n + 4) ["_law_d", "_law_left"] (spRule K n) := ⟨f, fd, hm, F.kp, ih, hb⟩
  refine F.ok sc_l_rule (fun vs H Q E h => ?_) (fun cdv A outer s H vs Q E hr h => ?_)
  · obtain ⟨_, _, _, _, _, rfl, _⟩ := h
    rfl
  · obtain ⟨d, l, xs, p, b, rfl, hd, hg, hl, hne, hpn, hb4, k⟩ := h
    refine ⟨_, (pss_cons (ps_set (i := 2) sc_l_rule.nd rfl (by first | exact Or.inl rfl | exact Or.inr rfl) (pe_fn D_l_below (hr.mono (by omega)) pass0 rfl (pa_cons (pv 0) (pa_cons pe_int pa_nil))))
  (pss_cons (ps_if (PW.pt (pw_and (pt_cmpR op_eq (pv 2) pe_int (nomark _)) (pw_and (pt_cmpR op_gt (pe_ix ix_list (pv 1) pe_int (fun _ _ => rfl)) pe_int (nomark _)) (pw_and1 (pt_cmpR op_gt (pe_ix ix_list (pv 1) pe_int (fun _ _ => rfl)) pe_int (nomark _)))))) (pss_cons (ps_set (i := 3) sc_l_rule.nd rfl (by first | exact Or.inl rfl | exact Or.inr rfl) (pe_ifExp (pt_cmpR op_gt (pe_ix ix_list (pv 1) pe_int (fun _ _ => rfl)) pe_int (nomark _)) (pe_fn D_l_pick (hr.mono (by omega)) pass0 rfl (pa_cons (pv 0) (pa_cons (pe_lst (pa_cons (pe_un un_neg pe_int) (pa_cons pe_int (pa_cons (pe_un un_neg pe_int) (pa_cons pe_int pa_nil))))) pa_nil))) (pe_fn D_l_pick (hr.mono (by omega)) pass0 rfl (pa_cons (pv 0) (pa_cons (pe_lst (pa_cons (pe_un un_neg pe_int) (pa_cons pe_int pa_nil))) pa_nil)))))
  (pss_cons (ps_asg (pe_op op_sub (pe_ix ix_list (pv 1) pe_int (fun _ _ => rfl)) pe_int) (pg_sub (pv 1) pe_int set_list))
  (pss_cons (ps_asg (pe_op op_sub (pe_ix ix_list (pv 1) pe_int (fun _ _ => rfl)) (pe_callB call_abs (by rfl) T.abs (by decide +kernel) (pa_cons (pv 3) pa_nil))) (pg_sub (pv 1) pe_int set_list))
  (pss_one (ps_ret (pe_tup (pa_cons pe_str (pa_cons (pe_fn D_l_rule (hr.mono (by omega)) pass0 rfl (pa_cons (pv 0) (pa_cons (pv 1) pa_nil))) (pa_cons (pv 3) pa_nil)))))))))
  pss_nil)
  (pss_cons (ps_if (PW.pt (pw_and (pt_cmpR op_lt (pv 2) pe_int (nomark _)) (pw_and1 (pt_cmpR op_gt (pe_ix ix_list (pv 1) pe_int (fun _ _ => rfl)) pe_int (nomark _))))) (pss_cons (ps_set (i := 4) sc_l_rule.nd rfl (by first | exact Or.inl rfl | exact Or.inr rfl) (pe_fn D_l_pick (hr.mono (by omega)) pass0 rfl (pa_cons (pv 0) (pa_cons (pe_lst (pa_cons pe_str (pa_cons pe_str (pa_cons pe_str pa_nil)))) pa_nil))))
  (pss_cons (ps_asg (pe_op op_sub (pe_ix ix_list (pv 1) pe_int (fun _ _ => rfl)) pe_int) (pg_sub (pv 1) pe_int set_list))
  (pss_cons (ps_set (i := 5) sc_l_rule.nd rfl (by first | exact Or.inl rfl | exact Or.inr rfl) (pe_fn D_l_rule (hr.mono (by omega)) pass0 rfl (pa_cons (pv 0) (pa_cons (pv 1) pa_nil))))
  (pss_one (ps_ret (pe_tup (pa_cons (pv 4) (pa_cons (pv 5) (pa_cons (pe_fn D_l_rule (hr.mono (by omega)) pass0 rfl (pa_cons (pv 0) (pa_cons (pv 1) pa_nil))) pa_nil)))))))))
  pss_nil)
  (pss_one (ps_ret (pe_fn D_l_leaf (hr.mono (by omega)) pass0 rfl (pa_cons (pv 0) pa_nil))))))), ?_⟩
    refine q_asgX (below_ev (ev_var rfl) ev_c hd hg (by decide) (by decide) fun r xs1 H1 hr1 hg1 eb1 hd1 => ?_)
    have hl1 := eb1 _ _ (Ne.symm hne) hl
    refine q_when (et_and (et_cmp (ev_var rfl) ev_c (rv_eq rfl)) fun _ => et_and (et_cmp (ev_ixL (ev_var rfl) (sq_of hl1) at0) ev_c rv_I0) fun _ => et_cmp (ev_ixL (ev_var rfl) (sq_of hl1) at1) ev_c rv_I0) (fun hc H2 e2 => ?_) (fun _ H2 e2 => ?_)
    · rw [Bool.and_eq_true, Bool.and_eq_true] at hc
      have hp0 := of_decide_eq_true hc.2.1
      have hb0 := of_decide_eq_true hc.2.2
      have hd2 := e2 _ _ hd1
      have hl2 := e2 _ _ hl1
      -- the by
      have byP : ∀ (Q2 : VK), (∀ (j : Int) xs3 H3, byOk j = true → j.natAbs ≤ b → Good xs3 → ExB d H2 H3 → H3 d = some (.lst xs3) → Q2 (.int j) H3) →
          tIf (tTest (tOp (rI0 fun i j => .bl (decide (j < i))) (tOp (rIxL K) (tVar 1) (tC (.int 1))) (tC (.int 1)))) (tCall (spPick K) [] E0 (tCons (tVar 0) (tCons (tLst (tCons (tUn (rU fun i => .int (-i)) (tC (.int 1))) (tCons (tC (.int 1)) (tCons (tUn (rU fun i => .int (-i)) (tC (.int 2))) (tCons (tC (.int 2)) tNil))))) tNil)))
            (tCall (spPick K) [] E0 (tCons (tVar 0) (tCons (tLst (tCons (tUn (rU fun i => .int (-i)) (tC (.int 1))) (tCons (tC (.int 1)) tNil))) tNil))) [some (.ref d), some (.ref l), some (.int (r : Int)), none, none, none] H2 Q2 := fun Q2 kq => by
        refine (et_cmp (ev_ixL (ev_var rfl) (sq_of hl2) at1) ev_c rv_I0 : EvT _ _ _ _) H2 (Ex.refl H2) _ fun H3 e3 => ?_
        refine ite2 (fun hc1 => ?_) (fun hc1 => ?_)
        · refine pick_new (ev_var rfl) (el_lst (ea_cons (ev_un ev_c ru_neg) (ea_cons ev_c (ea_cons (ev_un ev_c ru_neg) (ea_cons ev_c ea_nil)))) (by show 4 ≤ 100000; decide)) (e3 _ _ hd2) hg1 (by decide) (by decide) fun y xs4 H4 hy hg4 eb4 hd4 => ?_
          have hc2 := of_decide_eq_true hc1
          have : ∃ j : Int, y = .int j ∧ byOk j = true ∧ j.natAbs ≤ 2 := by
            simp at hy
            rcases hy with rfl | rfl | rfl | rfl <;> exact ⟨_, rfl, rfl, by decide⟩
          obtain ⟨j, rfl, hj, hj2⟩ := this
          exact kq j xs4 H4 hj (by omega) hg4 (fun c o hcd q => eb4 c o hcd (e3 c o q)) hd4
        · refine pick_new (ev_var rfl) (el_lst (ea_cons (ev_un ev_c ru_neg) (ea_cons ev_c ea_nil)) (by show 2 ≤ 100000; decide)) (e3 _ _ hd2) hg1 (by decide) (by decide) fun y xs4 H4 hy hg4 eb4 hd4 => ?_
          have : ∃ j : Int, y = .int j ∧ byOk j = true ∧ j.natAbs ≤ 1 := by
            simp at hy
            rcases hy with rfl | rfl <;> exact ⟨_, rfl, rfl, by decide⟩
          obtain ⟨j, rfl, hj, hj2⟩ := this
          exact kq j xs4 H4 hj (by omega) hg4 (fun c o hcd q => eb4 c o hcd (e3 c o q)) hd4
      refine q_asgX (byP _ fun j xs3 H3 hj hjb hg3 eb3 hd3 => ?_)
      have hl3 := eb3 _ _ (Ne.symm hne) hl2
      refine q_setI (j := 0) hl3 (ev_op (ev_ixL (ev_var rfl) (sq_of hl3) at0) ev_c rv_I0) (ev_var rfl) (ixN0 (by simp)) fun H4 e4 => ?_
      refine q_setI (j := 1) upd_same (ev_op (ev_ixL (ev_var rfl) (sq_of upd_same) at1) (ev_abs (ev_var rfl)) rv_I0) (ev_var rfl) (ixN1 (by simp)) fun H5 e5 => ?_
      have hd5 : upd H5 l (.lst [.int ((p : Int) - 1), .int ((b : Int) - (if j < 0 then -j else j))]) d = some (.lst xs3) := by
        rw [upd_ne hne]
        refine e5 _ _ ?_
        rw [upd_ne hne]
        exact e4 _ _ hd3
      have E5 : ExB2 d l H (upd H5 l (.lst [.int ((p : Int) - 1), .int ((b : Int) - (if j < 0 then -j else j))])) := ((((eb1.two (l := l)).step e2).trans (eb3.two)).step e4).updL.step e5 |>.updL
      refine call_ev (ea_cons (ev_var rfl) (ea_cons (ev_var rfl) ea_nil)) fun H6 e6 => ⟨d, l, xs3, p - 1, b - j.natAbs, rfl, e6 _ _ hd5, hg3, ?_, hne, by omega, by omega, fun v rr xs7 p7 b7 H7 hR hf hpp hbb hg7 hd7 hl7 E7 => ?_⟩
      · rw [e6 _ _ upd_same, abs_val]
        have h1 : (p : Int) - 1 = ((p - 1 : Nat) : Int) := by omega
        have h2 : (b : Int) - ((j.natAbs : Nat) : Int) = ((b - j.natAbs : Nat) : Int) := by omega
        show some (HO.lst [V.int ((p : Int) - 1), V.int ((b : Int) - ((j.natAbs : Nat) : Int))]) = _
        rw [h1, h2]
      · refine ⟨_, rfl, by show 3 ≤ sizeLine; decide, fun q hq => ?_⟩
        refine k _ (.bh rr j) xs7 p7 b7 _ (.bh (st_of upd_same) (hR.mono (Ex.new hq))) ?_ ?_ ?_ hg7 ?_ ?_ ((E5.step e6).trans (E7.step (Ex.new hq)))
        · show (decide _ && rr.fit) = true
          rw [hf, Bool.and_true]
          exact hj
        · show 1 + rr.parts + p7 = 1 + p
          omega
        · show j.natAbs + rr.bys + b7 = b
          omega
        · exact (Ex.new hq) _ _ hd7
        · exact (Ex.new hq) _ _ hl7
    · have hd2 := e2 _ _ hd1
      have hl2 := e2 _ _ hl1
      refine q_when (et_and (et_cmp (ev_var rfl) ev_c rv_I0) fun _ => et_cmp (ev_ixL (ev_var rfl) (sq_of hl2) at0) ev_c rv_I0) (fun hc H3 e3 => ?_) (fun _ H3 e3 => ?_)
      · rw [Bool.and_eq_true] at hc
        have hp0 := of_decide_eq_true hc.2
        have hd3 := e3 _ _ hd2
        have hl3 := e3 _ _ hl2
        refine q_asgX (pick_new (ev_var rfl) (el_lst (ea_cons ev_c (ea_cons ev_c (ea_cons ev_c ea_nil))) (by show 3 ≤ 100000; decide)) hd3 hg1 (by decide) (by decide) fun y xs4 H4 hy hg4 eb4 hd4 => ?_)
        have hyk : ∃ s : Str, y = .str s ∧ isPair s := by
          simp at hy
          rcases hy with rfl | rfl | rfl
          · exact ⟨_, rfl, .inl rfl⟩
          · exact ⟨_, rfl, .inr (.inl rfl)⟩
          · exact ⟨_, rfl, .inr (.inr rfl)⟩
        obtain ⟨s, rfl, hs⟩ := hyk
        have hl4 := eb4 _ _ (Ne.symm hne) hl3
        refine q_setI (j := 0) hl4 (ev_op (ev_ixL (ev_var rfl) (sq_of hl4) at0) ev_c rv_I0) (ev_var rfl) (ixN0 (by simp)) fun H5 e5 => ?_
        have hd5 : upd H5 l (.lst [.int ((p : Int) - 2), .int (b : Int)]) d = some (.lst xs4) := by
          rw [upd_ne hne]
          exact e5 _ _ hd4
        have E5 : ExB2 d l H (upd H5 l (.lst [.int ((p : Int) - 2), .int (b : Int)])) := (((((eb1.two (l := l)).step e2).step e3).trans (eb4.two)).step e5).updL
        refine q_call (ea_cons (ev_var rfl) (ea_cons (ev_var rfl) ea_nil)) fun H6 e6 => ⟨d, l, xs4, p - 2, b, rfl, e6 _ _ hd5, hg4, ?_, hne, by omega, by omega, fun v1 r1 xs7 p7 b7 H7 hR1 hf1 hpp1 hbb1 hg7 hd7 hl7 E7 => ?_⟩
        · rw [e6 _ _ upd_same]
          have h1 : (p : Int) - 2 = ((p - 2 : Nat) : Int) := by omega
          show some (HO.lst [V.int ((p : Int) - 2), V.int (b : Int)]) = _
          rw [h1]
        · have hpos := parts_pos r1
          refine ⟨_, rfl, _, rfl, call_ev (ea_cons (ev_var rfl) (ea_cons (ev_var rfl) ea_nil)) fun H8 e8 => ⟨d, l, xs7, p7, b7, rfl, e8 _ _ hd7, hg7, e8 _ _ hl7, hne, by omega, by omega, fun v2 r2 xs9 p9 b9 H9 hR2 hf2 hpp2 hbb2 hg9 hd9 hl9 E9 => ?_⟩⟩
          refine ⟨by show 3 ≤ sizeLine; decide, fun q hq => ?_⟩
          have hR1' : RlAt K H9 v1 r1 := (hR1.mono e8).kn (E9.kn (e8 _ _ hd7) (e8 _ _ hl7))
          have eF : ExB2 d l H (upd H9 q (.tup [.str s, v1, v2])) := (((E5.step e6).trans E7).step e8).trans (E9.step (Ex.new hq))
          rcases hs with rfl | rfl | rfl
          · refine k _ (.bo r1 r2) xs9 p9 b9 _ (.bo (st_of upd_same) (hR1'.mono (Ex.new hq)) (hR2.mono (Ex.new hq))) (by show (r1.fit && r2.fit) = true; rw [hf1, hf2]; rfl) ?_ ?_ hg9 ((Ex.new hq) _ _ hd9) ((Ex.new hq) _ _ hl9) eF
            · show 1 + r1.parts + r2.parts + p9 = 1 + p; omega
            · show r1.bys + r2.bys + b9 = b; omega
          · refine k _ (.ei r1 r2) xs9 p9 b9 _ (.ei (st_of upd_same) (hR1'.mono (Ex.new hq)) (hR2.mono (Ex.new hq))) (by show (r1.fit && r2.fit) = true; rw [hf1, hf2]; rfl) ?_ ?_ hg9 ((Ex.new hq) _ _ hd9) ((Ex.new hq) _ _ hl9) eF
            · show 1 + r1.parts + r2.parts + p9 = 1 + p; omega
            · show r1.bys + r2.bys + b9 = b; omega
          · refine k _ (.wo r1 r2) xs9 p9 b9 _ (.wo (st_of upd_same) (hR1'.mono (Ex.new hq)) (hR2.mono (Ex.new hq))) (by show (r1.fit && r2.fit) = true; rw [hf1, hf2]; rfl) ?_ ?_ hg9 ((Ex.new hq) _ _ hd9) ((Ex.new hq) _ _ hl9) eF
            · show 1 + r1.parts + r2.parts + p9 = 1 + p; omega
            · show r1.bys + r2.bys + b9 = b; omega
      · refine s_retC (ea_cons (ev_var rfl) ea_nil) fun H4 e4 => ⟨d, xs1, rfl, e4 _ _ (e3 _ _ hd2), hg1, fun v rr xs5 H5 hR hf hp1 hb1 hg5 eb5 hd5 => ?_⟩
        exact k v rr xs5 p b H5 hR hf (by omega) (by omega) hg5 hd5 (eb5 _ _ (Ne.symm hne) (e4 _ _ (e3 _ _ hl2))) (((((eb1.two (l := l)).step e2).step e3).step e4).trans (eb5.two))
theorem ok_rule (F : Fun K "_law_rule" "_law_rule" s_l_rule f fd) (T : Txt P w K mg C_BadRule C_BadRules C_BadText C_Feast C_Calendar C_Line) (hm : mg "_law_rule" = some (.ref f)) (hb : Binds K fd ["_law_d", "_law_left"] []) : ∀ n : Nat, FnOk P w K mg base CX0 (n + 4) f fd ["_law_d", "_law_left"] (spRule K n)
  | 0 => fnok_none fun _ _ _ _ ⟨_, _, _, _, _, _, _, _, _, _, h, _⟩ => absurd h (Nat.not_lt_zero _)
  | n + 1 => rule_turn F T hm hb n (ok_rule F T hm hb n)
theorem dn_rule (T : Txt P w K mg C_BadRule C_BadRules C_BadText C_Feast C_Calendar C_Line) : Dn P w K mg base CX0 "_law_rule" 9 ["_law_d", "_law_left"] (spRule K 5) := T.f_l_rule.dn fun _ _ F hm hb => ok_rule F T hm hb 5
end
end WF

set_option Elab.async false
set_option linter.all false
set_option maxRecDepth 100000
set_option maxHeartbeats 2000000
/-! rows, made -/
namespace WF
open PySem L2 Evl
section
variable {P : Program} {w : World} {K : PySem.W.Frag} {mg : Str → Option Value} {base : Heap} {C_BadRule C_BadRules C_BadText C_Feast C_Calendar C_Line : Addr} {f : Addr} {fd : FuncData}
def spRows (K : PySem.W.Frag) : Sp := fun vs H Q _ => ∃ (d : Addr) (xs : List V) (many parts : Nat), vs = [.ref d, .int many, .int parts] ∧ H d = some (.lst xs) ∧ Good xs ∧ many ≤ 3 ∧ 1 ≤ parts ∧ parts ≤ 5 ∧
  ∀ p ys rows xs' H', H p = none → H' p = some (.lst ys) → RawL K H' ys rows → rows.length = many → RowsOk parts rows → Good xs' → ExB d H H' → H' d = some (.lst xs') → Q (.ref p) H'
theorem ok_rows (F : Fun K "_law_rows" "_law_rows" s_l_rows f fd) (T : Txt P w K mg C_BadRule C_BadRules C_BadText C_Feast C_Calendar C_Line) : FnOk P w K mg base CX0 10 f fd ["_law_d", "_law_many", "_law_parts"] (spRows K) := by
  have D_l_below : Dn P w K mg base CX0 "_law_below" 1 ["_law_d", "_law_size"] spBelow := dn_below T
  have D_l_rule : Dn P w K mg base CX0 "_law_rule" 9 ["_law_d", "_law_left"] (spRule K 5) := dn_rule T
  refine F.ok sc_l_rows (fun vs H Q E h => ?_) (fun cdv A outer s H vs Q E hr h => ?_)
  · obtain ⟨_, _, _, _, rfl, _⟩ := h
    rfl
  · obtain ⟨d, xs, many, parts, rfl, hd, hg, hm, hp1, hp5, k⟩ := h
    refine ⟨_, (pss_cons (ps_set (i := 3) sc_l_rows.nd rfl (by first | exact Or.inl rfl | exact Or.inr rfl) pe_int)
  (pss_cons (ps_set (i := 4) sc_l_rows.nd rfl (by first | exact Or.inl rfl | exact Or.inr rfl) (pe_lst pa_nil))
  (pss_cons (ps_for PassesOwn.never rfl (pi_range1 (by rfl) T.range (pa_cons (pv 1) pa_nil)) (pg_name (i := 5) sc_l_rows.nd rfl (by first | exact Or.inl rfl | exact Or.inr rfl))
  (pss_cons (ps_set (i := 6) sc_l_rows.nd rfl (by first | exact Or.inl rfl | exact Or.inr rfl) (pe_lst (pa_cons (pe_op op_sub (pv 2) pe_int) (pa_cons (pv 3) pa_nil))))
  (pss_cons (ps_set (i := 7) sc_l_rows.nd rfl (by first | exact Or.inl rfl | exact Or.inr rfl) (pe_fn D_l_rule (hr.mono (by omega)) pass0 rfl (pa_cons (pv 0) (pa_cons (pv 6) pa_nil))))
  (pss_cons (ps_set (i := 3) sc_l_rows.nd rfl (by first | exact Or.inl rfl | exact Or.inr rfl) (pe_ix ix_list (pv 6) pe_int (fun _ _ => rfl)))
  (pss_one (ps_expr (pe_bm PySem.F.plainAttrs_list PySem.F.slot_list_append PySem.F.type_list_append mt_append (pv 4) (pa_cons (pe_tup (pa_cons (pv 7) (pa_cons (pe_cmpR op_eq (pe_fn D_l_below (hr.mono (by omega)) pass0 rfl (pa_cons (pv 0) (pa_cons pe_int pa_nil))) pe_int (nomark _)) pa_nil))) pa_nil))))))))
  (pss_one (ps_ret (pv 4)))))), ?_⟩
    refine q_asg ev_c fun H1 e1 => ?_
    refine q_asgL (el_lst ea_nil (Nat.zero_le _)) fun Fl H2 hF e2 h2 => ?_
    have hF0 := fresh_back e1 hF
    have hdF : d ≠ Fl := ne_of_none hd hF0
    refine q_forR1 (n := (many : Int)) (ea_cons (ev_var rfl) ea_nil) ⟨by omega, by omega⟩ (fun i σ H' => ∃ xs' ys rows a5 a6 a7, σ = [some (.ref d), some (.int many), some (.int parts), some (.int (4 - (rowsBys rows : Nat) : Int)), some (.ref Fl), a5, a6, a7] ∧
      H' Fl = some (.lst ys) ∧ RawL K H' ys rows ∧ rows.length = i ∧ RowsOk parts rows ∧ Good xs' ∧ H' d = some (.lst xs') ∧ ExB d H H') (fun H3 e3 => ⟨xs, [], [], none, none, none, rfl, e3 _ _ h2, trivial, rfl, ⟨Nat.zero_le _, fun r hr => nomatch hr⟩, hg, e3 _ _ (e2 _ _ (e1 _ _ hd)), ExB.of ((e1.trans e2).trans e3)⟩) ?_ ?_
    · rintro i σ' H' hi ⟨xs', ys, rows, a5, a6, a7, rfl, hFl, hraw, hlen, hok, hg', hd', eb⟩
      refine q_asgL (el_lst (ea_cons (ev_op (ev_var rfl) ev_c rv_I0) (ea_cons (ev_var rfl) ea_nil)) (by show 2 ≤ 100000; decide)) fun L H3 hL e3 h3 => ?_
      have hb4 := hok.bys
      have hLF : Fl ≠ L := ne_of_none hFl hL
      have hLd : d ≠ L := ne_of_none hd' hL
      refine q_call (ea_cons (ev_var rfl) (ea_cons (ev_var rfl) ea_nil)) fun H4 e4 => ⟨d, L, xs', parts - 1, 4 - rowsBys rows, rfl, e4 _ _ (e3 _ _ hd'), hg', ?_, hLd, by omega, by omega, fun v r xs5 p5 b5 H5 hR hf hpp hbb hg5 hd5 hl5 E5 => ?_⟩
      · rw [e4 _ _ h3]
        have h1 : (parts : Int) - 1 = ((parts - 1 : Nat) : Int) := by omega
        have h2 : (4 : Int) - ((rowsBys rows : Nat) : Int) = ((4 - rowsBys rows : Nat) : Int) := by omega
        show some (HO.lst [V.int ((parts : Int) - 1), V.int ((4 : Int) - ((rowsBys rows : Nat) : Int))]) = _
        rw [h1, h2]
      · have eb5 : ExB d H' H5 := E5.one (e3.trans e4) hL
        have hF5 : H5 Fl = some (.lst ys) := eb5 _ _ (Ne.symm hdF) hFl
        have kn5 : KeepN H' H5 := eb5.kn hd'
        refine q_asg (ev_ixL (ev_var rfl) (sq_of hl5) at1) fun H6 e6 => ?_
        refine ⟨_, rfl, .inl ⟨rfl, _, sq_of (e6 _ _ hF5)⟩, _, rfl, below_ev (ev_var rfl) ev_c (e6 _ _ hd5) hg5 (by decide) (by decide) fun z xs7 H7 hz hg7 eb7 hd7 => ⟨rfl, ?_⟩⟩
        refine ⟨by show 2 ≤ sizeLine; decide, fun q hq => ?_⟩
        have hF7 : H7 Fl = some (.lst ys) := eb7 _ _ (Ne.symm hdF) (e6 _ _ hF5)
        have hqF : Fl ≠ q := ne_of_none hF7 hq
        have kn7 : KeepN H5 (upd H7 q (.tup [v, .bl (decide (V.int (z : Int) = V.int 0))])) := ((KeepN.of e6).trans (eb7.kn (e6 _ _ hd5))).trans (KeepN.of (Ex.new hq))
        have hl8 := hraw.len
        refine ⟨Fl, ys, .ref q, rfl, rfl, by rw [upd_ne hqF]; exact hF7, Evl.sz_lt (by omega), ?_⟩
        have knF : KeepN (upd H7 q (.tup [v, .bl (decide (V.int (z : Int) = V.int 0))])) (upd (upd H7 q (.tup [v, .bl (decide (V.int (z : Int) = V.int 0))])) Fl (.lst (ys ++ [.ref q]))) := (KeepN.refl _).lst (by rw [upd_ne hqF]; exact hF7)
        have hbys : rowsBys (rows ++ [(r, decide (V.int (z : Int) = V.int 0))]) = rowsBys rows + r.bys := by
          unfold rowsBys
          rw [List.map_append, List.sum_append]
          simp
        refine ⟨xs7, ys ++ [.ref q], rows ++ [(r, decide (V.int (z : Int) = V.int 0))], some (.int (i : Int)), some (.ref L), some v, ?_, upd_same, ?_, by rw [List.length_append, hlen]; rfl, ⟨by omega, fun r' hr' => ?_⟩, hg7, ?_, ?_⟩
        · have : ((b5 : Nat) : Int) = 4 - ((rowsBys (rows ++ [(r, decide (V.int (z : Int) = V.int 0))]) : Nat) : Int) := by omega
          rw [← this]
          rfl
        · refine RawL.snoc ((hraw.kn kn5).kn (kn7.trans knF)) ⟨q, v, rfl, ?_, hR.kn (kn7.trans knF)⟩
          exact sqt_kn knF (st_of upd_same)
        · rcases List.mem_append.mp hr' with h | h
          · exact hok.fit r' h
          · rw [List.mem_singleton] at h
            subst h
            exact ⟨hf, by show r.parts ≤ parts; omega⟩
        · rw [upd_ne hdF]
          exact (Ex.new hq) _ _ hd7
        · exact ((((eb.trans eb5).step e6).trans eb7).step (Ex.new hq)).mut hF0
    · rintro σ' H' ⟨xs', ys, rows, a5, a6, a7, rfl, hFl, hraw, hlen, hok, hg', hd', eb⟩
      refine s_ret (ev_var rfl) fun H3 e3 => k Fl ys rows xs' H3 hF0 (e3 _ _ hFl) (hraw.kn (KeepN.of e3)) (by rw [hlen, Int.toNat_natCast]) hok hg' (eb.step e3) (e3 _ _ hd')
theorem dn_rows (T : Txt P w K mg C_BadRule C_BadRules C_BadText C_Feast C_Calendar C_Line) : Dn P w K mg base CX0 "_law_rows" 10 ["_law_d", "_law_many", "_law_parts"] (spRows K) := T.f_l_rows.dn fun _ _ F _ _ => ok_rows F T
def spMade (K : PySem.W.Frag) (CF CC : Addr) : Sp := fun vs H Q _ => ∃ (l : Addr) (ys : List V) (rows : Rows), vs = [.ref l] ∧ SqL K H l ys ∧ RawL K H ys rows ∧ rows.length ≤ 3 ∧ RowsOk 5 rows ∧ ∀ p H2, H p = none → Ex H H2 → CalAt K CF CC H2 (.ref p) rows → Q (.ref p) H2
theorem tup_RV {σ : L2.St} {H : Hp} {ta tb : TE} {R : Addr → Hp → Prop} {y : V} {Q : VK} (ha : EvR ta σ H R) (hb : ∀ H1, Ex H H1 → Ev tb σ H1 y) (k : ∀ p t H1 H2, Ex H H1 → R p H1 → Ex H1 H2 → H2 t = some (.tup [.ref p, y]) → Q (.ref t) H2) : tTup (tCons ta (tCons tb tNil)) σ H Q :=
  ha H (Ex.refl H) _ fun p H1 hp e1 hR => hb H1 e1 H1 (Ex.refl H1) _ fun H2 e2 => ⟨by show 2 ≤ sizeLine; decide, fun t ht => k p t H1 _ e1 hR (e2.trans (Ex.new ht)) upd_same⟩
/-- Calendar(a new tuple of rows) -/
theorem er_calX {CF CC : Addr} {σ : L2.St} {H : Hp} {ta : TE} {rows : Rows} {E : XK} (h : EvR ta σ H fun p H2 => ∃ zs, H2 p = some (.tup zs) ∧ RowsL K CF H2 zs rows) (hl : rows.length ≤ 3) (hb : rowsBys rows ≤ 4) :
    EvR (tMake CC (spCal K CF CC) [] E (tCons ta tNil)) σ H fun p H2 => CalAt K CF CC H2 (.ref p) rows := fun H1 e Q q => h H1 e _ fun p H2 hp e2 ⟨zs, h1, h2⟩ =>
  er_cal (K := K) (CF := CF) (CC := CC) (σ := σ) (H := H2) (v := .ref p) (rows := rows) (ta := fun _ H Q => Q [.ref p] H) (E := E) (fun H3 _ Q q => q H3 (Ex.refl H3)) ⟨p, zs, rfl, st_of h1, h2⟩ hl hb H2 (Ex.refl H2) Q fun p3 H3 hp3 e3 hc => q p3 H3 (fresh_back e2 hp3) (e2.trans e3) hc
end
end WF

set_option Elab.async false
set_option linter.all false
set_option maxRecDepth 100000
set_option maxHeartbeats 1000000
/-! the words of a rule, by the program and by the law -/
namespace WF
open PySem L2 Evl
theorem small_i {k : Int} (h : -3 ≤ k ∧ k ≤ 2) : k.natAbs.log2 < 1920 := by
  have : k.natAbs ≤ 3 := by omega
  rcases (show k.natAbs = 0 ∨ k.natAbs = 1 ∨ k.natAbs = 2 ∨ k.natAbs = 3 by omega) with h | h | h | h <;> rw [h] <;> decide +kernel
section
variable {K : PySem.W.Frag} {σ : L2.St} {H : Hp} {ta tb te : TE} {tA : TA} {xs ys : List V}
theorem ea_star (h : EvL te σ H xs) (ht : EvA tA σ H ys) : EvA (StX.tStar K te tA) σ H (xs ++ ys) := fun H1 e Q q =>
  h H1 e _ fun p H2 hp e2 h2 => ⟨p, xs, rfl, .inr (sq_of h2), ht H2 (e.trans e2) _ fun H3 e3 => q H3 (e2.trans e3)⟩
theorem ev_strI {i : Int} (h : Ev ta σ H (.int i)) (hi : -3 ≤ i ∧ i ≤ 2) : Ev (tCB (fun xs H Q => ∃ i, xs = [.int i] ∧ i.natAbs.log2 < 1920 ∧ Q (.str (toString i)) H) (tCons ta tNil)) σ H (.str (numS i)) := fun H1 e Q q =>
  h H1 e _ fun H2 e2 => ⟨i, rfl, small_i hi, q H2 e2⟩
end
section
variable {P : Program} {w : World} {K : PySem.W.Frag} {mg : Str → Option Value} {base : Heap} {C_BadRule C_BadRules C_BadText C_Feast C_Calendar C_Line : Addr} {f : Addr} {fd : FuncData}
def spWords (K : PySem.W.Frag) (n : Nat) : Sp := fun vs H Q _ => ∃ v r, vs = [v] ∧ RlAt K H v r ∧ r.dep < n ∧ r.fit = true ∧ r.parts ≤ 50 ∧ RetL ((wordsR r).map V.str) H Q
theorem el_words {σ : L2.St} {H : Hp} {tA : TA} {E : XK} {n : Nat} {v : V} {r : Rl} (h : EvA tA σ H [v]) (hr : RlAt K H v r) (hd : r.dep < n) (hf : r.fit = true) (hp : r.parts ≤ 50) : EvL (tCall (spWords K n) [] E tA) σ H ((wordsR r).map V.str) :=
  el_call h (spL fun H1 e Q _ q => ⟨v, r, rfl, hr.mono e, hd, hf, hp, q⟩)
end
end WF

set_option Elab.async false
set_option linter.all false
set_option maxRecDepth 100000
set_option maxHeartbeats 1000000
/-! the reader of a line: its words taken -/
namespace WF
open PySem L2 Evl
theorem inV_strs (z : Str) : ∀ zs : List Str, inV (.str z) (zs.map V.str) = decide (z ∈ zs)
  | [] => rfl
  | y :: zs => by
    have ih := inV_strs z zs
    unfold inV at ih ⊢
    rw [List.map_cons, List.any_cons, ih, Bool.eq_iff_iff, Bool.or_eq_true, decide_eq_true_iff, decide_eq_true_iff, List.mem_cons]
    show ((y == z) = true ∨ _) ↔ _
    rw [beq_iff_eq]
    exact ⟨fun h => h.elim (fun h => .inl h.symm) .inr, fun h => h.elim (fun h => .inl h.symm) .inr⟩
theorem strs_flat : ∀ zs : List Str, (zs.map V.str).all flatV = true
  | [] => rfl
  | _ :: zs => strs_flat zs
def RefE (CT p : Addr) (num : Int) (i : Nat) (H : Hp) (E : XK) : Prop := ∀ d H2, ExB p H H2 → H2 d = some (.xd [("word", .int ((i + 1 : Nat) : Int)), ("line", .int num)]) → E (.ref CT) (some d) H2
theorem RefE.back {CT p : Addr} {num : Int} {i : Nat} {H H' : Hp} {E : XK} (h : RefE CT p num i H E) (e : ExB p H H') : RefE CT p num i H' E := fun d H2 e2 hd => h d H2 (e.trans e2) hd
section
variable {K : PySem.W.Frag} {σ : L2.St} {H : Hp} {ta tv tb tc : TE} {x : V} {D : Ends} {tz : TS}
theorem q_fldadd {p C dx : Addr} {fs : List (Str × V)} {f : Str} {i j : Int} (ha : Ev ta σ H (.ref p)) (ho : H p = some (.ins C dx fs)) (hc : Cls K C) (hn : NoAttr K C f) (hf : fs.lookup f = some (.int i)) (hv : ∀ H1, Ex H H1 → Ev tv σ H1 (.int j)) (hz : fs.length < 1000) (k : ∀ H1, Ex H H1 → tz D σ (upd H1 p (.ins C dx (putF f (.int (i + j)) fs)))) : tSeq (sFldAug K ta tv rAdd f) tz D σ H :=
  ha H (Ex.refl H) _ fun H1 e1 => ⟨p, C, dx, fs, .int i, rfl, e1 _ _ ho, hc, hn, hf, hv H1 e1 H1 (Ex.refl H1) _ fun H2 e2 => ⟨i, j, rfl, rfl, dx, fs, (e1.trans e2) _ _ ho, hz, k H2 (e1.trans e2)⟩⟩
theorem q_fldR {a C dx : Addr} {fs : List (Str × V)} {f : Str} {R : Addr → Hp → Prop} (hv : EvR tv σ H R) (h : ∀ H1, Ev ta σ H1 (.ref a)) (ho : H a = some (.ins C dx fs)) (hc : Cls K C) (hn : NoAttr K C f) (hz : fs.length < 1000)
    (k : ∀ q H1 H2, H q = none → Ex H H1 → R q H1 → Ex H1 H2 → tz D σ (upd H2 a (.ins C dx (putF f (.ref q) fs)))) : tSeq (sFld K ta tv f) tz D σ H :=
  hv H (Ex.refl H) _ fun q H1 hq e1 hR => h H1 H1 (Ex.refl H1) _ fun H2 e2 => ⟨a, C, dx, fs, rfl, e2 _ _ (e1 _ _ ho), hc, hn, hz, k q H1 H2 hq e1 hR e2⟩
theorem tA_1c {Q : List V → Hp → Prop} {v : V} (h : Q [v] H) : tCons (tC v) tNil σ H Q := h
theorem tA_one {Q : List V → Hp → Prop} (h : ta σ H fun x H1 => Q [x] H1) : tCons ta tNil σ H Q := h
theorem tA_x {tA : TA} {Q : List V → Hp → Prop} (h : ta σ H fun x H1 => tA σ H1 fun xs H2 => Q (x :: xs) H2) : tCons ta tA σ H Q := h
theorem tTup_go {tA : TA} {Q : VK} (h : tA σ H fun xs H1 => xs.length ≤ sizeLine ∧ ∀ p, H1 p = none → Q (.ref p) (upd H1 p (.tup xs))) : tTup tA σ H Q := h
theorem tCB_one {r : List V → Hp → VK → Prop} {Q : VK} (h : ta σ H fun x H1 => r [x] H1 Q) : tCB r (tCons ta tNil) σ H Q := h
theorem tMeth_go {C p dx : Addr} {fs : List (Str × V)} {m : Str} {sp : Sp} {E : XK} {tA : TA} {Q : VK} (ha : Ev ta σ H (.ref p)) (ho : H p = some (.ins C dx fs)) (hl : fs.lookup m = none) (k : ∀ H1, Ex H H1 → tA σ H1 fun vs H2 => sp (.ref p :: (vs ++ [])) H2 Q E) : tMeth C m sp [] E ta tA σ H Q :=
  ha H (Ex.refl H) _ fun H1 e1 => ⟨p, dx, fs, rfl, e1 _ _ ho, hl, k H1 e1⟩
theorem el_split {a b : Str} (h : Ev ta σ H (.str a)) (hb : (b.length == 0) = false) (hz : a.length ≤ 10000) : EvL (tBM K "str" (fun x xs H Q => ∃ a b, x = .str a ∧ xs = [.str b] ∧ (b.length == 0) = false ∧ a.length + 2 ≤ sizeLine ∧ rNewStrs (Txt.split a b) H Q) ta (tCons (tC (.str b)) tNil)) σ H ((Txt.split a b).map V.str) := fun H1 e Q q =>
  h H1 e _ fun H2 e2 => ⟨rfl, tA_1c ⟨a, b, rfl, rfl, hb, Nat.le_trans (Nat.add_le_add_right hz 2) (by decide), fun p hp => q p _ (fresh_back e2 hp) (e2.trans (Ex.new hp)) upd_same⟩⟩
theorem q_fldsub {p C dx : Addr} {fs : List (Str × V)} {f : Str} {i j : Int} (ha : Ev ta σ H (.ref p)) (ho : H p = some (.ins C dx fs)) (hc : Cls K C) (hn : NoAttr K C f) (hf : fs.lookup f = some (.int i)) (hv : ∀ H1, Ex H H1 → Ev tv σ H1 (.int j)) (hz : fs.length < 1000) (k : ∀ H1, Ex H H1 → tz D σ (upd H1 p (.ins C dx (putF f (.int (i - j)) fs)))) : tSeq (sFldAug K ta tv rSub f) tz D σ H :=
  ha H (Ex.refl H) _ fun H1 e1 => ⟨p, C, dx, fs, .int i, rfl, e1 _ _ ho, hc, hn, hf, hv H1 e1 H1 (Ex.refl H1) _ fun H2 e2 => ⟨i, j, rfl, rfl, dx, fs, (e1.trans e2) _ _ ho, hz, k H2 (e1.trans e2)⟩⟩
end
section
variable {P : Program} {w : World} {K : PySem.W.Frag} {mg : Str → Option Value} {base : Heap} {C_BadRule C_BadRules C_BadText C_Feast C_Calendar C_Line : Addr} {f : Addr} {fd : FuncData}
abbrev lineFs : List Str := ["number", "row", "spot", "parts", "due", "room"]
def spLine (K : PySem.W.Frag) (CL : Addr) : Sp := fun vs H Q _ => ∃ (p dx : Addr) (num : Int) (z : Str) (ro : Nat), vs = [.ref p, .int num, .str z, .int (ro : Int)] ∧ H p = some (.ins CL dx []) ∧ z.length ≤ 10000 ∧
  ∀ H', ExB p H H' → LineAt K CL H' p num (Txt.split z " ") 0 0 1 ro → Q .non H'
theorem ok_line (F : Fun K "__init__" "Line.__init__" s_Line_init f fd) (T : Txt P w K mg C_BadRule C_BadRules C_BadText C_Feast C_Calendar C_Line) (CI : Cls1 K C_Line lineFs) : FnOk P w K mg base CX0 1 f fd ["self", "number", "text", "room"] (spLine K C_Line) := by
  refine F.ok sc_Line_init (fun vs H Q E h => ?_) (fun cdv A outer s H vs Q E hr h => ?_)
  · obtain ⟨_, _, _, _, _, rfl, _⟩ := h
    rfl
  · obtain ⟨p, dx, num, z, ro, rfl, hp, hz, k⟩ := h
    refine ⟨_, (pss_cons (ps_fld (pv 0) (pv 1) rfl)
  (pss_cons (ps_fld (pv 0) (pe_bm PySem.F.plainAttrs_str PySem.F.slot_str_split PySem.F.type_str_split mt_split (pv 2) (pa_cons pe_str pa_nil)) rfl)
  (pss_cons (ps_fld (pv 0) pe_int rfl)
  (pss_cons (ps_fld (pv 0) pe_int rfl)
  (pss_cons (ps_fld (pv 0) pe_int rfl)
  (pss_one (ps_fld (pv 0) (pv 3) rfl))))))), ?_⟩
    have l1 : (putF ("number" : Str) (.int num) []).length ≤ 1 := length_putF _ _ _
    refine q_fld (ev_var rfl) (ev_var rfl) hp CI.cl (CI.no _ (by simp)) (by show 0 < 1000; decide) fun H1 e1 => ?_
    have b1 := (ExB.of (p := p) e1).upd (o := .ins C_Line dx (putF ("number" : Str) (.int num) []))
    have hp1 : upd H1 p (.ins C_Line dx (putF ("number" : Str) (.int num) [])) p = some (.ins C_Line dx (putF ("number" : Str) (.int num) [])) := upd_same
    generalize upd H1 p (.ins C_Line dx (putF ("number" : Str) (.int num) [])) = G1 at b1 hp1 ⊢
    refine q_fldR (el_R (el_split (ev_var rfl) (by decide +kernel) hz)) (fun _ => ev_var rfl) hp1 CI.cl (CI.no _ (by simp)) (by omega) fun W H2 H3 hW e2 hR e3 => ?_
    have l2 := length_putF ("row" : Str) (.ref W) (putF ("number" : Str) (.int num) [])
    have hWp : W ≠ p := fun q => by rw [q, hp1] at hW; cases hW
    have b2 := (b1.step (e2.trans e3)).upd (o := .ins C_Line dx (putF ("row" : Str) (.ref W) (putF ("number" : Str) (.int num) [])))
    have hp2 : upd H3 p (.ins C_Line dx (putF ("row" : Str) (.ref W) (putF ("number" : Str) (.int num) []))) p = some (.ins C_Line dx (putF ("row" : Str) (.ref W) (putF ("number" : Str) (.int num) []))) := upd_same
    have w2 : upd H3 p (.ins C_Line dx (putF ("row" : Str) (.ref W) (putF ("number" : Str) (.int num) []))) W = some (.lst ((Txt.split z " ").map V.str)) := by rw [upd_ne hWp]; exact e3 _ _ hR
    generalize upd H3 p (.ins C_Line dx (putF ("row" : Str) (.ref W) (putF ("number" : Str) (.int num) []))) = G2 at b2 hp2 w2 ⊢
    generalize hf2 : putF ("row" : Str) (V.ref W) (putF ("number" : Str) (V.int num) []) = f2 at l2 hp2
    refine q_fld ev_c (ev_var rfl) hp2 CI.cl (CI.no _ (by simp)) (by omega) fun H4 e4 => ?_
    have l3 := length_putF ("spot" : Str) (.int 0) f2
    have b3 := (b2.step e4).upd (o := .ins C_Line dx (putF ("spot" : Str) (.int 0) f2))
    have hp3 : upd H4 p (.ins C_Line dx (putF ("spot" : Str) (.int 0) f2)) p = some (.ins C_Line dx (putF ("spot" : Str) (.int 0) f2)) := upd_same
    have w3 : upd H4 p (.ins C_Line dx (putF ("spot" : Str) (.int 0) f2)) W = some (.lst ((Txt.split z " ").map V.str)) := by rw [upd_ne hWp]; exact e4 _ _ w2
    generalize upd H4 p (.ins C_Line dx (putF ("spot" : Str) (.int 0) f2)) = G3 at b3 hp3 w3 ⊢
    generalize hf3 : putF ("spot" : Str) (V.int 0) f2 = f3 at l3 hp3
    refine q_fld ev_c (ev_var rfl) hp3 CI.cl (CI.no _ (by simp)) (by omega) fun H5 e5 => ?_
    have l4 := length_putF ("parts" : Str) (.int 0) f3
    have b4 := (b3.step e5).upd (o := .ins C_Line dx (putF ("parts" : Str) (.int 0) f3))
    have hp4 : upd H5 p (.ins C_Line dx (putF ("parts" : Str) (.int 0) f3)) p = some (.ins C_Line dx (putF ("parts" : Str) (.int 0) f3)) := upd_same
    have w4 : upd H5 p (.ins C_Line dx (putF ("parts" : Str) (.int 0) f3)) W = some (.lst ((Txt.split z " ").map V.str)) := by rw [upd_ne hWp]; exact e5 _ _ w3
    generalize upd H5 p (.ins C_Line dx (putF ("parts" : Str) (.int 0) f3)) = G4 at b4 hp4 w4 ⊢
    generalize hf4 : putF ("parts" : Str) (V.int 0) f3 = f4 at l4 hp4
    refine q_fld ev_c (ev_var rfl) hp4 CI.cl (CI.no _ (by simp)) (by omega) fun H6 e6 => ?_
    have l5 := length_putF ("due" : Str) (.int 1) f4
    have b5 := (b4.step e6).upd (o := .ins C_Line dx (putF ("due" : Str) (.int 1) f4))
    have hp5 : upd H6 p (.ins C_Line dx (putF ("due" : Str) (.int 1) f4)) p = some (.ins C_Line dx (putF ("due" : Str) (.int 1) f4)) := upd_same
    have w5 : upd H6 p (.ins C_Line dx (putF ("due" : Str) (.int 1) f4)) W = some (.lst ((Txt.split z " ").map V.str)) := by rw [upd_ne hWp]; exact e6 _ _ w4
    generalize upd H6 p (.ins C_Line dx (putF ("due" : Str) (.int 1) f4)) = G5 at b5 hp5 w5 ⊢
    generalize hf5 : putF ("due" : Str) (V.int 1) f4 = f5 at l5 hp5
    refine s_fld (ev_var rfl) (ev_var rfl) hp5 CI.cl (CI.no _ (by simp)) (by omega) fun H7 e7 => k _ (b5.step e7).upd ⟨dx, W, ?_, by rw [upd_ne hWp]; exact e7 _ _ w5⟩
    rw [← hf5, ← hf4, ← hf3, ← hf2, lineF_mk]
    exact upd_same
theorem mn_line (T : Txt P w K mg C_BadRule C_BadRules C_BadText C_Feast C_Calendar C_Line) (CI : Cls1 K C_Line lineFs) : Mn P w K mg base CX0 C_Line 1 ["self", "number", "text", "room"] (spLine K C_Line) := T.m_Line_init.mn fun _ _ F => ok_line F T CI
theorem LineAt.but {CL p : Addr} {H H' : Hp} {num : Int} {ws : List Str} {a pa du ro : Nat} {q : Addr} (hq : H q = none) (e : ExB q H H') (h : LineAt K CL H p num ws a pa du ro) : LineAt K CL H' p num ws a pa du ro := by
  obtain ⟨dx, W, h1, h2⟩ := h
  exact ⟨dx, W, e _ _ (ne_of_none h1 hq) h1, e _ _ (ne_of_none h2 hq) h2⟩
def spTake (K : PySem.W.Frag) (CL CT : Addr) : Sp := fun vs H Q E => ∃ (p s : Addr) (num : Int) (ws : List Str) (a pa du ro : Nat) (zs : List Str), vs = [.ref p, .ref s] ∧ LineAt K CL H p num ws a pa du ro ∧ SqL K H s (zs.map V.str) ∧ a ≤ ws.length ∧
  (takeW ws a zs = none → RefE CT p num a H E) ∧ (∀ z, takeW ws a zs = some z → ∀ H2, ExB p H H2 → LineAt K CL H2 p num ws (a + 1) pa du ro → Q (.str z) H2)
theorem mt_take (T : Txt P w K mg C_BadRule C_BadRules C_BadText C_Feast C_Calendar C_Line) (CI : Cls1 K C_Line lineFs) : Mtn P w K mg base (L2.CX P w) C_Line "take" 4 ["self", "some"] (spTake K C_Line C_BadText) := T.m_Line_take.mtn fun g fd F => by
  have ME_BadText : MnE P w K mg base C_BadText 2 (spE2 C_BadText "line" "word") := me_BadText T
  refine F.okX sc_Line_take (fun vs H Q E h => ?_) (fun cdv A outer s H vs Q E hr h => ?_)
  · obtain ⟨_, _, _, _, _, _, _, _, _, rfl, _⟩ := h
    rfl
  · obtain ⟨p, sp, num, ws, a, pa, du, ro, zs, rfl, ⟨dx, W, hp, hW⟩, hS, hal, kB, kG⟩ := h
    have hWp : W ≠ p := fun q => by rw [q, hp] at hW; cases hW
    refine ⟨_, (pss_cons (ps_if (PW.pt (pw_or (pt_cmpR op_eq (pe_fld (pv 0) rfl) (pe_callB call_len_seq (by rfl) T.len (by decide +kernel) (pa_cons (pe_fld (pv 0) rfl) pa_nil)) (nomark _)) (pw_or1 (pt_cmpR op_notIn_seq (pe_ix ix_list (pe_fld (pv 0) rfl) (pe_fld (pv 0) rfl) (fun _ _ => rfl)) (pv 1) (by rfl))))) (pss_one (ps_raiseS rfl (takes_of rfl rfl rfl rfl) ME_BadText (hr.mono (by omega)) T.c_BadText rfl (pa_cons (pe_fld (pv 0) rfl) (pa_cons (pe_op op_add (pe_fld (pv 0) rfl) pe_int) pa_nil))))
  pss_nil)
  (pss_cons (ps_fldaug (pv 0) pe_int in_add)
  (pss_one (ps_ret (pe_ix ix_list (pe_fld (pv 0) rfl) (pe_op op_sub (pe_fld (pv 0) rfl) pe_int) (fun _ _ => rfl)))))), ?_⟩
    have fl : ∀ {fn : Str} {y : V} {H1 : Hp} {σ : L2.St}, Ex H H1 → σ[0]? = some (some (.ref p)) → fn ∈ lineFs → (lineF num W a pa du ro).lookup fn = some y → Ev (tFld K (tVar 0) fn) σ H1 y := fun e h0 hm hl => ev_fld (ev_var h0) (e _ _ hp) CI.cl (CI.no _ hm) hl
    have at_ : ∀ {x : Str}, ws[a]? = some x → atI (ws.map V.str) ((a : Nat) : Int) = some (.str x) := fun {x} hx => atI_nat (by rw [List.getElem?_map, hx]; rfl)
    cases e : takeW ws a zs with
    | none =>
      have key : EvT (tOr (tTest (tOp rEq (tFld K (tVar 0) "spot") (tCB (rLenS K) (tCons (tFld K (tVar 0) "row") tNil)))) (tTest (tOp (rIn K true) (tOp (rIxL K) (tFld K (tVar 0) "row") (tFld K (tVar 0) "spot")) (tVar 1)))) [some (.ref p), some (.ref sp)] H true := by
        rcases Nat.lt_or_ge a ws.length with h | h
        · obtain ⟨x, hx⟩ : ∃ x, ws[a]? = some x := ⟨ws[a], List.getElem?_eq_getElem h⟩
          have hnm : x ∉ zs := fun hm => by
            unfold takeW at e
            rw [hx] at e
            dsimp only at e
            rw [if_pos hm] at e
            cases e
          refine et_is (et_or (et_cmp (fl (Ex.refl H) rfl (by simp) lineF_spot) (ev_lenL (fl (Ex.refl H) rfl (by simp) lineF_row) (sq_of hW)) (rv_eq rfl)) fun _ => et_test (ev_op (ev_op (fl (Ex.refl H) rfl (by simp) lineF_row) (fl (Ex.refl H) rfl (by simp) lineF_spot) (rv_ixL (sq_of hW) (at_ hx))) (ev_var rfl) (rv_niL hS rfl (strs_flat _)))) ?_
          rw [inV_strs, decide_eq_false hnm, Bool.not_false, Bool.or_true]
        · refine et_or1 (et_is (et_cmp (fl (Ex.refl H) rfl (by simp) lineF_spot) (ev_lenL (fl (Ex.refl H) rfl (by simp) lineF_row) (sq_of hW)) (rv_eq rfl)) (decide_eq_true (congrArg V.int ?_)))
          rw [List.length_map]; omega
      refine q_yes key fun H1 e1 => ?_
      exact raise2 (ea_cons (fl e1 rfl (by simp) lineF_number) (ea_cons (ev_is (ev_op (fl e1 rfl (by simp) lineF_spot) ev_c rv_I0) (congrArg V.int (by omega))) ea_nil)) fun d H2 e2 _ hd => kB e d H2 (ExB.of (e1.trans e2)) hd
    | some z =>
      obtain ⟨hlt, hm, hx⟩ := takeW_lt e
      have key : EvT (tOr (tTest (tOp rEq (tFld K (tVar 0) "spot") (tCB (rLenS K) (tCons (tFld K (tVar 0) "row") tNil)))) (tTest (tOp (rIn K true) (tOp (rIxL K) (tFld K (tVar 0) "row") (tFld K (tVar 0) "spot")) (tVar 1)))) [some (.ref p), some (.ref sp)] H false := by
        refine et_is (et_or (et_cmp (fl (Ex.refl H) rfl (by simp) lineF_spot) (ev_lenL (fl (Ex.refl H) rfl (by simp) lineF_row) (sq_of hW)) (rv_eq rfl)) fun _ => et_test (ev_op (ev_op (fl (Ex.refl H) rfl (by simp) lineF_row) (fl (Ex.refl H) rfl (by simp) lineF_spot) (rv_ixL (sq_of hW) (at_ hx))) (ev_var rfl) (rv_niL hS rfl (strs_flat _)))) ?_
        rw [inV_strs, decide_eq_true hm, decide_eq_false (fun q => by
          have := V.int.inj q
          rw [List.length_map] at this
          omega)]
        rfl
      refine q_not key fun H1 e1 => ?_
      refine q_fldadd (ev_var rfl) (e1 _ _ hp) CI.cl (CI.no _ (by simp)) lineF_spot (fun _ _ => ev_c) (by show 6 < 1000; decide) fun H2 e2 => ?_
      rw [putF_spot]
      have eb : ExB p H (upd H2 p (.ins C_Line dx (lineF num W ((a : Int) + 1) pa du ro))) := (ExB.of (e1.trans e2)).upd
      have hp2 : upd H2 p (.ins C_Line dx (lineF num W ((a : Int) + 1) pa du ro)) p = some (.ins C_Line dx (lineF num W ((a + 1 : Nat) : Int) pa du ro)) := by rw [Int.natCast_add]; exact upd_same
      have hW2 : upd H2 p (.ins C_Line dx (lineF num W ((a : Int) + 1) pa du ro)) W = some (.lst (ws.map V.str)) := by rw [upd_ne hWp]; exact (e1.trans e2) _ _ hW
      generalize upd H2 p (.ins C_Line dx (lineF num W ((a : Int) + 1) pa du ro)) = H3 at eb hp2 hW2 ⊢
      exact s_ret (ev_op (ev_fld (ev_var rfl) hp2 CI.cl (CI.no _ (by simp)) lineF_row) (ev_is (ev_op (ev_fld (ev_var rfl) hp2 CI.cl (CI.no _ (by simp)) lineF_spot) ev_c rv_I0) (show _ = V.int ((a : Nat) : Int) from congrArg V.int (by omega))) (rv_ixL (sq_of hW2) (at_ hx))) fun H4 e4 => kG z e H4 (eb.step e4) ⟨dx, W, e4 _ _ hp2, e4 _ _ hW2⟩
def spEnd (K : PySem.W.Frag) (CL CT : Addr) : Sp := fun vs H Q E => ∃ (p : Addr) (num : Int) (ws : List Str) (a pa du ro : Nat), vs = [.ref p] ∧ LineAt K CL H p num ws a pa du ro ∧ (a < ws.length → RefE CT p num a H E) ∧ (ws.length ≤ a → RetV .non H Q)
theorem mt_end (T : Txt P w K mg C_BadRule C_BadRules C_BadText C_Feast C_Calendar C_Line) (CI : Cls1 K C_Line lineFs) : Mtn P w K mg base (L2.CX P w) C_Line "end" 4 ["self"] (spEnd K C_Line C_BadText) := T.m_Line_end.mtn fun g fd F => by
  have ME_BadText : MnE P w K mg base C_BadText 2 (spE2 C_BadText "line" "word") := me_BadText T
  refine F.okX sc_Line_end (fun vs H Q E h => ?_) (fun cdv A outer s H vs Q E hr h => ?_)
  · obtain ⟨_, _, _, _, _, _, _, rfl, _⟩ := h
    rfl
  · obtain ⟨p, num, ws, a, pa, du, ro, rfl, ⟨dx, W, hp, hW⟩, kB, kG⟩ := h
    refine ⟨_, (pss_one (ps_if (pt_cmpR op_lt (pe_fld (pv 0) rfl) (pe_callB call_len_seq (by rfl) T.len (by decide +kernel) (pa_cons (pe_fld (pv 0) rfl) pa_nil)) (nomark _)) (pss_one (ps_raiseS rfl (takes_of rfl rfl rfl rfl) ME_BadText (hr.mono (by omega)) T.c_BadText rfl (pa_cons (pe_fld (pv 0) rfl) (pa_cons (pe_op op_add (pe_fld (pv 0) rfl) pe_int) pa_nil))))
  pss_nil)), ?_⟩
    have fl : ∀ {fn : Str} {y : V} {H1 : Hp} {σ : L2.St}, Ex H H1 → σ[0]? = some (some (.ref p)) → fn ∈ lineFs → (lineF num W a pa du ro).lookup fn = some y → Ev (tFld K (tVar 0) fn) σ H1 y := fun e h0 hm hl => ev_fld (ev_var h0) (e _ _ hp) CI.cl (CI.no _ hm) hl
    rcases Nat.lt_or_ge a ws.length with h | h
    · refine s_yes (et_is (et_cmp (fl (Ex.refl H) rfl (by simp) lineF_spot) (ev_lenL (fl (Ex.refl H) rfl (by simp) lineF_row) (sq_of hW)) rv_I0) (decide_eq_true (by rw [List.length_map]; omega))) fun H1 e1 => ?_
      exact raise2 (ea_cons (fl e1 rfl (by simp) lineF_number) (ea_cons (ev_is (ev_op (fl e1 rfl (by simp) lineF_spot) ev_c rv_I0) (congrArg V.int (by omega))) ea_nil)) fun d H2 e2 _ hd => kB h d H2 (ExB.of (e1.trans e2)) hd
    · exact s_no (et_is (et_cmp (fl (Ex.refl H) rfl (by simp) lineF_spot) (ev_lenL (fl (Ex.refl H) rfl (by simp) lineF_row) (sq_of hW)) rv_I0) (decide_eq_false (by rw [List.length_map]; omega))) fun H1 e1 => kG h H1 e1
def spTakeN (K : PySem.W.Frag) (CL CT : Addr) : Sp := fun vs H Q E => ∃ (p s : Addr) (num : Int) (ws : List Str) (a pa du ro : Nat) (ns : List Int), vs = [.ref p, .ref s] ∧ LineAt K CL H p num ws a pa du ro ∧ (SqL K H s (ns.map V.int) ∨ SqT K H s (ns.map V.int)) ∧ a ≤ ws.length ∧ ns.length ≤ 10 ∧ (∀ k ∈ ns, -3 ≤ k ∧ k ≤ 2) ∧
  (takeN ws a ns = none → RefE CT p num a H E) ∧ (∀ k, takeN ws a ns = some k → ∀ H2, ExB p H H2 → LineAt K CL H2 p num ws (a + 1) pa du ro → Q (.int k) H2)
theorem ints_at {ns : List Int} {i : Nat} {x : V} (h : (ns.map V.int)[i]? = some x) : x = .int (ns.getD i 0) ∧ ns.getD i 0 ∈ ns := by
  rw [List.getElem?_map] at h
  cases e : ns[i]? with
  | none => rw [e] at h; cases h
  | some k =>
    rw [e] at h
    cases h
    have e2 : ns.getD i 0 = k := by rw [List.getD_eq_getElem?_getD, e]; rfl
    rw [e2]
    exact ⟨rfl, List.mem_of_getElem? e⟩
theorem given_nums (ns : List Int) : given (ns.map V.int).length (fun _ => true) (fun i => V.str (numS (ns.getD i 0))) = (ns.map numS).map V.str := by
  rw [given_allL, List.length_map, List.map_map]
  apply List.ext_getElem
  · simp
  · intro i h1 h2
    have hi : i < ns.length := by simpa using h1
    simp [List.getD_eq_getElem?_getD, List.getElem?_eq_getElem hi]
theorem mt_take_number (T : Txt P w K mg C_BadRule C_BadRules C_BadText C_Feast C_Calendar C_Line) (CI : Cls1 K C_Line lineFs) : Mtn P w K mg base (L2.CX P w) C_Line "take_number" 6 ["self", "some"] (spTakeN K C_Line C_BadText) := T.m_Line_take_number.mtn fun g fd F => by
  have N_Line_take : Mtn P w K mg base (L2.CX P w) C_Line "take" 4 ["self", "some"] (spTake K C_Line C_BadText) := mt_take T CI
  refine F.okX sc_Line_take_number (fun vs H Q E h => ?_) (fun cdv A outer s H vs Q E hr h => ?_)
  · obtain ⟨_, _, _, _, _, _, _, _, _, rfl, _⟩ := h
    rfl
  · obtain ⟨p, sp, num, ws, a, pa, du, ro, ns, rfl, hL, hS, hal, hnl, hns, kB, kG⟩ := h
    obtain ⟨dx, W, hp, hW⟩ := id hL
    have hz : (ns.map V.int).length ≤ 40000 := by rw [List.length_map]; omega
    have last : ∀ z s' H1, H s' = none → Ex H H1 → takeW ws a (ns.map numS) = some z → ∀ H2, ExB p H1 H2 → LineAt K C_Line H2 p num ws (a + 1) pa du ro → ∃ k, PySem.intText? z = some k ∧ z.length ≤ 640 ∧ Q (.int k) H2 := fun z s' H1 hs' e1 hz H2 eb hl2 => by
      cases hN : takeN ws a ns with
      | none => rw [takeN_none hN] at hz; cases hz
      | some k =>
        obtain ⟨_, hk, hw⟩ := takeN_lt hN
        rw [hw] at hz
        cases hz
        have h3 := (num_ok (hns k hk)).1
        exact ⟨k, int_numS (hns k hk), by omega, kG k hN H2 (fun b o hb q => eb b o hb (e1 b o q)) hl2⟩
    rcases hS with hS | hS
    · refine ⟨_, (pss_one (ps_ret (pe_callTy call_int_str (by rfl) T.int (by decide +kernel) (pa_cons (pe_mt1 N_Line_take (pv 0) CI.cl (hr.mono (by omega)) (passes_call (takes_of rfl rfl rfl rfl) (fun _ _ _ _ h => h)) (pa_cons (pe_lc (own := [("number", 2)]) (g := gName 2) (tt := tYes) rfl sc_Line_take_number.nd (pi_list (pv 1)) (blkOk_by (own := [("number", 2)]) (N := ["self", "some", "number"]) (sc := defScope s_Line_take_number) (by decide +kernel)) (fun _ _ _ _ _ => (pg_name (i := 2) sc_Line_take_number.nd rfl (by first | exact Or.inl rfl | exact Or.inr rfl))) (fun _ _ _ _ _ => pts_nil) (fun _ _ _ _ _ => (pe_callTy call_str_int (by rfl) T.str (by decide +kernel) (pa_cons (pv 2) pa_nil)))) pa_nil)) pa_nil)))), ?_⟩
      refine s_retX (tCB_one (tMeth_go (ev_var rfl) hp lineF_no_take fun H1 e1 => tA_one ?_))
      refine (el_is (el_lcL (fun _ => true) (fun i => .str (numS (ns.getD i 0))) (ev_var rfl) hS hz (fun _ => rfl) (fun _ _ _ _ _ => et_yes) (fun i x H2 e2 hx _ => ?_)) (given_nums ns)) H1 e1 _ fun s' H2 hs' e2 hs2 => ?_
      · obtain ⟨rfl, hm⟩ := ints_at hx
        exact ev_strI (ev_var rfl) (hns _ hm)
      · refine ⟨p, s', num, ws, a, pa, du, ro, ns.map numS, rfl, hL.mono (e1.trans e2), sq_of hs2, hal, fun hn => ?_, fun z hz H3 eb hl3 => ?_⟩
        · refine (kB ?_).back (ExB.of (e1.trans e2))
          unfold takeN
          rw [hn]
        · obtain ⟨k, k1, k2, k3⟩ := last z s' H2 (fresh_back e1 hs') (e1.trans e2) hz H3 eb hl3
          exact ⟨z, k, rfl, k1, k2, k3⟩
    · refine ⟨_, (pss_one (ps_ret (pe_callTy call_int_str (by rfl) T.int (by decide +kernel) (pa_cons (pe_mt1 N_Line_take (pv 0) CI.cl (hr.mono (by omega)) (passes_call (takes_of rfl rfl rfl rfl) (fun _ _ _ _ h => h)) (pa_cons (pe_lc (own := [("number", 2)]) (g := gName 2) (tt := tYes) rfl sc_Line_take_number.nd (pi_tup (pv 1)) (blkOk_by (own := [("number", 2)]) (N := ["self", "some", "number"]) (sc := defScope s_Line_take_number) (by decide +kernel)) (fun _ _ _ _ _ => (pg_name (i := 2) sc_Line_take_number.nd rfl (by first | exact Or.inl rfl | exact Or.inr rfl))) (fun _ _ _ _ _ => pts_nil) (fun _ _ _ _ _ => (pe_callTy call_str_int (by rfl) T.str (by decide +kernel) (pa_cons (pv 2) pa_nil)))) pa_nil)) pa_nil)))), ?_⟩
      refine s_retX (tCB_one (tMeth_go (ev_var rfl) hp lineF_no_take fun H1 e1 => tA_one ?_))
      refine (el_is (el_tupN (fun _ => true) (fun i => .str (numS (ns.getD i 0))) (ev_var rfl) hS hz (fun _ => rfl) (fun _ _ _ _ _ => et_yes) (fun i x H2 e2 hx _ => ?_)) (given_nums ns)) H1 e1 _ fun s' H2 hs' e2 hs2 => ?_
      · obtain ⟨rfl, hm⟩ := ints_at hx
        exact ev_strI (ev_var rfl) (hns _ hm)
      · refine ⟨p, s', num, ws, a, pa, du, ro, ns.map numS, rfl, hL.mono (e1.trans e2), sq_of hs2, hal, fun hn => ?_, fun z hz H3 eb hl3 => ?_⟩
        · refine (kB ?_).back (ExB.of (e1.trans e2))
          unfold takeN
          rw [hn]
        · obtain ⟨k, k1, k2, k3⟩ := last z s' H2 (fresh_back e1 hs') (e1.trans e2) hz H3 eb hl3
          exact ⟨z, k, rfl, k1, k2, k3⟩
end
end WF

set_option Elab.async false
set_option linter.all false
set_option maxRecDepth 100000
set_option maxHeartbeats 2000000
/-! the reader of a line: a whole rule -/
namespace WF
open PySem L2 Evl
section
variable {K : PySem.W.Frag} {σ : L2.St} {H : Hp} {ta tv te : TE} {t : TT} {v : V} {D : Ends} {tz : TS}
theorem q_whenApp {l : Addr} {xs : List V} {b : Bool} (h : EvT t σ H b) (hl : H l = some (.lst xs)) (ha : ∀ H1, Ev ta σ H1 (.ref l)) (hv : ∀ H1, Ev te σ H1 v) (hz : xs.length < 1000) (k : ∀ H1, ExB l H H1 → H1 l = some (.lst (if b = true then xs ++ [v] else xs)) → tz D σ H1) :
    tSeq (tIfS t (tDrop (tBM K "list" rAppend ta (tCons te tNil))) tNext) tz D σ H := q_when h (fun hb H1 e1 => s_app (D := { D with nx := tz D }) (e1 _ _ hl) (ha _) (hv _) (by omega) fun H2 e2 => k _ (ExB.of (e1.trans e2)).upd (by rw [if_pos hb]; exact upd_same)) (fun hb H1 e1 => k H1 (ExB.of e1) (by rw [hb, if_neg (by decide)]; exact e1 _ _ hl))
theorem q_whenExt {l d : Addr} {xs zs : List V} {b : Bool} (h : EvT t σ H b) (hl : H l = some (.lst xs)) (ha : ∀ H1, Ev ta σ H1 (.ref l)) (hz : xs.length + zs.length ≤ 1000) (k : ∀ H1, ExB l H H1 → H1 l = some (.lst (if b = true then xs ++ zs else xs)) → tz D σ H1) :
    tSeq (tIfS t (tDrop (tBM K "list" (rExtK d zs) ta (tCons (tC (.ref d)) tNil))) tNext) tz D σ H := q_when h (fun hb H1 e1 => ha H1 H1 (Ex.refl H1) _ fun H2 e2 => ⟨.inl ⟨rfl, xs, sq_of ((e1.trans e2) _ _ hl)⟩, tA_1c ⟨l, xs, rfl, rfl, (e1.trans e2) _ _ hl, hz, k _ (ExB.of (e1.trans e2)).upd (by rw [if_pos hb]; exact upd_same)⟩⟩) (fun hb H1 e1 => k H1 (ExB.of e1) (by rw [hb, if_neg (by decide)]; exact e1 _ _ hl))
theorem el_listK {d : Addr} {ks : List Str} : EvL (tCB (rListK d ks) (tCons (tC (.ref d)) tNil)) σ H (ks.map V.str) := fun H1 e Q q => tCB_one (show rListK d ks [V.ref d] H1 Q from ⟨rfl, fun p hp => q p _ hp (Ex.new hp) upd_same⟩)
end
theorem LineAt.parts {K : PySem.W.Frag} {CL p dx W : Addr} {H : Hp} {num : Int} {ws : List Str} {a pa du ro : Nat} {x : Int} {y : Nat} (hW : H W = some (.lst (ws.map V.str))) (hWp : W ≠ p) (e : x = (y : Int)) : LineAt K CL (upd H p (.ins CL dx (putF "parts" (.int x) (lineF num W a pa du ro)))) p num ws a y du ro :=
  ⟨dx, W, by rw [putF_parts, e]; exact upd_same, by rw [upd_ne hWp]; exact hW⟩
theorem LineAt.due {K : PySem.W.Frag} {CL p dx W : Addr} {H : Hp} {num : Int} {ws : List Str} {a pa du ro : Nat} {x : Int} {y : Nat} (hW : H W = some (.lst (ws.map V.str))) (hWp : W ≠ p) (e : x = (y : Int)) : LineAt K CL (upd H p (.ins CL dx (putF "due" (.int x) (lineF num W a pa du ro)))) p num ws a pa y ro :=
  ⟨dx, W, by rw [putF_due, e]; exact upd_same, by rw [upd_ne hWp]; exact hW⟩
theorem LineAt.room {K : PySem.W.Frag} {CL p dx W : Addr} {H : Hp} {num : Int} {ws : List Str} {a pa du ro : Nat} {x : Int} {y : Nat} (hW : H W = some (.lst (ws.map V.str))) (hWp : W ≠ p) (e : x = (y : Int)) : LineAt K CL (upd H p (.ins CL dx (putF "room" (.int x) (lineF num W a pa du ro)))) p num ws a pa du y :=
  ⟨dx, W, by rw [putF_room, e]; exact upd_same, by rw [upd_ne hWp]; exact hW⟩
theorem row_ne {K : PySem.W.Frag} {p W CL dx : Addr} {H : Hp} {fs : List (Str × V)} {xs : List V} (hp : H p = some (.ins CL dx fs)) (hW : H W = some (.lst xs)) : W ≠ p := fun q => by rw [q, hp] at hW; cases hW
theorem able_cases {pa du ro : Nat} {z : Str} (h : z ∈ able pa du ro) : z ∈ ends3 ∨ (z = "behind" ∧ pa + du < 5 ∧ 0 < ro) ∨ (z ∈ pairs3 ∧ pa + du < 4) := by
  unfold able at h
  rcases List.mem_append.mp h with h | h
  · by_cases q : pa + du < 5 ∧ 0 < ro
    · rw [if_pos q] at h
      rcases List.mem_append.mp h with h | h
      · exact .inl h
      · exact .inr (.inl ⟨List.mem_singleton.mp h, q⟩)
    · rw [if_neg q] at h
      exact .inl h
  · by_cases q : pa + du < 4
    · rw [if_pos q] at h
      exact .inr (.inr ⟨h, q⟩)
    · rw [if_neg q] at h
      cases h
theorem not_ends {z : Str} (h : z = "behind" ∨ z ∈ pairs3) : z ∉ ends3 := by
  unfold pairs3 at h
  simp only [List.mem_cons, List.not_mem_nil, or_false] at h
  rcases h with rfl | rfl | rfl | rfl <;> decide +kernel
theorem not_behind {z : Str} (h : z ∈ pairs3) : ¬ z = "behind" := by
  unfold pairs3 at h
  simp only [List.mem_cons, List.not_mem_nil, or_false] at h
  rcases h with rfl | rfl | rfl <;> decide +kernel
theorem bysL_ok {ro : Nat} : ∀ b ∈ bysL ro, (-3 ≤ b ∧ b ≤ 2) ∧ b.natAbs ≤ ro := fun b hb => by
  obtain ⟨h1, h2⟩ := List.mem_filter.mp hb
  simp only [List.mem_cons, List.not_mem_nil, or_false] at h1
  exact ⟨by rcases h1 with rfl | rfl | rfl | rfl <;> decide, of_decide_eq_true h2⟩
theorem leafN_ok (z : Str) : (∀ k ∈ leafN z, -3 ≤ k ∧ k ≤ 2) ∧ (leafN z).length ≤ 10 := by
  unfold leafN
  split <;> decide
theorem mkLeaf_at {K : PySem.W.Frag} {H : Hp} {t : Addr} {z : Str} {k : Int} (hE : z ∈ ends3) (hT : SqT K H t [.str z, .int k]) : RlAt K H (.ref t) (mkLeaf z k) := by
  unfold ends3 at hE
  simp only [List.mem_cons, List.not_mem_nil, or_false] at hE
  unfold mkLeaf
  rcases hE with rfl | rfl | rfl
  · rw [if_pos rfl]; exact .wk hT
  · rw [if_neg (by decide +kernel), if_pos rfl]; exact .fs hT
  · rw [if_neg (by decide +kernel), if_neg (by decide +kernel)]; exact .md hT
theorem mkPair_at {K : PySem.W.Frag} {H : Hp} {t : Addr} {z : Str} {u v : V} {x y : Rl} (hE : z ∈ pairs3) (hT : SqT K H t [.str z, u, v]) (hx : RlAt K H u x) (hy : RlAt K H v y) : RlAt K H (.ref t) (mkPair z x y) := by
  unfold pairs3 at hE
  simp only [List.mem_cons, List.not_mem_nil, or_false] at hE
  unfold mkPair
  rcases hE with rfl | rfl | rfl
  · rw [if_pos rfl]; exact .bo hT hx hy
  · rw [if_neg (by decide +kernel), if_pos rfl]; exact .ei hT hx hy
  · rw [if_neg (by decide +kernel), if_neg (by decide +kernel)]; exact .wo hT hx hy
theorem sqt_butI {K : PySem.W.Frag} {H H' : Hp} {p C dx a : Addr} {fs : List (Str × V)} {xs : List V} (hp : H p = some (.ins C dx fs)) (e : ExB p H H') (h : SqT K H a xs) : SqT K H' a xs := by
  rcases h with (h | ⟨o, h⟩) | h
  · exact .inl (.inl (e _ _ (fun q => by rw [q, hp] at h; cases h) h))
  · exact .inl (.inr ⟨o, e _ _ (fun q => by rw [q, hp] at h; cases h) h⟩)
  · exact .inr h
theorem rl_butI {K : PySem.W.Frag} {H H' : Hp} {p C dx : Addr} {fs : List (Str × V)} {v : V} {r : Rl} (hp : H p = some (.ins C dx fs)) (e : ExB p H H') (h : RlAt K H v r) : RlAt K H' v r := by
  induction h with
  | wk h => exact .wk (sqt_butI hp e h)
  | fs h => exact .fs (sqt_butI hp e h)
  | md h => exact .md (sqt_butI hp e h)
  | bh h _ i => exact .bh (sqt_butI hp e h) i
  | bo h _ _ i j => exact .bo (sqt_butI hp e h) i j
  | ei h _ _ i j => exact .ei (sqt_butI hp e h) i j
  | wo h _ _ i j => exact .wo (sqt_butI hp e h) i j
theorem given_bys (ro : Nat) : given bysV.length (fun i => decide ((([-2, -1, 1, 2] : List Int).getD i 0).natAbs ≤ ro)) (fun i => V.int (([-2, -1, 1, 2] : List Int).getD i 0)) = (bysL ro).map V.int := by
  match ro with
  | 0 => decide +kernel
  | 1 => decide +kernel
  | n + 2 =>
    have h : ∀ i, i < 4 → decide ((([-2, -1, 1, 2] : List Int).getD i 0).natAbs ≤ n + 2) = true := fun i hi => by
      rcases (show i = 0 ∨ i = 1 ∨ i = 2 ∨ i = 3 by omega) with rfl | rfl | rfl | rfl <;> exact decide_eq_true (by show _ ≤ n + 2; simp)
    have h2 : bysL (n + 2) = [-2, -1, 1, 2] := by
      unfold bysL
      refine List.filter_eq_self.mpr fun b hb => ?_
      simp only [List.mem_cons, List.not_mem_nil, or_false] at hb
      rcases hb with rfl | rfl | rfl | rfl <;> exact decide_eq_true (by show _ ≤ n + 2; simp)
    rw [h2]
    unfold given
    have h3 : (List.range bysV.length).filter (fun i => decide ((([-2, -1, 1, 2] : List Int).getD i 0).natAbs ≤ n + 2)) = List.range 4 := List.filter_eq_self.mpr fun i hi => h i (List.mem_range.mp hi)
    rw [h3]
    rfl
theorem parse_parts : ∀ (n : Nat) (ws : List Str) (a pa du ro : Nat) {r : Rl} {a1 pa1 du1 ro1 : Nat}, parse n ws a pa du ro = .ok r a1 pa1 du1 ro1 → pa + 1 ≤ pa1
  | 0, _, _, _, _, _, _, _, _, _, _, h => by cases h
  | n + 1, ws, a, pa, du, ro, r, a1, pa1, du1, ro1, h => by
    unfold parse at h
    cases e : takeW ws a (able pa du ro) with
    | none => rw [e] at h; cases h
    | some z =>
      rw [e] at h
      dsimp only at h
      by_cases hz : z ∈ ends3
      · rw [if_pos hz] at h
        cases e2 : takeN ws (a + 1) (leafN z) with
        | none => rw [e2] at h; cases h
        | some k => rw [e2] at h; cases h; exact Nat.le_refl _
      · rw [if_neg hz] at h
        by_cases hb : z = "behind"
        · rw [if_pos hb] at h
          cases e2 : takeN ws (a + 1) (bysL ro) with
          | none => rw [e2] at h; cases h
          | some b =>
            rw [e2] at h
            dsimp only at h
            cases e3 : parse n ws (a + 2) (pa + 1) du (ro - b.natAbs) with
            | bad i => rw [e3] at h; cases h
            | ok r' a' pa' du' ro' =>
              rw [e3] at h
              cases h
              have := parse_parts n ws _ _ _ _ e3
              omega
        · rw [if_neg hb] at h
          cases e2 : parse n ws (a + 1) (pa + 1) (du + 1) ro with
          | bad i => rw [e2] at h; cases h
          | ok x a2 pa2 du2 ro2 =>
            rw [e2] at h
            dsimp only at h
            have k1 := parse_parts n ws _ _ _ _ e2
            cases e3 : parse n ws a2 pa2 du2 ro2 with
            | bad i => rw [e3] at h; cases h
            | ok y a3 pa3 du3 ro3 =>
              rw [e3] at h
              cases h
              have k2 := parse_parts n ws _ _ _ _ e3
              omega
section
variable {σ : L2.St} {H : Hp}
theorem tNil_go {Q : List V → Hp → Prop} (h : Q [] H) : tNil σ H Q := h
end
section
variable {P : Program} {w : World} {K : PySem.W.Frag} {mg : Str → Option Value} {base : Heap} {C_BadRule C_BadRules C_BadText C_Feast C_Calendar C_Line : Addr} {f : Addr} {fd : FuncData}
def spWR (K : PySem.W.Frag) (CL CT : Addr) (n : Nat) : Sp := fun vs H Q E => ∃ (p : Addr) (num : Int) (ws : List Str) (a pa du ro : Nat), vs = [.ref p] ∧ LineAt K CL H p num ws a pa du ro ∧ pa + du ≤ 5 ∧ 1 ≤ du ∧ 5 ≤ pa + n ∧ a ≤ ws.length ∧
  (∀ i, parse n ws a pa du ro = .bad i → RefE CT p num i H E) ∧
  (∀ r a1 pa1 du1 ro1, parse n ws a pa du ro = .ok r a1 pa1 du1 ro1 → ∀ v H2, ExB p H H2 → LineAt K CL H2 p num ws a1 pa1 du1 ro1 → RlAt K H2 v r → Q v H2)
theorem wr_turn (T : Txt P w K mg C_BadRule C_BadRules C_BadText C_Feast C_Calendar C_Line) (CI : Cls1 K C_Line lineFs) (n : Nat) (ih : Mtn P w K mg base (L2.CX P w) C_Line "whole_rule" (n + 7) ["self"] (spWR K C_Line C_BadText n)) : Mtn P w K mg base (L2.CX P w) C_Line "whole_rule" (n + 8) ["self"] (spWR K C_Line C_BadText (n + 1)) := T.m_Line_whole_rule.mtn fun g fd F => by
  obtain ⟨dE, aW, aM, gENDS, tE⟩ := T.g_ENDS
  obtain ⟨esE, nE, kdENDS, kkENDS⟩ := T.k_ENDS dE gENDS
  obtain ⟨aP, gPAIRS, kxPAIRS, sP⟩ := T.k_PAIRS
  obtain ⟨aB, gBYS, sB⟩ := T.g_BYS
  have N_Line_take : Mtn P w K mg base (L2.CX P w) C_Line "take" 4 ["self", "some"] (spTake K C_Line C_BadText) := mt_take T CI
  have N_Line_take_number : Mtn P w K mg base (L2.CX P w) C_Line "take_number" 6 ["self", "some"] (spTakeN K C_Line C_BadText) := mt_take_number T CI
  have N_Line_whole_rule := ih
  refine F.okX sc_Line_whole_rule (fun vs H Q E h => ?_) (fun cdv A outer s H vs Q E hr h => ?_)
  · obtain ⟨_, _, _, _, _, _, _, rfl, _⟩ := h
    rfl
  · obtain ⟨p, num, ws, a, pa, du, ro, rfl, hL, h5, hdu, hfu, hal, kB, kG⟩ := h
    obtain ⟨dx, W, hp, hW⟩ := id hL
    have hWp := row_ne (K := K) hp hW
    refine ⟨_, (pss_cons (ps_set (i := 1) sc_Line_whole_rule.nd rfl (by first | exact Or.inl rfl | exact Or.inr rfl) (pe_op op_sub (pe_op op_sub (pe_globE rfl T.g_MOST_PARTS) (pe_fld (pv 0) rfl)) (pe_fld (pv 0) rfl)))
  (pss_cons (ps_set (i := 2) sc_Line_whole_rule.nd rfl (by first | exact Or.inl rfl | exact Or.inr rfl) (pe_callTy (call_list_kd rfl kdENDS kkENDS (by decide +kernel) (by decide)) (by rfl) T.list (by decide +kernel) (pa_cons (pe_glob (v := .ref dE) rfl gENDS rfl) pa_nil)))
  (pss_cons (ps_if (PW.pt (pw_and (pt_cmpR op_gt (pv 1) pe_int (nomark _)) (pw_and1 (pt_cmpR op_gt (pe_fld (pv 0) rfl) pe_int (nomark _))))) (pss_one (ps_expr (pe_bm PySem.F.plainAttrs_list PySem.F.slot_list_append PySem.F.type_list_append mt_append (pv 2) (pa_cons pe_str pa_nil))))
  pss_nil)
  (pss_cons (ps_if (pt_cmpR op_gt (pv 1) pe_int (nomark _)) (pss_one (ps_expr (pe_bm PySem.F.plainAttrs_list PySem.F.slot_list_extend PySem.F.type_list_extend (mt_extendK kxPAIRS) (pv 2) (pa_cons (pe_glob (v := .ref aP) rfl gPAIRS rfl) pa_nil))))
  pss_nil)
  (pss_cons (ps_set (i := 3) sc_Line_whole_rule.nd rfl (by first | exact Or.inl rfl | exact Or.inr rfl) (pe_mt1 N_Line_take (pv 0) CI.cl (hr.mono (by omega)) (passes_call (takes_of rfl rfl rfl rfl) (fun _ _ _ _ h => h)) (pa_cons (pv 2) pa_nil)))
  (pss_cons (ps_fldaug (pv 0) pe_int in_add)
  (pss_cons (ps_fldaug (pv 0) pe_int in_sub)
  (pss_cons (ps_if (pt_cmpR (op_in_kd kdENDS) (pv 3) (pe_glob (v := .ref dE) rfl gENDS rfl) (by rfl)) (pss_one (ps_ret (pe_tup (pa_cons (pv 3) (pa_cons (pe_mt1 N_Line_take_number (pv 0) CI.cl (hr.mono (by omega)) (passes_call (takes_of rfl rfl rfl rfl) (fun _ _ _ _ h => h)) (pa_cons (pe_ix ix_kdict (pe_glob (v := .ref dE) rfl gENDS rfl) (pv 3) (fun _ _ => rfl)) pa_nil)) pa_nil)))))
  pss_nil)
  (pss_cons (ps_if (pt_cmpR op_eq (pv 3) pe_str (nomark _)) (pss_cons (ps_set (i := 4) sc_Line_whole_rule.nd rfl (by first | exact Or.inl rfl | exact Or.inr rfl) (pe_mt1 N_Line_take_number (pv 0) CI.cl (hr.mono (by omega)) (passes_call (takes_of rfl rfl rfl rfl) (fun _ _ _ _ h => h)) (pa_cons (pe_lc (own := [("number", 6)]) (g := gName 6) rfl sc_Line_whole_rule.nd (pi_tup (pe_glob (v := .ref aB) rfl gBYS rfl)) (blkOk_by (own := [("number", 6)]) (N := ["self", "left", "words", "word", "by", "one", "number"]) (sc := defScope s_Line_whole_rule) (by decide +kernel)) (fun _ _ _ _ _ => (pg_name (i := 6) sc_Line_whole_rule.nd rfl (by first | exact Or.inl rfl | exact Or.inr rfl))) (fun _ _ _ _ _ => (pts_one (pt_cmpR op_le (pe_callB call_abs (by rfl) T.abs (by decide +kernel) (pa_cons (pv 6) pa_nil)) (pe_fldK (K := K) (pv 0) rfl) (nomark _)))) (fun _ _ _ _ _ => (pv 6))) pa_nil)))
  (pss_cons (ps_fldaug (pv 0) (pe_callB call_abs (by rfl) T.abs (by decide +kernel) (pa_cons (pv 4) pa_nil)) in_sub)
  (pss_cons (ps_fldaug (pv 0) pe_int in_add)
  (pss_one (ps_ret (pe_tup (pa_cons (pv 3) (pa_cons (pe_mt0 N_Line_whole_rule (pv 0) CI.cl (hr.mono (by omega)) (passes_call (takes_of rfl rfl rfl rfl) (fun _ _ _ _ h => h))) (pa_cons (pv 4) pa_nil)))))))))
  pss_nil)
  (pss_cons (ps_fldaug (pv 0) pe_int in_add)
  (pss_cons (ps_set (i := 5) sc_Line_whole_rule.nd rfl (by first | exact Or.inl rfl | exact Or.inr rfl) (pe_mt0 N_Line_whole_rule (pv 0) CI.cl (hr.mono (by omega)) (passes_call (takes_of rfl rfl rfl rfl) (fun _ _ _ _ h => h))))
  (pss_one (ps_ret (pe_tup (pa_cons (pv 3) (pa_cons (pv 5) (pa_cons (pe_mt0 N_Line_whole_rule (pv 0) CI.cl (hr.mono (by omega)) (passes_call (takes_of rfl rfl rfl rfl) (fun _ _ _ _ h => h))) pa_nil))))))))))))))))), ?_⟩
    have fl : ∀ {fn : Str} {y : V} {H1 : Hp} {σ : L2.St}, Ex H H1 → σ[0]? = some (some (.ref p)) → fn ∈ lineFs → (lineF num W a pa du ro).lookup fn = some y → Ev (tFld K (tVar 0) fn) σ H1 y := fun e h0 hm hl => ev_fld (ev_var h0) (e _ _ hp) CI.cl (CI.no _ hm) hl
    refine q_asg (v := .int (5 - (pa : Int) - (du : Int))) (ev_op (ev_op ev_c (fl (Ex.refl H) rfl (by simp) lineF_parts) rv_I0) (fl (Ex.refl H) rfl (by simp) lineF_due) rv_I0) fun H1 e1 => ?_
    refine q_asgL el_listK fun Ww H2 hWw e2 hWv => ?_
    have E2 := e1.trans e2
    refine q_whenApp (b := decide (pa + du < 5 ∧ 0 < ro)) (et_is (et_and (et_cmp (ev_var rfl) ev_c rv_I0) fun _ => et_cmp (fl E2 rfl (by simp) lineF_room) ev_c rv_I0) ?_) hWv (fun _ => ev_var rfl) (fun _ => ev_c) (by show 3 < 1000; decide) fun H3 b3 hW3 => ?_
    · rw [Bool.eq_iff_iff, Bool.and_eq_true, decide_eq_true_iff, decide_eq_true_iff, decide_eq_true_iff]
      omega
    refine q_whenExt (b := decide (pa + du < 4)) (et_is (et_cmp (ev_var rfl) ev_c rv_I0) ?_) hW3 (fun _ => ev_var rfl) (by split <;> decide) fun H4 b4 hW4 => ?_
    · rw [decide_eq_decide]
      omega
    have E4 : Ex H H4 := e1.trans ((b3.trans b4).old e2 hWw)
    have hW4' : H4 Ww = some (.lst ((able pa du ro).map V.str)) := by
      rw [hW4]
      refine congrArg (fun l => some (HO.lst l)) ?_
      unfold able
      by_cases c1 : pa + du < 5 ∧ 0 < ro <;> by_cases c2 : pa + du < 4 <;> simp [c1, c2, ends3, pairs3, pairsV]
    refine q_asgX (tMeth_go (ev_var rfl) (E4 _ _ hp) lineF_no_take fun H5 e5 => tA_one ⟨_, rfl, ?_⟩)
    have E5 := E4.trans e5
    refine ⟨p, Ww, num, ws, a, pa, du, ro, able pa du ro, rfl, hL.mono E5, sq_of (e5 _ _ hW4'), hal, fun hn => (kB a (by unfold parse; rw [hn])).back (ExB.of E5), fun z hz H6 eb6 hl6 => ?_⟩
    obtain ⟨hlt, hm, hx⟩ := takeW_lt hz
    have eb6' : ExB p H H6 := (ExB.of E5).trans eb6
    obtain ⟨dx6, W6, hp6, hW6⟩ := id hl6
    refine q_fldadd (ev_var rfl) hp6 CI.cl (CI.no _ (by simp)) lineF_parts (fun _ _ => ev_c) (by show 6 < 1000; decide) fun H7 e7 => ?_
    have hl7 : LineAt K C_Line (upd H7 p (.ins C_Line dx6 (putF "parts" (.int ((pa : Int) + 1)) (lineF num W6 ((a + 1 : Nat) : Int) pa du ro)))) p num ws (a + 1) (pa + 1) du ro := LineAt.parts (e7 _ _ hW6) (row_ne (K := K) hp6 hW6) (by omega)
    have eb7 := (eb6'.step e7).upd (o := .ins C_Line dx6 (putF "parts" (.int ((pa : Int) + 1)) (lineF num W6 ((a + 1 : Nat) : Int) pa du ro)))
    generalize upd H7 p (.ins C_Line dx6 (putF "parts" (.int ((pa : Int) + 1)) (lineF num W6 ((a + 1 : Nat) : Int) pa du ro))) = G7 at hl7 eb7 ⊢
    obtain ⟨dx7, W7, hp7, hW7⟩ := id hl7
    refine q_fldsub (ev_var rfl) hp7 CI.cl (CI.no _ (by simp)) lineF_due (fun _ _ => ev_c) (by show 6 < 1000; decide) fun H8 e8 => ?_
    have hl8 : LineAt K C_Line (upd H8 p (.ins C_Line dx7 (putF "due" (.int ((du : Int) - 1)) (lineF num W7 ((a + 1 : Nat) : Int) ((pa + 1 : Nat) : Int) du ro)))) p num ws (a + 1) (pa + 1) (du - 1) ro := LineAt.due (e8 _ _ hW7) (row_ne (K := K) hp7 hW7) (by omega)
    have eb8 := (eb7.step e8).upd (o := .ins C_Line dx7 (putF "due" (.int ((du : Int) - 1)) (lineF num W7 ((a + 1 : Nat) : Int) ((pa + 1 : Nat) : Int) du ro)))
    generalize upd H8 p (.ins C_Line dx7 (putF "due" (.int ((du : Int) - 1)) (lineF num W7 ((a + 1 : Nat) : Int) ((pa + 1 : Nat) : Int) du ro))) = G8 at hl8 eb8 ⊢
    obtain ⟨dx8, W8, hp8, hW8⟩ := id hl8
    rcases able_cases hm with hE | ⟨hzb, hc1⟩ | ⟨hP, hc2⟩
    · obtain ⟨aZ, hns, hsq⟩ : ∃ aZ, PySem.W.nsIn K dE z = some (some (.ref aZ)) ∧ ∀ H, SqT K H aZ ((leafN z).map V.int) := by
        have hE' := hE
        unfold ends3 at hE'
        simp only [List.mem_cons, List.not_mem_nil, or_false] at hE'
        rcases hE' with rfl | rfl | rfl
        · exact ⟨aW, tE.week, fun H => by rw [show leafN "weekday" = [-2, -1, 0, 1] by decide +kernel]; exact tE.sW H⟩
        · exact ⟨aW, tE.first, fun H => by rw [show leafN "first" = [-2, -1, 0, 1] by decide +kernel]; exact tE.sW H⟩
        · exact ⟨aM, tE.month, fun H => by rw [show leafN "monthday" = [-3, -2, -1, 0, 1, 2] by decide +kernel]; exact tE.sM H⟩
      refine q_yes (et_is (et_inK (ev_var rfl) hns) rfl) fun H9 e9 => ?_
      refine s_retX (tTup_go (tA_x ⟨_, rfl, tA_one (tMeth_go (ev_var rfl) (e9 _ _ hp8) lineF_no_take_number fun H10 e10 => tA_one ?_)⟩))
      refine (ev_op ev_c (ev_var rfl) fun H3 _ Q q => ⟨dE, z, .ref aZ, rfl, rfl, tE.kdct hns, q H3 (Ex.refl H3)⟩) H10 (Ex.refl H10) _ fun H11 e11 => ?_
      have E11 := (e9.trans e10).trans e11
      refine ⟨p, aZ, num, ws, a + 1, pa + 1, du - 1, ro, leafN z, rfl, hl8.mono E11, .inr (hsq _), by omega, (leafN_ok z).2, (leafN_ok z).1, fun hn => (kB (a + 1) (by unfold parse; rw [hz]; dsimp only; rw [if_pos hE, hn])).back (eb8.step E11), fun k hk H12 eb12 hl12 => ⟨by show 2 ≤ sizeLine; decide, fun t ht => ?_⟩⟩
      refine kG (mkLeaf z k) (a + 2) (pa + 1) (du - 1) ro (by unfold parse; rw [hz]; dsimp only; rw [if_pos hE, hk]) (.ref t) _ (((eb8.step E11).trans eb12).step (Ex.new ht)) (hl12.mono (Ex.new ht)) (mkLeaf_at hE (st_of upd_same))
    · have hnE : z ∉ ends3 := not_ends (.inl hzb)
      refine q_not (et_is (et_inK (ev_var rfl) (tE.no z (by rw [hzb]; simp))) rfl) fun H9 e9 => ?_
      refine q_yes (et_str (ev_var rfl) (decide_eq_true hzb)) fun H10 e10 => ?_
      have E10 := e9.trans e10
      refine q_asgX (tMeth_go (ev_var rfl) (E10 _ _ hp8) lineF_no_take_number fun H11 e11 => tA_one ?_)
      have E11 := E10.trans e11
      refine (el_is (el_tupN (K := K) (xs := bysV) (fun i => decide ((([-2, -1, 1, 2] : List Int).getD i 0).natAbs ≤ ro)) (fun i => V.int (([-2, -1, 1, 2] : List Int).getD i 0)) ev_c (sB _) (by decide) (fun _ => rfl) (fun i x H12 e12 hx => ?_) (fun i x H12 e12 hx _ => ?_)) (given_bys ro)) H11 (Ex.refl H11) _ fun s' H12 hs' e12 hs2 => ?_
      · have hxi : x = .int (([-2, -1, 1, 2] : List Int).getD i 0) := (ints_at (ns := [-2, -1, 1, 2]) hx).1
        rw [hxi]
        refine et_is (et_cmp (ev_abs (ev_var rfl)) (ev_fld (ev_var rfl) ((E11.trans e12) _ _ hp8) CI.cl (CI.no _ (by simp)) lineF_room) rv_I0) ?_
        rw [decide_eq_decide]
        split <;> omega
      · have hxi : x = .int (([-2, -1, 1, 2] : List Int).getD i 0) := (ints_at (ns := [-2, -1, 1, 2]) hx).1
        rw [hxi]
        exact ev_var rfl
      have E12 := E11.trans e12
      refine ⟨p, s', num, ws, a + 1, pa + 1, du - 1, ro, bysL ro, rfl, hl8.mono E12, .inl (sq_of hs2), by omega, Nat.le_trans (List.length_filter_le _ _) (by decide), fun k hk => (bysL_ok k hk).1, fun hn => (kB (a + 1) (by unfold parse; rw [hz]; dsimp only; rw [if_neg hnE, if_pos hzb, hn])).back (eb8.step E12), fun b hb H13 eb13 hl13 => ?_⟩
      have hbm := (takeN_lt hb).2.1
      have hbl := (takeN_lt hb).1
      have hbn := (bysL_ok b hbm).2
      have eb13' := (eb8.step E12).trans eb13
      obtain ⟨dx13, W13, hp13, hW13⟩ := id hl13
      refine q_fldsub (ev_var rfl) hp13 CI.cl (CI.no _ (by simp)) lineF_room (fun _ _ => ev_abs (ev_var rfl)) (by show 6 < 1000; decide) fun H14 e14 => ?_
      generalize hab : (if b < 0 then -b else b) = ab
      have hl14 : LineAt K C_Line (upd H14 p (.ins C_Line dx13 (putF "room" (.int ((ro : Int) - ab)) (lineF num W13 ((a + 1 + 1 : Nat) : Int) ((pa + 1 : Nat) : Int) ((du - 1 : Nat) : Int) ro)))) p num ws (a + 1 + 1) (pa + 1) (du - 1) (ro - b.natAbs) := LineAt.room (e14 _ _ hW13) (row_ne (K := K) hp13 hW13) (by split at hab <;> omega)
      have eb14 := (eb13'.step e14).upd (o := .ins C_Line dx13 (putF "room" (.int ((ro : Int) - ab)) (lineF num W13 ((a + 1 + 1 : Nat) : Int) ((pa + 1 : Nat) : Int) ((du - 1 : Nat) : Int) ro)))
      generalize upd H14 p (.ins C_Line dx13 (putF "room" (.int ((ro : Int) - ab)) (lineF num W13 ((a + 1 + 1 : Nat) : Int) ((pa + 1 : Nat) : Int) ((du - 1 : Nat) : Int) ro))) = G14 at hl14 eb14 ⊢
      obtain ⟨dx14, W14, hp14, hW14⟩ := id hl14
      refine q_fldadd (ev_var rfl) hp14 CI.cl (CI.no _ (by simp)) lineF_due (fun _ _ => ev_c) (by show 6 < 1000; decide) fun H15 e15 => ?_
      have hl15 : LineAt K C_Line (upd H15 p (.ins C_Line dx14 (putF "due" (.int (((du - 1 : Nat) : Int) + 1)) (lineF num W14 ((a + 1 + 1 : Nat) : Int) ((pa + 1 : Nat) : Int) ((du - 1 : Nat) : Int) ((ro - b.natAbs : Nat) : Int))))) p num ws (a + 1 + 1) (pa + 1) du (ro - b.natAbs) := LineAt.due (e15 _ _ hW14) (row_ne (K := K) hp14 hW14) (by omega)
      have eb15 := (eb14.step e15).upd (o := .ins C_Line dx14 (putF "due" (.int (((du - 1 : Nat) : Int) + 1)) (lineF num W14 ((a + 1 + 1 : Nat) : Int) ((pa + 1 : Nat) : Int) ((du - 1 : Nat) : Int) ((ro - b.natAbs : Nat) : Int))))
      generalize upd H15 p (.ins C_Line dx14 (putF "due" (.int (((du - 1 : Nat) : Int) + 1)) (lineF num W14 ((a + 1 + 1 : Nat) : Int) ((pa + 1 : Nat) : Int) ((du - 1 : Nat) : Int) ((ro - b.natAbs : Nat) : Int)))) = G15 at hl15 eb15 ⊢
      obtain ⟨dx15, W15, hp15, hW15⟩ := id hl15
      refine s_retX (tTup_go (tA_x ⟨_, rfl, tA_x (tMeth_go (ev_var rfl) hp15 lineF_no_whole_rule fun H16 e16 => tNil_go ?_)⟩))
      refine ⟨p, num, ws, a + 1 + 1, pa + 1, du, ro - b.natAbs, rfl, hl15.mono e16, by omega, hdu, by omega, by omega, fun i hi => (kB i (by unfold parse; rw [hz]; dsimp only; rw [if_neg hnE, if_pos hzb, hb]; dsimp only; rw [show a + 2 = a + 1 + 1 from rfl, hi])).back (eb15.step e16), fun r a1 pa1 du1 ro1 hpr v H17 eb17 hl17 hrl => tA_one ⟨_, rfl, ⟨by show 3 ≤ sizeLine; decide, fun t ht => ?_⟩⟩⟩
      refine kG (.bh r b) a1 pa1 du1 ro1 (by unfold parse; rw [hz]; dsimp only; rw [if_neg hnE, if_pos hzb, hb]; dsimp only; rw [show a + 2 = a + 1 + 1 from rfl, hpr]) (.ref t) _ (((eb15.step e16).trans eb17).step (Ex.new ht)) (hl17.mono (Ex.new ht)) (.bh (st_of ?_) (hrl.mono (Ex.new ht)))
      rw [hzb]
      exact upd_same
    · have hnE : z ∉ ends3 := not_ends (.inr hP)
      have hnb := not_behind hP
      refine q_not (et_is (et_inK (ev_var rfl) (tE.no z (by
        unfold pairs3 at hP
        simp only [List.mem_cons, List.not_mem_nil, or_false] at hP
        rcases hP with rfl | rfl | rfl <;> simp))) rfl) fun H9 e9 => ?_
      refine q_not (et_str (ev_var rfl) (decide_eq_false hnb)) fun H10 e10 => ?_
      have E10 := e9.trans e10
      refine q_fldadd (ev_var rfl) (E10 _ _ hp8) CI.cl (CI.no _ (by simp)) lineF_due (fun _ _ => ev_c) (by show 6 < 1000; decide) fun H11 e11 => ?_
      have hl11 : LineAt K C_Line (upd H11 p (.ins C_Line dx8 (putF "due" (.int (((du - 1 : Nat) : Int) + 2)) (lineF num W8 ((a + 1 : Nat) : Int) ((pa + 1 : Nat) : Int) ((du - 1 : Nat) : Int) ro)))) p num ws (a + 1) (pa + 1) (du + 1) ro := LineAt.due ((E10.trans e11) _ _ hW8) (row_ne (K := K) hp8 hW8) (by omega)
      have eb11 := (eb8.step (E10.trans e11)).upd (o := .ins C_Line dx8 (putF "due" (.int (((du - 1 : Nat) : Int) + 2)) (lineF num W8 ((a + 1 : Nat) : Int) ((pa + 1 : Nat) : Int) ((du - 1 : Nat) : Int) ro)))
      generalize upd H11 p (.ins C_Line dx8 (putF "due" (.int (((du - 1 : Nat) : Int) + 2)) (lineF num W8 ((a + 1 : Nat) : Int) ((pa + 1 : Nat) : Int) ((du - 1 : Nat) : Int) ro))) = G11 at hl11 eb11 ⊢
      obtain ⟨dx11, W11, hp11, hW11⟩ := id hl11
      refine q_asgX (tMeth_go (ev_var rfl) hp11 lineF_no_whole_rule fun H12 e12 => tNil_go ?_)
      refine ⟨p, num, ws, a + 1, pa + 1, du + 1, ro, rfl, hl11.mono e12, by omega, by omega, by omega, by omega, fun i hi => (kB i (by unfold parse; rw [hz]; dsimp only; rw [if_neg hnE, if_neg hnb, hi])).back (eb11.step e12), fun x a1 pa1 du1 ro1 hpx u H13 eb13 hl13 hrx => ?_⟩
      obtain ⟨k1, k2, k3, _⟩ := parse_keep n ws _ _ _ _ hpx (by omega) (by omega) (by omega)
      have hkp : pa + 1 ≤ pa1 ∨ True := .inr trivial
      have eb13' := (eb11.step e12).trans eb13
      obtain ⟨dx13, W13, hp13, hW13⟩ := id hl13
      refine s_retX (tTup_go (tA_x ⟨_, rfl, tA_x ⟨_, rfl, tA_one (tMeth_go (ev_var rfl) hp13 lineF_no_whole_rule fun H14 e14 => tNil_go ?_)⟩⟩))
      refine ⟨p, num, ws, a1, pa1, du1, ro1, rfl, hl13.mono e14, by omega, by omega, ?_, k3, fun i hi => (kB i (by unfold parse; rw [hz]; dsimp only; rw [if_neg hnE, if_neg hnb, hpx]; dsimp only; rw [hi])).back (eb13'.step e14), fun y a2 pa2 du2 ro2 hpy v H15 eb15 hl15 hry => ⟨by show 3 ≤ sizeLine; decide, fun t ht => ?_⟩⟩
      · exact Nat.le_trans (by omega) (Nat.add_le_add_right (parse_parts n ws _ _ _ _ hpx) n)
      · refine kG (mkPair z x y) a2 pa2 du2 ro2 (by unfold parse; rw [hz]; dsimp only; rw [if_neg hnE, if_neg hnb, hpx]; dsimp only; rw [hpy]) (.ref t) _ (((eb13'.step e14).trans eb15).step (Ex.new ht)) (hl15.mono (Ex.new ht)) (mkPair_at hP (st_of upd_same) ?_ (hry.mono (Ex.new ht)))
        exact (rl_butI (e14 _ _ hp13) eb15 (hrx.mono e14)).mono (Ex.new ht)
theorem mt_rule (T : Txt P w K mg C_BadRule C_BadRules C_BadText C_Feast C_Calendar C_Line) (CI : Cls1 K C_Line lineFs) : ∀ n : Nat, Mtn P w K mg base (L2.CX P w) C_Line "whole_rule" (n + 7) ["self"] (spWR K C_Line C_BadText n)
  | 0 => T.m_Line_whole_rule.mtn fun g fd F => fnok_none fun vs H Q E ⟨_, _, _, _, _, _, _, _, _, h1, h2, h3, _⟩ => by omega
  | n + 1 => wr_turn T CI n (mt_rule T CI n)
end
end WF

set_option Elab.async false
set_option linter.all false
set_option maxRecDepth 100000
set_option maxHeartbeats 1000000
/-! read: a text as a calendar, with refusals -/
namespace WF
open PySem L2 Evl
section
variable {K : PySem.W.Frag} {σ : L2.St} {H : Hp} {ta tb te tl tu2 : TE} {tA : TA} {t : TT} {D : Ends} {tu tz : TS}
theorem q_forEnE {xs : List V} {j k : Nat} (h : EvL tl σ H xs) (Pv : Addr → Nat → L2.St → Hp → Prop) (h0 : ∀ p H1, H p = none → Ex H H1 → H1 p = some (.lst xs) → Pv p 0 σ H1)
    (hl : ∀ p i σ' H', Pv p i σ' H' → H' p = some (.lst xs))
    (hs : ∀ p i x σ' H' H2, xs[i]? = some x → Pv p i σ' H' → Ex H' H2 → tu { D with nx := Pv p (i + 1), ct := Pv p (i + 1), bk := tz D } ((σ'.set j (some (.int ((i : Nat) : Int)))).set k (some x)) H2)
    (hd : ∀ p σ' H', Pv p xs.length σ' H' → tz D σ' H') : tSeq (tFor (iEnum K (tCons tl tNil)) (gTup K 2 (gCons (gName j) (gCons (gName k) gNil))) tu) tz D σ H := by
  refine h H (Ex.refl H) _ fun a H1 ha e1 hx => ⟨a, xs, rfl, sq_of hx, ?_⟩
  refine for_it (D := { D with nx := tz D }) walk_enum (Pv a) (h0 a H1 ha e1 hx) (fun i σ' H' _ h => sq_of (hl a i σ' H' h)) (fun i x σ' H' H2 hi p y => ?_) (hd a)
  obtain ⟨T, u, v, rfl, hT, rfl, hu, hv⟩ := y
  cases hu
  exact ⟨T, _, rfl, st_of upd_same, rfl, _, _, rfl, _, _, rfl, rfl, hs a i v σ' H' _ hv p (Ex.new hT)⟩
theorem opC_go {r : R2} {v : V} {Q : VK} (h : tb σ H fun y H1 => r v y H1 Q) : tOp r (tC v) tb σ H Q := h
theorem q_dropGo {k0 : TE} (h : k0 σ H fun _ H1 => tz D σ H1) : tSeq (tDrop k0) tz D σ H := h
theorem app_go {l : Addr} {xs : List V} {Q : VK} (ha : Ev ta σ H (.ref l)) (hl : H l = some (.lst xs)) (h : ∀ H1, Ex H H1 → te σ H1 fun v H2 => rAppend (.ref l) [v] H2 Q) : tBM K "list" rAppend ta (tCons te tNil) σ H Q := ha H (Ex.refl H) _ fun H1 e1 =>
  ⟨Or.inl ⟨rfl, xs, sq_of (e1 l _ hl)⟩, h H1 e1⟩
theorem el_cutLast {a : Addr} {ls : List Str} (h : Ev ta σ H (.ref a)) (hx : SqL K H a (ls.map V.str)) : EvL (tSl (rSlL K) ta tNoPart (tPart (tUn (rU fun i => V.int (-i)) (tC (V.int 1))))) σ H (ls.dropLast.map V.str) := by
  rw [← cut_last V.str ls]
  exact el_sl h eo_none (eo_some (ev_un ev_c ru_neg)) hx
/-- tuple(a list that has a name) -/
theorem er_tupleV {R : Addr} {zs : List V} {S : List V → Hp → Prop} (hS : ∀ ys H1 H2, KeepN H1 H2 → S ys H1 → S ys H2) (h : Ev ta σ H (.ref R)) (hR : SqL K H R zs) (hs : S zs H) :
    EvR (tCB (fun xs H Q => ∃ p ys, xs = [.ref p] ∧ ((SqL K H p ys ∧ ∀ l, H l = none → Q (.ref l) (upd H l (.tup ys))) ∨ (SqT K H p ys ∧ Q (.ref p) H))) (tCons ta tNil)) σ H fun p H2 => ∃ ys, H2 p = some (.tup ys) ∧ S ys H2 := fun H1 e Q q =>
  h H1 e _ fun H2 e2 => ⟨R, zs, rfl, .inl ⟨ex_l (e.trans e2) hR, fun l hl => q l _ (fresh_back e2 hl) (e2.trans (Ex.new hl)) ⟨zs, upd_same, hS zs _ _ (KeepN.of ((e.trans e2).trans (Ex.new hl))) hs⟩⟩⟩
theorem rows_not {CF : Addr} {zs : List V} {rows : Rows} {ws : List Str} (h : RowsL K CF H zs rows) (e : zs = ws.map V.str) (hw : 0 < ws.length) : False := by
  cases ws with
  | nil => exact absurd hw (by decide)
  | cons z ws =>
    subst e
    cases rows with
    | nil => exact h
    | cons r rows =>
      obtain ⟨⟨a, b, h0, _⟩, _⟩ := h
      cases h0
theorem mk_go {CF CR : Addr} {E : XK} {Q : VK} (h : te σ H fun v H1 => tMake CF (spFeast K CF CR) [] E (fun _ H Q => Q [v] H) σ H1 Q) : tMake CF (spFeast K CF CR) [] E (tCons te tNil) σ H Q := h
theorem mk_leaf {CF CR : Addr} {E : XK} {Q : VK} {v : V} {r : Rl} (hr : RlAt K H v r) (hf : r.fit = true) (hp : r.parts ≤ 5) (hb : r.bys ≤ 4) (k : ∀ p H2, H p = none → Ex H H2 → FeastAt K CF H2 p r → Q (.ref p) H2) : tMake CF (spFeast K CF CR) [] E (fun _ H Q => Q [v] H) σ H Q :=
  er_feast (K := K) (CF := CF) (CR := CR) (σ := σ) (H := H) (v := v) (r := r) (ta := fun _ H Q => Q [v] H) (E := E) (fun H3 _ Q q => q H3 (Ex.refl H3)) hr hf hp hb H (Ex.refl H) Q fun p H3 hp e3 hc => k p H3 hp e3 hc
theorem q_parR {xs : List V} {v : V} {i j : Nat} (h : EvL te σ H xs) (h2 : ∀ H1, Ev tb σ H1 v) (k : ∀ p H1, H p = none → Ex H H1 → H1 p = some (.lst xs) → tz D ((σ.set i (some (.ref p))).set j (some v)) H1) :
    tSeq (tPar i j (tCons te (tCons tb tNil))) tz D σ H := h H (Ex.refl H) _ fun p H1 hp e1 h1 => h2 H1 H1 (Ex.refl H1) _ fun H2 e2 => ⟨_, _, rfl, k p H2 hp (e1.trans e2) (e2 _ _ h1)⟩
theorem er_line {CL : Addr} {E : XK} {num : Int} {z : Str} {ro : Nat} (h : EvA tA σ H [.int num, .str z, .int (ro : Int)]) (hz : z.length ≤ 10000) : EvR (tMake CL (spLine K CL) [] E tA) σ H fun p H2 => LineAt K CL H2 p num (Txt.split z " ") 0 0 1 ro :=
  er_make h fun H1 e1 x dx hx hdx hne Q k => ⟨x, dx, num, z, ro, rfl, upd_same, hz, fun H' eb hl => k H' (eb.old (ex_made hx hdx) hx) hl⟩
theorem RowsL.snoc {CF : Addr} : ∀ {xs : List V} {rs : Rows} {x : V} {r : Rl × Bool}, RowsL K CF H xs rs → RowAt K CF H x r → RowsL K CF H (xs ++ [x]) (rs ++ [r])
  | [], [], _, _, _, h => ⟨h, trivial⟩
  | _ :: _, _ :: _, _, _, h, h2 => ⟨h.1, RowsL.snoc h.2 h2⟩
  | [], _ :: _, _, _, h, _ => h.elim
  | _ :: _, [], _, _, h, _ => h.elim
end
section
variable {P : Program} {w : World} {K : PySem.W.Frag} {mg : Str → Option Value} {base : Heap} {C_BadRule C_BadRules C_BadText C_Feast C_Calendar C_Line : Addr} {f : Addr} {fd : FuncData}
def spRead (K : PySem.W.Frag) (CF CC CT : Addr) : Sp := fun vs H Q E => ∃ t : Str, vs = [.str t] ∧ t.length ≤ 10000 ∧ (∀ x ∈ Txt.split t "\n", x.length ≤ 10000) ∧
  (∀ i j, readT t = .bad i j → ∀ d H2, Ex H H2 → H2 d = some (.xd [("word", .int (j : Int)), ("line", .int (i : Int))]) → E (.ref CT) (some d) H2) ∧
  (∀ rows, readT t = .ok rows → ∀ p H2, H p = none → Ex H H2 → CalAt K CF CC H2 (.ref p) rows → Q (.ref p) H2)
theorem ok_read (F : Fun K "read" "read" s_read f fd) (T : Txt P w K mg C_BadRule C_BadRules C_BadText C_Feast C_Calendar C_Line) (CF : Cls1 K C_Feast ["told", "bys"]) (IF : ClsI K C_Feast) (CC : Cls1 K C_Calendar ["rows", "near"]) (CI : Cls1 K C_Line lineFs) : FnOk P w K mg base (L2.CX P w) 14 f fd ["text"] (spRead K C_Feast C_Calendar C_BadText) := by
  have ME_BadText : MnE P w K mg base C_BadText 2 (spE2 C_BadText "line" "word") := me_BadText T
  have N_Line_take : Mtn P w K mg base (L2.CX P w) C_Line "take" 4 ["self", "some"] (spTake K C_Line C_BadText) := mt_take T CI
  have N_Line_end : Mtn P w K mg base (L2.CX P w) C_Line "end" 4 ["self"] (spEnd K C_Line C_BadText) := mt_end T CI
  have N_Line_whole_rule : Mtn P w K mg base (L2.CX P w) C_Line "whole_rule" 12 ["self"] (spWR K C_Line C_BadText 5) := mt_rule T CI 5
  have M_Line : Mn P w K mg base CX0 C_Line 1 ["self", "number", "text", "room"] (spLine K C_Line) := mn_line T CI
  have M_Feast : Mn P w K mg base (L2.CX P w) C_Feast 9 ["self", "rule"] (spFeast K C_Feast C_BadRule) := mn_feast T CF
  have M_Calendar : Mn P w K mg base CX0 C_Calendar 2 ["self", "rules"] (spCal K C_Feast C_Calendar) := mn_cal T CF IF CC
  obtain ⟨dB, esB, nB, gBEGINS, kdBEGINS, kkBEGINS, nsP, nsY⟩ := T.k_BEGINS
  refine F.okX sc_read (fun vs H Q E h => ?_) (fun cdv A outer s H vs Q E hr h => ?_)
  · obtain ⟨_, rfl, _⟩ := h
    rfl
  · obtain ⟨t, rfl, hz, hzs, kB, kG⟩ := h
    refine ⟨_, (pss_cons (ps_set (i := 1) sc_read.nd rfl (by first | exact Or.inl rfl | exact Or.inr rfl) (pe_bm PySem.F.plainAttrs_str PySem.F.slot_str_split PySem.F.type_str_split mt_split (pv 0) (pa_cons pe_str pa_nil)))
  (pss_cons (ps_par (i := 2) (j := 3) (by rfl) sc_read.nd rfl rfl (by decide) rfl rfl (pa_cons (pe_lst pa_nil) (pa_cons (pe_globE rfl T.g_MOST_BYS) pa_nil)) (by first | rfl | exact sw2 rfl rfl rfl rfl (by decide)))
  (pss_cons (ps_for (passes_of rfl) rfl (pi_enum (by rfl) T.enumerate (pa_cons (pe_slice sl_list (pv 1) po_none (po_some (pe_un un_neg pe_int))) pa_nil)) (pg_tup rfl (pgs_cons (pg_name (i := 4) sc_read.nd rfl (by first | exact Or.inl rfl | exact Or.inr rfl)) (pgs_cons (pg_name (i := 5) sc_read.nd rfl (by first | exact Or.inl rfl | exact Or.inr rfl)) pgs_nil)))
  (pss_cons (ps_set (i := 6) sc_read.nd rfl (by first | exact Or.inl rfl | exact Or.inr rfl) (pe_mk M_Line (hr.mono (by omega)) T.c_Line pass0 rfl (pa_cons (pe_op op_add (pv 4) pe_int) (pa_cons (pv 5) (pa_cons (pv 3) pa_nil)))))
  (pss_cons (ps_set (i := 7) sc_read.nd rfl (by first | exact Or.inl rfl | exact Or.inr rfl) (pe_ix ix_kdict (pe_glob (v := .ref dB) rfl gBEGINS rfl) (pe_mt1 N_Line_take (pv 6) CI.cl (hr.mono (by omega)) (passes_call (takes_of rfl rfl rfl rfl) (fun _ _ _ _ h => h)) (pa_cons (pe_ifExp (pt_cmpR op_lt (pv 4) (pe_globE rfl T.g_MOST_RULES) (nomark _)) (pe_callTy (call_list_kd rfl kdBEGINS kkBEGINS (by decide +kernel) (by decide)) (by rfl) T.list (by decide +kernel) (pa_cons (pe_glob (v := .ref dB) rfl gBEGINS rfl) pa_nil)) (pe_lst pa_nil)) pa_nil)) (fun _ _ => rfl)))
  (pss_cons (ps_expr (pe_bm PySem.F.plainAttrs_list PySem.F.slot_list_append PySem.F.type_list_append mt_append (pv 2) (pa_cons (pe_tup (pa_cons (pe_mk M_Feast (hr.mono (by omega)) T.c_Feast (passes_call (takes_of rfl rfl rfl rfl) (fun _ _ _ _ h => h)) rfl (pa_cons (pe_mt0 N_Line_whole_rule (pv 6) CI.cl (hr.mono (by omega)) (passes_call (takes_of rfl rfl rfl rfl) (fun _ _ _ _ h => h))) pa_nil)) (pa_cons (pv 7) pa_nil))) pa_nil)))
  (pss_cons (ps_expr (pe_mt0 N_Line_end (pv 6) CI.cl (hr.mono (by omega)) (passes_call (takes_of rfl rfl rfl rfl) (fun _ _ _ _ h => h))))
  (pss_one (ps_set (i := 3) sc_read.nd rfl (by first | exact Or.inl rfl | exact Or.inr rfl) (pe_fld (pv 6) rfl))))))))
  (pss_cons (ps_if (pt_cmpR op_ne (pe_ix ix_list (pv 1) (pe_un un_neg pe_int) (fun _ _ => rfl)) pe_str (nomark _)) (pss_one (ps_raiseS rfl (takes_of rfl rfl rfl rfl) ME_BadText (hr.mono (by omega)) T.c_BadText rfl (pa_cons (pe_callB call_len_seq (by rfl) T.len (by decide +kernel) (pa_cons (pv 1) pa_nil)) (pa_cons pe_int pa_nil))))
  pss_nil)
  (pss_one (ps_ret (pe_mk M_Calendar (hr.mono (by omega)) T.c_Calendar pass0 rfl (pa_cons (pe_callTy call_tuple_of (by rfl) T.tuple (by decide +kernel) (pa_cons (pv 2) pa_nil)) pa_nil)))))))), ?_⟩
    obtain ⟨hne, hsm⟩ := lines_small t
    generalize hls : Txt.split t "\n" = ls at hne hsm hzs
    have hrd : readT t = readS ls := by rw [← hls]; rfl
    refine q_asgL (el_is (el_split (ev_var rfl) (by decide +kernel) hz) (by rw [hls])) fun L H1 hL e1 hLv => ?_
    refine q_parR (el_lst ea_nil (by show 0 ≤ 100000; decide)) (fun _ => ev_c) fun R H2 hR e2 hRv => ?_
    have hR0 : H R = none := fresh_back e1 hR
    have hLR : L ≠ R := fun q => by rw [q, hR] at hLv; cases hLv
    have key : ∀ i j, readL ls.dropLast 0 4 [] = .bad i j → ∀ d H2, Ex H H2 → H2 d = some (.xd [("word", .int (j : Int)), ("line", .int (i : Int))]) → E (.ref C_BadText) (some d) H2 := fun i j hb => kB i j (by rw [hrd]; unfold readS; rw [hb])
    refine q_forEnE (xs := ls.dropLast.map V.str) (el_cutLast (ev_var rfl) (sq_of (e2 _ _ hLv))) (fun p i σ' H' => ∃ (ro : Nat) (acc : Rows) (zs : List V) (a4 a5 a6 a7 : Option V), σ' = [some (.str t), some (.ref L), some (.ref R), some (.int (ro : Int)), a4, a5, a6, a7] ∧ Ex H H' ∧ H' L = some (.lst (ls.map V.str)) ∧ H' p = some (.lst (ls.dropLast.map V.str)) ∧ p ≠ R ∧
      H' R = some (.lst zs) ∧ RowsL K C_Feast H' zs acc ∧ readL (ls.dropLast.drop i) i ro acc = readL ls.dropLast 0 4 [] ∧ rowsBys acc + ro = 4 ∧ acc.length = i ∧ acc.length ≤ 3 ∧ (∀ r ∈ acc, r.1.fit = true ∧ r.1.parts ≤ 5)) (fun p H3 hp e3 hpv => ?_) (fun p i σ' H' ⟨_, _, _, _, _, _, _, _, _, _, h, _⟩ => h) ?_ ?_
    · refine ⟨4, [], [], _, _, _, _, rfl, e1.trans (e2.trans e3), (e2.trans e3) _ _ hLv, hpv, fun q => ?_, e3 _ _ hRv, trivial, rfl, rfl, rfl, by decide, fun _ h => by cases h⟩
      rw [q, hRv] at hp
      cases hp
    · rintro p i x σ' H' G hi ⟨ro, acc, zs, a4, a5, a6, a7, rfl, eH, hLv', hpv, hpR, hRv', hzl, hread, hby, hal, ha3, hfit⟩ eG
      obtain ⟨l, hl, rfl⟩ : ∃ l, ls.dropLast[i]? = some l ∧ x = .str l := by
        rw [List.getElem?_map] at hi
        cases e : ls.dropLast[i]? with
        | none => rw [e] at hi; cases hi
        | some l => rw [e] at hi; cases hi; exact ⟨l, rfl, rfl⟩
      have hlm : l ∈ ls := List.dropLast_subset _ (List.mem_of_getElem? hl)
      have hdr : ls.dropLast.drop i = l :: ls.dropLast.drop (i + 1) := by
        obtain ⟨hlt, he⟩ := List.getElem?_eq_some_iff.mp hl
        rw [← he]
        exact List.drop_eq_getElem_cons hlt
      rw [hdr, readL_cons] at hread
      refine q_asgR (er_line (ea_cons (ev_is (ev_op (ev_var rfl) ev_c rv_I0) (show V.int ((i : Int) + 1) = .int ((i + 1 : Nat) : Int) from rfl)) (ea_cons (ev_var rfl) (ea_cons (ev_var rfl) ea_nil))) (hzs l hlm)) fun q H3 hq e3 hl3 => ?_
      generalize hws : Txt.split l " " = ws at hread hl3
      have hwl : 0 < ws.length := by rw [← hws]; exact List.length_pos_iff.mpr (words_small l).1
      obtain ⟨dx3, W3, hq3, hW3⟩ := id hl3
      have bk : ∀ {a : Nat} {H'' : Hp}, Ex H3 H'' → readL ls.dropLast 0 4 [] = .bad (i + 1) (a + 1) → RefE C_BadText q ((i + 1 : Nat) : Int) a H'' E := fun {a H''} e hb d H4 e4 hd => key _ _ hb d H4 (eH.trans (eG.trans ((ExB.of e).trans e4 |>.old e3 hq))) hd
      refine q_asgX (opC_go (tMeth_go (ev_var rfl) hq3 lineF_no_take fun H4 e4 => tA_one ?_))
      have el : EvL (tIf (tTest (tOp (rI0 fun i j => V.bl (decide (i < j))) (tVar 4) (tC (V.int 3)))) (tCB (rListK dB [Str.ofString "plain", Str.ofString "yields"]) (tCons (tC (V.ref dB)) tNil)) (tLst tNil)) [some (.str t), some (.ref L), some (.ref R), some (.int (ro : Int)), some (.int (i : Int)), some (.str l), some (.ref q), a7] H4 ((if i < 3 then begins2 else []).map V.str) := by
        by_cases h3 : i < 3
        · rw [if_pos h3]
          exact el_ifT (et_is (et_cmp (ev_var rfl) ev_c rv_I0) (decide_eq_true (by omega))) el_listK
        · rw [if_neg h3]
          exact el_ifF (et_is (et_cmp (ev_var rfl) ev_c rv_I0) (decide_eq_false (by omega))) (el_lst ea_nil (by show 0 ≤ 100000; decide))
      refine el H4 (Ex.refl H4) _ fun Ww H5 hWw e5 hWv => ?_
      refine ⟨q, Ww, _, ws, 0, 0, 1, ro, _, rfl, hl3.mono (e4.trans e5), sq_of hWv, Nat.zero_le _, fun hn => bk (e4.trans e5) (by rw [← hread, hn]), fun z hz0 H6 eb6 hl6 => ?_⟩
      obtain ⟨_, hzm, _⟩ := takeW_lt hz0
      have hi3 : i < 3 := by
        by_cases h3 : i < 3
        · exact h3
        · rw [if_neg h3] at hzm; cases hzm
      rw [if_pos hi3] at hzm
      have hzc : z = "plain" ∨ z = "yields" := by
        simp only [begins2, List.mem_cons, List.not_mem_nil, or_false] at hzm
        exact hzm
      have hkd : KDct K w dB z (.bl (decide (z = "yields"))) := by
        rcases hzc with rfl | rfl
        · exact ⟨esB, nB, .bool false, kdBEGINS.at_, kdBEGINS.lit, nsP, by rw [decide_eq_false (by decide +kernel)]; rfl⟩
        · exact ⟨esB, nB, .bool true, kdBEGINS.at_, kdBEGINS.lit, nsY, by rw [decide_eq_true rfl]; rfl⟩
      refine ⟨dB, z, _, rfl, rfl, hkd, ?_⟩
      rw [hz0] at hread
      dsimp only at hread
      have hNG : G q = none := hq
      have E6 : Ex G H6 := (((ExB.of (p := q) ((e4.trans e5))).trans eb6).old e3 hq)
      have ebb6 : ExB q H3 H6 := (ExB.of (e4.trans e5)).trans eb6
      obtain ⟨dx6, W6, hq6, hW6⟩ := id hl6
      refine q_dropGo (app_go (ev_var rfl) ((eG.trans E6) _ _ hRv') fun H7 e7 => tTup_go (tA_x (mk_go (tMeth_go (ev_var rfl) (e7 _ _ hq6) lineF_no_whole_rule fun H8 e8 => tNil_go ?_))))
      refine ⟨q, _, ws, 1, 0, 1, ro, rfl, hl6.mono (e7.trans e8), by omega, by omega, by omega, hwl, fun i' hi' => (bk (Ex.refl H3) (by rw [← hread, hi'])).back (ebb6.step (e7.trans e8)), fun r a1 pa1 du1 ro1 hpr v H9 eb9 hl9 hrl => ?_⟩
      obtain ⟨s1, s2, s3, _⟩ := parse_sound 5 ws _ _ _ _ hpr
      obtain ⟨k1, k2, k3, _⟩ := parse_keep 5 ws _ _ _ _ hpr (by omega) (by omega) hwl
      rw [hpr] at hread
      dsimp only at hread
      have ebb9 : ExB q H3 H9 := (ebb6.step (e7.trans e8)).trans eb9
      refine mk_leaf hrl s1 (by omega) (by omega) fun pf H10 hpf e10 hF => tA_one ⟨_, rfl, ⟨by show 2 ≤ sizeLine; decide, fun tp htp => ?_⟩⟩
      have ebb10 := (ebb9.step (e10.trans (Ex.new (o := .tup [.ref pf, .bl (decide (z = "yields"))]) htp)))
      have hFt := hF.mono (Ex.new (o := .tup [.ref pf, .bl (decide (z = "yields"))]) htp)
      have hl10 := hl9.mono (e10.trans (Ex.new (o := .tup [.ref pf, .bl (decide (z = "yields"))]) htp))
      have htv : upd H10 tp (.tup [.ref pf, .bl (decide (z = "yields"))]) tp = some (.tup [.ref pf, .bl (decide (z = "yields"))]) := upd_same
      generalize upd H10 tp (.tup [.ref pf, .bl (decide (z = "yields"))]) = A at ebb10 hFt hl10 htv ⊢
      have EA : Ex G A := ebb10.old e3 hq
      have hRA := (eG.trans EA) _ _ hRv'
      have hzA := hzl.mono (eG.trans EA)
      have hzlen := hzl.len
      refine ⟨R, zs, _, rfl, rfl, hRA, Evl.sz_lt (by omega), ?_⟩
      have kn : KeepN A (upd A R (.lst (zs ++ [.ref tp]))) := (KeepN.refl _).lst hRA
      have hzB : RowsL K C_Feast (upd A R (.lst (zs ++ [.ref tp]))) (zs ++ [.ref tp]) (acc ++ [(r, decide (z = "yields"))]) := (hzA.snoc ⟨tp, pf, rfl, st_of htv, hFt⟩).kn kn
      obtain ⟨dxA, WA, hqA, hWA⟩ := hl10
      have hWR : WA ≠ R := fun e => by
        rw [e, hRA] at hWA
        exact rows_not hzl (HO.lst.inj (Option.some.inj hWA)) hwl
      have hqR : q ≠ R := fun e => by
        rw [e, hRA] at hqA
        cases hqA
      have hlB : LineAt K C_Line (upd A R (.lst (zs ++ [.ref tp]))) q ((i + 1 : Nat) : Int) ws a1 pa1 du1 ro1 := ⟨dxA, WA, by rw [upd_ne hqR]; exact hqA, by rw [upd_ne hWR]; exact hWA⟩
      have EB : Ex H (upd A R (.lst (zs ++ [.ref tp]))) := (eH.trans (eG.trans EA)).mut hR0
      have hRB : upd A R (.lst (zs ++ [.ref tp])) R = some (.lst (zs ++ [.ref tp])) := upd_same
      have hLB : upd A R (.lst (zs ++ [.ref tp])) L = some (.lst (ls.map V.str)) := by rw [upd_ne hLR]; exact (eG.trans EA) _ _ hLv'
      have hpB : upd A R (.lst (zs ++ [.ref tp])) p = some (.lst (ls.dropLast.map V.str)) := by rw [upd_ne hpR]; exact (eG.trans EA) _ _ hpv
      generalize upd A R (.lst (zs ++ [.ref tp])) = B at hzB hlB EB hRB hLB hpB ⊢
      obtain ⟨dxB, WB, hqB, hWB⟩ := id hlB
      refine q_dropGo (tMeth_go (ev_var rfl) hqB lineF_no_end fun H11 e11 => tNil_go ?_)
      refine ⟨q, _, ws, a1, pa1, du1, ro1, rfl, hlB.mono e11, fun hlt d H12 e12 hd => ?_, fun hge H12 e12 => ?_⟩
      · rw [if_pos hlt] at hread
        exact key _ _ hread.symm d H12 (((ExB.of e11).trans e12).old EB (fresh_back (eH.trans eG) hq)) hd
      · rw [if_neg (by omega)] at hread
        have E12 := e11.trans e12
        refine s_asg (ev_fld (ev_var rfl) (E12 _ _ hqB) CI.cl (CI.no _ (by simp)) lineF_room) fun H13 e13 => ?_
        have E13 := E12.trans e13
        refine ⟨ro1, acc ++ [(r, decide (z = "yields"))], zs ++ [.ref tp], _, _, _, _, rfl, EB.trans E13, E13 _ _ hLB, E13 _ _ hpB, hpR, E13 _ _ hRB, hzB.mono E13, hread, ?_, ?_, ?_, ?_⟩
        · unfold rowsBys at hby ⊢
          rw [List.map_append, List.sum_append, List.map_singleton, List.sum_singleton]
          show _ + r.bys + ro1 = 4
          omega
        · rw [List.length_append, List.length_singleton, hal]
        · rw [List.length_append, List.length_singleton, hal]
          omega
        · intro x hx
          rcases List.mem_append.mp hx with hx | hx
          · exact hfit x hx
          · rw [List.mem_singleton.mp hx]
            exact ⟨s1, by show r.parts ≤ 5; omega⟩
    · rintro p σ' H' ⟨ro, acc, zs, a4, a5, a6, a7, rfl, eH, hLv', hpv, hpR, hRv', hzl, hread, hby, hal, ha3, hfit⟩
      rw [List.length_map, List.drop_length] at hread
      have hread : RRes.ok acc = readL ls.dropLast 0 4 [] := hread
      obtain ⟨z, hz1, hz2⟩ := at_last hne
      by_cases hze : z = ""
      · refine q_not (et_is (et_cmp (ev_op (ev_var rfl) (ev_un ev_c ru_neg) (rv_ixL (sq_of hLv') hz2)) ev_c (rv_ne rfl)) (by rw [decide_eq_true (congrArg V.str hze)]; rfl)) fun H2 e2 => ?_
        have hzlen := hzl.len
        refine s_retR (er_calX (er_tupleV (S := fun ys H => RowsL K C_Feast H ys acc) (fun ys H1 H2 e h => RowsL.kn e h) (ev_var rfl) (sq_of (e2 _ _ hRv')) (hzl.mono e2)) ha3 (by omega)) fun pc H3 hpc e3 hC => ?_
        exact kG acc (by rw [hrd]; unfold readS; rw [← hread]; dsimp only; rw [if_pos (by rw [hz1, hze])]) pc H3 (fresh_back (eH.trans e2) hpc) (eH.trans (e2.trans e3)) hC
      · refine q_yes (et_is (et_cmp (ev_op (ev_var rfl) (ev_un ev_c ru_neg) (rv_ixL (sq_of hLv') hz2)) ev_c (rv_ne rfl)) (by rw [decide_eq_false (fun e => hze (V.str.inj e))]; rfl)) fun H2 e2 => ?_
        refine raise2 (ea_cons (ev_is (ev_lenL (ev_var rfl) (sq_of (e2 _ _ hLv'))) (by rw [List.length_map])) (ea_cons ev_c ea_nil)) fun d H3 e3 _ hd => ?_
        exact kB ls.length 1 (by rw [hrd]; unfold readS; rw [← hread]; dsimp only; rw [if_neg (by rw [hz1]; exact fun e => hze (Option.some.inj e))]) d H3 (eH.trans (e2.trans e3)) hd
end
end WF

set_option Elab.async false
set_option linter.all false
set_option maxRecDepth 100000
set_option maxHeartbeats 1000000
/-! write; the law's own lines -/
namespace WF
open PySem L2 Evl
section
variable {K : PySem.W.Frag} {σ : L2.St} {H : Hp} {ta tb te tu : TE} {tA : TA} {t : TT} {xs ys : List V}
theorem ev_join {a : Str} {ys : List Str} (h : EvL tu σ H (ys.map V.str)) (hz : (ys.map (·.length)).sum + ys.length * a.length ≤ 16777216) : Ev (tBM K "str" (rJoin K) (tC (.str a)) (tCons tu tNil)) σ H (.str (Txt.join a ys)) := fun H1 e Q q =>
  ⟨rfl, h H1 e _ fun p H2 hp e2 h2 => ⟨a, p, ys, rfl, rfl, .inl (sq_of h2), hz, q H2 e2⟩⟩
theorem ev_intB {σ : L2.St} {H : Hp} {ta : TE} {b : Bool} (h : Ev ta σ H (.bl b)) : Ev (tCB (fun xs H Q => (∃ i, xs = [.int i] ∧ Q (.int i) H) ∨ ∃ k, xs = [.bl k] ∧ Q (.int (if k then 1 else 0)) H) (tCons ta tNil)) σ H (.int (if b then 1 else 0)) :=
  ev_cb (ea_cons h ea_nil) fun H1 _ Q q => .inr ⟨b, rfl, q H1 (Ex.refl H1)⟩
theorem rv_addS {a b : Str} (h : a.length + b.length ≤ 10000) : RV (fun x y H Q => ∃ i j, x = .str i ∧ y = .str j ∧ i.length + j.length ≤ sizeLine ∧ Q (.str (i ++ j)) H) (.str a) (.str b) H (.str (a ++ b)) := fun H1 _ _ q => ⟨a, b, rfl, rfl, Nat.le_trans h (by decide), q H1 (Ex.refl H1)⟩
theorem ev_begin {b : Bool} (h : EvT t σ H b) : Ev (tIf t (tC (.str "yields")) (tC (.str "plain"))) σ H (.str (beginS b)) := by
  cases b with
  | true => exact ev_ifT h ev_c
  | false => exact ev_ifF h ev_c
theorem line_size {r : Rl × Bool} (hf : r.1.fit = true) (hp : r.1.parts ≤ 5) : ((lineW r).map (·.length)).sum + (lineW r).length * (" " : Str).length ≤ 16777216 := by
  have h1 := lineW_sum hf hp
  have h2 := lineW_len hp
  have h3 : (" " : Str).length = 1 := by decide +kernel
  rw [h3]
  omega
theorem lines_size {rows : Rows} (hf : ∀ r ∈ rows, r.1.fit = true ∧ r.1.parts ≤ 5) (hl : rows.length ≤ 3) : ((rows.map fun r => lineS r ++ "\n").map (·.length)).sum + (rows.map fun r => lineS r ++ "\n").length * ("" : Str).length ≤ 16777216 := by
  have h2 := sum_le (ls := (rows.map fun r => lineS r ++ "\n").map (·.length)) (n := 122) fun x hx => by
    obtain ⟨z, hz, rfl⟩ := List.mem_map.mp hx
    obtain ⟨r, hr, rfl⟩ := List.mem_map.mp hz
    have := line_len (hf r hr).1 (hf r hr).2
    rw [TL.len_tl, TL.tl_append, List.length_append, ← TL.len_tl]
    show (lineS r).length + 1 ≤ 122
    omega
  have h3 : ("" : Str).length = 0 := by decide +kernel
  rw [h3, Nat.mul_zero]
  rw [List.length_map, List.length_map] at h2
  omega
theorem range_rows {α : Type} (g : Rl × Bool → α) (rows : Rows) (d : Rl × Bool) : (List.range rows.length).map (fun i => g (rows.getD i d)) = rows.map g := by
  have := congrArg (List.map g) (rows_eq d rows)
  rw [List.map_map] at this
  exact this
end
section
variable {P : Program} {w : World} {K : PySem.W.Frag} {mg : Str → Option Value} {base : Heap} {C_BadRule C_BadRules C_BadText C_Feast C_Calendar C_Line : Addr} {f : Addr} {fd : FuncData}
theorem lwords_turn (F : Fun K "_law_words" "_law_words" s_l_words f fd) (T : Txt P w K mg C_BadRule C_BadRules C_BadText C_Feast C_Calendar C_Line) (hm : mg "_law_words" = some (.ref f)) (hb : Binds K fd ["_law_rule_here"] []) (n : Nat) (ih : FnOk P w K mg base CX0 (n + 1) f fd ["_law_rule_here"] (spWords K n)) : FnOk P w K mg base CX0 (n + 2) f fd ["_law_rule_here"] (spWords K (n + 1)) := by
  have D_l_words : Dn P w K mg base CX0 "_law_words" (n + 1) ["_law_rule_here"] (spWords K n) := ⟨f, fd, hm, F.kp, ih, hb⟩
  refine F.ok sc_l_words (fun vs H Q E h => ?_) (fun cdv A outer s H vs Q E hr h => ?_)
  · obtain ⟨_, _, rfl, _⟩ := h
    rfl
  · obtain ⟨v, r, rfl, hR, hd, hf, hp5, k⟩ := h
    refine ⟨_, (pss_cons (ps_if (pt_cmpR op_eq (pe_ix ix_tup (pv 0) pe_int (fun _ _ => rfl)) pe_str (nomark _)) (pss_one (ps_ret (pe_op op_cat (pe_lst (pa_cons pe_str (pa_cons (pe_callTy call_str_int (by rfl) T.str (by decide +kernel) (pa_cons (pe_ix ix_tup (pv 0) pe_int (fun _ _ => rfl)) pa_nil)) pa_nil))) (pe_fn D_l_words (hr.mono (by omega)) pass0 rfl (pa_cons (pe_ix ix_tup (pv 0) pe_int (fun _ _ => rfl)) pa_nil)))))
  pss_nil)
  (pss_cons (ps_if (pt_cmpR op_in_seq (pe_ix ix_tup (pv 0) pe_int (fun _ _ => rfl)) (pe_tup (pa_cons pe_str (pa_cons pe_str (pa_cons pe_str pa_nil)))) (by rfl)) (pss_one (ps_ret (pe_op op_cat (pe_op op_cat (pe_lst (pa_cons (pe_ix ix_tup (pv 0) pe_int (fun _ _ => rfl)) pa_nil)) (pe_fn D_l_words (hr.mono (by omega)) pass0 rfl (pa_cons (pe_ix ix_tup (pv 0) pe_int (fun _ _ => rfl)) pa_nil))) (pe_fn D_l_words (hr.mono (by omega)) pass0 rfl (pa_cons (pe_ix ix_tup (pv 0) pe_int (fun _ _ => rfl)) pa_nil)))))
  pss_nil)
  (pss_one (ps_ret (pe_lst (pa_cons (pe_ix ix_tup (pv 0) pe_int (fun _ _ => rfl)) (pa_cons (pe_callTy call_str_int (by rfl) T.str (by decide +kernel) (pa_cons (pe_ix ix_tup (pv 0) pe_int (fun _ _ => rfl)) pa_nil)) pa_nil))))))), ?_⟩
    have inP : ∀ {a : Addr} {z : Str} {zs : List V} {H1 : Hp} {σ : L2.St}, SqT K H1 a (.str z :: zs) → σ[0]? = some (some (.ref a)) → _ := fun {a z zs H1 σ} hT h0 => et_test (ev_inU (K := K) (σ := σ) (H := H1) (xs := pairsV) (ev_ixT (ev_var h0) hT at0) (eu_tup (ea_cons ev_c (ea_cons ev_c (ea_cons ev_c ea_nil))) (by show 3 ≤ 100000; decide)) rfl rfl)
    cases hR with
    | wk hT =>
      rename_i p k0
      have hk := of_decide_eq_true hf
      refine q_not (et_str (ev_ixT (ev_var rfl) hT at0) (by decide +kernel)) fun H1 e1 => ?_
      refine q_not (et_is (inP (ex_t e1 hT) rfl) (by decide +kernel)) fun H2 e2 => ?_
      have E2 := e1.trans e2
      exact s_retL (el_is (el_lst (ea_cons (ev_ixT (ev_var rfl) (ex_t E2 hT) at0) (ea_cons (ev_strI (ev_ixT (ev_var rfl) (ex_t E2 hT) rfl) (by omega)) ea_nil)) (by show 2 ≤ 100000; decide)) rfl) fun p H3 hp e3 h3 => k p H3 (fresh_back E2 hp) (E2.trans e3) h3
    | fs hT =>
      rename_i p k0
      have hk := of_decide_eq_true hf
      refine q_not (et_str (ev_ixT (ev_var rfl) hT at0) (by decide +kernel)) fun H1 e1 => ?_
      refine q_not (et_is (inP (ex_t e1 hT) rfl) (by decide +kernel)) fun H2 e2 => ?_
      have E2 := e1.trans e2
      exact s_retL (el_is (el_lst (ea_cons (ev_ixT (ev_var rfl) (ex_t E2 hT) at0) (ea_cons (ev_strI (ev_ixT (ev_var rfl) (ex_t E2 hT) rfl) (by omega)) ea_nil)) (by show 2 ≤ 100000; decide)) rfl) fun p H3 hp e3 h3 => k p H3 (fresh_back E2 hp) (E2.trans e3) h3
    | md hT =>
      rename_i p k0
      have hk := of_decide_eq_true hf
      refine q_not (et_str (ev_ixT (ev_var rfl) hT at0) (by decide +kernel)) fun H1 e1 => ?_
      refine q_not (et_is (inP (ex_t e1 hT) rfl) (by decide +kernel)) fun H2 e2 => ?_
      have E2 := e1.trans e2
      exact s_retL (el_is (el_lst (ea_cons (ev_ixT (ev_var rfl) (ex_t E2 hT) at0) (ea_cons (ev_strI (ev_ixT (ev_var rfl) (ex_t E2 hT) rfl) (by omega)) ea_nil)) (by show 2 ≤ 100000; decide)) rfl) fun p H3 hp e3 h3 => k p H3 (fresh_back E2 hp) (E2.trans e3) h3
    | bh hT hr1 =>
      rename_i p u r b
      simp only [Rl.fit, Bool.and_eq_true] at hf
      have hb := of_decide_eq_true hf.1
      have hl := words_len r
      simp only [Rl.dep] at hd
      simp only [Rl.parts] at hp5
      refine q_yes (et_str (ev_ixT (ev_var rfl) hT at0) (by decide +kernel)) fun H1 e1 => ?_
      exact s_retL (el_is (el_cat (el_lst (ea_cons ev_c (ea_cons (ev_strI (ev_ixT (ev_var rfl) (ex_t e1 hT) rfl) (by omega)) ea_nil)) (by show 2 ≤ 100000; decide)) (el_words (ea_cons (ev_ixT (ev_var rfl) (ex_t e1 hT) rfl) ea_nil) (hr1.mono e1) (by omega) hf.2 (by omega)) (by simp only [List.length_cons, List.length_map, List.length_nil]; omega)) (by simp [wordsR])) fun p H3 hp e3 h3 => k p H3 (fresh_back e1 hp) (e1.trans e3) h3
    | bo hT hr1 hr2 =>
      rename_i p u v x y
      simp only [Rl.fit, Bool.and_eq_true] at hf
      simp only [Rl.dep] at hd
      simp only [Rl.parts] at hp5
      have hl1 := words_len x
      have hl2 := words_len y
      refine q_not (et_str (ev_ixT (ev_var rfl) hT at0) (by decide +kernel)) fun H1 e1 => ?_
      refine q_yes (et_is (inP (ex_t e1 hT) rfl) (by decide +kernel)) fun H2 e2 => ?_
      have E2 := e1.trans e2
      exact s_retL (el_is (el_cat (el_cat (el_lst (ea_cons (ev_ixT (ev_var rfl) (ex_t E2 hT) at0) ea_nil) (by show 1 ≤ 100000; decide)) (el_words (ea_cons (ev_ixT (ev_var rfl) (ex_t E2 hT) rfl) ea_nil) (hr1.mono E2) (by omega) hf.1 (by omega)) (by simp only [List.length_cons, List.length_map, List.length_nil]; omega)) (el_words (ea_cons (ev_ixT (ev_var rfl) (ex_t E2 hT) rfl) ea_nil) (hr2.mono E2) (by omega) hf.2 (by omega)) (by simp only [List.length_cons, List.length_append, List.length_map, List.length_nil]; omega)) (by simp [wordsR])) fun p H3 hp e3 h3 => k p H3 (fresh_back E2 hp) (E2.trans e3) h3
    | ei hT hr1 hr2 =>
      rename_i p u v x y
      simp only [Rl.fit, Bool.and_eq_true] at hf
      simp only [Rl.dep] at hd
      simp only [Rl.parts] at hp5
      have hl1 := words_len x
      have hl2 := words_len y
      refine q_not (et_str (ev_ixT (ev_var rfl) hT at0) (by decide +kernel)) fun H1 e1 => ?_
      refine q_yes (et_is (inP (ex_t e1 hT) rfl) (by decide +kernel)) fun H2 e2 => ?_
      have E2 := e1.trans e2
      exact s_retL (el_is (el_cat (el_cat (el_lst (ea_cons (ev_ixT (ev_var rfl) (ex_t E2 hT) at0) ea_nil) (by show 1 ≤ 100000; decide)) (el_words (ea_cons (ev_ixT (ev_var rfl) (ex_t E2 hT) rfl) ea_nil) (hr1.mono E2) (by omega) hf.1 (by omega)) (by simp only [List.length_cons, List.length_map, List.length_nil]; omega)) (el_words (ea_cons (ev_ixT (ev_var rfl) (ex_t E2 hT) rfl) ea_nil) (hr2.mono E2) (by omega) hf.2 (by omega)) (by simp only [List.length_cons, List.length_append, List.length_map, List.length_nil]; omega)) (by simp [wordsR])) fun p H3 hp e3 h3 => k p H3 (fresh_back E2 hp) (E2.trans e3) h3
    | wo hT hr1 hr2 =>
      rename_i p u v x y
      simp only [Rl.fit, Bool.and_eq_true] at hf
      simp only [Rl.dep] at hd
      simp only [Rl.parts] at hp5
      have hl1 := words_len x
      have hl2 := words_len y
      refine q_not (et_str (ev_ixT (ev_var rfl) hT at0) (by decide +kernel)) fun H1 e1 => ?_
      refine q_yes (et_is (inP (ex_t e1 hT) rfl) (by decide +kernel)) fun H2 e2 => ?_
      have E2 := e1.trans e2
      exact s_retL (el_is (el_cat (el_cat (el_lst (ea_cons (ev_ixT (ev_var rfl) (ex_t E2 hT) at0) ea_nil) (by show 1 ≤ 100000; decide)) (el_words (ea_cons (ev_ixT (ev_var rfl) (ex_t E2 hT) rfl) ea_nil) (hr1.mono E2) (by omega) hf.1 (by omega)) (by simp only [List.length_cons, List.length_map, List.length_nil]; omega)) (el_words (ea_cons (ev_ixT (ev_var rfl) (ex_t E2 hT) rfl) ea_nil) (hr2.mono E2) (by omega) hf.2 (by omega)) (by simp only [List.length_cons, List.length_append, List.length_map, List.length_nil]; omega)) (by simp [wordsR])) fun p H3 hp e3 h3 => k p H3 (fresh_back E2 hp) (E2.trans e3) h3
theorem ok_lwords (F : Fun K "_law_words" "_law_words" s_l_words f fd) (T : Txt P w K mg C_BadRule C_BadRules C_BadText C_Feast C_Calendar C_Line) (hm : mg "_law_words" = some (.ref f)) (hb : Binds K fd ["_law_rule_here"] []) : ∀ n : Nat, FnOk P w K mg base CX0 (n + 1) f fd ["_law_rule_here"] (spWords K n)
  | 0 => fnok_none fun _ _ _ _ ⟨_, _, _, _, h, _⟩ => absurd h (Nat.not_lt_zero _)
  | n + 1 => lwords_turn F T hm hb n (ok_lwords F T hm hb n)
theorem dn_lwords (T : Txt P w K mg C_BadRule C_BadRules C_BadText C_Feast C_Calendar C_Line) (n : Nat) : Dn P w K mg base CX0 "_law_words" (n + 1) ["_law_rule_here"] (spWords K n) := T.f_l_words.dn fun _ _ F hm hb => ok_lwords F T hm hb n
def spLines (K : PySem.W.Frag) : Sp := fun vs H Q _ => ∃ (l : Addr) (ys : List V) (rows : Rows), vs = [.ref l] ∧ SqL K H l ys ∧ RawL K H ys rows ∧ (∀ r ∈ rows, r.1.fit = true ∧ r.1.parts ≤ 5) ∧ rows.length ≤ 3 ∧ RetL ((rows.map lineS).map V.str) H Q
theorem ok_lines (F : Fun K "_law_lines" "_law_lines" s_l_lines f fd) (T : Txt P w K mg C_BadRule C_BadRules C_BadText C_Feast C_Calendar C_Line) : FnOk P w K mg base CX0 8 f fd ["_law_rows_here"] (spLines K) := by
  have D_l_words : Dn P w K mg base CX0 "_law_words" 6 ["_law_rule_here"] (spWords K 5) := dn_lwords T 5
  refine F.ok sc_l_lines (fun vs H Q E h => ?_) (fun cdv A outer s H vs Q E hr h => ?_)
  · obtain ⟨_, _, _, rfl, _⟩ := h
    rfl
  · obtain ⟨l, ys, rows, rfl, hS, hraw, hok, hl, k⟩ := h
    obtain ⟨qf, hqf⟩ := hraw.fn (.wk 0, false)
    have hyl := hraw.len
    refine ⟨_, (pss_one (ps_ret (pe_lc (own := [("_law_rule_here", 1), ("_law_yields", 2)]) (tt := tYes) rfl sc_l_lines.nd (pi_list (pv 0)) (blkOk_by (own := [("_law_rule_here", 1), ("_law_yields", 2)]) (N := ["_law_rows_here", "_law_rule_here", "_law_yields"]) (sc := defScope s_l_lines) (by decide +kernel)) (fun _ _ _ _ _ => (pg_tupK (K := K) (n := 2) rfl (pgs_cons (pg_name (i := 1) sc_l_lines.nd rfl (by first | exact Or.inl rfl | exact Or.inr rfl)) (pgs_cons (pg_name (i := 2) sc_l_lines.nd rfl (by first | exact Or.inl rfl | exact Or.inr rfl)) pgs_nil)))) (fun _ _ _ _ _ => pts_nil) (fun _ _ _ _ _ => (pe_joinK (K := K) pe_str (pa_cons (pe_op op_cat (pe_lst (pa_cons (pe_ix (ix_listK (K := K)) (pe_lst (pa_cons pe_str (pa_cons pe_str pa_nil))) (pe_callTy call_int1 (by rfl) T.int (by decide +kernel) (pa_cons (pv 2) pa_nil)) (fun _ _ => rfl)) pa_nil)) (pe_fn D_l_words (hr.mono (by omega)) pass0 rfl (pa_cons (pv 1) pa_nil))) pa_nil)))))), ?_⟩
    refine s_retL (el_is (el_lst2 qf (fun i => .bl (rows.getD i (.wk 0, false)).2) (fun _ => true) (fun i => .str (lineS (rows.getD i (.wk 0, false)))) (ev_var rfl) hS (by omega) (fun _ _ => rfl) (fun i x hi => ?_) (fun _ _ _ _ => et_yes) (fun i H1 e1 hi _ => ?_)) (show _ = (rows.map lineS).map V.str from ?_)) fun p H1 hp e1 h1 => k p H1 hp e1 h1
    · obtain ⟨p', h0, h1, _⟩ := hqf i x hi
      exact ⟨p', h0, h1⟩
    · obtain ⟨x, hx⟩ : ∃ x, ys[i]? = some x := ⟨ys[i], by simp [hi]⟩
      obtain ⟨p', h0, h1, hrl⟩ := hqf i x hx
      have hmem := getD_mem (d := ((.wk 0, false) : Rl × Bool)) (show i < rows.length by omega)
      obtain ⟨hf, hp⟩ := hok _ hmem
      have hd := dep_parts (rows.getD i (.wk 0, false)).1
      have hwl := words_len (rows.getD i (.wk 0, false)).1
      refine ev_join (ys := lineW (rows.getD i (.wk 0, false))) (el_is (el_cat (el_lst (vs := [.str (beginS (rows.getD i (.wk 0, false)).2)]) (ea_cons (ev_opL1 (el_lst (vs := [.str "plain", .str "yields"]) (ea_cons ev_c (ea_cons ev_c ea_nil)) (by show 2 ≤ 100000; decide)) (fun _ _ => ev_intB (ev_var rfl)) fun q H3 hq _ => rv_ixL (sq_of hq) ?_) ea_nil) (by show 1 ≤ 100000; decide)) (el_words (ea_cons (ev_var rfl) ea_nil) (hrl.mono e1) (by omega) hf (by omega)) (by simp only [List.length_cons, List.length_map, List.length_nil]; omega)) (by simp [lineW])) (line_size hf hp)
      cases (rows.getD i (.wk 0, false)).2 <;> rfl
    · rw [given_allL, hyl, List.map_map]
      exact range_rows (fun r => V.str (lineS r)) rows _
theorem dn_lines (T : Txt P w K mg C_BadRule C_BadRules C_BadText C_Feast C_Calendar C_Line) : Dn P w K mg base CX0 "_law_lines" 8 ["_law_rows_here"] (spLines K) := T.f_l_lines.dn fun _ _ F _ _ => ok_lines F T
end
end WF

set_option Elab.async false
set_option linter.all false
set_option maxRecDepth 100000
set_option maxHeartbeats 1000000
/-! the law's equal -/
namespace WF
open PySem L2 Evl
section
variable {P : Program} {w : World} {K : PySem.W.Frag} {mg : Str → Option Value} {base : Heap} {C_BadRule C_BadRules C_BadText C_Feast C_Calendar C_Line : Addr} {f : Addr} {fd : FuncData}
/-- two values that the law holds for equal -/
inductive EqV : V → V → Prop where
  | bl (b : Bool) : EqV (.bl b) (.bl b)
  | int (i : Int) : EqV (.int i) (.int i)
def spEqual : Sp := fun vs H Q _ => ∃ x y, vs = [x, y] ∧ EqV x y ∧ RetV (.bl true) H Q
theorem ok_lequal (F : Fun K "_law_equal" "_law_equal" s_l_equal f fd) (T : Txt P w K mg C_BadRule C_BadRules C_BadText C_Feast C_Calendar C_Line) (hm : mg "_law_equal" = some (.ref f)) (hb : Binds K fd ["_law_actual", "_law_expected"] []) : FnOk P w K mg base CX0 2 f fd ["_law_actual", "_law_expected"] spEqual := by
  have D_l_equal : Dn P w K mg base CX0 "_law_equal" 1 ["_law_actual", "_law_expected"] (fun _ _ _ _ => False) := ⟨f, fd, hm, F.kp, fnok_none (fun _ _ _ _ h => h), hb⟩
  refine F.ok sc_l_equal (fun vs H Q E h => ?_) (fun cdv A outer s H vs Q E hr h => ?_)
  · obtain ⟨_, _, rfl, _⟩ := h
    rfl
  · obtain ⟨x, y, rfl, hE, k⟩ := h
    have hr1 : Room 1 _ := hr.mono (by omega)
    refine ⟨_, (pss_cons (ps_if (pt_cmpR op_isN (pv 1) pe_non (nomark _)) (pss_one (ps_ret (pe_cmpR op_isN (pv 0) pe_non (nomark _))))
  pss_nil)
  (pss_cons (ps_if (pt_val (pe_callB call_isi (by rfl) T.isinstance (by decide +kernel) (pa_cons (pv 1) (pa_cons (pe_bltn (v := .ty "bool") (by rfl) T.bool (by decide +kernel) rfl) pa_nil)))) (pss_one (ps_ret (pe_and (pe_callB call_isi (by rfl) T.isinstance (by decide +kernel) (pa_cons (pv 0) (pa_cons (pe_bltn (v := .ty "bool") (by rfl) T.bool (by decide +kernel) rfl) pa_nil))) (pe_one (pe_cmpR op_eq (pv 0) (pv 1) (nomark _))))))
  pss_nil)
  (pss_cons (ps_if (pt_val (pe_callB call_isi (by rfl) T.isinstance (by decide +kernel) (pa_cons (pv 1) (pa_cons (pe_bltn (v := .ty "int") (by rfl) T.int (by decide +kernel) rfl) pa_nil)))) (pss_one (ps_ret (pe_and (pe_callB call_isi (by rfl) T.isinstance (by decide +kernel) (pa_cons (pv 0) (pa_cons (pe_bltn (v := .ty "int") (by rfl) T.int (by decide +kernel) rfl) pa_nil))) (pe_and (pe_not (pe_callB call_isi (by rfl) T.isinstance (by decide +kernel) (pa_cons (pv 0) (pa_cons (pe_bltn (v := .ty "bool") (by rfl) T.bool (by decide +kernel) rfl) pa_nil)))) (pe_one (pe_cmpR op_eq (pv 0) (pv 1) (nomark _)))))))
  pss_nil)
  (pss_cons (ps_if (pt_val (pe_callB call_isi (by rfl) T.isinstance (by decide +kernel) (pa_cons (pv 1) (pa_cons (pe_bltn (v := .ty "str") (by rfl) T.str (by decide +kernel) rfl) pa_nil)))) (pss_one (ps_ret (pe_and (pe_callB call_isi (by rfl) T.isinstance (by decide +kernel) (pa_cons (pv 0) (pa_cons (pe_bltn (v := .ty "str") (by rfl) T.str (by decide +kernel) rfl) pa_nil))) (pe_one (pe_cmpR op_eq (pv 0) (pv 1) (nomark _))))))
  pss_nil)
  (pss_cons (ps_if (pt_val (pe_callB call_isi (by rfl) T.isinstance (by decide +kernel) (pa_cons (pv 1) (pa_cons (pe_bltn (v := .ty "dict") (by rfl) T.dict (by decide +kernel) rfl) pa_nil)))) (pss_cons (ps_if (PW.pt (pw_or (pt_not (pt_val (pe_callB call_isi (by rfl) T.isinstance (by decide +kernel) (pa_cons (pv 0) (pa_cons (pe_bltn (v := .ty "dict") (by rfl) T.dict (by decide +kernel) rfl) pa_nil))))) (pw_or1 (pt_cmpR (op_neD hr1.units) (pe_callTy call_list_of (by rfl) T.list (by decide +kernel) (pa_cons (pv 0) pa_nil)) (pe_callB cr_sorted (by rfl) T.sorted (by decide +kernel) (pa_cons (pe_callTy call_list_of (by rfl) T.list (by decide +kernel) (pa_cons (pv 1) pa_nil)) pa_nil)) (nomark _))))) (pss_one (ps_ret pe_bl))
  pss_nil)
  (pss_one (ps_ret (pe_callB (cr_all rfl) (by rfl) T.all (by decide +kernel) (pa_cons (pe_lc (own := [("_law_key", 2)]) (g := gName 2) (tt := tYes) rfl sc_l_equal.nd (pi_list (pe_callTy call_list_of (by rfl) T.list (by decide +kernel) (pa_cons (pv 0) pa_nil))) (blkOk_by (own := [("_law_key", 2)]) (N := ["_law_actual", "_law_expected", "_law_key", "_law_k"]) (sc := defScope s_l_equal) (by decide +kernel)) (fun _ _ _ _ _ => (pg_name (i := 2) sc_l_equal.nd rfl (by first | exact Or.inl rfl | exact Or.inr rfl))) (fun _ _ _ _ _ => pts_nil) (fun _ _ _ _ _ => (pe_fn D_l_equal (hr.mono (by omega)) pass0 rfl (pa_cons (pe_ix (ix_seqK (K := K)) (pv 0) (pv 2) (fun _ _ => rfl)) (pa_cons (pe_ix (ix_seqK (K := K)) (pv 1) (pv 2) (fun _ _ => rfl)) pa_nil))))) pa_nil)))))
  pss_nil)
  (pss_cons (ps_if (pt_cmpR op_ne (pe_callB call_isi (by rfl) T.isinstance (by decide +kernel) (pa_cons (pv 1) (pa_cons (pe_bltn (v := .ty "tuple") (by rfl) T.tuple (by decide +kernel) rfl) pa_nil))) (pe_callB call_isi (by rfl) T.isinstance (by decide +kernel) (pa_cons (pv 0) (pa_cons (pe_bltn (v := .ty "tuple") (by rfl) T.tuple (by decide +kernel) rfl) pa_nil))) (nomark _)) (pss_one (ps_ret pe_bl))
  pss_nil)
  (pss_cons (ps_if (pt_cmpR op_ne (pe_callB call_isi (by rfl) T.isinstance (by decide +kernel) (pa_cons (pv 1) (pa_cons (pe_bltn (v := .ty "list") (by rfl) T.list (by decide +kernel) rfl) pa_nil))) (pe_callB call_isi (by rfl) T.isinstance (by decide +kernel) (pa_cons (pv 0) (pa_cons (pe_bltn (v := .ty "list") (by rfl) T.list (by decide +kernel) rfl) pa_nil))) (nomark _)) (pss_one (ps_ret pe_bl))
  pss_nil)
  (pss_cons (ps_if (pt_cmpR op_ne (pe_callB call_len_seq (by rfl) T.len (by decide +kernel) (pa_cons (pv 0) pa_nil)) (pe_callB call_len_seq (by rfl) T.len (by decide +kernel) (pa_cons (pv 1) pa_nil)) (nomark _)) (pss_one (ps_ret pe_bl))
  pss_nil)
  (pss_one (ps_ret (pe_callB (cr_all rfl) (by rfl) T.all (by decide +kernel) (pa_cons (pe_lc (own := [("_law_k", 3)]) (g := gName 3) (tt := tYes) rfl sc_l_equal.nd (pi_range1 (by rfl) T.range (pa_cons (pe_callB call_len_seq (by rfl) T.len (by decide +kernel) (pa_cons (pv 1) pa_nil)) pa_nil)) (blkOk_by (own := [("_law_k", 3)]) (N := ["_law_actual", "_law_expected", "_law_key", "_law_k"]) (sc := defScope s_l_equal) (by decide +kernel)) (fun _ _ _ _ _ => (pg_name (i := 3) sc_l_equal.nd rfl (by first | exact Or.inl rfl | exact Or.inr rfl))) (fun _ _ _ _ _ => pts_nil) (fun _ _ _ _ _ => (pe_fn D_l_equal (hr.mono (by omega)) pass0 rfl (pa_cons (pe_ix (ix_seqK (K := K)) (pv 0) (pv 3) (fun _ _ => rfl)) (pa_cons (pe_ix (ix_seqK (K := K)) (pv 1) (pv 3) (fun _ _ => rfl)) pa_nil))))) pa_nil)))))))))))), ?_⟩
    cases hE with
    | bl b =>
      refine q_not (et_is (et_test (ev_op (ev_var rfl) ev_c rv_isN)) rfl) fun H1 e1 => ?_
      refine q_yes (et_B (ev_isi (b := true) (ev_var rfl) (ty_bl b) (kit_ty (a := "bool") (by decide +kernel)))) fun H2 e2 => ?_
      refine s_ret (ev_is (ev_andV (ev_isi (b := true) (ev_var rfl) (ty_bl b) (kit_ty (a := "bool") (by decide +kernel))) fun _ => ev_op (ev_var rfl) (ev_var rfl) (rv_eq rfl)) ?_) fun H3 e3 => k H3 ((e1.trans e2).trans e3)
      rw [decide_eq_true rfl]; rfl
    | int i =>
      refine q_not (et_is (et_test (ev_op (ev_var rfl) ev_c rv_isN)) rfl) fun H1 e1 => ?_
      refine q_not (et_B (ev_isi (ev_var rfl) (ty_int i) kit_ib)) fun H2 e2 => ?_
      refine q_yes (et_B (ev_isi (ev_var rfl) (ty_int i) kit_ii)) fun H3 e3 => ?_
      refine s_ret (ev_is (ev_andV (ev_isi (ev_var rfl) (ty_int i) kit_ii) fun _ => ev_andV (ev_notV (ev_isi (ev_var rfl) (ty_int i) kit_ib)) fun _ => ev_op (ev_var rfl) (ev_var rfl) (rv_eq rfl)) ?_) fun H4 e4 => k H4 (((e1.trans e2).trans e3).trans e4)
      rw [decide_eq_true rfl]; rfl
theorem dn_lequal (T : Txt P w K mg C_BadRule C_BadRules C_BadText C_Feast C_Calendar C_Line) : Dn P w K mg base CX0 "_law_equal" 2 ["_law_actual", "_law_expected"] spEqual := T.f_l_equal.dn fun _ _ F hm hb => ok_lequal F T hm hb
end
end WF

set_option Elab.async false
set_option linter.all false
set_option maxRecDepth 100000
set_option maxHeartbeats 1000000
/-! the law's equal, of lists and tuples too -/
namespace WF
open PySem L2 Evl
section
variable {P : Program} {w : World} {K : PySem.W.Frag} {mg : Str → Option Value} {base : Heap} {C_BadRule C_BadRules C_BadText C_Feast C_Calendar C_Line : Addr} {f : Addr} {fd : FuncData}
inductive EqB : V → V → Prop where
  | bl (b : Bool) : EqB (.bl b) (.bl b)
  | int (i : Int) : EqB (.int i) (.int i)
  | str (s : Str) : EqB (.str s) (.str s)
  | non : EqB .non .non
/-- both are lists, or both tuples -/
def SameSq (K : PySem.W.Frag) (H : Hp) (a b : Addr) (xs ys : List V) : Prop := (SqL K H a xs ∧ SqL K H b ys) ∨ (SqT K H a xs ∧ SqT K H b ys)
def EqAt (K : PySem.W.Frag) (H : Hp) : Nat → V → V → Prop
  | 0, _, _ => False
  | n + 1, x, y => EqB x y ∨ ∃ a b xs ys, x = .ref a ∧ y = .ref b ∧ SameSq K H a b xs ys ∧ xs.length = ys.length ∧ xs.length ≤ 40000 ∧ ∀ (i : Nat) x y, xs[i]? = some x → ys[i]? = some y → EqAt K H n x y
theorem EqAt.mono {H H' : Hp} (e : Ex H H') : ∀ {n : Nat} {x y : V}, EqAt K H n x y → EqAt K H' n x y
  | 0, _, _, h => h.elim
  | n + 1, x, y, h => by
    rcases h with h | ⟨a, b, xs, ys, h1, h2, h3, h4, h5, h6⟩
    · exact .inl h
    · exact .inr ⟨a, b, xs, ys, h1, h2, h3.imp (fun h => ⟨ex_l e h.1, ex_l e h.2⟩) (fun h => ⟨ex_t e h.1, ex_t e h.2⟩), h4, h5, fun i x y hx hy => EqAt.mono e (h6 i x y hx hy)⟩
def spEqualN (K : PySem.W.Frag) (n : Nat) : Sp := fun vs H Q _ => ∃ x y, vs = [x, y] ∧ EqAt K H n x y ∧ RetV (.bl true) H Q
theorem rv_ixQ {H : Hp} {a : Addr} {xs : List V} {i : Nat} {v : V} (h : SqL K H a xs ∨ SqT K H a xs) (hi : xs[i]? = some v) : RV (rIx K) (.ref a) (.int (i : Int)) H v := fun H1 e Q q =>
  h.elim (fun h => .inl ⟨a, xs, i, v, rfl, rfl, ex_l e h, atI_nat hi, q H1 (Ex.refl H1)⟩) (fun h => .inr (.inl ⟨a, xs, i, v, rfl, rfl, ex_t e h, atI_nat hi, q H1 (Ex.refl H1)⟩))
theorem lequal_turn (F : Fun K "_law_equal" "_law_equal" s_l_equal f fd) (T : Txt P w K mg C_BadRule C_BadRules C_BadText C_Feast C_Calendar C_Line) (hm : mg "_law_equal" = some (.ref f)) (hb : Binds K fd ["_law_actual", "_law_expected"] []) (n : Nat) (ih : FnOk P w K mg base CX0 (n + 1) f fd ["_law_actual", "_law_expected"] (spEqualN K n)) : FnOk P w K mg base CX0 (n + 2) f fd ["_law_actual", "_law_expected"] (spEqualN K (n + 1)) := by
  have D_l_equal : Dn P w K mg base CX0 "_law_equal" (n + 1) ["_law_actual", "_law_expected"] (spEqualN K n) := ⟨f, fd, hm, F.kp, ih, hb⟩
  refine F.ok sc_l_equal (fun vs H Q E h => ?_) (fun cdv A outer s H vs Q E hr h => ?_)
  · obtain ⟨_, _, rfl, _⟩ := h
    rfl
  · obtain ⟨x, y, rfl, hE, k⟩ := h
    have hr1 : Room 1 _ := hr.mono (by omega)
    refine ⟨_, (pss_cons (ps_if (pt_cmpR op_isN (pv 1) pe_non (nomark _)) (pss_one (ps_ret (pe_cmpR op_isN (pv 0) pe_non (nomark _))))
  pss_nil)
  (pss_cons (ps_if (pt_val (pe_callB call_isi (by rfl) T.isinstance (by decide +kernel) (pa_cons (pv 1) (pa_cons (pe_bltn (v := .ty "bool") (by rfl) T.bool (by decide +kernel) rfl) pa_nil)))) (pss_one (ps_ret (pe_and (pe_callB call_isi (by rfl) T.isinstance (by decide +kernel) (pa_cons (pv 0) (pa_cons (pe_bltn (v := .ty "bool") (by rfl) T.bool (by decide +kernel) rfl) pa_nil))) (pe_one (pe_cmpR op_eq (pv 0) (pv 1) (nomark _))))))
  pss_nil)
  (pss_cons (ps_if (pt_val (pe_callB call_isi (by rfl) T.isinstance (by decide +kernel) (pa_cons (pv 1) (pa_cons (pe_bltn (v := .ty "int") (by rfl) T.int (by decide +kernel) rfl) pa_nil)))) (pss_one (ps_ret (pe_and (pe_callB call_isi (by rfl) T.isinstance (by decide +kernel) (pa_cons (pv 0) (pa_cons (pe_bltn (v := .ty "int") (by rfl) T.int (by decide +kernel) rfl) pa_nil))) (pe_and (pe_not (pe_callB call_isi (by rfl) T.isinstance (by decide +kernel) (pa_cons (pv 0) (pa_cons (pe_bltn (v := .ty "bool") (by rfl) T.bool (by decide +kernel) rfl) pa_nil)))) (pe_one (pe_cmpR op_eq (pv 0) (pv 1) (nomark _)))))))
  pss_nil)
  (pss_cons (ps_if (pt_val (pe_callB call_isi (by rfl) T.isinstance (by decide +kernel) (pa_cons (pv 1) (pa_cons (pe_bltn (v := .ty "str") (by rfl) T.str (by decide +kernel) rfl) pa_nil)))) (pss_one (ps_ret (pe_and (pe_callB call_isi (by rfl) T.isinstance (by decide +kernel) (pa_cons (pv 0) (pa_cons (pe_bltn (v := .ty "str") (by rfl) T.str (by decide +kernel) rfl) pa_nil))) (pe_one (pe_cmpR op_eq (pv 0) (pv 1) (nomark _))))))
  pss_nil)
  (pss_cons (ps_if (pt_val (pe_callB call_isi (by rfl) T.isinstance (by decide +kernel) (pa_cons (pv 1) (pa_cons (pe_bltn (v := .ty "dict") (by rfl) T.dict (by decide +kernel) rfl) pa_nil)))) (pss_cons (ps_if (PW.pt (pw_or (pt_not (pt_val (pe_callB call_isi (by rfl) T.isinstance (by decide +kernel) (pa_cons (pv 0) (pa_cons (pe_bltn (v := .ty "dict") (by rfl) T.dict (by decide +kernel) rfl) pa_nil))))) (pw_or1 (pt_cmpR (op_neD hr1.units) (pe_callTy call_list_of (by rfl) T.list (by decide +kernel) (pa_cons (pv 0) pa_nil)) (pe_callB cr_sorted (by rfl) T.sorted (by decide +kernel) (pa_cons (pe_callTy call_list_of (by rfl) T.list (by decide +kernel) (pa_cons (pv 1) pa_nil)) pa_nil)) (nomark _))))) (pss_one (ps_ret pe_bl))
  pss_nil)
  (pss_one (ps_ret (pe_callB (cr_all rfl) (by rfl) T.all (by decide +kernel) (pa_cons (pe_lc (own := [("_law_key", 2)]) (g := gName 2) (tt := tYes) rfl sc_l_equal.nd (pi_list (pe_callTy call_list_of (by rfl) T.list (by decide +kernel) (pa_cons (pv 0) pa_nil))) (blkOk_by (own := [("_law_key", 2)]) (N := ["_law_actual", "_law_expected", "_law_key", "_law_k"]) (sc := defScope s_l_equal) (by decide +kernel)) (fun _ _ _ _ _ => (pg_name (i := 2) sc_l_equal.nd rfl (by first | exact Or.inl rfl | exact Or.inr rfl))) (fun _ _ _ _ _ => pts_nil) (fun _ _ _ _ _ => (pe_fn D_l_equal (hr.mono (by omega)) pass0 rfl (pa_cons (pe_ix (ix_seqK (K := K)) (pv 0) (pv 2) (fun _ _ => rfl)) (pa_cons (pe_ix (ix_seqK (K := K)) (pv 1) (pv 2) (fun _ _ => rfl)) pa_nil))))) pa_nil)))))
  pss_nil)
  (pss_cons (ps_if (pt_cmpR op_ne (pe_callB call_isi (by rfl) T.isinstance (by decide +kernel) (pa_cons (pv 1) (pa_cons (pe_bltn (v := .ty "tuple") (by rfl) T.tuple (by decide +kernel) rfl) pa_nil))) (pe_callB call_isi (by rfl) T.isinstance (by decide +kernel) (pa_cons (pv 0) (pa_cons (pe_bltn (v := .ty "tuple") (by rfl) T.tuple (by decide +kernel) rfl) pa_nil))) (nomark _)) (pss_one (ps_ret pe_bl))
  pss_nil)
  (pss_cons (ps_if (pt_cmpR op_ne (pe_callB call_isi (by rfl) T.isinstance (by decide +kernel) (pa_cons (pv 1) (pa_cons (pe_bltn (v := .ty "list") (by rfl) T.list (by decide +kernel) rfl) pa_nil))) (pe_callB call_isi (by rfl) T.isinstance (by decide +kernel) (pa_cons (pv 0) (pa_cons (pe_bltn (v := .ty "list") (by rfl) T.list (by decide +kernel) rfl) pa_nil))) (nomark _)) (pss_one (ps_ret pe_bl))
  pss_nil)
  (pss_cons (ps_if (pt_cmpR op_ne (pe_callB call_len_seq (by rfl) T.len (by decide +kernel) (pa_cons (pv 0) pa_nil)) (pe_callB call_len_seq (by rfl) T.len (by decide +kernel) (pa_cons (pv 1) pa_nil)) (nomark _)) (pss_one (ps_ret pe_bl))
  pss_nil)
  (pss_one (ps_ret (pe_callB (cr_all rfl) (by rfl) T.all (by decide +kernel) (pa_cons (pe_lc (own := [("_law_k", 3)]) (g := gName 3) (tt := tYes) rfl sc_l_equal.nd (pi_range1 (by rfl) T.range (pa_cons (pe_callB call_len_seq (by rfl) T.len (by decide +kernel) (pa_cons (pv 1) pa_nil)) pa_nil)) (blkOk_by (own := [("_law_k", 3)]) (N := ["_law_actual", "_law_expected", "_law_key", "_law_k"]) (sc := defScope s_l_equal) (by decide +kernel)) (fun _ _ _ _ _ => (pg_name (i := 3) sc_l_equal.nd rfl (by first | exact Or.inl rfl | exact Or.inr rfl))) (fun _ _ _ _ _ => pts_nil) (fun _ _ _ _ _ => (pe_fn D_l_equal (hr.mono (by omega)) pass0 rfl (pa_cons (pe_ix (ix_seqK (K := K)) (pv 0) (pv 3) (fun _ _ => rfl)) (pa_cons (pe_ix (ix_seqK (K := K)) (pv 1) (pv 3) (fun _ _ => rfl)) pa_nil))))) pa_nil)))))))))))), ?_⟩
    rcases hE with hE | ⟨a, b, xs, ys, rfl, rfl, hS, hl, hz, hi⟩
    · cases hE with
      | bl b =>
        refine q_not (et_is (et_test (ev_op (ev_var rfl) ev_c rv_isN)) rfl) fun H1 e1 => ?_
        refine q_yes (et_B (ev_isi (b := true) (ev_var rfl) (ty_bl b) (kit_ty (a := "bool") (by decide +kernel)))) fun H2 e2 => ?_
        refine s_ret (ev_is (ev_andV (ev_isi (b := true) (ev_var rfl) (ty_bl b) (kit_ty (a := "bool") (by decide +kernel))) fun _ => ev_op (ev_var rfl) (ev_var rfl) (rv_eq rfl)) ?_) fun H3 e3 => k H3 ((e1.trans e2).trans e3)
        rw [decide_eq_true rfl]; rfl
      | int i =>
        refine q_not (et_is (et_test (ev_op (ev_var rfl) ev_c rv_isN)) rfl) fun H1 e1 => ?_
        refine q_not (et_B (ev_isi (ev_var rfl) (ty_int i) kit_ib)) fun H2 e2 => ?_
        refine q_yes (et_B (ev_isi (ev_var rfl) (ty_int i) kit_ii)) fun H3 e3 => ?_
        refine s_ret (ev_is (ev_andV (ev_isi (ev_var rfl) (ty_int i) kit_ii) fun _ => ev_andV (ev_notV (ev_isi (ev_var rfl) (ty_int i) kit_ib)) fun _ => ev_op (ev_var rfl) (ev_var rfl) (rv_eq rfl)) ?_) fun H4 e4 => k H4 (((e1.trans e2).trans e3).trans e4)
        rw [decide_eq_true rfl]; rfl
      | str z =>
        refine q_not (et_is (et_test (ev_op (ev_var rfl) ev_c rv_isN)) rfl) fun H1 e1 => ?_
        refine q_not (et_B (ev_isi (b := false) (ev_var rfl) (ty_str z) (kit_ty (a := "str") (by decide +kernel)))) fun H2 e2 => ?_
        refine q_not (et_B (ev_isi (b := false) (ev_var rfl) (ty_str z) (kit_ty (a := "str") (by decide +kernel)))) fun H3 e3 => ?_
        refine q_yes (et_B (ev_isi (b := true) (ev_var rfl) (ty_str z) (kit_ty (a := "str") (by decide +kernel)))) fun H4 e4 => ?_
        refine s_ret (ev_is (ev_andV (ev_isi (b := true) (ev_var rfl) (ty_str z) (kit_ty (a := "str") (by decide +kernel))) fun _ => ev_op (ev_var rfl) (ev_var rfl) (rv_eq rfl)) ?_) fun H5 e5 => k H5 ((((e1.trans e2).trans e3).trans e4).trans e5)
        rw [decide_eq_true rfl]; rfl
      | non =>
        refine q_yes (et_is (et_test (ev_op (ev_var rfl) ev_c rv_isN)) rfl) fun H1 e1 => ?_
        exact s_ret (ev_is (ev_op (ev_var rfl) ev_c rv_isN) rfl) fun H2 e2 => k H2 (e1.trans e2)
    · obtain ⟨t, bt, bl, ha, hb, k1, k2, k3, k4, k5, k6, sa, sb⟩ : ∃ (t : String) (bt bl : Bool), TyX K H (.ref a) (.type t) ∧ TyX K H (.ref b) (.type t) ∧ kitB t "bool" = some false ∧ kitB t "int" = some false ∧ kitB t "str" = some false ∧ kitB t "dict" = some false ∧ kitB t "tuple" = some bt ∧ kitB t "list" = some bl ∧
          (SqL K H a xs ∨ SqT K H a xs) ∧ (SqL K H b ys ∨ SqT K H b ys) := by
        rcases hS with ⟨h1, h2⟩ | ⟨h1, h2⟩
        · exact ⟨"list", false, true, ty_lst h1, ty_lst h2, by decide +kernel, by decide +kernel, by decide +kernel, by decide +kernel, by decide +kernel, by decide +kernel, .inl h1, .inl h2⟩
        · exact ⟨"tuple", true, false, ty_tup h1, ty_tup h2, by decide +kernel, by decide +kernel, by decide +kernel, by decide +kernel, by decide +kernel, by decide +kernel, .inr h1, .inr h2⟩
      refine q_not (et_is (et_test (ev_op (ev_var rfl) ev_c rv_isN)) rfl) fun H1 e1 => ?_
      refine q_not (et_B (ev_isi (ev_var rfl) (ty_mono e1 hb) (kit_ty k1))) fun H2 e2 => ?_
      refine q_not (et_B (ev_isi (ev_var rfl) (ty_mono (e1.trans e2) hb) (kit_ty k2))) fun H3 e3 => ?_
      refine q_not (et_B (ev_isi (ev_var rfl) (ty_mono ((e1.trans e2).trans e3) hb) (kit_ty k3))) fun H4 e4 => ?_
      have E4 := ((e1.trans e2).trans e3).trans e4
      refine q_not (et_B (ev_isi (ev_var rfl) (ty_mono E4 hb) (kit_ty k4))) fun H5 e5 => ?_
      refine q_not (et_is (et_cmp (ev_isi (ev_var rfl) (ty_mono (E4.trans e5) hb) (kit_ty k5)) (ev_isi (ev_var rfl) (ty_mono (E4.trans e5) ha) (kit_ty k5)) (rv_ne rfl)) (by rw [decide_eq_true rfl]; rfl)) fun H6 e6 => ?_
      have E6 := (E4.trans e5).trans e6
      refine q_not (et_is (et_cmp (ev_isi (ev_var rfl) (ty_mono E6 hb) (kit_ty k6)) (ev_isi (ev_var rfl) (ty_mono E6 ha) (kit_ty k6)) (rv_ne rfl)) (by rw [decide_eq_true rfl]; rfl)) fun H7 e7 => ?_
      have E7 := E6.trans e7
      have lenQ : ∀ {σ : L2.St} {H2 : Hp} {tx : TE} {p : Addr} {zs : List V}, Ev tx σ H2 (.ref p) → (SqL K H p zs ∨ SqT K H p zs) → Ex H H2 → Ev (tCB (rLenS K) (tCons tx tNil)) σ H2 (.int (zs.length : Int)) := fun he hs ee => hs.elim (fun h => ev_lenL he (ex_l ee h)) (fun h => ev_lenT he (ex_t ee h))
      refine q_not (et_is (et_cmp (lenQ (ev_var rfl) sa E7) (lenQ (ev_var rfl) sb E7) (rv_ne rfl)) (by rw [hl, decide_eq_true rfl]; rfl)) fun H8 e8 => ?_
      have E8 := E7.trans e8
      refine s_ret (ev_is (ev_all (bs := (List.range ys.length).map fun _ => true) (el_is (el_rng (n := (ys.length : Int)) (fun _ => .bl true) (ea_cons (lenQ (ev_var rfl) sb E8) ea_nil) ⟨by omega, by omega⟩ (fun _ => rfl) fun i H9 e9 hi' => ?_) (by rw [Int.toNat_natCast, List.map_map]; rfl))) ?_) fun H9 e9 => k H9 (E8.trans e9)
      · have hx : i < xs.length := by omega
        have hy : i < ys.length := by omega
        have E9 := E8.trans e9
        refine ev_call (ea_cons (ev_op (ev_var rfl) (ev_var rfl) (rv_ixQ (sa.imp (ex_l E9) (ex_t E9)) (List.getElem?_eq_getElem hx))) (ea_cons (ev_op (ev_var rfl) (ev_var rfl) (rv_ixQ (sb.imp (ex_l E9) (ex_t E9)) (List.getElem?_eq_getElem hy))) ea_nil)) (spV (z := .bl true) fun H10 e10 Q _ q => ⟨_, _, rfl, EqAt.mono (E9.trans e10) (hi i _ _ (List.getElem?_eq_getElem hx) (List.getElem?_eq_getElem hy)), q⟩)
      · have : ((List.range ys.length).map fun _ => true).all id = true := by
          rw [List.all_eq_true]
          intro b hb
          rw [List.mem_map] at hb
          obtain ⟨_, _, rfl⟩ := hb
          rfl
        rw [this]
theorem ok_lequalN (F : Fun K "_law_equal" "_law_equal" s_l_equal f fd) (T : Txt P w K mg C_BadRule C_BadRules C_BadText C_Feast C_Calendar C_Line) (hm : mg "_law_equal" = some (.ref f)) (hb : Binds K fd ["_law_actual", "_law_expected"] []) : ∀ n : Nat, FnOk P w K mg base CX0 (n + 1) f fd ["_law_actual", "_law_expected"] (spEqualN K n)
  | 0 => fnok_none fun _ _ _ _ ⟨_, _, _, h, _⟩ => h
  | n + 1 => lequal_turn F T hm hb n (ok_lequalN F T hm hb n)
theorem dn_lequalN (T : Txt P w K mg C_BadRule C_BadRules C_BadText C_Feast C_Calendar C_Line) (n : Nat) : Dn P w K mg base CX0 "_law_equal" (n + 1) ["_law_actual", "_law_expected"] (spEqualN K n) := T.f_l_equal.dn fun _ _ F hm hb => ok_lequalN F T hm hb n
end
end WF

set_option Elab.async false
set_option linter.all false
set_option maxRecDepth 100000
set_option maxHeartbeats 1000000
/-! the law's own reading, and what it is told -/
namespace WF
open PySem L2 Evl
theorem lk_word {u v : V} : List.lookup ("word" : Str) [("word", u), ("line", v)] = some u := by rw [List.lookup_cons, beq_self_eq_true]
theorem lk_line {u v : V} : List.lookup ("line" : Str) [("word", u), ("line", v)] = some v := by
  rw [List.lookup_cons, show (("line" : Str) == ("word" : Str)) = false by decide +kernel]
  dsimp only
  rw [List.lookup_cons, beq_self_eq_true]
section
variable {P : Program} {w : World} {K : PySem.W.Frag} {mg : Str → Option Value} {base : Heap} {C_BadRule C_BadRules C_BadText C_Feast C_Calendar C_Line : Addr} {f : Addr} {fd : FuncData}
theorem dn_read (T : Txt P w K mg C_BadRule C_BadRules C_BadText C_Feast C_Calendar C_Line) (CF : Cls1 K C_Feast ["told", "bys"]) (IF : ClsI K C_Feast) (CC : Cls1 K C_Calendar ["rows", "near"]) (CI : Cls1 K C_Line lineFs) : Dn P w K mg base (L2.CX P w) "read" 14 ["text"] (spRead K C_Feast C_Calendar C_BadText) := T.f_read.dn fun _ _ F _ _ => ok_read F T CF IF CC CI
def spTold12 (K : PySem.W.Frag) : Sp := fun vs H Q _ => ∃ t : Str, vs = [.str t] ∧ t.length ≤ 10000 ∧ ∀ v H2, Ex H H2 → TolV K H2 v (readT t).told → Q v H2
theorem ok_told12 (F : Fun K "_law_told" "_law_told" s_l_told f fd) (T : Txt P w K mg C_BadRule C_BadRules C_BadText C_Feast C_Calendar C_Line) (CF : Cls1 K C_Feast ["told", "bys"]) (IF : ClsI K C_Feast) (CC : Cls1 K C_Calendar ["rows", "near"]) (CI : Cls1 K C_Line lineFs) : FnOk P w K mg base CX0 16 f fd ["_law_text"] (spTold12 K) := by
  have D_read : Dn P w K mg base (L2.CX P w) "read" 14 ["text"] (spRead K C_Feast C_Calendar C_BadText) := dn_read T CF IF CC CI
  refine F.ok sc_l_told (fun vs H Q E h => ?_) (fun cdv A outer s H vs Q E hr h => ?_)
  · obtain ⟨_, rfl, _⟩ := h
    rfl
  · obtain ⟨t, rfl, hz, k⟩ := h
    refine ⟨_, (pss_cons (ps_set (i := 1) sc_l_told.nd rfl (by first | exact Or.inl rfl | exact Or.inr rfl) pe_non)
  (pss_cons (ps_try_as (i := 2) (Wout := fun _ _ _ _ => False) rfl rfl sc_l_told.nd rfl rfl ⟨rfl, by decide, .inl T.c_BadText⟩ takes0 (fun W pn xe tk _ => (pss_one (ps_expr (pe_fnS D_read (hr.mono (by omega)) (fun σ => passAt tk σ) rfl (pa_cons (pv 0) pa_nil))))) (fun a oe cls d pn hz hf => (pss_one (ps_set (i := 1) sc_l_told.nd rfl (by first | exact Or.inl rfl | exact Or.inr rfl) (pe_tup (pa_cons (pe_xf T.x_BadText.xf (T.x_BadText.no _ (by simp)) hz hf (pv 2)) (pa_cons (pe_xf T.x_BadText.xf (T.x_BadText.no _ (by simp)) hz hf (pv 2)) pa_nil)))))))
  (pss_one (ps_ret (pv 1))))), ?_⟩
    refine q_asg ev_c fun H1 e1 => ?_
    unfold tSeq
    dsimp only
    have E2 := e1
    refine ⟨.str t, rfl, t, rfl, hz, fun x hx => Nat.le_trans ((lines_small t).2 x hx) hz, fun i j hb d H3 e3 hd => ?_, fun rows hg p H3 _ e3 _ => ?_⟩
    · refine ⟨true, T.x_BadText.self, fun _ a' ha' => ?_, fun q => nomatch q⟩
      refine tTup_go (tA_x ⟨_, rfl, rfl, rfl, d, _, _, rfl, hd, lk_line, tA_one ⟨_, rfl, rfl, rfl, d, _, _, rfl, hd, lk_word, ⟨by show 2 ≤ sizeLine; decide, fun q hq => ?_⟩⟩⟩)
      refine s_ret (v := .ref q) (ev_var rfl) fun H4 e4 => k _ H4 ((E2.trans e3).trans ((Ex.new hq).trans e4)) ?_
      rw [hb]
      exact ⟨q, rfl, ex_t e4 (st_of upd_same)⟩
    · refine s_ret (v := .non) (ev_var rfl) fun H4 e4 => k _ H4 ((E2.trans e3).trans e4) ?_
      rw [hg]
      exact rfl
theorem dn_told12 (T : Txt P w K mg C_BadRule C_BadRules C_BadText C_Feast C_Calendar C_Line) (CF : Cls1 K C_Feast ["told", "bys"]) (IF : ClsI K C_Feast) (CC : Cls1 K C_Calendar ["rows", "near"]) (CI : Cls1 K C_Line lineFs) : Dn P w K mg base CX0 "_law_told" 16 ["_law_text"] (spTold12 K) := T.f_l_told.dn fun _ _ F _ _ => ok_told12 F T CF IF CC CI
end
end WF

set_option Elab.async false
set_option linter.all false
set_option maxRecDepth 100000
set_option maxHeartbeats 1000000
/-! the law's own line -/
namespace WF
open PySem L2 Evl
def oV : Option Nat → V
  | none => .non
  | some j => .int (j : Int)
section
variable {K : PySem.W.Frag} {σ : L2.St} {H : Hp} {ta tb te tl : TE} {tA : TA}
theorem ev_intS {z : Str} {n : Int} (h : Ev ta σ H (.str z)) (hn : PySem.intText? z = some n) (hz : z.length ≤ 640) : Ev (tCB (fun xs H Q => ∃ a n, xs = [.str a] ∧ PySem.intText? a = some n ∧ a.length ≤ 640 ∧ Q (.int n) H) (tCons ta tNil)) σ H (.int n) := fun H1 e Q q => h H1 e _ fun H2 e2 => ⟨z, n, rfl, hn, hz, q H2 e2⟩
end
section
variable {P : Program} {w : World} {K : PySem.W.Frag} {mg : Str → Option Value} {base : Heap} {C_BadRule C_BadRules C_BadText C_Feast C_Calendar C_Line : Addr} {f : Addr} {fd : FuncData}
def spLeaves : Sp := fun vs H Q _ => ∃ z : Str, vs = [.str z] ∧ RetL (((leafN z).map numS).map V.str) H Q
theorem ok_leaves (F : Fun K "_law_leaves" "_law_leaves" s_l_leaves f fd) (T : Txt P w K mg C_BadRule C_BadRules C_BadText C_Feast C_Calendar C_Line) : FnOk P w K mg base CX0 1 f fd ["_law_word"] spLeaves := by
  refine F.ok sc_l_leaves (fun vs H Q E h => ?_) (fun cdv A outer s H vs Q E hr h => ?_)
  · obtain ⟨_, rfl, _⟩ := h
    rfl
  · obtain ⟨z, rfl, k⟩ := h
    refine ⟨_, (pss_one (ps_ret (pe_ifExp (pt_cmpR op_eq (pv 0) pe_str (nomark _)) (pe_lst (pa_cons pe_str (pa_cons pe_str (pa_cons pe_str (pa_cons pe_str (pa_cons pe_str (pa_cons pe_str pa_nil))))))) (pe_lst (pa_cons pe_str (pa_cons pe_str (pa_cons pe_str (pa_cons pe_str pa_nil)))))))), ?_⟩
    refine s_retL ?_ fun p H1 hp e1 h1 => k p H1 hp e1 h1
    unfold leafN
    by_cases hz : z = "monthday"
    · rw [if_pos hz]
      refine el_ifT (et_str (ev_var rfl) (decide_eq_true hz)) (el_is (el_lst (ea_cons ev_c (ea_cons ev_c (ea_cons ev_c (ea_cons ev_c (ea_cons ev_c (ea_cons ev_c ea_nil)))))) (by show 6 ≤ 100000; decide)) ?_)
      exact congrArg (List.map V.str) (by decide +kernel : (["-3", "-2", "-1", "0", "1", "2"] : List Str) = ([-3, -2, -1, 0, 1, 2] : List Int).map numS)
    · rw [if_neg hz]
      refine el_ifF (et_str (ev_var rfl) (decide_eq_false hz)) (el_is (el_lst (ea_cons ev_c (ea_cons ev_c (ea_cons ev_c (ea_cons ev_c ea_nil)))) (by show 4 ≤ 100000; decide)) ?_)
      exact congrArg (List.map V.str) (by decide +kernel : (["-2", "-1", "0", "1"] : List Str) = ([-2, -1, 0, 1] : List Int).map numS)
theorem dn_leaves (T : Txt P w K mg C_BadRule C_BadRules C_BadText C_Feast C_Calendar C_Line) : Dn P w K mg base CX0 "_law_leaves" 1 ["_law_word"] spLeaves := T.f_l_leaves.dn fun _ _ F _ _ => ok_leaves F T
def spLLine (K : PySem.W.Frag) : Sp := fun vs H Q _ => ∃ (W : Addr) (ws : List Str) (ro : Nat), vs = [.ref W, .int (ro : Int)] ∧ SqL K H W (ws.map V.str) ∧ 0 < ws.length ∧ ws.length ≤ 10001 ∧ ro ≤ 4 ∧
  RetL [oV (lineD ws ro).1, .int ((lineD ws ro).2 : Int)] H Q
theorem ok_lline (F : Fun K "_law_line" "_law_line" s_l_line f fd) (T : Txt P w K mg C_BadRule C_BadRules C_BadText C_Feast C_Calendar C_Line) : FnOk P w K mg base CX0 2 f fd ["_law_words_here", "_law_room"] (spLLine K) := by
  have D_l_leaves : Dn P w K mg base CX0 "_law_leaves" 1 ["_law_word"] spLeaves := dn_leaves T
  refine F.ok sc_l_line (fun vs H Q E h => ?_) (fun cdv A outer s H vs Q E hr h => ?_)
  · obtain ⟨_, _, _, rfl, _⟩ := h
    rfl
  · obtain ⟨W, ws, ro, rfl, hW, hwl, hwz, hro, k⟩ := h
    refine ⟨_, (pss_cons (ps_if (pt_cmpR op_notIn_seq (pe_ix ix_list (pv 0) pe_int (fun _ _ => rfl)) (pe_tup (pa_cons pe_str (pa_cons pe_str pa_nil))) (by rfl)) (pss_one (ps_ret (pe_lst (pa_cons pe_int (pa_cons (pv 1) pa_nil)))))
  pss_nil)
  (pss_cons (ps_set (i := 2) sc_l_line.nd rfl (by first | exact Or.inl rfl | exact Or.inr rfl) pe_int)
  (pss_cons (ps_set (i := 3) sc_l_line.nd rfl (by first | exact Or.inl rfl | exact Or.inr rfl) pe_int)
  (pss_cons (ps_set (i := 4) sc_l_line.nd rfl (by first | exact Or.inl rfl | exact Or.inr rfl) pe_int)
  (pss_cons (ps_while PassesOwn.never (pt_cmpR op_gt (pv 4) pe_int (nomark _))
  (pss_cons (ps_set (i := 5) sc_l_line.nd rfl (by first | exact Or.inl rfl | exact Or.inr rfl) (pe_ifExp (pt_cmpR op_lt (pv 2) (pe_callB call_len_seq (by rfl) T.len (by decide +kernel) (pa_cons (pv 0) pa_nil)) (nomark _)) (pe_ix ix_list (pv 0) (pv 2) (fun _ _ => rfl)) pe_str))
  (pss_cons (ps_set (i := 6) sc_l_line.nd rfl (by first | exact Or.inl rfl | exact Or.inr rfl) (pe_ifExp (pt_cmpR op_in_seq (pv 5) (pe_tup (pa_cons pe_str (pa_cons pe_str (pa_cons pe_str pa_nil)))) (by rfl)) pe_int (pe_callTy call_int1 (by rfl) T.int (by decide +kernel) (pa_cons (pe_cmpR op_eq (pv 5) pe_str (nomark _)) pa_nil))))
  (pss_cons (ps_if (pt_cmpR op_notIn_seq (pv 5) (pe_tup (pa_cons pe_str (pa_cons pe_str (pa_cons pe_str (pa_cons pe_str (pa_cons pe_str (pa_cons pe_str (pa_cons pe_str pa_nil)))))))) (by rfl)) (pss_one (ps_ret (pe_lst (pa_cons (pe_op op_add (pv 2) pe_int) (pa_cons (pv 1) pa_nil)))))
  pss_nil)
  (pss_cons (ps_if (PW.pt (pw_or (pt_cmpR op_gt (pe_op op_add (pe_op op_add (pv 3) (pv 4)) (pv 6)) pe_int (nomark _)) (pw_or1 (PW.pt (pw_and (pt_cmpR op_eq (pv 5) pe_str (nomark _)) (pw_and1 (pt_cmpR op_eq (pv 1) pe_int (nomark _)))))))) (pss_one (ps_ret (pe_lst (pa_cons (pe_op op_add (pv 2) pe_int) (pa_cons (pv 1) pa_nil)))))
  pss_nil)
  (pss_cons (ps_set (i := 2) sc_l_line.nd rfl (by first | exact Or.inl rfl | exact Or.inr rfl) (pe_op op_add (pv 2) pe_int))
  (pss_cons (ps_set (i := 3) sc_l_line.nd rfl (by first | exact Or.inl rfl | exact Or.inr rfl) (pe_op op_add (pv 3) pe_int))
  (pss_cons (ps_set (i := 4) sc_l_line.nd rfl (by first | exact Or.inl rfl | exact Or.inr rfl) (pe_op op_add (pe_op op_sub (pv 4) pe_int) (pv 6)))
  (pss_one (ps_if (pt_cmpR op_lt (pv 6) pe_int (nomark _)) (pss_cons (ps_set (i := 7) sc_l_line.nd rfl (by first | exact Or.inl rfl | exact Or.inr rfl) (pe_ifExp (pt_cmpR op_eq (pv 6) pe_int (nomark _)) (pe_fn D_l_leaves (hr.mono (by omega)) pass0 rfl (pa_cons (pv 5) pa_nil)) (pe_lst (pa_cons pe_str (pa_cons pe_str (pa_cons pe_str (pa_cons pe_str pa_nil)))))))
  (pss_cons (ps_if (PW.pt (pw_or (pt_cmpR op_ge (pv 2) (pe_callB call_len_seq (by rfl) T.len (by decide +kernel) (pa_cons (pv 0) pa_nil)) (nomark _)) (pw_or1 (pt_cmpR op_notIn_seq (pe_ix ix_list (pv 0) (pv 2) (fun _ _ => rfl)) (pv 7) (by rfl))))) (pss_one (ps_ret (pe_lst (pa_cons (pe_op op_add (pv 2) pe_int) (pa_cons (pv 1) pa_nil)))))
  pss_nil)
  (pss_cons (ps_if (PW.pt (pw_and (pt_cmpR op_eq (pv 6) pe_int (nomark _)) (pw_and1 (pt_cmpR op_gt (pe_callB call_abs (by rfl) T.abs (by decide +kernel) (pa_cons (pe_callTy call_int_str (by rfl) T.int (by decide +kernel) (pa_cons (pe_ix ix_list (pv 0) (pv 2) (fun _ _ => rfl)) pa_nil)) pa_nil)) (pv 1) (nomark _))))) (pss_one (ps_ret (pe_lst (pa_cons (pe_op op_add (pv 2) pe_int) (pa_cons (pv 1) pa_nil)))))
  pss_nil)
  (pss_cons (ps_set (i := 1) sc_l_line.nd rfl (by first | exact Or.inl rfl | exact Or.inr rfl) (pe_op op_sub (pv 1) (pe_op op_mul (pe_callB call_abs (by rfl) T.abs (by decide +kernel) (pa_cons (pe_callTy call_int_str (by rfl) T.int (by decide +kernel) (pa_cons (pe_ix ix_list (pv 0) (pv 2) (fun _ _ => rfl)) pa_nil)) pa_nil)) (pv 6))))
  (pss_one (ps_set (i := 2) sc_l_line.nd rfl (by first | exact Or.inl rfl | exact Or.inr rfl) (pe_op op_add (pv 2) pe_int)))))))
  pss_nil))))))))))
  (pss_one (ps_ret (pe_lst (pa_cons (pe_ifExp (pt_cmpR op_lt (pv 2) (pe_callB call_len_seq (by rfl) T.len (by decide +kernel) (pa_cons (pv 0) pa_nil)) (nomark _)) (pe_op op_add (pv 2) pe_int) pe_non) (pa_cons (pv 1) pa_nil)))))))))), ?_⟩
    have at_ : ∀ {a : Nat} {x : Str}, ws[a]? = some x → atI (ws.map V.str) ((a : Nat) : Int) = some (.str x) := fun {a x} hx => atI_nat (by rw [List.getElem?_map, hx]; rfl)
    obtain ⟨x0, hx0⟩ : ∃ x, ws[0]? = some x := ⟨ws[0], List.getElem?_eq_getElem hwl⟩
    have hfirst := et_test (ev_niU (K := K) (xs := [.str "plain", .str "yields"]) (σ := start ["_law_words_here", "_law_room", "_law_at", "_law_done", "_law_due_here", "_law_word", "_law_need", "_law_able"] [.ref W, .int (ro : Int)]) (H := H) (ev_op (ev_var (i := 0) rfl) ev_c (rv_ixL hW (at_ hx0))) (eu_tup (ea_cons ev_c (ea_cons ev_c ea_nil)) (by show 2 ≤ 100000; decide)) rfl rfl)
    have hin : inV (.str x0) [.str "plain", .str "yields"] = decide (x0 ∈ begins2) := inV_strs x0 begins2
    have hT : takeW ws 0 begins2 = if x0 ∈ begins2 then some x0 else none := by
      unfold takeW
      rw [hx0]
    rw [hin] at hfirst
    by_cases hb : x0 ∈ begins2
    · rw [decide_eq_true hb] at hfirst
      rw [if_pos hb] at hT
      have hLD : lineD ws ro = scan 5 ws 1 1 ro := by
        unfold lineD
        rw [hT]
      rw [hLD] at k
      refine q_not hfirst fun H1 e1 => ?_
      refine q_asg ev_c fun H2 e2 => ?_
      refine q_asg ev_c fun H3 e3 => ?_
      refine q_asg ev_c fun H4 e4 => ?_
      have E4 := ((e1.trans e2).trans e3).trans e4
      refine q_while (fun m σ H' => ∃ (n a du r : Nat) (a5 a6 a7 : Option V), σ = [some (.ref W), some (.int (r : Int)), some (.int (a : Int)), some (.int ((5 - n : Nat) : Int)), some (.int (du : Int)), a5, a6, a7] ∧ scan n ws a du r = scan 5 ws 1 1 ro ∧ du ≤ n ∧ n ≤ 5 ∧ r ≤ 4 ∧ m = n ∧ Ex H H') 5 ⟨5, 1, 1, ro, _, _, _, rfl, rfl, by decide, Nat.le_refl _, hro, rfl, E4⟩ ?_
      rintro m σ' H' ⟨n, a, du, r, a5, a6, a7, rfl, hsc, hdn, hn5, hr4, rfl, eH⟩
      refine ⟨decide ((0 : Int) < (du : Int)), et_cmp (ev_var rfl) ev_c rv_I0, fun hdu H5 e5 => ?_, fun hdu H5 e5 => ?_⟩
      · have hdp : 0 < du := by
          have := of_decide_eq_true hdu
          omega
        obtain ⟨d, rfl⟩ : ∃ d, du = d + 1 := ⟨du - 1, by omega⟩
        obtain ⟨n', rfl⟩ : ∃ n', m = n' + 1 := ⟨m - 1, by omega⟩
        have hpa : 5 - (n' + 1) = 4 - n' := by omega
        rw [hpa]
        rw [scan_more] at hsc
        have h5 : (4 - n') + (d + 1) ≤ 5 := by omega
        have EH5 := eH.trans e5
        have hW5 := ex_l EH5 hW
        have hgd := takeW_getD (ws := ws) (a := a) (q_able (pa := 4 - n') (du := d + 1) (ro := r))
        generalize hzd : (ws[a]?).getD ("?" : Str) = z at hgd
        refine ⟨_, fun _ _ h => h, ?_⟩
        have hwd : Ev (tIf (tTest (tOp (rI0 fun i j => .bl (decide (i < j))) (tVar 2) (tCB (rLenS K) (tCons (tVar 0) tNil)))) (tOp (rIxL K) (tVar 0) (tVar 2)) (tC (.str "?"))) [some (.ref W), some (.int (r : Int)), some (.int (a : Int)), some (.int ((4 - n' : Nat) : Int)), some (.int ((d + 1 : Nat) : Int)), a5, a6, a7] H5 (.str z) := by
          by_cases hal : a < ws.length
          · have hxa : ws[a]? = some z := by
              rw [List.getElem?_eq_getElem hal] at hzd ⊢
              exact congrArg some hzd
            exact ev_ifT (et_is (et_cmp (ev_var rfl) (ev_lenL (ev_var rfl) hW5) rv_I0) (decide_eq_true (by rw [List.length_map]; omega))) (ev_op (ev_var rfl) (ev_var rfl) (rv_ixL hW5 (at_ hxa)))
          · have hxa : ("?" : Str) = z := by
              rw [List.getElem?_eq_none (by omega)] at hzd
              exact hzd
            rw [← hxa]
            exact ev_ifF (et_is (et_cmp (ev_var rfl) (ev_lenL (ev_var rfl) hW5) rv_I0) (decide_eq_false (by rw [List.length_map]; omega))) ev_c
        refine q_asg hwd fun H6 e6 => ?_
        have hnd : ∀ {H' : Hp} {σ : L2.St}, σ[5]? = some (some (.str z)) → Ev (tIf (tTest (tOp (rIn K false) (tVar 5) (tTup (tCons (tC (.str "both")) (tCons (tC (.str "either")) (tCons (tC (.str "without")) tNil)))))) (tC (.int 2)) (tCB (fun xs H Q => (∃ i, xs = [.int i] ∧ Q (.int i) H) ∨ ∃ k, xs = [.bl k] ∧ Q (.int (if k then 1 else 0)) H) (tCons (tOp rEq (tVar 5) (tC (.str "behind"))) tNil))) σ H' (.int (needW z : Nat)) := fun {H' σ} h0 => by
          have ht := et_test (ev_inU (K := K) (xs := [.str "both", .str "either", .str "without"]) (σ := σ) (H := H') (ev_var (i := 5) h0) (eu_tup (ea_cons ev_c (ea_cons ev_c (ea_cons ev_c ea_nil))) (by show 3 ≤ 100000; decide)) rfl rfl)
          have hin : inV (.str z) [.str "both", .str "either", .str "without"] = decide (z ∈ pairs3) := inV_strs z pairs3
          rw [hin] at ht
          unfold needW
          by_cases hp : z ∈ pairs3
          · rw [decide_eq_true hp] at ht
            rw [if_pos hp]
            exact ev_ifT ht ev_c
          · rw [decide_eq_false hp] at ht
            rw [if_neg hp]
            refine ev_ifF ht (ev_is (ev_intB (ev_op (ev_var h0) ev_c (rv_eq rfl))) ?_)
            by_cases hb : z = "behind"
            · rw [if_pos hb, decide_eq_true (congrArg V.str hb)]
              rfl
            · rw [if_neg hb, decide_eq_false (fun q => hb (V.str.inj q))]
              rfl
        refine q_asg (hnd rfl) fun H7 e7 => ?_
        have E7 := (EH5.trans e6).trans e7
        have hsv := et_test (ev_niU (K := K) (xs := [.str "weekday", .str "first", .str "monthday", .str "behind", .str "both", .str "either", .str "without"]) (σ := [some (.ref W), some (.int (r : Int)), some (.int (a : Int)), some (.int ((4 - n' : Nat) : Int)), some (.int ((d + 1 : Nat) : Int)), some (.str z), some (.int ((needW z : Nat) : Int)), a7]) (H := H7) (ev_var (i := 5) rfl) (eu_tup (ea_cons ev_c (ea_cons ev_c (ea_cons ev_c (ea_cons ev_c (ea_cons ev_c (ea_cons ev_c (ea_cons ev_c ea_nil))))))) (by show 7 ≤ 100000; decide)) rfl rfl)
        have hin7 : inV (.str z) [.str "weekday", .str "first", .str "monthday", .str "behind", .str "both", .str "either", .str "without"] = decide (z ∈ seven) := inV_strs z seven
        rw [hin7] at hsv
        have refuse : ∀ {σ : L2.St} {H' : Hp} {D : Ends}, Ex H H' → σ[1]? = some (some (.int (r : Int))) → σ[2]? = some (some (.int (a : Int))) → D.rt = Q → z ∉ able (4 - n') (d + 1) r → tRet (tLst (tCons (tOp (rI0 fun i j => .int (i + j)) (tVar 2) (tC (.int 1))) (tCons (tVar 1) tNil))) D σ H' := fun {σ H' D} e h1 h2 hD hna => by
          rw [if_neg hna] at hgd
          rw [hgd] at hsc
          refine s_retL (el_lst (ea_cons (ev_op (ev_var h2) ev_c rv_I0) (ea_cons (ev_var h1) ea_nil)) (by show 2 ≤ 100000; decide)) fun p H2 hp e2 h2 => ?_
          rw [hD]
          refine k p H2 (fresh_back e hp) (e.trans e2) ?_
          rw [← hsc]
          exact h2
        by_cases h7 : z ∈ seven
        · rw [decide_eq_true h7] at hsv
          refine q_not hsv fun H8 e8 => ?_
          have E8 := E7.trans e8
          have hdv : EvT (tOr (tTest (tOp (rI0 fun i j => .bl (decide (i > j))) (tOp (rI0 fun i j => .int (i + j)) (tOp (rI0 fun i j => .int (i + j)) (tVar 3) (tVar 4)) (tVar 6)) (tC (.int 5)))) (tAnd (tTest (tOp rEq (tVar 5) (tC (.str "behind")))) (tTest (tOp rEq (tVar 1) (tC (.int 0)))))) [some (.ref W), some (.int (r : Int)), some (.int (a : Int)), some (.int ((4 - n' : Nat) : Int)), some (.int ((d + 1 : Nat) : Int)), some (.str z), some (.int ((needW z : Nat) : Int)), a7] H8 (decide (5 < (4 - n') + (d + 1) + needW z) || (decide (z = "behind") && decide (r = 0))) := by
            refine et_or (et_is (et_cmp (ev_op (ev_op (ev_var rfl) (ev_var rfl) rv_I0) (ev_var rfl) rv_I0) ev_c rv_I0) ?_) fun _ => et_and (et_str (ev_var rfl) rfl) fun _ => et_is (et_cmp (ev_var rfl) ev_c (rv_eq rfl)) ?_
            · rw [decide_eq_decide]
              omega
            · rw [decide_eq_decide]
              exact ⟨fun q => by have := V.int.inj q; omega, fun q => by rw [q]; rfl⟩
          have hb2 : (decide (5 < (4 - n') + (d + 1) + needW z) || (decide (z = "behind") && decide (r = 0))) = !decide (z ∈ able (4 - n') (d + 1) r) := by
            have hi := able_iff (ro := r) (z := z) h5
            by_cases ha : z ∈ able (4 - n') (d + 1) r
            · rw [decide_eq_true ha]
              obtain ⟨_, h⟩ := hi.mp ha
              rw [Bool.not_true, Bool.or_eq_false_iff, decide_eq_false_iff_not, Bool.and_eq_false_iff, decide_eq_false_iff_not, decide_eq_false_iff_not]
              refine ⟨fun q => h (.inl q), ?_⟩
              by_cases q : z = "behind"
              · exact .inr fun q2 => h (.inr ⟨q, q2⟩)
              · exact .inl q
            · rw [decide_eq_false ha]
              rw [Bool.not_false, Bool.or_eq_true, decide_eq_true_iff, Bool.and_eq_true, decide_eq_true_iff, decide_eq_true_iff]
              exact Classical.byContradiction fun q => ha (hi.mpr ⟨h7, q⟩)
          rw [hb2] at hdv
          by_cases ha : z ∈ able (4 - n') (d + 1) r
          · rw [decide_eq_true ha] at hdv
            rw [if_pos ha] at hgd
            rw [hgd] at hsc
            dsimp only at hsc
            obtain ⟨hal, _, hxa⟩ := takeW_lt hgd
            have hle5 : ¬ 5 < (4 - n') + (d + 1) + needW z := fun q => ((able_iff h5).mp ha).2 (.inl q)
            refine q_not hdv fun H9 e9 => ?_
            refine q_asg (v := .int ((a + 1 : Nat) : Int)) (ev_op (ev_var rfl) ev_c rv_I0) fun H10 e10 => ?_
            refine q_asg (v := .int ((5 - n' : Nat) : Int)) (ev_is (ev_op (ev_var rfl) ev_c rv_I0) (congrArg V.int (by omega))) fun H11 e11 => ?_
            refine q_asg (v := .int ((d + needW z : Nat) : Int)) (ev_is (ev_op (ev_op (ev_var rfl) ev_c rv_I0) (ev_var rfl) rv_I0) (congrArg V.int (by omega))) fun H12 e12 => ?_
            have E12 := (((E8.trans e9).trans e10).trans e11).trans e12
            by_cases hp : z ∈ pairs3
            · obtain ⟨p1, p2⟩ := pairs_no hp
              have hn2 : needW z = 2 := if_pos hp
              rw [if_neg p2, if_neg p1] at hsc
              rw [hn2]
              exact s_no (et_is (et_cmp (ev_var rfl) ev_c rv_I0) rfl) fun H13 e13 => ⟨n', Nat.lt_succ_self _, n', a + 1, d + 2, r, _, _, _, rfl, hsc, by have := (able_iff0.mp ha).elim (fun h => absurd h p2) fun h => h.elim (fun h => absurd h.1 p1) fun h => h.2; omega, by omega, hr4, rfl, E12.trans e13⟩
            · have hlt : needW z < 2 := by
                unfold needW
                rw [if_neg hp]
                split <;> decide
              refine s_yes (et_is (et_cmp (ev_var rfl) ev_c rv_I0) (decide_eq_true (by omega))) fun H13 e13 => ?_
              have E13 := E12.trans e13
              have hW13 := ex_l E13 hW
              obtain ⟨ns, hns, hev, h1, h2, h3⟩ : ∃ ns : List Int, (∀ i ∈ ns, -3 ≤ i ∧ i ≤ 2) ∧ EvL (tIf (tTest (tOp rEq (tVar 6) (tC (.int 0)))) (tCall spLeaves [] E0 (tCons (tVar 5) tNil)) (tLst (tCons (tC (.str "-2")) (tCons (tC (.str "-1")) (tCons (tC (.str "1")) (tCons (tC (.str "2")) tNil)))))) [some (.ref W), some (.int (r : Int)), some (.int ((a + 1 : Nat) : Int)), some (.int ((5 - n' : Nat) : Int)), some (.int ((d + needW z : Nat) : Int)), some (.str z), some (.int ((needW z : Nat) : Int)), a7] H13 ((ns.map numS).map V.str) ∧
                  (takeN ws (a + 1) ns = none → (some (a + 2), r) = scan 5 ws 1 1 ro) ∧ (∀ kk, takeN ws (a + 1) ns = some kk → needW z = 1 → r < kk.natAbs → (some (a + 2), r) = scan 5 ws 1 1 ro) ∧
                  (∀ kk, takeN ws (a + 1) ns = some kk → ¬ (needW z = 1 ∧ r < kk.natAbs) → scan n' ws (a + 2) (d + needW z) (r - kk.natAbs * needW z) = scan 5 ws 1 1 ro ∧ kk.natAbs * needW z ≤ r) := by
                by_cases he : z ∈ ends3
                · obtain ⟨q1, q2⟩ := ends_no he
                  have hn0 : needW z = 0 := by unfold needW; rw [if_neg hp, if_neg q1]
                  rw [if_pos he] at hsc
                  rw [hn0]
                  refine ⟨leafN z, leafN_in z, el_ifT (et_is (et_cmp (ev_var rfl) ev_c (rv_eq rfl)) rfl) (fun H14 e14 Q q => ⟨_, rfl, z, rfl, fun p H15 hp e15 h15 => q p H15 hp e15 h15⟩), fun hn => ?_, fun kk _ h => absurd h (by decide), fun kk hk _ => ⟨?_, by omega⟩⟩
                  · rw [hn] at hsc
                    exact hsc
                  · rw [hk] at hsc
                    exact hsc
                · have hb : z = "behind" := by
                    rcases seven_iff.mp h7 with h | h | h
                    · exact absurd h he
                    · exact h
                    · exact absurd h hp
                  have hn1 : needW z = 1 := by unfold needW; rw [if_neg hp, if_pos hb]
                  rw [if_neg he, if_pos hb, takeN_bys] at hsc
                  rw [hn1]
                  refine ⟨bys4, by decide, el_is (el_ifF (et_is (et_cmp (ev_var rfl) ev_c (rv_eq rfl)) rfl) (el_lst (ea_cons ev_c (ea_cons ev_c (ea_cons ev_c (ea_cons ev_c ea_nil)))) (by show 4 ≤ 100000; decide))) (congrArg (List.map V.str) (by decide +kernel : (["-2", "-1", "1", "2"] : List Str) = bys4.map numS)), fun hn => ?_, fun kk hk _ hbig => ?_, fun kk hk hno => ?_⟩
                  · rw [hn] at hsc
                    exact hsc
                  · rw [hk] at hsc
                    dsimp only at hsc
                    rw [if_neg (by omega)] at hsc
                    exact hsc
                  · have hle : kk.natAbs ≤ r := by
                      have : ¬ r < kk.natAbs := fun q => hno ⟨rfl, q⟩
                      omega
                    rw [hk] at hsc
                    dsimp only at hsc
                    rw [if_pos hle] at hsc
                    rw [Nat.mul_one]
                    exact ⟨hsc, hle⟩
              have refuse2 : ∀ {σ : L2.St} {H' : Hp} {D : Ends}, Ex H H' → σ[1]? = some (some (.int (r : Int))) → σ[2]? = some (some (.int ((a + 1 : Nat) : Int))) → D.rt = Q → (some (a + 2), r) = scan 5 ws 1 1 ro → tRet (tLst (tCons (tOp (rI0 fun i j => .int (i + j)) (tVar 2) (tC (.int 1))) (tCons (tVar 1) tNil))) D σ H' := fun {σ H' D} e h1 h2 hD hsc2 => by
                refine s_retL (el_lst (ea_cons (ev_op (ev_var h2) ev_c rv_I0) (ea_cons (ev_var h1) ea_nil)) (by show 2 ≤ 100000; decide)) fun p H2 hp e2 h2 => ?_
                rw [hD]
                refine k p H2 (fresh_back e hp) (e.trans e2) ?_
                rw [← hsc2]
                exact h2
              refine q_asgL hev fun A2 H14 hA e14 hAv => ?_
              have E14 := E13.trans e14
              have hW14 := ex_l E14 hW
              cases hN : takeN ws (a + 1) ns with
              | none =>
                have hwn := takeN_none hN
                refine q_yes ?_ fun H15 e15 => refuse2 (E14.trans e15) rfl rfl rfl (h1 hN)
                by_cases hl2 : a + 1 < ws.length
                · obtain ⟨x, hx⟩ : ∃ x, ws[a + 1]? = some x := ⟨ws[a + 1], List.getElem?_eq_getElem hl2⟩
                  have hnm : x ∉ ns.map numS := fun hm => by
                    rw [takeW_is hx hm] at hwn
                    cases hwn
                  refine et_is (et_or (et_is (et_cmp (ev_var rfl) (ev_lenL (ev_var rfl) hW14) rv_I0) (decide_eq_false (by rw [List.length_map]; omega))) fun _ => et_test (ev_op (ev_op (ev_var rfl) (ev_var rfl) (rv_ixL hW14 (at_ hx))) (ev_var rfl) (rv_niL (sq_of hAv) rfl (strs_flat _)))) ?_
                  rw [inV_strs, decide_eq_false hnm]
                  rfl
                · exact et_or1 (et_is (et_cmp (ev_var rfl) (ev_lenL (ev_var rfl) hW14) rv_I0) (decide_eq_true (by rw [List.length_map]; omega)))
              | some kk =>
                obtain ⟨hl2, hkm, hw2⟩ := takeN_lt hN
                obtain ⟨_, hm2, hxk⟩ := takeW_lt hw2
                have hkr := hns kk hkm
                have hk10 := (num_ok hkr).1
                refine q_not (et_is (et_or (et_is (et_cmp (ev_var rfl) (ev_lenL (ev_var rfl) hW14) rv_I0) (decide_eq_false (by rw [List.length_map]; omega))) fun _ => et_test (ev_op (ev_op (ev_var rfl) (ev_var rfl) (rv_ixL hW14 (at_ hxk))) (ev_var rfl) (rv_niL (sq_of hAv) rfl (strs_flat _)))) (by rw [inV_strs, decide_eq_true hm2]; rfl)) fun H15 e15 => ?_
                have hab : ∀ {σ : L2.St} {H' : Hp}, Ex H14 H' → σ[0]? = some (some (.ref W)) → σ[2]? = some (some (.int ((a + 1 : Nat) : Int))) → Ev (tCB (fun xs H Q => ∃ i, xs = [.int i] ∧ Q (.int (if i < 0 then -i else i)) H) (tCons (tCB (fun xs H Q => ∃ a n, xs = [.str a] ∧ PySem.intText? a = some n ∧ a.length ≤ 640 ∧ Q (.int n) H) (tCons (tOp (rIxL K) (tVar 0) (tVar 2)) tNil)) tNil)) σ H' (.int ((kk.natAbs : Nat) : Int)) := fun e h0 h2 => ev_is (ev_abs (ev_intS (ev_op (ev_var h0) (ev_var h2) (rv_ixL (ex_l e hW14) (at_ hxk))) (int_numS hkr) (by omega))) (congrArg V.int (by split <;> omega))
                have ht3 : EvT (tAnd (tTest (tOp rEq (tVar 6) (tC (.int 1)))) (tTest (tOp (rI0 fun i j => .bl (decide (i > j))) (tCB (fun xs H Q => ∃ i, xs = [.int i] ∧ Q (.int (if i < 0 then -i else i)) H) (tCons (tCB (fun xs H Q => ∃ a n, xs = [.str a] ∧ PySem.intText? a = some n ∧ a.length ≤ 640 ∧ Q (.int n) H) (tCons (tOp (rIxL K) (tVar 0) (tVar 2)) tNil)) tNil)) (tVar 1)))) [some (.ref W), some (.int (r : Int)), some (.int ((a + 1 : Nat) : Int)), some (.int ((5 - n' : Nat) : Int)), some (.int ((d + needW z : Nat) : Int)), some (.str z), some (.int ((needW z : Nat) : Int)), some (.ref A2)] H15 (decide (needW z = 1) && decide (r < kk.natAbs)) := by
                  refine et_and (et_is (et_cmp (ev_var rfl) ev_c (rv_eq rfl)) ?_) fun _ => et_is (et_cmp (hab e15 rfl rfl) (ev_var rfl) rv_I0) ?_
                  · rw [decide_eq_decide]
                    exact ⟨fun q => by have := V.int.inj q; omega, fun q => by rw [q]; rfl⟩
                  · rw [decide_eq_decide]
                    omega
                by_cases hbig : needW z = 1 ∧ r < kk.natAbs
                · refine q_yes (et_is ht3 (by rw [decide_eq_true hbig.1, decide_eq_true hbig.2]; rfl)) fun H16 e16 => refuse2 (E14.trans (e15.trans e16)) rfl rfl rfl (h2 kk hN hbig.1 hbig.2)
                · refine q_not (et_is ht3 (by rw [← Bool.decide_and, decide_eq_false hbig])) fun H16 e16 => ?_
                  obtain ⟨g1, g2⟩ := h3 kk hN hbig
                  refine q_asg (v := .int ((r - kk.natAbs * needW z : Nat) : Int)) (ev_is (ev_op (ev_var rfl) (ev_op (hab (e15.trans e16) rfl rfl) (ev_var rfl) (rv_I (.inl ⟨by omega, by omega⟩))) rv_I0) (congrArg V.int (by rw [← Int.natCast_mul]; omega))) fun H17 e17 => ?_
                  refine s_asg (v := .int ((a + 2 : Nat) : Int)) (ev_op (ev_var rfl) ev_c rv_I0) fun H18 e18 => ?_
                  exact ⟨n', Nat.lt_succ_self _, n', a + 2, d + needW z, r - kk.natAbs * needW z, _, _, _, rfl, g1, by omega, by omega, by omega, rfl, E14.trans (((e15.trans e16).trans e17).trans e18)⟩
          · rw [decide_eq_false ha] at hdv
            exact q_yes hdv fun H9 e9 => refuse (E8.trans e9) rfl rfl rfl ha
        · rw [decide_eq_false h7] at hsv
          exact q_yes hsv fun H8 e8 => refuse (E7.trans e8) rfl rfl rfl fun ha => h7 ((able_iff h5).mp ha).1
      · have hd0 : du = 0 := by
          have := of_decide_eq_false hdu
          omega
        subst hd0
        rw [scan_end] at hsc
        refine s_retL (el_lst (vs := [oV (scan 5 ws 1 1 ro).1, .int ((scan 5 ws 1 1 ro).2 : Int)]) (ea_cons ?_ (ea_cons (ev_is (ev_var rfl) (by rw [← hsc])) ea_nil)) (by show 2 ≤ 100000; decide)) fun p H6 hp e6 h6 => k p H6 (fresh_back (eH.trans e5) hp) ((eH.trans e5).trans e6) h6
        have hW5 := ex_l (eH.trans e5) hW
        rw [← hsc]
        dsimp only
        by_cases hal : a < ws.length
        · rw [if_pos hal]
          exact ev_ifT (et_is (et_cmp (ev_var rfl) (ev_lenL (ev_var rfl) hW5) rv_I0) (decide_eq_true (by rw [List.length_map]; omega))) (ev_op (ev_var rfl) ev_c rv_I0)
        · rw [if_neg hal]
          exact ev_ifF (et_is (et_cmp (ev_var rfl) (ev_lenL (ev_var rfl) hW5) rv_I0) (decide_eq_false (by rw [List.length_map]; omega))) ev_c
    · rw [decide_eq_false hb] at hfirst
      rw [if_neg hb] at hT
      have hLD : lineD ws ro = (some 1, ro) := by
        unfold lineD
        rw [hT]
      rw [hLD] at k
      exact q_yes hfirst fun H1 e1 => s_retL (el_lst (ea_cons ev_c (ea_cons (ev_var rfl) ea_nil)) (by show 2 ≤ 100000; decide)) fun p H2 hp e2 h2 => k p H2 (fresh_back e1 hp) (e1.trans e2) h2
end
end WF

set_option Elab.async false
set_option linter.all false
set_option maxRecDepth 100000
set_option maxHeartbeats 1000000
/-! what the law holds to be due -/
namespace WF
open PySem L2 Evl
section
variable {K : PySem.W.Frag} {σ : L2.St} {H : Hp} {ta tb te tl : TE} {tA : TA} {t : TT} {D : Ends} {tz : TS} {x y : V}
theorem q_asgLst {i j : Nat} (h : EvL te σ H [x, y]) (k : ∀ H1, Ex H H1 → tz D ((σ.set i (some x)).set j (some y)) H1) : tSeq (tAsg te (gLst K 2 (gCons (gName i) (gCons (gName j) gNil)))) tz D σ H :=
  h H (Ex.refl H) _ fun p H1 hp e h1 => ⟨p, [x, y], rfl, sq_of h1, rfl, _, _, rfl, _, _, rfl, rfl, k H1 e⟩
theorem s_retT {xs : List V} (h : EvU te σ H xs) (k : ∀ p H1, Ex H H1 → H1 p = some (.tup xs) → D.rt (.ref p) H1) : tRet te D σ H := h H (Ex.refl H) _ fun p H1 _ e h1 => k p H1 e h1
end
section
variable {P : Program} {w : World} {K : PySem.W.Frag} {mg : Str → Option Value} {base : Heap} {C_BadRule C_BadRules C_BadText C_Feast C_Calendar C_Line : Addr} {f : Addr} {fd : FuncData}
theorem dn_lline (T : Txt P w K mg C_BadRule C_BadRules C_BadText C_Feast C_Calendar C_Line) : Dn P w K mg base CX0 "_law_line" 2 ["_law_words_here", "_law_room"] (spLLine K) := T.f_l_line.dn fun _ _ F _ _ => ok_lline F T
def spDue12 (K : PySem.W.Frag) : Sp := fun vs H Q _ => ∃ t : Str, vs = [.str t] ∧ t.length ≤ 10000 ∧ ∀ v H2, Ex H H2 → TolV K H2 v (readT t).told → Q v H2
theorem ok_due12 (F : Fun K "_law_due" "_law_due" s_l_due f fd) (T : Txt P w K mg C_BadRule C_BadRules C_BadText C_Feast C_Calendar C_Line) : FnOk P w K mg base CX0 3 f fd ["_law_text"] (spDue12 K) := by
  have D_l_line : Dn P w K mg base CX0 "_law_line" 2 ["_law_words_here", "_law_room"] (spLLine K) := dn_lline T
  refine F.ok sc_l_due (fun vs H Q E h => ?_) (fun cdv A outer s H vs Q E hr h => ?_)
  · obtain ⟨_, rfl, _⟩ := h
    rfl
  · obtain ⟨t, rfl, hz, k⟩ := h
    refine ⟨_, (pss_cons (ps_set (i := 1) sc_l_due.nd rfl (by first | exact Or.inl rfl | exact Or.inr rfl) (pe_bm PySem.F.plainAttrs_str PySem.F.slot_str_split PySem.F.type_str_split mt_split (pv 0) (pa_cons pe_str pa_nil)))
  (pss_cons (ps_set (i := 2) sc_l_due.nd rfl (by first | exact Or.inl rfl | exact Or.inr rfl) pe_int)
  (pss_cons (ps_for PassesOwn.never rfl (pi_range1 (by rfl) T.range (pa_cons (pe_op op_sub (pe_callB call_len_seq (by rfl) T.len (by decide +kernel) (pa_cons (pv 1) pa_nil)) pe_int) pa_nil)) (pg_name (i := 3) sc_l_due.nd rfl (by first | exact Or.inl rfl | exact Or.inr rfl))
  (pss_cons (ps_if (pt_cmpR op_eq (pv 3) pe_int (nomark _)) (pss_one (ps_ret (pe_tup (pa_cons pe_int (pa_cons pe_int pa_nil)))))
  pss_nil)
  (pss_cons (ps_asg (pe_fn D_l_line (hr.mono (by omega)) pass0 rfl (pa_cons (pe_bm PySem.F.plainAttrs_str PySem.F.slot_str_split PySem.F.type_str_split mt_split (pe_ix ix_list (pv 1) (pv 3) (fun _ _ => rfl)) (pa_cons pe_str pa_nil)) (pa_cons (pv 2) pa_nil))) (pg_lst rfl (pgs_cons (pg_name (i := 4) sc_l_due.nd rfl (by first | exact Or.inl rfl | exact Or.inr rfl)) (pgs_cons (pg_name (i := 2) sc_l_due.nd rfl (by first | exact Or.inl rfl | exact Or.inr rfl)) pgs_nil))))
  (pss_one (ps_if (pt_cmpR op_notN (pv 4) pe_non (nomark _)) (pss_one (ps_ret (pe_tup (pa_cons (pe_op op_add (pv 3) pe_int) (pa_cons (pv 4) pa_nil)))))
  pss_nil)))))
  (pss_one (ps_ret (pe_ifExp (pt_cmpR op_ne (pe_ix ix_list (pv 1) (pe_un un_neg pe_int) (fun _ _ => rfl)) pe_str (nomark _)) (pe_tup (pa_cons (pe_callB call_len_seq (by rfl) T.len (by decide +kernel) (pa_cons (pv 1) pa_nil)) (pa_cons pe_int pa_nil))) pe_non)))))), ?_⟩
    obtain ⟨hne, hsm⟩ := lines_small t
    have hln := lines_len t
    have hrd : (readT t).told = dueS (Txt.split t "\n") := dueS_read _
    rw [hrd] at k
    generalize hls : Txt.split t "\n" = ls at hne hsm hln k
    have hl0 : 0 < ls.length := List.length_pos_iff.mpr hne
    refine q_asgL (el_is (el_split (ev_var rfl) (by decide +kernel) hz) (by rw [hls])) fun L H1 hL e1 hLv => ?_
    refine q_asg ev_c fun H2 e2 => ?_
    have hL2 := e2 _ _ hLv
    have key : ∀ p, dueL ls.dropLast 0 4 = some p → dueS ls = some p := fun p h => by unfold dueS; rw [h]
    refine q_forR1N (n := (ls.length : Int) - 1) (ea_cons (ev_is (ev_op (ev_lenL (ev_var rfl) (sq_of hL2)) ev_c rv_I0) (congrArg V.int (by rw [List.length_map]))) ea_nil) (by omega) (fun i σ H' => ∃ (r : Nat) (a3 a4 : Option V), σ = [some (.str t), some (.ref L), some (.int (r : Int)), a3, a4] ∧ dueL (ls.dropLast.drop i) i r = dueL ls.dropLast 0 4 ∧ r ≤ 4 ∧ Ex H H' ∧ H' L = some (.lst (ls.map V.str))) (fun H3 e3 => ⟨4, _, _, rfl, rfl, Nat.le_refl _, (e1.trans e2).trans e3, e3 _ _ hL2⟩) ?_ ?_
    · rintro i σ' H' hi ⟨r, a3, a4, rfl, hdue, hr4, eH, hLv'⟩
      have hil : i < ls.dropLast.length := by rw [List.length_dropLast]; omega
      obtain ⟨l, hl⟩ : ∃ l, ls.dropLast[i]? = some l := ⟨ls.dropLast[i], List.getElem?_eq_getElem hil⟩
      have hdr : ls.dropLast.drop i = l :: ls.dropLast.drop (i + 1) := by
        obtain ⟨hlt, he⟩ := List.getElem?_eq_some_iff.mp hl
        rw [← he]
        exact List.drop_eq_getElem_cons hlt
      have hlm : l ∈ ls := List.dropLast_subset _ (List.mem_of_getElem? hl)
      have hli : ls[i]? = some l := by
        rw [List.dropLast_eq_take, List.getElem?_take] at hl
        split at hl
        · exact hl
        · cases hl
      rw [hdr, dueL_cons] at hdue
      by_cases h3 : i = 3
      · rw [if_pos h3] at hdue
        rw [key _ hdue.symm] at k
        refine q_yes (et_is (et_cmp (ev_var rfl) ev_c (rv_eq rfl)) (decide_eq_true (by rw [h3]; rfl))) fun H3 e3 => s_retT (eu_tup (ea_cons ev_c (ea_cons ev_c ea_nil)) (by show 2 ≤ 100000; decide)) fun p H4 e4 h4 => k _ H4 ((eH.trans e3).trans e4) ⟨p, rfl, st_of h4⟩
      · rw [if_neg h3] at hdue
        refine q_not (et_is (et_cmp (ev_var rfl) ev_c (rv_eq rfl)) (decide_eq_false (fun q => h3 (by have := V.int.inj q; omega)))) fun H3 e3 => ?_
        have hz' : l.length ≤ 10000 := Nat.le_trans (hsm l hlm) hz
        obtain ⟨wne, _⟩ := words_small l
        have wlen := words_lenS l
        refine q_asgLst (x := oV (lineD (Txt.split l " ") r).1) (y := .int ((lineD (Txt.split l " ") r).2 : Int)) (fun H4 e4 Q q => el_split (ev_op (ev_var rfl) (ev_var rfl) (rv_ixL (sq_of (e3 _ _ hLv')) (atI_nat (by rw [List.getElem?_map, hli]; rfl)))) (by decide +kernel) hz' H4 e4 _ fun W H5 hW e5 hWv => ⟨_, rfl, W, Txt.split l " ", r, rfl, sq_of hWv, List.length_pos_iff.mpr wne, by omega, hr4, fun p H6 hp e6 h6 => q p H6 (fresh_back e5 hp) (e5.trans e6) h6⟩) fun H4 e4 => ?_
        have hroom := lineD_room (Txt.split l " ") r
        cases hD : lineD (Txt.split l " ") r with
        | mk o r' =>
          rw [hD] at hdue hroom
          cases o with
          | some j =>
            dsimp only at hdue
            rw [key _ hdue.symm] at k
            refine s_yes (et_is (et_cmp (ev_var rfl) ev_c rv_notN) rfl) fun H5 e5 => s_retT (eu_tup (ea_cons (ev_op (ev_var rfl) ev_c rv_I0) (ea_cons (ev_var rfl) ea_nil)) (by show 2 ≤ 100000; decide)) fun p H6 e6 h6 => k _ H6 ((((eH.trans e3).trans e4).trans e5).trans e6) ⟨p, rfl, st_of h6⟩
          | none =>
            dsimp only at hdue hroom
            refine s_no (et_is (et_cmp (ev_var rfl) ev_c rv_notN) rfl) fun H5 e5 => ⟨r', _, _, rfl, hdue, Nat.le_trans hroom hr4, ((eH.trans e3).trans e4).trans e5, ((e3.trans e4).trans e5) _ _ hLv'⟩
    · rintro σ' H' ⟨r, a3, a4, rfl, hdue, hr4, eH, hLv'⟩
      have hnil : ls.dropLast.drop ((ls.length : Int) - 1).toNat = [] := by
        refine List.drop_eq_nil_of_le ?_
        rw [List.length_dropLast]
        omega
      rw [hnil] at hdue
      have hdue : none = dueL ls.dropLast 0 4 := hdue
      obtain ⟨z, hz1, hz2⟩ := at_last hne
      have hS : dueS ls = if z = ("" : Str) then none else some (ls.length, 1) := by
        unfold dueS
        rw [← hdue, hz1]
        dsimp only
        by_cases hze : z = ""
        · rw [if_pos hze, if_pos (congrArg some hze)]
        · rw [if_neg hze, if_neg fun e => hze (Option.some.inj e)]
      rw [hS] at k
      have tst : EvT (tTest (tOp rNe (tOp (rIxL K) (tVar 1) (tUn (rU fun i => V.int (-i)) (tC (V.int 1)))) (tC (.str "")))) [some (.str t), some (.ref L), some (.int (r : Int)), a3, a4] H' (!decide (z = "")) := et_is (et_cmp (ev_op (ev_var rfl) (ev_un ev_c ru_neg) (rv_ixL (sq_of hLv') hz2)) ev_c (rv_ne rfl)) (congrArg Bool.not (by rw [decide_eq_decide]; exact ⟨V.str.inj, congrArg V.str⟩))
      by_cases hze : z = ""
      · rw [if_pos hze] at k
        rw [decide_eq_true hze] at tst
        exact s_ret (ev_ifF tst ev_c) fun H3 e3 => k _ H3 (eH.trans e3) rfl
      · rw [if_neg hze] at k
        rw [decide_eq_false hze] at tst
        exact s_retT (eu_ifT tst (eu_tup (ea_cons (ev_is (ev_lenL (ev_var rfl) (sq_of hLv')) (by rw [List.length_map])) (ea_cons ev_c ea_nil)) (by show 2 ≤ 100000; decide))) fun p H3 e3 h3 => k _ H3 (eH.trans e3) ⟨p, rfl, st_of h3⟩
theorem dn_due12 (T : Txt P w K mg C_BadRule C_BadRules C_BadText C_Feast C_Calendar C_Line) : Dn P w K mg base CX0 "_law_due" 3 ["_law_text"] (spDue12 K) := T.f_l_due.dn fun _ _ F _ _ => ok_due12 F T
end
end WF

set_option Elab.async false
set_option linter.all false
set_option maxRecDepth 100000
set_option maxHeartbeats 1000000
/-! words spoilt -/
namespace WF
open PySem L2 Evl TL
theorem cut_takeS {α : Type} {f : α → V} {xs : List α} (k : Nat) : cutV (xs.map f) none (some (k : Int)) = (xs.take k).map f := by
  unfold cutV
  have h1 : HT.sIx (xs.map f).length 0 none = 0 := rfl
  rw [h1, HT.sIx_nat, List.drop_zero, Nat.sub_zero, List.length_map, List.map_take]
  rcases Nat.le_total k xs.length with h | h
  · rw [Nat.min_eq_left h]
  · rw [Nat.min_eq_right h, List.take_of_length_le (by rw [List.length_map]; exact Nat.le_refl _), List.take_of_length_le (by rw [List.length_map]; exact h)]
theorem cut_dropS {α : Type} {f : α → V} {xs : List α} (k : Nat) : cutV (xs.map f) (some (k : Int)) none = (xs.drop k).map f := by
  unfold cutV
  have h1 : HT.sIx (xs.map f).length (xs.map f).length none = (xs.map f).length := rfl
  rw [h1, HT.sIx_nat, List.map_drop]
  rcases Nat.le_total k (xs.map f).length with h | h
  · rw [Nat.min_eq_left h]
    exact List.take_of_length_le (by rw [List.length_drop]; exact Nat.le_refl _)
  · rw [Nat.min_eq_right h, List.drop_eq_nil_of_le (Nat.le_refl _), List.drop_eq_nil_of_le h, List.take_nil]
section
variable {K : PySem.W.Frag} {σ : L2.St} {H : Hp} {ta tb te tl : TE} {tA : TA} {D : Ends} {tz : TS}
theorem tOp_go {r : R2} {Q : VK} (h : ta σ H fun x H1 => tb σ H1 fun y H2 => r x y H2 Q) : tOp r ta tb σ H Q := h
theorem tLst_go {Q : VK} (h : tA σ H fun xs H1 => xs.length ≤ sizeLine ∧ ∀ p, H1 p = none → Q (.ref p) (upd H1 p (.lst xs))) : tLst tA σ H Q := h
theorem tSl_go {r : V → Option Int → Option Int → Hp → VK → Prop} {tp tq : TO} {Q : VK} (h : te σ H fun x H1 => tp σ H1 fun l H2 => tq σ H2 fun u H3 => r x l u H3 Q) : tSl r te tp tq σ H Q := h
theorem tPart_go {Q : Option Int → Hp → Prop} (h : te σ H fun x H1 => ∃ i, x = .int i ∧ Q (some i) H1) : tPart te σ H Q := h
theorem el_catVL {a : Addr} {xs ys : List V} (h1 : Ev ta σ H (.ref a)) (ha : H a = some (.lst xs)) (h2 : EvL tb σ H ys) (hz : xs.length + ys.length ≤ 100000) : EvL (tOp rCat ta tb) σ H (xs ++ ys) := fun H1 e Q q =>
  h1 H1 e _ fun H2 e2 => h2 H2 (e.trans e2) _ fun p2 H3 hp2 e3 k2 => ⟨a, p2, xs, ys, rfl, rfl, ((e.trans e2).trans e3) _ _ ha, k2, Evl.sz_of hz, fun p3 hp3 => q p3 _ (fresh_back (e2.trans e3) hp3) ((e2.trans e3).trans (Ex.new hp3)) upd_same⟩
end
def moreA : List Str := ["plain", "yields", "weekday", "first", "monthday", "behind", "both", "either", "without", "0", "1", "-1"]
def moreB : List Str := ["2", "-2", "-3", "3", "", "x", "00", "-0", "+1", "behind", "both"]
def moreS : List Str := moreA ++ moreB
theorem more_small : ∀ z ∈ moreS, z.length ≤ 40 := by decide +kernel
section
variable {P : Program} {w : World} {K : PySem.W.Frag} {mg : Str → Option Value} {base : Heap} {C_BadRule C_BadRules C_BadText C_Feast C_Calendar C_Line : Addr} {f : Addr} {fd : FuncData}
def spSpoilt (K : PySem.W.Frag) : Sp := fun vs H Q _ => ∃ (d W : Addr) (xs : List V) (ws : List Str), vs = [.ref d, .ref W] ∧ H d = some (.lst xs) ∧ Good xs ∧ H W = some (.lst (ws.map V.str)) ∧ W ≠ d ∧ ws.length ≤ 100 ∧ (∀ x ∈ ws, x.length ≤ 40) ∧
  ∀ (p : Addr) (ws' : List Str) (xs' : List V) (H' : Hp), H p = none → H' p = some (.lst (ws'.map V.str)) → ws'.length ≤ ws.length + 1 → (∀ x ∈ ws', x.length ≤ 40) → Good xs' → ExB d H H' → H' d = some (.lst xs') → Q (.ref p) H'
theorem ok_spoilt (F : Fun K "_law_spoilt" "_law_spoilt" s_l_spoilt f fd) (T : Txt P w K mg C_BadRule C_BadRules C_BadText C_Feast C_Calendar C_Line) : FnOk P w K mg base CX0 3 f fd ["_law_d", "_law_words_here"] (spSpoilt K) := by
  have D_l_below : Dn P w K mg base CX0 "_law_below" 1 ["_law_d", "_law_size"] spBelow := dn_below T
  have D_l_pick : Dn P w K mg base CX0 "_law_pick" 2 ["_law_d", "_law_items"] (spPick K) := dn_pick T
  refine F.ok sc_l_spoilt (fun vs H Q E h => ?_) (fun cdv A outer s H vs Q E hr h => ?_)
  · obtain ⟨_, _, _, _, rfl, _⟩ := h
    rfl
  · obtain ⟨d, W, xs, ws, rfl, hd, hg, hW, hWd, hwl, hws, k⟩ := h
    refine ⟨_, (pss_cons (ps_set (i := 2) sc_l_spoilt.nd rfl (by first | exact Or.inl rfl | exact Or.inr rfl) (pe_lst (pa_cons pe_str (pa_cons pe_str (pa_cons pe_str (pa_cons pe_str (pa_cons pe_str (pa_cons pe_str (pa_cons pe_str (pa_cons pe_str (pa_cons pe_str (pa_cons pe_str (pa_cons pe_str (pa_cons pe_str pa_nil))))))))))))))
  (pss_cons (ps_set (i := 2) sc_l_spoilt.nd rfl (by first | exact Or.inl rfl | exact Or.inr rfl) (pe_op op_cat (pv 2) (pe_lst (pa_cons pe_str (pa_cons pe_str (pa_cons pe_str (pa_cons pe_str (pa_cons pe_str (pa_cons pe_str (pa_cons pe_str (pa_cons pe_str (pa_cons pe_str (pa_cons pe_str (pa_cons pe_str pa_nil))))))))))))))
  (pss_cons (ps_set (i := 3) sc_l_spoilt.nd rfl (by first | exact Or.inl rfl | exact Or.inr rfl) (pe_fn D_l_below (hr.mono (by omega)) pass0 rfl (pa_cons (pv 0) (pa_cons (pe_op op_add (pe_callB call_len_seq (by rfl) T.len (by decide +kernel) (pa_cons (pv 1) pa_nil)) pe_int) pa_nil))))
  (pss_cons (ps_set (i := 4) sc_l_spoilt.nd rfl (by first | exact Or.inl rfl | exact Or.inr rfl) (pe_op op_rep (pe_lst (pa_cons (pe_fn D_l_pick (hr.mono (by omega)) pass0 rfl (pa_cons (pv 0) (pa_cons (pv 2) pa_nil))) pa_nil)) (pe_fn D_l_below (hr.mono (by omega)) pass0 rfl (pa_cons (pv 0) (pa_cons pe_int pa_nil)))))
  (pss_one (ps_ret (pe_op op_cat (pe_op op_cat (pe_slice sl_list (pv 1) po_none (po_some (pv 3))) (pv 4)) (pe_slice sl_list (pv 1) (po_some (pe_op op_add (pv 3) (pe_fn D_l_below (hr.mono (by omega)) pass0 rfl (pa_cons (pv 0) (pa_cons pe_int pa_nil))))) po_none)))))))), ?_⟩
    refine q_asgL (el_lst (vs := moreA.map V.str) (ea_cons ev_c (ea_cons ev_c (ea_cons ev_c (ea_cons ev_c (ea_cons ev_c (ea_cons ev_c (ea_cons ev_c (ea_cons ev_c (ea_cons ev_c (ea_cons ev_c (ea_cons ev_c (ea_cons ev_c ea_nil)))))))))))) (by show 12 ≤ 100000; decide)) fun M0 H1 hM0 e1 hMv0 => ?_
    refine q_asgL (el_is (el_catVL (ev_var rfl) hMv0 (el_lst (vs := moreB.map V.str) (ea_cons ev_c (ea_cons ev_c (ea_cons ev_c (ea_cons ev_c (ea_cons ev_c (ea_cons ev_c (ea_cons ev_c (ea_cons ev_c (ea_cons ev_c (ea_cons ev_c (ea_cons ev_c ea_nil))))))))))) (by show 11 ≤ 100000; decide)) (by show 12 + 11 ≤ 100000; decide)) (show _ = moreS.map V.str from (List.map_append ..).symm)) fun M H2 hM e2 hMv => ?_
    have E2 := e1.trans e2
    have hMd : M ≠ d := (ne_of_none (e1 _ _ hd) hM).symm
    refine q_asgX (below_ev (ev_var rfl) (ev_op (ev_lenL (ev_var rfl) (sq_of (E2 _ _ hW))) ev_c rv_I0) (E2 _ _ hd) hg (by omega) (by rw [List.length_map]; omega) fun at_ xs1 H3 hat hg1 eb3 hd3 => ?_)
    rw [List.length_map] at hat
    have hM3 := eb3 _ _ hMd hMv
    have hW3 := eb3 _ _ hWd (E2 _ _ hW)
    have EB3 : ExB d H H3 := (ExB.of E2).trans eb3
    refine q_asgX (tOp_go (tLst_go (tA_one (call_ev (ea_cons (ev_var rfl) (ea_cons (ev_var rfl) ea_nil)) fun H4 e4 => ⟨d, M, xs1, moreS.map V.str, rfl, e4 _ _ hd3, hg1, sq_of (e4 _ _ hM3), hMd, by decide, by decide, fun y xs2 H5 hy hg2 eb5 hd5 => ?_⟩))))
    obtain ⟨z, hz, rfl⟩ := List.mem_map.mp hy
    have EB5 : ExB d H H5 := (EB3.step e4).trans eb5
    have hW5 := eb5 _ _ hWd (e4 _ _ hW3)
    refine ⟨by show 1 ≤ sizeLine; decide, fun p1 hp1 => ?_⟩
    have hp1d : p1 ≠ d := (ne_of_none hd5 hp1).symm
    have hd6 := (Ex.new (o := .lst [.str z]) hp1) _ _ hd5
    have hW6 := (Ex.new (o := .lst [.str z]) hp1) _ _ hW5
    refine below_ev (n := 2) (ev_var rfl) ev_c hd6 hg2 (by decide) (by decide) fun b xs3 H7 hb hg3 eb7 hd7 => ?_
    have hp17 := eb7 _ _ hp1d upd_same
    have hW7 := eb7 _ _ hWd hW6
    have EB7 : ExB d H H7 := (EB5.step (Ex.new (o := .lst [.str z]) hp1)).trans eb7
    have hfl : (List.replicate ((b : Nat) : Int).toNat [V.str z]).flatten = (List.replicate b z).map V.str := by
      have hb2 : b = 0 ∨ b = 1 := by omega
      rcases hb2 with rfl | rfl <;> rfl
    refine ⟨p1, (b : Int), [.str z], rfl, rfl, hp17, by omega, by omega, Evl.sz_of (by show 1 * _ ≤ 100000; omega), fun So hSo => ?_⟩
    rw [hfl]
    have hSd : So ≠ d := (ne_of_none hd7 hSo).symm
    have hd8 := (Ex.new (o := .lst ((List.replicate b z).map V.str)) hSo) _ _ hd7
    have hW8 := (Ex.new (o := .lst ((List.replicate b z).map V.str)) hSo) _ _ hW7
    have hS8 : upd H7 So (.lst ((List.replicate b z).map V.str)) So = some (.lst ((List.replicate b z).map V.str)) := upd_same
    have EB8 : ExB d H (upd H7 So (.lst ((List.replicate b z).map V.str))) := EB7.step (Ex.new hSo)
    generalize upd H7 So (.lst ((List.replicate b z).map V.str)) = H8 at hd8 hW8 hS8 EB8 ⊢
    refine s_retX (tOp_go (tOp_go ((el_sl (ev_var rfl) eo_none (eo_some (ev_var rfl)) (sq_of hW8)) H8 (Ex.refl H8) _ fun p2 H9 hp2 e9 hv9 => ⟨_, rfl, ?_⟩)))
    rw [cut_takeS] at hv9
    refine ⟨p2, So, _, _, rfl, rfl, hv9, e9 _ _ hS8, Evl.sz_of (by simp only [List.length_map, List.length_take, List.length_replicate]; omega), fun p3 hp3 => ?_⟩
    rw [← List.map_append]
    have hp3v : upd H9 p3 (.lst ((ws.take at_ ++ List.replicate b z).map V.str)) p3 = some (.lst ((ws.take at_ ++ List.replicate b z).map V.str)) := upd_same
    have E10 : Ex H8 (upd H9 p3 (.lst ((ws.take at_ ++ List.replicate b z).map V.str))) := e9.trans (Ex.new hp3)
    have hp3d : p3 ≠ d := (ne_of_none (e9 _ _ hd8) hp3).symm
    generalize upd H9 p3 (.lst ((ws.take at_ ++ List.replicate b z).map V.str)) = H10 at hp3v E10 ⊢
    refine tSl_go ⟨_, rfl, tPart_go (tOp_go ⟨_, rfl, below_ev (n := 2) (ev_var rfl) ev_c (E10 _ _ hd8) hg3 (by decide) (by decide) fun c xs4 H11 hc hg4 eb11 hd11 => ⟨_, _, rfl, rfl, _, rfl, ?_⟩⟩)⟩
    have hW11 := eb11 _ _ hWd (E10 _ _ hW8)
    have hp311 := eb11 _ _ hp3d hp3v
    have EB11 : ExB d H H11 := (EB8.step E10).trans eb11
    refine ⟨W, _, rfl, sq_of hW11, fun p4 hp4 => ?_⟩
    rw [show ((at_ : Nat) : Int) + ((c : Nat) : Int) = ((at_ + c : Nat) : Int) from rfl, cut_dropS]
    have hp34 : p3 ≠ p4 := ne_of_none hp311 hp4
    have hp3v4 : upd H11 p4 (.lst ((ws.drop (at_ + c)).map V.str)) p3 = some (.lst ((ws.take at_ ++ List.replicate b z).map V.str)) := by rw [upd_ne hp34]; exact hp311
    refine ⟨p3, p4, _, _, rfl, rfl, hp3v4, upd_same, Evl.sz_of (by simp only [List.length_map, List.length_append, List.length_take, List.length_replicate, List.length_drop]; omega), fun p5 hp5 => ?_⟩
    rw [← List.map_append]
    have EX : Ex H11 (upd (upd H11 p4 (.lst ((ws.drop (at_ + c)).map V.str))) p5 (.lst ((ws.take at_ ++ List.replicate b z ++ ws.drop (at_ + c)).map V.str))) := (Ex.new hp4).trans (Ex.new hp5)
    refine k p5 _ xs4 _ ?_ upd_same ?_ ?_ hg4 (EB11.step EX) (EX _ _ hd11)
    · cases h : H p5 with
      | none => rfl
      | some o =>
        have hne : p5 ≠ d := fun q => by
          rw [q] at hp5
          rw [(Ex.new (o := .lst ((ws.drop (at_ + c)).map V.str)) hp4) _ _ hd11] at hp5
          cases hp5
        rw [(EB11.step (Ex.new hp4)) _ _ hne h] at hp5
        cases hp5
    · simp only [List.length_append, List.length_take, List.length_replicate, List.length_drop]
      omega
    · intro x hx
      rcases List.mem_append.mp hx with hx | hx
      · rcases List.mem_append.mp hx with hx | hx
        · exact hws x (List.mem_of_mem_take hx)
        · rw [List.eq_of_mem_replicate hx]
          exact more_small z hz
      · exact hws x (List.mem_of_mem_drop hx)
theorem dn_spoilt (T : Txt P w K mg C_BadRule C_BadRules C_BadText C_Feast C_Calendar C_Line) : Dn P w K mg base CX0 "_law_spoilt" 3 ["_law_d", "_law_words_here"] (spSpoilt K) := T.f_l_spoilt.dn fun _ _ F _ _ => ok_spoilt F T
end
end WF

set_option Elab.async false
set_option linter.all false
set_option maxRecDepth 100000
set_option maxHeartbeats 1000000
/-! steps of the law -/
namespace WF
open PySem L2 Evl TL
/-! signs of lines are plain -/
theorem words_all {Pp : Str → Prop} (hw : ∀ z ∈ seven, Pp z) (hn : ∀ k : Int, -3 ≤ k → k ≤ 2 → Pp (numS k)) : ∀ r : Rl, r.fit = true → ∀ x ∈ wordsR r, Pp x
  | .wk k, hf, x, hx => by
    have hk := of_decide_eq_true hf
    simp only [wordsR, List.mem_cons, List.not_mem_nil, or_false] at hx
    rcases hx with rfl | rfl
    · exact hw _ (by decide +kernel)
    · exact hn _ (by omega) (by omega)
  | .fs k, hf, x, hx => by
    have hk := of_decide_eq_true hf
    simp only [wordsR, List.mem_cons, List.not_mem_nil, or_false] at hx
    rcases hx with rfl | rfl
    · exact hw _ (by decide +kernel)
    · exact hn _ (by omega) (by omega)
  | .md k, hf, x, hx => by
    have hk := of_decide_eq_true hf
    simp only [wordsR, List.mem_cons, List.not_mem_nil, or_false] at hx
    rcases hx with rfl | rfl
    · exact hw _ (by decide +kernel)
    · exact hn _ (by omega) (by omega)
  | .bh r b, hf, x, hx => by
    simp only [Rl.fit, Bool.and_eq_true] at hf
    have hb := of_decide_eq_true hf.1
    simp only [wordsR, List.mem_cons] at hx
    rcases hx with rfl | rfl | hx
    · exact hw _ (by decide +kernel)
    · exact hn _ (by omega) (by omega)
    · exact words_all hw hn r hf.2 x hx
  | .bo a b, hf, x, hx => by
    simp only [Rl.fit, Bool.and_eq_true] at hf
    simp only [wordsR, List.mem_cons, List.mem_append] at hx
    rcases hx with rfl | hx | hx
    · exact hw _ (by decide +kernel)
    · exact words_all hw hn a hf.1 x hx
    · exact words_all hw hn b hf.2 x hx
  | .ei a b, hf, x, hx => by
    simp only [Rl.fit, Bool.and_eq_true] at hf
    simp only [wordsR, List.mem_cons, List.mem_append] at hx
    rcases hx with rfl | hx | hx
    · exact hw _ (by decide +kernel)
    · exact words_all hw hn a hf.1 x hx
    · exact words_all hw hn b hf.2 x hx
  | .wo a b, hf, x, hx => by
    simp only [Rl.fit, Bool.and_eq_true] at hf
    simp only [wordsR, List.mem_cons, List.mem_append] at hx
    rcases hx with rfl | hx | hx
    · exact hw _ (by decide +kernel)
    · exact words_all hw hn a hf.1 x hx
    · exact words_all hw hn b hf.2 x hx
theorem line_plain {r : Rl × Bool} (hf : r.1.fit = true) : PyData.strOk (lineS r) = true := by
  have hw : ∀ x ∈ lineW r, ∀ c ∈ tl x, c < 256 := by
    intro x hx
    rcases List.mem_cons.mp hx with rfl | hx
    · cases r.2 <;> decide +kernel
    · refine words_all (Pp := fun x => ∀ c ∈ tl x, c < 256) (by decide +kernel) (fun k h1 h2 => ?_) r.1 hf x hx
      rcases num_cases ⟨h1, h2⟩ with rfl | rfl | rfl | rfl | rfl | rfl <;> decide +kernel
  unfold PyData.strOk
  rw [← Array.all_toList, List.all_eq_true]
  intro c hc
  have h : c ∈ tl (Txt.join " " (lineW r)) := hc
  rw [join_eq, tl_join] at h
  refine decide_eq_true ?_
  rcases joinL_mem h with h | ⟨p, hp, h⟩
  · exact (by decide +kernel : ∀ c ∈ tl (" " : Str), c < 0x110000) c h
  · obtain ⟨z, hz, rfl⟩ := List.mem_map.mp hp
    have := hw z hz c h
    omega
theorem dp_strsL {K : PySem.W.Frag} {H : Hp} : ∀ ss : List Str, DpAll K H (ss.map V.str) (ss.map PyData.str)
  | [] => .nil
  | s :: ss => .cons (.str s) (dp_strsL ss)
theorem strs_shaped {ss : List Str} (h : ∀ x ∈ ss, PyData.strOk x = true) : SeqAt.shaped (.list (ss.map PyData.str)) = true := by
  have h1 : ∀ ss : List Str, (∀ x ∈ ss, PyData.strOk x = true) → PyData.canLayAll0 (ss.map PyData.str) = true := by
    intro ss
    induction ss with
    | nil => intro _; rfl
    | cons a ss ih =>
      intro h
      simp only [List.map_cons, PyData.canLayAll0, PyData.canLay0, h a List.mem_cons_self, ih fun x hx => h x (List.mem_cons_of_mem _ hx), Bool.and_self]
  have h2 : ∀ ss : List Str, PyData.depthAll (ss.map PyData.str) ≤ 2 := by
    intro ss
    induction ss with
    | nil => simp [PyData.depthAll]
    | cons a ss ih =>
      simp only [List.map_cons, PyData.depthAll, PyData.depth]
      omega
  unfold SeqAt.shaped
  have h3 := h2 ss
  have h4 : (PyData.list (ss.map PyData.str)).canLay0 = true := by
    simp only [PyData.canLay0]
    exact h1 ss h
  rw [h4, Bool.true_and, decide_eq_true_iff]
  simp only [PyData.depth]
  omega
theorem eqv_strs_nil : ∀ ss : List Str, PyData.eqv (.list (ss.map PyData.str)) (.list []) = decide (ss = [])
  | [] => rfl
  | _ :: _ => rfl
section
variable {K : PySem.W.Frag} {σ : L2.St} {H : Hp} {ta tb te tl : TE} {tA : TA} {D : Ends} {tz : TS}
theorem ev_neStrNil {a : Addr} {ss : List Str} (h : Ev ta σ H (.ref a)) (ha : H a = some (.lst (ss.map V.str))) (hs : ∀ x ∈ ss, PyData.strOk x = true) : Ev (tOp (rNeD K) ta (tLst tNil)) σ H (.bl (!decide (ss = []))) :=
  ev_opL h (el_lst ea_nil (Nat.zero_le _)) fun p H1 hp e1 H2 e2 Q q => ⟨.list (ss.map PyData.str), .list [], .lst (sq_of ((e1.trans e2) _ _ ha)) (dp_strsL ss), .lst (sq_of (e2 _ _ hp)) .nil, strs_shaped hs, PySem.W.ke_shaped_ints [], by
    rw [eqv_strs_nil]
    exact q H2 (Ex.refl H2)⟩
theorem ev_toldX {E : XK} {t : Str} (h : Ev ta σ H (.str t)) (hz : t.length ≤ 10000) : EvX (tCall (spTold12 K) [] E (tCons ta tNil)) σ H fun v H2 => TolV K H2 v (readT t).told := fun H1 e Q q =>
  h H1 e _ fun H2 e2 => ⟨t, rfl, hz, fun v H3 e3 hv => q v H3 (e2.trans e3) hv⟩
theorem ev_dueX {E : XK} {t : Str} (h : Ev ta σ H (.str t)) (hz : t.length ≤ 10000) : EvX (tCall (spDue12 K) [] E (tCons ta tNil)) σ H fun v H2 => TolV K H2 v (readT t).told := fun H1 e Q q =>
  h H1 e _ fun H2 e2 => ⟨t, rfl, hz, fun v H3 e3 hv => q v H3 (e2.trans e3) hv⟩
theorem tol_eqAt {u v : V} {o : Option (Nat × Nat)} (h1 : TolV K H u o) (h2 : TolV K H v o) : EqAt K H 2 u v := by
  cases o with
  | none =>
    cases h1
    cases h2
    exact .inl .non
  | some z =>
    obtain ⟨p, rfl, hp⟩ := h1
    obtain ⟨q, rfl, hq⟩ := h2
    refine .inr ⟨p, q, _, _, rfl, rfl, .inr ⟨hp, hq⟩, rfl, by show 2 ≤ 40000; decide, fun i x y hx hy => ?_⟩
    rw [hx] at hy
    cases hy
    match i, hx with
    | 0, hx => cases hx; exact .inl (.int _)
    | 1, hx => cases hx; exact .inl (.int _)
    | i + 2, hx => simp at hx
theorem et_equal12 {E : XK} {o : Option (Nat × Nat)} (h1 : EvX ta σ H fun v H2 => TolV K H2 v o) (h2 : ∀ H1, Ex H H1 → EvX tb σ H1 fun v H2 => TolV K H2 v o) : EvT (tB (tCall (spEqualN K 2) [] E (tCons ta (tCons tb tNil)))) σ H true := et_B fun H1 e Q q =>
  h1 H1 e _ fun u H2 e2 hu => h2 H2 (e.trans e2) H2 (Ex.refl H2) _ fun v H3 e3 hv => ⟨u, v, rfl, tol_eqAt (hu.mono e3) hv, fun H4 e4 => q H4 ((e2.trans e3).trans e4)⟩
def tolD : Option (Nat × Nat) → PyData
  | none => .none
  | some (i, j) => .tuple [.int (i : Int), .int (j : Int)]
theorem tol_dp {v : V} {o : Option (Nat × Nat)} (h : TolV K H v o) : Dp K H v (tolD o) := by
  cases o with
  | none =>
    cases h
    exact .non
  | some z =>
    obtain ⟨p, rfl, hp⟩ := h
    exact .tup hp (.cons (.int _) (.cons (.int _) .nil))
theorem tolD_eqv : ∀ o : Option (Nat × Nat), PyData.eqv (tolD o) (tolD o) = true ∧ SeqAt.shaped (tolD o) = true
  | none => ⟨rfl, rfl⟩
  | some (i, j) => ⟨by simp [tolD, PyData.eqv, PyData.eqvAll], by
      simp [tolD, SeqAt.shaped, PyData.canLay0, PyData.canLayAll0, PyData.depth, PyData.depthAll]⟩
theorem ev_eqTol {o : Option (Nat × Nat)} (h1 : EvX ta σ H fun v H2 => TolV K H2 v o) (h2 : ∀ H1, Ex H H1 → EvX tb σ H1 fun v H2 => TolV K H2 v o) : Ev (tOp (rEqD K) ta tb) σ H (.bl true) := fun H1 e Q q =>
  h1 H1 e _ fun u H2 e2 hu => h2 H2 (e.trans e2) H2 (Ex.refl H2) _ fun v H3 e3 hv => ⟨tolD o, tolD o, tol_dp (hu.mono e3), tol_dp hv, (tolD_eqv o).2, (tolD_eqv o).2, by rw [(tolD_eqv o).1]; exact q H3 (e2.trans e3)⟩
/-- "".join([line + "\n" for line in lines]) -/
theorem nl_size {ls : List Str} (h : ∀ x ∈ ls, x.length ≤ 700) (hl : ls.length ≤ 6) : ((ls.map fun (r : Str) => r ++ ("\n" : Str)).map (·.length)).sum + (ls.map fun (r : Str) => r ++ ("\n" : Str)).length * ("" : Str).length ≤ 10000 := by
  have h2 := sum_le (ls := (ls.map fun (r : Str) => r ++ ("\n" : Str)).map (·.length)) (n := 701) fun x hx => by
    obtain ⟨z, hz, rfl⟩ := List.mem_map.mp hx
    obtain ⟨r, hr, rfl⟩ := List.mem_map.mp hz
    have := h r hr
    rw [TL.len_tl, TL.tl_append, List.length_append, ← TL.len_tl]
    show r.length + 1 ≤ 701
    omega
  have h3 : ("" : Str).length = 0 := by decide +kernel
  rw [h3, Nat.mul_zero]
  rw [List.length_map, List.length_map] at h2
  omega
def textL (ls : List Str) : Str := Txt.join "" (ls.map fun (r : Str) => r ++ ("\n" : Str))
theorem textL_len {ls : List Str} (h : ∀ x ∈ ls, x.length ≤ 700) (hl : ls.length ≤ 6) : (textL ls).length ≤ 10000 := Nat.le_trans (join_len _ _) (nl_size h hl)
theorem ev_textL {ls : List Str} {l : Addr} {j : Nat} (h : Ev ta σ H (.ref l)) (hS : SqL K H l (ls.map V.str)) (hok : ∀ x ∈ ls, x.length ≤ 700) (hl : ls.length ≤ 6)
    (hw : ∀ x, wipe ((wipe σ [j]).set j (some x)) [j] = wipe σ [j]) (hj : ∀ x, ((wipe σ [j]).set j (some x))[j]? = some (some x)) :
    Ev (tBM K "str" (rJoin K) (tC (.str "")) (tCons (tLc (iList K ta) (gName j) tYes (tOp (fun x y H Q => ∃ i j, x = .str i ∧ y = .str j ∧ i.length + j.length ≤ sizeLine ∧ Q (.str (i ++ j)) H) (tVar j) (tC (.str "\n"))) [j]) tNil)) σ H (.str (textL ls)) := by
  refine ev_join (ys := ls.map fun (r : Str) => r ++ ("\n" : Str)) (el_is (el_lcL (xs := ls.map V.str) (fun _ => true) (fun i => .str (ls.getD i "" ++ "\n")) h hS (by rw [List.length_map]; omega) hw (fun _ _ _ _ _ => et_yes) (fun i x H2 e2 hx _ => ?_)) (show _ = (ls.map fun (r : Str) => r ++ ("\n" : Str)).map V.str from ?_)) (Nat.le_trans (nl_size hok hl) (by decide))
  · rw [List.getElem?_map] at hx
    cases e : ls[i]? with
    | none => rw [e] at hx; cases hx
    | some z =>
      rw [e] at hx
      cases hx
      have hz := hok z (List.mem_of_getElem? e)
      rw [List.getD_eq_getElem?_getD, e]
      exact ev_op (ev_var (hj _)) ev_c (rv_addS (by have : ("\n" : Str).length = 1 := by decide +kernel
                                                    omega))
  · rw [given_allL, List.length_map, List.map_map]
    apply List.ext_getElem
    · simp
    · intro i h1 h2
      have hi : i < ls.length := by simpa using h1
      simp [List.getD_eq_getElem?_getD, List.getElem?_eq_getElem hi]
theorem el_rep {xs : List V} {n : Nat} (h : EvL ta σ H xs) (hn : n ≤ 100) (hx : xs.length ≤ 100) : EvL (tOp rRep ta (tC (.int (n : Int)))) σ H (List.replicate n xs).flatten := fun H1 e Q q =>
  h H1 e _ fun p H2 hp e2 h2 => ⟨p, (n : Int), xs, rfl, rfl, h2, by omega, by omega, Evl.sz_of (by
    rw [Int.toNat_natCast]
    exact Nat.le_trans (Nat.mul_le_mul hx hn) (by decide)), fun p3 hp3 => q p3 _ (fresh_back e2 hp3) (e2.trans (Ex.new hp3)) (by rw [Int.toNat_natCast]; exact upd_same)⟩
theorem q_forBelow {tu : TS} {d : Addr} {xs : List V} {c : Int} {E : XK} {j : Nat} (h0 : Ev ta σ H (.ref d)) (hb : Ev tb σ H (.int c)) (hd : H d = some (.lst xs)) (hg : Good xs) (h1 : 1 ≤ c) (h2 : c ≤ 1000)
    (k : ∀ (n : Nat) xs' H', (n : Int) < c → Good xs' → ExB d H H' → H' d = some (.lst xs') → ∃ Pv : Nat → L2.St → Hp → Prop, Pv 0 σ H' ∧
      (∀ (i : Nat) σ' H', i < n → Pv i σ' H' → tu { D with nx := Pv (i + 1), ct := Pv (i + 1), bk := tz D } (σ'.set j (some (.int (i : Int)))) H') ∧ (∀ σ' H', Pv n σ' H' → tz D σ' H')) :
    tSeq (tFor (iRng1 (tCons (tCall spBelow [] E (tCons ta (tCons tb tNil))) tNil)) (gName j) tu) tz D σ H := by
  unfold tSeq tFor iRng1
  refine below_ev h0 hb hd hg h1 (by omega) fun n xs' H' hn hg' eb hd' => ?_
  obtain ⟨Pv, p0, hs, hd⟩ := k n xs' H' hn hg' eb hd'
  refine ⟨(n : Int), rfl, by omega, by omega, ?_⟩
  rw [Int.toNat_natCast]
  exact for_range (lo := 0) (n := n) Pv p0 (fun i σ' H' hi p => by
    have e0 : (0 : Int) + (i : Int) = (i : Int) := Int.zero_add _
    show tu { D with nx := Pv (i + 1), ct := Pv (i + 1), bk := tz D } (σ'.set j (some (.int ((0 : Int) + (i : Int))))) H'
    rw [e0]
    exact hs i σ' H' hi p) hd
theorem tNoPart_go {Q : Option Int → Hp → Prop} (h : Q none H) : tNoPart σ H Q := h
theorem call_go {sp : Sp} {E : XK} {Q : VK} (h : tA σ H fun vs H1 => sp (vs ++ []) H1 Q E) : tCall sp [] E tA σ H Q := h
theorem str_len (a b : Str) : (a ++ b).length = a.length + b.length := by rw [TL.len_tl, TL.tl_append, List.length_append, ← TL.len_tl, ← TL.len_tl]
theorem ev_lenStr {z : Str} (h : Ev ta σ H (.str z)) (hz : z.length ≤ 10000) : Ev (tCB (fun xs H Q => ∃ z, xs = [.str z] ∧ z.length ≤ sizeLine ∧ Q (.int z.length) H) (tCons ta tNil)) σ H (.int (z.length : Int)) := fun H1 e Q q => h H1 e _ fun H2 e2 => ⟨z, rfl, Nat.le_trans hz (by decide), q H2 e2⟩
theorem s_ifX {t : TT} {tu tw : TS} (h : t σ H fun b H1 => if b = true then tu D σ H1 else tw D σ H1) : tIfS t tu tw D σ H := h
end
end WF

set_option Elab.async false
set_option linter.all false
set_option maxRecDepth 100000
set_option maxHeartbeats 4000000
/-! the law itself -/
namespace WF
open PySem L2 Evl TL
section
variable {P : Program} {w : World} {K : PySem.W.Frag} {mg : Str → Option Value} {base : Heap} {C_BadRule C_BadRules C_BadText C_Feast C_Calendar C_Line : Addr} {f : Addr} {fd : FuncData}
def spLaw (K : PySem.W.Frag) : Sp := fun vs H Q _ => ∃ (a : Addr) (ns : List Int), vs = [.ref a] ∧ SqL K H a (ns.map V.int) ∧ ns.length ≤ 63 ∧ ∀ H', Q (.bl true) H'
theorem ok_law (F : Fun K "law" "law" s_law f fd) (T : Txt P w K mg C_BadRule C_BadRules C_BadText C_Feast C_Calendar C_Line) (CF : Cls1 K C_Feast ["told", "bys"]) (IF : ClsI K C_Feast) (CC : Cls1 K C_Calendar ["rows", "near"]) (CI : Cls1 K C_Line lineFs) : FnOk P w K mg base CX0 17 f fd ["_law_script"] (spLaw K) := by
  have D_l_random : Dn P w K mg base CX0 "_law_random" 1 ["_law_script", "_law_salt"] (spRandom K) := dn_random T
  have D_l_below : Dn P w K mg base CX0 "_law_below" 1 ["_law_d", "_law_size"] spBelow := dn_below T
  have D_l_pick : Dn P w K mg base CX0 "_law_pick" 2 ["_law_d", "_law_items"] (spPick K) := dn_pick T
  have D_l_rows : Dn P w K mg base CX0 "_law_rows" 10 ["_law_d", "_law_many", "_law_parts"] (spRows K) := dn_rows T
  have D_l_lines : Dn P w K mg base CX0 "_law_lines" 8 ["_law_rows_here"] (spLines K) := dn_lines T
  have D_l_spoilt : Dn P w K mg base CX0 "_law_spoilt" 3 ["_law_d", "_law_words_here"] (spSpoilt K) := dn_spoilt T
  have D_l_told : Dn P w K mg base CX0 "_law_told" 16 ["_law_text"] (spTold12 K) := dn_told12 T CF IF CC CI
  have D_l_due : Dn P w K mg base CX0 "_law_due" 3 ["_law_text"] (spDue12 K) := dn_due12 T
  have D_l_equal : Dn P w K mg base CX0 "_law_equal" 3 ["_law_actual", "_law_expected"] (spEqualN K 2) := dn_lequalN T 2
  refine F.ok sc_law (fun vs H Q E h => ?_) (fun cdv A outer s H vs Q E hr h => ?_)
  · obtain ⟨_, _, rfl, _⟩ := h
    rfl
  · obtain ⟨a, ns, rfl, hA, hn, k⟩ := h
    have hr1 : Room 1 _ := hr.mono (by omega)
    refine ⟨_, (pss_cons (ps_set (i := 1) sc_law.nd rfl (by first | exact Or.inl rfl | exact Or.inr rfl) (pe_fn D_l_random (hr.mono (by omega)) pass0 rfl (pa_cons (pv 0) (pa_cons pe_int pa_nil))))
  (pss_cons (ps_for PassesOwn.never rfl (pi_range1 (by rfl) T.range (pa_cons pe_int pa_nil)) (pg_name (i := 2) sc_law.nd rfl (by first | exact Or.inl rfl | exact Or.inr rfl))
  (pss_cons (ps_set (i := 3) sc_law.nd rfl (by first | exact Or.inl rfl | exact Or.inr rfl) (pe_fn D_l_lines (hr.mono (by omega)) pass0 rfl (pa_cons (pe_fn D_l_rows (hr.mono (by omega)) pass0 rfl (pa_cons (pv 1) (pa_cons (pe_fn D_l_below (hr.mono (by omega)) pass0 rfl (pa_cons (pv 1) (pa_cons pe_int pa_nil))) (pa_cons pe_int pa_nil)))) pa_nil)))
  (Evl.pss_cut (ps_if (pt_cmpR (op_neD hr1.units) (pv 3) (pe_lst pa_nil) (nomark _)) (pss_cons (ps_set (i := 4) sc_law.nd rfl (by first | exact Or.inl rfl | exact Or.inr rfl) (pe_fn D_l_below (hr.mono (by omega)) pass0 rfl (pa_cons (pv 1) (pa_cons (pe_callB call_len_seq (by rfl) T.len (by decide +kernel) (pa_cons (pv 3) pa_nil)) pa_nil))))
  (pss_cons (ps_set (i := 5) sc_law.nd rfl (by first | exact Or.inl rfl | exact Or.inr rfl) (pe_bm PySem.F.plainAttrs_str PySem.F.slot_str_split PySem.F.type_str_split mt_split (pe_ix ix_list (pv 3) (pv 4) (fun _ _ => rfl)) (pa_cons pe_str pa_nil)))
  (pss_cons (ps_for PassesOwn.never rfl (pi_range1 (by rfl) T.range (pa_cons (pe_fn D_l_below (hr.mono (by omega)) pass0 rfl (pa_cons (pv 1) (pa_cons pe_int pa_nil))) pa_nil)) (pg_name (i := 6) sc_law.nd rfl (by first | exact Or.inl rfl | exact Or.inr rfl))
  (pss_one (ps_set (i := 5) sc_law.nd rfl (by first | exact Or.inl rfl | exact Or.inr rfl) (pe_fn D_l_spoilt (hr.mono (by omega)) pass0 rfl (pa_cons (pv 1) (pa_cons (pv 5) pa_nil))))))
  (pss_one (ps_asg (pe_bm PySem.F.plainAttrs_str PySem.F.slot_str_join PySem.F.type_str_join mt_join pe_str (pa_cons (pv 5) pa_nil)) (pg_sub (pv 3) (pv 4) set_list))))))
  pss_nil)
  (Evl.pss_cut (ps_if (pt_cmpR op_eq (pe_fn D_l_below (hr.mono (by omega)) pass0 rfl (pa_cons (pv 1) (pa_cons pe_int pa_nil))) pe_int (nomark _)) (pss_one (ps_set (i := 3) sc_law.nd rfl (by first | exact Or.inl rfl | exact Or.inr rfl) (pe_op op_cat (pv 3) (pe_fn D_l_pick (hr.mono (by omega)) pass0 rfl (pa_cons (pv 1) (pa_cons (pe_lst (pa_cons (pe_op op_rep (pe_lst (pa_cons pe_str pa_nil)) pe_int) (pa_cons (pe_lst (pa_cons pe_str pa_nil)) (pa_cons (pe_lst (pa_cons pe_str pa_nil)) (pa_cons (pv 3) pa_nil))))) pa_nil))))))
  pss_nil)
  (pss_cons (ps_set (i := 7) sc_law.nd rfl (by first | exact Or.inl rfl | exact Or.inr rfl) (pe_bm PySem.F.plainAttrs_str PySem.F.slot_str_join PySem.F.type_str_join mt_join pe_str (pa_cons (pe_lc (own := [("_law_line_here", 10)]) (g := gName 10) (tt := tYes) rfl sc_law.nd (pi_list (pv 3)) (blkOk_by (own := [("_law_line_here", 10)]) (N := ["_law_script", "_law_d", "_law_k", "_law_lines_here", "_law_pick_here", "_law_words_here", "_law_turn", "_law_text", "_law_deep", "_law_wide", "_law_line_here"]) (sc := defScope s_law) (by decide +kernel)) (fun _ _ _ _ _ => (pg_name (i := 10) sc_law.nd rfl (by first | exact Or.inl rfl | exact Or.inr rfl))) (fun _ _ _ _ _ => pts_nil) (fun _ _ _ _ _ => (pe_op op_add_str (pv 10) pe_str))) pa_nil)))
  (pss_cons (ps_set (i := 7) sc_law.nd rfl (by first | exact Or.inl rfl | exact Or.inr rfl) (pe_slice sl_str (pv 7) po_none (po_some (pe_fn D_l_pick (hr.mono (by omega)) pass0 rfl (pa_cons (pv 1) (pa_cons (pe_lst (pa_cons (pe_callB call_len_str (by rfl) T.len (by decide +kernel) (pa_cons (pv 7) pa_nil)) (pa_cons (pe_callB call_len_str (by rfl) T.len (by decide +kernel) (pa_cons (pv 7) pa_nil)) (pa_cons (pe_fn D_l_below (hr.mono (by omega)) pass0 rfl (pa_cons (pv 1) (pa_cons (pe_op op_add (pe_callB call_len_str (by rfl) T.len (by decide +kernel) (pa_cons (pv 7) pa_nil)) pe_int) pa_nil))) pa_nil)))) pa_nil))))))
  (pss_one (ps_if (pt_not (pt_val (pe_fn D_l_equal (hr.mono (by omega)) pass0 rfl (pa_cons (pe_fn D_l_told (hr.mono (by omega)) pass0 rfl (pa_cons (pv 7) pa_nil)) (pa_cons (pe_fn D_l_due (hr.mono (by omega)) pass0 rfl (pa_cons (pv 7) pa_nil)) pa_nil))))) (pss_one (ps_ret pe_bl))
  pss_nil))))))))
  (pss_cons (ps_set (i := 8) sc_law.nd rfl (by first | exact Or.inl rfl | exact Or.inr rfl) (pe_op op_add_str (pe_op op_add_str pe_str (pe_op op_srep pe_str (pe_op op_add pe_int (pe_fn D_l_below (hr.mono (by omega)) pass0 rfl (pa_cons (pv 1) (pa_cons pe_int pa_nil)))))) pe_str))
  (pss_cons (ps_set (i := 9) sc_law.nd rfl (by first | exact Or.inl rfl | exact Or.inr rfl) (pe_op op_add_str (pe_op op_add_str pe_str (pe_op op_srep pe_str (pe_op op_add pe_int (pe_fn D_l_below (hr.mono (by omega)) pass0 rfl (pa_cons (pv 1) (pa_cons pe_int pa_nil)))))) pe_str))
  (pss_one (ps_ret (pe_and (pe_cmpR (op_eqD hr1.units) (pe_fn D_l_told (hr.mono (by omega)) pass0 rfl (pa_cons (pv 8) pa_nil)) (pe_fn D_l_due (hr.mono (by omega)) pass0 rfl (pa_cons (pv 8) pa_nil)) (nomark _)) (pe_one (pe_cmpR (op_eqD hr1.units) (pe_fn D_l_told (hr.mono (by omega)) pass0 rfl (pa_cons (pe_op op_srep (pv 9) pe_int) pa_nil)) (pe_fn D_l_due (hr.mono (by omega)) pass0 rfl (pa_cons (pe_op op_srep (pv 9) pe_int) pa_nil)) (nomark _)))))))))), ?_⟩
    refine q_call (ea_cons (ev_var rfl) (ea_cons ev_c ea_nil)) fun H1 e1 => ⟨a, ns, 612, rfl, ex_l e1 hA, hn, by decide, by decide, fun d H2 xs hg hd0 e2 hd => ?_⟩
    refine q_forR1N (n := 4) (ea_cons ev_c ea_nil) (by decide) (fun i σ H' => ∃ a2 a3 a4 a5 a6 a7 a8 a9 a10 xs, σ = [some (.ref a), some (.ref d), a2, a3, a4, a5, a6, a7, a8, a9, a10] ∧ H' d = some (.lst xs) ∧ Good xs) (fun H3 e3 => ⟨_, _, _, _, _, _, _, _, _, xs, rfl, e3 _ _ hd, hg⟩) ?_ ?_
    · rintro i σ' H' hi ⟨a2, a3, a4, a5, a6, a7, a8, a9, a10, xs, rfl, hd, hg⟩
      refine q_asgX ?_
      refine ⟨_, rfl, below_ev (ev_var rfl) ev_c hd hg (by decide) (by decide) fun many xs1 H4 hm hg1 eb1 hd1 => ⟨d, xs1, many, 5, rfl, hd1, hg1, by omega, by decide, by decide, fun R ys rows xs2 H5 hR0 hR hraw hlen hok hg2 eb2 hd2 => ?_⟩⟩
      have hl3 : rows.length ≤ 3 := by omega
      refine ⟨R, ys, rows, rfl, sq_of hR, hraw, hok.fit, hl3, fun Ln H6 hLn e6 hLv => ?_⟩
      have hd6 := e6 _ _ hd2
      have hLd : Ln ≠ d := (ne_of_none hd2 hLn).symm
      have hlsl : (rows.map lineS).length ≤ 3 := by rw [List.length_map]; exact hl3
      have hls : ∀ x ∈ rows.map lineS, x.length ≤ 700 := fun x hx => by
        obtain ⟨r, hr', rfl⟩ := List.mem_map.mp hx
        exact Nat.le_trans (line_len (hok.fit r hr').1 (hok.fit r hr').2) (by decide)
      have hpl : ∀ x ∈ rows.map lineS, PyData.strOk x = true := fun x hx => by
        obtain ⟨r, hr', rfl⟩ := List.mem_map.mp hx
        exact line_plain (hok.fit r hr').1
      refine q_cut (M := fun σ' H' => ∃ (a4 a5 a6 : Option V) (ls : List Str) (xs : List V), σ' = [some (.ref a), some (.ref d), some (.int (i : Int)), some (.ref Ln), a4, a5, a6, a7, a8, a9, a10] ∧ H' d = some (.lst xs) ∧ Good xs ∧ H' Ln = some (.lst (ls.map V.str)) ∧ ls.length ≤ 3 ∧ ∀ x ∈ ls, x.length ≤ 700) ?_ ?_
      · by_cases hne : rows.map lineS = []
        · exact s_no (et_is (et_test (ev_neStrNil (ev_var rfl) hLv hpl)) (by rw [decide_eq_true hne]; rfl)) fun H7 e7 => ⟨_, _, _, _, xs2, rfl, e7 _ _ hd6, hg2, e7 _ _ hLv, hlsl, hls⟩
        · have hpos : 0 < (rows.map lineS).length := List.length_pos_iff.mpr hne
          refine s_yes (et_is (et_test (ev_neStrNil (ev_var rfl) hLv hpl)) (by rw [decide_eq_false hne]; rfl)) fun H7 e7 => ?_
          have hd7 := e7 _ _ hd6
          have hL7 := e7 _ _ hLv
          refine q_asgX (below_ev (ev_var rfl) (ev_lenL (ev_var rfl) (sq_of hL7)) hd7 hg2 (by rw [List.length_map]; omega) (by rw [List.length_map]; omega) fun pk xs3 H8 hpk hg3 eb8 hd8 => ?_)
          rw [List.length_map] at hpk
          have hL8 := eb8 _ _ hLd hL7
          have hpkl : pk < rows.length := by
            rw [List.length_map] at hpk
            omega
          obtain ⟨r, hrr⟩ : ∃ r, rows[pk]? = some r := ⟨rows[pk], List.getElem?_eq_getElem hpkl⟩
          have hrm := List.mem_of_getElem? hrr
          obtain ⟨hf, hp5⟩ := hok.fit r hrm
          have hat : atI ((rows.map lineS).map V.str) ((pk : Nat) : Int) = some (.str (lineS r)) := atI_nat (by rw [List.getElem?_map, List.getElem?_map, hrr]; rfl)
          refine q_asgL (el_is (el_split (ev_op (ev_var rfl) (ev_var rfl) (rv_ixL (sq_of hL8) hat)) (by decide +kernel) (Nat.le_trans (line_len hf hp5) (by decide))) (by rw [line_split hf])) fun W0 H9 hW0 e9 hWv => ?_
          have hd9 := e9 _ _ hd8
          refine q_forBelow (c := 4) (ev_var rfl) ev_c hd9 hg3 (by decide) (by decide) fun n xs4 H10 hn4 hg4 eb10 hd10 => ?_
          have hW0d : W0 ≠ d := (ne_of_none hd8 hW0).symm
          refine ⟨fun j σ' H' => ∃ (a6 : Option V) (Wj : Addr) (ws : List Str) (xs : List V), σ' = [some (.ref a), some (.ref d), some (.int (i : Int)), some (.ref Ln), some (.int (pk : Int)), some (.ref Wj), a6, a7, a8, a9, a10] ∧ H' d = some (.lst xs) ∧ Good xs ∧ H' Ln = some (.lst ((rows.map lineS).map V.str)) ∧ Wj ≠ d ∧ H' Wj = some (.lst (ws.map V.str)) ∧ ws.length ≤ 11 + j ∧ ∀ x ∈ ws, x.length ≤ 40, ⟨_, W0, lineW r, xs4, rfl, hd10, hg4, eb10 _ _ hLd (e9 _ _ hL8), hW0d, eb10 _ _ hW0d hWv, lineW_len hp5, fun x hx => Nat.le_trans (lineW_ok hf x hx).1 (by decide)⟩, ?_, ?_⟩
          · rintro j σ' H' hj ⟨a6, Wj, ws, xs5, rfl, hd', hg', hL', hWjd, hWj, hwl, hws⟩
            refine s_asgX (call_ev (ea_cons (ev_var rfl) (ea_cons (ev_var rfl) ea_nil)) fun H11 e11 => ⟨d, Wj, xs5, ws, rfl, e11 _ _ hd', hg', e11 _ _ hWj, hWjd, by omega, hws, fun p ws' xs6 H12 hp hpv hwl' hws' hg6 eb12 hd12 => ?_⟩)
            exact ⟨_, p, ws', xs6, rfl, hd12, hg6, eb12 _ _ hLd (e11 _ _ hL'), (ne_of_none (e11 _ _ hd') hp).symm, hpv, by omega, hws'⟩
          · rintro σ' H' ⟨a6, Wj, ws, xs5, rfl, hd', hg', hL', hWjd, hWj, hwl, hws⟩
            have hjl := join_len " " ws
            have hsum := sum_le (ls := ws.map (·.length)) (n := 40) fun x hx => by
              obtain ⟨z, hz, rfl⟩ := List.mem_map.mp hx
              exact hws z hz
            rw [List.length_map] at hsum
            have h1s : (" " : Str).length = 1 := by decide +kernel
            rw [h1s, Nat.mul_one] at hjl
            have hj := ev_join (K := K) (a := " ") (ys := ws) (σ := [some (.ref a), some (.ref d), some (.int (i : Int)), some (.ref Ln), some (.int (pk : Int)), some (.ref Wj), a6, a7, a8, a9, a10]) (H := H') (tu := tVar 5)
            have hjv : Ev (tBM K "str" (rJoin K) (tC (.str " ")) (tCons (tVar 5) tNil)) [some (.ref a), some (.ref d), some (.int (i : Int)), some (.ref Ln), some (.int (pk : Int)), some (.ref Wj), a6, a7, a8, a9, a10] H' (.str (Txt.join " " ws)) := fun H11 e11 Q q => ⟨rfl, _, rfl, " ", Wj, ws, rfl, rfl, .inl (sq_of (e11 _ _ hWj)), by rw [h1s]; omega, q H11 (Ex.refl H11)⟩
            refine hjv H' (Ex.refl H') _ fun H11 e11 => ⟨_, rfl, _, rfl, Ln, _, (pk : Int), pk, rfl, rfl, e11 _ _ hL', ixN_nat (by rw [List.length_map]; exact Int.ofNat_lt.mp hpk), ?_⟩
            rw [← List.map_set]
            refine ⟨_, _, _, (rows.map lineS).set pk (Txt.join " " ws), xs5, rfl, by rw [upd_ne hLd.symm]; exact e11 _ _ hd', hg', upd_same, by rw [List.length_set]; exact hlsl, fun x hx => ?_⟩
            rcases List.mem_or_eq_of_mem_set hx with hx | rfl
            · exact hls x hx
            · omega
      · rintro σ' H' ⟨a4, a5, a6, ls, xs3, rfl, hd', hg', hL', hl3', hls'⟩
        refine q_cut (M := fun σ' H' => ∃ (a4 a5 a6 : Option V) (Lm : Addr) (ls : List Str) (xs : List V), σ' = [some (.ref a), some (.ref d), some (.int (i : Int)), some (.ref Lm), a4, a5, a6, a7, a8, a9, a10] ∧ H' d = some (.lst xs) ∧ Good xs ∧ H' Lm = some (.lst (ls.map V.str)) ∧ ls.length ≤ 6 ∧ ∀ x ∈ ls, x.length ≤ 700) ?_ ?_
        · refine s_ifX (below_eq (n := 6) (c := 0) (ev_var rfl) ev_c hd' hg' (by decide) (by decide) fun r6 xs4 H7 hr6 hg4 eb7 hd7 => ?_)
          have hL7 := eb7 _ _ hLd hL'
          by_cases hr0 : r6 = 0
          · rw [decide_eq_true (by rw [hr0]; rfl), if_pos rfl]
            refine s_asgX (tOp_go ⟨_, rfl, call_go (tA_x ⟨_, rfl, tA_one (tLst_go (tA_x ?_))⟩)⟩)
            refine (el_rep (n := 2) (el_lst (vs := [.str "plain first 0"]) (ea_cons ev_c ea_nil) (by show 1 ≤ 100000; decide)) (by decide) (by show 1 ≤ 100; decide)) H7 (Ex.refl H7) _ fun pA H8 hpA e8 vA => tA_x ?_
            refine (el_lst (vs := [.str "yields behind 2 behind -2 weekday 1"]) (ea_cons ev_c ea_nil) (by show 1 ≤ 100000; decide)) H8 (Ex.refl H8) _ fun pB H9 hpB e9 vB => tA_x ?_
            refine (el_lst (vs := [.str ""]) (ea_cons ev_c ea_nil) (by show 1 ≤ 100000; decide)) H9 (Ex.refl H9) _ fun pC H10 hpC e10 vC => tA_one ⟨_, rfl, by show 4 ≤ sizeLine; decide, fun pl hpl => ?_⟩
            have E10 := (e8.trans e9).trans e10
            have eN := Ex.new (o := .lst [.ref pA, .ref pB, .ref pC, .ref Ln]) hpl
            have hdl := eN _ _ (E10 _ _ hd7)
            have hAd : pA ≠ d := (ne_of_none hd7 hpA).symm
            have hBd : pB ≠ d := (ne_of_none (e8 _ _ hd7) hpB).symm
            have hCd : pC ≠ d := (ne_of_none ((e8.trans e9) _ _ hd7) hpC).symm
            refine ⟨d, pl, xs4, [.ref pA, .ref pB, .ref pC, .ref Ln], rfl, hdl, hg4, sq_of upd_same, (ne_of_none (E10 _ _ hd7) hpl).symm, by show 1 ≤ 4; decide, by show 4 ≤ 1000000; decide, fun y xs5 H12 hy hg5 eb12 hd12 => ?_⟩
            have hL12 := eb12 _ _ hLd (eN _ _ (E10 _ _ hL7))
            obtain ⟨q, zs, rfl, hq, hzl, hzs⟩ : ∃ (q : Addr) (zs : List Str), y = .ref q ∧ H12 q = some (.lst (zs.map V.str)) ∧ zs.length ≤ 3 ∧ ∀ x ∈ zs, x.length ≤ 700 := by
              simp only [List.mem_cons, List.not_mem_nil, or_false] at hy
              rcases hy with rfl | rfl | rfl | rfl
              · exact ⟨pA, ["plain first 0", "plain first 0"], rfl, eb12 _ _ hAd (eN _ _ ((e9.trans e10) _ _ vA)), by decide, by decide +kernel⟩
              · exact ⟨pB, ["yields behind 2 behind -2 weekday 1"], rfl, eb12 _ _ hBd (eN _ _ (e10 _ _ vB)), by decide, by decide +kernel⟩
              · exact ⟨pC, [""], rfl, eb12 _ _ hCd (eN _ _ vC), by decide, by decide +kernel⟩
              · exact ⟨Ln, ls, rfl, hL12, hl3', hls'⟩
            refine ⟨Ln, q, _, _, rfl, rfl, hL12, hq, Evl.sz_of (by rw [List.length_map, List.length_map]; omega), fun p3 hp3 => ?_⟩
            refine ⟨_, _, _, p3, ls ++ zs, xs5, rfl, (Ex.new hp3) _ _ hd12, hg5, by rw [List.map_append]; exact upd_same, by rw [List.length_append]; omega, fun x hx => ?_⟩
            rcases List.mem_append.mp hx with hx | hx
            · exact hls' x hx
            · exact hzs x hx
          · rw [decide_eq_false (fun q => hr0 (by have := V.int.inj q; omega)), if_neg (by decide)]
            exact ⟨_, _, _, Ln, ls, xs4, rfl, hd7, hg4, hL7, by omega, hls'⟩
        · rintro σ' H' ⟨a4, a5, a6, Lm, ls, xs4, rfl, hd', hg', hL', hl6, hls'⟩
          refine q_asg (ev_textL (j := 10) (ev_var rfl) (sq_of hL') hls' hl6 (fun _ => rfl) (fun _ => rfl)) fun H7 e7 => ?_
          have htl := textL_len hls' hl6
          generalize textL ls = t1 at htl ⊢
          have hts : t1.length ≤ sizeLine := Nat.le_trans htl (by decide)
          have hd7 := e7 _ _ hd'
          refine q_asgX (tSl_go ⟨_, rfl, tNoPart_go (tPart_go (call_go (tA_x ⟨_, rfl, tA_one (tLst_go (tA_x (tCB_one ⟨_, rfl, t1, rfl, hts, tA_x (tCB_one ⟨_, rfl, t1, rfl, hts, tA_one ?_⟩)⟩)))⟩)))⟩)
          refine below_ev (ev_var rfl) (ev_op (ev_lenStr (ev_var rfl) htl) ev_c rv_I0) hd7 hg' (by omega) (by omega) fun b xs5 H8 hb hg5 eb8 hd8 => ⟨by show 3 ≤ sizeLine; decide, fun pl hpl => ?_⟩
          refine ⟨d, pl, xs5, [.int (t1.length : Int), .int (t1.length : Int), .int (b : Int)], rfl, (Ex.new hpl) _ _ hd8, hg5, sq_of upd_same, (ne_of_none hd8 hpl).symm, by show 1 ≤ 3; decide, by show 3 ≤ 1000000; decide, fun y xs6 H9 hy hg6 eb9 hd9 => ?_⟩
          obtain ⟨ci, rfl⟩ : ∃ ci : Int, y = .int ci := by
            simp only [List.mem_cons, List.not_mem_nil, or_false] at hy
            rcases hy with rfl | rfl | rfl <;> exact ⟨_, rfl⟩
          refine ⟨ci, rfl, t1, rfl, hts, ?_⟩
          have hcl := Nat.le_trans (cutS_length t1 none (some ci)) htl
          generalize cutS t1 none (some ci) = t2 at hcl ⊢
          refine s_no (et_is (et_not (et_equal12 (ev_toldX (ev_var rfl) hcl) (fun _ _ => ev_dueX (ev_var rfl) hcl))) rfl) fun H10 e10 => ?_
          exact ⟨_, _, _, _, _, _, _, _, _, xs6, rfl, e10 _ _ hd9, hg6⟩
    · rintro σ' H' ⟨a2, a3, a4, a5, a6, a7, a8, a9, a10, xs, rfl, hd, hg⟩
      have l1 : ("plain " : Str).length = 6 := by decide +kernel
      have l2 : ("behind 1 " : Str).length = 9 := by decide +kernel
      have l3 : ("first 0\n" : Str).length = 8 := by decide +kernel
      have l4 : ("yields " : Str).length = 7 := by decide +kernel
      have l5 : ("both monthday 0 " : Str).length = 16 := by decide +kernel
      have l6 : ("monthday 1\n" : Str).length = 11 := by decide +kernel
      have big : ∀ {n : Nat}, n ≤ 10000 → n ≤ sizeLine := fun h => Nat.le_trans h (by decide)
      refine q_asgX (tOp_go (opC_go (opC_go (opC_go (below_ev (n := 4) (ev_var rfl) ev_c hd hg (by decide) (by decide) fun b xs1 H4 hb hg1 eb1 hd1 => ?_)))))
      have m1 : (Txt.mul "behind 1 " ((2 : Int) + (b : Int))).length ≤ 45 := by rw [mul_len (by omega), l2]; omega
      refine ⟨2, (b : Int), rfl, rfl, "behind 1 ", (2 : Int) + (b : Int), rfl, rfl, by rw [l2]; decide, by omega, by omega, "plain ", _, rfl, rfl, big (by rw [l1]; omega), ("plain " : Str) ++ Txt.mul "behind 1 " ((2 : Int) + (b : Int)), "first 0\n", rfl, rfl, big (by rw [str_len, l1, l3]; omega), ?_⟩
      have hz1 : (("plain " : Str) ++ Txt.mul "behind 1 " ((2 : Int) + (b : Int)) ++ "first 0\n").length ≤ 10000 := by rw [str_len, str_len, l1, l3]; omega
      generalize (("plain " : Str) ++ Txt.mul "behind 1 " ((2 : Int) + (b : Int)) ++ "first 0\n") = deep at hz1 ⊢
      dsimp only [gName]
      refine q_asgX (tOp_go (opC_go (opC_go (opC_go (below_ev (n := 3) (ev_var rfl) ev_c hd1 hg1 (by decide) (by decide) fun c xs2 H5 hc hg2 eb2 hd2 => ?_)))))
      have m2 : (Txt.mul "both monthday 0 " ((1 : Int) + (c : Int))).length ≤ 48 := by rw [mul_len (by omega), l5]; omega
      refine ⟨1, (c : Int), rfl, rfl, "both monthday 0 ", (1 : Int) + (c : Int), rfl, rfl, by rw [l5]; decide, by omega, by omega, "yields ", _, rfl, rfl, big (by rw [l4]; omega), ("yields " : Str) ++ Txt.mul "both monthday 0 " ((1 : Int) + (c : Int)), "monthday 1\n", rfl, rfl, big (by rw [str_len, l4, l6]; omega), ?_⟩
      have hz2 : (("yields " : Str) ++ Txt.mul "both monthday 0 " ((1 : Int) + (c : Int)) ++ "monthday 1\n").length ≤ 100 := by rw [str_len, str_len, l4, l6]; omega
      generalize (("yields " : Str) ++ Txt.mul "both monthday 0 " ((1 : Int) + (c : Int)) ++ "monthday 1\n") = wide at hz2 ⊢
      dsimp only [gName]
      have hz3 : (Txt.mul wide 2).length ≤ 10000 := by rw [mul_len (by decide)]; show wide.length * 2 ≤ 10000; omega
      exact s_ret (ev_is (ev_andV (ev_eqTol (ev_toldX (ev_var rfl) hz1) (fun _ _ => ev_dueX (ev_var rfl) hz1)) fun _ => ev_eqTol (ev_toldX (ev_op (ev_var rfl) ev_c (rv_srep (by omega) (by decide) (by decide))) hz3) (fun _ _ => ev_dueX (ev_op (ev_var rfl) ev_c (rv_srep (by omega) (by decide) (by decide))) hz3)) rfl) fun H6 _ => k H6
theorem dn_law (T : Txt P w K mg C_BadRule C_BadRules C_BadText C_Feast C_Calendar C_Line) (CF : Cls1 K C_Feast ["told", "bys"]) (IF : ClsI K C_Feast) (CC : Cls1 K C_Calendar ["rows", "near"]) (CI : Cls1 K C_Line lineFs) : Dn P w K mg base CX0 "law" 17 ["_law_script"] (spLaw K) := T.f_law.dn fun _ _ F _ _ => ok_law F T CF IF CC CI
end
end WF

set_option Elab.async false
set_option linter.all false
set_option maxRecDepth 100000
set_option maxHeartbeats 4000000
set_option pp.maxSteps 50
set_option pp.oneline true
namespace WF
open PySem L2 Evl
theorem no5 {K : PySem.W.Frag} {d : Addr} (a : PySem.W.nsIn K d "behind" = some none) (b : PySem.W.nsIn K d "both" = some none) (c : PySem.W.nsIn K d "either" = some none) (e : PySem.W.nsIn K d "without" = some none) (f : PySem.W.nsIn K d "week" = some none) : ∀ z ∈ (["behind", "both", "either", "without", "week"] : List Str), PySem.W.nsIn K d z = some none := by
  intro z hz
  simp only [List.mem_cons, List.not_mem_nil, or_false] at hz
  rcases hz with rfl | rfl | rfl | rfl | rfl <;> assumption
open PySem.W in
theorem all_mk {l : PySem.W.OpenLaw} {w : World} {K : PySem.W.Frag} {h : Heap} {mg : Str → Option Value} {fa : Addr} (X : K.In h) (G : h.Ns mainGlobals mg) (hfa : mg "law" = some (.ref fa))
    {f_BadText_init cc_BadText_init cda_BadText_init N_BadText u_BYS d_ENDS u_W u_M u_PAIRS d_BEGINS C_BadRule C_BadRules C_BadText C_Feast C_Calendar C_Line f_is_in f_within f_size_of f_is_rule f_Feast_init f_Feast_eq f_Feast_and f_Feast_or f_Feast_sub f_Feast_moved f_is_pair f_Calendar_init f_Calendar_eq f_Line_init f_Line_take f_Line_take_number f_Line_whole_rule f_Line_end f_read f_l_random f_l_below f_l_pick f_l_equal f_l_leaf f_l_rule f_l_rows f_l_words f_l_lines f_l_told f_l_leaves f_l_line f_l_due f_l_spoilt f_law : Addr}
    {oc_BadText_init kV_BadText_init dc_BadText_init pm_BadText_init ct_BadText_init ccl_BadText_init cl_BadText_init oc_is_in kV_is_in dc_is_in pm_is_in cd_is_in ct_is_in oc_within kV_within dc_within pm_within cd_within ct_within oc_size_of kV_size_of dc_size_of pm_size_of cd_size_of ct_size_of oc_is_rule kV_is_rule dc_is_rule pm_is_rule cd_is_rule ct_is_rule oc_Feast_init kV_Feast_init dc_Feast_init pm_Feast_init cd_Feast_init ct_Feast_init oc_Feast_eq kV_Feast_eq dc_Feast_eq pm_Feast_eq cd_Feast_eq ct_Feast_eq oc_Feast_and kV_Feast_and dc_Feast_and pm_Feast_and cd_Feast_and ct_Feast_and oc_Feast_or kV_Feast_or dc_Feast_or pm_Feast_or cd_Feast_or ct_Feast_or oc_Feast_sub kV_Feast_sub dc_Feast_sub pm_Feast_sub cd_Feast_sub ct_Feast_sub oc_Feast_moved kV_Feast_moved dc_Feast_moved pm_Feast_moved cd_Feast_moved ct_Feast_moved oc_is_pair kV_is_pair dc_is_pair pm_is_pair cd_is_pair ct_is_pair oc_Calendar_init kV_Calendar_init dc_Calendar_init pm_Calendar_init cd_Calendar_init ct_Calendar_init oc_Calendar_eq kV_Calendar_eq dc_Calendar_eq pm_Calendar_eq cd_Calendar_eq ct_Calendar_eq oc_Line_init kV_Line_init dc_Line_init pm_Line_init cd_Line_init ct_Line_init oc_Line_take kV_Line_take dc_Line_take pm_Line_take cd_Line_take ct_Line_take oc_Line_take_number kV_Line_take_number dc_Line_take_number pm_Line_take_number cd_Line_take_number ct_Line_take_number oc_Line_whole_rule kV_Line_whole_rule dc_Line_whole_rule pm_Line_whole_rule cd_Line_whole_rule ct_Line_whole_rule oc_Line_end kV_Line_end dc_Line_end pm_Line_end cd_Line_end ct_Line_end oc_read kV_read dc_read pm_read cd_read ct_read oc_l_random kV_l_random dc_l_random pm_l_random cd_l_random ct_l_random oc_l_below kV_l_below dc_l_below pm_l_below cd_l_below ct_l_below oc_l_pick kV_l_pick dc_l_pick pm_l_pick cd_l_pick ct_l_pick oc_l_equal kV_l_equal dc_l_equal pm_l_equal cd_l_equal ct_l_equal oc_l_leaf kV_l_leaf dc_l_leaf pm_l_leaf cd_l_leaf ct_l_leaf oc_l_rule kV_l_rule dc_l_rule pm_l_rule cd_l_rule ct_l_rule oc_l_rows kV_l_rows dc_l_rows pm_l_rows cd_l_rows ct_l_rows oc_l_words kV_l_words dc_l_words pm_l_words cd_l_words ct_l_words oc_l_lines kV_l_lines dc_l_lines pm_l_lines cd_l_lines ct_l_lines oc_l_told kV_l_told dc_l_told pm_l_told cd_l_told ct_l_told oc_l_leaves kV_l_leaves dc_l_leaves pm_l_leaves cd_l_leaves ct_l_leaves oc_l_line kV_l_line dc_l_line pm_l_line cd_l_line ct_l_line oc_l_due kV_l_due dc_l_due pm_l_due cd_l_due ct_l_due oc_l_spoilt kV_l_spoilt dc_l_spoilt pm_l_spoilt cd_l_spoilt ct_l_spoilt oc_law kV_law dc_law pm_law cd_law ct_law : Value}
    {od_BadText_init an_BadText_init cdd_BadText_init cld_BadText_init dd_BadText od_u_BYS od_u_W od_u_M od_is_in an_is_in od_within an_within od_size_of an_size_of od_is_rule an_is_rule od_Feast_init an_Feast_init od_Feast_eq an_Feast_eq od_Feast_and an_Feast_and od_Feast_or an_Feast_or od_Feast_sub an_Feast_sub od_Feast_moved an_Feast_moved od_is_pair an_is_pair od_Calendar_init an_Calendar_init od_Calendar_eq an_Calendar_eq od_Line_init an_Line_init od_Line_take an_Line_take od_Line_take_number an_Line_take_number od_Line_whole_rule an_Line_whole_rule od_Line_end an_Line_end od_read an_read od_l_random an_l_random od_l_below an_l_below od_l_pick an_l_pick od_l_equal an_l_equal od_l_leaf an_l_leaf od_l_rule an_l_rule od_l_rows an_l_rows od_l_words an_l_words od_l_lines an_l_lines od_l_told an_l_told od_l_leaves an_l_leaves od_l_line an_l_line od_l_due an_l_due od_l_spoilt an_l_spoilt od_law an_law : Option Addr}
    {sl_BadText_init ccs_BadText_init csl_BadText_init sl_u_BYS sl_u_W sl_u_M sl_is_in sl_within sl_size_of sl_is_rule sl_Feast_init sl_Feast_eq sl_Feast_and sl_Feast_or sl_Feast_sub sl_Feast_moved sl_is_pair sl_Calendar_init sl_Calendar_eq sl_Line_init sl_Line_take sl_Line_take_number sl_Line_whole_rule sl_Line_end sl_read sl_l_random sl_l_below sl_l_pick sl_l_equal sl_l_leaf sl_l_rule sl_l_rows sl_l_words sl_l_lines sl_l_told sl_l_leaves sl_l_line sl_l_due sl_l_spoilt sl_law : Array (Option Value)}
    {tf_BadText_init t_u_BYS_0 t_u_BYS_1 t_u_BYS_2 t_u_BYS_3 t_u_W_0 t_u_W_1 t_u_W_2 t_u_W_3 t_u_M_0 t_u_M_1 t_u_M_2 t_u_M_3 t_u_M_4 t_u_M_5 t_u_PAIRS_0 t_u_PAIRS_1 t_u_PAIRS_2 t_MOST_PARTS t_MOST_BYS t_MOST_RULES t_LEAST_REACH : Tok}
    {nn_u_BYS nE nn_u_W nn_u_M nn_u_PAIRS nB : Nat}
    {es_ENDS es_BEGINS : Array DictEntry}
    {bs_BadText bm_BadText sub_BadText : List Value}
    {vs_BadText_init : Array Value}
    {fi_BadText_init nm_BadText q_BadText : Str}
    {sn_BadText : List Str}
    {ab_BadText : Bool}
    {col_BadText : Option Bool}
    {k0_BadText k1_BadText k2_BadText k3_BadText k5_BadText : Option Value}
    (z_super : PySem.W.nsIn K mainGlobals "super" = some none)
    (tp_super : (l.prog.main.scope.names.lookup ("super" : Str)).isSome = false)
    (an_super : PySem.W.nsIn K cStatics "thirdparty.any" = some none)
    (z_len : PySem.W.nsIn K mainGlobals "len" = some none)
    (z_abs : PySem.W.nsIn K mainGlobals "abs" = some none)
    (z_sum : PySem.W.nsIn K mainGlobals "sum" = some none)
    (z_isinstance : PySem.W.nsIn K mainGlobals "isinstance" = some none)
    (z_sorted : PySem.W.nsIn K mainGlobals "sorted" = some none)
    (z_all : PySem.W.nsIn K mainGlobals "all" = some none)
    (z_int : PySem.W.nsIn K mainGlobals "int" = some none)
    (z_str : PySem.W.nsIn K mainGlobals "str" = some none)
    (z_list : PySem.W.nsIn K mainGlobals "list" = some none)
    (z_tuple : PySem.W.nsIn K mainGlobals "tuple" = some none)
    (z_dict : PySem.W.nsIn K mainGlobals "dict" = some none)
    (z_bool : PySem.W.nsIn K mainGlobals "bool" = some none)
    (z_range : PySem.W.nsIn K mainGlobals "range" = some none)
    (z_enumerate : PySem.W.nsIn K mainGlobals "enumerate" = some none)
    (g_BYS : PySem.W.nsIn K mainGlobals "BYS" = some (some (.ref u_BYS)))
    (l_u_BYS : K.lookup u_BYS = some ⟨.type "tuple", od_u_BYS, .seq #[.int (-2) t_u_BYS_0, .int (-1) t_u_BYS_1, .int (1) t_u_BYS_2, .int (2) t_u_BYS_3] nn_u_BYS, sl_u_BYS⟩)
    (g_ENDS : PySem.W.nsIn K mainGlobals "ENDS" = some (some (.ref d_ENDS)))
    (l_ENDS : K.lookup d_ENDS = some ⟨.type "dict", none, .dict es_ENDS nE, #[]⟩)
    (e_ENDS : PySem.W.KeysLit w.params es_ENDS.toList)
    (w_ENDS : (d_ENDS == sysModules) = false)
    (x_weekday : PySem.W.nsIn K d_ENDS "weekday" = some (some (.ref u_W)))
    (x_first : PySem.W.nsIn K d_ENDS "first" = some (some (.ref u_W)))
    (x_monthday : PySem.W.nsIn K d_ENDS "monthday" = some (some (.ref u_M)))
    (x_behind : PySem.W.nsIn K d_ENDS "behind" = some none)
    (x_both : PySem.W.nsIn K d_ENDS "both" = some none)
    (x_either : PySem.W.nsIn K d_ENDS "either" = some none)
    (x_without : PySem.W.nsIn K d_ENDS "without" = some none)
    (x_week : PySem.W.nsIn K d_ENDS "week" = some none)
    (l_u_W : K.lookup u_W = some ⟨.type "tuple", od_u_W, .seq #[.int (-2) t_u_W_0, .int (-1) t_u_W_1, .int (0) t_u_W_2, .int (1) t_u_W_3] nn_u_W, sl_u_W⟩)
    (l_u_M : K.lookup u_M = some ⟨.type "tuple", od_u_M, .seq #[.int (-3) t_u_M_0, .int (-2) t_u_M_1, .int (-1) t_u_M_2, .int (0) t_u_M_3, .int (1) t_u_M_4, .int (2) t_u_M_5] nn_u_M, sl_u_M⟩)
    (g_PAIRS : PySem.W.nsIn K mainGlobals "PAIRS" = some (some (.ref u_PAIRS)))
    (l_u_PAIRS : K.lookup u_PAIRS = some ⟨.type "tuple", none, .seq #[.str "both" t_u_PAIRS_0, .str "either" t_u_PAIRS_1, .str "without" t_u_PAIRS_2] nn_u_PAIRS, #[]⟩)
    (g_MOST_PARTS : PySem.W.nsIn K mainGlobals "MOST_PARTS" = some (some (.int 5 t_MOST_PARTS)))
    (g_MOST_BYS : PySem.W.nsIn K mainGlobals "MOST_BYS" = some (some (.int 4 t_MOST_BYS)))
    (g_MOST_RULES : PySem.W.nsIn K mainGlobals "MOST_RULES" = some (some (.int 3 t_MOST_RULES)))
    (g_LEAST_REACH : PySem.W.nsIn K mainGlobals "LEAST_REACH" = some (some (.int 3 t_LEAST_REACH)))
    (kk_ENDS : KeysAre es_ENDS.toList ["weekday", "first", "monthday"])
    (g_BEGINS : PySem.W.nsIn K mainGlobals "BEGINS" = some (some (.ref d_BEGINS)))
    (l_BEGINS : K.lookup d_BEGINS = some ⟨.type "dict", none, .dict es_BEGINS nB, #[]⟩)
    (e_BEGINS : PySem.W.KeysLit w.params es_BEGINS.toList)
    (w_BEGINS : (d_BEGINS == sysModules) = false)
    (kk_BEGINS : KeysAre es_BEGINS.toList ["plain", "yields"])
    (x_plain : PySem.W.nsIn K d_BEGINS "plain" = some (some (.bool false)))
    (x_yields : PySem.W.nsIn K d_BEGINS "yields" = some (some (.bool true)))
    (a_BadRule : PySem.W.nsIn K mainGlobals "BadRule" = some (some (.ref C_BadRule)))
    (x_BadRule : PySem.W.excIn K C_BadRule [.type "ValueError", .type "Exception", .type "BaseException", .type "object"] "ValueError.__new__" = true)
    (k_BadRule : PySem.W.keepIn K (.ref C_BadRule) = true)
    (b_BadRule : PySem.W.subIn K (.ref C_BadRule) (.type "BaseException") = some true)
    (t_BadRule : PySem.W.typeIn K (.ref C_BadRule) = some (.type "type"))
    (i_BadRule : PySem.W.isClsIn K C_BadRule = true)
    (s_BadRule : PySem.W.subIn K (.ref C_BadRule) (.ref C_BadRule) = some true)
    (a_BadRules : PySem.W.nsIn K mainGlobals "BadRules" = some (some (.ref C_BadRules)))
    (a_BadText : PySem.W.nsIn K mainGlobals "BadText" = some (some (.ref C_BadText)))
    (a_Feast : PySem.W.nsIn K mainGlobals "Feast" = some (some (.ref C_Feast)))
    (a_Calendar : PySem.W.nsIn K mainGlobals "Calendar" = some (some (.ref C_Calendar)))
    (a_Line : PySem.W.nsIn K mainGlobals "Line" = some (some (.ref C_Line)))
    (a_is_in : PySem.W.nsIn K mainGlobals "is_in" = some (some (.ref f_is_in)))
    (l_is_in : K.lookup f_is_in = some ⟨oc_is_in, od_is_in, .func (PySem.W.fnOf "is_in" "is_in" (defArgs s_is_in) (defBody s_is_in) (defScope s_is_in) .none kV_is_in dc_is_in pm_is_in an_is_in cd_is_in ct_is_in), sl_is_in⟩)
    (c_is_in : PySem.W.codeIn K cd_is_in "is_in" = true)
    (k_is_in : PySem.W.keepIn K (.ref f_is_in) = true)
    (a_within : PySem.W.nsIn K mainGlobals "within" = some (some (.ref f_within)))
    (l_within : K.lookup f_within = some ⟨oc_within, od_within, .func (PySem.W.fnOf "within" "within" (defArgs s_within) (defBody s_within) (defScope s_within) .none kV_within dc_within pm_within an_within cd_within ct_within), sl_within⟩)
    (c_within : PySem.W.codeIn K cd_within "within" = true)
    (k_within : PySem.W.keepIn K (.ref f_within) = true)
    (a_size_of : PySem.W.nsIn K mainGlobals "size_of" = some (some (.ref f_size_of)))
    (l_size_of : K.lookup f_size_of = some ⟨oc_size_of, od_size_of, .func (PySem.W.fnOf "size_of" "size_of" (defArgs s_size_of) (defBody s_size_of) (defScope s_size_of) .none kV_size_of dc_size_of pm_size_of an_size_of cd_size_of ct_size_of), sl_size_of⟩)
    (c_size_of : PySem.W.codeIn K cd_size_of "size_of" = true)
    (k_size_of : PySem.W.keepIn K (.ref f_size_of) = true)
    (a_is_rule : PySem.W.nsIn K mainGlobals "is_rule" = some (some (.ref f_is_rule)))
    (l_is_rule : K.lookup f_is_rule = some ⟨oc_is_rule, od_is_rule, .func (PySem.W.fnOf "is_rule" "is_rule" (defArgs s_is_rule) (defBody s_is_rule) (defScope s_is_rule) .none kV_is_rule dc_is_rule pm_is_rule an_is_rule cd_is_rule ct_is_rule), sl_is_rule⟩)
    (c_is_rule : PySem.W.codeIn K cd_is_rule "is_rule" = true)
    (k_is_rule : PySem.W.keepIn K (.ref f_is_rule) = true)
    (pg_Feast : PySem.W.plainGet K C_Feast Str.empty = true)
    (hd_Feast : PySem.W.hasDictIn K C_Feast = true)
    (po_Feast : PySem.W.plainOver K C_Feast = true)
    (sa_Feast : PySem.W.findIn K (.ref C_Feast) "__setattr__" = some (some (.builtin "object.__setattr__")))
    (mk_Feast : PySem.W.makesIn K C_Feast = true)
    (kc_Feast : PySem.W.keepIn K (.ref C_Feast) = true)
    (n_Feast_told : PySem.W.findIn K (.ref C_Feast) "told" = some none)
    (n_Feast_bys : PySem.W.findIn K (.ref C_Feast) "bys" = some none)
    (a_Feast_init : PySem.W.findIn K (.ref C_Feast) "__init__" = some (some (.ref f_Feast_init)))
    (i_Feast_init : PySem.W.isFn K (.ref f_Feast_init) = true)
    (l_Feast_init : K.lookup f_Feast_init = some ⟨oc_Feast_init, od_Feast_init, .func (PySem.W.fnOf "__init__" "Feast.__init__" (defArgs s_Feast_init) (defBody s_Feast_init) (defScope s_Feast_init) .none kV_Feast_init dc_Feast_init pm_Feast_init an_Feast_init cd_Feast_init ct_Feast_init), sl_Feast_init⟩)
    (c_Feast_init : PySem.W.codeIn K cd_Feast_init "Feast.__init__" = true)
    (k_Feast_init : PySem.W.keepIn K (.ref f_Feast_init) = true)
    (a_Feast_eq : PySem.W.findIn K (.ref C_Feast) "__eq__" = some (some (.ref f_Feast_eq)))
    (i_Feast_eq : PySem.W.isFn K (.ref f_Feast_eq) = true)
    (l_Feast_eq : K.lookup f_Feast_eq = some ⟨oc_Feast_eq, od_Feast_eq, .func (PySem.W.fnOf "__eq__" "Feast.__eq__" (defArgs s_Feast_eq) (defBody s_Feast_eq) (defScope s_Feast_eq) .none kV_Feast_eq dc_Feast_eq pm_Feast_eq an_Feast_eq cd_Feast_eq ct_Feast_eq), sl_Feast_eq⟩)
    (c_Feast_eq : PySem.W.codeIn K cd_Feast_eq "Feast.__eq__" = true)
    (k_Feast_eq : PySem.W.keepIn K (.ref f_Feast_eq) = true)
    (a_Feast_and : PySem.W.findIn K (.ref C_Feast) "__and__" = some (some (.ref f_Feast_and)))
    (i_Feast_and : PySem.W.isFn K (.ref f_Feast_and) = true)
    (l_Feast_and : K.lookup f_Feast_and = some ⟨oc_Feast_and, od_Feast_and, .func (PySem.W.fnOf "__and__" "Feast.__and__" (defArgs s_Feast_and) (defBody s_Feast_and) (defScope s_Feast_and) .none kV_Feast_and dc_Feast_and pm_Feast_and an_Feast_and cd_Feast_and ct_Feast_and), sl_Feast_and⟩)
    (c_Feast_and : PySem.W.codeIn K cd_Feast_and "Feast.__and__" = true)
    (k_Feast_and : PySem.W.keepIn K (.ref f_Feast_and) = true)
    (a_Feast_or : PySem.W.findIn K (.ref C_Feast) "__or__" = some (some (.ref f_Feast_or)))
    (i_Feast_or : PySem.W.isFn K (.ref f_Feast_or) = true)
    (l_Feast_or : K.lookup f_Feast_or = some ⟨oc_Feast_or, od_Feast_or, .func (PySem.W.fnOf "__or__" "Feast.__or__" (defArgs s_Feast_or) (defBody s_Feast_or) (defScope s_Feast_or) .none kV_Feast_or dc_Feast_or pm_Feast_or an_Feast_or cd_Feast_or ct_Feast_or), sl_Feast_or⟩)
    (c_Feast_or : PySem.W.codeIn K cd_Feast_or "Feast.__or__" = true)
    (k_Feast_or : PySem.W.keepIn K (.ref f_Feast_or) = true)
    (a_Feast_sub : PySem.W.findIn K (.ref C_Feast) "__sub__" = some (some (.ref f_Feast_sub)))
    (i_Feast_sub : PySem.W.isFn K (.ref f_Feast_sub) = true)
    (l_Feast_sub : K.lookup f_Feast_sub = some ⟨oc_Feast_sub, od_Feast_sub, .func (PySem.W.fnOf "__sub__" "Feast.__sub__" (defArgs s_Feast_sub) (defBody s_Feast_sub) (defScope s_Feast_sub) .none kV_Feast_sub dc_Feast_sub pm_Feast_sub an_Feast_sub cd_Feast_sub ct_Feast_sub), sl_Feast_sub⟩)
    (c_Feast_sub : PySem.W.codeIn K cd_Feast_sub "Feast.__sub__" = true)
    (k_Feast_sub : PySem.W.keepIn K (.ref f_Feast_sub) = true)
    (a_Feast_moved : PySem.W.findIn K (.ref C_Feast) "moved" = some (some (.ref f_Feast_moved)))
    (i_Feast_moved : PySem.W.isFn K (.ref f_Feast_moved) = true)
    (l_Feast_moved : K.lookup f_Feast_moved = some ⟨oc_Feast_moved, od_Feast_moved, .func (PySem.W.fnOf "moved" "Feast.moved" (defArgs s_Feast_moved) (defBody s_Feast_moved) (defScope s_Feast_moved) .none kV_Feast_moved dc_Feast_moved pm_Feast_moved an_Feast_moved cd_Feast_moved ct_Feast_moved), sl_Feast_moved⟩)
    (c_Feast_moved : PySem.W.codeIn K cd_Feast_moved "Feast.moved" = true)
    (k_Feast_moved : PySem.W.keepIn K (.ref f_Feast_moved) = true)
    (a_is_pair : PySem.W.nsIn K mainGlobals "is_pair" = some (some (.ref f_is_pair)))
    (l_is_pair : K.lookup f_is_pair = some ⟨oc_is_pair, od_is_pair, .func (PySem.W.fnOf "is_pair" "is_pair" (defArgs s_is_pair) (defBody s_is_pair) (defScope s_is_pair) .none kV_is_pair dc_is_pair pm_is_pair an_is_pair cd_is_pair ct_is_pair), sl_is_pair⟩)
    (c_is_pair : PySem.W.codeIn K cd_is_pair "is_pair" = true)
    (k_is_pair : PySem.W.keepIn K (.ref f_is_pair) = true)
    (pg_Calendar : PySem.W.plainGet K C_Calendar Str.empty = true)
    (hd_Calendar : PySem.W.hasDictIn K C_Calendar = true)
    (po_Calendar : PySem.W.plainOver K C_Calendar = true)
    (sa_Calendar : PySem.W.findIn K (.ref C_Calendar) "__setattr__" = some (some (.builtin "object.__setattr__")))
    (mk_Calendar : PySem.W.makesIn K C_Calendar = true)
    (kc_Calendar : PySem.W.keepIn K (.ref C_Calendar) = true)
    (n_Calendar_rows : PySem.W.findIn K (.ref C_Calendar) "rows" = some none)
    (n_Calendar_near : PySem.W.findIn K (.ref C_Calendar) "near" = some none)
    (a_Calendar_init : PySem.W.findIn K (.ref C_Calendar) "__init__" = some (some (.ref f_Calendar_init)))
    (i_Calendar_init : PySem.W.isFn K (.ref f_Calendar_init) = true)
    (l_Calendar_init : K.lookup f_Calendar_init = some ⟨oc_Calendar_init, od_Calendar_init, .func (PySem.W.fnOf "__init__" "Calendar.__init__" (defArgs s_Calendar_init) (defBody s_Calendar_init) (defScope s_Calendar_init) .none kV_Calendar_init dc_Calendar_init pm_Calendar_init an_Calendar_init cd_Calendar_init ct_Calendar_init), sl_Calendar_init⟩)
    (c_Calendar_init : PySem.W.codeIn K cd_Calendar_init "Calendar.__init__" = true)
    (k_Calendar_init : PySem.W.keepIn K (.ref f_Calendar_init) = true)
    (a_Calendar_eq : PySem.W.findIn K (.ref C_Calendar) "__eq__" = some (some (.ref f_Calendar_eq)))
    (i_Calendar_eq : PySem.W.isFn K (.ref f_Calendar_eq) = true)
    (l_Calendar_eq : K.lookup f_Calendar_eq = some ⟨oc_Calendar_eq, od_Calendar_eq, .func (PySem.W.fnOf "__eq__" "Calendar.__eq__" (defArgs s_Calendar_eq) (defBody s_Calendar_eq) (defScope s_Calendar_eq) .none kV_Calendar_eq dc_Calendar_eq pm_Calendar_eq an_Calendar_eq cd_Calendar_eq ct_Calendar_eq), sl_Calendar_eq⟩)
    (c_Calendar_eq : PySem.W.codeIn K cd_Calendar_eq "Calendar.__eq__" = true)
    (k_Calendar_eq : PySem.W.keepIn K (.ref f_Calendar_eq) = true)
    (pg_Line : PySem.W.plainGet K C_Line Str.empty = true)
    (hd_Line : PySem.W.hasDictIn K C_Line = true)
    (po_Line : PySem.W.plainOver K C_Line = true)
    (sa_Line : PySem.W.findIn K (.ref C_Line) "__setattr__" = some (some (.builtin "object.__setattr__")))
    (mk_Line : PySem.W.makesIn K C_Line = true)
    (kc_Line : PySem.W.keepIn K (.ref C_Line) = true)
    (n_Line_number : PySem.W.findIn K (.ref C_Line) "number" = some none)
    (n_Line_row : PySem.W.findIn K (.ref C_Line) "row" = some none)
    (n_Line_spot : PySem.W.findIn K (.ref C_Line) "spot" = some none)
    (n_Line_parts : PySem.W.findIn K (.ref C_Line) "parts" = some none)
    (n_Line_due : PySem.W.findIn K (.ref C_Line) "due" = some none)
    (n_Line_room : PySem.W.findIn K (.ref C_Line) "room" = some none)
    (a_Line_init : PySem.W.findIn K (.ref C_Line) "__init__" = some (some (.ref f_Line_init)))
    (i_Line_init : PySem.W.isFn K (.ref f_Line_init) = true)
    (l_Line_init : K.lookup f_Line_init = some ⟨oc_Line_init, od_Line_init, .func (PySem.W.fnOf "__init__" "Line.__init__" (defArgs s_Line_init) (defBody s_Line_init) (defScope s_Line_init) .none kV_Line_init dc_Line_init pm_Line_init an_Line_init cd_Line_init ct_Line_init), sl_Line_init⟩)
    (c_Line_init : PySem.W.codeIn K cd_Line_init "Line.__init__" = true)
    (k_Line_init : PySem.W.keepIn K (.ref f_Line_init) = true)
    (a_Line_take : PySem.W.findIn K (.ref C_Line) "take" = some (some (.ref f_Line_take)))
    (i_Line_take : PySem.W.isFn K (.ref f_Line_take) = true)
    (l_Line_take : K.lookup f_Line_take = some ⟨oc_Line_take, od_Line_take, .func (PySem.W.fnOf "take" "Line.take" (defArgs s_Line_take) (defBody s_Line_take) (defScope s_Line_take) .none kV_Line_take dc_Line_take pm_Line_take an_Line_take cd_Line_take ct_Line_take), sl_Line_take⟩)
    (c_Line_take : PySem.W.codeIn K cd_Line_take "Line.take" = true)
    (k_Line_take : PySem.W.keepIn K (.ref f_Line_take) = true)
    (a_Line_take_number : PySem.W.findIn K (.ref C_Line) "take_number" = some (some (.ref f_Line_take_number)))
    (i_Line_take_number : PySem.W.isFn K (.ref f_Line_take_number) = true)
    (l_Line_take_number : K.lookup f_Line_take_number = some ⟨oc_Line_take_number, od_Line_take_number, .func (PySem.W.fnOf "take_number" "Line.take_number" (defArgs s_Line_take_number) (defBody s_Line_take_number) (defScope s_Line_take_number) .none kV_Line_take_number dc_Line_take_number pm_Line_take_number an_Line_take_number cd_Line_take_number ct_Line_take_number), sl_Line_take_number⟩)
    (c_Line_take_number : PySem.W.codeIn K cd_Line_take_number "Line.take_number" = true)
    (k_Line_take_number : PySem.W.keepIn K (.ref f_Line_take_number) = true)
    (a_Line_whole_rule : PySem.W.findIn K (.ref C_Line) "whole_rule" = some (some (.ref f_Line_whole_rule)))
    (i_Line_whole_rule : PySem.W.isFn K (.ref f_Line_whole_rule) = true)
    (l_Line_whole_rule : K.lookup f_Line_whole_rule = some ⟨oc_Line_whole_rule, od_Line_whole_rule, .func (PySem.W.fnOf "whole_rule" "Line.whole_rule" (defArgs s_Line_whole_rule) (defBody s_Line_whole_rule) (defScope s_Line_whole_rule) .none kV_Line_whole_rule dc_Line_whole_rule pm_Line_whole_rule an_Line_whole_rule cd_Line_whole_rule ct_Line_whole_rule), sl_Line_whole_rule⟩)
    (c_Line_whole_rule : PySem.W.codeIn K cd_Line_whole_rule "Line.whole_rule" = true)
    (k_Line_whole_rule : PySem.W.keepIn K (.ref f_Line_whole_rule) = true)
    (a_Line_end : PySem.W.findIn K (.ref C_Line) "end" = some (some (.ref f_Line_end)))
    (i_Line_end : PySem.W.isFn K (.ref f_Line_end) = true)
    (l_Line_end : K.lookup f_Line_end = some ⟨oc_Line_end, od_Line_end, .func (PySem.W.fnOf "end" "Line.end" (defArgs s_Line_end) (defBody s_Line_end) (defScope s_Line_end) .none kV_Line_end dc_Line_end pm_Line_end an_Line_end cd_Line_end ct_Line_end), sl_Line_end⟩)
    (c_Line_end : PySem.W.codeIn K cd_Line_end "Line.end" = true)
    (k_Line_end : PySem.W.keepIn K (.ref f_Line_end) = true)
    (a_read : PySem.W.nsIn K mainGlobals "read" = some (some (.ref f_read)))
    (l_read : K.lookup f_read = some ⟨oc_read, od_read, .func (PySem.W.fnOf "read" "read" (defArgs s_read) (defBody s_read) (defScope s_read) .none kV_read dc_read pm_read an_read cd_read ct_read), sl_read⟩)
    (c_read : PySem.W.codeIn K cd_read "read" = true)
    (k_read : PySem.W.keepIn K (.ref f_read) = true)
    (a_l_random : PySem.W.nsIn K mainGlobals "_law_random" = some (some (.ref f_l_random)))
    (l_l_random : K.lookup f_l_random = some ⟨oc_l_random, od_l_random, .func (PySem.W.fnOf "_law_random" "_law_random" (defArgs s_l_random) (defBody s_l_random) (defScope s_l_random) .none kV_l_random dc_l_random pm_l_random an_l_random cd_l_random ct_l_random), sl_l_random⟩)
    (c_l_random : PySem.W.codeIn K cd_l_random "_law_random" = true)
    (k_l_random : PySem.W.keepIn K (.ref f_l_random) = true)
    (a_l_below : PySem.W.nsIn K mainGlobals "_law_below" = some (some (.ref f_l_below)))
    (l_l_below : K.lookup f_l_below = some ⟨oc_l_below, od_l_below, .func (PySem.W.fnOf "_law_below" "_law_below" (defArgs s_l_below) (defBody s_l_below) (defScope s_l_below) .none kV_l_below dc_l_below pm_l_below an_l_below cd_l_below ct_l_below), sl_l_below⟩)
    (c_l_below : PySem.W.codeIn K cd_l_below "_law_below" = true)
    (k_l_below : PySem.W.keepIn K (.ref f_l_below) = true)
    (a_l_pick : PySem.W.nsIn K mainGlobals "_law_pick" = some (some (.ref f_l_pick)))
    (l_l_pick : K.lookup f_l_pick = some ⟨oc_l_pick, od_l_pick, .func (PySem.W.fnOf "_law_pick" "_law_pick" (defArgs s_l_pick) (defBody s_l_pick) (defScope s_l_pick) .none kV_l_pick dc_l_pick pm_l_pick an_l_pick cd_l_pick ct_l_pick), sl_l_pick⟩)
    (c_l_pick : PySem.W.codeIn K cd_l_pick "_law_pick" = true)
    (k_l_pick : PySem.W.keepIn K (.ref f_l_pick) = true)
    (a_l_equal : PySem.W.nsIn K mainGlobals "_law_equal" = some (some (.ref f_l_equal)))
    (l_l_equal : K.lookup f_l_equal = some ⟨oc_l_equal, od_l_equal, .func (PySem.W.fnOf "_law_equal" "_law_equal" (defArgs s_l_equal) (defBody s_l_equal) (defScope s_l_equal) .none kV_l_equal dc_l_equal pm_l_equal an_l_equal cd_l_equal ct_l_equal), sl_l_equal⟩)
    (c_l_equal : PySem.W.codeIn K cd_l_equal "_law_equal" = true)
    (k_l_equal : PySem.W.keepIn K (.ref f_l_equal) = true)
    (a_l_leaf : PySem.W.nsIn K mainGlobals "_law_leaf" = some (some (.ref f_l_leaf)))
    (l_l_leaf : K.lookup f_l_leaf = some ⟨oc_l_leaf, od_l_leaf, .func (PySem.W.fnOf "_law_leaf" "_law_leaf" (defArgs s_l_leaf) (defBody s_l_leaf) (defScope s_l_leaf) .none kV_l_leaf dc_l_leaf pm_l_leaf an_l_leaf cd_l_leaf ct_l_leaf), sl_l_leaf⟩)
    (c_l_leaf : PySem.W.codeIn K cd_l_leaf "_law_leaf" = true)
    (k_l_leaf : PySem.W.keepIn K (.ref f_l_leaf) = true)
    (a_l_rule : PySem.W.nsIn K mainGlobals "_law_rule" = some (some (.ref f_l_rule)))
    (l_l_rule : K.lookup f_l_rule = some ⟨oc_l_rule, od_l_rule, .func (PySem.W.fnOf "_law_rule" "_law_rule" (defArgs s_l_rule) (defBody s_l_rule) (defScope s_l_rule) .none kV_l_rule dc_l_rule pm_l_rule an_l_rule cd_l_rule ct_l_rule), sl_l_rule⟩)
    (c_l_rule : PySem.W.codeIn K cd_l_rule "_law_rule" = true)
    (k_l_rule : PySem.W.keepIn K (.ref f_l_rule) = true)
    (a_l_rows : PySem.W.nsIn K mainGlobals "_law_rows" = some (some (.ref f_l_rows)))
    (l_l_rows : K.lookup f_l_rows = some ⟨oc_l_rows, od_l_rows, .func (PySem.W.fnOf "_law_rows" "_law_rows" (defArgs s_l_rows) (defBody s_l_rows) (defScope s_l_rows) .none kV_l_rows dc_l_rows pm_l_rows an_l_rows cd_l_rows ct_l_rows), sl_l_rows⟩)
    (c_l_rows : PySem.W.codeIn K cd_l_rows "_law_rows" = true)
    (k_l_rows : PySem.W.keepIn K (.ref f_l_rows) = true)
    (a_l_words : PySem.W.nsIn K mainGlobals "_law_words" = some (some (.ref f_l_words)))
    (l_l_words : K.lookup f_l_words = some ⟨oc_l_words, od_l_words, .func (PySem.W.fnOf "_law_words" "_law_words" (defArgs s_l_words) (defBody s_l_words) (defScope s_l_words) .none kV_l_words dc_l_words pm_l_words an_l_words cd_l_words ct_l_words), sl_l_words⟩)
    (c_l_words : PySem.W.codeIn K cd_l_words "_law_words" = true)
    (k_l_words : PySem.W.keepIn K (.ref f_l_words) = true)
    (a_l_lines : PySem.W.nsIn K mainGlobals "_law_lines" = some (some (.ref f_l_lines)))
    (l_l_lines : K.lookup f_l_lines = some ⟨oc_l_lines, od_l_lines, .func (PySem.W.fnOf "_law_lines" "_law_lines" (defArgs s_l_lines) (defBody s_l_lines) (defScope s_l_lines) .none kV_l_lines dc_l_lines pm_l_lines an_l_lines cd_l_lines ct_l_lines), sl_l_lines⟩)
    (c_l_lines : PySem.W.codeIn K cd_l_lines "_law_lines" = true)
    (k_l_lines : PySem.W.keepIn K (.ref f_l_lines) = true)
    (a_l_told : PySem.W.nsIn K mainGlobals "_law_told" = some (some (.ref f_l_told)))
    (l_l_told : K.lookup f_l_told = some ⟨oc_l_told, od_l_told, .func (PySem.W.fnOf "_law_told" "_law_told" (defArgs s_l_told) (defBody s_l_told) (defScope s_l_told) .none kV_l_told dc_l_told pm_l_told an_l_told cd_l_told ct_l_told), sl_l_told⟩)
    (c_l_told : PySem.W.codeIn K cd_l_told "_law_told" = true)
    (k_l_told : PySem.W.keepIn K (.ref f_l_told) = true)
    (a_l_leaves : PySem.W.nsIn K mainGlobals "_law_leaves" = some (some (.ref f_l_leaves)))
    (l_l_leaves : K.lookup f_l_leaves = some ⟨oc_l_leaves, od_l_leaves, .func (PySem.W.fnOf "_law_leaves" "_law_leaves" (defArgs s_l_leaves) (defBody s_l_leaves) (defScope s_l_leaves) .none kV_l_leaves dc_l_leaves pm_l_leaves an_l_leaves cd_l_leaves ct_l_leaves), sl_l_leaves⟩)
    (c_l_leaves : PySem.W.codeIn K cd_l_leaves "_law_leaves" = true)
    (k_l_leaves : PySem.W.keepIn K (.ref f_l_leaves) = true)
    (a_l_line : PySem.W.nsIn K mainGlobals "_law_line" = some (some (.ref f_l_line)))
    (l_l_line : K.lookup f_l_line = some ⟨oc_l_line, od_l_line, .func (PySem.W.fnOf "_law_line" "_law_line" (defArgs s_l_line) (defBody s_l_line) (defScope s_l_line) .none kV_l_line dc_l_line pm_l_line an_l_line cd_l_line ct_l_line), sl_l_line⟩)
    (c_l_line : PySem.W.codeIn K cd_l_line "_law_line" = true)
    (k_l_line : PySem.W.keepIn K (.ref f_l_line) = true)
    (a_l_due : PySem.W.nsIn K mainGlobals "_law_due" = some (some (.ref f_l_due)))
    (l_l_due : K.lookup f_l_due = some ⟨oc_l_due, od_l_due, .func (PySem.W.fnOf "_law_due" "_law_due" (defArgs s_l_due) (defBody s_l_due) (defScope s_l_due) .none kV_l_due dc_l_due pm_l_due an_l_due cd_l_due ct_l_due), sl_l_due⟩)
    (c_l_due : PySem.W.codeIn K cd_l_due "_law_due" = true)
    (k_l_due : PySem.W.keepIn K (.ref f_l_due) = true)
    (a_l_spoilt : PySem.W.nsIn K mainGlobals "_law_spoilt" = some (some (.ref f_l_spoilt)))
    (l_l_spoilt : K.lookup f_l_spoilt = some ⟨oc_l_spoilt, od_l_spoilt, .func (PySem.W.fnOf "_law_spoilt" "_law_spoilt" (defArgs s_l_spoilt) (defBody s_l_spoilt) (defScope s_l_spoilt) .none kV_l_spoilt dc_l_spoilt pm_l_spoilt an_l_spoilt cd_l_spoilt ct_l_spoilt), sl_l_spoilt⟩)
    (c_l_spoilt : PySem.W.codeIn K cd_l_spoilt "_law_spoilt" = true)
    (k_l_spoilt : PySem.W.keepIn K (.ref f_l_spoilt) = true)
    (a_law : PySem.W.nsIn K mainGlobals "law" = some (some (.ref f_law)))
    (l_law : K.lookup f_law = some ⟨oc_law, od_law, .func (PySem.W.fnOf "law" "law" (defArgs s_law) (defBody s_law) (defScope s_law) .none kV_law dc_law pm_law an_law cd_law ct_law), sl_law⟩)
    (c_law : PySem.W.codeIn K cd_law "law" = true)
    (k_law : PySem.W.keepIn K (.ref f_law) = true)
    (a_BadText_init : PySem.W.findIn K (.ref C_BadText) "__init__" = some (some (.ref f_BadText_init)))
    (t_BadText_init : PySem.W.typeIn K (.ref f_BadText_init) = some (.type "function"))
    (l_BadText_init : K.lookup f_BadText_init = some ⟨oc_BadText_init, od_BadText_init, .func (PySem.W.ksFn "__init__" "BadText.__init__" (defArgs s_BadText_init) (defBody s_BadText_init) (defScope s_BadText_init) .none kV_BadText_init dc_BadText_init pm_BadText_init an_BadText_init (.ref cda_BadText_init) ct_BadText_init cc_BadText_init), sl_BadText_init⟩)
    (h_BadText_init : PySem.W.codeIn K (.ref cda_BadText_init) "BadText.__init__" = true)
    (k_BadText_init : PySem.W.keepIn K (.ref f_BadText_init) = true)
    (d_BadText_init : K.lookup cda_BadText_init = some ⟨ccl_BadText_init, cdd_BadText_init, .fields vs_BadText_init, ccs_BadText_init⟩)
    (v_BadText_init : vs_BadText_init[2]? = some (.str fi_BadText_init tf_BadText_init))
    (w_BadText_init : ((l.prog.main.file : Str) == fi_BadText_init) = true)
    (e_BadText_init : K.lookup cc_BadText_init = some ⟨cl_BadText_init, cld_BadText_init, .cell (some (.ref C_BadText)), csl_BadText_init⟩)
    (mr_BadText_init : PySem.W.mroIn K C_BadText (.ref C_BadText) = some true)
    (su_BadText_init : PySem.W.ks_superIn K C_BadText C_BadText "__init__" = some (some (.builtin "ValueError.__init__")))
    (sv_BadText_init : PySem.W.subIn K (.ref C_BadText) (.type "ValueError") = some true)
    (o_BadText : K.lookup C_BadText = some (excClassObj nm_BadText q_BadText C_BadText N_BadText bs_BadText bm_BadText true sn_BadText sub_BadText ab_BadText col_BadText dd_BadText k0_BadText k1_BadText k2_BadText k3_BadText k5_BadText "ValueError.__new__"))
    (rv_BadText : PySem.HandSPX.refsVE bm_BadText = true)
    (sa_BadText : PySem.W.findIn K (.ref C_BadText) "__setattr__" = some (some (.builtin "object.__setattr__")))
    (be_BadText : PySem.W.subIn K (.ref C_BadText) (.type "BaseException") = some true)
    (ty_BadText : PySem.W.typeIn K (.ref C_BadText) = some (.type "type"))
    (kc_BadText : PySem.W.keepIn K (.ref C_BadText) = true)
    (ga_BadText : PySem.W.findIn K (.ref C_BadText) "__getattribute__" = some (some (.builtin "BaseException.__getattribute__")))
    (gg_BadText : PySem.W.findIn K (.ref C_BadText) "__getattr__" = some none)
    (hd_BadText : PySem.W.hasDictIn K C_BadText = true)
    (ic_BadText : PySem.W.isClsIn K C_BadText = true)
    (se_BadText : PySem.W.subIn K (.ref C_BadText) (.ref C_BadText) = some true)
    (no_BadText_line : PySem.W.findIn K (.ref C_BadText) "line" = some none)
    (no_BadText_word : PySem.W.findIn K (.ref C_BadText) "word" = some none)
    (ha : PySem.W.findIn K (.ref C_Feast) "__class__" = some (some (.builtin "object.__class__")))
    (hn : PySem.W.specialIn K (.builtin "object.__class__") "__get__" = some (some (.builtin "getset_descriptor.__get__")))
    (htk : PySem.W.takesIn K (.builtin "object.__class__") = some true)
    (hm : PySem.W.mroIn K C_Feast (.type "object") = some true)
    : ∃ fd : FuncData, (∀ (s : Shared) (v : Value), BindsTo s fd ⟨[v], []⟩ [("_law_script", v)]) ∧ ∀ base : Heap, K.In base → base.Ns mainGlobals mg → FnOk l.prog w K mg base CX0 17 fa fd ["_law_script"] (spLaw K) := by
  have e := hfa.symm.trans (PySem.W.mg_of X G a_law)
  cases e
  have T : Txt l.prog w K mg C_BadRule C_BadRules C_BadText C_Feast C_Calendar C_Line := by
    constructor
    · exact mg_none_of X G z_super
    · exact ⟨⟨⟨_, _, _, _, _, _, _, _, _, _, _, _, _, _, _, o_BadText, rv_BadText⟩, sa_BadText, be_BadText, ty_BadText, kc_BadText⟩, ⟨_, _, _, _, ⟨⟨_, _, _, _, _, _, _, _, _, rfl, l_BadText_init⟩, h_BadText_init, k_BadText_init, ⟨_, _, _, _, _, _, d_BadText_init, v_BadText_init, w_BadText_init⟩, ⟨_, _, _, e_BadText_init⟩, mr_BadText_init, z_super, tp_super, an_super, su_BadText_init, sv_BadText_init⟩, a_BadText_init, t_BadText_init, Binds.all fun us hl => match us, hl with | [_, _, _], _ => rfl⟩, ⟨ga_BadText, gg_BadText, be_BadText, hd_BadText⟩, fun x hx => by
        simp only [List.mem_cons, List.not_mem_nil, or_false] at hx
        rcases hx with rfl | rfl <;> assumption, ic_BadText, se_BadText⟩
    · exact mg_none_of X G z_len
    · exact mg_none_of X G z_abs
    · exact mg_none_of X G z_sum
    · exact mg_none_of X G z_isinstance
    · exact mg_none_of X G z_sorted
    · exact mg_none_of X G z_all
    · exact mg_none_of X G z_int
    · exact mg_none_of X G z_str
    · exact mg_none_of X G z_list
    · exact mg_none_of X G z_tuple
    · exact mg_none_of X G z_dict
    · exact mg_none_of X G z_bool
    · exact mg_none_of X G z_range
    · exact mg_none_of X G z_enumerate
    · exact ⟨_, mg_of X G g_BYS, fun H => .inr ⟨_, _, _, l_u_BYS, rfl, rfl, by show 4 ≤ sizeLine; decide, (.cons ⟨t_u_BYS_0, rfl⟩ (.cons ⟨t_u_BYS_1, rfl⟩ (.cons ⟨t_u_BYS_2, rfl⟩ (.cons ⟨t_u_BYS_3, rfl⟩ .nil))))⟩⟩
    · exact ⟨_, _, _, mg_of X G g_ENDS, ⟨⟨_, _, l_ENDS, e_ENDS, w_ENDS⟩, x_weekday, x_first, x_monthday, no5 x_behind x_both x_either x_without x_week, fun H => .inr ⟨_, _, _, l_u_W, rfl, rfl, by show 4 ≤ sizeLine; decide, (.cons ⟨t_u_W_0, rfl⟩ (.cons ⟨t_u_W_1, rfl⟩ (.cons ⟨t_u_W_2, rfl⟩ (.cons ⟨t_u_W_3, rfl⟩ .nil))))⟩, fun H => .inr ⟨_, _, _, l_u_M, rfl, rfl, by show 6 ≤ sizeLine; decide, (.cons ⟨t_u_M_0, rfl⟩ (.cons ⟨t_u_M_1, rfl⟩ (.cons ⟨t_u_M_2, rfl⟩ (.cons ⟨t_u_M_3, rfl⟩ (.cons ⟨t_u_M_4, rfl⟩ (.cons ⟨t_u_M_5, rfl⟩ .nil))))))⟩⟩⟩
    · exact ⟨_, mg_of X G g_PAIRS, fun H => .inr ⟨_, _, _, l_u_PAIRS, rfl, rfl, by show 3 ≤ sizeLine; decide, (.cons ⟨t_u_PAIRS_0, rfl⟩ (.cons ⟨t_u_PAIRS_1, rfl⟩ (.cons ⟨t_u_PAIRS_2, rfl⟩ .nil)))⟩⟩
    · exact ⟨_, mg_of X G g_MOST_PARTS, t_MOST_PARTS, rfl⟩
    · exact ⟨_, mg_of X G g_MOST_BYS, t_MOST_BYS, rfl⟩
    · exact ⟨_, mg_of X G g_MOST_RULES, t_MOST_RULES, rfl⟩
    · exact ⟨_, mg_of X G g_LEAST_REACH, t_LEAST_REACH, rfl⟩
    · exact fun d h => by
        have e := (PySem.W.mg_of X G g_ENDS).symm.trans h
        cases e
        exact ⟨_, _, ⟨l_ENDS, e_ENDS, w_ENDS⟩, kk_ENDS⟩
    · exact ⟨_, mg_of X G g_PAIRS, ⟨_, _, l_u_PAIRS, (.cons ⟨t_u_PAIRS_0, rfl⟩ (.cons ⟨t_u_PAIRS_1, rfl⟩ (.cons ⟨t_u_PAIRS_2, rfl⟩ .nil)))⟩, fun H => .inr ⟨_, _, _, l_u_PAIRS, rfl, rfl, by show 3 ≤ sizeLine; decide, (.cons ⟨t_u_PAIRS_0, rfl⟩ (.cons ⟨t_u_PAIRS_1, rfl⟩ (.cons ⟨t_u_PAIRS_2, rfl⟩ .nil)))⟩⟩
    · exact ⟨_, _, _, mg_of X G g_BEGINS, ⟨l_BEGINS, e_BEGINS, w_BEGINS⟩, kk_BEGINS, x_plain, x_yields⟩
    · exact mg_of X G a_BadRule
    · exact ⟨x_BadRule, k_BadRule, b_BadRule, t_BadRule, i_BadRule, s_BadRule⟩
    · exact mg_of X G a_BadRules
    · exact mg_of X G a_BadText
    · exact mg_of X G a_Feast
    · exact mg_of X G a_Calendar
    · exact mg_of X G a_Line
    · exact ⟨⟨_, _, mg_of X G a_is_in, fun_mk (st := s_is_in) l_is_in c_is_in k_is_in, (fun_mk (st := s_is_in) l_is_in c_is_in k_is_in).binds fun _ _ _ _ _ _ us hl => match us, hl with | [_, _], _ => rfl⟩⟩
    · exact ⟨⟨_, _, mg_of X G a_within, fun_mk (st := s_within) l_within c_within k_within, (fun_mk (st := s_within) l_within c_within k_within).binds fun _ _ _ _ _ _ us hl => match us, hl with | [_], _ => rfl⟩⟩
    · exact ⟨⟨_, _, mg_of X G a_size_of, fun_mk (st := s_size_of) l_size_of c_size_of k_size_of, (fun_mk (st := s_size_of) l_size_of c_size_of k_size_of).binds fun _ _ _ _ _ _ us hl => match us, hl with | [_, _], _ => rfl⟩⟩
    · exact ⟨⟨_, _, mg_of X G a_is_rule, fun_mk (st := s_is_rule) l_is_rule c_is_rule k_is_rule, (fun_mk (st := s_is_rule) l_is_rule c_is_rule k_is_rule).binds fun _ _ _ _ _ _ us hl => match us, hl with | [_], _ => rfl⟩⟩
    · exact ⟨⟨_, _, ⟨mk_Feast, a_Feast_init, i_Feast_init, kc_Feast⟩, fun_mk (st := s_Feast_init) l_Feast_init c_Feast_init k_Feast_init, (fun_mk (st := s_Feast_init) l_Feast_init c_Feast_init k_Feast_init).binds fun _ _ _ _ _ _ us hl => match us, hl with | [_, _], _ => rfl⟩⟩
    · exact ⟨⟨_, _, ⟨a_Feast_eq, i_Feast_eq, k_Feast_eq⟩, fun_mk (st := s_Feast_eq) l_Feast_eq c_Feast_eq k_Feast_eq, (fun_mk (st := s_Feast_eq) l_Feast_eq c_Feast_eq k_Feast_eq).binds fun _ _ _ _ _ _ us hl => match us, hl with | [_, _], _ => rfl⟩⟩
    · exact ⟨⟨_, _, ⟨a_Feast_and, i_Feast_and, k_Feast_and⟩, fun_mk (st := s_Feast_and) l_Feast_and c_Feast_and k_Feast_and, (fun_mk (st := s_Feast_and) l_Feast_and c_Feast_and k_Feast_and).binds fun _ _ _ _ _ _ us hl => match us, hl with | [_, _], _ => rfl⟩⟩
    · exact ⟨⟨_, _, ⟨a_Feast_or, i_Feast_or, k_Feast_or⟩, fun_mk (st := s_Feast_or) l_Feast_or c_Feast_or k_Feast_or, (fun_mk (st := s_Feast_or) l_Feast_or c_Feast_or k_Feast_or).binds fun _ _ _ _ _ _ us hl => match us, hl with | [_, _], _ => rfl⟩⟩
    · exact ⟨⟨_, _, ⟨a_Feast_sub, i_Feast_sub, k_Feast_sub⟩, fun_mk (st := s_Feast_sub) l_Feast_sub c_Feast_sub k_Feast_sub, (fun_mk (st := s_Feast_sub) l_Feast_sub c_Feast_sub k_Feast_sub).binds fun _ _ _ _ _ _ us hl => match us, hl with | [_, _], _ => rfl⟩⟩
    · exact ⟨⟨_, _, ⟨a_Feast_moved, i_Feast_moved, k_Feast_moved⟩, fun_mk (st := s_Feast_moved) l_Feast_moved c_Feast_moved k_Feast_moved, (fun_mk (st := s_Feast_moved) l_Feast_moved c_Feast_moved k_Feast_moved).binds fun _ _ _ _ _ _ us hl => match us, hl with | [_, _], _ => rfl⟩⟩
    · exact ⟨⟨_, _, mg_of X G a_is_pair, fun_mk (st := s_is_pair) l_is_pair c_is_pair k_is_pair, (fun_mk (st := s_is_pair) l_is_pair c_is_pair k_is_pair).binds fun _ _ _ _ _ _ us hl => match us, hl with | [_], _ => rfl⟩⟩
    · exact ⟨⟨_, _, ⟨mk_Calendar, a_Calendar_init, i_Calendar_init, kc_Calendar⟩, fun_mk (st := s_Calendar_init) l_Calendar_init c_Calendar_init k_Calendar_init, (fun_mk (st := s_Calendar_init) l_Calendar_init c_Calendar_init k_Calendar_init).binds fun _ _ _ _ _ _ us hl => match us, hl with | [_, _], _ => rfl⟩⟩
    · exact ⟨⟨_, _, ⟨a_Calendar_eq, i_Calendar_eq, k_Calendar_eq⟩, fun_mk (st := s_Calendar_eq) l_Calendar_eq c_Calendar_eq k_Calendar_eq, (fun_mk (st := s_Calendar_eq) l_Calendar_eq c_Calendar_eq k_Calendar_eq).binds fun _ _ _ _ _ _ us hl => match us, hl with | [_, _], _ => rfl⟩⟩
    · exact ⟨⟨_, _, ⟨mk_Line, a_Line_init, i_Line_init, kc_Line⟩, fun_mk (st := s_Line_init) l_Line_init c_Line_init k_Line_init, (fun_mk (st := s_Line_init) l_Line_init c_Line_init k_Line_init).binds fun _ _ _ _ _ _ us hl => match us, hl with | [_, _, _, _], _ => rfl⟩⟩
    · exact ⟨⟨_, _, ⟨a_Line_take, i_Line_take, k_Line_take⟩, fun_mk (st := s_Line_take) l_Line_take c_Line_take k_Line_take, (fun_mk (st := s_Line_take) l_Line_take c_Line_take k_Line_take).binds fun _ _ _ _ _ _ us hl => match us, hl with | [_, _], _ => rfl⟩⟩
    · exact ⟨⟨_, _, ⟨a_Line_take_number, i_Line_take_number, k_Line_take_number⟩, fun_mk (st := s_Line_take_number) l_Line_take_number c_Line_take_number k_Line_take_number, (fun_mk (st := s_Line_take_number) l_Line_take_number c_Line_take_number k_Line_take_number).binds fun _ _ _ _ _ _ us hl => match us, hl with | [_, _], _ => rfl⟩⟩
    · exact ⟨⟨_, _, ⟨a_Line_whole_rule, i_Line_whole_rule, k_Line_whole_rule⟩, fun_mk (st := s_Line_whole_rule) l_Line_whole_rule c_Line_whole_rule k_Line_whole_rule, (fun_mk (st := s_Line_whole_rule) l_Line_whole_rule c_Line_whole_rule k_Line_whole_rule).binds fun _ _ _ _ _ _ us hl => match us, hl with | [_], _ => rfl⟩⟩
    · exact ⟨⟨_, _, ⟨a_Line_end, i_Line_end, k_Line_end⟩, fun_mk (st := s_Line_end) l_Line_end c_Line_end k_Line_end, (fun_mk (st := s_Line_end) l_Line_end c_Line_end k_Line_end).binds fun _ _ _ _ _ _ us hl => match us, hl with | [_], _ => rfl⟩⟩
    · exact ⟨⟨_, _, mg_of X G a_read, fun_mk (st := s_read) l_read c_read k_read, (fun_mk (st := s_read) l_read c_read k_read).binds fun _ _ _ _ _ _ us hl => match us, hl with | [_], _ => rfl⟩⟩
    · exact ⟨⟨_, _, mg_of X G a_l_random, fun_mk (st := s_l_random) l_l_random c_l_random k_l_random, (fun_mk (st := s_l_random) l_l_random c_l_random k_l_random).binds fun _ _ _ _ _ _ us hl => match us, hl with | [_, _], _ => rfl⟩⟩
    · exact ⟨⟨_, _, mg_of X G a_l_below, fun_mk (st := s_l_below) l_l_below c_l_below k_l_below, (fun_mk (st := s_l_below) l_l_below c_l_below k_l_below).binds fun _ _ _ _ _ _ us hl => match us, hl with | [_, _], _ => rfl⟩⟩
    · exact ⟨⟨_, _, mg_of X G a_l_pick, fun_mk (st := s_l_pick) l_l_pick c_l_pick k_l_pick, (fun_mk (st := s_l_pick) l_l_pick c_l_pick k_l_pick).binds fun _ _ _ _ _ _ us hl => match us, hl with | [_, _], _ => rfl⟩⟩
    · exact ⟨⟨_, _, mg_of X G a_l_equal, fun_mk (st := s_l_equal) l_l_equal c_l_equal k_l_equal, (fun_mk (st := s_l_equal) l_l_equal c_l_equal k_l_equal).binds fun _ _ _ _ _ _ us hl => match us, hl with | [_, _], _ => rfl⟩⟩
    · exact ⟨⟨_, _, mg_of X G a_l_leaf, fun_mk (st := s_l_leaf) l_l_leaf c_l_leaf k_l_leaf, (fun_mk (st := s_l_leaf) l_l_leaf c_l_leaf k_l_leaf).binds fun _ _ _ _ _ _ us hl => match us, hl with | [_], _ => rfl⟩⟩
    · exact ⟨⟨_, _, mg_of X G a_l_rule, fun_mk (st := s_l_rule) l_l_rule c_l_rule k_l_rule, (fun_mk (st := s_l_rule) l_l_rule c_l_rule k_l_rule).binds fun _ _ _ _ _ _ us hl => match us, hl with | [_, _], _ => rfl⟩⟩
    · exact ⟨⟨_, _, mg_of X G a_l_rows, fun_mk (st := s_l_rows) l_l_rows c_l_rows k_l_rows, (fun_mk (st := s_l_rows) l_l_rows c_l_rows k_l_rows).binds fun _ _ _ _ _ _ us hl => match us, hl with | [_, _, _], _ => rfl⟩⟩
    · exact ⟨⟨_, _, mg_of X G a_l_words, fun_mk (st := s_l_words) l_l_words c_l_words k_l_words, (fun_mk (st := s_l_words) l_l_words c_l_words k_l_words).binds fun _ _ _ _ _ _ us hl => match us, hl with | [_], _ => rfl⟩⟩
    · exact ⟨⟨_, _, mg_of X G a_l_lines, fun_mk (st := s_l_lines) l_l_lines c_l_lines k_l_lines, (fun_mk (st := s_l_lines) l_l_lines c_l_lines k_l_lines).binds fun _ _ _ _ _ _ us hl => match us, hl with | [_], _ => rfl⟩⟩
    · exact ⟨⟨_, _, mg_of X G a_l_told, fun_mk (st := s_l_told) l_l_told c_l_told k_l_told, (fun_mk (st := s_l_told) l_l_told c_l_told k_l_told).binds fun _ _ _ _ _ _ us hl => match us, hl with | [_], _ => rfl⟩⟩
    · exact ⟨⟨_, _, mg_of X G a_l_leaves, fun_mk (st := s_l_leaves) l_l_leaves c_l_leaves k_l_leaves, (fun_mk (st := s_l_leaves) l_l_leaves c_l_leaves k_l_leaves).binds fun _ _ _ _ _ _ us hl => match us, hl with | [_], _ => rfl⟩⟩
    · exact ⟨⟨_, _, mg_of X G a_l_line, fun_mk (st := s_l_line) l_l_line c_l_line k_l_line, (fun_mk (st := s_l_line) l_l_line c_l_line k_l_line).binds fun _ _ _ _ _ _ us hl => match us, hl with | [_, _], _ => rfl⟩⟩
    · exact ⟨⟨_, _, mg_of X G a_l_due, fun_mk (st := s_l_due) l_l_due c_l_due k_l_due, (fun_mk (st := s_l_due) l_l_due c_l_due k_l_due).binds fun _ _ _ _ _ _ us hl => match us, hl with | [_], _ => rfl⟩⟩
    · exact ⟨⟨_, _, mg_of X G a_l_spoilt, fun_mk (st := s_l_spoilt) l_l_spoilt c_l_spoilt k_l_spoilt, (fun_mk (st := s_l_spoilt) l_l_spoilt c_l_spoilt k_l_spoilt).binds fun _ _ _ _ _ _ us hl => match us, hl with | [_, _], _ => rfl⟩⟩
    · exact ⟨⟨_, _, mg_of X G a_law, fun_mk (st := s_law) l_law c_law k_law, (fun_mk (st := s_law) l_law c_law k_law).binds fun _ _ _ _ _ _ us hl => match us, hl with | [_], _ => rfl⟩⟩
  have K_Feast : Cls1 K C_Feast ["told", "bys"] := ⟨⟨pg_Feast, hd_Feast, po_Feast, sa_Feast⟩, fun x hx => by
    simp only [List.mem_cons, List.not_mem_nil, or_false] at hx
    rcases hx with rfl | rfl <;> assumption⟩
  have K_Calendar : Cls1 K C_Calendar ["rows", "near"] := ⟨⟨pg_Calendar, hd_Calendar, po_Calendar, sa_Calendar⟩, fun x hx => by
    simp only [List.mem_cons, List.not_mem_nil, or_false] at hx
    rcases hx with rfl | rfl <;> assumption⟩
  have K_Line : Cls1 K C_Line ["number", "row", "spot", "parts", "due", "room"] := ⟨⟨pg_Line, hd_Line, po_Line, sa_Line⟩, fun x hx => by
    simp only [List.mem_cons, List.not_mem_nil, or_false] at hx
    rcases hx with rfl | rfl | rfl | rfl | rfl | rfl <;> assumption⟩
  exact ⟨_, fun s v => .of_eq rfl, fun base _ _ => ok_law (fun_mk (st := s_law) l_law c_law k_law) T K_Feast ⟨K_Feast.cl, ha, hn, htk, hm⟩ K_Calendar K_Line⟩
theorem walk {l : PySem.W.OpenLaw} {q : Program} {loose : List Str} {XP : (Str → Option Value) → Heap → Prop} {YP : World → Heap → Prop} {d : DefRec} {K : Params → PySem.W.Frag} (hn : l.most = some 63) (hdf : d.params.defaults = [])
    (hY : ∀ (w : World) (h : Heap), YP w h → (K w.params).In h)
    (F : ∀ (w : World) (mg : Str → Option Value) (fa : Addr) (h : Heap), (K w.params).In h → h.Ns mainGlobals mg → mg d.name = some (.ref fa) →
      ∃ fd : FuncData, (∀ (s : Shared) (u : Value), BindsTo s fd ⟨[u], []⟩ [("_law_script", u)]) ∧ ∀ base : Heap, (K w.params).In base → base.Ns mainGlobals mg → FnOk l.prog w (K w.params) mg base CX0 17 fa fd ["_law_script"] (spLaw (K w.params))) :
    PySem.W.WalkO q loose XP YP l.row.toRowW d [] (fun f vs => PySem.call f vs) :=
  L2.walk_of (n := 63) (k := 17) (x := "_law_script") (CX := fun _ => CX0) (sp := fun w => spLaw (K w.params)) hn (by decide) hdf ⟨rfl, by decide, by decide⟩ hY F (fun _ _ a ns hl _ hS => ⟨a, ns, rfl, hS, hl, fun _ => rfl⟩) fun _ _ _ _ _ z => z
end WF
open PySem PySem.W PyProof.Rows in
set_option maxRecDepth 100000 in
set_option maxHeartbeats 0 in
theorem PySem.Challenge.cw_weekfeasts_k12_whole_texts_refused_holds : PySem.Challenge.rw_weekfeasts_k12_whole_texts_refused.Holds := by
  w_on; o_law; k_head; (case hw => w_witness2)
  k_fill
  refine WF.walk (l := PySem.Challenge.rw_weekfeasts_k12_whole_texts_refused) rfl rfl (fun w h Y => PySem.W.kIn_of Y) ?F
  case F =>
    intro w mg fa h KX G hmg
    refine' WF.all_mk KX G hmg ?z_super ?tp_super ?an_super ?z_len ?z_abs ?z_sum ?z_isinstance ?z_sorted ?z_all ?z_int ?z_str ?z_list ?z_tuple ?z_dict ?z_bool ?z_range ?z_enumerate ?g_BYS ?l_u_BYS ?g_ENDS ?l_ENDS ?e_ENDS ?w_ENDS ?x_weekday ?x_first ?x_monthday ?x_behind ?x_both ?x_either ?x_without ?x_week ?l_u_W ?l_u_M ?g_PAIRS ?l_u_PAIRS ?g_MOST_PARTS ?g_MOST_BYS ?g_MOST_RULES ?g_LEAST_REACH ?kk_ENDS ?g_BEGINS ?l_BEGINS ?e_BEGINS ?w_BEGINS ?kk_BEGINS ?x_plain ?x_yields ?a_BadRule ?x_BadRule ?k_BadRule ?b_BadRule ?t_BadRule ?i_BadRule ?s_BadRule ?a_BadRules ?a_BadText ?a_Feast ?a_Calendar ?a_Line ?a_is_in ?l_is_in ?c_is_in ?k_is_in ?a_within ?l_within ?c_within ?k_within ?a_size_of ?l_size_of ?c_size_of ?k_size_of ?a_is_rule ?l_is_rule ?c_is_rule ?k_is_rule ?pg_Feast ?hd_Feast ?po_Feast ?sa_Feast ?mk_Feast ?kc_Feast ?n_Feast_told ?n_Feast_bys ?a_Feast_init ?i_Feast_init ?l_Feast_init ?c_Feast_init ?k_Feast_init ?a_Feast_eq ?i_Feast_eq ?l_Feast_eq ?c_Feast_eq ?k_Feast_eq ?a_Feast_and ?i_Feast_and ?l_Feast_and ?c_Feast_and ?k_Feast_and ?a_Feast_or ?i_Feast_or ?l_Feast_or ?c_Feast_or ?k_Feast_or ?a_Feast_sub ?i_Feast_sub ?l_Feast_sub ?c_Feast_sub ?k_Feast_sub ?a_Feast_moved ?i_Feast_moved ?l_Feast_moved ?c_Feast_moved ?k_Feast_moved ?a_is_pair ?l_is_pair ?c_is_pair ?k_is_pair ?pg_Calendar ?hd_Calendar ?po_Calendar ?sa_Calendar ?mk_Calendar ?kc_Calendar ?n_Calendar_rows ?n_Calendar_near ?a_Calendar_init ?i_Calendar_init ?l_Calendar_init ?c_Calendar_init ?k_Calendar_init ?a_Calendar_eq ?i_Calendar_eq ?l_Calendar_eq ?c_Calendar_eq ?k_Calendar_eq ?pg_Line ?hd_Line ?po_Line ?sa_Line ?mk_Line ?kc_Line ?n_Line_number ?n_Line_row ?n_Line_spot ?n_Line_parts ?n_Line_due ?n_Line_room ?a_Line_init ?i_Line_init ?l_Line_init ?c_Line_init ?k_Line_init ?a_Line_take ?i_Line_take ?l_Line_take ?c_Line_take ?k_Line_take ?a_Line_take_number ?i_Line_take_number ?l_Line_take_number ?c_Line_take_number ?k_Line_take_number ?a_Line_whole_rule ?i_Line_whole_rule ?l_Line_whole_rule ?c_Line_whole_rule ?k_Line_whole_rule ?a_Line_end ?i_Line_end ?l_Line_end ?c_Line_end ?k_Line_end ?a_read ?l_read ?c_read ?k_read ?a_l_random ?l_l_random ?c_l_random ?k_l_random ?a_l_below ?l_l_below ?c_l_below ?k_l_below ?a_l_pick ?l_l_pick ?c_l_pick ?k_l_pick ?a_l_equal ?l_l_equal ?c_l_equal ?k_l_equal ?a_l_leaf ?l_l_leaf ?c_l_leaf ?k_l_leaf ?a_l_rule ?l_l_rule ?c_l_rule ?k_l_rule ?a_l_rows ?l_l_rows ?c_l_rows ?k_l_rows ?a_l_words ?l_l_words ?c_l_words ?k_l_words ?a_l_lines ?l_l_lines ?c_l_lines ?k_l_lines ?a_l_told ?l_l_told ?c_l_told ?k_l_told ?a_l_leaves ?l_l_leaves ?c_l_leaves ?k_l_leaves ?a_l_line ?l_l_line ?c_l_line ?k_l_line ?a_l_due ?l_l_due ?c_l_due ?k_l_due ?a_l_spoilt ?l_l_spoilt ?c_l_spoilt ?k_l_spoilt ?a_law ?l_law ?c_law ?k_law ?a_BadText_init ?t_BadText_init ?l_BadText_init ?h_BadText_init ?k_BadText_init ?d_BadText_init ?v_BadText_init ?w_BadText_init ?e_BadText_init ?mr_BadText_init ?su_BadText_init ?sv_BadText_init ?o_BadText ?rv_BadText ?sa_BadText ?be_BadText ?ty_BadText ?kc_BadText ?ga_BadText ?gg_BadText ?hd_BadText ?ic_BadText ?se_BadText ?no_BadText_line ?no_BadText_word ?ha ?hn ?htk ?hm
    (case z_super => k_is)
    (case tp_super => first | rfl | decide +kernel)
    (case an_super => k_is)
    (case z_len => k_is)
    (case z_abs => k_is)
    (case z_sum => k_is)
    (case z_isinstance => k_is)
    (case z_sorted => k_is)
    (case z_all => k_is)
    (case z_int => k_is)
    (case z_str => k_is)
    (case z_list => k_is)
    (case z_tuple => k_is)
    (case z_dict => k_is)
    (case z_bool => k_is)
    (case z_range => k_is)
    (case z_enumerate => k_is)
    (case g_BYS => k_is)
    (case l_u_BYS => k_is)
    (case g_ENDS => k_is)
    (case l_ENDS => k_is)
    (case e_ENDS => exact ⟨⟨_, _, rfl, rfl⟩, ⟨_, _, rfl, rfl⟩, ⟨_, _, rfl, rfl⟩, trivial⟩)
    (case w_ENDS => first | rfl | decide +kernel | k_is)
    (case x_weekday => k_is)
    (case x_first => k_is)
    (case x_monthday => k_is)
    (case x_behind => k_is)
    (case x_both => k_is)
    (case x_either => k_is)
    (case x_without => k_is)
    (case x_week => k_is)
    (case l_u_W => k_is)
    (case l_u_M => k_is)
    (case g_PAIRS => k_is)
    (case l_u_PAIRS => k_is)
    (case g_MOST_PARTS => k_is)
    (case g_MOST_BYS => k_is)
    (case g_MOST_RULES => k_is)
    (case g_LEAST_REACH => k_is)
    (case kk_ENDS => exact ⟨⟨_, rfl⟩, ⟨_, rfl⟩, ⟨_, rfl⟩, trivial⟩)
    (case g_BEGINS => k_is)
    (case l_BEGINS => k_is)
    (case e_BEGINS => exact ⟨⟨_, _, rfl, rfl⟩, ⟨_, _, rfl, rfl⟩, trivial⟩)
    (case w_BEGINS => first | rfl | decide +kernel | k_is)
    (case kk_BEGINS => exact ⟨⟨_, rfl⟩, ⟨_, rfl⟩, trivial⟩)
    (case x_plain => k_is)
    (case x_yields => k_is)
    (case a_BadRule => k_is)
    (case x_BadRule => k_exc)
    (case k_BadRule => k_is)
    (case b_BadRule => k_is)
    (case t_BadRule => k_is)
    (case i_BadRule => k_is)
    (case s_BadRule => first | rfl | k_is)
    (case a_BadRules => k_is)
    (case a_BadText => k_is)
    (case a_Feast => k_is)
    (case a_Calendar => k_is)
    (case a_Line => k_is)
    (case a_is_in => k_is)
    (case l_is_in => k_is)
    (case c_is_in => k_is)
    (case k_is_in => k_is)
    (case a_within => k_is)
    (case l_within => k_is)
    (case c_within => k_is)
    (case k_within => k_is)
    (case a_size_of => k_is)
    (case l_size_of => k_is)
    (case c_size_of => k_is)
    (case k_size_of => k_is)
    (case a_is_rule => k_is)
    (case l_is_rule => k_is)
    (case c_is_rule => k_is)
    (case k_is_rule => k_is)
    (case pg_Feast => k_is)
    (case hd_Feast => k_is)
    (case po_Feast => k_is)
    (case sa_Feast => k_is)
    (case mk_Feast => k_is)
    (case kc_Feast => k_is)
    (case n_Feast_told => k_is)
    (case n_Feast_bys => k_is)
    (case a_Feast_init => k_is)
    (case i_Feast_init => k_is)
    (case l_Feast_init => k_is)
    (case c_Feast_init => k_is)
    (case k_Feast_init => k_is)
    (case a_Feast_eq => k_is)
    (case i_Feast_eq => k_is)
    (case l_Feast_eq => k_is)
    (case c_Feast_eq => k_is)
    (case k_Feast_eq => k_is)
    (case a_Feast_and => k_is)
    (case i_Feast_and => k_is)
    (case l_Feast_and => k_is)
    (case c_Feast_and => k_is)
    (case k_Feast_and => k_is)
    (case a_Feast_or => k_is)
    (case i_Feast_or => k_is)
    (case l_Feast_or => k_is)
    (case c_Feast_or => k_is)
    (case k_Feast_or => k_is)
    (case a_Feast_sub => k_is)
    (case i_Feast_sub => k_is)
    (case l_Feast_sub => k_is)
    (case c_Feast_sub => k_is)
    (case k_Feast_sub => k_is)
    (case a_Feast_moved => k_is)
    (case i_Feast_moved => k_is)
    (case l_Feast_moved => k_is)
    (case c_Feast_moved => k_is)
    (case k_Feast_moved => k_is)
    (case a_is_pair => k_is)
    (case l_is_pair => k_is)
    (case c_is_pair => k_is)
    (case k_is_pair => k_is)
    (case pg_Calendar => k_is)
    (case hd_Calendar => k_is)
    (case po_Calendar => k_is)
    (case sa_Calendar => k_is)
    (case mk_Calendar => k_is)
    (case kc_Calendar => k_is)
    (case n_Calendar_rows => k_is)
    (case n_Calendar_near => k_is)
    (case a_Calendar_init => k_is)
    (case i_Calendar_init => k_is)
    (case l_Calendar_init => k_is)
    (case c_Calendar_init => k_is)
    (case k_Calendar_init => k_is)
    (case a_Calendar_eq => k_is)
    (case i_Calendar_eq => k_is)
    (case l_Calendar_eq => k_is)
    (case c_Calendar_eq => k_is)
    (case k_Calendar_eq => k_is)
    (case pg_Line => k_is)
    (case hd_Line => k_is)
    (case po_Line => k_is)
    (case sa_Line => k_is)
    (case mk_Line => k_is)
    (case kc_Line => k_is)
    (case n_Line_number => k_is)
    (case n_Line_row => k_is)
    (case n_Line_spot => k_is)
    (case n_Line_parts => k_is)
    (case n_Line_due => k_is)
    (case n_Line_room => k_is)
    (case a_Line_init => k_is)
    (case i_Line_init => k_is)
    (case l_Line_init => k_is)
    (case c_Line_init => k_is)
    (case k_Line_init => k_is)
    (case a_Line_take => k_is)
    (case i_Line_take => k_is)
    (case l_Line_take => k_is)
    (case c_Line_take => k_is)
    (case k_Line_take => k_is)
    (case a_Line_take_number => k_is)
    (case i_Line_take_number => k_is)
    (case l_Line_take_number => k_is)
    (case c_Line_take_number => k_is)
    (case k_Line_take_number => k_is)
    (case a_Line_whole_rule => k_is)
    (case i_Line_whole_rule => k_is)
    (case l_Line_whole_rule => k_is)
    (case c_Line_whole_rule => k_is)
    (case k_Line_whole_rule => k_is)
    (case a_Line_end => k_is)
    (case i_Line_end => k_is)
    (case l_Line_end => k_is)
    (case c_Line_end => k_is)
    (case k_Line_end => k_is)
    (case a_read => k_is)
    (case l_read => k_is)
    (case c_read => k_is)
    (case k_read => k_is)
    (case a_l_random => k_is)
    (case l_l_random => k_is)
    (case c_l_random => k_is)
    (case k_l_random => k_is)
    (case a_l_below => k_is)
    (case l_l_below => k_is)
    (case c_l_below => k_is)
    (case k_l_below => k_is)
    (case a_l_pick => k_is)
    (case l_l_pick => k_is)
    (case c_l_pick => k_is)
    (case k_l_pick => k_is)
    (case a_l_equal => k_is)
    (case l_l_equal => k_is)
    (case c_l_equal => k_is)
    (case k_l_equal => k_is)
    (case a_l_leaf => k_is)
    (case l_l_leaf => k_is)
    (case c_l_leaf => k_is)
    (case k_l_leaf => k_is)
    (case a_l_rule => k_is)
    (case l_l_rule => k_is)
    (case c_l_rule => k_is)
    (case k_l_rule => k_is)
    (case a_l_rows => k_is)
    (case l_l_rows => k_is)
    (case c_l_rows => k_is)
    (case k_l_rows => k_is)
    (case a_l_words => k_is)
    (case l_l_words => k_is)
    (case c_l_words => k_is)
    (case k_l_words => k_is)
    (case a_l_lines => k_is)
    (case l_l_lines => k_is)
    (case c_l_lines => k_is)
    (case k_l_lines => k_is)
    (case a_l_told => k_is)
    (case l_l_told => k_is)
    (case c_l_told => k_is)
    (case k_l_told => k_is)
    (case a_l_leaves => k_is)
    (case l_l_leaves => k_is)
    (case c_l_leaves => k_is)
    (case k_l_leaves => k_is)
    (case a_l_line => k_is)
    (case l_l_line => k_is)
    (case c_l_line => k_is)
    (case k_l_line => k_is)
    (case a_l_due => k_is)
    (case l_l_due => k_is)
    (case c_l_due => k_is)
    (case k_l_due => k_is)
    (case a_l_spoilt => k_is)
    (case l_l_spoilt => k_is)
    (case c_l_spoilt => k_is)
    (case k_l_spoilt => k_is)
    (case a_law => k_is)
    (case l_law => k_is)
    (case c_law => k_is)
    (case k_law => k_is)
    (case a_BadText_init => k_is)
    (case t_BadText_init => k_is)
    (case l_BadText_init => k_is)
    (case h_BadText_init => k_is)
    (case k_BadText_init => k_is)
    (case d_BadText_init => k_is)
    (case v_BadText_init => rfl)
    (case w_BadText_init => first | rfl | decide +kernel)
    (case e_BadText_init => k_is)
    (case mr_BadText_init => k_is)
    (case su_BadText_init => ks_is)
    (case sv_BadText_init => k_is)
    (case o_BadText => k_is)
    (case rv_BadText => rfl)
    (case sa_BadText => k_is)
    (case be_BadText => k_is)
    (case ty_BadText => k_is)
    (case kc_BadText => k_is)
    (case ga_BadText => k_is)
    (case gg_BadText => k_is)
    (case hd_BadText => k_is)
    (case ic_BadText => k_is)
    (case se_BadText => first | rfl | k_is)
    (case no_BadText_line => k_is)
    (case no_BadText_word => k_is)
    (case ha => k_is)
    (case hn => k_is)
    (case htk => k_is)
    (case hm => k_is)


