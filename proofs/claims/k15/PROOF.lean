import PyProof.Rows.All
import Wide.All
import OpenK.AllK
import Wide.FinOn
import HandS.ForMost
import HandS.ForExc
import HandS.Evl
import HandS.WideBits
import HandS.IsInst
import HandS.Small
import HandS.More
import HandS.Walk
import KE.GoesEnum
import KE.GoesMore
import HandS.Property
import HandS.Conv
import PyProof.LongRange
import HandS.TryMany
import HandS.TryOnly
import HandS.ExcOwn
import HandS.WordsDict
import KE.SortKeyHeap
import KE.SortData
import HandS.Sort
import HandS.SortKw
import PyProof.WalksMore
import HandS.OwnEq
import OpenK.KOps
import HandS.ExcInit
import HandS.ExcField
import HandS.ExcSuper
import KE.KExcSuper
import KE.RegKSuper
import HandS.Style
import HandS.Star
import KE.KDictCopyH
import HandS.Iter
import HandS.Text
import KE.KDictList
import PySem.Challenge.RW_weekfeasts_k15_known_calendars
/-! WMath: the plain law. Rules as data, their days, figures as numbers. -/
set_option Elab.async false
set_option linter.all false
namespace WF

/-- a rule, as data -/
inductive Rl where
  | wk (k : Int) | fs (k : Int) | md (k : Int)
  | bh (r : Rl) (b : Int)
  | bo (x y : Rl) | ei (x y : Rl) | wo (x y : Rl)
  deriving DecidableEq, Inhabited

/-- is day d one of the rule, in the land (w, m) -/
def Rl.day (w m : Int) : Rl → Int → Bool
  | .wk k, d => d % w == k % w
  | .fs k, d => d % w == k % w && decide (d % m < w)
  | .md k, d => d % m == k % m
  | .bh r b, d => r.day w m (d - b)
  | .bo x y, d => x.day w m d && y.day w m d
  | .ei x y, d => x.day w m d || y.day w m d
  | .wo x y, d => x.day w m d && !y.day w m d
def Rl.parts : Rl → Nat
  | .wk _ | .fs _ | .md _ => 1
  | .bh r _ => 1 + r.parts
  | .bo x y | .ei x y | .wo x y => 1 + x.parts + y.parts
def Rl.bys : Rl → Nat
  | .wk _ | .fs _ | .md _ => 0
  | .bh r b => b.natAbs + r.bys
  | .bo x y | .ei x y | .wo x y => x.bys + y.bys
/-- the numbers in it are such as may stand -/
def Rl.fit : Rl → Bool
  | .wk k | .fs k => decide (-2 ≤ k ∧ k ≤ 1)
  | .md k => decide (-3 ≤ k ∧ k ≤ 2)
  | .bh r b => decide (b = -2 ∨ b = -1 ∨ b = 1 ∨ b = 2) && r.fit
  | .bo x y | .ei x y | .wo x y => x.fit && y.fit
/-- a calendar's rows -/
abbrev Rows := List (Rl × Bool)
def addRow (w m : Int) (f : Int → Bool) (r : Rl × Bool) : Int → Bool := fun d =>
  f d || (r.1.day w m d && !(r.2 && f d)) || (r.2 && (r.1.day w m (d - 1) && f (d - 1)))
def calDay (w m : Int) (rows : Rows) : Int → Bool := rows.foldl (addRow w m) fun _ => false

/-! ### all goes round -/
def Per (N : Int) (p : Int → Bool) : Prop := ∀ d, p (d + N) = p d
theorem Per.sub {N : Int} {p : Int → Bool} (h : Per N p) (d : Int) : p (d - N) = p d := by
  have := h (d - N)
  rw [Int.sub_add_cancel] at this
  exact this.symm
theorem Per.mulN {N : Int} {p : Int → Bool} (h : Per N p) (d : Int) : ∀ k : Nat, p (d + N * (k : Int)) = p d
  | 0 => by simp
  | k + 1 => by
    have e : d + N * ((k + 1 : Nat) : Int) = (d + N * (k : Int)) + N := by
      rw [Int.natCast_add, Int.mul_add]; simp; omega
    rw [e, h, Per.mulN h d k]
theorem Per.mul {N : Int} {p : Int → Bool} (h : Per N p) (d k : Int) : p (d + N * k) = p d := by
  rcases Int.le_total 0 k with hk | hk
  · obtain ⟨n, rfl⟩ := Int.eq_ofNat_of_zero_le hk
    exact h.mulN d n
  · obtain ⟨n, hn⟩ := Int.eq_ofNat_of_zero_le (show 0 ≤ -k by omega)
    have e : k = -(n : Int) := by omega
    have := h.mulN (d + N * k) n
    have e2 : d + N * k + N * (n : Int) = d := by
      rw [e, Int.mul_neg]; omega
    rw [e2] at this
    exact this.symm
theorem Per.emod {N : Int} {p : Int → Bool} (h : Per N p) (d : Int) : p (d % N) = p d := by
  have e : d % N = d + N * (-(d / N)) := by
    have := Int.emod_add_mul_ediv d N
    rw [Int.mul_neg]; omega
  rw [e, h.mul]
theorem rl_per (w m : Int) : ∀ r : Rl, Per (w * m) (r.day w m)
  | .wk k => fun d => by
    show (((d + w * m) % w == k % w) = (d % w == k % w))
    rw [Int.add_mul_emod_self_left]
  | .fs k => fun d => by
    show (((d + w * m) % w == k % w && decide ((d + w * m) % m < w)) = (d % w == k % w && decide (d % m < w)))
    rw [Int.add_mul_emod_self_left, Int.mul_comm w m, Int.add_mul_emod_self_left]
  | .md k => fun d => by
    show (((d + w * m) % m == k % m) = (d % m == k % m))
    rw [Int.mul_comm w m, Int.add_mul_emod_self_left]
  | .bh r b => fun d => by
    show r.day w m (d + w * m - b) = r.day w m (d - b)
    rw [show d + w * m - b = d - b + w * m by omega]
    exact rl_per w m r _
  | .bo x y => fun d => by
    show (x.day w m (d + w * m) && y.day w m (d + w * m)) = _
    rw [rl_per w m x d, rl_per w m y d]; rfl
  | .ei x y => fun d => by
    show (x.day w m (d + w * m) || y.day w m (d + w * m)) = _
    rw [rl_per w m x d, rl_per w m y d]; rfl
  | .wo x y => fun d => by
    show (x.day w m (d + w * m) && !y.day w m (d + w * m)) = _
    rw [rl_per w m x d, rl_per w m y d]; rfl
theorem add_per {w m : Int} {f : Int → Bool} (h : Per (w * m) f) (r : Rl × Bool) : Per (w * m) (addRow w m f r) := fun d => by
  unfold addRow
  rw [h d, rl_per w m r.1 d, show d + w * m - 1 = d - 1 + w * m by omega, h (d - 1), rl_per w m r.1 (d - 1)]
theorem fold_per {w m : Int} : ∀ (rows : Rows) {f : Int → Bool}, Per (w * m) f → Per (w * m) (rows.foldl (addRow w m) f)
  | [], _, h => h
  | r :: rows, _, h => fold_per rows (add_per h r)
theorem cal_per (w m : Int) (rows : Rows) : Per (w * m) (calDay w m rows) := fold_per rows fun _ => rfl

/-! ### figures -/
/-- the figure of N days: bit d tells p d -/
def figN : Nat → (Int → Bool) → Nat
  | 0, _ => 0
  | n + 1, p => figN n p + (if p (n : Int) then 2 ^ n else 0)
theorem figN_lt : ∀ (n : Nat) (p : Int → Bool), figN n p < 2 ^ n
  | 0, _ => by simp [figN]
  | n + 1, p => by
    have := figN_lt n p
    unfold figN
    rw [Nat.pow_succ]
    split <;> omega
theorem figN_bit : ∀ (n : Nat) (p : Int → Bool) (d : Nat), (figN n p).testBit d = (decide (d < n) && p (d : Int))
  | 0, p, d => by simp [figN]
  | n + 1, p, d => by
    unfold figN
    have hl := figN_lt n p
    have ih := figN_bit n p d
    by_cases hp : p (n : Int) = true
    · rw [if_pos hp, Nat.add_comm]
      rcases Nat.lt_trichotomy d n with h | h | h
      · rw [Nat.testBit_two_pow_add_gt h, ih, decide_eq_true h, decide_eq_true (Nat.lt_succ_of_lt h)]
      · subst h
        rw [Nat.testBit_two_pow_add_eq, Nat.testBit_lt_two_pow hl, hp, decide_eq_true (Nat.lt_succ_self d)]; rfl
      · have hz : 2 ^ n + figN n p < 2 ^ d := by
          have h1 : 2 ^ (n + 1) ≤ 2 ^ d := Nat.pow_le_pow_right (by decide) h
          rw [Nat.pow_succ] at h1
          omega
        rw [Nat.testBit_lt_two_pow hz, decide_eq_false (by omega)]; rfl
    · rw [if_neg hp, Nat.add_zero, ih]
      rcases Nat.lt_trichotomy d n with h | h | h
      · rw [decide_eq_true h, decide_eq_true (Nat.lt_succ_of_lt h)]
      · subst h
        rw [decide_eq_false (Nat.lt_irrefl d)]
        simp at hp
        rw [hp]; simp
      · rw [decide_eq_false (by omega), decide_eq_false (by omega)]
theorem figN_eq {N n : Nat} {p : Int → Bool} (hl : n < 2 ^ N) (h : ∀ d, d < N → n.testBit d = p (d : Int)) : n = figN N p := by
  apply Nat.eq_of_testBit_eq
  intro d
  rw [figN_bit]
  by_cases hd : d < N
  · rw [h d hd, decide_eq_true hd]; rfl
  · rw [decide_eq_false hd, Nat.testBit_lt_two_pow (Nat.lt_of_lt_of_le hl (Nat.pow_le_pow_right (by decide) (by omega)))]; rfl
theorem figN_congr {N : Nat} {p q : Int → Bool} (h : ∀ d : Nat, d < N → p (d : Int) = q (d : Int)) : figN N p = figN N q :=
  figN_eq (figN_lt _ _) fun d hd => by rw [figN_bit, decide_eq_true hd, h d hd]; rfl
theorem figN_and (N : Nat) (p q : Int → Bool) : figN N p &&& figN N q = figN N fun d => p d && q d :=
  figN_eq (Nat.lt_of_le_of_lt Nat.and_le_left (figN_lt _ _)) fun d hd => by rw [Nat.testBit_and, figN_bit, figN_bit, decide_eq_true hd]; rfl
theorem figN_wo : ∀ (N : Nat) (p q : Int → Bool), figN N p = figN N (fun d => p d && !q d) + figN N (fun d => p d && q d)
  | 0, _, _ => rfl
  | n + 1, p, q => by
    unfold figN
    have ih := figN_wo n p q
    cases hp : p (n : Int) <;> cases hq : q (n : Int) <;> simp [hp, hq] <;> omega
theorem figN_orE : ∀ (N : Nat) (p q : Int → Bool), figN N (fun d => p d || q d) + figN N (fun d => p d && q d) = figN N p + figN N q
  | 0, _, _ => rfl
  | n + 1, p, q => by
    unfold figN
    have ih := figN_orE n p q
    cases hp : p (n : Int) <;> cases hq : q (n : Int) <;> simp [hp, hq] <;> omega
theorem figN_xorE : ∀ (N : Nat) (p q : Int → Bool), figN N (fun d => p d ^^ q d) + 2 * figN N (fun d => p d && q d) = figN N p + figN N q
  | 0, _, _ => rfl
  | n + 1, p, q => by
    unfold figN
    have ih := figN_xorE n p q
    cases hp : p (n : Int) <;> cases hq : q (n : Int) <;> simp [hp, hq] <;> omega

/-! ### one that is turned -/
def maskN (N : Nat) : Nat := 2 ^ N - 1
theorem turn_fig {N b : Nat} {p : Int → Bool} (hp : Per (N : Int) p) (hb : b < N) :
    (figN N p * 2 ^ b) % 2 ^ N ||| (figN N p * 2 ^ b) / 2 ^ N = figN N fun d => p (d - (b : Int)) := by
  have h1 : (figN N p * 2 ^ b) / 2 ^ N < 2 ^ N := by
    apply Nat.div_lt_of_lt_mul
    have := figN_lt N p
    have h2 : 2 ^ b < 2 ^ N := Nat.pow_lt_pow_right (by decide) hb
    exact Nat.mul_lt_mul'' this h2
  refine figN_eq (Nat.or_lt_two_pow (Nat.mod_lt _ (Nat.two_pow_pos _)) h1) fun d hd => ?_
  rw [Nat.testBit_or, Nat.testBit_mod_two_pow, ← Nat.shiftLeft_eq, ← Nat.shiftRight_eq_div_pow, Nat.testBit_shiftRight, Nat.testBit_shiftLeft, Nat.testBit_shiftLeft, figN_bit, figN_bit, decide_eq_true hd]
  have e1 : decide (N + d ≥ b) = true := decide_eq_true (by omega)
  rw [e1]
  by_cases hbd : b ≤ d
  · have e2 : decide (d ≥ b) = true := decide_eq_true hbd
    have e3 : decide (d - b < N) = true := decide_eq_true (by omega)
    have e4 : decide (N + d - b < N) = false := decide_eq_false (by omega)
    rw [e2, e3, e4, show ((d - b : Nat) : Int) = (d : Int) - (b : Int) by omega]
    simp
  · have e2 : decide (d ≥ b) = false := decide_eq_false (by omega)
    have e4 : decide (N + d - b < N) = true := decide_eq_true (by omega)
    rw [e2, e4, show ((N + d - b : Nat) : Int) = ((d : Int) - (b : Int)) + (N : Int) by omega, hp]
    simp
/-! ### a sum of powers whose exponents rise -/
theorem fig_step {n e : Nat} {p : Int → Bool} (hb : ∀ d : Nat, d < e → n ≤ d → p (d : Int) = false) (he : p (e : Int) = true) (hn : n ≤ e) : figN n p + 2 ^ e = figN (e + 1) p := by
  have h : ∀ k, n + k ≤ e → figN (n + k) p = figN n p := by
    intro k
    induction k with
    | zero => intro _; rfl
    | succ k ih =>
      intro hk
      show figN (n + k) p + (if p ((n + k : Nat) : Int) then 2 ^ (n + k) else 0) = figN n p
      rw [hb (n + k) (by omega) (by omega), ih (by omega)]
      simp
  have := h (e - n) (by omega)
  rw [show n + (e - n) = e by omega] at this
  show _ = figN e p + (if p (e : Int) then 2 ^ e else 0)
  rw [he, this]; simp
theorem fig_more {n m : Nat} {p : Int → Bool} (h : ∀ d : Nat, n ≤ d → d < m → p (d : Int) = false) (hn : n ≤ m) : figN m p = figN n p := by
  have g : ∀ k, n + k ≤ m → figN (n + k) p = figN n p := by
    intro k
    induction k with
    | zero => intro _; rfl
    | succ k ih =>
      intro hk
      show figN (n + k) p + (if p ((n + k : Nat) : Int) then 2 ^ (n + k) else 0) = figN n p
      rw [h (n + k) (by omega) (by omega), ih (by omega)]
      simp
  have := g (m - n) (by omega)
  rwa [show n + (m - n) = m by omega] at this
/-- a block with just one day -/
theorem fig_block {n e n' : Nat} {p : Int → Bool} (h1 : n ≤ e) (h2 : e < n') (he : p (e : Int) = true) (ho : ∀ d : Nat, n ≤ d → d < n' → d ≠ e → p (d : Int) = false) : figN n p + 2 ^ e = figN n' p := by
  rw [fig_step (fun d hd hn => ho d hn (by omega) (by omega)) he h1]
  exact (fig_more (n := e + 1) (m := n') (fun d h3 h4 => ho d (by omega) h4 (by omega)) (by omega)).symm
theorem fig_blocks {L : Nat} {e : Nat → Nat} {p : Int → Bool} : ∀ T : Nat, (∀ t, t < T → L * t ≤ e t ∧ e t < L * (t + 1) ∧ ∀ d : Nat, L * t ≤ d → d < L * (t + 1) → (p (d : Int) = true ↔ d = e t)) →
    (((List.range T).map fun t => 2 ^ e t).sum = figN (L * T) p)
  | 0, _ => by simp [figN]
  | T + 1, h => by
    obtain ⟨h1, h2, h3⟩ := h T (Nat.lt_succ_self T)
    rw [List.range_succ, List.map_append, List.sum_append, fig_blocks T fun t ht => h t (Nat.lt_succ_of_lt ht)]
    simp only [List.map_cons, List.map_nil, List.sum_cons, List.sum_nil, Nat.add_zero]
    refine fig_block h1 h2 ((h3 (e T) h1 h2).mpr rfl) fun d hd hd' hne => ?_
    cases hp : p (d : Int) with
    | false => rfl
    | true => exact absurd ((h3 d hd hd').mp hp) hne
/-- days that come by a step -/
theorem every_fig {w : Nat} (k : Int) (hw : 0 < w) (T : Nat) : (((List.range T).map fun t => 2 ^ ((k % (w : Int)).toNat + w * t)).sum = figN (w * T) fun d => d % (w : Int) == k % (w : Int)) := by
  have h0 : 0 ≤ k % (w : Int) := Int.emod_nonneg _ (by omega)
  have h1 : k % (w : Int) < (w : Int) := Int.emod_lt_of_pos _ (by omega)
  refine fig_blocks T fun t _ => ⟨by omega, by rw [Nat.mul_add]; omega, fun d hd hd' => ?_⟩
  rw [beq_iff_eq]
  have hd'' : d < w * t + w := by rw [Nat.mul_add, Nat.mul_one] at hd'; exact hd'
  have e : (d : Int) % (w : Int) = (d : Int) - (w : Int) * (t : Int) := by
    have : (d : Int) = ((d : Int) - (w : Int) * (t : Int)) + (w : Int) * (t : Int) := by omega
    rw [this, Int.add_mul_emod_self_left, Int.emod_eq_of_lt]
    · omega
    · have : ((w * t : Nat) : Int) = (w : Int) * (t : Int) := Int.natCast_mul w t
      omega
    · have : ((w * t : Nat) : Int) = (w : Int) * (t : Int) := Int.natCast_mul w t
      omega
  have q : ((w * t : Nat) : Int) = (w : Int) * (t : Int) := Int.natCast_mul w t
  rw [e]
  omega
theorem first_fig {w m : Nat} (k : Int) (hw : 0 < w) (hm : w < m) (T : Nat) :
    (((List.range T).map fun (t : Nat) => 2 ^ (m * t + ((k - (m : Int) * (t : Int)) % (w : Int)).toNat)).sum = figN (m * T) fun d => d % (w : Int) == k % (w : Int) && decide (d % (m : Int) < (w : Int))) := by
  refine fig_blocks T fun t _ => ?_
  have h0 : 0 ≤ (k - (m : Int) * (t : Int)) % (w : Int) := Int.emod_nonneg _ (by omega)
  have h1 : (k - (m : Int) * (t : Int)) % (w : Int) < (w : Int) := Int.emod_lt_of_pos _ (by omega)
  have q : ((m * t : Nat) : Int) = (m : Int) * (t : Int) := Int.natCast_mul m t
  refine ⟨by omega, by rw [Nat.mul_add]; omega, fun d hd hd' => ?_⟩
  have hd'' : d < m * t + m := by rw [Nat.mul_add, Nat.mul_one] at hd'; exact hd'
  have e : (d : Int) % (m : Int) = (d : Int) - (m : Int) * (t : Int) := by
    have : (d : Int) = ((d : Int) - (m : Int) * (t : Int)) + (m : Int) * (t : Int) := by omega
    rw [this, Int.add_mul_emod_self_left, Int.emod_eq_of_lt]
    · omega
    · omega
    · omega
  rw [Bool.and_eq_true, beq_iff_eq, decide_eq_true_iff, e]
  constructor
  · rintro ⟨a, b⟩
    have : (k - (m : Int) * (t : Int)) % (w : Int) = (d : Int) - (m : Int) * (t : Int) := by
      rw [Int.sub_emod, ← a, ← Int.sub_emod, Int.emod_eq_of_lt (by omega) b]
    omega
  · intro hde
    have hx : (d : Int) - (m : Int) * (t : Int) = (k - (m : Int) * (t : Int)) % (w : Int) := by omega
    refine ⟨?_, by omega⟩
    have : (d : Int) = ((k - (m : Int) * (t : Int)) % (w : Int)) + (m : Int) * (t : Int) := by omega
    rw [this, Int.add_emod, Int.emod_emod, ← Int.add_emod, Int.sub_add_cancel]

/-! ### what is counted -/
def daysN (N : Nat) (p : Int → Bool) : List Nat := (List.range N).filter fun (d : Nat) => p (d : Int)
theorem daysN_mem {N d : Nat} {p : Int → Bool} : d ∈ daysN N p ↔ d < N ∧ p (d : Int) = true := by
  unfold daysN
  rw [List.mem_filter, List.mem_range]
theorem daysN_len (N : Nat) (p : Int → Bool) : (daysN N p).length ≤ N := by
  unfold daysN
  have h := List.length_filter_le (fun (d : Nat) => p (d : Int)) (List.range N)
  rwa [List.length_range] at h
theorem daysN_nodup (N : Nat) (p : Int → Bool) : (daysN N p).Nodup := List.Pairwise.filter _ List.nodup_range
theorem nodup_len : ∀ {l1 l2 : List Nat}, l1.Nodup → l2.Nodup → (∀ x, x ∈ l1 ↔ x ∈ l2) → l1.length = l2.length := fun {l1 l2} h1 h2 h =>
  ((List.perm_ext_iff_of_nodup h1 h2).mpr h).length_eq

theorem figN_zero {N : Nat} {q : Int → Bool} (h : ∀ d : Nat, d < N → q (d : Int) = false) : figN N q = 0 := by
  have := fig_more (n := 0) (m := N) (p := q) (fun d _ hd => h d hd) (Nat.zero_le _)
  rw [this]; rfl
theorem least : ∀ (N : Nat) (q : Nat → Bool), (∃ d, d < N ∧ q d = true) → ∃ j, j < N ∧ q j = true ∧ ∀ d, d < j → q d = false
  | 0, _, ⟨_, h, _⟩ => absurd h (Nat.not_lt_zero _)
  | n + 1, q, ⟨d, h, hd⟩ => by
    by_cases h0 : ∃ d, d < n ∧ q d = true
    · obtain ⟨j, h1, h2, h3⟩ := least n q h0
      exact ⟨j, by omega, h2, h3⟩
    · refine ⟨d, h, hd, fun e he => ?_⟩
      cases hq : q e with
      | false => rfl
      | true => exact absurd ⟨e, by omega, hq⟩ h0
theorem fig_one {N j : Nat} (hj : j < N) : 2 ^ j = figN N fun d => d == (j : Int) := by
  have := fig_block (n := 0) (e := j) (n' := N) (p := fun d => d == (j : Int)) (Nat.zero_le _) hj (by simp) (fun d _ _ hne => by
    rw [beq_eq_false_iff_ne]; omega)
  rw [← this]; simp [figN]
theorem fig_low {N : Nat} {q : Int → Bool} (h : 0 < figN N q) : ∃ j a : Nat, j < N ∧ q (j : Int) = true ∧ (∀ d : Nat, d < j → q (d : Int) = false) ∧ figN N q = 2 ^ j * (2 * a + 1) := by
  have hex : ∃ d, d < N ∧ (fun (d : Nat) => q (d : Int)) d = true := by
    apply Classical.byContradiction
    intro hn
    have := figN_zero (N := N) (q := q) fun d hd => by
      cases hq : q (d : Int) with
      | false => rfl
      | true => exact absurd ⟨d, hd, hq⟩ hn
    omega
  obtain ⟨j, h1, h2, h3⟩ := least N (fun (d : Nat) => q (d : Int)) hex
  refine ⟨j, figN N q / 2 ^ (j + 1), h1, h2, h3, ?_⟩
  have hm : figN N q % 2 ^ (j + 1) = 2 ^ j := by
    apply Nat.eq_of_testBit_eq
    intro d
    rw [Nat.testBit_mod_two_pow, figN_bit, Nat.testBit_two_pow]
    by_cases hd : d < j
    · have : q (d : Int) = false := h3 d hd
      rw [this]; simp; omega
    · by_cases hd2 : d = j
      · subst hd2
        have h2' : q (d : Int) = true := h2
        rw [h2']; simp; omega
      · rw [decide_eq_false (show ¬ d < j + 1 by omega)]; simp; omega
  have := Nat.div_add_mod (figN N q) (2 ^ (j + 1))
  rw [hm] at this
  generalize figN N q / 2 ^ (j + 1) = a at this ⊢
  rw [← this, Nat.mul_add, Nat.mul_one, Nat.pow_succ, Nat.mul_assoc]
theorem daysN_succ (n : Nat) (p : Int → Bool) : daysN (n + 1) p = daysN n p ++ (if p (n : Int) then [n] else []) := by
  unfold daysN
  rw [List.range_succ, List.filter_append]
  congr 1
  by_cases h : p (n : Int) = true
  · rw [if_pos h, List.filter_cons, if_pos h]; rfl
  · rw [if_neg h, List.filter_cons, if_neg h]; rfl
theorem daysN_more {i j : Nat} {p : Int → Bool} (h : ∀ d : Nat, i ≤ d → d < j → p (d : Int) = false) (hij : i ≤ j) : daysN j p = daysN i p := by
  have g : ∀ k, i + k ≤ j → daysN (i + k) p = daysN i p := by
    intro k
    induction k with
    | zero => intro _; rfl
    | succ k ih =>
      intro hk
      rw [show i + (k + 1) = (i + k) + 1 by omega, daysN_succ, h (i + k) (by omega) (by omega), ih (by omega)]
      simp
  have := g (j - i) (by omega)
  rwa [show i + (j - i) = j by omega] at this
end WF

set_option Elab.async false
set_option linter.all false
set_option maxRecDepth 100000
set_option maxHeartbeats 2000000
/-! WLayer: further words over the hand layer: a def by its name with its promise (Dn), readings that evaluate (ev_..) -/
namespace WF
open PySem L2 Evl
/-! ### a def of the text, by its name: where it stands, its promise -/
structure Dn (P : Program) (w : World) (K : PySem.W.Frag) (mg : Str → Option Value) (base : Heap) (CX : CXT) (x : Str) (k : Nat) (ps : List Str) (sp : Sp) : Prop where
  ex : ∃ (f : Addr) (fd : FuncData), mg x = some (.ref f) ∧ PySem.W.keepIn K (.ref f) = true ∧ FnOk P w K mg base CX k f fd ps sp ∧ Binds K fd ps []
structure FunAt (K : PySem.W.Frag) (mg : Str → Option Value) (x : Str) (st : Stmt) (ps : List Str) : Prop where
  ex : ∃ (f : Addr) (fd : FuncData), mg x = some (.ref f) ∧ Fun K x x st f fd ∧ Binds K fd ps []
section
variable {P : Program} {w : World} {K : PySem.W.Frag} {mg : Str → Option Value} {base : Heap} {CX : CXT} {x : Str} {k : Nat} {ps : List Str} {sp : Sp} {st : Stmt}
theorem FunAt.dn (F : FunAt K mg x st ps) (h : ∀ f fd, Fun K x x st f fd → mg x = some (.ref f) → Binds K fd ps [] → FnOk P w K mg base CX k f fd ps sp) : Dn P w K mg base CX x k ps sp := by
  obtain ⟨f, fd, h1, h2, h3⟩ := F.ex
  exact ⟨f, fd, h1, h2.kp, h f fd h2 h1 h3, h3⟩
theorem Dn.mono {j : Nat} (D : Dn P w K mg base CX x j ps sp) (h : j ≤ k) : Dn P w K mg base CX x k ps sp := by
  obtain ⟨f, fd, h1, h2, h3, h4⟩ := D.ex
  exact ⟨f, fd, h1, h2, h3.mono h, h4⟩
end
theorem fnok_none {P : Program} {w : World} {K : PySem.W.Frag} {mg : Str → Option Value} {base : Heap} {CX : CXT} {k : Nat} {f : Addr} {fd : FuncData} {ps : List Str} {sp : Sp} (h : ∀ vs H Q E, ¬ sp vs H Q E) : FnOk P w K mg base CX k f fd ps sp :=
  ⟨fun vs H Q E q => (h vs H Q E q).elim, fun _ _ _ _ _ _ _ _ _ _ _ _ _ q => (h _ _ _ _ q).elim⟩
section
variable {X : Cx} {CX : CXT} {x : Str} {k : Nat} {ps : List Str} {sp : Sp} {E : XK} {e : Expr} {es : List Expr} {p pos : Pos} {t : TA}
theorem pe_fn (D : Dn X.prog X.w X.K X.mg X.base CX x k ps sp) (hr : Room k X.A) (hx : Passes CX X E) (hg : Gl X x) (ha : PA X (e :: es) t) (hdb : (x == ("__debug__" : Str)) = false := by decide)
    (he : starEach (e :: es) X.env = (false, eval e X.env) :: starEach es X.env := by rfl) (hpl : (backTo pos (starEach es X.env)).any (·.1) = false := by rfl) : PE X (.Call (.Name x p) (e :: es) [] pos) (tCall sp [] E t) := by
  obtain ⟨f, fd, h1, h2, h3, h4⟩ := D.ex
  exact pe_call h3 hr hg h1 h2 h4 .nil hx ha hdb he hpl
end
/-! ### rules within a comprehension: the written part by its own name -/
section
variable {X : Cx} {K : PySem.W.Frag}
theorem ix_tupK (hK : X.K = K := by rfl) : IxR X (rIxT K) := by
  subst hK
  exact ix_tup
theorem ix_listK (hK : X.K = K := by rfl) : IxR X (rIxL K) := by
  subst hK
  exact ix_list
theorem op_in_seqK (hK : X.K = K := by rfl) : OpR X (compareOp .In) (rIn K false) := by
  subst hK
  exact op_in_seq
theorem op_notIn_seqK (hK : X.K = K := by rfl) : OpR X (compareOp .NotIn) (rIn K true) := by
  subst hK
  exact op_notIn_seq
theorem call_len_seqK (hK : X.K = K := by rfl) : CallR X (.builtin "len") (rLenS K) := by
  subst hK
  exact call_len_seq
theorem call_isiK1 (hK : X.K = K := by rfl) : CallR X (.builtin "isinstance") (rIsi K) := by
  subst hK
  exact call_isi
theorem pe_fldK {e : Expr} {f : Str} {ta : TE} {pos : Pos} (he : PE X e ta) (hb : attributeBase e f X.env (eval e X.env) = eval e X.env) (hK : X.K = K := by rfl) : PE X (.Attribute e f pos) (tFld K ta f) := by
  subst hK
  exact pe_fld he hb
theorem pg_tupK {es : List Expr} {k : Nat} {t : TGs} {n : Nat} {pos : Pos} (hc : X.calm = true) (h : PGs X es t) (hn : (assignEach es X.env).length = n := by rfl) (hst : (assignEach es X.env).findIdx? (·.1) = none := by rfl) (hK : X.K = K := by rfl) :
    PG X (.Tuple es k pos) (gTup K n t) := by
  subst hK
  exact pg_tup hc h hn hst
end
/-! ### readings -/
section
variable {K : PySem.W.Frag} {σ : L2.St} {H H' : Hp} {ta tb tc te : TE} {x y z v : V} {r r' : R2} {t u : TT}
theorem given_all (n : Nat) (v : Nat → V) : given n (fun _ => true) v = (List.range n).map v := by
  unfold given
  rw [List.filter_eq_self.mpr]
  intro _ _; rfl
theorem et_yes : EvT tYes σ H true := fun H1 _ _ q => q H1 (Ex.refl H1)
theorem ev_sum {ta : TE} {ns : List Int} (h : EvL ta σ H (ns.map V.int)) : Ev (tCB (rSum K) (tCons ta tNil)) σ H (.int ns.sum) := fun H1 e Q q =>
  h H1 e _ fun p H2 _ e2 h2 => ⟨p, ns, rfl, sq_of h2, q H2 e2⟩
theorem ev_sumR {ta : TE} {n : Nat} (v : Nat → Int) (h : EvL ta σ H ((List.range n).map fun i => V.int (v i))) : Ev (tCB (rSum K) (tCons ta tNil)) σ H (.int ((List.range n).map v).sum) := by
  refine ev_sum ?_
  rw [List.map_map]
  exact h
/-- the items of a comprehension over range(n) without a test -/
theorem el_rng {ta : TA} {j : Nat} {vs : List Nat} {n : Int} (v : Nat → V) (h : EvA ta σ H [.int n]) (hn : 0 ≤ n ∧ n ≤ 40000) (hw : ∀ x, wipe ((wipe σ vs).set j (some x)) vs = wipe σ vs)
    (he : ∀ (i : Nat) H1, Ex H H1 → (i : Int) < n → Ev te ((wipe σ vs).set j (some (.int (i : Int)))) H1 (v i)) :
    EvL (tLc (iRng1 ta) (gName j) tYes te vs) σ H ((List.range n.toNat).map v) := by
  have := el_lcR1 (fun _ => true) v h hn hw (fun _ _ _ _ => et_yes) (fun i H1 e hi _ => he i H1 e hi)
  rwa [given_all] at this
theorem et_cmp {b : Bool} (ha : Ev ta σ H x) (hb : Ev tb σ H y) (hr : RV r x y H (.bl b)) : EvT (tTest (tOp r ta tb)) σ H b := et_test (ev_op ha hb hr)
/-- a call whose promise is a value -/
theorem spV {sp : Sp} {vs : List V} (h : ∀ H1, Ex H H1 → ∀ (Q : VK) (E : XK), RetV z H1 Q → sp vs H1 Q E) : SpV sp (vs ++ []) H z := fun H1 e Q q E => by
  rw [List.append_nil]
  exact h H1 e Q E q
theorem spL {sp : Sp} {vs xs : List V} (h : ∀ H1, Ex H H1 → ∀ (Q : VK) (E : XK), RetL xs H1 Q → sp vs H1 Q E) : SpL sp (vs ++ []) H xs := fun H1 e Q q E => by
  rw [List.append_nil]
  exact h H1 e Q E q
theorem s_par {D : Ends} {i j : Nat} {ta : TA} (h : EvA ta σ H [x, y]) (k : ∀ H1, Ex H H1 → D.nx ((σ.set i (some x)).set j (some y)) H1) : tPar i j ta D σ H := h H (Ex.refl H) _ fun H1 e => ⟨x, y, rfl, k H1 e⟩
theorem q_par {D : Ends} {i j : Nat} {ta : TA} {tz : TS} (h : EvA ta σ H [x, y]) (k : ∀ H1, Ex H H1 → tz D ((σ.set i (some x)).set j (some y)) H1) : tSeq (tPar i j ta) tz D σ H := s_par (D := { D with nx := tz D }) h k
theorem s_asgT {D : Ends} {i j : Nat} {a : Addr} (h : Ev te σ H (.ref a)) (ht : SqT K H a [x, y]) (k : ∀ H1, Ex H H1 → D.nx ((σ.set i (some x)).set j (some y)) H1) : tAsg te (gTup K 2 (gCons (gName i) (gCons (gName j) gNil))) D σ H :=
  h H (Ex.refl H) _ fun H1 e => ⟨a, [x, y], rfl, ex_t e ht, rfl, _, _, rfl, _, _, rfl, rfl, k H1 e⟩
theorem q_asgT {D : Ends} {i j : Nat} {a : Addr} {tz : TS} (h : Ev te σ H (.ref a)) (ht : SqT K H a [x, y]) (k : ∀ H1, Ex H H1 → tz D ((σ.set i (some x)).set j (some y)) H1) : tSeq (tAsg te (gTup K 2 (gCons (gName i) (gCons (gName j) gNil)))) tz D σ H := s_asgT (D := { D with nx := tz D }) h ht k
theorem q_yes {D : Ends} {tu tw tz : TS} (h : EvT t σ H true) (k : ∀ H1, Ex H H1 → tu { D with nx := tz D } σ H1) : tSeq (tIfS t tu tw) tz D σ H := q_if h (fun _ => k) (fun hb => nomatch hb)
theorem q_no {D : Ends} {tu tw tz : TS} (h : EvT t σ H false) (k : ∀ H1, Ex H H1 → tw { D with nx := tz D } σ H1) : tSeq (tIfS t tu tw) tz D σ H := q_if h (fun hb => nomatch hb) (fun _ => k)
/-- an if without else, not gone into -/
theorem q_not {D : Ends} {tu tz : TS} (h : EvT t σ H false) (k : ∀ H1, Ex H H1 → tz D σ H1) : tSeq (tIfS t tu tNext) tz D σ H := q_no h k
theorem s_yes {D : Ends} {tu tw : TS} (h : EvT t σ H true) (k : ∀ H1, Ex H H1 → tu D σ H1) : tIfS t tu tw D σ H := s_if h (fun _ => k) (fun hb => nomatch hb)
theorem s_no {D : Ends} {tu tw : TS} (h : EvT t σ H false) (k : ∀ H1, Ex H H1 → tw D σ H1) : tIfS t tu tw D σ H := s_if h (fun hb => nomatch hb) (fun _ => k)
theorem et_str {a b : Str} {c : Bool} (h : Ev ta σ H (.str a)) (hc : decide (a = b) = c) : EvT (tTest (tOp rEq ta (tC (.str b)))) σ H c := et_is (et_cmp h ev_c (rv_eq rfl)) (by
  rw [← hc]
  by_cases q : a = b
  · rw [q, decide_eq_true rfl, decide_eq_true rfl]
  · rw [decide_eq_false q, decide_eq_false]
    intro z
    injection z with z
    exact q z)
theorem ev_ifT (h : EvT t σ H true) (h1 : Ev ta σ H v) : Ev (tIf t ta tb) σ H v := ev_if h (fun _ => h1) (fun hb => nomatch hb)
theorem ev_ifF (h : EvT t σ H false) (h1 : Ev tb σ H v) : Ev (tIf t ta tb) σ H v := ev_if h (fun hb => nomatch hb) (fun _ => h1)
theorem ev_ixT {p : Addr} {xs : List V} {i : Int} (h : Ev ta σ H (.ref p)) (hs : SqT K H p xs) (ha : atI xs i = some v) : Ev (tOp (rIxT K) ta (tC (.int i))) σ H v := ev_op h ev_c (rv_ixT hs ha)
theorem ru_inv {i : Int} : RU (rU fun i => .int (Builtin.bitNot i)) (.int i) H (.int (Builtin.bitNot i)) := fun H1 _ _ q => ⟨i, rfl, q H1 (Ex.refl H1)⟩
theorem ev_fld {a C dx : Addr} {fs : List (Str × V)} {f : Str} (h : Ev ta σ H (.ref a)) (ho : H a = some (.ins C dx fs)) (hc : Cls K C) (hn : NoAttr K C f) (hl : fs.lookup f = some v) : Ev (tFld K ta f) σ H v := fun H1 e Q q =>
  h H1 e _ fun H2 e2 => ⟨a, C, dx, fs, v, rfl, e2 _ _ (e _ _ ho), hc, hn, hl, q H2 e2⟩
theorem ev_bits {i : Int} (h : Ev te σ H (.int i)) : Ev (tBits te) σ H (.int (Builtin.Int.intBits i : Nat)) := fun H1 e Q q => h H1 e _ fun H2 e2 => ⟨i, rfl, q H2 e2⟩
theorem el_is {xs ys : List V} (h : EvL te σ H xs) (e : xs = ys) : EvL te σ H ys := e ▸ h
theorem et_or1 (h : EvT t σ H true) : EvT (tOr t u) σ H true := et_or (a := true) (b := true) h fun q => nomatch q
theorem et_and0 (h : EvT t σ H false) : EvT (tAnd t u) σ H false := et_and (a := false) (b := false) h fun q => nomatch q
theorem ev_and0 (h : Ev ta σ H (.bl false)) : Ev (tAndV ta tb) σ H (.bl false) := ev_andV (a := false) (b := false) h fun q => nomatch q
theorem eu_ifT {xs : List V} (h : EvT t σ H true) (h1 : EvU ta σ H xs) : EvU (tIf t ta tb) σ H xs := fun H1 e Q q => h H1 e _ fun H2 e2 => by
  show ta σ H2 Q
  exact h1 H2 (e.trans e2) Q fun p H3 hp e3 h3 => q p H3 (fresh_back e2 hp) (e2.trans e3) h3
theorem eu_ifF {xs : List V} (h : EvT t σ H false) (h1 : EvU tb σ H xs) : EvU (tIf t ta tb) σ H xs := fun H1 e Q q => h H1 e _ fun H2 e2 => by
  show tb σ H2 Q
  exact h1 H2 (e.trans e2) Q fun p H3 hp e3 h3 => q p H3 (fresh_back e2 hp) (e2.trans e3) h3
theorem el_ifT {xs : List V} (h : EvT t σ H true) (h1 : EvL ta σ H xs) : EvL (tIf t ta tb) σ H xs := fun H1 e Q q => h H1 e _ fun H2 e2 => by
  show ta σ H2 Q
  exact h1 H2 (e.trans e2) Q fun p H3 hp e3 h3 => q p H3 (fresh_back e2 hp) (e2.trans e3) h3
theorem el_ifF {xs : List V} (h : EvT t σ H false) (h1 : EvL tb σ H xs) : EvL (tIf t ta tb) σ H xs := fun H1 e Q q => h H1 e _ fun H2 e2 => by
  show tb σ H2 Q
  exact h1 H2 (e.trans e2) Q fun p H3 hp e3 h3 => q p H3 (fresh_back e2 hp) (e2.trans e3) h3
/-- x = f(..), whatever f's promise is -/
theorem s_call {sp : Sp} {E : XK} {ta : TA} {D : Ends} {i : Nat} {vs : List V} (h : EvA ta σ H vs) (k : ∀ H1, Ex H H1 → sp vs H1 (fun x H2 => D.nx (σ.set i (some x)) H2) E) : tAsg (tCall sp [] E ta) (gName i) D σ H :=
  h H (Ex.refl H) _ fun H1 e => by
    rw [List.append_nil]
    exact k H1 e
theorem q_call {sp : Sp} {E : XK} {ta : TA} {tz : TS} {D : Ends} {i : Nat} {vs : List V} (h : EvA ta σ H vs) (k : ∀ H1, Ex H H1 → sp vs H1 (fun x H2 => tz D (σ.set i (some x)) H2) E) : tSeq (tAsg (tCall sp [] E ta) (gName i)) tz D σ H := s_call (D := { D with nx := tz D }) h k
/-- return f(..) -/
theorem s_retC {sp : Sp} {E : XK} {ta : TA} {D : Ends} {vs : List V} (h : EvA ta σ H vs) (k : ∀ H1, Ex H H1 → sp vs H1 D.rt E) : tRet (tCall sp [] E ta) D σ H :=
  h H (Ex.refl H) _ fun H1 e => by
    rw [List.append_nil]
    exact k H1 e
theorem rv_isN : RV (fun x y H Q => y = .non ∧ Q (.bl (decide (x = .non))) H) x .non H (.bl (decide (x = .non))) := fun H1 _ _ q => ⟨rfl, q H1 (Ex.refl H1)⟩
theorem rv_notN : RV (fun x y H Q => y = .non ∧ Q (.bl (!decide (x = .non))) H) x .non H (.bl (!decide (x = .non))) := fun H1 _ _ q => ⟨rfl, q H1 (Ex.refl H1)⟩
theorem cast_sum (l : List Nat) : ((l.map fun (n : Nat) => (n : Int))).sum = ((l.sum : Nat) : Int) := by
  induction l with
  | nil => rfl
  | cons a l ih => rw [List.map_cons, List.sum_cons, List.sum_cons, ih, Int.natCast_add]
theorem cast_sumR (n : Nat) (v : Nat → Nat) : ((List.range n).map fun i => ((v i : Nat) : Int)).sum = (((List.range n).map v).sum : Nat) := by
  rw [← cast_sum, List.map_map]
  rfl
end
end WF

set_option Elab.async false
set_option linter.all false
set_option maxRecDepth 100000
set_option maxHeartbeats 2000000
/-! WBits: the program's bit operators upon figures -/
namespace WF
open PySem L2 Evl PyProof.Rows PySem.W Bits
theorem fig_and (N : Nat) (p q : Int → Bool) : Builtin.bitAnd (figN N p : Int) (figN N q : Int) = (figN N fun d => p d && q d : Nat) := by
  rw [bitAnd_pp (Int.natCast_nonneg _) (Int.natCast_nonneg _), Int.toNat_natCast, Int.toNat_natCast, figN_and]
theorem fig_wo (N : Nat) (p q : Int → Bool) : Builtin.bitAnd (figN N p : Int) (Builtin.bitNot (figN N q : Int)) = (figN N fun d => p d && !q d : Nat) := by
  rw [bitAnd_not, fig_and]
  have := figN_wo N p q
  omega
theorem fig_or (N : Nat) (p q : Int → Bool) : Builtin.bitOr (figN N p : Int) (figN N q : Int) = (figN N fun d => p d || q d : Nat) := by
  rw [bitOr_and, fig_and]
  have := figN_orE N p q
  omega
theorem fig_xor (N : Nat) (p q : Int → Bool) : Builtin.bitXor (figN N p : Int) (figN N q : Int) = (figN N fun d => p d ^^ q d : Nat) := by
  rw [bitXor_and, fig_and]
  have := figN_xorE N p q
  omega
theorem fig_bits (N : Nat) (p : Int → Bool) : Builtin.Int.intBits (figN N p : Int) ≤ N := intBits_le_iff.mpr (by
  show figN N p < 2 ^ N
  exact figN_lt N p)
theorem bits_pow (j : Nat) : Builtin.Int.intBits ((2 ^ j : Nat) : Int) = j + 1 := by
  apply Nat.le_antisymm
  · exact intBits_le_iff.mpr (by
      show 2 ^ j < 2 ^ (j + 1)
      exact Nat.pow_lt_pow_right (by decide) (Nat.lt_succ_self j))
  · apply Classical.byContradiction
    intro h
    have := (intBits_le_iff (m := j) (x := ((2 ^ j : Nat) : Int))).mp (by omega)
    exact Nat.lt_irrefl _ (show 2 ^ j < 2 ^ j from this)
theorem bits_one : Builtin.Int.intBits 1 = 1 := by decide +kernel
theorem fig_turn {N b : Nat} {p : Int → Bool} (hp : Per (N : Int) p) (hb : b < N) :
    Builtin.bitOr (Builtin.bitAnd ((figN N p : Int) * 2 ^ b) (1 * 2 ^ N - 1)) ((figN N p : Int) * 2 ^ b / 2 ^ N) = (figN N fun d => p (d - (b : Int)) : Nat) := by
  rw [Int.one_mul, kbt_mask]
  have e : (figN N p : Int) * 2 ^ b = ((figN N p * 2 ^ b : Nat) : Int) := by rw [Int.natCast_mul, Int.natCast_pow]; rfl
  have e2 : (2 : Int) ^ N = ((2 ^ N : Nat) : Int) := by rw [Int.natCast_pow]; rfl
  rw [e, e2, ← Int.natCast_emod, ← Int.natCast_ediv, bitOr_pp (Int.natCast_nonneg _) (Int.natCast_nonneg _), Int.toNat_natCast, Int.toNat_natCast, turn_fig hp hb]
end WF

set_option Elab.async false
set_option linter.all false
set_option maxRecDepth 100000
set_option maxHeartbeats 2000000
/-! WRule: rules, calendars' rows, lands as they lie in the heap -/
namespace WF
open PySem L2 Evl
/-- at v lies the rule r -/
inductive RlAt (K : PySem.W.Frag) (H : Hp) : V → Rl → Prop where
  | wk {p : Addr} {k : Int} : SqT K H p [.str "weekday", .int k] → RlAt K H (.ref p) (.wk k)
  | fs {p : Addr} {k : Int} : SqT K H p [.str "first", .int k] → RlAt K H (.ref p) (.fs k)
  | md {p : Addr} {k : Int} : SqT K H p [.str "monthday", .int k] → RlAt K H (.ref p) (.md k)
  | bh {p : Addr} {v : V} {r : Rl} {b : Int} : SqT K H p [.str "behind", v, .int b] → RlAt K H v r → RlAt K H (.ref p) (.bh r b)
  | bo {p : Addr} {u v : V} {x y : Rl} : SqT K H p [.str "both", u, v] → RlAt K H u x → RlAt K H v y → RlAt K H (.ref p) (.bo x y)
  | ei {p : Addr} {u v : V} {x y : Rl} : SqT K H p [.str "either", u, v] → RlAt K H u x → RlAt K H v y → RlAt K H (.ref p) (.ei x y)
  | wo {p : Addr} {u v : V} {x y : Rl} : SqT K H p [.str "without", u, v] → RlAt K H u x → RlAt K H v y → RlAt K H (.ref p) (.wo x y)
theorem RlAt.mono {K : PySem.W.Frag} {H H' : Hp} {v : V} {r : Rl} (e : Ex H H') (h : RlAt K H v r) : RlAt K H' v r := by
  induction h with
  | wk h => exact .wk (ex_t e h)
  | fs h => exact .fs (ex_t e h)
  | md h => exact .md (ex_t e h)
  | bh h _ i => exact .bh (ex_t e h) i
  | bo h _ _ i j => exact .bo (ex_t e h) i j
  | ei h _ _ i j => exact .ei (ex_t e h) i j
  | wo h _ _ i j => exact .wo (ex_t e h) i j
def Rl.dep : Rl → Nat
  | .wk _ | .fs _ | .md _ => 0
  | .bh r _ => r.dep + 1
  | .bo x y | .ei x y | .wo x y => max x.dep y.dep + 1
theorem dep_parts : ∀ r : Rl, r.dep + 1 ≤ r.parts
  | .wk _ | .fs _ | .md _ => Nat.le_refl _
  | .bh r _ => by have := dep_parts r; simp only [Rl.dep, Rl.parts]; omega
  | .bo x y | .ei x y | .wo x y => by have := dep_parts x; have := dep_parts y; simp only [Rl.dep, Rl.parts]; omega
/-- a land of which one reckons -/
structure LandOk (w m : Nat) : Prop where
  w2 : 2 ≤ w
  wm : w < m
  m6 : m ≤ 6000
  n5 : w * m ≤ 10000
theorem LandOk.pos {w m : Nat} (h : LandOk w m) : 0 < w * m := Nat.mul_pos (by have := h.w2; omega) (by have := h.wm; omega)
/-! ### objects -/
def feastF (v : V) (n : Int) : List (Str × V) := putF "bys" (.int n) (putF "told" v [])
theorem tb_ne : ¬ (("told" : Str) = "bys") := by decide +kernel
theorem bt_ne : ¬ (("bys" : Str) = "told") := by decide +kernel
theorem feastF_told (v : V) (n : Int) : (feastF v n).lookup ("told" : Str) = some v := by
  unfold feastF
  rw [lookup_putF, if_neg tb_ne, lookup_putF, if_pos rfl]
theorem feastF_bys (v : V) (n : Int) : (feastF v n).lookup ("bys" : Str) = some (.int n) := by
  unfold feastF
  rw [lookup_putF, if_pos rfl]
theorem feastF_no (v : V) (n : Int) {m : Str} (h1 : ¬ m = "told") (h2 : ¬ m = "bys") : (feastF v n).lookup m = none := by
  unfold feastF
  rw [lookup_putF, if_neg h2, lookup_putF, if_neg h1]
  all_goals rfl
/-- at p a feast of the rule r -/
def FeastAt (K : PySem.W.Frag) (CF : Addr) (H : Hp) (p : Addr) (r : Rl) : Prop := ∃ dx v, H p = some (.ins CF dx (feastF v r.bys)) ∧ RlAt K H v r
theorem FeastAt.mono {K : PySem.W.Frag} {CF p : Addr} {H H' : Hp} {r : Rl} (e : Ex H H') (h : FeastAt K CF H p r) : FeastAt K CF H' p r := by
  obtain ⟨dx, v, h1, h2⟩ := h
  exact ⟨dx, v, e _ _ h1, h2.mono e⟩
/-- a row: a pair of a feast and a truth -/
def RowAt (K : PySem.W.Frag) (CF : Addr) (H : Hp) (x : V) (r : Rl × Bool) : Prop := ∃ p q, x = .ref p ∧ SqT K H p [.ref q, .bl r.2] ∧ FeastAt K CF H q r.1
theorem RowAt.mono {K : PySem.W.Frag} {CF : Addr} {H H' : Hp} {x : V} {r : Rl × Bool} (e : Ex H H') (h : RowAt K CF H x r) : RowAt K CF H' x r := by
  obtain ⟨p, q, h0, h1, h2⟩ := h
  exact ⟨p, q, h0, ex_t e h1, h2.mono e⟩
/-- the items xs are rows -/
def RowsL (K : PySem.W.Frag) (CF : Addr) (H : Hp) : List V → Rows → Prop
  | [], [] => True
  | x :: xs, r :: rs => RowAt K CF H x r ∧ RowsL K CF H xs rs
  | _, _ => False
theorem RowsL.mono {K : PySem.W.Frag} {CF : Addr} {H H' : Hp} (e : Ex H H') : ∀ {xs : List V} {rs : Rows}, RowsL K CF H xs rs → RowsL K CF H' xs rs
  | [], [], _ => trivial
  | _ :: _, _ :: _, h => ⟨h.1.mono e, RowsL.mono e h.2⟩
  | [], _ :: _, h => h
  | _ :: _, [], h => h
theorem RowsL.len {K : PySem.W.Frag} {CF : Addr} {H : Hp} : ∀ {xs : List V} {rs : Rows}, RowsL K CF H xs rs → xs.length = rs.length
  | [], [], _ => rfl
  | _ :: _, _ :: _, h => congrArg (· + 1) (RowsL.len h.2)
  | [], _ :: _, h => h.elim
  | _ :: _, [], h => h.elim
theorem RowsL.get {K : PySem.W.Frag} {CF : Addr} {H : Hp} : ∀ {xs : List V} {rs : Rows} {i : Nat} {x : V}, RowsL K CF H xs rs → xs[i]? = some x → ∃ r, rs[i]? = some r ∧ RowAt K CF H x r
  | _ :: _, r :: _, 0, _, h, e => ⟨r, rfl, by cases e; exact h.1⟩
  | _ :: xs, _ :: rs, i + 1, x, h, e => RowsL.get (xs := xs) (rs := rs) (i := i) (x := x) h.2 e
  | [], [], i, x, _, e => by simp at e
  | [], _ :: _, _, _, h, _ => h.elim
  | _ :: _, [], _, _, h, _ => h.elim
/-- at v a tuple of rows -/
def RowsAt (K : PySem.W.Frag) (CF : Addr) (H : Hp) (v : V) (rs : Rows) : Prop := ∃ a xs, v = .ref a ∧ SqT K H a xs ∧ RowsL K CF H xs rs
theorem RowsAt.mono {K : PySem.W.Frag} {CF : Addr} {H H' : Hp} {v : V} {rs : Rows} (e : Ex H H') (h : RowsAt K CF H v rs) : RowsAt K CF H' v rs := by
  obtain ⟨a, xs, h0, h1, h2⟩ := h
  exact ⟨a, xs, h0, ex_t e h1, h2.mono e⟩
theorem take_more {α : Type} : ∀ {l : List α} {i : Nat} {x : α}, l[i]? = some x → l.take (i + 1) = l.take i ++ [x]
  | [], i, x, h => by simp at h
  | a :: l, 0, x, h => by cases h; rfl
  | a :: l, i + 1, x, h => by
    show a :: l.take (i + 1) = a :: l.take i ++ [x]
    rw [take_more (l := l) (i := i) (x := x) h]
    rfl
theorem cal_more (w m : Int) {rows : Rows} {i : Nat} {r : Rl × Bool} (h : rows[i]? = some r) : calDay w m (rows.take (i + 1)) = addRow w m (calDay w m (rows.take i)) r := by
  unfold calDay
  rw [take_more h, List.foldl_append]
  rfl
def depMax (rows : Rows) : Nat := rows.foldr (fun r n => max r.1.dep n) 0
theorem dep_le : ∀ {rows : Rows} {i : Nat} {r : Rl × Bool}, rows[i]? = some r → r.1.dep ≤ depMax rows
  | [], i, r, h => by simp at h
  | a :: rows, 0, r, h => by cases h; exact Nat.le_max_left _ _
  | a :: rows, i + 1, r, h => Nat.le_trans (dep_le (rows := rows) (i := i) (r := r) h) (Nat.le_max_right _ _)
end WF

set_option Elab.async false
set_option linter.all false
set_option maxRecDepth 100000
set_option maxHeartbeats 2000000
/-! WIsi: kinds of values, isinstance, constants of the top, an own error without arguments -/
namespace WF
open PySem L2 Evl
section
variable {K : PySem.W.Frag} {H H' : Hp} {a : Addr} {xs : List V} {x : V} {t : Value}
theorem ty_tup (h : SqT K H a xs) : TyX K H (.ref a) (.type "tuple") := by
  rcases h with (h | ⟨o, h⟩) | ⟨o, its, n, h, c, _⟩
  · exact .base (.tup h)
  · exact .fTuple h
  · exact .kTuple h c
theorem ty_lst (h : SqL K H a xs) : TyX K H (.ref a) (.type "list") := by
  rcases h with (h | ⟨o, h⟩) | ⟨o, its, n, h, c, _⟩
  · exact .base (.lst h)
  · exact .base (.frz h)
  · exact .kList h c
theorem TyOf.mono (e : Ex H H') (h : TyOf K H x t) : TyOf K H' x t := by
  cases h with
  | non => exact .non
  | bl b => exact .bl b
  | int i => exact .int i
  | str z => exact .str z
  | flt z => exact .flt z
  | lst h => exact .lst (e _ _ h)
  | frz h => exact .frz (e _ _ h)
  | tup h => exact .tup (e _ _ h)
  | dK h => exact .dK (e _ _ h)
  | dT h => exact .dT (e _ _ h)
  | ins h cl ha hn htk hm => exact .ins (e _ _ h) cl ha hn htk hm
theorem ty_mono (e : Ex H H') (h : TyX K H x t) : TyX K H' x t := by
  cases h with
  | base h => exact .base (TyOf.mono e h)
  | byt b => exact .byt b
  | set h => exact .set (e _ _ h)
  | kList h c => exact .kList h c
  | kTuple h c => exact .kTuple h c
  | kDict h c => exact .kDict h c
  | fTuple h => exact .fTuple (e _ _ h)
  | fDict h => exact .fDict (e _ _ h)
theorem ty_int (i : Int) : TyX K H (.int i) (.type "int") := .base (.int i)
theorem ty_bl (i : Bool) : TyX K H (.bl i) (.type "bool") := .base (.bl i)
theorem ty_str (i : Str) : TyX K H (.str i) (.type "str") := .base (.str i)
theorem ty_non : TyX K H .non (.type "NoneType") := .base .non
end
section
variable {K : PySem.W.Frag} {σ : L2.St} {H H' : Hp} {ta tb tc te : TE} {x y z v : V} {r r' : R2} {t u : TT}
theorem ev_isi {b : Bool} {T : String} {ty : Value} (h : Ev ta σ H x) (hy : TyX K H x ty) (hb : PySem.W.kitOne K ty (.type T) = some b) : Ev (tCB (rIsi K) (tCons ta (tCons (tC (.ty T)) tNil))) σ H (.bl b) := fun H1 e Q q =>
  h H1 e _ fun H2 e2 => ⟨x, _, _, _, b, rfl, .ty T, ty_mono (e.trans e2) hy, hb, q H2 e2⟩
theorem ev_isiC {b : Bool} {C : Addr} {ty : Value} (h : Ev ta σ H x) (hy : TyX K H x ty) (hb : PySem.W.kitOne K ty (.ref C) = some b) : Ev (tCB (rIsi K) (tCons ta (tCons (tC (.ref C)) tNil))) σ H (.bl b) := fun H1 e Q q =>
  h H1 e _ fun H2 e2 => ⟨x, _, _, _, b, rfl, .own C, ty_mono (e.trans e2) hy, hb, q H2 e2⟩
theorem ev_lenT {p : Addr} {xs : List V} (ha : Ev ta σ H (.ref p)) (h : SqT K H p xs) : Ev (tCB (rLenS K) (tCons ta tNil)) σ H (.int (xs.length : Int)) := fun H1 e Q q =>
  ha H1 e _ fun H2 e2 => ⟨p, xs, rfl, .inr (ex_t (e.trans e2) h), q H2 e2⟩
theorem ev_chain {b1 b2 : Bool} (ha : Ev ta σ H x) (hb : Ev tb σ H y) (hr : RV r x y H (.bl b1)) (hc : b1 = true → Ev tc σ H z) (hr' : b1 = true → RV r' y z H (.bl b2)) : Ev (tChain r r' ta tb tc) σ H (.bl (b1 && b2)) := fun H1 e Q q =>
  ha H1 e _ fun H2 e2 => hb H2 (e.trans e2) _ fun H3 e3 => hr H3 ((e.trans e2).trans e3) _ fun H4 e4 => ⟨b1, rfl, by
    cases b1 with
    | true =>
      show tc σ H4 fun w' H5 => r' y w' H5 Q
      exact hc rfl H4 (((e.trans e2).trans e3).trans e4) _ fun H5 e5 => hr' rfl H5 ((((e.trans e2).trans e3).trans e4).trans e5) Q fun H6 e6 => q H6 ((((e2.trans e3).trans e4).trans e5).trans e6)
    | false =>
      show Q (.bl false) H4
      exact q H4 ((e2.trans e3).trans e4)⟩
theorem ev_all {ta : TE} {bs : List Bool} (h : EvL ta σ H (bs.map V.bl)) : Ev (tCB (rAll K) (tCons ta tNil)) σ H (.bl (bs.all id)) := fun H1 e Q q =>
  h H1 e _ fun p H2 _ e2 h2 => ⟨p, bs, rfl, sq_of h2, q H2 e2⟩
/-- a comprehension over a tuple; over a tuple, a list of pairs -/
theorem el_tupN {a : Addr} {xs : List V} {tl : TE} {j : Nat} {vs : List Nat} (f : Nat → Bool) (v : Nat → V) (h : Ev tl σ H (.ref a)) (hx : SqT K H a xs) (hz : xs.length ≤ 40000) (hw : ∀ x, wipe ((wipe σ vs).set j (some x)) vs = wipe σ vs)
    (ht : ∀ (i : Nat) (x : V) H1, Ex H H1 → xs[i]? = some x → EvT t ((wipe σ vs).set j (some x)) H1 (f i))
    (he : ∀ (i : Nat) (x : V) H1, Ex H H1 → xs[i]? = some x → f i = true → Ev te ((wipe σ vs).set j (some x)) H1 (v i)) : EvL (tLc (iTup K tl) (gName j) t te vs) σ H (given xs.length f v) := by
  intro H0 e Q q
  refine h H0 e _ fun H1 e1 => ⟨a, rfl, ⟨xs, ex_t (e.trans e1) hx⟩, fun Dl hD => ?_⟩
  refine lc_tup (xs := xs) (Cw H1 f v Dl) ⟨hD, Ex.new hD, upd_same⟩ (fun i H' _ p => ex_t ((e.trans e1).trans p.2.1) hx) (fun i x H' hi p => ⟨hw x, ?_⟩) fun H' p => q Dl H' (fresh_back e1 p.1) (e1.trans p.2.1) p.2.2
  have hlt := (List.getElem?_eq_some_iff.mp hi).1
  exact cw_turn p (by omega) (ht i x H1 (e.trans e1) hi) fun hf => he i x H1 (e.trans e1) hi hf
theorem el_tup2 {a : Addr} {xs : List V} {tl : TE} {j k : Nat} {vs : List Nat} (A B : Nat → V) (f : Nat → Bool) (v : Nat → V) (h : Ev tl σ H (.ref a)) (hx : SqT K H a xs) (hz : xs.length ≤ 40000) (hw : ∀ x y, wipe (((wipe σ vs).set j (some x)).set k (some y)) vs = wipe σ vs)
    (hp : ∀ (i : Nat) (x : V), xs[i]? = some x → ∃ p, x = .ref p ∧ SqT K H p [A i, B i])
    (ht : ∀ (i : Nat) H1, Ex H H1 → i < xs.length → EvT t (((wipe σ vs).set j (some (A i))).set k (some (B i))) H1 (f i))
    (he : ∀ (i : Nat) H1, Ex H H1 → i < xs.length → f i = true → Ev te (((wipe σ vs).set j (some (A i))).set k (some (B i))) H1 (v i)) :
    EvL (tLc (iTup K tl) (gTup K 2 (gCons (gName j) (gCons (gName k) gNil))) t te vs) σ H (given xs.length f v) := by
  intro H0 e Q q
  refine h H0 e _ fun H1 e1 => ⟨a, rfl, ⟨xs, ex_t (e.trans e1) hx⟩, fun Dl hD => ?_⟩
  refine lc_tup (xs := xs) (Cw H1 f v Dl) ⟨hD, Ex.new hD, upd_same⟩ (fun i H' _ p => ex_t ((e.trans e1).trans p.2.1) hx) (fun i x H' hi p => ?_) fun H' p => q Dl H' (fresh_back e1 p.1) (e1.trans p.2.1) p.2.2
  have hlt := (List.getElem?_eq_some_iff.mp hi).1
  obtain ⟨r, rfl, hr⟩ := hp i x hi
  exact ⟨_, _, rfl, ex_t ((e.trans e1).trans p.2.1) hr, rfl, _, _, rfl, _, _, rfl, rfl, hw _ _, cw_turn p (by omega) (ht i H1 (e.trans e1) hlt) fun hf => he i H1 (e.trans e1) hlt hf⟩
theorem el_lst2 {a : Addr} {xs : List V} {tl : TE} {j k : Nat} {vs : List Nat} (A B : Nat → V) (f : Nat → Bool) (v : Nat → V) (h : Ev tl σ H (.ref a)) (hx : SqL K H a xs) (hz : xs.length ≤ 40000) (hw : ∀ x y, wipe (((wipe σ vs).set j (some x)).set k (some y)) vs = wipe σ vs)
    (hp : ∀ (i : Nat) (x : V), xs[i]? = some x → ∃ p, x = .ref p ∧ SqT K H p [A i, B i])
    (ht : ∀ (i : Nat) H1, Ex H H1 → i < xs.length → EvT t (((wipe σ vs).set j (some (A i))).set k (some (B i))) H1 (f i))
    (he : ∀ (i : Nat) H1, Ex H H1 → i < xs.length → f i = true → Ev te (((wipe σ vs).set j (some (A i))).set k (some (B i))) H1 (v i)) :
    EvL (tLc (iList K tl) (gTup K 2 (gCons (gName j) (gCons (gName k) gNil))) t te vs) σ H (given xs.length f v) := by
  intro H0 e Q q
  refine h H0 e _ fun H1 e1 => ⟨a, rfl, ⟨xs, ex_l (e.trans e1) hx⟩, fun Dl hD => ?_⟩
  refine lc_list (xs := xs) (Cw H1 f v Dl) ⟨hD, Ex.new hD, upd_same⟩ (fun i H' _ p => ex_l ((e.trans e1).trans p.2.1) hx) (fun i x H' hi p => ?_) fun H' p => q Dl H' (fresh_back e1 p.1) (e1.trans p.2.1) p.2.2
  have hlt := (List.getElem?_eq_some_iff.mp hi).1
  obtain ⟨r, rfl, hr⟩ := hp i x hi
  exact ⟨_, _, rfl, ex_t ((e.trans e1).trans p.2.1) hr, rfl, _, _, rfl, _, _, rfl, rfl, hw _ _, cw_turn p (by omega) (ht i H1 (e.trans e1) hlt) fun hf => he i H1 (e.trans e1) hlt hf⟩
theorem given_allL {α : Type} (xs : List α) (v : Nat → V) : given xs.length (fun _ => true) v = (List.range xs.length).map v := given_all _ _
end
/-! ### a constant of the top; an own error without arguments -/
section
variable {X : Cx}
theorem pe_globE {x : Str} {v : V} {pos : Pos} (hg : Gl X x) (h : ∃ u, X.mg x = some u ∧ RelV v u) (hd : (x == ("__debug__" : Str)) = false := by decide) : PE X (.Name x pos) (tC v) := by
  obtain ⟨u, h1, h2⟩ := h
  exact pe_glob hg h1 h2 hd
theorem pmk_own0 {C : Addr} {bmB : List Value} {B newId initId : String} {x : Str} {p pos : Pos} (F : ExcBaseFacts B newId initId bmB) (q : PySem.W.excIn X.K C bmB newId = true) (gC : X.mg x = some (.ref C))
    (kC : PySem.W.keepIn X.K (.ref C) = true) (r : Raises X (.ref C)) (hg : Gl X x) (hdb : (x == ("__debug__" : Str)) = false := by decide) : PMk X (.Call (.Name x p) [] [] pos) (fun _ H Q => Q (.ref C) none H) := by
  intro pins s σ H Q I h
  refine wpAny_Call_Name_kw (ld_glob I hg gC ?_ hdb)
  refine PySem.W.callWith_K0 I.kIn kC ?_
  obtain ⟨bm, N, nm, qn, bs, hdct, sn, sub, ab, col, dd, k0, k1, k2, k3, k5, mN, hC, hN, hni, T⟩ := exc_obj I.kIn q
  refine wpAny_call_exc_subT F T hC hN hni (fun h' e hm => ?_) (Nat.zero_le _)
  exact mk_of I hm r h (I.hok.gone hm.new)
end
/-- what the top says of an own error class without a method of its own -/
structure Err (K : PySem.W.Frag) (C : Addr) : Prop where
  ex : PySem.W.excIn K C [.type "ValueError", .type "Exception", .type "BaseException", .type "object"] "ValueError.__new__" = true
  kp : PySem.W.keepIn K (.ref C) = true
  be : PySem.W.subIn K (.ref C) (.type "BaseException") = some true
  ty : PySem.W.typeIn K (.ref C) = some (.type "type")
  is : PySem.W.isClsIn K C = true
  se : PySem.W.subIn K (.ref C) (.ref C) = some true
section
variable {X : Cx}
/-- raise C() -/
theorem ps_raise0 {W : WX} {C : Addr} {x : Str} {p pos pos2 : Pos} (hc : X.calm = true) (tk : Takes X W) (h : Err X.K C) (gC : X.mg x = some (.ref C)) (hg : Gl X x) (hdb : (x == ("__debug__" : Str)) = false := by decide) :
    PS X (.Raise (some (.Call (.Name x p) [] [] pos)) none pos2) (fun _ σ H => W (.ref C) none σ H) :=
  ps_raise hc tk (pmk_own0 PySem.F.excBase_ValueError h.ex gC h.kp (raises_own h.be h.ty) hg hdb)
end
/-! ### kinds that the program asks for -/
/-- a kind that is no integer's (a truth's is none) -/
def NotI (K : PySem.W.Frag) (t : Value) : Prop := ∃ b1 b2, PySem.W.kitOne K t (.type "int") = some b1 ∧ PySem.W.kitOne K t (.type "bool") = some b2 ∧ (b1 && !b2) = false
theorem notI_ty {K : PySem.W.Frag} {a : String} {b1 b2 : Bool} (h1 : kitB a "int" = some b1) (h2 : kitB a "bool" = some b2) (h : (b1 && !b2) = false) : NotI K (.type a) := ⟨b1, b2, kit_ty h1, kit_ty h2, h⟩
theorem notI_non {K : PySem.W.Frag} : NotI K (.type "NoneType") := notI_ty (b1 := false) (b2 := false) (by decide +kernel) (by decide +kernel) rfl
theorem notI_bl {K : PySem.W.Frag} : NotI K (.type "bool") := notI_ty (b1 := true) (b2 := true) (by decide +kernel) (by decide +kernel) rfl
theorem notI_str {K : PySem.W.Frag} : NotI K (.type "str") := notI_ty (b1 := false) (b2 := false) (by decide +kernel) (by decide +kernel) rfl
theorem notI_tup {K : PySem.W.Frag} : NotI K (.type "tuple") := notI_ty (b1 := false) (b2 := false) (by decide +kernel) (by decide +kernel) rfl
theorem kit_ii {K : PySem.W.Frag} : PySem.W.kitOne K (.type "int") (.type "int") = some true := kit_ty (by decide +kernel)
theorem kit_ib {K : PySem.W.Frag} : PySem.W.kitOne K (.type "int") (.type "bool") = some false := kit_ty (by decide +kernel)
theorem kit_tt {K : PySem.W.Frag} : PySem.W.kitOne K (.type "tuple") (.type "tuple") = some true := kit_ty (by decide +kernel)
/-- a value that is an integer z (some z) or none -/
inductive NumV (K : PySem.W.Frag) (H : Hp) : V → Option Int → Prop where
  | int (z : Int) : NumV K H (.int z) (some z)
  | odd {v : V} {t : Value} (h : TyX K H v t) (n : NotI K t) : NumV K H v none
theorem NumV.mono {K : PySem.W.Frag} {H H' : Hp} {v : V} {o : Option Int} (e : Ex H H') (h : NumV K H v o) : NumV K H' v o := by
  cases h with
  | int z => exact .int z
  | odd h n => exact .odd (ty_mono e h) n
def landB (w m : Int) : Bool := decide (2 ≤ w) && decide (w < m) && decide (Int.gcd m w = 1)
/-- a value, and whether it is a land -/
inductive LandV (K : PySem.W.Frag) (H : Hp) : V → Bool → Prop where
  | no {v : V} {t : Value} (h : TyX K H v t) (n : PySem.W.kitOne K t (.type "tuple") = some false) : LandV K H v false
  | len {a : Addr} {xs : List V} (h : SqT K H a xs) (n : xs.length ≠ 2) (z : xs.length ≤ 100) : LandV K H (.ref a) false
  | odd {a : Addr} {x y : V} {o p : Option Int} (h : SqT K H a [x, y]) (hx : NumV K H x o) (hy : NumV K H y p) (n : o = none ∨ p = none) : LandV K H (.ref a) false
  | two {a : Addr} {w m : Int} (h : SqT K H a [.int w, .int m]) (z1 : -4294967296 < w ∧ w < 4294967296) (z2 : -4294967296 < m ∧ m < 4294967296) : LandV K H (.ref a) (landB w m)
theorem LandV.mono {K : PySem.W.Frag} {H H' : Hp} {v : V} {b : Bool} (e : Ex H H') (h : LandV K H v b) : LandV K H' v b := by
  cases h with
  | no h n => exact .no (ty_mono e h) n
  | len h n z => exact .len (ex_t e h) n z
  | odd h hx hy n => exact .odd (ex_t e h) (hx.mono e) (hy.mono e) n
  | two h z1 z2 => exact .two (ex_t e h) z1 z2
section
variable {K : PySem.W.Frag} {σ : L2.St} {H H' : Hp} {ta tb tc te : TE} {x y z v : V} {r r' : R2} {t u : TT}
/-- isinstance(x, int) and not isinstance(x, bool) -/
theorem ev_isInt {o : Option Int} (h : ∀ H1, Ex H H1 → Ev ta σ H1 x) (hx : NumV K H x o) : Ev (tAndV (tCB (rIsi K) (tCons ta (tCons (tC (.ty "int")) tNil))) (tNotV (tCB (rIsi K) (tCons ta (tCons (tC (.ty "bool")) tNil))))) σ H (.bl o.isSome) := by
  cases hx with
  | int z => exact ev_is (ev_andV (ev_isi (h H (Ex.refl H)) (ty_int z) kit_ii) fun _ => ev_notV (ev_isi (h H (Ex.refl H)) (ty_int z) kit_ib)) rfl
  | odd hy n =>
    obtain ⟨b1, b2, h1, h2, h3⟩ := n
    exact ev_is (ev_andV (ev_isi (h H (Ex.refl H)) hy h1) fun _ => ev_notV (ev_isi (h H (Ex.refl H)) hy h2)) (by rw [h3]; rfl)
/-- .. and a third test -/
theorem ev_isInt3 {o : Option Int} {b : Bool} (h : Ev ta σ H x) (hx : NumV K H x o) (hb : ∀ z, o = some z → x = .int z → Ev tb σ H (.bl b)) (hn : o = none → b = false) :
    Ev (tAndV (tCB (rIsi K) (tCons ta (tCons (tC (.ty "int")) tNil))) (tAndV (tNotV (tCB (rIsi K) (tCons ta (tCons (tC (.ty "bool")) tNil)))) tb)) σ H (.bl b) := by
  cases hx with
  | int z => exact ev_is (ev_andV (ev_isi h (ty_int z) kit_ii) fun _ => ev_andV (ev_notV (ev_isi h (ty_int z) kit_ib)) fun _ => hb z rfl rfl) (by cases b <;> rfl)
  | odd hy n =>
    obtain ⟨b1, b2, h1, h2, h3⟩ := n
    rw [hn rfl]
    cases b1 with
    | false => exact ev_is (ev_andV (b := false) (ev_isi h hy h1) fun q => nomatch q) rfl
    | true =>
      have hb2 : b2 = true := by cases b2 <;> simp_all
      subst hb2
      exact ev_is (ev_andV (ev_isi h hy h1) fun _ => ev_andV (b := false) (ev_notV (ev_isi h hy h2)) fun q => nomatch q) rfl
theorem q_dropX {sp : Sp} {E : XK} {ta : TA} {tz : TS} {D : Ends} {vs : List V} (h : EvA ta σ H vs) (k : ∀ H1, Ex H H1 → sp vs H1 (fun _ H2 => tz D σ H2) E) : tSeq (tDrop (tCall sp [] E ta)) tz D σ H :=
  h H (Ex.refl H) _ fun H1 e => by
    rw [List.append_nil]
    exact k H1 e
end
/-! ### calendars -/
def calF (v : V) (n : Int) : List (Str × V) := putF "near" (.int n) (putF "rows" v [])
theorem rn_ne : ¬ (("rows" : Str) = "near") := by decide +kernel
theorem calF_rows (v : V) (n : Int) : (calF v n).lookup ("rows" : Str) = some v := by
  unfold calF
  rw [lookup_putF, if_neg rn_ne, lookup_putF, if_pos rfl]
theorem calF_near (v : V) (n : Int) : (calF v n).lookup ("near" : Str) = some (.int n) := by
  unfold calF
  rw [lookup_putF, if_pos rfl]
theorem calF_no (v : V) (n : Int) {m : Str} (h1 : ¬ m = "rows") (h2 : ¬ m = "near") : (calF v n).lookup m = none := by
  unfold calF
  rw [lookup_putF, if_neg h2, lookup_putF, if_neg h1]
  all_goals rfl
def rowsBys (rows : Rows) : Nat := (rows.map fun r => r.1.bys).sum
def reachOf (rows : Rows) : Nat := 3 + rowsBys rows + (rows.filter fun r => r.2).length
/-- at v a calendar -/
def CalAt (K : PySem.W.Frag) (CF CC : Addr) (H : Hp) (v : V) (rows : Rows) : Prop := ∃ c dx rv, v = .ref c ∧ H c = some (.ins CC dx (calF rv (reachOf rows))) ∧ RowsAt K CF H rv rows
theorem CalAt.mono {K : PySem.W.Frag} {CF CC : Addr} {H H' : Hp} {v : V} {rows : Rows} (e : Ex H H') (h : CalAt K CF CC H v rows) : CalAt K CF CC H' v rows := by
  obtain ⟨c, dx, rv, h0, h1, h2⟩ := h
  exact ⟨c, dx, rv, h0, e _ _ h1, h2.mono e⟩
end WF

set_option Elab.async false
set_option linter.all false
set_option maxRecDepth 100000
set_option maxHeartbeats 2000000
/-! WSize: the written tables ENDS, PAIRS, BYS; how a value's size comes -/
namespace WF
open PySem L2 Evl
structure EndsAt (w : World) (K : PySem.W.Frag) (d aW aM : Addr) : Prop where
  kd : ∃ es n, KDict K w d es n
  week : PySem.W.nsIn K d "weekday" = some (some (.ref aW))
  first : PySem.W.nsIn K d "first" = some (some (.ref aW))
  month : PySem.W.nsIn K d "monthday" = some (some (.ref aM))
  no : ∀ z ∈ (["behind", "both", "either", "without", "week"] : List Str), PySem.W.nsIn K d z = some none
  sW : ∀ H, SqT K H aW [.int (-2), .int (-1), .int 0, .int 1]
  sM : ∀ H, SqT K H aM [.int (-3), .int (-2), .int (-1), .int 0, .int 1, .int 2]
def isEnd (s : Str) : Prop := s = "weekday" ∨ s = "first" ∨ s = "monthday"
def isPair (s : Str) : Prop := s = "both" ∨ s = "either" ∨ s = "without"
def endOk (s : Str) (k : Int) : Bool := if s = "monthday" then decide (-3 ≤ k ∧ k ≤ 2) else decide (-2 ≤ k ∧ k ≤ 1)
def byOk (k : Int) : Bool := decide (k = -2 ∨ k = -1 ∨ k = 1 ∨ k = 2)
theorem EndsAt.in {w : World} {K : PySem.W.Frag} {d aW aM : Addr} (h : EndsAt w K d aW aM) {s : Str} (hs : isEnd s) : ∃ a, PySem.W.nsIn K d s = some (some (.ref a)) ∧ ∃ xs, (∀ H, SqT K H a xs) ∧ xs.all flatV = true ∧ ∀ k, inV (.int k) xs = endOk s k := by
  have w1 : ∀ k, inV (.int k) [.int (-2), .int (-1), .int 0, .int 1] = decide (-2 ≤ k ∧ k ≤ 1) := fun k => by
    rw [Bool.eq_iff_iff, decide_eq_true_iff]
    simp [inV, eqV]
    omega
  have m1 : ∀ k, inV (.int k) [.int (-3), .int (-2), .int (-1), .int 0, .int 1, .int 2] = decide (-3 ≤ k ∧ k ≤ 2) := fun k => by
    rw [Bool.eq_iff_iff, decide_eq_true_iff]
    simp [inV, eqV]
    omega
  rcases hs with rfl | rfl | rfl
  · exact ⟨aW, h.week, _, h.sW, rfl, fun k => by rw [w1, endOk, if_neg (by decide +kernel)]⟩
  · exact ⟨aW, h.first, _, h.sW, rfl, fun k => by rw [w1, endOk, if_neg (by decide +kernel)]⟩
  · exact ⟨aM, h.month, _, h.sM, rfl, fun k => by rw [m1, endOk, if_pos rfl]⟩
theorem EndsAt.kdct {w : World} {K : PySem.W.Frag} {d aW aM a : Addr} (h : EndsAt w K d aW aM) {s : Str} (e : PySem.W.nsIn K d s = some (some (.ref a))) : KDct K w d s (.ref a) := by
  obtain ⟨es, n, k⟩ := h.kd
  exact ⟨es, n, _, k.at_, k.lit, e, rfl⟩
def pairsV : List V := [.str "both", .str "either", .str "without"]
def bysV : List V := [.int (-2), .int (-1), .int 1, .int 2]
theorem inV_bys (k : Int) : inV (.int k) bysV = byOk k := by
  unfold byOk
  rw [Bool.eq_iff_iff, decide_eq_true_iff]
  simp [inV, eqV, bysV]
  omega
theorem inV_pairs (s : Str) : inV (.str s) pairsV = decide (s = "both" ∨ s = "either" ∨ s = "without") := by
  rw [Bool.eq_iff_iff, decide_eq_true_iff]
  simp [inV, eqV, pairsV]
  constructor
  · rintro (h | h | h) <;> simp [h]
  · rintro (h | h | h) <;> simp [h]
/-! ### x == () -/
def rEqE (K : PySem.W.Frag) : R2 := fun x y H Q => ∃ p q xs, x = .ref p ∧ y = .ref q ∧ SqT K H p xs ∧ SqT K H q [] ∧ Q (.bl xs.isEmpty) H
theorem op_eqE {X : Cx} (hu : X.A.units + 1 < cLine) : OpR X (compareOp .Eq) (rEqE X.K) := by
  intro pins s σ H x y v u Q I rx ry h
  obtain ⟨p, q, xs, rfl, rfl, h1, h2, hq⟩ := h
  cases rx
  cases ry
  obtain ⟨its, r, pl, hz⟩ := I.tuple h1
  obtain ⟨its2, r2, pl2, hz2⟩ := I.tuple h2
  have e2 : its2 = [] := by
    have := r2.length
    exact List.length_eq_zero_iff.mp (by simpa using this.symm)
  subst e2
  have hk : ((List.range (min its.toArray.size ([] : List Value).toArray.size)).all (fun _ => true) && its.toArray.size == ([] : List Value).toArray.size) = xs.isEmpty := by
    have := r.length
    cases xs with
    | nil =>
      have e : its = [] := List.length_eq_zero_iff.mp (by simpa using this.symm)
      subst e; rfl
    | cons a l =>
      cases its with
      | nil => simp at this
      | cons b l2 => simp
  refine SeqAt.RcAt.tuples (A := X.A) (e := fun _ => true) pl pl2 (by omega) (fun j h1 h2 => absurd h2 (by simp)) _ _ _ _ ?_
  rw [hk]
  exact ⟨.bl _, H, I, rfl, hq⟩
/-! ### the size of a value, of which no more than n parts are wanted -/
inductive SzAt (K : PySem.W.Frag) (H : Hp) : V → Nat → Option (Nat × Nat) → Prop where
  | zero {v : V} : SzAt K H v 0 none
  | kind {v : V} {t : Value} {n : Nat} (h : TyX K H v t) (k : PySem.W.kitOne K t (.type "tuple") = some false) : SzAt K H v (n + 1) none
  | empty {a : Addr} {n : Nat} (h : SqT K H a []) : SzAt K H (.ref a) (n + 1) none
  | head {a : Addr} {x : V} {xs : List V} {t : Value} {n : Nat} (h : SqT K H a (x :: xs)) (ht : TyX K H x t) (k : PySem.W.kitOne K t (.type "str") = some false) : SzAt K H (.ref a) (n + 1) none
  | leaf {a : Addr} {s : Str} {k : Int} {n : Nat} (hs : isEnd s) (h : SqT K H a [.str s, .int k]) (ok : endOk s k = true) : SzAt K H (.ref a) (n + 1) (some (1, 0))
  | leafLen {a : Addr} {s : Str} {xs : List V} {n : Nat} (hs : isEnd s) (h : SqT K H a (.str s :: xs)) (l : xs.length ≠ 1) : SzAt K H (.ref a) (n + 1) none
  | leafNum {a : Addr} {s : Str} {x : V} {o : Option Int} {n : Nat} (hs : isEnd s) (h : SqT K H a [.str s, x]) (hx : NumV K H x o) (no : ∀ z, o = some z → endOk s z = false) : SzAt K H (.ref a) (n + 1) none
  | word {a : Addr} {s : Str} {xs : List V} {n : Nat} (hs : s ∈ (["behind", "both", "either", "without", "week"] : List Str)) (h : SqT K H a (.str s :: xs)) (l : xs.length ≠ 2 ∨ s = "week") : SzAt K H (.ref a) (n + 1) none
  | byBad {a : Addr} {x b : V} {o : Option Int} {n : Nat} (h : SqT K H a [.str "behind", x, b]) (hb : NumV K H b o) (no : ∀ z, o = some z → byOk z = false) : SzAt K H (.ref a) (n + 1) none
  | behind {a : Addr} {x : V} {b : Int} {n : Nat} {o : Option (Nat × Nat)} (h : SqT K H a [.str "behind", x, .int b]) (ok : byOk b = true) (hx : SzAt K H x n o) : SzAt K H (.ref a) (n + 1) (o.map fun p => (1 + p.1, b.natAbs + p.2))
  | pairNo {a : Addr} {s : Str} {x y : V} {n : Nat} (hs : isPair s) (h : SqT K H a [.str s, x, y]) (hx : SzAt K H x n none) : SzAt K H (.ref a) (n + 1) none
  | pair {a : Addr} {s : Str} {x y : V} {n p q : Nat} {o : Option (Nat × Nat)} (hs : isPair s) (h : SqT K H a [.str s, x, y]) (hx : SzAt K H x n (some (p, q))) (hp : p ≤ n) (hy : SzAt K H y (n - p) o) : SzAt K H (.ref a) (n + 1) (o.map fun r => (1 + p + r.1, q + r.2))
theorem SzAt.mono {K : PySem.W.Frag} {H H' : Hp} {v : V} {n : Nat} {o : Option (Nat × Nat)} (e : Ex H H') (h : SzAt K H v n o) : SzAt K H' v n o := by
  induction h with
  | zero => exact .zero
  | kind h k => exact .kind (ty_mono e h) k
  | empty h => exact .empty (ex_t e h)
  | head h ht k => exact .head (ex_t e h) (ty_mono e ht) k
  | leaf hs h ok => exact .leaf hs (ex_t e h) ok
  | leafLen hs h l => exact .leafLen hs (ex_t e h) l
  | leafNum hs h hx no => exact .leafNum hs (ex_t e h) (hx.mono e) no
  | word hs h l => exact .word hs (ex_t e h) l
  | byBad h hb no => exact .byBad (ex_t e h) (hb.mono e) no
  | behind h ok _ i => exact .behind (ex_t e h) ok i
  | pairNo hs h _ i => exact .pairNo hs (ex_t e h) i
  | pair hs h _ hp _ i j => exact .pair hs (ex_t e h) i hp j
def szOf (r : Rl) (n : Nat) : Option (Nat × Nat) := if r.parts ≤ n then some (r.parts, r.bys) else none
theorem parts_pos : ∀ r : Rl, 1 ≤ r.parts
  | .wk _ | .fs _ | .md _ => Nat.le_refl _
  | .bh r _ => by simp only [Rl.parts]; omega
  | .bo x y | .ei x y | .wo x y => by simp only [Rl.parts]; omega
theorem szOf_pair {K : PySem.W.Frag} {H : Hp} {a : Addr} {s : Str} {u v : V} {x y r : Rl} (hp : r.parts = 1 + x.parts + y.parts) (hb : r.bys = x.bys + y.bys) (hs : isPair s) (h : SqT K H a [.str s, u, v])
    (hx : ∀ n, SzAt K H u n (szOf x n)) (hy : ∀ n, SzAt K H v n (szOf y n)) : ∀ n, SzAt K H (.ref a) n (szOf r n)
  | 0 => by
    have := parts_pos x
    unfold szOf
    rw [if_neg (by omega)]
    exact .zero
  | n + 1 => by
    by_cases h1 : x.parts ≤ n
    · have e := SzAt.pair (o := szOf y (n - x.parts)) hs h (by have := hx n; rw [szOf, if_pos h1] at this; exact this) h1 (hy _)
      have e2 : (szOf y (n - x.parts)).map (fun r => (1 + x.parts + r.1, x.bys + r.2)) = szOf r (n + 1) := by
        unfold szOf
        by_cases h2 : y.parts ≤ n - x.parts
        · rw [if_pos h2, if_pos (by omega), hp, hb]; rfl
        · rw [if_neg h2, if_neg (by omega)]; rfl
      rw [← e2]
      exact e
    · unfold szOf
      rw [if_neg (by omega)]
      exact .pairNo hs h (by have := hx n; rw [szOf, if_neg h1] at this; exact this)
/-- a rule of which all numbers may stand -/
theorem sz_of {K : PySem.W.Frag} {H : Hp} {v : V} {r : Rl} (h : RlAt K H v r) (hf : r.fit = true) : ∀ n, SzAt K H v n (szOf r n) := by
  have leaf : ∀ {a : Addr} {s : Str} {k : Int} {r : Rl}, r.parts = 1 → r.bys = 0 → isEnd s → SqT K H a [.str s, .int k] → endOk s k = true → ∀ n, SzAt K H (.ref a) n (szOf r n) := by
    intro a s k r h1 h2 hs hT ok n
    cases n with
    | zero => rw [szOf, if_neg (by omega)]; exact .zero
    | succ n => rw [szOf, if_pos (by omega), h1, h2]; exact .leaf hs hT ok
  induction h with
  | wk h => exact leaf rfl rfl (.inl rfl) h (by rw [endOk, if_neg (by decide +kernel)]; exact hf)
  | fs h => exact leaf rfl rfl (.inr (.inl rfl)) h (by rw [endOk, if_neg (by decide +kernel)]; exact hf)
  | md h => exact leaf rfl rfl (.inr (.inr rfl)) h (by rw [endOk, if_pos rfl]; exact hf)
  | bh h _ i =>
    rename_i p u r b _
    simp only [Rl.fit, Bool.and_eq_true] at hf
    intro n
    cases n with
    | zero => rw [szOf, if_neg (by have := parts_pos (.bh r b); omega)]; exact .zero
    | succ n =>
      have e := SzAt.behind h hf.1 (i hf.2 n)
      have e2 : (szOf r n).map (fun p => (1 + p.1, b.natAbs + p.2)) = szOf (.bh r b) (n + 1) := by
        have hp : (Rl.bh r b).parts = 1 + r.parts := rfl
        unfold szOf
        by_cases h2 : r.parts ≤ n
        · rw [if_pos h2, if_pos (show (Rl.bh r b).parts ≤ n + 1 by omega)]; rfl
        · rw [if_neg h2, if_neg (show ¬ (Rl.bh r b).parts ≤ n + 1 by omega)]; rfl
      rw [← e2]
      exact e
  | bo h _ _ i j =>
    simp only [Rl.fit, Bool.and_eq_true] at hf
    exact szOf_pair rfl rfl (.inl rfl) h (i hf.1) (j hf.2)
  | ei h _ _ i j =>
    simp only [Rl.fit, Bool.and_eq_true] at hf
    exact szOf_pair rfl rfl (.inr (.inl rfl)) h (i hf.1) (j hf.2)
  | wo h _ _ i j =>
    simp only [Rl.fit, Bool.and_eq_true] at hf
    exact szOf_pair rfl rfl (.inr (.inr rfl)) h (i hf.1) (j hf.2)
/-- what a size comes back as -/
def RetO (o : Option (Nat × Nat)) (H : Hp) (Q : VK) : Prop := (o = none → RetV .non H Q) ∧ ∀ p q, o = some (p, q) → ∀ t H2, H t = none → Ex H H2 → H2 t = some (.tup [.int (p : Int), .int (q : Int)]) → Q (.ref t) H2
theorem at0 {x : V} {xs : List V} : atI (x :: xs) 0 = some x := atI_nat (j := 0) rfl
theorem RetO.back {o : Option (Nat × Nat)} {H H' : Hp} {Q : VK} (k : RetO o H Q) (e : Ex H H') : RetO o H' Q :=
  ⟨fun h H2 e2 => k.1 h H2 (e.trans e2), fun p q h t H2 ht e2 h2 => k.2 p q h t H2 (fresh_back e ht) (e.trans e2) h2⟩
end WF

set_option Elab.async false
set_option linter.all false
set_option maxRecDepth 100000
set_option maxHeartbeats 2000000
/-! WEnum: for i, x in enumerate(t), t a tuple -/
namespace WF
open PySem L2 Evl
section
open PySem.Calls PyProof.Rows
open AutoSeq1 (wpAny_loadPart')
theorem new_enumT (t : Addr) (its : Array Value) :
    Meets (Builtin.«enumerate.__new__» ⟨[.type "enumerate", .ref t], []⟩) (fun _ R s => s.heap.IsTuple t its ∧
      R (.ok (.ret (.ref (s.heap.push { cls := .type "tuple_iterator", data := .fields #[.ref t, .int 0 0] }).objs.size)))
        { s with heap := (s.heap.push { cls := .type "tuple_iterator", data := .fields #[.ref t, .int 0 0] }).push { cls := .type "enumerate", data := .fields #[.none, .bool false, .ref s.heap.objs.size, rawInt 0, .none, .none] } }) :=
  .of_wp fun prog w A R s hh => by
    obtain ⟨hp, gg, dd, tk, os⟩ := s
    obtain ⟨hT, hq⟩ := hh
    have hsub := sub_enumerate
    have it0 : ∀ {A' : Around} {E : Value → Shared → Prop} {Q : Value → Shared → Prop}, Q (.ref hp.objs.size) ⟨hp.push { cls := .type "tuple_iterator", data := .fields #[.ref t, .int 0 0] }, gg, dd, tk, os⟩ → wpAny (model prog w) A' (pyIter (.ref t)) Q E ⟨hp, gg, dd, tk, os⟩ :=
      fun q => wpAny_pyIter_tuple hT q
    wp_walk using it0
    refine wpAny_stack_any fun st => wpAny_pure ?_
    split
    · rename_i c _ _ _ _ _
      cases (c == Value.type "enumerate")
      · wp_walk using it0
        exact ⟨_, rfl, hq⟩
      · wp_walk using it0
        exact ⟨_, rfl, hq⟩
    · wp_walk using it0
      exact ⟨_, rfl, hq⟩
section
variable {prog : Program} {w : World} {A : Around} {E : Value → Shared → Prop} {s : Shared}
theorem call_enumT {t : Addr} {its : Array Value} {Q : Value → Shared → Prop} (hT : s.heap.IsTuple t its)
    (h : ∀ h', IsEnum h' (s.heap.objs.size + 1) s.heap.objs.size 0 .none → h'.IsTupleIter s.heap.objs.size t 0 → (∀ b o, s.heap.get? b = some o → h'.get? b = some o) → Q (.ref (s.heap.objs.size + 1)) { s with heap := h' }) :
    wpAny (model prog w) A (call (.type "enumerate") [.ref t]) Q E s := by
  refine callType_new F.called_enumerate (by decide) (F.typeCall_enumerate_1 _) (F.newCall_enumerate_1 _) (fun ob => F.args_object_init_2 ob _) F.entry_enumerate_new (new_enumT t its) ⟨hT, ?_⟩
  have hz : (s.heap.push { cls := .type "tuple_iterator", data := .fields #[.ref t, .int 0 0] }).objs.size = s.heap.objs.size + 1 := Heap.size_push ..
  show _ ∧ _
  rw [hz]
  have he : IsEnum ((s.heap.push { cls := .type "tuple_iterator", data := .fields #[.ref t, .int 0 0] }).push { cls := .type "enumerate", data := .fields #[.none, .bool false, .ref s.heap.objs.size, rawInt 0, .none, .none] }) (s.heap.objs.size + 1) s.heap.objs.size 0 .none := by
    have z := Heap.get?_push_size (s.heap.push { cls := .type "tuple_iterator", data := .fields #[.ref t, .int 0 0] }) (o := { cls := .type "enumerate", data := .fields #[.none, .bool false, .ref s.heap.objs.size, rawInt 0, .none, .none] }) rfl
    rw [hz] at z
    exact z
  exact ⟨⟨_, he, rfl⟩, h _ he ⟨_, Heap.get?_push_of_some _ (Heap.get?_push_size _ rfl), rfl, rfl⟩ fun b o x => Heap.get?_push_of_some _ (Heap.get?_push_of_some _ x)⟩
end
/-- the tuple at a as it stands at each turn, each item in a new pair -/
def Itet (K : PySem.W.Frag) (a : Addr) : It :=
  ⟨fun i H => ∃ (xs : List V) (x : V), SqT K H a xs ∧ xs[i]? = some x, fun i H v H' => ∃ T x, v = .ref T ∧ H T = none ∧ H' = upd H T (.tup [.int (i : Nat), x]) ∧ ∀ xs, SqT K H a xs → xs[i]? = some x, fun i H => ∃ xs : List V, SqT K H a xs ∧ xs.length ≤ i⟩
theorem turn_enumT {P : Program} {w : World} {K : PySem.W.Frag} {elts : List Expr} {kk : Nat} {tpos : Pos} (a e it : Addr) :
    Turn P w K (.Tuple elts kk tpos) (Itet K a) [e, it] e (fun i h => (∃ old, IsEnum h e it ((i : Nat) : Int) old) ∧ h.IsTupleIter it a i ∧ e ≠ it ∧ a ≠ it ∧ e ≠ a) where
  mem := by simp
  obj := fun i h st b hb => by
    obtain ⟨⟨old, he⟩, ⟨o, ho, hc, hd⟩, _⟩ := st
    rcases (show b = e ∨ b = it by simpa using hb) with rfl | rfl
    · exact ⟨_, he, fun v q => nomatch q⟩
    · exact ⟨o, ho, fun v q => by rw [hd] at q; cases q⟩
  keep := fun i h h' st k => by
    obtain ⟨⟨old, he⟩, ⟨o, ho, hc, hd⟩, hne⟩ := st
    exact ⟨⟨old, k e (by simp) _ he⟩, ⟨o, k it (by simp) _ ho, hc, hd⟩, hne⟩
  item := by
    intro X hP hw hK hc i pins s σ H E I hf st hg
    subst hP hw hK
    obtain ⟨⟨old, he⟩, hit, hne, hai, hea⟩ := st
    obtain ⟨xs, x, hq, hx⟩ := hg
    obtain ⟨its, rv, p, hz⟩ := I.tuple hq
    obtain ⟨u, hu, ru⟩ := rv.get hx
    have hlt : i < its.toArray.size := by
      have := (List.getElem?_eq_some_iff.mp hu).1
      simpa using this
    have hel : e < s.heap.objs.size := Heap.lt_size he
    have hil : it < s.heap.objs.size := by obtain ⟨_, q, _⟩ := hit; exact Heap.lt_size q
    refine wpAny_pyNext_enum_itemC (Draws.tuple (prog := X.prog) (w := X.w) (A := X.A.in1) (I.ok.hd hc) it a hai its.toArray) he ⟨hit, p⟩ hlt hne (by simp [hne, hea]) fun y h' tk hy ho hst' hT hsz hk => ?_
    have hyu : y = u := by
      rw [List.getElem?_toArray, hu] at hy
      exact (Option.some.inj hy).symm
    subst hyu
    refine ⟨_, rfl, wpAny_letOwnedTupleGo_enum (s := { s with heap := h', toks := tk + 1 }) ho fun h'' he' sb => ?_⟩
    have hT2 : h''.get? s.heap.objs.size = some { cls := .type "tuple", data := .seq #[.int i tk, y] } := (sb.2 _ (Nat.ne_of_gt hel)).trans hT
    have new : ObjOk X.prog X.w (upd H s.heap.objs.size (.tup [.int (i : Nat), x])) h'' s.heap.objs.size (.tup [.int (i : Nat), x]) :=
      ⟨by show 2 ≤ sizeLine; decide, [.int i tk, y], .cons ⟨_, rfl⟩ (.cons ru .nil), ⟨_, hT2, rfl, _, rfl⟩⟩
    have I1 : Inv X pins σ (upd H s.heap.objs.size (.tup [.int (i : Nat), x])) { s with heap := h'', toks := tk + 1 } :=
      I.turnedNew (ch := [e, it]) (fun b ob hb q => (sb.2 b (fun z => hb (by simp [z]))).trans (hk b ob (fun z => hb (by simp [z])) (fun z => hb (by simp [z])) q)) hf (Nat.le_refl _) new
    obtain ⟨oi, hoi, hci, hdi⟩ := hst'.1
    refine ⟨.ref s.heap.objs.size, _, I1, rfl, ⟨_, x, rfl, I.hok.fresh (Nat.le_refl _), rfl, fun ys hy => by rw [I.tuple_inj hy hq]; exact hx⟩, ⟨⟨y, ?_⟩, ⟨oi, (sb.2 it (Ne.symm hne)).trans hoi, hci, hdi⟩, hne, hai, hea⟩, fun b hb => ?_⟩
    · have e1 : ((i + 1 : Nat) : Int) = (i : Int) + 1 := by omega
      rw [e1]
      exact he'
    · have hb' : b < s.heap.objs.size := by
        rcases (show b = e ∨ b = it by simpa using hb) with rfl | rfl
        · exact hel
        · exact hil
      rw [upd_ne (Nat.ne_of_lt hb')]
      exact (hf b hb).1
  done := by
    intro X hP hw hK hc i pins s σ H E I hf st hg
    subst hP hw hK
    obtain ⟨⟨old, he⟩, hit, hne, hai, hea⟩ := st
    obtain ⟨xs, hq, hx⟩ := hg
    obtain ⟨its, rv, p, hz⟩ := I.tuple hq
    obtain ⟨f0, f1, f2, f3, f4, f5⟩ := hf it (by simp)
    have hl := rv.length
    obtain ⟨oi, hoi, hci, hdi⟩ := id hit
    have D0 := Draws.tuple (prog := X.prog) (w := X.w) (A := X.A.in1) (I.ok.hd hc) it a hai its.toArray
    have D : Draws X.prog X.w X.A.in1 it [it, a] i (fun j v => True) (fun j h => j = i ∧ h.IsTupleIter it a j ∧ h.IsTuple a its.toArray) :=
      ⟨fun j h st' => D0.live j h st'.2, fun j h h' st' k => ⟨st'.1, D0.frame j h h' st'.2 k⟩, fun j s' Q E' hj st' hQ => absurd st'.1 (Nat.ne_of_lt hj),
        fun s' Q E' st' hE => wpAny_nextOf_tuple_end (I.ok.hd hc) st'.2.1 st'.2.2 (by simp; omega) hE⟩
    exact wpAny_pyNext_enum_endD D he ⟨rfl, hit, p⟩ fun h' eb => ⟨rfl, I.turned (t' := s.toks) (fun b o hb q => eb b o hb q) f0 f1 f3 f4 f5⟩
  self := fun A i s Q E st h => let ⟨⟨_, he⟩, _⟩ := st; wpAny_pyIter_enum he h
def iEnumT (K : PySem.W.Frag) (ta : TA) : TI := fun σ H R => ta σ H fun vs H1 => ∃ a xs, vs = [.ref a] ∧ SqT K H1 a xs ∧ R (Itet K a) H1
theorem pi_enumT {X : Cx} {e : Expr} {ta : TA} {p pos tpos : Pos} {elts : List Expr} {kk : Nat} (hg : Gl X "enumerate") (hm : X.mg "enumerate" = none) (ha : PA X [e] ta) (hs : starEach [e] X.env = [(false, eval e X.env)] := by rfl) :
    PI X (.Tuple elts kk tpos) (.Call (.Name "enumerate" p) [e] [] pos) (iEnumT X.K ta) := by
  refine ⟨fun pins s σ H R I hh => ?_⟩
  refine Call_ (ld_blt I hg hm boot_enumerate (callWith_type1 (thn (ha.run pos pins s σ H _ I hh) fun us s1 ⟨vs, H1, I1, r1, q1⟩ => ?_) hs rfl))
  obtain ⟨a, xs, ex, hq, q⟩ := q1
  subst ex
  cases r1 with
  | cons r rr =>
    cases rr
    cases r
    obtain ⟨its, rv, pT, hz⟩ := I1.tuple hq
    have hal : a < s1.heap.objs.size := by
      obtain ⟨oT, hoT, _⟩ := pT
      exact Heap.lt_size hoT
    refine call_enumT pT fun h' he hit hk => wpAny_pyIter_enum he ?_
    have I2 : Inv X pins σ H1 { s1 with heap := h' } := I1.kept (t' := s1.toks) hk
    refine ⟨s1.heap.objs.size + 1, [s1.heap.objs.size + 1, s1.heap.objs.size], _, _, H1, rfl, I2, turn_enumT a (s1.heap.objs.size + 1) s1.heap.objs.size, ⟨⟨.none, he⟩, hit, Nat.succ_ne_self _, Nat.ne_of_lt hal, Nat.ne_of_gt (Nat.lt_succ_of_lt hal)⟩, fun b hb => ?_, q⟩
    have hle : s1.heap.objs.size ≤ b := by
      rcases (show b = s1.heap.objs.size + 1 ∨ b = s1.heap.objs.size by simpa using hb) with z | z
      · rw [z]; exact Nat.le_add_right _ _
      · rw [z]; exact Nat.le_refl _
    exact I1.fpOk hle (I1.hok.fresh hle)
theorem walk_enumT {K : PySem.W.Frag} {a : Addr} {xs : List V} : Walk (Itet K a) xs.length (fun H => SqT K H a xs) (YPair (fun i => some (.int (i : Nat))) (fun i => xs[i]?)) := by
  refine ⟨fun i _ hi q => ⟨xs, xs[i], q, by simp [hi]⟩, fun _ q => ⟨xs, q, Nat.le_refl _⟩, fun i H v H' _ q y => ?_⟩
  obtain ⟨T, x, y1, y2, y3, y4⟩ := y
  exact ⟨T, .int (i : Nat), x, y1, y2, y3, rfl, y4 xs q⟩
/-- for i, x in enumerate(t): Pv by the turn, the slots and the heap -/
theorem q_forEnT {K : PySem.W.Frag} {σ : L2.St} {H : Hp} {a : Addr} {xs : List V} {ta : TE} {j k : Nat} {tu tz : TS} {D : Ends} (h : Ev ta σ H (.ref a)) (hx : SqT K H a xs) (Pv : Nat → L2.St → Hp → Prop) (h0 : ∀ H1, Ex H H1 → Pv 0 σ H1)
    (hl : ∀ i σ' H', i ≤ xs.length → Pv i σ' H' → SqT K H' a xs)
    (hs : ∀ i x σ' H' H2, xs[i]? = some x → Pv i σ' H' → Ex H' H2 → tu { D with nx := Pv (i + 1), ct := Pv (i + 1), bk := tz D } ((σ'.set j (some (.int ((i : Nat) : Int)))).set k (some x)) H2)
    (hd : ∀ σ' H', Pv xs.length σ' H' → tz D σ' H') : tSeq (tFor (iEnumT K (tCons ta tNil)) (gTup K 2 (gCons (gName j) (gCons (gName k) gNil))) tu) tz D σ H := by
  refine h H (Ex.refl H) _ fun H1 e1 => ⟨a, xs, rfl, ex_t e1 hx, ?_⟩
  refine for_it (D := { D with nx := tz D }) walk_enumT Pv (h0 H1 e1) hl (fun i x σ' H' H2 hi p y => ?_) hd
  obtain ⟨T, u, v, rfl, hT, rfl, hu, hv⟩ := y
  cases hu
  exact ⟨T, _, rfl, st_of upd_same, rfl, _, _, rfl, _, _, rfl, rfl, hs i v σ' H' _ hv p (Ex.new hT)⟩
end
end WF

set_option Elab.async false
set_option linter.all false
set_option maxRecDepth 100000
set_option maxHeartbeats 2000000
/-! WObj: objects made and changed -/
namespace WF
open PySem L2 Evl
structure Cls1 (K : PySem.W.Frag) (C : Addr) (fs : List Str) : Prop where
  cl : Cls K C
  no : ∀ x ∈ fs, NoAttr K C x
/-- all but p is kept -/
def ExB (p : Addr) (H H' : Hp) : Prop := ∀ b o, b ≠ p → H b = some o → H' b = some o
theorem ExB.of {p : Addr} {H H' : Hp} (e : Ex H H') : ExB p H H' := fun b o _ h => e b o h
theorem ExB.step {p : Addr} {H H1 H2 : Hp} (a : ExB p H H1) (e : Ex H1 H2) : ExB p H H2 := fun b o h q => e b o (a b o h q)
theorem ExB.upd {p : Addr} {H H' : Hp} {o : HO} (a : ExB p H H') : ExB p H (upd H' p o) := fun b u h q => by
  rw [upd_ne h]
  exact a b u h q
theorem ExB.trans {p : Addr} {H H1 H2 : Hp} (a : ExB p H H1) (b : ExB p H1 H2) : ExB p H H2 := fun c o h q => b c o h (a c o h q)
/-- what stood ahead of p stands -/
theorem ExB.old {p : Addr} {H0 H H' : Hp} (a : ExB p H H') (e : Ex H0 H) (h : H0 p = none) : Ex H0 H' := fun b o q => a b o (ne_of_none q h) (e b o q)
structure MkAt (K : PySem.W.Frag) (C : Addr) (qual : Str) (st : Stmt) (ps : List Str) : Prop where
  ex : ∃ (f : Addr) (fd : FuncData), Mk K C f ∧ Fun K "__init__" qual st f fd ∧ Binds K fd ps []
structure MtAt (K : PySem.W.Frag) (C : Addr) (m qual : Str) (st : Stmt) (ps : List Str) : Prop where
  ex : ∃ (f : Addr) (fd : FuncData), Meth K C m f ∧ Fun K m qual st f fd ∧ Binds K fd ps []
structure Mn (P : Program) (w : World) (K : PySem.W.Frag) (mg : Str → Option Value) (base : Heap) (CX : CXT) (C : Addr) (k : Nat) (ps : List Str) (sp : Sp) : Prop where
  ex : ∃ (f : Addr) (fd : FuncData), Mk K C f ∧ FnOk P w K mg base CX k f fd ps sp ∧ Binds K fd ps []
structure Mtn (P : Program) (w : World) (K : PySem.W.Frag) (mg : Str → Option Value) (base : Heap) (CX : CXT) (C : Addr) (m : Str) (k : Nat) (ps : List Str) (sp : Sp) : Prop where
  ex : ∃ (f : Addr) (fd : FuncData), Meth K C m f ∧ PySem.W.keepIn K (.ref f) = true ∧ FnOk P w K mg base CX k f fd ps sp ∧ Binds K fd ps []
section
variable {P : Program} {w : World} {K : PySem.W.Frag} {mg : Str → Option Value} {base : Heap} {CX : CXT} {C : Addr} {m qual : Str} {k : Nat} {ps : List Str} {sp : Sp} {st : Stmt}
theorem MkAt.mn (F : MkAt K C qual st ps) (h : ∀ f fd, Fun K "__init__" qual st f fd → FnOk P w K mg base CX k f fd ps sp) : Mn P w K mg base CX C k ps sp := by
  obtain ⟨f, fd, h1, h2, h3⟩ := F.ex
  exact ⟨f, fd, h1, h f fd h2, h3⟩
theorem MtAt.mtn (F : MtAt K C m qual st ps) (h : ∀ f fd, Fun K m qual st f fd → FnOk P w K mg base CX k f fd ps sp) : Mtn P w K mg base CX C m k ps sp := by
  obtain ⟨f, fd, h1, h2, h3⟩ := F.ex
  exact ⟨f, fd, h1, h2.kp, h f fd h2, h3⟩
end
section
variable {X : Cx} {CX : CXT} {x m : Str} {C : Addr} {k : Nat} {ps : List Str} {sp : Sp} {E : XK} {e o : Expr} {es : List Expr} {p pos apos : Pos} {t : TA} {ta : TE}
theorem pe_mk (M : Mn X.prog X.w X.K X.mg X.base CX C k ps sp) (hr : Room (k + 1) X.A) (gC : X.mg x = some (.ref C)) (hx : Passes CX X E) (hg : Gl X x) (ha : PA X (e :: es) t) (hdb : (x == ("__debug__" : Str)) = false := by decide)
    (he : starEach (e :: es) X.env = (false, eval e X.env) :: starEach es X.env := by rfl) (hpl : (backTo pos (starEach es X.env)).any (·.1) = false := by rfl) : PE X (.Call (.Name x p) (e :: es) [] pos) (tMake C sp [] E t) := by
  obtain ⟨f, fd, h1, h2, h3⟩ := M.ex
  exact pe_make h1 h2 hr hg gC h3 .nil hx ha hdb he hpl
end
/-- te gives a new object of which R tells -/
def EvR (te : TE) (σ : L2.St) (H : Hp) (R : Addr → Hp → Prop) : Prop := ∀ H1, Ex H H1 → ∀ Q : VK, (∀ p H2, H1 p = none → Ex H1 H2 → R p H2 → Q (.ref p) H2) → te σ H1 Q
section
variable {K : PySem.W.Frag} {σ : L2.St} {H H' : Hp} {ta tb tc te tv : TE} {x y z v : V} {r r' : R2} {t u : TT} {D : Ends} {tz : TS}
theorem s_fld {a C dx : Addr} {fs : List (Str × V)} {f : Str} (hv : Ev tv σ H y) (h : Ev ta σ H (.ref a)) (ho : H a = some (.ins C dx fs)) (hc : Cls K C) (hn : NoAttr K C f) (hz : fs.length < 1000)
    (k : ∀ H1, Ex H H1 → D.nx σ (upd H1 a (.ins C dx (putF f y fs)))) : sFld K ta tv f D σ H :=
  hv H (Ex.refl H) _ fun H1 e1 => h H1 e1 _ fun H2 e2 => ⟨a, C, dx, fs, rfl, e2 _ _ (e1 _ _ ho), hc, hn, hz, k H2 (e1.trans e2)⟩
theorem q_fld {a C dx : Addr} {fs : List (Str × V)} {f : Str} (hv : Ev tv σ H y) (h : Ev ta σ H (.ref a)) (ho : H a = some (.ins C dx fs)) (hc : Cls K C) (hn : NoAttr K C f) (hz : fs.length < 1000)
    (k : ∀ H1, Ex H H1 → tz D σ (upd H1 a (.ins C dx (putF f y fs)))) : tSeq (sFld K ta tv f) tz D σ H := s_fld (D := { D with nx := tz D }) hv h ho hc hn hz k
/-- a new instance by __init__: R tells of the made one -/
theorem er_make {C : Addr} {sp : Sp} {E : XK} {ta : TA} {vs : List V} {R : Addr → Hp → Prop} (h : EvA ta σ H vs)
    (hs : ∀ H1, Ex H H1 → ∀ x dx, H1 x = none → H1 dx = none → dx ≠ x → ∀ Q : VK, (∀ H2, Ex H1 H2 → R x H2 → Q .non H2) → sp (.ref x :: vs) (upd (upd H1 dx (.own x)) x (.ins C dx [])) Q E) : EvR (tMake C sp [] E ta) σ H R :=
  fun H1 e Q q => h H1 e _ fun H2 e2 x dx hx hdx hne => by
    rw [List.append_nil]
    exact hs H2 (e.trans e2) x dx hx hdx hne _ fun H3 e3 hR => ⟨rfl, q x H3 (fresh_back e2 hx) (e2.trans e3) hR⟩
theorem ex_made {H1 : Hp} {x dx C : Addr} (hx : H1 x = none) (hdx : H1 dx = none) : Ex H1 (upd (upd H1 dx (.own x)) x (.ins C dx [])) := fun b o h => by
  rw [upd_ne (ne_of_none h hx), upd_ne (ne_of_none h hdx)]
  exact h
theorem s_asgR {i : Nat} {R : Addr → Hp → Prop} (h : EvR te σ H R) (k : ∀ p H1, H p = none → Ex H H1 → R p H1 → D.nx (σ.set i (some (.ref p))) H1) : tAsg te (gName i) D σ H := h H (Ex.refl H) _ fun p H1 hp e h1 => k p H1 hp e h1
theorem q_asgR {i : Nat} {R : Addr → Hp → Prop} (h : EvR te σ H R) (k : ∀ p H1, H p = none → Ex H H1 → R p H1 → tz D (σ.set i (some (.ref p))) H1) : tSeq (tAsg te (gName i)) tz D σ H := s_asgR (D := { D with nx := tz D }) h k
theorem s_retR {R : Addr → Hp → Prop} (h : EvR te σ H R) (k : ∀ p H1, H p = none → Ex H H1 → R p H1 → D.rt (.ref p) H1) : tRet te D σ H := h H (Ex.refl H) _ fun p H1 hp e h1 => k p H1 hp e h1
theorem el_R {xs : List V} (h : EvL te σ H xs) : EvR te σ H fun p H2 => H2 p = some (.lst xs) := h
theorem eu_R {xs : List V} (h : EvU te σ H xs) : EvR te σ H fun p H2 => H2 p = some (.tup xs) := h
end
/-- what the top says of an own class, further: for isinstance -/
structure ClsI (K : PySem.W.Frag) (C : Addr) : Prop where
  cl : Cls K C
  ha : PySem.W.findIn K (.ref C) "__class__" = some (some (.builtin "object.__class__"))
  hn : PySem.W.specialIn K (.builtin "object.__class__") "__get__" = some (some (.builtin "getset_descriptor.__get__"))
  htk : PySem.W.takesIn K (.builtin "object.__class__") = some true
  hm : PySem.W.mroIn K C (.type "object") = some true
theorem ClsI.ty {K : PySem.W.Frag} {C a dx : Addr} {H : Hp} {fs : List (Str × V)} (h : ClsI K C) (ho : H a = some (.ins C dx fs)) : TyX K H (.ref a) (.ref C) := .base (.ins ho h.cl h.ha h.hn h.htk h.hm)
theorem kit_self {K : PySem.W.Frag} {C : Addr} : PySem.W.kitOne K (.ref C) (.ref C) = some true := by
  unfold PySem.W.kitOne
  rw [if_pos (by simp)]
/-! a store to an instance: tuples, and what is told by them, stand -/
section
variable {K : PySem.W.Frag} {H : Hp} {p C dx : Addr} {fs fs' : List (Str × V)}
theorem sqt_upd {a : Addr} {xs : List V} (hp : H p = some (.ins C dx fs)) (h : SqT K H a xs) : SqT K (upd H p (.ins C dx fs')) a xs := by
  rcases h with (h | ⟨o, h⟩) | h
  · refine .inl (.inl ?_)
    rw [upd_ne (ne_of h hp (by intro q; cases q))]
    exact h
  · refine .inl (.inr ⟨o, ?_⟩)
    rw [upd_ne (ne_of h hp (by intro q; cases q))]
    exact h
  · exact .inr h
theorem ty_upd {x : V} {t : Value} (hp : H p = some (.ins C dx fs)) (h : TyX K H x t) : TyX K (upd H p (.ins C dx fs')) x t := by
  have mv : ∀ {a : Addr} {o : HO}, H a = some o → o ≠ .ins C dx fs → upd H p (.ins C dx fs') a = some o := fun {a o} e n => by
    rw [upd_ne (ne_of e hp n)]
    exact e
  cases h with
  | base h =>
    cases h with
    | non => exact .base .non
    | bl b => exact .base (.bl b)
    | int i => exact .base (.int i)
    | str z => exact .base (.str z)
    | flt z => exact .base (.flt z)
    | lst h => exact .base (.lst (mv h (by intro q; cases q)))
    | frz h => exact .base (.frz (mv h (by intro q; cases q)))
    | tup h => exact .base (.tup (mv h (by intro q; cases q)))
    | dK h => exact .base (.dK (mv h (by intro q; cases q)))
    | dT h => exact .base (.dT (mv h (by intro q; cases q)))
    | @ins a C' dx' fs0 h cl ha hn htk hm =>
      by_cases hap : a = p
      · subst hap
        rw [hp] at h
        injection h with h
        injection h with h1 h2 h3
        subst h1 h2
        exact .base (.ins upd_same cl ha hn htk hm)
      · exact .base (.ins (by rw [upd_ne hap]; exact h) cl ha hn htk hm)
  | byt b => exact .byt b
  | set h => exact .set (mv h (by intro q; cases q))
  | kList h c => exact .kList h c
  | kTuple h c => exact .kTuple h c
  | kDict h c => exact .kDict h c
  | fTuple h => exact .fTuple (mv h (by intro q; cases q))
  | fDict h => exact .fDict (mv h (by intro q; cases q))
theorem num_upd {x : V} {o : Option Int} (hp : H p = some (.ins C dx fs)) (h : NumV K H x o) : NumV K (upd H p (.ins C dx fs')) x o := by
  cases h with
  | int z => exact .int z
  | odd h n => exact .odd (ty_upd hp h) n
theorem sz_upd {x : V} {n : Nat} {o : Option (Nat × Nat)} (hp : H p = some (.ins C dx fs)) (h : SzAt K H x n o) : SzAt K (upd H p (.ins C dx fs')) x n o := by
  induction h with
  | zero => exact .zero
  | kind h k => exact .kind (ty_upd hp h) k
  | empty h => exact .empty (sqt_upd hp h)
  | head h ht k => exact .head (sqt_upd hp h) (ty_upd hp ht) k
  | leaf hs h ok => exact .leaf hs (sqt_upd hp h) ok
  | leafLen hs h l => exact .leafLen hs (sqt_upd hp h) l
  | leafNum hs h hx no => exact .leafNum hs (sqt_upd hp h) (num_upd hp hx) no
  | word hs h l => exact .word hs (sqt_upd hp h) l
  | byBad h hb no => exact .byBad (sqt_upd hp h) (num_upd hp hb) no
  | behind h ok _ i => exact .behind (sqt_upd hp h) ok i
  | pairNo hs h _ i => exact .pairNo hs (sqt_upd hp h) i
  | pair hs h _ hl _ i j => exact .pair hs (sqt_upd hp h) i hl j
end
end WF

set_option Elab.async false
set_option linter.all false
set_option maxRecDepth 100000
set_option maxHeartbeats 400000
/-! WProp: properties of own classes -/
namespace WF
open PySem L2 Evl
structure PropAt (K : PySem.W.Frag) (C : Addr) (f qual : Str) (st : Stmt) : Prop where
  ex : ∃ (p g : Addr) (fd : FuncData), PropOf K C f p g ∧ Fun K f qual st g fd ∧ Binds K fd ["self"] []
structure Prn (P : Program) (w : World) (K : PySem.W.Frag) (mg : Str → Option Value) (base : Heap) (C : Addr) (f : Str) (k : Nat) (sp : Sp) : Prop where
  ex : ∃ (p g : Addr) (fd : FuncData), PropOf K C f p g ∧ FnOk P w K mg base CX0 k g fd ["self"] sp ∧ Binds K fd ["self"] []
theorem PropAt.prn {P : Program} {w : World} {K : PySem.W.Frag} {mg : Str → Option Value} {base : Heap} {C : Addr} {f qual : Str} {k : Nat} {sp : Sp} {st : Stmt} (F : PropAt K C f qual st) (h : ∀ g fd, Fun K f qual st g fd → FnOk P w K mg base CX0 k g fd ["self"] sp) : Prn P w K mg base C f k sp := by
  obtain ⟨p, g, fd, h1, h2, h3⟩ := F.ex
  exact ⟨p, g, fd, h1, h g fd h2, h3⟩
section
variable {X : Cx} {C : Addr} {f : Str} {k : Nat} {sp : Sp} {e : Expr} {pos : Pos} {ta : TE}
theorem pe_prp (R : Prn X.prog X.w X.K X.mg X.base C f k sp) (he : PE X e ta) (c : Cls X.K C) (hr : Room (k + 1) X.A) (hab : attributeBase e f X.env (eval e X.env) = eval e X.env) : PE X (.Attribute e f pos) (tProp C sp [] E0 ta) := by
  obtain ⟨p, g, fd, h1, h2, h3⟩ := R.ex
  exact pe_prop he c h1 h2 hr h3 .nil pass0 hab
end
theorem ev_prp {σ : L2.St} {H : Hp} {ta : TE} {C a dx : Addr} {fs : List (Str × V)} {sp : Sp} {E : XK} {z : V} (h : Ev ta σ H (.ref a)) (ho : H a = some (.ins C dx fs)) (k : ∀ H1, Ex H H1 → ∀ (Q : VK) (E : XK), RetV z H1 Q → sp [.ref a] H1 Q E) : Ev (tProp C sp [] E ta) σ H z := fun H1 e Q q =>
  h H1 e _ fun H2 e2 => ⟨a, dx, fs, rfl, e2 _ _ (e _ _ ho), k H2 (e.trans e2) Q E fun H3 e3 => q H3 (e2.trans e3)⟩
end WF

set_option Elab.async false
set_option linter.all false
set_option maxRecDepth 100000
set_option maxHeartbeats 2000000
/-! WDraw: the drawn numbers' list; what stands when lists change -/
namespace WF
open PySem L2 Evl
/-- the list that numbers are drawn from -/
def Good (xs : List V) : Prop := ∃ (s r : Int) (bs : List Int), xs = .int s :: .int r :: bs.map V.int ∧ 0 ≤ s ∧ s < 2147483647 ∧ 0 ≤ r ∧ (∀ b ∈ bs, 0 ≤ b) ∧ bs.length ≤ 100
theorem Good.len {xs : List V} (h : Good xs) : 2 ≤ xs.length ∧ xs.length ≤ 102 := by
  obtain ⟨s, r, bs, rfl, _, _, _, _, h⟩ := h
  simp
  omega
/-- all that is no list stands -/
def KeepN (H H' : Hp) : Prop := ∀ b o, (∀ xs, o ≠ .lst xs) → H b = some o → H' b = some o
theorem KeepN.refl (H : Hp) : KeepN H H := fun _ _ _ h => h
theorem KeepN.of {H H' : Hp} (e : Ex H H') : KeepN H H' := fun b o _ h => e b o h
theorem KeepN.trans {H H1 H2 : Hp} (a : KeepN H H1) (b : KeepN H1 H2) : KeepN H H2 := fun c o n h => b c o n (a c o n h)
theorem ExB.kn {d : Addr} {H H' : Hp} {xs : List V} (e : ExB d H H') (h : H d = some (.lst xs)) : KeepN H H' := fun b o n q => e b o (fun z => by
  subst z
  rw [h] at q
  exact n xs (Option.some.inj q).symm) q
section
variable {K : PySem.W.Frag} {H H' : Hp} {a l d CF CC : Addr} {xs : List V} {v x : V}
theorem sqt_kn (e : KeepN H H') (h : SqT K H a xs) : SqT K H' a xs := by
  rcases h with (h | ⟨o, h⟩) | h
  · exact .inl (.inl (e _ _ (fun _ q => nomatch q) h))
  · exact .inl (.inr ⟨o, e _ _ (fun _ q => nomatch q) h⟩)
  · exact .inr h
theorem sql_but (e : ExB d H H') (hne : l ≠ d) (h : SqL K H l xs) : SqL K H' l xs := by
  rcases h with (h | ⟨o, h⟩) | h
  · exact .inl (.inl (e _ _ hne h))
  · exact .inl (.inr ⟨o, e _ _ hne h⟩)
  · exact .inr h
theorem RlAt.kn {r : Rl} (e : KeepN H H') (h : RlAt K H v r) : RlAt K H' v r := by
  induction h with
  | wk h => exact .wk (sqt_kn e h)
  | fs h => exact .fs (sqt_kn e h)
  | md h => exact .md (sqt_kn e h)
  | bh h _ i => exact .bh (sqt_kn e h) i
  | bo h _ _ i j => exact .bo (sqt_kn e h) i j
  | ei h _ _ i j => exact .ei (sqt_kn e h) i j
  | wo h _ _ i j => exact .wo (sqt_kn e h) i j
theorem FeastAt.kn {r : Rl} (e : KeepN H H') (h : FeastAt K CF H a r) : FeastAt K CF H' a r := by
  obtain ⟨dx, v, h1, h2⟩ := h
  exact ⟨dx, v, e _ _ (fun _ q => nomatch q) h1, h2.kn e⟩
theorem RowAt.kn {r : Rl × Bool} (e : KeepN H H') (h : RowAt K CF H x r) : RowAt K CF H' x r := by
  obtain ⟨p, q, h0, h1, h2⟩ := h
  exact ⟨p, q, h0, sqt_kn e h1, h2.kn e⟩
theorem RowsL.kn (e : KeepN H H') : ∀ {xs : List V} {rs : Rows}, RowsL K CF H xs rs → RowsL K CF H' xs rs
  | [], [], _ => trivial
  | _ :: _, _ :: _, h => ⟨h.1.kn e, RowsL.kn e h.2⟩
  | [], _ :: _, h => h
  | _ :: _, [], h => h
theorem RowsAt.kn {rs : Rows} (e : KeepN H H') (h : RowsAt K CF H v rs) : RowsAt K CF H' v rs := by
  obtain ⟨a, xs, h0, h1, h2⟩ := h
  exact ⟨a, xs, h0, sqt_kn e h1, h2.kn e⟩
theorem CalAt.kn {rs : Rows} (e : KeepN H H') (h : CalAt K CF CC H v rs) : CalAt K CF CC H' v rs := by
  obtain ⟨c, dx, rv, h0, h1, h2⟩ := h
  exact ⟨c, dx, rv, h0, e _ _ (fun _ q => nomatch q) h1, h2.kn e⟩
end
/-- a raw row: a pair of a rule and a truth -/
def RawAt (K : PySem.W.Frag) (H : Hp) (x : V) (r : Rl × Bool) : Prop := ∃ p v, x = .ref p ∧ SqT K H p [v, .bl r.2] ∧ RlAt K H v r.1
def RawL (K : PySem.W.Frag) (H : Hp) : List V → Rows → Prop
  | [], [] => True
  | x :: xs, r :: rs => RawAt K H x r ∧ RawL K H xs rs
  | _, _ => False
section
variable {K : PySem.W.Frag} {H H' : Hp} {x : V}
theorem RawAt.kn {r : Rl × Bool} (e : KeepN H H') (h : RawAt K H x r) : RawAt K H' x r := by
  obtain ⟨p, v, h0, h1, h2⟩ := h
  exact ⟨p, v, h0, sqt_kn e h1, h2.kn e⟩
theorem RawL.kn (e : KeepN H H') : ∀ {xs : List V} {rs : Rows}, RawL K H xs rs → RawL K H' xs rs
  | [], [], _ => trivial
  | _ :: _, _ :: _, h => ⟨h.1.kn e, RawL.kn e h.2⟩
  | [], _ :: _, h => h
  | _ :: _, [], h => h
theorem RawL.len : ∀ {xs : List V} {rs : Rows}, RawL K H xs rs → xs.length = rs.length
  | [], [], _ => rfl
  | _ :: _, _ :: _, h => congrArg (· + 1) (RawL.len h.2)
  | [], _ :: _, h => h.elim
  | _ :: _, [], h => h.elim
theorem RawL.get : ∀ {xs : List V} {rs : Rows} {i : Nat} {x : V}, RawL K H xs rs → xs[i]? = some x → ∃ r, rs[i]? = some r ∧ RawAt K H x r
  | _ :: _, r :: _, 0, _, h, e => ⟨r, rfl, by cases e; exact h.1⟩
  | _ :: xs, _ :: rs, i + 1, x, h, e => RawL.get (xs := xs) (rs := rs) (i := i) (x := x) h.2 e
  | [], [], i, x, _, e => by simp at e
  | [], _ :: _, _, _, h, _ => h.elim
  | _ :: _, [], _, _, h, _ => h.elim
theorem RawL.snoc : ∀ {xs : List V} {rs : Rows} {x : V} {r : Rl × Bool}, RawL K H xs rs → RawAt K H x r → RawL K H (xs ++ [x]) (rs ++ [r])
  | [], [], _, _, _, h => ⟨h, trivial⟩
  | _ :: _, _ :: _, _, _, h, g => ⟨h.1, RawL.snoc h.2 g⟩
  | [], _ :: _, _, _, h, _ => h.elim
  | _ :: _, [], _, _, h, _ => h.elim
end
section
variable {K : PySem.W.Frag} {σ : L2.St} {H H' : Hp} {ta tb tc te tv : TE} {x y z v : V} {r r' : R2} {t u : TT} {D : Ends} {tz : TS}
theorem ev_int1 {i : Int} (h : Ev ta σ H (.int i)) : Ev (tCB (fun xs H Q => (∃ i, xs = [.int i] ∧ Q (.int i) H) ∨ ∃ k, xs = [.bl k] ∧ Q (.int (if k then 1 else 0)) H) (tCons ta tNil)) σ H (.int i) :=
  ev_cb (ea_cons h ea_nil) fun H1 _ Q q => .inl ⟨i, rfl, q H1 (Ex.refl H1)⟩
theorem ev_abs {i : Int} (h : Ev ta σ H (.int i)) : Ev (tCB (fun xs H Q => ∃ i, xs = [.int i] ∧ Q (.int (if i < 0 then -i else i)) H) (tCons ta tNil)) σ H (.int (if i < 0 then -i else i)) :=
  ev_cb (ea_cons h ea_nil) fun H1 _ Q q => ⟨i, rfl, q H1 (Ex.refl H1)⟩
theorem ev_ixL {p : Addr} {xs : List V} {i : Int} (h : Ev ta σ H (.ref p)) (hs : SqL K H p xs) (ha : atI xs i = some v) : Ev (tOp (rIxL K) ta (tC (.int i))) σ H v := ev_op h ev_c (rv_ixL hs ha)
theorem ev_lenL {p : Addr} {xs : List V} (ha : Ev ta σ H (.ref p)) (h : SqL K H p xs) : Ev (tCB (rLenS K) (tCons ta tNil)) σ H (.int (xs.length : Int)) := fun H1 e Q q =>
  ha H1 e _ fun H2 e2 => ⟨p, xs, rfl, .inl (ex_l (e.trans e2) h), q H2 e2⟩
/-- two new lists, one behind the other -/
theorem el_cat {xs ys : List V} (h1 : EvL ta σ H xs) (h2 : EvL tb σ H ys) (hz : xs.length + ys.length ≤ 100000) : EvL (tOp rCat ta tb) σ H (xs ++ ys) := fun H1 e Q q =>
  h1 H1 e _ fun p H2 hp e2 k1 => h2 H2 (e.trans e2) _ fun p2 H3 hp2 e3 k2 => ⟨p, p2, xs, ys, rfl, rfl, e3 _ _ k1, k2, Evl.sz_of hz, fun p3 hp3 => q p3 _ (fresh_back (e2.trans e3) hp3) ((e2.trans e3).trans (Ex.new hp3)) upd_same⟩
/-- xs[i] = e, a list of the call's own, at a written place -/
theorem s_setI {l : Addr} {xs : List V} {i : Int} {j : Nat} (hl : H l = some (.lst xs)) (h : Ev te σ H v) (ho : Ev ta σ H (.ref l)) (hj : ixN xs.length i = some j) (k : ∀ H1, Ex H H1 → D.nx σ (upd H1 l (.lst (xs.set j v)))) :
    tAsg te (gSub ta (tC (.int i)) rSetL) D σ H := h H (Ex.refl H) _ fun H1 e1 => ho H1 e1 _ fun H2 e2 => ⟨l, xs, i, j, rfl, rfl, (e1.trans e2) _ _ hl, hj, k H2 (e1.trans e2)⟩
theorem q_setI {l : Addr} {xs : List V} {i : Int} {j : Nat} (hl : H l = some (.lst xs)) (h : Ev te σ H v) (ho : Ev ta σ H (.ref l)) (hj : ixN xs.length i = some j) (k : ∀ H1, Ex H H1 → tz D σ (upd H1 l (.lst (xs.set j v)))) :
    tSeq (tAsg te (gSub ta (tC (.int i)) rSetL)) tz D σ H := s_setI (D := { D with nx := tz D }) hl h ho hj k
/-! what is handed on by the readings themselves -/
theorem call_ev {sp : Sp} {E : XK} {ta : TA} {vs : List V} {Q : VK} (h : EvA ta σ H vs) (k : ∀ H1, Ex H H1 → sp vs H1 Q E) : tCall sp [] E ta σ H Q := h H (Ex.refl H) _ fun H1 e => by
  rw [List.append_nil]
  exact k H1 e
theorem q_asgX {i : Nat} (h : te σ H fun x H1 => tz D (σ.set i (some x)) H1) : tSeq (tAsg te (gName i)) tz D σ H := h
theorem s_asgX {i : Nat} (h : te σ H fun x H1 => D.nx (σ.set i (some x)) H1) : tAsg te (gName i) D σ H := h
theorem s_retX (h : te σ H D.rt) : tRet te D σ H := h
theorem q_ifX {tu tw : TS} (h : t σ H fun b H1 => if b = true then tu { D with nx := tz D } σ H1 else tw { D with nx := tz D } σ H1) : tSeq (tIfS t tu tw) tz D σ H := h
/-- a call's answer compared -/
theorem t_cmpX {b : V} {Q : Bool → Hp → Prop} (h : ta σ H fun x H1 => scal x b = true ∧ Q (decide (x = b)) H1) (hmono : ∀ Q1 Q2 : VK, (∀ v H1, Q1 v H1 → Q2 v H1) → ta σ H Q1 → ta σ H Q2) : tTest (tOp rEq ta (tC b)) σ H Q :=
  hmono _ _ (fun v H1 h => ⟨h.1, _, rfl, h.2⟩) h
end
/-- all but d and l is kept -/
def ExB2 (d l : Addr) (H H' : Hp) : Prop := ∀ b o, b ≠ d → b ≠ l → H b = some o → H' b = some o
theorem ExB.two {d l : Addr} {H H' : Hp} (e : ExB d H H') : ExB2 d l H H' := fun b o h _ q => e b o h q
theorem ExB.two' {d l : Addr} {H H' : Hp} (e : ExB l H H') : ExB2 d l H H' := fun b o _ h q => e b o h q
theorem ExB2.of {d l : Addr} {H H' : Hp} (e : Ex H H') : ExB2 d l H H' := fun b o _ _ q => e b o q
theorem ExB2.trans {d l : Addr} {H H1 H2 : Hp} (a : ExB2 d l H H1) (b : ExB2 d l H1 H2) : ExB2 d l H H2 := fun c o h g q => b c o h g (a c o h g q)
theorem ExB2.step {d l : Addr} {H H1 H2 : Hp} (a : ExB2 d l H H1) (e : Ex H1 H2) : ExB2 d l H H2 := a.trans (.of e)
theorem ExB2.updL {d l : Addr} {H H' : Hp} {o : HO} (a : ExB2 d l H H') : ExB2 d l H (upd H' l o) := fun b u h g q => by
  rw [upd_ne g]
  exact a b u h g q
theorem ExB2.kn {d l : Addr} {H H' : Hp} {xs ys : List V} (e : ExB2 d l H H') (h : H d = some (.lst xs)) (g : H l = some (.lst ys)) : KeepN H H' := fun b o n q => e b o (fun z => by
  subst z
  rw [h] at q
  exact n xs (Option.some.inj q).symm) (fun z => by
  subst z
  rw [g] at q
  exact n ys (Option.some.inj q).symm) q
/-- l new: all but d of what stood is kept -/
theorem ExB2.one {d l : Addr} {H0 H H' : Hp} (e : ExB2 d l H H') (e0 : Ex H0 H) (h : H0 l = none) : ExB d H0 H' := fun b o hb q => e b o hb (ne_of_none q h) (e0 b o q)
theorem ExB.mut {d p : Addr} {H H' : Hp} {o : HO} (e : ExB d H H') (h : H p = none) : ExB d H (L2.upd H' p o) := fun b u hb q => by
  rw [upd_ne (ne_of_none q h)]
  exact e b u hb q
theorem KeepN.lst {H H' : Hp} {p : Addr} {xs ys : List V} (e : KeepN H H') (h : H p = some (.lst xs)) : KeepN H (upd H' p (.lst ys)) := fun b o n q => by
  have hb : b ≠ p := fun z => by
    rw [z, h] at q
    exact n xs (Option.some.inj q).symm
  rw [upd_ne hb]
  exact e b o n q
section
variable {K : PySem.W.Frag} {σ : L2.St} {H H' : Hp} {ta tb tc te tv : TE} {x y z v : V} {r r' : R2} {t u : TT} {D : Ends} {tz : TS}
/-- a comprehension over a list of pairs, whose elements are made: R tells of each -/
theorem er_lst2X {a : Addr} {xs : List V} {tl : TE} {j k : Nat} {vs : List Nat} (A B : Nat → V) (R : Nat → V → Hp → Prop) (hR : ∀ i y H1 H2, KeepN H1 H2 → R i y H1 → R i y H2) (h : Ev tl σ H (.ref a)) (hx : SqL K H a xs) (hz : xs.length ≤ 40000)
    (hw : ∀ x y, wipe (((wipe σ vs).set j (some x)).set k (some y)) vs = wipe σ vs) (hp : ∀ (i : Nat) (x : V), xs[i]? = some x → ∃ p, x = .ref p ∧ SqT K H p [A i, B i])
    (he : ∀ (i : Nat) H1, Ex H H1 → i < xs.length → ∀ Q : VK, (∀ y H2, Ex H1 H2 → R i y H2 → Q y H2) → te (((wipe σ vs).set j (some (A i))).set k (some (B i))) H1 Q) :
    EvR (tLc (iList K tl) (gTup K 2 (gCons (gName j) (gCons (gName k) gNil))) tYes te vs) σ H fun p H2 => ∃ ys, H2 p = some (.lst ys) ∧ ys.length = xs.length ∧ ∀ i y, ys[i]? = some y → R i y H2 := by
  intro H0 e Q q
  refine h H0 e _ fun H1 e1 => ⟨a, rfl, ⟨xs, ex_l (e.trans e1) hx⟩, fun Dl hD => ?_⟩
  refine lc_list (xs := xs) (fun i H' => Ex H1 H' ∧ ∃ ys, H' Dl = some (.lst ys) ∧ ys.length = i ∧ ∀ j y, ys[j]? = some y → R j y H') ⟨Ex.new hD, [], upd_same, rfl, fun j y z => by simp at z⟩ (fun i H' _ p => ex_l ((e.trans e1).trans p.1) hx) (fun i x H' hi p => ?_)
    fun H' p => q Dl H' (fresh_back e1 hD) (e1.trans p.1) p.2
  obtain ⟨p1, ys, p2, p3, p4⟩ := p
  have hlt := (List.getElem?_eq_some_iff.mp hi).1
  obtain ⟨r, rfl, hr⟩ := hp i x hi
  refine ⟨_, _, rfl, ex_t ((e.trans e1).trans p1) hr, rfl, _, _, rfl, _, _, rfl, rfl, hw _ _, ?_⟩
  refine he i H' ((e.trans e1).trans p1) hlt _ fun y H4 e4 hy => ⟨ys, e4 _ _ p2, by rw [p3]; exact Evl.sz_lt (by omega), Ex.mut (p1.trans e4) hD, ys ++ [y], upd_same, by rw [List.length_append, p3]; rfl, fun j z hz => ?_⟩
  have kn : KeepN H4 (upd H4 Dl (.lst (ys ++ [y]))) := (KeepN.refl H4).lst (e4 _ _ p2)
  rcases Nat.lt_or_ge j ys.length with hj | hj
  · rw [List.getElem?_append_left hj] at hz
    exact hR j z _ _ ((KeepN.of e4).trans kn) (p4 j z hz)
  · rw [List.getElem?_append_right hj] at hz
    have : j - ys.length = 0 := by
      rcases Nat.eq_zero_or_pos (j - ys.length) with h | h
      · exact h
      · rw [List.getElem?_eq_none (by simp; omega)] at hz
        cases hz
    rw [this] at hz
    cases hz
    have : j = i := by omega
    subst this
    exact hR j y _ _ kn hy
/-- tuple(a new list) -/
theorem er_tuple {S : List V → Hp → Prop} (hS : ∀ ys H1 H2, KeepN H1 H2 → S ys H1 → S ys H2) (h : EvR ta σ H fun p H2 => ∃ ys, H2 p = some (.lst ys) ∧ S ys H2) :
    EvR (tCB (fun xs H Q => ∃ p ys, xs = [.ref p] ∧ ((SqL K H p ys ∧ ∀ l, H l = none → Q (.ref l) (upd H l (.tup ys))) ∨ (SqT K H p ys ∧ Q (.ref p) H))) (tCons ta tNil)) σ H fun p H2 => ∃ ys, H2 p = some (.tup ys) ∧ S ys H2 := fun H1 e Q q =>
  h H1 e _ fun p H2 hp e2 ⟨ys, h2, hs⟩ => ⟨p, ys, rfl, .inl ⟨sq_of h2, fun l hl => q l _ (fresh_back e2 hl) (e2.trans (Ex.new hl)) ⟨ys, upd_same, hS ys _ _ (KeepN.of (Ex.new hl)) hs⟩⟩⟩
theorem RawL.fn {xs : List V} {rows : Rows} (h : RawL K H xs rows) (d : Rl × Bool) : ∃ q : Nat → V, ∀ i x, xs[i]? = some x → ∃ p, x = .ref p ∧ SqT K H p [q i, .bl (rows.getD i d).2] ∧ RlAt K H (q i) (rows.getD i d).1 := by
  have : ∀ i, ∃ q : V, ∀ x, xs[i]? = some x → ∃ p, x = .ref p ∧ SqT K H p [q, .bl (rows.getD i d).2] ∧ RlAt K H q (rows.getD i d).1 := fun i => by
    cases e : xs[i]? with
    | none => exact ⟨.non, fun x hx => nomatch hx⟩
    | some y =>
      obtain ⟨r, hr, p, q, h0, h1, h2⟩ := h.get e
      refine ⟨q, fun x hx => ?_⟩
      cases hx
      have : rows.getD i d = r := by rw [List.getD_eq_getElem?_getD, hr]; rfl
      rw [this]
      exact ⟨p, h0, h1, h2⟩
  exact Classical.axiomOfChoice this
theorem rowsL_of {CF : Addr} (d : Rl × Bool) : ∀ {ys : List V} {rows : Rows}, ys.length = rows.length → (∀ i y, ys[i]? = some y → RowAt K CF H y (rows.getD i d)) → RowsL K CF H ys rows
  | [], [], _, _ => trivial
  | y :: ys, r :: rows, hl, h => ⟨h 0 y rfl, rowsL_of d (by simpa using hl) fun i y hy => h (i + 1) y hy⟩
  | [], _ :: _, hl, _ => by simp at hl
  | _ :: _, [], hl, _ => by simp at hl
end
/-- rows that may stand: bys 4 at most in all, each rule fit and of at most n parts -/
structure RowsOk (n : Nat) (rows : Rows) : Prop where
  bys : rowsBys rows ≤ 4
  fit : ∀ r ∈ rows, r.1.fit = true ∧ r.1.parts ≤ n
theorem bys_le : ∀ {rows : Rows} {r : Rl × Bool}, r ∈ rows → r.1.bys ≤ rowsBys rows
  | a :: rows, r, h => by
    unfold rowsBys
    rw [List.map_cons, List.sum_cons]
    rcases List.mem_cons.mp h with rfl | h
    · omega
    · have := bys_le h
      unfold rowsBys at this
      omega
theorem getD_mem {rows : Rows} {d : Rl × Bool} {i : Nat} (h : i < rows.length) : rows.getD i d ∈ rows := by
  rw [List.getD_eq_getElem?_getD, List.getElem?_eq_getElem h]
  exact List.getElem_mem h
theorem RowsOk.dep {n : Nat} {rows : Rows} (h : RowsOk n rows) (hn : n ≤ 5) : depMax rows < 5 := by
  have : ∀ rows : Rows, (∀ r ∈ rows, r.1.parts ≤ 5) → depMax rows < 5 := by
    intro rows
    induction rows with
    | nil => intro _; exact (by decide : 0 < 5)
    | cons r rows ih =>
      intro h
      have h1 := h r List.mem_cons_self
      have h2 := dep_parts r.1
      have h3 := ih fun r hr => h r (List.mem_cons_of_mem _ hr)
      show max r.1.dep (depMax rows) < 5
      omega
  exact this rows fun r hr => Nat.le_trans (h.fit r hr).2 hn
end WF

set_option Elab.async false
set_option linter.all false
set_option maxRecDepth 100000
/-! WForm: the plain law: how many days a round has. A day is seen by what lies near it. -/
namespace WF

/-! ### a rule told by what lies near a day: a: days that begin a week, u: a month; l: in a month's first days -/
def Rl.ev (a u l : Int → Bool) : Rl → Int → Bool
  | .wk k, j => a (j - k)
  | .fs k, j => a (j - k) && l j
  | .md k, j => u (j - k)
  | .bh r b, j => r.ev a u l (j - b)
  | .bo x y, j => x.ev a u l j && y.ev a u l j
  | .ei x y, j => x.ev a u l j || y.ev a u l j
  | .wo x y, j => x.ev a u l j && !y.ev a u l j
def addE (a u l : Int → Bool) (f : Int → Bool) (r : Rl × Bool) : Int → Bool := fun d =>
  f d || (r.1.ev a u l d && !(r.2 && f d)) || (r.2 && (r.1.ev a u l (d - 1) && f (d - 1)))
def calE (a u l : Int → Bool) (rows : Rows) : Int → Bool := rows.foldl (addE a u l) fun _ => false
def atZ (n d : Int) : Int → Bool := fun i => (d + i) % n == 0
def inW (w m d : Int) : Int → Bool := fun i => decide ((d + i) % m < w)
theorem mod_sub (n d k : Int) : (d % n == k % n) = ((d - k) % n == 0) := by
  rw [Bool.eq_iff_iff, beq_iff_eq, beq_iff_eq]
  exact Int.emod_eq_emod_iff_emod_sub_eq_zero
theorem ev_day (w m d : Int) : ∀ (r : Rl) (j : Int), r.day w m (d + j) = r.ev (atZ w d) (atZ m d) (inW w m d) j
  | .wk k, j => by
    show ((d + j) % w == k % w) = ((d + (j - k)) % w == 0)
    rw [mod_sub, show d + j - k = d + (j - k) by omega]
  | .fs k, j => by
    show ((d + j) % w == k % w && decide ((d + j) % m < w)) = ((d + (j - k)) % w == 0 && decide ((d + j) % m < w))
    rw [mod_sub, show d + j - k = d + (j - k) by omega]
  | .md k, j => by
    show ((d + j) % m == k % m) = ((d + (j - k)) % m == 0)
    rw [mod_sub, show d + j - k = d + (j - k) by omega]
  | .bh r b, j => by
    show r.day w m (d + j - b) = r.ev _ _ _ (j - b)
    rw [show d + j - b = d + (j - b) by omega]
    exact ev_day w m d r _
  | .bo x y, j => by
    show (x.day w m (d + j) && y.day w m (d + j)) = _
    rw [ev_day w m d x, ev_day w m d y]; rfl
  | .ei x y, j => by
    show (x.day w m (d + j) || y.day w m (d + j)) = _
    rw [ev_day w m d x, ev_day w m d y]; rfl
  | .wo x y, j => by
    show (x.day w m (d + j) && !y.day w m (d + j)) = _
    rw [ev_day w m d x, ev_day w m d y]; rfl
theorem fold_ev (w m d : Int) : ∀ (rows : Rows) (f g : Int → Bool), (∀ j, f (d + j) = g j) → ∀ j, rows.foldl (addRow w m) f (d + j) = rows.foldl (addE (atZ w d) (atZ m d) (inW w m d)) g j
  | [], _, _, h, j => h j
  | r :: rows, f, g, h, j => fold_ev w m d rows _ _ (fun j => by
      show (f (d + j) || (r.1.day w m (d + j) && !(r.2 && f (d + j))) || (r.2 && (r.1.day w m (d + j - 1) && f (d + j - 1)))) = (g j || (r.1.ev _ _ _ j && !(r.2 && g j)) || (r.2 && (r.1.ev _ _ _ (j - 1) && g (j - 1))))
      rw [show d + j - 1 = d + (j - 1) by omega, h j, h (j - 1), ev_day, ev_day]) j
theorem cal_ev (w m d : Int) (rows : Rows) : calDay w m rows d = calE (atZ w d) (atZ m d) (inW w m d) rows 0 := by
  have := fold_ev w m d rows (fun _ => false) (fun _ => false) (fun _ => rfl) 0
  rw [Int.add_zero] at this
  exact this

/-! ### what lies near is all that tells -/
def Ag (n : Nat) (a a' : Int → Bool) : Prop := ∀ j : Int, -(n : Int) ≤ j → j ≤ (n : Int) → a j = a' j
theorem ev_ag {a a' u u' l l' : Int → Bool} {n : Nat} (ha : Ag n a a') (hu : Ag n u u') (hl : Ag n l l') : ∀ (r : Rl) (k : Nat) (j : Int), r.fit = true → -(k : Int) ≤ j → j ≤ (k : Int) → k + 3 + r.bys ≤ n → r.ev a u l j = r.ev a' u' l' j
  | .wk c, k, j, hf, h1, h2, h3 => by
    have hc := of_decide_eq_true hf
    exact ha _ (by simp only [Rl.bys] at h3; omega) (by simp only [Rl.bys] at h3; omega)
  | .fs c, k, j, hf, h1, h2, h3 => by
    have hc := of_decide_eq_true hf
    simp only [Rl.bys] at h3
    show (a (j - c) && l j) = (a' (j - c) && l' j)
    rw [ha _ (by omega) (by omega), hl _ (by omega) (by omega)]
  | .md c, k, j, hf, h1, h2, h3 => by
    have hc := of_decide_eq_true hf
    exact hu _ (by simp only [Rl.bys] at h3; omega) (by simp only [Rl.bys] at h3; omega)
  | .bh r b, k, j, hf, h1, h2, h3 => by
    simp only [Rl.fit, Bool.and_eq_true] at hf
    simp only [Rl.bys] at h3
    exact ev_ag ha hu hl r (k + b.natAbs) (j - b) hf.2 (by omega) (by omega) (by omega)
  | .bo x y, k, j, hf, h1, h2, h3 => by
    simp only [Rl.fit, Bool.and_eq_true] at hf
    simp only [Rl.bys] at h3
    show (x.ev a u l j && y.ev a u l j) = (x.ev a' u' l' j && y.ev a' u' l' j)
    rw [ev_ag ha hu hl x k j hf.1 h1 h2 (by omega), ev_ag ha hu hl y k j hf.2 h1 h2 (by omega)]
  | .ei x y, k, j, hf, h1, h2, h3 => by
    simp only [Rl.fit, Bool.and_eq_true] at hf
    simp only [Rl.bys] at h3
    show (x.ev a u l j || y.ev a u l j) = (x.ev a' u' l' j || y.ev a' u' l' j)
    rw [ev_ag ha hu hl x k j hf.1 h1 h2 (by omega), ev_ag ha hu hl y k j hf.2 h1 h2 (by omega)]
  | .wo x y, k, j, hf, h1, h2, h3 => by
    simp only [Rl.fit, Bool.and_eq_true] at hf
    simp only [Rl.bys] at h3
    show (x.ev a u l j && !y.ev a u l j) = (x.ev a' u' l' j && !y.ev a' u' l' j)
    rw [ev_ag ha hu hl x k j hf.1 h1 h2 (by omega), ev_ag ha hu hl y k j hf.2 h1 h2 (by omega)]
def ysOf (rows : Rows) : Nat := (rows.filter fun r => r.2).length
theorem fold_ag {a a' u u' l l' : Int → Bool} {n : Nat} (ha : Ag n a a') (hu : Ag n u u') (hl : Ag n l l') : ∀ (rows : Rows) (f g : Int → Bool) (k : Nat), (∀ r ∈ rows, r.1.fit = true) → k + 3 + rowsBys rows + ysOf rows ≤ n →
    (∀ j : Int, -((k + ysOf rows : Nat) : Int) ≤ j → j ≤ ((k + ysOf rows : Nat) : Int) → f j = g j) → ∀ j : Int, -(k : Int) ≤ j → j ≤ (k : Int) → rows.foldl (addE a u l) f j = rows.foldl (addE a' u' l') g j
  | [], f, g, k, _, _, h, j, h1, h2 => h j (by show -((k + 0 : Nat) : Int) ≤ j; omega) (by show j ≤ ((k + 0 : Nat) : Int); omega)
  | r :: rows, f, g, k, hf, hn, h, j, h1, h2 => by
    have hb : rowsBys (r :: rows) = r.1.bys + rowsBys rows := by unfold rowsBys; rw [List.map_cons, List.sum_cons]
    have hy : ysOf (r :: rows) = (if r.2 = true then 1 else 0) + ysOf rows := by
      unfold ysOf
      rw [List.filter_cons]
      split
      · rw [List.length_cons, Nat.add_comm]
      · rw [Nat.zero_add]
    rw [hb, hy] at hn
    rw [hy] at h
    refine fold_ag ha hu hl rows _ _ k (fun q hq => hf q (List.mem_cons_of_mem _ hq)) (by omega) (fun i g1 g2 => ?_) j h1 h2
    have e1 := ev_ag ha hu hl r.1 (k + ysOf rows) i (hf r List.mem_cons_self) g1 g2 (by omega)
    show (f i || (r.1.ev a u l i && !(r.2 && f i)) || (r.2 && (r.1.ev a u l (i - 1) && f (i - 1)))) = (g i || (r.1.ev a' u' l' i && !(r.2 && g i)) || (r.2 && (r.1.ev a' u' l' (i - 1) && g (i - 1))))
    rw [e1, h i (by omega) (by omega)]
    by_cases hr : r.2 = true
    · rw [if_pos hr] at hn h
      rw [ev_ag ha hu hl r.1 (k + ysOf rows + 1) (i - 1) (hf r List.mem_cons_self) (by omega) (by omega) (by omega), h (i - 1) (by omega) (by omega)]
    · have hr' : r.2 = false := by simpa using hr
      rw [hr']; rfl
theorem cal_ag {a a' u u' l l' : Int → Bool} {rows : Rows} (hf : ∀ r ∈ rows, r.1.fit = true) (ha : Ag (reachOf rows) a a') (hu : Ag (reachOf rows) u u') (hl : Ag (reachOf rows) l l') : calE a u l rows 0 = calE a' u' l' rows 0 :=
  fold_ag ha hu hl rows _ _ 0 hf (by unfold reachOf ysOf; omega) (fun _ _ _ => rfl) 0 (by omega) (by omega)
/-- far from the begin of a week and of a month there is no day -/
theorem ev_far (l : Int → Bool) : ∀ (r : Rl) (j : Int), r.ev (fun _ => false) (fun _ => false) l j = false
  | .wk _, _ => rfl
  | .fs _, _ => rfl
  | .md _, _ => rfl
  | .bh r b, j => ev_far l r _
  | .bo x y, j => by show (x.ev _ _ l j && y.ev _ _ l j) = _; rw [ev_far l x]; rfl
  | .ei x y, j => by show (x.ev _ _ l j || y.ev _ _ l j) = _; rw [ev_far l x, ev_far l y]; rfl
  | .wo x y, j => by show (x.ev _ _ l j && !y.ev _ _ l j) = _; rw [ev_far l x]; rfl
theorem fold_far (l : Int → Bool) : ∀ (rows : Rows) (f : Int → Bool), (∀ j, f j = false) → ∀ j, rows.foldl (addE (fun _ => false) (fun _ => false) l) f j = false
  | [], _, h, j => h j
  | r :: rows, f, h, j => fold_far l rows _ (fun j => by
      show (f j || (r.1.ev _ _ l j && !(r.2 && f j)) || (r.2 && (r.1.ev _ _ l (j - 1) && f (j - 1)))) = false
      rw [ev_far, ev_far, h]; simp) j
theorem cal_far (l : Int → Bool) (rows : Rows) : calE (fun _ => false) (fun _ => false) l rows 0 = false := fold_far l rows _ (fun _ => rfl) 0

/-! ### sums -/
def sm : Nat → (Int → Nat) → Nat
  | 0, _ => 0
  | n + 1, f => sm n f + f (n : Int)
theorem sm_congr : ∀ (n : Nat) {f g : Int → Nat}, (∀ i : Nat, i < n → f (i : Int) = g (i : Int)) → sm n f = sm n g
  | 0, _, _, _ => rfl
  | n + 1, f, g, h => by
    show sm n f + f n = sm n g + g n
    rw [sm_congr n fun i hi => h i (Nat.lt_succ_of_lt hi), h n (Nat.lt_succ_self n)]
theorem sm_plus : ∀ (n : Nat) (f g : Int → Nat), sm n (fun i => f i + g i) = sm n f + sm n g
  | 0, _, _ => rfl
  | n + 1, f, g => by
    show sm n (fun i => f i + g i) + (f n + g n) = sm n f + f n + (sm n g + g n)
    rw [sm_plus n f g]; omega
theorem sm_mulc : ∀ (n c : Nat) (f : Int → Nat), sm n (fun i => c * f i) = c * sm n f
  | 0, _, _ => rfl
  | n + 1, c, f => by
    show sm n (fun i => c * f i) + c * f n = c * (sm n f + f n)
    rw [sm_mulc n c f, Nat.mul_add]
theorem sm_const : ∀ (n c : Nat) {f : Int → Nat}, (∀ i : Nat, i < n → f (i : Int) = c) → sm n f = n * c
  | 0, c, _, _ => by rw [Nat.zero_mul]; rfl
  | n + 1, c, f, h => by
    show sm n f + f n = (n + 1) * c
    rw [sm_const n c fun i hi => h i (Nat.lt_succ_of_lt hi), h n (Nat.lt_succ_self n), Nat.add_mul, Nat.one_mul]
theorem sm_add (n : Nat) (f : Int → Nat) : ∀ k : Nat, sm (n + k) f = sm n f + sm k fun i => f ((n : Int) + i)
  | 0 => rfl
  | k + 1 => by
    show sm (n + k) f + f ((n + k : Nat) : Int) = sm n f + (sm k (fun i => f ((n : Int) + i)) + f ((n : Int) + (k : Int)))
    rw [sm_add n f k, Int.natCast_add]; omega
theorem sm_mul (m : Nat) (f : Int → Nat) : ∀ n : Nat, sm (m * n) f = sm n fun t => sm m fun b => f ((m : Int) * t + b)
  | 0 => rfl
  | n + 1 => by
    rw [Nat.mul_add, Nat.mul_one, sm_add, sm_mul m f n]
    show _ = sm n _ + sm m _
    rw [Int.natCast_mul]
theorem sm_comm (m : Nat) (f : Int → Int → Nat) : ∀ n : Nat, sm n (fun t => sm m (f t)) = sm m fun b => sm n fun t => f t b
  | 0 => by
    have : sm m (fun b => sm 0 fun t => f t b) = m * 0 := sm_const m 0 fun _ _ => rfl
    rw [this]; rfl
  | n + 1 => by
    show sm n (fun t => sm m (f t)) + sm m (f n) = sm m fun b => sm n (fun t => f t b) + f n b
    rw [sm_comm m f n, sm_plus]
theorem sm_turn1 {n : Nat} {f : Int → Nat} (h : f (n : Int) = f 0) : sm n (fun i => f (i + 1)) = sm n f := by
  have h1 : sm (1 + n) f = sm 1 f + sm n fun i => f (((1 : Nat) : Int) + i) := sm_add 1 f n
  have h2 : sm (n + 1) f = sm n f + f n := rfl
  rw [Nat.add_comm, h2] at h1
  have h3 : sm 1 f = f 0 := by show 0 + f ((0 : Nat) : Int) = f 0; rw [Nat.zero_add]; rfl
  rw [h3, h] at h1
  have h4 : (fun i => f (((1 : Nat) : Int) + i)) = fun i => f (i + 1) := by
    funext i
    rw [Int.add_comm]; rfl
  rw [h4] at h1
  omega
theorem sm_turn {n : Nat} : ∀ (k : Nat) {f : Int → Nat}, (∀ i, f (i + n) = f i) → sm n (fun i => f (i - k)) = sm n f
  | 0, f, _ => by simp
  | k + 1, f, h => by
    have h1 := sm_turn1 (n := n) (f := fun i => f (i - ((k + 1 : Nat) : Int))) (by
      show f ((n : Int) - ((k + 1 : Nat) : Int)) = f (0 - ((k + 1 : Nat) : Int))
      rw [show (n : Int) - ((k + 1 : Nat) : Int) = (0 - ((k + 1 : Nat) : Int)) + (n : Int) by omega, h])
    rw [← h1, ← sm_turn k h]
    refine sm_congr n fun i _ => ?_
    show f ((i : Int) + 1 - ((k + 1 : Nat) : Int)) = f ((i : Int) - (k : Int))
    rw [show (i : Int) + 1 - ((k + 1 : Nat) : Int) = (i : Int) - (k : Int) by omega]
theorem sm_list (n : Nat) (f : Int → Nat) : sm n f = ((List.range n).map fun (i : Nat) => f (i : Int)).sum := by
  induction n with
  | zero => rfl
  | succ n ih => rw [List.range_succ, List.map_append, List.sum_append, ← ih]; rfl
theorem nodup_le : ∀ {l l' : List Nat}, l.Nodup → (∀ x, x ∈ l → x ∈ l') → l.length ≤ l'.length
  | [], _, _, _ => Nat.zero_le _
  | a :: l, l', h, hs => by
    have hn := List.nodup_cons.mp h
    have h1 := nodup_le (l' := l'.erase a) hn.2 fun x hx => (List.mem_erase_of_ne (fun q => hn.1 (by rw [← q]; exact hx))).mpr (hs x (List.mem_cons_of_mem _ hx))
    have h2 := List.length_erase_of_mem (hs a List.mem_cons_self)
    have h3 := List.length_pos_of_mem (hs a List.mem_cons_self)
    rw [List.length_cons]; omega
theorem nodup_all {l : List Nat} {n : Nat} (h : l.Nodup) (hs : ∀ x, x ∈ l → x < n) (hl : l.length = n) (x : Nat) (hx : x < n) : x ∈ l := by
  apply Classical.byContradiction
  intro hn
  have := nodup_le (l := x :: l) (l' := List.range n) (List.nodup_cons.mpr ⟨hn, h⟩) fun y hy => by
    rcases List.mem_cons.mp hy with rfl | hy
    · exact List.mem_range.mpr hx
    · exact List.mem_range.mpr (hs y hy)
  rw [List.length_cons, List.length_range] at this
  omega
def bi (b : Bool) : Nat := if b then 1 else 0
theorem days_sm (p : Int → Bool) : ∀ n : Nat, (daysN n p).length = sm n fun d => bi (p d)
  | 0 => rfl
  | n + 1 => by
    rw [daysN_succ, List.length_append, days_sm p n]
    show _ = _ + bi (p n)
    unfold bi
    split <;> rfl
/-- the days of the months that begin a week: each once -/
theorem step_perm {w m : Nat} (hw : 0 < w) (hg : Nat.gcd m w = 1) (b : Int) (g : Int → Nat) : sm w (fun t => g (((m : Int) * t + b) % (w : Int))) = sm w g := by
  rw [sm_list, sm_list]
  have hr : ∀ t : Nat, ((((((m : Int) * (t : Int) + b) % (w : Int)).toNat : Nat)) : Int) = ((m : Int) * (t : Int) + b) % (w : Int) := fun t => Int.toNat_of_nonneg (Int.emod_nonneg _ (by omega))
  have e : ((List.range w).map fun (t : Nat) => g (((m : Int) * (t : Int) + b) % (w : Int))) = ((List.range w).map fun (t : Nat) => (((m : Int) * (t : Int) + b) % (w : Int)).toNat).map fun (i : Nat) => g (i : Int) := by
    rw [List.map_map]
    refine List.map_congr_left fun t _ => ?_
    show _ = g _
    rw [hr]
  have inj : ∀ s t : Nat, s < t → t < w → (((m : Int) * (s : Int) + b) % (w : Int)).toNat ≠ (((m : Int) * (t : Int) + b) % (w : Int)).toNat := fun s t h1 h2 q => by
    have q2 : ((m : Int) * (s : Int) + b) % (w : Int) = ((m : Int) * (t : Int) + b) % (w : Int) := by
      have z1 := hr s
      have z2 := hr t
      rw [q] at z1
      exact z1.symm.trans z2
    have q4 : ((m : Int) * (t : Int) + b - ((m : Int) * (s : Int) + b)) % (w : Int) = 0 := Int.emod_eq_emod_iff_emod_sub_eq_zero.mp q2.symm
    have q5 : (m : Int) * (t : Int) + b - ((m : Int) * (s : Int) + b) = ((m * (t - s) : Nat) : Int) := by
      rw [Int.natCast_mul, Int.natCast_sub (Nat.le_of_lt h1), Int.mul_sub]; omega
    rw [q5, ← Int.natCast_emod] at q4
    have q6 : w ∣ m * (t - s) := Nat.dvd_of_mod_eq_zero (by omega)
    have q7 : w ∣ t - s := Nat.Coprime.dvd_of_dvd_mul_left (by rw [Nat.coprime_iff_gcd_eq_one, Nat.gcd_comm]; exact hg) q6
    have := Nat.le_of_dvd (by omega) q7
    omega
  have nd : ((List.range w).map fun (t : Nat) => (((m : Int) * (t : Int) + b) % (w : Int)).toNat).Nodup := by
    show List.Pairwise _ _
    rw [List.pairwise_map]
    refine List.Pairwise.imp_of_mem (fun {s t} hs ht hst => inj s t hst (List.mem_range.mp ht)) List.pairwise_lt_range
  have sub : ∀ x, x ∈ ((List.range w).map fun (t : Nat) => (((m : Int) * (t : Int) + b) % (w : Int)).toNat) → x ∈ List.range w := fun x hx => by
    obtain ⟨t, _, rfl⟩ := List.mem_map.mp hx
    have := Int.emod_lt_of_pos ((m : Int) * (t : Int) + b) (show (0 : Int) < (w : Int) by omega)
    have := hr t
    rw [List.mem_range]; omega
  have perm : ((List.range w).map fun (t : Nat) => (((m : Int) * (t : Int) + b) % (w : Int)).toNat).Perm (List.range w) := by
    refine (List.perm_ext_iff_of_nodup nd List.nodup_range).mpr fun x => ⟨sub x, fun hx => ?_⟩
    exact nodup_all nd (fun y hy => List.mem_range.mp (sub y hy)) (by rw [List.length_map, List.length_range]) x (List.mem_range.mp hx)
  rw [e]
  exact (perm.map _).sum_nat
/-- a round's days, as pairs -/
theorem round_sm {w m : Nat} (hw : 0 < w) (hm : 0 < m) (hg : Nat.gcd m w = 1) (P : Int → Int → Nat) : sm (w * m) (fun d => P (d % (w : Int)) (d % (m : Int))) = sm w fun a => sm m fun b => P a b := by
  rw [Nat.mul_comm, sm_mul, sm_comm]
  have : ∀ b : Nat, b < m → sm w (fun t => P (((m : Int) * t + (b : Int)) % (w : Int)) (((m : Int) * t + (b : Int)) % (m : Int))) = sm w fun a => P a (b : Int) := fun b hb => by
    rw [← step_perm hw hg (b : Int) fun a => P a (b : Int)]
    refine sm_congr w fun t _ => ?_
    have e : ((m : Int) * (t : Int) + (b : Int)) % (m : Int) = (b : Int) := by
      rw [Int.add_comm, Int.add_mul_emod_self_left, Int.emod_eq_of_lt (by omega) (by omega)]
    rw [e]
  rw [sm_congr m (g := fun b => sm w fun a => P a b) this, sm_comm]

/-! ### the number of days of a great land's round -/
def pAt (rows : Rows) (w m : Int) (a b : Int) : Nat := bi (calE (atZ w a) (atZ m b) (inW w m b) rows 0)
theorem atZ_mod (n d : Int) : atZ n (d % n) = atZ n d := by
  funext i
  show ((d % n + i) % n == 0) = ((d + i) % n == 0)
  rw [Int.emod_add_emod]
theorem inW_mod (w n d : Int) : inW w n (d % n) = inW w n d := by
  funext i
  show decide ((d % n + i) % n < w) = decide ((d + i) % n < w)
  rw [Int.emod_add_emod]
theorem atZ_per (n d : Int) : atZ n (d + n) = atZ n d := by rw [← atZ_mod, Int.add_emod_right, atZ_mod]
theorem inW_per (w n d : Int) : inW w n (d + n) = inW w n d := by rw [← inW_mod, Int.add_emod_right, inW_mod]
theorem mod_in {n x : Int} (h : 0 < n) (h1 : -n < x) (h2 : x < n) : (x % n == 0) = (x == 0) := by
  rw [Bool.eq_iff_iff, beq_iff_eq, beq_iff_eq]
  refine ⟨fun h3 => ?_, fun h3 => by rw [h3]; exact Int.zero_emod n⟩
  have := Int.emod_add_mul_ediv x n
  rw [h3] at this
  rcases Int.lt_trichotomy (x / n) 0 with q | q | q
  · have : n * (x / n) ≤ n * (-1) := Int.mul_le_mul_of_nonneg_left (by omega) (by omega)
    omega
  · rw [q, Int.mul_zero] at this; omega
  · have : n * 1 ≤ n * (x / n) := Int.mul_le_mul_of_nonneg_left (by omega) (by omega)
    omega
theorem mod_low {n x : Int} (h1 : 0 ≤ x) (h2 : x < n) : x % n = x := Int.emod_eq_of_lt h1 h2
theorem mod_up {n x : Int} (h1 : -n ≤ x) (h2 : x < 0) : x % n = x + n := by
  rw [← Int.add_emod_right, Int.emod_eq_of_lt (by omega) (by omega)]
/-- how many days: three numbers tell of all great lands -/
theorem count_form (rows : Rows) (hf : ∀ r ∈ rows, r.1.fit = true) : ∃ C X Y : Nat, ∀ u v w m : Nat, w = 2 * reachOf rows + 1 + u → m = w + (2 * reachOf rows + 1) + v → Nat.gcd m w = 1 →
    (daysN (w * m) (calDay (w : Int) (m : Int) rows)).length = C + u * X + v * Y := by
  generalize hR : reachOf rows = R
  let z : Nat → Int → Bool := fun i x => (i : Int) - (R : Int) + x == 0
  let lo : Nat → Int → Bool := fun j x => decide (0 ≤ (j : Int) - (R : Int) + x)
  let hi : Nat → Int → Bool := fun j x => decide ((j : Int) - (R : Int) + x < 0)
  let no : Int → Bool := fun _ => false
  let ye : Int → Bool := fun _ => true
  let S0 : Int → Nat := fun i => sm (2 * R + 1) fun j => bi (calE (z i.toNat) (z j.toNat) (lo j.toNat) rows 0)
  let SL : Int → Nat := fun i => bi (calE (z i.toNat) no ye rows 0)
  let SW : Int → Nat := fun i => sm (2 * R + 1) fun j => bi (calE (z i.toNat) no (hi j.toNat) rows 0)
  let SH : Int → Nat := fun i => bi (calE (z i.toNat) no no rows 0)
  let SF : Nat := sm (2 * R + 1) fun j => bi (calE no (z j.toNat) (lo j.toNat) rows 0)
  refine ⟨sm (2 * R + 1) S0 + sm (2 * R + 1) SW, sm (2 * R + 1) SL + SF, sm (2 * R + 1) SH, fun u v w m hw hm hg => ?_⟩
  have hag : ∀ {a a' u u' l l' : Int → Bool}, Ag R a a' → Ag R u u' → Ag R l l' → bi (calE a u l rows 0) = bi (calE a' u' l' rows 0) := fun h1 h2 h3 => by
    rw [cal_ag hf (by rw [hR]; exact h1) (by rw [hR]; exact h2) (by rw [hR]; exact h3)]
  have hw0 : 0 < w := by omega
  have hm0 : 0 < m := by omega
  -- weeks
  have aN : ∀ i : Nat, i < 2 * R + 1 → Ag R (atZ w ((i : Int) - (R : Int))) (z i) := fun i hi j h1 h2 => by
    show (((i : Int) - (R : Int) + j) % (w : Int) == 0) = ((i : Int) - (R : Int) + j == 0)
    exact mod_in (by omega) (by omega) (by omega)
  have aF : ∀ i : Nat, i < u → Ag R (atZ w (((2 * R + 1 : Nat) : Int) + (i : Int) - (R : Int))) no := fun i hi j h1 h2 => by
    show ((((2 * R + 1 : Nat) : Int) + (i : Int) - (R : Int) + j) % (w : Int) == 0) = false
    rw [mod_low (by omega) (by omega), beq_eq_false_iff_ne]; omega
  -- months
  have uN : ∀ i : Nat, i < 2 * R + 1 → Ag R (atZ m ((i : Int) - (R : Int))) (z i) := fun i hi j h1 h2 => by
    show (((i : Int) - (R : Int) + j) % (m : Int) == 0) = ((i : Int) - (R : Int) + j == 0)
    exact mod_in (by omega) (by omega) (by omega)
  have uF : ∀ i : Nat, 2 * R + 1 ≤ i → i < m → Ag R (atZ m ((i : Int) - (R : Int))) no := fun i hi hi2 j h1 h2 => by
    show (((i : Int) - (R : Int) + j) % (m : Int) == 0) = false
    rw [mod_low (by omega) (by omega), beq_eq_false_iff_ne]; omega
  have lN : ∀ i : Nat, i < 2 * R + 1 → Ag R (inW w m ((i : Int) - (R : Int))) (lo i) := fun i hi j h1 h2 => by
    show decide (((i : Int) - (R : Int) + j) % (m : Int) < (w : Int)) = decide (0 ≤ (i : Int) - (R : Int) + j)
    by_cases h : 0 ≤ (i : Int) - (R : Int) + j
    · rw [decide_eq_true h, mod_low h (by omega), decide_eq_true (by omega)]
    · rw [decide_eq_false h, mod_up (by omega) (by omega), decide_eq_false (by omega)]
  have lL : ∀ i : Nat, i < u → Ag R (inW w m (((2 * R + 1 + i : Nat) : Int) - (R : Int))) ye := fun i hi j h1 h2 => by
    show decide ((((2 * R + 1 + i : Nat) : Int) - (R : Int) + j) % (m : Int) < (w : Int)) = true
    rw [mod_low (by omega) (by omega), decide_eq_true (by omega)]
  have lW : ∀ i : Nat, i < 2 * R + 1 → Ag R (inW w m (((2 * R + 1 + u + i : Nat) : Int) - (R : Int))) (hi i) := fun i hi j h1 h2 => by
    show decide ((((2 * R + 1 + u + i : Nat) : Int) - (R : Int) + j) % (m : Int) < (w : Int)) = decide ((i : Int) - (R : Int) + j < 0)
    rw [mod_low (by omega) (by omega), decide_eq_decide]; omega
  have lH : ∀ i : Nat, i < v → Ag R (inW w m (((2 * R + 1 + u + (2 * R + 1) + i : Nat) : Int) - (R : Int))) no := fun i hi j h1 h2 => by
    show decide ((((2 * R + 1 + u + (2 * R + 1) + i : Nat) : Int) - (R : Int) + j) % (m : Int) < (w : Int)) = false
    rw [mod_low (by omega) (by omega), decide_eq_false (by omega)]
  -- the round
  have e1 : (daysN (w * m) (calDay (w : Int) (m : Int) rows)).length = sm w fun a => sm m fun b => pAt rows w m (a - (R : Int)) (b - (R : Int)) := by
    rw [days_sm, sm_congr (w * m) (g := fun d => pAt rows w m (d % (w : Int)) (d % (m : Int))) fun d _ => by
      show bi (calDay (w : Int) (m : Int) rows (d : Int)) = bi (calE (atZ w ((d : Int) % (w : Int))) (atZ m ((d : Int) % (m : Int))) (inW w m ((d : Int) % (m : Int))) rows 0)
      rw [cal_ev, atZ_mod, atZ_mod, inW_mod]]
    rw [round_sm hw0 hm0 hg]
    rw [← sm_turn (n := w) R (f := fun a => sm m fun b => pAt rows w m a b) fun a => by
      refine sm_congr m fun b _ => ?_
      show bi (calE (atZ w (a + w)) _ _ rows 0) = bi (calE (atZ w a) _ _ rows 0)
      rw [atZ_per]]
    refine sm_congr w fun a _ => ?_
    rw [← sm_turn (n := m) R (f := fun b => pAt rows w m ((a : Int) - (R : Int)) b) fun b => by
      show bi (calE _ (atZ m (b + m)) (inW w m (b + m)) rows 0) = bi (calE _ (atZ m b) (inW w m b) rows 0)
      rw [atZ_per, inW_per]]
  -- a month
  have e2 : ∀ (M : Nat) (A : Int) (a : Int → Bool), M = m → Ag R (atZ w A) a → sm M (fun b => pAt rows w m A (b - (R : Int))) =
      sm (2 * R + 1) (fun j => bi (calE a (z j.toNat) (lo j.toNat) rows 0)) + u * bi (calE a no ye rows 0) + sm (2 * R + 1) (fun j => bi (calE a no (hi j.toNat) rows 0)) + v * bi (calE a no no rows 0) := fun M A a hM hA => by
    have hm' : M = (2 * R + 1) + u + (2 * R + 1) + v := by omega
    rw [hm', sm_add, sm_add, sm_add]
    congr 1
    · congr 1
      · congr 1
        · exact sm_congr _ fun j hj => hag hA (uN j hj) (lN j hj)
        · refine sm_const _ _ fun j hj => ?_
          have := hag hA (uF (2 * R + 1 + j) (by omega) (by omega)) (lL j hj)
          rw [Int.natCast_add] at this
          exact this
      · refine sm_congr _ fun j hj => ?_
        have := hag hA (uF (2 * R + 1 + u + j) (by omega) (by omega)) (lW j hj)
        rw [Int.natCast_add] at this
        exact this
    · refine sm_const _ _ fun j hj => ?_
      have := hag hA (uF (2 * R + 1 + u + (2 * R + 1) + j) (by omega) (by omega)) (lH j hj)
      rw [Int.natCast_add] at this
      exact this
  have far : ∀ l, bi (calE no no l rows 0) = 0 := fun l => by rw [show calE no no l rows 0 = false from cal_far l rows]; rfl
  have e3 : sm (2 * R + 1) (fun a => sm m fun b => pAt rows w m (a - (R : Int)) (b - (R : Int))) = sm (2 * R + 1) S0 + u * sm (2 * R + 1) SL + sm (2 * R + 1) SW + v * sm (2 * R + 1) SH := by
    rw [← sm_mulc, ← sm_mulc, ← sm_plus, ← sm_plus, ← sm_plus]
    exact sm_congr _ fun i hi => e2 _ _ _ rfl (aN i hi)
  have e4 : sm u (fun a => sm m fun b => pAt rows w m (((2 * R + 1 : Nat) : Int) + a - (R : Int)) (b - (R : Int))) = u * SF := by
    refine sm_const _ _ fun i hiu => ?_
    have z0 : sm (2 * R + 1) (fun j => bi (calE no no (hi j.toNat) rows 0)) = 0 := (sm_const (2 * R + 1) 0 fun _ _ => far _).trans (Nat.mul_zero _)
    rw [e2 _ _ _ rfl (aF i hiu), far, far, z0, Nat.mul_zero, Nat.mul_zero]
    rfl
  have e5 : ∀ W : Nat, W = w → sm W (fun a => sm m fun b => pAt rows w m (a - (R : Int)) (b - (R : Int))) = sm (2 * R + 1) S0 + u * sm (2 * R + 1) SL + sm (2 * R + 1) SW + v * sm (2 * R + 1) SH + u * SF := fun W hW => by
    rw [show W = 2 * R + 1 + u by omega, sm_add, e3, e4]
  rw [e1, e5 w rfl, Nat.mul_add]
  omega
/-! ### the three numbers -/
def lenN (rows : Rows) (w m : Nat) : Nat := (daysN (w * m) (calDay (w : Int) (m : Int) rows)).length
def FormOk (rows : Rows) (a b c : Int) : Prop := ∀ w m : Nat, 2 * reachOf rows + 1 ≤ w → w + (2 * reachOf rows + 1) ≤ m → Nat.gcd m w = 1 → ((lenN rows w m : Nat) : Int) = a * (m : Int) + b * (w : Int) + c
theorem gcd_k1 (k w : Nat) : Nat.gcd (k * w + 1) w = 1 := by
  have h1 := Nat.gcd_dvd_left (k * w + 1) w
  have h2 := Nat.gcd_dvd_right (k * w + 1) w
  have h3 : Nat.gcd (k * w + 1) w ∣ k * w := Nat.dvd_trans h2 (Nat.dvd_mul_left w k)
  exact Nat.dvd_one.mp ((Nat.dvd_add_right h3).mp h1)
theorem form_ok {rows : Rows} {r : Nat} (hf : ∀ q ∈ rows, q.1.fit = true) (hr : reachOf rows = r) : ∃ a b : Int,
    ((lenN rows (4 * r + 1) (3 * (4 * r + 1) + 1) : Nat) : Int) - ((lenN rows (4 * r + 1) (2 * (4 * r + 1) + 1) : Nat) : Int) = ((4 * r + 1 : Nat) : Int) * a ∧
    ((lenN rows (4 * r + 1 + 1) (2 * (4 * r + 1) + 3) : Nat) : Int) - ((lenN rows (4 * r + 1) (2 * (4 * r + 1) + 1) : Nat) : Int) - 2 * a = b ∧
    FormOk rows a b (((lenN rows (4 * r + 1) (2 * (4 * r + 1) + 1) : Nat) : Int) - a * (2 * ((4 * r + 1 : Nat) : Int) + 1) - b * ((4 * r + 1 : Nat) : Int)) := by
  obtain ⟨C, X, Y, h⟩ := count_form rows hf
  rw [hr] at h
  have h0 : lenN rows (4 * r + 1) (2 * (4 * r + 1) + 1) = _ := h (2 * r) (2 * r + 1) _ _ (by omega) (by omega) (gcd_k1 2 _)
  have h1 : lenN rows (4 * r + 1) (3 * (4 * r + 1) + 1) = _ := h (2 * r) (6 * r + 2) _ _ (by omega) (by omega) (gcd_k1 3 _)
  have h2 : lenN rows (4 * r + 1 + 1) (2 * (4 * r + 1) + 3) = _ := h (2 * r + 1) (2 * r + 2) _ _ (by omega) (by omega) (by
    have := gcd_k1 2 (4 * r + 1 + 1)
    rw [show 2 * (4 * r + 1) + 3 = 2 * (4 * r + 1 + 1) + 1 by omega]
    exact this)
  rw [h0, h1, h2]
  refine ⟨(Y : Int), (X : Int) - (Y : Int), ?_, ?_, fun w m hw hm hg => ?_⟩
  · simp only [Int.natCast_add, Int.natCast_mul]
    grind
  · simp only [Int.natCast_add, Int.natCast_mul]
    grind
  · obtain ⟨u, rfl⟩ : ∃ u, w = 2 * r + 1 + u := ⟨w - (2 * r + 1), by rw [hr] at hw; omega⟩
    obtain ⟨v, rfl⟩ : ∃ v, m = 2 * r + 1 + u + (2 * r + 1) + v := ⟨m - (2 * r + 1 + u + (2 * r + 1)), by rw [hr] at hm; omega⟩
    have h3 : lenN rows (2 * r + 1 + u) (2 * r + 1 + u + (2 * r + 1) + v) = _ := h u v _ _ rfl rfl hg
    rw [h3]
    simp only [Int.natCast_add, Int.natCast_mul, Int.add_mul, Int.mul_add, Int.sub_mul, Nat.add_mul, Nat.mul_assoc]
    have e1 : (Y : Int) * (r : Int) = (r : Int) * (Y : Int) := Int.mul_comm _ _
    have e2 : (X : Int) * (r : Int) = (r : Int) * (X : Int) := Int.mul_comm _ _
    have e3 : (Y : Int) * (u : Int) = (u : Int) * (Y : Int) := Int.mul_comm _ _
    have e4 : (X : Int) * (u : Int) = (u : Int) * (X : Int) := Int.mul_comm _ _
    have e5 : (Y : Int) * (v : Int) = (v : Int) * (Y : Int) := Int.mul_comm _ _
    grind
end WF

set_option Elab.async false
set_option linter.all false
set_option maxRecDepth 100000
set_option maxHeartbeats 2000000
/-! WDict: comprehensions whose elements are made, over anything; dicts whose keys are days -/
namespace WF
open PySem L2 Evl
/-! ### comprehensions, once for all that is walked -/
def Sel (f : Nat → Bool) (R : Nat → V → Hp → Prop) (n : Nat) (ys : List V) (H : Hp) : Prop := ys.length = ((List.range n).filter f).length ∧ ∀ (k i : Nat) (y : V), ((List.range n).filter f)[k]? = some i → ys[k]? = some y → R i y H
theorem sel_yes {f : Nat → Bool} {R : Nat → V → Hp → Prop} {n : Nat} {ys : List V} {H H' : Hp} {y : V} (hR : ∀ i y H1 H2, KeepN H1 H2 → R i y H1 → R i y H2) (h : Sel f R n ys H) (hf : f n = true) (e : KeepN H H') (hy : R n y H') : Sel f R (n + 1) (ys ++ [y]) H' := by
  have hr : (List.range (n + 1)).filter f = (List.range n).filter f ++ [n] := by
    rw [List.range_succ, List.filter_append, List.filter_cons, if_pos hf]
    rfl
  refine ⟨by rw [hr, List.length_append, List.length_append, h.1]; rfl, fun k i z hk hz => ?_⟩
  rw [hr] at hk
  rcases Nat.lt_or_ge k ys.length with hlt | hge
  · rw [List.getElem?_append_left (by rw [← h.1]; exact hlt)] at hk
    rw [List.getElem?_append_left hlt] at hz
    exact hR i z _ _ e (h.2 k i z hk hz)
  · rw [List.getElem?_append_right (by rw [← h.1]; exact hge)] at hk
    rw [List.getElem?_append_right hge] at hz
    rw [← h.1] at hk
    have h0 : k - ys.length = 0 := by
      rcases Nat.eq_zero_or_pos (k - ys.length) with q | q
      · exact q
      · rw [List.getElem?_eq_none (by simp; omega)] at hz
        cases hz
    rw [h0] at hk hz
    cases hk
    cases hz
    exact hy
theorem sel_no {f : Nat → Bool} {R : Nat → V → Hp → Prop} {n : Nat} {ys : List V} {H H' : Hp} (hR : ∀ i y H1 H2, KeepN H1 H2 → R i y H1 → R i y H2) (h : Sel f R n ys H) (hf : f n = false) (e : KeepN H H') : Sel f R (n + 1) ys H' := by
  have hr : (List.range (n + 1)).filter f = (List.range n).filter f := by
    rw [List.range_succ, List.filter_append, List.filter_cons, if_neg (by rw [hf]; exact Bool.false_ne_true)]
    exact List.append_nil _
  unfold Sel
  rw [hr]
  exact ⟨h.1, fun k i z hk hz => hR i z _ _ e (h.2 k i z hk hz)⟩
theorem lcX {J : It} {n : Nat} {G : Hp → Prop} {X : Nat → V} (wk : Walk J n G (YFn X)) {σ : L2.St} {H1 : Hp} {j : Nat} {vs : List Nat} {tt : TT} {te : TE} (f : Nat → Bool) (R : Nat → V → Hp → Prop) (hR : ∀ i y H1 H2, KeepN H1 H2 → R i y H1 → R i y H2) (hG : ∀ H', Ex H1 H' → G H') (hn : n ≤ 40000)
    (hw : ∀ x, wipe ((wipe σ vs).set j (some x)) vs = wipe σ vs) (ht : ∀ (i : Nat) H2, Ex H1 H2 → i < n → EvT tt ((wipe σ vs).set j (some (X i))) H2 (f i))
    (he : ∀ (i : Nat) H2, Ex H1 H2 → i < n → f i = true → ∀ Q : VK, (∀ y H3, Ex H2 H3 → R i y H3 → Q y H3) → te ((wipe σ vs).set j (some (X i))) H2 Q) (Q : VK) (q : ∀ Dl H', H1 Dl = none → Ex H1 H' → (∃ ys, H' Dl = some (.lst ys) ∧ Sel f R n ys H') → Q (.ref Dl) H') :
    ∀ Dl, H1 Dl = none → ∃ W : Nat → Nat → Hp → Prop, (∃ m, W 0 m (upd H1 Dl (.lst []))) ∧ ∀ i m H, W i m H →
      (J.stop i H ∧ Q (.ref Dl) H) ∨ (J.go i H ∧ ∃ Nx : Hp → Prop, (∀ H', Nx H' → ∃ m', m' < m ∧ W (i + 1) m' H') ∧ ∀ x H', J.yld i H x H' → gName j x (wipe σ vs) H' fun σ2 H2 => wipe σ2 vs = wipe σ vs ∧ tt σ2 H2 fun b H3 =>
        if b = true then te σ2 H3 fun y H4 => ∃ acc, H4 Dl = some (.lst acc) ∧ acc.length < sizeLine ∧ Nx (upd H4 Dl (.lst (acc ++ [y]))) else Nx H3) := by
  intro Dl hD
  refine lc_it wk (fun i H' => Ex H1 H' ∧ ∃ ys, H' Dl = some (.lst ys) ∧ Sel f R i ys H') ⟨Ex.new hD, [], upd_same, rfl, fun k i y hk hy => by simp at hk⟩ (fun i H' _ p => hG H' p.1) (fun i x H' H2 hi p y => ?_) fun H' p => q Dl H' hD p.1 p.2
  obtain ⟨rfl, rfl⟩ := y
  obtain ⟨p1, ys, p2, p3⟩ := p
  refine ⟨hw _, ht i _ p1 hi _ (Ex.refl _) _ fun H3 e3 => ?_⟩
  cases hf : f i with
  | true =>
    refine he i H3 (p1.trans e3) hi hf _ fun y H4 e4 hy => ⟨ys, e4 _ _ (e3 _ _ p2), ?_, Ex.mut ((p1.trans e3).trans e4) hD, ys ++ [y], upd_same, ?_⟩
    · have h1 := List.length_filter_le f (List.range i)
      rw [List.length_range] at h1
      have h2 := p3.1
      exact Evl.sz_lt (by omega)
    · have kn : KeepN H4 (upd H4 Dl (.lst (ys ++ [y]))) := (KeepN.refl H4).lst (e4 _ _ (e3 _ _ p2))
      exact sel_yes hR p3 hf ((KeepN.of (e3.trans e4)).trans kn) (hR _ _ _ _ kn hy)
  | false => exact ⟨p1.trans e3, ys, e3 _ _ p2, sel_no hR p3 hf (KeepN.of e3)⟩
/-! ### pairs of a day and True -/
def PairsL (K : PySem.W.Frag) (H : Hp) (ys : List V) (es : List Int) : Prop := ∃ ps : List Addr, ys = ps.map V.ref ∧ Paired (fun p (e : Int) => SqT K H p [.int e, .bl true]) ps es
theorem pairs_of {K : PySem.W.Frag} {H : Hp} : ∀ {ys : List V} {es : List Int}, ys.length = es.length → (∀ (k : Nat) y e, ys[k]? = some y → es[k]? = some e → ∃ p, y = .ref p ∧ SqT K H p [.int e, .bl true]) → PairsL K H ys es
  | [], [], _, _ => ⟨[], rfl, .nil⟩
  | y :: ys, e :: es, hl, h => by
    obtain ⟨p, rfl, hp⟩ := h 0 y e rfl rfl
    obtain ⟨ps, rfl, hps⟩ := pairs_of (ys := ys) (es := es) (by simpa using hl) fun k z c hz hc => h (k + 1) z c hz hc
    exact ⟨p :: ps, rfl, .cons hp hps⟩
  | [], _ :: _, hl, _ => by simp at hl
  | _ :: _, [], hl, _ => by simp at hl
theorem pairs_sel {K : PySem.W.Frag} {H : Hp} {f : Nat → Bool} {n : Nat} {ys : List V} {e : Nat → Int} (h : Sel f (fun i y H => ∃ p, y = .ref p ∧ SqT K H p [.int (e i), .bl true]) n ys H) : PairsL K H ys (((List.range n).filter f).map e) := by
  refine pairs_of (by rw [List.length_map]; exact h.1) fun k y c hy hc => ?_
  rw [List.getElem?_map] at hc
  cases hi : ((List.range n).filter f)[k]? with
  | none => rw [hi] at hc; cases hc
  | some i =>
    rw [hi] at hc
    cases hc
    exact h.2 k i y hi hy
/-- the dict of days ds, in their order -/
def dk (ds : List Nat) : List (Key × V) := ds.map fun (d : Nat) => ((Sum.inl (d : Int) : Key), V.bl true)
def addD (acc : List Nat) (d : Nat) : List Nat := if d ∈ acc then acc else acc ++ [d]
theorem putK_dk (acc : List Nat) (d : Nat) : putK (dk acc) (Sum.inl (d : Int)) (.bl true) = dk (addD acc d) := by
  have hany : ((dk acc).any fun kv => decide (kv.1 = (Sum.inl (d : Int) : Key))) = decide (d ∈ acc) := by
    rw [Bool.eq_iff_iff, List.any_eq_true, decide_eq_true_iff]
    constructor
    · rintro ⟨kv, h1, h2⟩
      have h2 := of_decide_eq_true h2
      unfold dk at h1
      rw [List.mem_map] at h1
      obtain ⟨c, hc, rfl⟩ := h1
      have : (c : Int) = (d : Int) := Sum.inl.inj h2
      have : c = d := by omega
      exact this ▸ hc
    · intro h
      exact ⟨(Sum.inl (d : Int), .bl true), List.mem_map.mpr ⟨d, h, rfl⟩, decide_eq_true rfl⟩
  unfold putK addD
  rw [hany]
  by_cases h : d ∈ acc
  · rw [decide_eq_true h, if_pos rfl, if_pos h]
    unfold dk
    rw [List.map_map]
    apply List.map_congr_left
    intro c _
    show (if (Sum.inl (c : Int) : Key) = Sum.inl (d : Int) then ((Sum.inl (c : Int) : Key), V.bl true) else (Sum.inl (c : Int), V.bl true)) = _
    split <;> rfl
  · rw [decide_eq_false h, if_neg Bool.false_ne_true, if_neg h]
    unfold dk
    rw [List.map_append]
    rfl
theorem addD_mem {acc : List Nat} {d x : Nat} : x ∈ addD acc d ↔ x ∈ acc ∨ x = d := by
  unfold addD
  by_cases h : d ∈ acc
  · rw [if_pos h]
    constructor
    · exact .inl
    · rintro (h' | rfl)
      · exact h'
      · exact h
  · rw [if_neg h]; simp
theorem addD_nodup {acc : List Nat} {d : Nat} (h : acc.Nodup) : (addD acc d).Nodup := by
  unfold addD
  by_cases hd : d ∈ acc
  · rw [if_pos hd]; exact h
  · rw [if_neg hd]
    refine List.nodup_append.mpr ⟨h, by simp, fun a ha b hb => ?_⟩
    simp at hb
    subst hb
    exact fun e => hd (e ▸ ha)
theorem merge_dk : ∀ (es : List Nat) (acc : List Nat), mergeK (dk acc) (dk es) = dk (es.foldl addD acc)
  | [], _ => rfl
  | e :: es, acc => by
    show mergeK (putK (dk acc) (Sum.inl (e : Int)) (.bl true)) (dk es) = _
    rw [putK_dk, merge_dk es]
    rfl
theorem fold_mem : ∀ (es acc : List Nat) (x : Nat), x ∈ es.foldl addD acc ↔ x ∈ acc ∨ x ∈ es
  | [], _, _ => by simp
  | e :: es, acc, x => by
    rw [List.foldl_cons, fold_mem es, addD_mem, List.mem_cons]
    exact or_assoc
theorem fold_nodup : ∀ (es acc : List Nat), acc.Nodup → (es.foldl addD acc).Nodup
  | [], _, h => h
  | e :: es, acc, h => fold_nodup es _ (addD_nodup h)
/-- the days of a round by p, as a dict's keys -/
structure DaysOk (N : Nat) (p : Int → Bool) (ds : List Nat) : Prop where
  nd : ds.Nodup
  mem : ∀ d : Nat, d ∈ ds ↔ d < N ∧ p (d : Int) = true
theorem DaysOk.len {N : Nat} {p : Int → Bool} {ds : List Nat} (h : DaysOk N p ds) : ds.length = (daysN N p).length :=
  nodup_len h.nd (daysN_nodup N p) fun x => by rw [h.mem, daysN_mem]
theorem DaysOk.le {N : Nat} {p : Int → Bool} {ds : List Nat} (h : DaysOk N p ds) : ds.length ≤ N := by
  rw [h.len]
  exact daysN_len N p
theorem dk_get {ds : List Nat} {d : Nat} : (valV (dk ds) (Sum.inl (d : Int))).isSome = decide (d ∈ ds) := by
  rw [← valV_any, Bool.eq_iff_iff, List.any_eq_true, decide_eq_true_iff]
  constructor
  · rintro ⟨kv, h1, h2⟩
    have h2 := of_decide_eq_true h2
    unfold dk at h1
    rw [List.mem_map] at h1
    obtain ⟨c, hc, rfl⟩ := h1
    have : (c : Int) = (d : Int) := Sum.inl.inj h2
    have : c = d := by omega
    exact this ▸ hc
  · intro h
    exact ⟨(Sum.inl (d : Int), .bl true), List.mem_map.mpr ⟨d, h, rfl⟩, decide_eq_true rfl⟩
section
variable {K : PySem.W.Frag} {σ : L2.St} {H H' : Hp} {ta tb tc te tv : TE} {x y z v : V} {r r' : R2} {t u : TT} {D : Ends} {tz : TS}
/-- dict(a new list of such pairs) -/
theorem er_dict {es : List Nat} (h : EvR ta σ H fun p H2 => ∃ ys, H2 p = some (.lst ys) ∧ PairsL K H2 ys (es.map fun (d : Nat) => (d : Int))) :
    EvR (tCB (fun xs H Q => ∃ (a : Addr) (ps : List Addr) (kvs : List (Key × V)), xs = [.ref a] ∧ SqL K H a (ps.map V.ref) ∧ Paired (fun p kv => SqT K H p [kV kv.1, kv.2]) ps kvs ∧ ∀ p, H p = none → Q (.ref p) (upd H p (.dK (mergeK [] kvs)))) (tCons ta tNil)) σ H
      fun p H2 => H2 p = some (.dK (dk (es.foldl addD []))) := fun H1 e Q q =>
  h H1 e _ fun p H2 hp e2 ⟨ys, h2, ps, hy, hps⟩ => by
    subst hy
    have hpk : Paired (fun p (kv : Key × V) => SqT K H2 p [kV kv.1, kv.2]) ps (dk es) := by
      have : ∀ {ps : List Addr} {es : List Nat}, Paired (fun p (e : Int) => SqT K H2 p [.int e, .bl true]) ps (es.map fun (d : Nat) => (d : Int)) → Paired (fun p (kv : Key × V) => SqT K H2 p [kV kv.1, kv.2]) ps (dk es) := by
        intro ps
        induction ps with
        | nil =>
          intro es h
          cases es with
          | nil => exact .nil
          | cons a es => cases h
        | cons p ps ih =>
          intro es h
          cases es with
          | nil => cases h
          | cons a es =>
            cases h with
            | cons h1 h2 => exact .cons h1 (ih h2)
      exact this hps
    refine ⟨p, ps, dk es, rfl, sq_of h2, hpk, fun l hl => q l _ (fresh_back e2 hl) (e2.trans (Ex.new hl)) ?_⟩
    have := merge_dk es []
    rw [show dk [] = [] from rfl] at this
    rw [this]
    exact upd_same
theorem tup_V {Q : VK} (ha : Ev ta σ H x) (k : ∀ t H2, Ex H H2 → H2 t = some (.tup [x, .bl true]) → Q (.ref t) H2) : tTup (tCons ta (tCons (tC (.bl true)) tNil)) σ H Q :=
  ha H (Ex.refl H) _ fun H1 e1 => ⟨by show 2 ≤ sizeLine; decide, fun t ht => k t _ (e1.trans (Ex.new ht)) upd_same⟩
theorem pair_kn (e : Int) (i : Nat) (y : V) (H1 H2 : Hp) (kn : KeepN H1 H2) (h : ∃ p, y = .ref p ∧ SqT K H1 p [.int e, .bl true]) : ∃ p, y = .ref p ∧ SqT K H2 p [.int e, .bl true] := by
  obtain ⟨p, h1, h2⟩ := h
  exact ⟨p, h1, sqt_kn kn h2⟩
/-- [(e, True) for x in range(n)] -/
theorem er_pairsR {tA : TA} {j : Nat} {vs : List Nat} {n : Int} (e : Nat → Int) (h : EvA tA σ H [.int n]) (hn : 0 ≤ n ∧ n ≤ 40000) (hw : ∀ x, wipe ((wipe σ vs).set j (some x)) vs = wipe σ vs)
    (he : ∀ (i : Nat) H1, Ex H H1 → (i : Int) < n → Ev te ((wipe σ vs).set j (some (.int (0 + (i : Int))))) H1 (.int (e i))) :
    EvR (tLc (iRng1 tA) (gName j) tYes (tTup (tCons te (tCons (tC (.bl true)) tNil))) vs) σ H fun p H2 => ∃ ys, H2 p = some (.lst ys) ∧ PairsL K H2 ys ((List.range n.toNat).map e) := fun H0 ee Q q => h H0 ee _ fun H1 e1 => ⟨n, rfl, by omega, by omega,
  lcX (walk_range (lo := 0) (n := n.toNat)) (fun _ => true) (fun i y H => ∃ p, y = .ref p ∧ SqT K H p [.int (e i), .bl true]) (fun i y H1 H2 => pair_kn (e i) i y H1 H2) (fun _ _ => trivial) (by omega) hw (fun i H2 e2 hi => et_yes) (fun i H2 e2 hi _ Q q => tup_V (he i H2 ((ee.trans e1).trans e2) (by omega)) fun t H3 e3 ht => q _ H3 e3 ⟨t, rfl, st_of ht⟩) Q fun Dl H' hD e' ⟨ys, h1, h2⟩ => q Dl H' (fresh_back e1 hD) (e1.trans e') ⟨ys, h1, by
    have := pairs_sel h2
    rwa [List.filter_eq_self.mpr (fun _ _ => rfl)] at this⟩⟩
/-- [(e, True) for x in d if t], d a dict of days that stands locked at a -/
theorem er_pairsK {tl : TE} {a : Addr} {od : Obj} {ds : List Nat} {j : Nat} {vs : List Nat} (f : Nat → Bool) (e : Nat → Int) (h : Ev tl σ H (.ref a)) (hd : H a = some (.frz od (.dK (dk ds)))) (hz : ds.length ≤ 40000) (hw : ∀ x, wipe ((wipe σ vs).set j (some x)) vs = wipe σ vs)
    (ht : ∀ (i : Nat) H1, Ex H H1 → i < ds.length → EvT t ((wipe σ vs).set j (some (.int ((ds.getD i 0 : Nat) : Int)))) H1 (f i))
    (he : ∀ (i : Nat) H1, Ex H H1 → i < ds.length → f i = true → Ev te ((wipe σ vs).set j (some (.int ((ds.getD i 0 : Nat) : Int)))) H1 (.int (e i))) :
    EvR (tLc (iKeys tl) (gName j) t (tTup (tCons te (tCons (tC (.bl true)) tNil))) vs) σ H fun p H2 => ∃ ys, H2 p = some (.lst ys) ∧ PairsL K H2 ys (((List.range ds.length).filter f).map e) := fun H0 ee Q q => h H0 ee _ fun H1 e1 => ⟨a, od, rfl, .inl ⟨dk ds, (ee.trans e1) _ _ hd, by
  have wk : Walk (Itk a od (dk ds)) (dk ds).length (fun H => H a = some (.frz od (.dK (dk ds)))) (YFn fun i => .int ((ds.getD i 0 : Nat) : Int)) := (walk_keys (d := a) (o := od) (kvs := dk ds)).mono (fun _ h => h) fun i H x H' hi _ y => by
    obtain ⟨h1, k, v, hk, hx⟩ := y
    refine ⟨h1, ?_⟩
    show x = V.int ((ds.getD i 0 : Nat) : Int)
    unfold dk at hk
    rw [List.getElem?_map] at hk
    rw [List.getD_eq_getElem?_getD]
    cases hi : ds[i]? with
    | none => rw [hi] at hk; cases hk
    | some d =>
      rw [hi] at hk
      cases hk
      exact hx
  have hl : (dk ds).length = ds.length := List.length_map _
  rw [hl] at wk
  refine lcX wk f (fun i y H => ∃ p, y = .ref p ∧ SqT K H p [.int (e i), .bl true]) (fun i y H1 H2 => pair_kn (e i) i y H1 H2) (fun H' e' => ((ee.trans e1).trans e') _ _ hd) hz hw (fun i H2 e2 hi => ht i H2 ((ee.trans e1).trans e2) hi) (fun i H2 e2 hi hf Q q => tup_V (he i H2 ((ee.trans e1).trans e2) hi hf) fun t H3 e3 ht => q _ H3 e3 ⟨t, rfl, st_of ht⟩) Q fun Dl H' hD e' ⟨ys, h1, h2⟩ => q Dl H' (fresh_back e1 hD) (e1.trans e') ⟨ys, h1, pairs_sel h2⟩⟩⟩
/-- a new thing made while the object at d is walked -/
theorem ex_lock {H1 : Hp} {d : Addr} {u : HO} {od : Obj} (e : Ex H H1) : Ex (upd H d (.frz od u)) (upd H1 d (.frz od u)) := fun b o h => by
  by_cases hb : b = d
  · subst hb
    rw [upd_same] at h ⊢
    exact h
  · rw [upd_ne hb] at h ⊢
    exact e _ _ h
theorem ex_unlock {H1 H2 : Hp} {d : Addr} {u : HO} {od : Obj} (hd : H1 d = some u) (e : Ex (upd H1 d (.frz od u)) H2) : Ex H1 (upd H2 d u) := fun b o h => by
  by_cases hb : b = d
  · subst hb
    rw [upd_same, ← h, hd]
  · rw [upd_ne hb]
    refine e _ _ ?_
    rw [upd_ne hb]
    exact h
theorem er_lock {d : Addr} {u : HO} {R R' : Addr → Hp → Prop} (hd : H d = some u) (mu : Mut (some u)) (h : ∀ od, EvR te σ (upd H d (.frz od u)) R) (hR : ∀ od p H2, p ≠ d → H2 d = some (.frz od u) → R p H2 → R' p (upd H2 d u)) : EvR (tLockE te) σ H R' := fun H1 e Q q =>
  ⟨d, u, e _ _ hd, mu, fun od => h od _ (ex_lock e) _ fun p H2 hp e2 hr => by
    have hpd : p ≠ d := fun z => by
      rw [z, upd_same] at hp
      cases hp
    refine ⟨e2 _ _ upd_same, q p _ ?_ (ex_unlock (e _ _ hd) e2) (hR od p H2 hpd (e2 _ _ upd_same) hr)⟩
    rw [upd_ne hpd] at hp
    exact hp⟩
theorem pairs_unlock {d : Addr} {u : HO} {od : Obj} {H2 : Hp} (hu : ∀ xs, u ≠ .tup xs) (h : H2 d = some (.frz od u)) {ys : List V} {es : List Int} (hp : PairsL K H2 ys es) : PairsL K (upd H2 d u) ys es := by
  obtain ⟨ps, h1, h2⟩ := hp
  refine ⟨ps, h1, Paired.mapP h2 fun p e hq => ?_⟩
  rcases hq with (hq | ⟨o, hq⟩) | hq
  · refine .inl (.inl ?_)
    rw [upd_ne (ne_of hq h (by intro z; cases z))]
    exact hq
  · refine .inl (.inr ⟨o, ?_⟩)
    rw [upd_ne (ne_of hq h (by intro z; injection z with z1 z2; exact hu _ z2.symm))]
    exact hq
  · exact .inr hq
/-- [(e, True) for x in a new list of days] -/
theorem er_pairsL {tl : TE} {ds : List Nat} {j : Nat} {vs : List Nat} (e : Nat → Int) (h : EvL tl σ H (ds.map fun (d : Nat) => V.int (d : Int))) (hz : ds.length ≤ 40000) (hw : ∀ x, wipe ((wipe σ vs).set j (some x)) vs = wipe σ vs)
    (he : ∀ (i : Nat) H1, Ex H H1 → i < ds.length → Ev te ((wipe σ vs).set j (some (.int ((ds.getD i 0 : Nat) : Int)))) H1 (.int (e i))) :
    EvR (tLc (iList K tl) (gName j) tYes (tTup (tCons te (tCons (tC (.bl true)) tNil))) vs) σ H fun p H2 => ∃ ys, H2 p = some (.lst ys) ∧ PairsL K H2 ys ((List.range ds.length).map e) := fun H0 ee Q q => h H0 ee _ fun a H1 ha e1 h1 => ⟨a, rfl, ⟨_, sq_of h1⟩, by
  have wk : Walk (Itl K a) (ds.map fun (d : Nat) => V.int (d : Int)).length (fun H => SqL K H a (ds.map fun (d : Nat) => V.int (d : Int))) (YFn fun i => .int ((ds.getD i 0 : Nat) : Int)) := (walk_list (K := K) (a := a) (xs := ds.map fun (d : Nat) => V.int (d : Int))).mono (fun _ h => h) fun i H x H' hi _ y => by
    obtain ⟨h1, hk⟩ := y
    refine ⟨h1, ?_⟩
    show x = V.int ((ds.getD i 0 : Nat) : Int)
    rw [List.getElem?_map] at hk
    rw [List.getD_eq_getElem?_getD]
    cases hi : ds[i]? with
    | none => rw [hi] at hk; cases hk
    | some d =>
      rw [hi] at hk
      exact (Option.some.inj hk).symm
  rw [List.length_map] at wk
  refine lcX wk (fun _ => true) (fun i y H => ∃ p, y = .ref p ∧ SqT K H p [.int (e i), .bl true]) (fun i y H1 H2 => pair_kn (e i) i y H1 H2) (fun H' e' => sq_of (e' _ _ h1)) hz hw (fun i H2 e2 hi => et_yes) (fun i H2 e2 hi _ Q q => tup_V (he i H2 ((ee.trans e1).trans e2) hi) fun t H3 e3 ht => q _ H3 e3 ⟨t, rfl, st_of ht⟩) Q fun Dl H' hD e' ⟨ys, h1, h2⟩ => q Dl H' (fresh_back e1 hD) (e1.trans e') ⟨ys, h1, by
    have := pairs_sel h2
    rwa [List.filter_eq_self.mpr (fun _ _ => rfl)] at this⟩⟩
theorem el_listD {a : Addr} {ds : List Nat} (h : Ev ta σ H (.ref a)) (hd : H a = some (.dK (dk ds))) : EvL (tCB rListD (tCons ta tNil)) σ H (ds.map fun (d : Nat) => V.int (d : Int)) := fun H1 e Q q => h H1 e _ fun H2 e2 => ⟨a, dk ds, rfl, e2 _ _ (e _ _ hd), fun l hl => q l _ (fresh_back e2 hl) (e2.trans (Ex.new hl)) (by
  unfold dk
  rw [List.map_map]
  exact upd_same)⟩
theorem ev_din {a : Addr} {ds : List Nat} {d : Nat} (h : Ev ta σ H (.int (d : Int))) (h2 : Ev tb σ H (.ref a)) (hd : H a = some (.dK (dk ds))) : Ev (tDIn ta tb) σ H (.bl (decide (d ∈ ds))) := fun H1 e Q q =>
  h H1 e _ fun H2 e2 => h2 H2 (e.trans e2) _ fun H3 e3 => ⟨a, _, rfl, DGet.k (k := Sum.inl (d : Int)) (((e.trans e2).trans e3) _ _ hd), by rw [dk_get]; exact q H3 (e2.trans e3)⟩
theorem ev_dnotin {a : Addr} {ds : List Nat} {d : Nat} (h : Ev ta σ H (.int (d : Int))) (h2 : Ev tb σ H (.ref a)) (hd : H a = some (.dK (dk ds))) : Ev (tDNotIn ta tb) σ H (.bl (!decide (d ∈ ds))) := fun H1 e Q q =>
  h H1 e _ fun H2 e2 => h2 H2 (e.trans e2) _ fun H3 e3 => ⟨a, _, rfl, DGet.k (k := Sum.inl (d : Int)) (((e.trans e2).trans e3) _ _ hd), by rw [dk_get]; exact q H3 (e2.trans e3)⟩
end
section
variable {K : PySem.W.Frag} {σ : L2.St} {H H' : Hp} {ta tb tc te tv td : TE} {x y z v : V} {r r' : R2} {t u : TT} {D : Ends} {tz tu : TS}
theorem sqt_other {a d : Addr} {o o' : HO} {xs : List V} (hd : H d = some o) (h1 : ∀ xs, o ≠ .tup xs) (h2 : ∀ ob xs, o ≠ .frz ob (.tup xs)) (h : SqT K H a xs) : SqT K (upd H d o') a xs := by
  rcases h with (h | ⟨ob, h⟩) | h
  · refine .inl (.inl ?_)
    rw [upd_ne (ne_of h hd (fun z => h1 _ z.symm))]
    exact h
  · refine .inl (.inr ⟨ob, ?_⟩)
    rw [upd_ne (ne_of h hd (fun z => h2 _ _ z.symm))]
    exact h
  · exact .inr h
theorem q_asgD {i : Nat} (k : ∀ p, H p = none → tz D (σ.set i (some (.ref p))) (upd H p (.dK (dk [])))) : tSeq (tAsg tDNewK (gName i)) tz D σ H := fun p hp => k p hp
theorem s_dput {a : Addr} {ds : List Nat} {d : Nat} (hd : H a = some (.dK (dk ds))) (hv : Ev tv σ H (.bl true)) (ho : Ev td σ H (.ref a)) (hk : Ev ta σ H (.int (d : Int))) (hz : ds.length < 100000) (k : ∀ H1, Ex H H1 → D.nx σ (upd H1 a (.dK (dk (addD ds d))))) : sDPut td ta tv D σ H :=
  hv H (Ex.refl H) _ fun H1 e1 => ho H1 e1 _ fun H2 e2 => hk H2 (e1.trans e2) _ fun H3 e3 => ⟨a, _, rfl, DPut.k (k := Sum.inl (d : Int)) (((e1.trans e2).trans e3) _ _ hd) (by
    unfold dk
    rw [List.length_map]
    exact Evl.sz_lt hz), by
    rw [putK_dk]
    exact k H3 ((e1.trans e2).trans e3)⟩
theorem q_forR3 {tA : TA} {j : Nat} {lo hi c : Int} {n : Nat} (h : EvA tA σ H [.int lo, .int hi, .int c]) (hr : RgC lo hi c n) (Pv : Nat → L2.St → Hp → Prop) (h0 : ∀ H1, Ex H H1 → Pv 0 σ H1)
    (hs : ∀ (i : Nat) σ' H', i < n → Pv i σ' H' → tu { D with nx := Pv (i + 1), ct := Pv (i + 1), bk := tz D } (σ'.set j (some (.int (lo + (i : Int) * c)))) H') (hd : ∀ σ' H', Pv n σ' H' → tz D σ' H') : tSeq (tFor (iRng3 tA) (gName j) tu) tz D σ H :=
  h H (Ex.refl H) _ fun H1 e => ⟨lo, hi, c, n, rfl, hr, for_it (D := { D with nx := tz D }) (walk_rangeC (lo := lo) (c := c) (n := n)) Pv (h0 H1 e) (fun _ _ _ _ _ => trivial) (fun i x σ' H' H2 hi p y => by
    obtain ⟨rfl, rfl⟩ := y
    exact hs i σ' H2 hi p) hd⟩
end
/-! ### lands in a list -/
def LandL (K : PySem.W.Frag) (H : Hp) : List V → List (Nat × Nat) → Prop
  | [], [] => True
  | x :: xs, l :: ls => (∃ p, x = .ref p ∧ SqT K H p [.int (l.1 : Int), .int (l.2 : Int)]) ∧ LandL K H xs ls
  | _, _ => False
section
variable {K : PySem.W.Frag} {H H' : Hp}
theorem LandL.kn (e : KeepN H H') : ∀ {xs : List V} {ls : List (Nat × Nat)}, LandL K H xs ls → LandL K H' xs ls
  | [], [], _ => trivial
  | _ :: _, _ :: _, ⟨⟨p, h0, h1⟩, h2⟩ => ⟨⟨p, h0, sqt_kn e h1⟩, LandL.kn e h2⟩
  | [], _ :: _, h => h
  | _ :: _, [], h => h
theorem LandL.len : ∀ {xs : List V} {ls : List (Nat × Nat)}, LandL K H xs ls → xs.length = ls.length
  | [], [], _ => rfl
  | _ :: _, _ :: _, h => congrArg (· + 1) (LandL.len h.2)
  | [], _ :: _, h => h.elim
  | _ :: _, [], h => h.elim
theorem LandL.snoc : ∀ {xs : List V} {ls : List (Nat × Nat)} {p : Addr} {l : Nat × Nat}, LandL K H xs ls → SqT K H p [.int (l.1 : Int), .int (l.2 : Int)] → LandL K H (xs ++ [.ref p]) (ls ++ [l])
  | [], [], p, _, _, h => ⟨⟨p, rfl, h⟩, trivial⟩
  | _ :: _, _ :: _, _, _, h, g => ⟨h.1, LandL.snoc h.2 g⟩
  | [], _ :: _, _, _, h, _ => h.elim
  | _ :: _, [], _, _, h, _ => h.elim
theorem LandL.app : ∀ {xs ys : List V} {ls ms : List (Nat × Nat)}, LandL K H xs ls → LandL K H ys ms → LandL K H (xs ++ ys) (ls ++ ms)
  | [], _, [], _, _, h => h
  | _ :: _, _, _ :: _, _, h, g => ⟨h.1, LandL.app h.2 g⟩
  | [], _, _ :: _, _, h, _ => h.elim
  | _ :: _, _, [], _, h, _ => h.elim
theorem LandL.mem : ∀ {xs : List V} {ls : List (Nat × Nat)} {x : V}, LandL K H xs ls → x ∈ xs → ∃ l ∈ ls, ∃ p, x = .ref p ∧ SqT K H p [.int (l.1 : Int), .int (l.2 : Int)]
  | _ :: _, l :: _, x, h, hm => by
    rcases List.mem_cons.mp hm with rfl | hm
    · exact ⟨l, List.mem_cons_self, h.1⟩
    · obtain ⟨m, h1, h2⟩ := LandL.mem h.2 hm
      exact ⟨m, List.mem_cons_of_mem _ h1, h2⟩
  | [], [], _, _, hm => nomatch hm
  | [], _ :: _, _, h, _ => h.elim
  | _ :: _, [], _, h, _ => h.elim
end
/-- the law's row of lands, by w below a total, then by total -/
def innerL (t M n : Nat) : List (Nat × Nat) := (List.range n).flatMap fun j => if t - (2 + j) ≤ M ∧ Nat.gcd (t - (2 + j)) (2 + j) = 1 then [(2 + j, t - (2 + j))] else []
def landsL (W M n : Nat) : List (Nat × Nat) := (List.range n).flatMap fun i => innerL (5 + i) M (min W ((4 + i) / 2) - 1)
theorem innerL_succ (t M n : Nat) : innerL t M (n + 1) = innerL t M n ++ (if t - (2 + n) ≤ M ∧ Nat.gcd (t - (2 + n)) (2 + n) = 1 then [(2 + n, t - (2 + n))] else []) := by
  unfold innerL
  rw [List.range_succ, List.flatMap_append]
  simp
theorem landsL_succ (W M n : Nat) : landsL W M (n + 1) = landsL W M n ++ innerL (5 + n) M (min W ((4 + n) / 2) - 1) := by
  unfold landsL
  rw [List.range_succ, List.flatMap_append]
  simp
theorem innerL_len (t M : Nat) : ∀ n, (innerL t M n).length ≤ n
  | 0 => Nat.le_refl _
  | n + 1 => by
    rw [innerL_succ, List.length_append]
    have := innerL_len t M n
    split
    · show _ + 1 ≤ _; omega
    · show _ + 0 ≤ _; omega
theorem innerL_mem {t M n : Nat} {l : Nat × Nat} (h : l ∈ innerL t M n) : 2 ≤ l.1 ∧ l.1 < 2 + n ∧ l.2 = t - l.1 ∧ l.2 ≤ M ∧ Nat.gcd l.2 l.1 = 1 := by
  unfold innerL at h
  rw [List.mem_flatMap] at h
  obtain ⟨j, hj, h⟩ := h
  rw [List.mem_range] at hj
  split at h
  · rename_i hc
    rw [List.mem_singleton] at h
    subst h
    exact ⟨by show 2 ≤ 2 + j; omega, by show 2 + j < 2 + n; omega, rfl, hc.1, hc.2⟩
  · cases h
/-- every land of it is one: w within W, m within M -/
theorem landsL_mem {W M n : Nat} {l : Nat × Nat} (h : l ∈ landsL W M n) : 2 ≤ l.1 ∧ l.1 ≤ W ∧ l.1 < l.2 ∧ l.2 ≤ M ∧ Nat.gcd l.2 l.1 = 1 := by
  unfold landsL at h
  rw [List.mem_flatMap] at h
  obtain ⟨i, hi, h⟩ := h
  obtain ⟨h1, h2, h3, h4, h5⟩ := innerL_mem h
  exact ⟨h1, by omega, by omega, h4, h5⟩
theorem rgC_by {i n c : Nat} (hi : i < c) (hn : 0 < n) (hc : c < 100000) (hz : c * n ≤ 1000000) : RgC (i : Int) ((c * n : Nat) : Int) (c : Int) n := by
  have hle : c ≤ c * n := Nat.le_mul_of_pos_right c hn
  have e : Builtin.Range.rangeSize (i : Int) ((c * n : Nat) : Int) (c : Int) = n := by
    unfold Builtin.Range.rangeSize
    rw [if_pos (by omega), if_pos (by omega)]
    have h1 : ((c * n : Nat) : Int) - (i : Int) - 1 = ((c : Int) - 1 - (i : Int)) + (c : Int) * ((n : Int) - 1) := by
      rw [Int.mul_sub, Int.mul_one, Int.natCast_mul]
      omega
    rw [h1, Int.add_mul_ediv_left _ _ (by omega), Int.ediv_eq_zero_of_lt (by omega) (by omega)]
    omega
  refine ⟨by omega, by omega, ?_, e⟩
  unfold Builtin.Range.small
  rw [e]
  simp only [Builtin.Range.rangeFitsLong, Bool.and_eq_true, Bool.or_eq_true, decide_eq_true_eq, beq_iff_eq]
  rw [if_pos (by omega)]
  have hn2 : n ≤ c * n := Nat.le_mul_of_pos_left n (by omega)
  refine ⟨⟨⟨⟨by omega, by omega⟩, by omega⟩, by omega⟩, .inr (by rw [Bool.and_eq_true, decide_eq_true_iff, decide_eq_true_iff]; omega)⟩
end WF

set_option Elab.async false
set_option linter.all false
set_option maxRecDepth 100000
set_option maxHeartbeats 400000
/-! WLong: for i in range(a, b), however far a and b lie -/
namespace WF
open PySem L2 Evl PySem.Spec PyProof.Rows
theorem turn_long {P : Program} {w : World} {K : PySem.W.Frag} {tg : Expr} (it : Addr) (lo : Int) (n : Nat) : Turn P w K tg (Itr lo n) [it] it (fun i h => IsLongIter h it (lo + (i : Nat) * 1) ((n : Int) - (i : Nat)) 1) where
  mem := by simp
  obj := fun i h st b hb => by
    have e : b = it := by simpa using hb
    rw [e]
    exact ⟨_, st, fun v z => nomatch (show Data.fields _ = Data.cell v from z)⟩
  keep := fun i h h' st k => k it (by simp) _ st
  item := fun X hP hw hK hc i pins s σ H E I hf st hg => by
    cases hP
    cases hw
    cases hK
    obtain ⟨f0, f1, f2, f3, f4, f5⟩ := hf it (by simp)
    refine (Walks.longrange (prog := X.prog) (w := X.w) (I.ok.hd hc) it lo 1 n).item i s _ _ hg st fun v h' tk hv st' kk => ?_
    obtain ⟨t, rfl⟩ := hv
    have I1 : Inv X pins σ H { s with heap := h', toks := tk } := I.turned (fun b o hb e => kk b o (by simpa using hb) e) f0 f1 f3 f4 f5
    refine ⟨_, rfl, go_of (n := "longrange_iterator") (s := { s with heap := h', toks := tk }) st' rfl rfl (by decide) ⟨.int (lo + i), H, I1, ⟨t, by rw [Int.mul_one]⟩, ⟨rfl, rfl⟩, st', fun b hb => (hf b hb).1⟩⟩
  done := fun X hP hw hK hc i pins s σ H E I hf st hg => by
    cases hP
    cases hw
    cases hK
    obtain ⟨f0, f1, f2, f3, f4, f5⟩ := hf it (by simp)
    exact wpAny_pyNext_long_end (I.ok.hd hc) st (by have : n ≤ i := hg; omega) fun h' eb => ⟨rfl, I.turned (t' := s.toks) (fun b o hb e => eb b o hb e) f0 f1 f3 f4 f5⟩
  self := fun _ _ _ _ _ st h => wpAny_pyIter_longiter st h
section
variable {X : Cx} {tg : Expr}
theorem range_itA {pins : List (Addr × Obj)} {σ : L2.St} {H : Hp} {s : Shared} {R : It → Hp → Prop} {E : Value → Shared → Prop} {lo hi : Int} {t u v : Tok} {tk : Nat} (I : Inv X pins σ H s)
    (q : R (Itr lo (hi - lo).toNat) H) : wpAny (model X.prog X.w) X.A (pyIter (.ref s.heap.objs.size)) (PIE X pins σ tg R) E { s with heap := s.heap.push { cls := .type "range", data := .fields #[.int lo t, .int hi u, .int 1 v] }, toks := tk } := by
  have I1 : Inv X pins σ H { s with heap := s.heap.push { cls := .type "range", data := .fields #[.int lo t, .int hi u, .int 1 v] }, toks := tk } := I.kept fun b o e => Heap.get?_push_of_some _ e
  have e1 : lo + ((0 : Nat) : Int) * 1 = lo := by simp
  have e2 : (((hi - lo).toNat : Nat) : Int) - ((0 : Nat) : Int) = Builtin.Range.rangeSize lo hi 1 := by rw [rangeSize_one]; split <;> omega
  cases hs : Builtin.Range.small lo hi 1 with
  | true =>
    refine wpAny_pyIter_range (IsRange.new ..) hs ?_
    refine ⟨_, [(s.heap.push { cls := .type "range", data := .fields #[.int lo t, .int hi u, .int 1 v] }).objs.size], _, _, H, rfl, I1.kept (t' := tk) fun b o e => Heap.get?_push_of_some _ e, turn_range _ lo (hi - lo).toNat, ?_, fun b hb => ?_, q⟩
    · show IsRangeIter _ _ (lo + ((0 : Nat) : Int) * 1) ((((hi - lo).toNat : Nat) : Int) - ((0 : Nat) : Int)) 1
      rw [e1, e2]
      exact Heap.get?_push_size _ rfl
    · have eb : b = (s.heap.push { cls := .type "range", data := .fields #[.int lo t, .int hi u, .int 1 v] }).objs.size := by simpa using hb
      cases eb
      exact I1.fpOk (Nat.le_refl _) (I1.hok.fresh (Nat.le_refl _))
  | false =>
    refine wpAny_pyIter_longrange (IsRange.new ..) hs ?_
    refine ⟨_, [(s.heap.push { cls := .type "range", data := .fields #[.int lo t, .int hi u, .int 1 v] }).objs.size], _, _, H, rfl, I1.kept (t' := tk) fun b o e => Heap.get?_push_of_some _ e, turn_long _ lo (hi - lo).toNat, ?_, fun b hb => ?_, q⟩
    · show IsLongIter _ _ (lo + ((0 : Nat) : Int) * 1) ((((hi - lo).toNat : Nat) : Int) - ((0 : Nat) : Int)) 1
      rw [e1, e2]
      exact Heap.get?_push_size _ rfl
    · have eb : b = (s.heap.push { cls := .type "range", data := .fields #[.int lo t, .int hi u, .int 1 v] }).objs.size := by simpa using hb
      cases eb
      exact I1.fpOk (Nat.le_refl _) (I1.hok.fresh (Nat.le_refl _))
def iRngA (ta : TA) : TI := fun σ H R => ta σ H fun vs H1 => ∃ i j : Int, vs = [.int i, .int j] ∧ R (Itr i (j - i).toNat) H1
theorem pi_rangeA {a b : Expr} {ta : TA} {p pos : Pos} (hg : Gl X "range") (hm : X.mg "range" = none) (ha : PA X [a, b] ta) (hs : starEach [a, b] X.env = [(false, eval a X.env), (false, eval b X.env)] := by rfl) (hs2 : starEach [b] X.env = [(false, eval b X.env)] := by rfl) :
    PI X tg (.Call (.Name "range" p) [a, b] [] pos) (iRngA ta) := by
  refine ⟨fun pins s σ H R I w0 => ?_⟩
  refine Call_ (ld_blt I hg hm boot_range (PyProof.Rows.callWith_type1 (thn (ha.run pos pins s σ H _ I w0) fun us s1 ⟨vs, H1, I1, r1, w1⟩ => ?_) (by rw [hs, hs2]) (by rw [hs2]; rfl)))
  obtain ⟨i, j, hv, w2⟩ := w1
  subst hv
  cases r1 with
  | cons ra rest =>
    cases rest with
    | cons rb rest =>
      cases rest
      obtain ⟨t1, rfl⟩ := ra
      obtain ⟨t2, rfl⟩ := rb
      exact call_range_2 (range_itA I1 w2)
end
section
variable {K : PySem.W.Frag} {σ : L2.St} {H H' : Hp} {D : Ends} {tu tz : TS}
theorem s_forRA {ta : TA} {j : Nat} {lo n : Int} (h : EvA ta σ H [.int lo, .int n]) (Pv : Nat → L2.St → Hp → Prop) (h0 : ∀ H1, Ex H H1 → Pv 0 σ H1)
    (hs : ∀ (i : Nat) σ' H', lo + (i : Int) < n → Pv i σ' H' → tu { D with nx := Pv (i + 1), ct := Pv (i + 1), bk := D.nx } (σ'.set j (some (.int (lo + (i : Int))))) H') (hd : ∀ σ' H', Pv (n - lo).toNat σ' H' → D.nx σ' H') : tFor (iRngA ta) (gName j) tu D σ H :=
  h H (Ex.refl H) _ fun H1 e => ⟨lo, n, rfl, for_it (walk_range (lo := lo) (n := (n - lo).toNat)) Pv (h0 H1 e) (fun _ _ _ _ _ => trivial) (fun i x σ' H' H2 hi p y => by
    obtain ⟨rfl, rfl⟩ := y
    exact hs i σ' H2 (by omega) p) hd⟩
theorem q_forRA {ta : TA} {j : Nat} {lo n : Int} (h : EvA ta σ H [.int lo, .int n]) (Pv : Nat → L2.St → Hp → Prop) (h0 : ∀ H1, Ex H H1 → Pv 0 σ H1)
    (hs : ∀ (i : Nat) σ' H', lo + (i : Int) < n → Pv i σ' H' → tu { D with nx := Pv (i + 1), ct := Pv (i + 1), bk := tz D } (σ'.set j (some (.int (lo + (i : Int))))) H') (hd : ∀ σ' H', Pv (n - lo).toNat σ' H' → tz D σ' H') : tSeq (tFor (iRngA ta) (gName j) tu) tz D σ H :=
  s_forRA (D := { D with nx := tz D }) h Pv h0 hs hd
end
end WF

set_option Elab.async false
set_option linter.all false
set_option maxRecDepth 100000
set_option maxHeartbeats 400000
/-! WTry: calls within a try; lists of what one may not land upon -/
namespace WF
open PySem L2 Evl
theorem takes0 {X : Cx} : Takes X (fun _ _ _ _ => False) := fun _ _ h => by
  obtain ⟨_, _, _, _, _, _, _, _, _, _, _, _, _, _, _, _, no⟩ := h
  exact no.elim
section
variable {X : Cx} {K : PySem.W.Frag} {CX : CXT} {x : Str} {k : Nat} {ps : List Str} {sp : Sp} {E : L2.St → XK} {e : Expr} {es : List Expr} {p pos : Pos} {t : TA}
theorem ix_seqK (hK : X.K = K := by rfl) : IxR X (rIx K) := by
  subst hK
  exact ix_seq
theorem pe_fnS (D : Dn X.prog X.w X.K X.mg X.base CX x k ps sp) (hr : Room k X.A) (hx : ∀ σ, PassesAt CX X σ (E σ)) (hg : Gl X x) (ha : PA X (e :: es) t) (hdb : (x == ("__debug__" : Str)) = false := by decide)
    (he : starEach (e :: es) X.env = (false, eval e X.env) :: starEach es X.env := by rfl) (hpl : (backTo pos (starEach es X.env)).any (·.1) = false := by rfl) : PE X (.Call (.Name x p) (e :: es) [] pos) (tCallS sp E t) := by
  obtain ⟨f, fd, h1, h2, h3, h4⟩ := D.ex
  exact pe_callS h3 hr hg h1 h2 h4 hx ha hdb he hpl
end
/-- an error of a class is what except names by that class -/
theorem Err.self {K : PySem.W.Frag} {C : Addr} (h : Err K C) : PySem.W.exmOne K (.ref C) (.ref C) = some true := by
  unfold PySem.W.exmOne
  rw [h.be, if_pos (by rfl)]
  unfold PySem.W.kitCls
  have h2 : (PySem.W.clsIn K C).isSome = true := h.is
  simp only [h2, h.ty, h.se]
  rfl
theorem Err.other {K : PySem.W.Frag} {C B : Addr} (h : Err K C) (hB : Err K B) (hs : PySem.W.subIn K (.ref C) (.ref B) = some false) : PySem.W.exmOne K (.ref C) (.ref B) = some false := by
  unfold PySem.W.exmOne
  rw [hB.be, if_pos (by rfl)]
  unfold PySem.W.kitCls
  have h2 : (PySem.W.clsIn K B).isSome = true := hB.is
  simp only [h2, hB.ty, hs]
  rfl
section
variable {K : PySem.W.Frag} {H H' : Hp} {d : Addr} {xs xs' : List V} {x v : V} {t : Value}
/-! what a changed list leaves -/
theorem ty_but (hd : H d = some (.lst xs)) (hd' : H' d = some (.lst xs')) (e : ExB d H H') (h : TyX K H x t) : TyX K H' x t := by
  have mv : ∀ {a : Addr} {o : HO}, H a = some o → (∀ ys, o ≠ .lst ys) → H' a = some o := fun {a o} q n => e.kn hd _ _ n q
  cases h with
  | base h =>
    cases h with
    | non => exact .base .non
    | bl b => exact .base (.bl b)
    | int i => exact .base (.int i)
    | str z => exact .base (.str z)
    | flt z => exact .base (.flt z)
    | @lst a ys h =>
      by_cases had : a = d
      · subst had
        exact .base (.lst hd')
      · exact .base (.lst (e _ _ had h))
    | frz h => exact .base (.frz (mv h (fun _ q => nomatch q)))
    | tup h => exact .base (.tup (mv h (fun _ q => nomatch q)))
    | dK h => exact .base (.dK (mv h (fun _ q => nomatch q)))
    | dT h => exact .base (.dT (mv h (fun _ q => nomatch q)))
    | ins h cl ha hn htk hm => exact .base (.ins (mv h (fun _ q => nomatch q)) cl ha hn htk hm)
  | byt b => exact .byt b
  | set h => exact .set (mv h (fun _ q => nomatch q))
  | kList h c => exact .kList h c
  | kTuple h c => exact .kTuple h c
  | kDict h c => exact .kDict h c
  | fTuple h => exact .fTuple (mv h (fun _ q => nomatch q))
  | fDict h => exact .fDict (mv h (fun _ q => nomatch q))
theorem num_but {o : Option Int} (hd : H d = some (.lst xs)) (hd' : H' d = some (.lst xs')) (e : ExB d H H') (h : NumV K H x o) : NumV K H' x o := by
  cases h with
  | int z => exact .int z
  | odd h n => exact .odd (ty_but hd hd' e h) n
theorem land_but {b : Bool} (hd : H d = some (.lst xs)) (hd' : H' d = some (.lst xs')) (e : ExB d H H') (h : LandV K H x b) : LandV K H' x b := by
  have kn := e.kn hd
  cases h with
  | no h n => exact .no (ty_but hd hd' e h) n
  | len h n z => exact .len (sqt_kn kn h) n z
  | odd h hx hy n => exact .odd (sqt_kn kn h) (num_but hd hd' e hx) (num_but hd hd' e hy) n
  | two h z1 z2 => exact .two (sqt_kn kn h) z1 z2
end
/-! ### lists whose items are made, told by what holds of each -/
section
variable {K : PySem.W.Frag} {σ : L2.St} {H H' : Hp} {ta tb tc te tl : TE} {tA : TA} {x y z v : V} {S : V → Hp → Prop} {P : List V → Hp → Prop}
def EvX (te : TE) (σ : L2.St) (H : Hp) (S : V → Hp → Prop) : Prop := ∀ H1, Ex H H1 → ∀ Q : VK, (∀ y H2, Ex H1 H2 → S y H2 → Q y H2) → te σ H1 Q
def EvY (ta : TA) (σ : L2.St) (H : Hp) (P : List V → Hp → Prop) : Prop := ∀ H1, Ex H H1 → ∀ Q : List V → Hp → Prop, (∀ ys H2, Ex H1 H2 → P ys H2 → Q ys H2) → ta σ H1 Q
def AllS (S : V → Hp → Prop) (n : Nat) (ys : List V) (H : Hp) : Prop := ys.length = n ∧ ∀ y ∈ ys, S y H
theorem AllS.mono {n : Nat} {ys : List V} (hS : ∀ y H1 H2, Ex H1 H2 → S y H1 → S y H2) (e : Ex H H') (h : AllS S n ys H) : AllS S n ys H' := ⟨h.1, fun y hy => hS y _ _ e (h.2 y hy)⟩
theorem ex_v (h : Ev te σ H v) (hv : ∀ H1, Ex H H1 → S v H1) : EvX te σ H S := fun H1 e Q q => h H1 e Q fun H2 e2 => q v H2 e2 (hv H2 (e.trans e2))
theorem ex_tup {us : List V} (h : EvU te σ H us) (hv : ∀ p H1, Ex H H1 → H1 p = some (.tup us) → S (.ref p) H1) : EvX te σ H S := fun H1 e Q q => h H1 e Q fun p H2 hp e2 h2 => q _ H2 e2 (hv p H2 (e.trans e2) h2)
theorem ex_lst {us : List V} (h : EvL te σ H us) (hv : ∀ p H1, Ex H H1 → H1 p = some (.lst us) → S (.ref p) H1) : EvX te σ H S := fun H1 e Q q => h H1 e Q fun p H2 hp e2 h2 => q _ H2 e2 (hv p H2 (e.trans e2) h2)
theorem ey_nil : EvY tNil σ H (AllS S 0) := fun H1 _ Q q => q [] H1 (Ex.refl H1) ⟨rfl, fun _ h => nomatch h⟩
theorem ey_cons {n : Nat} (hS : ∀ y H1 H2, Ex H1 H2 → S y H1 → S y H2) (h : EvX te σ H S) (hr : EvY tA σ H (AllS S n)) : EvY (tCons te tA) σ H (AllS S (n + 1)) := fun H1 e Q q =>
  h H1 e _ fun y H2 e2 hy => hr H2 (e.trans e2) _ fun ys H3 e3 hys => q (y :: ys) H3 (e2.trans e3) ⟨congrArg (· + 1) hys.1, fun z hz => (List.mem_cons.mp hz).elim (fun h => h ▸ hS _ _ _ e3 hy) (hys.2 z)⟩
/-- pick from a display -/
theorem er_disp {n : Nat} (hS : ∀ y H1 H2, Ex H1 H2 → S y H1 → S y H2) (h : EvY tA σ H (AllS S n)) (hn : n ≤ 1000) : EvR (tLst tA) σ H fun p H2 => ∃ ys, H2 p = some (.lst ys) ∧ AllS S n ys H2 := fun H1 e Q q =>
  h H1 e _ fun ys H2 e2 hys => ⟨Evl.sz_of (by rw [hys.1]; omega), fun p hp => q p _ (fresh_back e2 hp) (e2.trans (Ex.new hp)) ⟨ys, upd_same, hys.mono hS (Ex.new hp)⟩⟩
end
/-! lands of a display -/
section
variable {K : PySem.W.Frag} {σ : L2.St} {H H' : Hp} {ta tb tc te tl : TE} {tA : TA}
theorem ly_nil : EvY tNil σ H (fun ys H2 => LandL K H2 ys []) := fun H1 _ Q q => q [] H1 (Ex.refl H1) trivial
theorem ly_cons {a b : Nat} {ls : List (Nat × Nat)} (hr : EvY tA σ H (fun ys H2 => LandL K H2 ys ls)) : EvY (tCons (tTup (tCons (tC (.int (a : Int))) (tCons (tC (.int (b : Int))) tNil))) tA) σ H (fun ys H2 => LandL K H2 ys ((a, b) :: ls)) := fun H1 e Q q =>
  ⟨by show 2 ≤ sizeLine; decide, fun p hp => hr _ (e.trans (Ex.new hp)) _ fun ys H3 e3 hys => q (.ref p :: ys) H3 ((Ex.new hp).trans e3) ⟨⟨p, rfl, ex_t e3 (st_of upd_same)⟩, hys⟩⟩
theorem er_landsD {ls : List (Nat × Nat)} (h : EvY tA σ H (fun ys H2 => LandL K H2 ys ls)) (hn : ls.length ≤ 1000) : EvR (tLst tA) σ H fun p H2 => ∃ ys, H2 p = some (.lst ys) ∧ LandL K H2 ys ls := fun H1 e Q q =>
  h H1 e _ fun ys H2 e2 hys => ⟨Evl.sz_of (by rw [hys.len]; omega), fun p hp => q p _ (fresh_back e2 hp) (e2.trans (Ex.new hp)) ⟨ys, upd_same, hys.kn (KeepN.of (Ex.new hp))⟩⟩
theorem er_landsC {ls ms : List (Nat × Nat)} (h1 : EvR ta σ H fun p H2 => ∃ ys, H2 p = some (.lst ys) ∧ LandL K H2 ys ls) (h2 : EvR tb σ H fun p H2 => ∃ ys, H2 p = some (.lst ys) ∧ LandL K H2 ys ms) (hn : ls.length + ms.length ≤ 100000) :
    EvR (tOp rCat ta tb) σ H fun p H2 => ∃ ys, H2 p = some (.lst ys) ∧ LandL K H2 ys (ls ++ ms) := fun H1 e Q q =>
  h1 H1 e _ fun p H2 hp e2 ⟨ys, k1, l1⟩ => h2 H2 (e.trans e2) _ fun p2 H3 hp2 e3 ⟨zs, k2, l2⟩ => ⟨p, p2, ys, zs, rfl, rfl, e3 _ _ k1, k2, Evl.sz_of (by rw [l1.len, l2.len]; exact hn), fun p3 hp3 => q p3 _ (fresh_back (e2.trans e3) hp3) ((e2.trans e3).trans (Ex.new hp3)) ⟨ys ++ zs, upd_same, (l1.kn (KeepN.of (e3.trans (Ex.new hp3)))).app (l2.kn (KeepN.of (Ex.new hp3)))⟩⟩
theorem ev_lenD {a : Addr} {ds : List Nat} (h : Ev ta σ H (.ref a)) (hd : H a = some (.dK (dk ds))) : Ev (tCB (fun xs H Q => ∃ a kvs, xs = [V.ref a] ∧ H a = some (.dK kvs) ∧ Q (.int kvs.length) H) (tCons ta tNil)) σ H (.int ((ds.length : Nat) : Int)) := fun H1 e Q q =>
  h H1 e _ fun H2 e2 => ⟨a, dk ds, rfl, e2 _ _ (e _ _ hd), by
    unfold dk
    rw [List.length_map]
    exact q H2 e2⟩
/-- x = f(..) in a try -/
theorem q_asgS {sp : Sp} {W : Ends → WX} {D : Ends} {i : Nat} {tz : TS} {vs : List V} (h : EvA tA σ H vs) (k : ∀ H1, Ex H H1 → sp vs H1 (fun x H2 => tz D (σ.set i (some x)) H2) (fun cls d H2 => W { D with nx := tz D } cls d σ H2)) :
    tSeq (fun D σ H => tAsg (tCallS sp (WE (W D)) tA) (gName i) D σ H) tz D σ H := h H (Ex.refl H) _ fun H1 e => k H1 e
/-- a call with a new tuple among what is handed over -/
theorem ev_callT3 {sp : Sp} {E : XK} {us : List V} {x z v : V} (ha : Ev ta σ H x) (hb : EvU tb σ H us) (hc : Ev tc σ H z) (h : ∀ p H1, Ex H H1 → H1 p = some (.tup us) → ∀ (Q : VK) (E : XK), RetV v H1 Q → sp [x, .ref p, z] H1 Q E) :
    Ev (tCall sp [] E (tCons ta (tCons tb (tCons tc tNil)))) σ H v := fun H1 e Q q => ha H1 e _ fun H2 e2 => hb H2 (e.trans e2) _ fun p H3 hp e3 h3 => hc H3 ((e.trans e2).trans e3) _ fun H4 e4 => h p H4 (((e.trans e2).trans e3).trans e4) (e4 _ _ h3) Q E fun H5 e5 => q H5 (((e2.trans e3).trans e4).trans e5)
theorem ev_callT2 {sp : Sp} {E : XK} {us : List V} {x v : V} (ha : Ev ta σ H x) (hb : EvU tb σ H us) (h : ∀ p H1, Ex H H1 → H1 p = some (.tup us) → ∀ (Q : VK) (E : XK), RetV v H1 Q → sp [x, .ref p] H1 Q E) :
    Ev (tCall sp [] E (tCons ta (tCons tb tNil))) σ H v := fun H1 e Q q => ha H1 e _ fun H2 e2 => hb H2 (e.trans e2) _ fun p H3 hp e3 h3 => h p H3 ((e.trans e2).trans e3) h3 Q E fun H5 e5 => q H5 ((e2.trans e3).trans e5)
end
end WF

set_option Elab.async false
set_option linter.all false
set_option maxRecDepth 100000
set_option maxHeartbeats 400000
/-! WDrawI: whole numbers that are drawn: S tells of each; I stands whatever is drawn -/
namespace WF
open PySem L2 Evl
def DrI (te : TE) (σ : L2.St) (d : Addr) (I : Hp → Prop) (S : Int → Prop) : Prop := ∀ H xs, I H → H d = some (.lst xs) → Good xs → ∀ Q : VK, (∀ i H' xs', S i → I H' → ExB d H H' → H' d = some (.lst xs') → Good xs' → Q (.int i) H') → te σ H Q
def DrA (ta : TA) (σ : L2.St) (d : Addr) (I : Hp → Prop) (n : Nat) (S : Int → Prop) : Prop := ∀ H xs, I H → H d = some (.lst xs) → Good xs → ∀ Q : List V → Hp → Prop, (∀ (is : List Int) H' xs', is.length = n → (∀ i ∈ is, S i) → I H' → ExB d H H' → H' d = some (.lst xs') → Good xs' → Q (is.map V.int) H') → ta σ H Q
section
variable {K : PySem.W.Frag} {σ : L2.St} {H H' : Hp} {ta tb te : TE} {tA : TA} {d : Addr} {I : Hp → Prop} {S A B : Int → Prop} {i : Int} {n : Nat} {D : Ends} {tz : TS}
theorem dr_ev (hI : ∀ H H', I H → ExB d H H' → I H') (h : ∀ H, I H → Ev te σ H (.int i)) (hs : S i) : DrI te σ d I S := fun H xs hi hd hg Q q => h H hi H (Ex.refl H) Q fun H2 e => q i H2 xs hs (hI _ _ hi (ExB.of e)) (ExB.of e) (e _ _ hd) hg
theorem dr_op {g : Int → Int → Int} (ha : DrI ta σ d I A) (hb : DrI tb σ d I B) (hs : ∀ i j, A i → B j → S (g i j)) : DrI (tOp (rI0 fun i j => .int (g i j)) ta tb) σ d I S := fun H xs hi hd hg Q q =>
  ha H xs hi hd hg _ fun i H1 xs1 h1 i1 e1 d1 g1 => hb H1 xs1 i1 d1 g1 _ fun j H2 xs2 h2 i2 e2 d2 g2 => ⟨i, j, rfl, rfl, q _ H2 xs2 (hs i j h1 h2) i2 (e1.trans e2) d2 g2⟩
theorem dr_nil : DrA tNil σ d I 0 S := fun H xs hi hd hg Q q => q [] H xs rfl (fun _ h => nomatch h) hi (ExB.of (Ex.refl H)) hd hg
theorem dr_cons (ha : DrI te σ d I S) (hr : DrA tA σ d I n S) : DrA (tCons te tA) σ d I (n + 1) S := fun H xs hi hd hg Q q =>
  ha H xs hi hd hg _ fun i H1 xs1 h1 i1 e1 d1 g1 => hr H1 xs1 i1 d1 g1 _ fun is H2 xs2 hl h2 i2 e2 d2 g2 => q (i :: is) H2 xs2 (congrArg (· + 1) hl) (fun z hz => (List.mem_cons.mp hz).elim (fun h => h ▸ h1) (h2 z)) i2 (e1.trans e2) d2 g2
theorem q_dr {j : Nat} {xs : List V} (h : DrI te σ d I S) (hi : I H) (hd : H d = some (.lst xs)) (hg : Good xs) (k : ∀ i H' xs', S i → I H' → ExB d H H' → H' d = some (.lst xs') → Good xs' → tz D (σ.set j (some (.int i))) H') : tSeq (tAsg te (gName j)) tz D σ H := h H xs hi hd hg _ k
end
end WF

set_option Elab.async false
set_option linter.all false
set_option maxRecDepth 100000
set_option maxHeartbeats 200000
/-! WSort: sorted(pairs, key=sum) -/
namespace WF
open PySem L2 Evl PyProof.Rows
theorem kept_push {h h' : Heap} {o0 : Obj} (hk : ∀ b o, b ∉ [h.objs.size] → (h.push o0).get? b = some o → h'.get? b = some o) : ∀ b o, h.get? b = some o → h'.get? b = some o := fun b o q =>
  hk b o (fun hm => Nat.lt_irrefl _ (Nat.lt_of_lt_of_eq (Heap.lt_size q) (List.mem_singleton.mp hm).symm)) (Heap.get?_push_of_some _ q)
/-- sum of a pair of whole numbers -/
theorem sum_pair {prog : Program} {w : World} {A : Around} {E : Value → Shared → Prop} {s : Shared} {Q : Value → Shared → Prop} {a : Addr} {i j : Int} {t1 t2 : Tok} (hh : A.handled = none) (ht : s.heap.IsTuple a #[.int i t1, .int j t2])
    (h : ∀ h' tk t', (∀ b o, s.heap.get? b = some o → h'.get? b = some o) → Q (.int (i + j) t') { s with heap := h', toks := tk }) : wpAny (model prog w) A (call (.builtin "sum") [.ref a]) Q E s := by
  have hlt : a < s.heap.objs.size := by obtain ⟨o, e, _⟩ := ht; exact Heap.lt_size e
  have W := Walks.tuple (prog := prog) (w := w) (A := A.in1) hh s.heap.objs.size a (Nat.ne_of_lt hlt) #[.int i t1, .int j t2]
  refine PySem.call_sum_walkG (PySem.wpAny_pyIter_tuple ht ?_)
  refine ⟨s.heap.objs.size, [s.heap.objs.size, a], [s.heap.objs.size], 2, _, _, fun k => if k = 0 then i else j, rfl, W, ⟨⟨_, Heap.get?_push_size _ rfl, rfl, rfl⟩, ?_⟩, fun b hb => ?_, fun k v hk => ?_, fun h' tk t' hk => ?_⟩
  · obtain ⟨o, e, r⟩ := ht
    exact ⟨o, Heap.get?_push_of_some _ e, r⟩
  · show b < (s.heap.push _).objs.size
    rw [Heap.size_push]
    rcases List.mem_cons.mp hb with rfl | hb
    · exact Nat.lt_succ_self _
    · rcases List.mem_cons.mp hb with rfl | hb
      · exact Nat.lt_succ_of_lt hlt
      · cases hb
  · match k, hk with
    | 0, hk => simp at hk; exact ⟨t1, hk.symm⟩
    | 1, hk => simp at hk; exact ⟨t2, hk.symm⟩
    | n + 2, hk => simp at hk
  · have e : preSum (fun k => if k = 0 then i else j) 2 = i + j := by
      simp [preSum]
    rw [e]
    exact h h' tk t' (kept_push hk)
def sumLe (a b : Nat × Nat) : Bool := decide (((a.1 : Int) + (a.2 : Int)) ≤ ((b.1 : Int) + (b.2 : Int)))
/-- at v a pair, in the model's heap too -/
def PrAt (K : PySem.W.Frag) (H : Hp) (h : Heap) (v : Value) (l : Nat × Nat) : Prop := ∃ t t1 t2, v = .ref t ∧ SqT K H t [.int (l.1 : Int), .int (l.2 : Int)] ∧ h.IsTuple t #[.int (l.1 : Int) t1, .int (l.2 : Int) t2]
theorem land_each {X : Cx} {pins : List (Addr × Obj)} {σ : L2.St} {H : Hp} {s : Shared} (I : Inv X pins σ H s) {xs : List V} {its : List Value} (r : Vals xs its) : ∀ {ls : List (Nat × Nat)}, LandL X.K H xs ls → PySem.W.EachIs (PrAt X.K H s.heap) its ls := by
  induction r with
  | nil =>
    intro ls h
    cases ls with
    | nil => exact .nil
    | cons l ls => exact h.elim
  | cons r t ih =>
    intro ls h
    cases ls with
    | nil => exact h.elim
    | cons l ls =>
      obtain ⟨⟨p, h0, h1⟩, h2⟩ := h
      subst h0
      have r' := r
      cases r'
      refine .cons ?_ (ih h2)
      obtain ⟨its, r2, ht, _⟩ := I.tuple h1
      obtain ⟨u1, u2, rfl, r3, r4⟩ := vals2 r2
      obtain ⟨t1, rfl⟩ := r3
      obtain ⟨t2, rfl⟩ := r4
      exact ⟨p, t1, t2, rfl, h1, ht⟩
theorem each_land {K : PySem.W.Frag} {H : Hp} {h : Heap} : ∀ {out : List Value} {ls : List (Nat × Nat)}, PySem.W.EachIs (PrAt K H h) out ls → ∃ ys, Vals ys out ∧ LandL K H ys ls
  | _, _, .nil => ⟨[], .nil, trivial⟩
  | _, _, .cons h t => by
    obtain ⟨ys, h1, h2⟩ := each_land t
    obtain ⟨p, t1, t2, rfl, h3, _⟩ := h
    exact ⟨.ref p :: ys, .cons rfl h1, ⟨p, rfl, h3⟩, h2⟩
def rSortSum (K : PySem.W.Frag) : List V → Hp → VK → Prop := fun vs H1 Q => ∃ a xs ls, vs = [.ref a] ∧ SqL K H1 a xs ∧ LandL K H1 xs ls ∧ ∀ ys p, LandL K H1 ys (ls.mergeSort sumLe) → H1 p = none → Q (.ref p) (upd H1 p (.lst ys))
theorem sortSum_run {X : Cx} {pins : List (Addr × Obj)} {σ : L2.St} {H1 : Hp} {s1 : Shared} {Q : VK} {a : Addr} {xs : List V} {ls : List (Nat × Nat)} (hc : X.calm = true) (hu : X.A.units + 64 < cLine) (I1 : Inv X pins σ H1 s1) (hs : SqL X.K H1 a xs) (hl : LandL X.K H1 xs ls)
    (q : ∀ ys p, LandL X.K H1 ys (ls.mergeSort sumLe) → H1 p = none → Q (.ref p) (upd H1 p (.lst ys))) : wpAny (model X.prog X.w) X.A (call (.builtin "sorted") [.ref a] [(Str.ofString "key", .builtin "sum")]) (EP X pins σ Q) X.xe s1 := by
  obtain ⟨its, rv, hL, hz⟩ := I1.list hs
  have each := land_each I1 rv hl
  have hh : X.A.handled = none := I1.ok.hd hc
  have hlen : ls.length ≤ sizeLine := by rw [← each.length, ← rv.length]; exact hz
  refine PySem.W.sorted_key_data (b := false) (fun l : Nat × Nat => .int ((l.1 : Int) + (l.2 : Int))) hL.isList each ?_ ?_ hlen ?_ (PyProof.Rows.ksk_s1 _ _) (fun _ => PyProof.Rows.ksk_l1 _ _) (fun _ => PyProof.Rows.ksk_t4 _ _) ?_ ?_
  · exact PySem.W.AllAlike.of fun _ _ => rfl
  · exact PySem.W.Sortable.others fun _ => ⟨(fun h => nomatch h), (fun _ h => nomatch h)⟩
  · intro l _
    have : (PyData.int ((l.1 : Int) + (l.2 : Int))).depth = 0 := rfl
    rw [this]
    omega
  · intro v l hv _ h tk kp
    obtain ⟨t, t1, t2, rfl, _, o, ho, hr⟩ := hv
    exact sum_pair hh ⟨o, kp _ _ ho, hr⟩ fun h2 tk2 t' kp2 => ⟨h2, tk2, rfl, kp2, .int _ _⟩
  · intro out c h' tk kp hn hD hlen eo
    rw [PySem.W.dataLe_int] at eo
    obtain ⟨ys, hv, hY⟩ := each_land eo
    have hfr : H1 (s1.heap.objs.size + 1) = none := I1.hok.fresh (Nat.le_succ _)
    refine ⟨.ref _, upd H1 (s1.heap.objs.size + 1) (.lst ys), I1.laid kp (Nat.le_succ _) ⟨?_, out, c, hv, hD⟩, rfl, q ys _ hY hfr⟩
    rw [hv.length, hlen, ← each.length, ← rv.length]
    exact hz
theorem pe_sortSum {X : Cx} {e : Expr} {t : TA} {p p2 pos kp : Pos} (hc : X.calm = true) (hu : X.A.units + 64 < cLine) (hg : Gl X "sorted") (hm : X.mg "sorted" = none) (hg2 : Gl X "sum") (hm2 : X.mg "sum" = none) (ha : PA X [e] t)
    (h1 : backTo pos (starEach [e] X.env) = (false, eval e X.env) :: backTo pos (starEach [] X.env) := by rfl) (h2 : (backTo pos (starEach [e] X.env)).any (·.1) = false := by rfl)
    (hall : (backToKw pos (keywordEach [⟨some "key", .Name "sum" p2, kp⟩] X.env)).all (·.1.isSome) = true := by rfl) (hnone : (backToKw pos (keywordEach [⟨some "key", .Name "sum" p2, kp⟩] X.env)).any (·.1.isNone) = false := by rfl)
    (hks : (backToKw pos (keywordEach [⟨some "key", .Name "sum" p2, kp⟩] X.env)).filterMap (·.1) = [Str.ofString "key"] := by rfl) : PE X (.Call (.Name "sorted" p) [e] [⟨some "key", .Name "sum" p2, kp⟩] pos) (tCB (rSortSum X.K) t) := by
  refine ⟨fun pins s σ H Q I h => ?_⟩
  refine wpAny_Call_Name_kw (ld_blt I hg hm (by decide +kernel : bootBuiltins "sorted" = some (.builtin "sorted")) ?_)
  refine PyProof.Rows.callWith_kw (thn (ha.run pos pins s σ H (fun vs H1 => ∃ a xs ls, vs = [.ref a] ∧ SqL X.K H1 a xs ∧ LandL X.K H1 xs ls ∧ ∀ ys p, LandL X.K H1 ys (ls.mergeSort sumLe) → H1 p = none → Q (.ref p) (upd H1 p (.lst ys))) I h) fun us s1 ⟨vs, H1, I1, r1, q1⟩ => ?_) h1 h2 hall hnone
  obtain ⟨a, xs, ls, rfl, hs, hl, q⟩ := q1
  obtain rfl := Vals.ref1 r1
  show wpAny _ _ (evalAll ((do let v ← eval (.Name "sum" p2) X.env; standAt pos; pure v) :: [])) _ _ s1
  refine wpAny_evalAll_cons (wpAny_bind (ld_blt I1 hg2 hm2 (by decide +kernel : bootBuiltins "sum" = some (.builtin "sum")) (wpAny_bind (wpAny_standAt (wpAny_pure (wpAny_evalAll_nil ?_))))))
  rw [hks]
  exact sortSum_run hc hu I1 hs hl q
end WF

set_option Elab.async false
set_option linter.all false
set_option maxRecDepth 100000
set_option maxHeartbeats 400000
/-! WLandsM: the lands by their sums, two ways -/
namespace WF
open List
/-- w from 2 on, n of them; m from w + 1 to M -/
def mL (M w n : Nat) : List (Nat × Nat) := (List.range n).flatMap fun j => if Nat.gcd (w + 1 + j) w = 1 then [(w, w + 1 + j)] else []
def rawL (M n : Nat) : List (Nat × Nat) := (List.range n).flatMap fun i => mL M (2 + i) (M - (2 + i))
theorem mL_succ (M w n : Nat) : mL M w (n + 1) = mL M w n ++ (if Nat.gcd (w + 1 + n) w = 1 then [(w, w + 1 + n)] else []) := by
  unfold mL
  rw [List.range_succ, List.flatMap_append]
  simp
theorem rawL_succ (M n : Nat) : rawL M (n + 1) = rawL M n ++ mL M (2 + n) (M - (2 + n)) := by
  unfold rawL
  rw [List.range_succ, List.flatMap_append]
  simp
theorem mL_len (M w : Nat) : ∀ n, (mL M w n).length ≤ n
  | 0 => Nat.le_refl 0
  | n + 1 => by
    rw [mL_succ, List.length_append]
    have := mL_len M w n
    split
    · show _ + 1 ≤ _; omega
    · show _ + 0 ≤ _; omega
theorem rawL_len (M : Nat) : ∀ n, (rawL M n).length ≤ n * M
  | 0 => Nat.zero_le _
  | n + 1 => by
    rw [rawL_succ, List.length_append, Nat.succ_mul]
    have := rawL_len M n
    have := mL_len M (2 + n) (M - (2 + n))
    omega
theorem mL_mem {M w n : Nat} {l : Nat × Nat} : l ∈ mL M w n ↔ l.1 = w ∧ w < l.2 ∧ l.2 ≤ w + n ∧ Nat.gcd l.2 l.1 = 1 := by
  unfold mL
  rw [List.mem_flatMap]
  constructor
  · rintro ⟨j, hj, h⟩
    rw [List.mem_range] at hj
    split at h
    · rename_i hc
      rw [List.mem_singleton] at h
      subst h
      exact ⟨rfl, by show w < w + 1 + j; omega, by show w + 1 + j ≤ w + n; omega, hc⟩
    · cases h
  · rintro ⟨h1, h2, h3, h4⟩
    obtain ⟨a, b⟩ := l
    simp only at h1 h2 h3 h4
    subst h1
    refine ⟨b - (a + 1), List.mem_range.mpr (by omega), ?_⟩
    have e : a + 1 + (b - (a + 1)) = b := by omega
    rw [e, if_pos h4]
    exact List.mem_singleton.mpr rfl
theorem rawL_mem {M n : Nat} {l : Nat × Nat} : l ∈ rawL M n ↔ 2 ≤ l.1 ∧ l.1 < 2 + n ∧ l.1 < l.2 ∧ l.2 ≤ M ∧ Nat.gcd l.2 l.1 = 1 := by
  unfold rawL
  rw [List.mem_flatMap]
  constructor
  · rintro ⟨i, hi, h⟩
    rw [List.mem_range] at hi
    obtain ⟨h1, h2, h3, h4⟩ := mL_mem.mp h
    exact ⟨by omega, by omega, by omega, by omega, h4⟩
  · rintro ⟨h1, h2, h3, h4, h5⟩
    exact ⟨l.1 - 2, List.mem_range.mpr (by omega), mL_mem.mpr ⟨by omega, by omega, by omega, h5⟩⟩
theorem landsL_memI {W M : Nat} {l : Nat × Nat} (h : 2 ≤ l.1 ∧ l.1 ≤ W ∧ l.1 < l.2 ∧ l.2 ≤ M ∧ Nat.gcd l.2 l.1 = 1) : l ∈ landsL W M (W + M - 4) := by
  obtain ⟨h1, h2, h3, h4, h5⟩ := h
  obtain ⟨a, b⟩ := l
  simp only at h1 h2 h3 h4 h5
  unfold landsL
  rw [List.mem_flatMap]
  refine ⟨a + b - 5, List.mem_range.mpr (by omega), ?_⟩
  unfold innerL
  rw [List.mem_flatMap]
  refine ⟨a - 2, List.mem_range.mpr (by omega), ?_⟩
  have e1 : 2 + (a - 2) = a := by omega
  have e2 : 5 + (a + b - 5) - a = b := by omega
  rw [e1, e2, if_pos ⟨h4, h5⟩]
  exact List.mem_singleton.mpr rfl
/-- by the sum, then by w -/
def SumLt (a b : Nat × Nat) : Prop := a.1 + a.2 < b.1 + b.2 ∨ (a.1 + a.2 = b.1 + b.2 ∧ a.1 < b.1)
theorem SumLt.irr {a : Nat × Nat} (h : SumLt a a) : False := by
  rcases h with h | ⟨_, h⟩ <;> exact Nat.lt_irrefl _ h
theorem innerL_lt (t M : Nat) : ∀ n, 2 + n ≤ t → (innerL t M n).Pairwise SumLt := by
  intro n hn
  unfold innerL
  rw [List.pairwise_flatMap]
  refine ⟨fun j _ => ?_, ?_⟩
  · split
    · exact List.pairwise_singleton _ _
    · exact List.Pairwise.nil
  · refine (List.pairwise_lt_range (n := n)).imp_of_mem fun {i j} hi hj hij x hx y hy => ?_
    rw [List.mem_range] at hi hj
    split at hx
    · split at hy
      · rw [List.mem_singleton] at hx hy
        subst hx hy
        exact .inr ⟨by show 2 + i + (t - (2 + i)) = 2 + j + (t - (2 + j)); omega, by show 2 + i < 2 + j; omega⟩
      · cases hy
    · cases hx
theorem landsL_lt (W M n : Nat) : (landsL W M n).Pairwise SumLt := by
  unfold landsL
  rw [List.pairwise_flatMap]
  refine ⟨fun i _ => innerL_lt _ _ _ (by omega), ?_⟩
  refine (List.pairwise_lt_range (n := n)).imp_of_mem fun {i j} hi hj hij x hx y hy => ?_
  obtain ⟨h1, h2, h3, h4, h5⟩ := innerL_mem hx
  obtain ⟨g1, g2, g3, g4, g5⟩ := innerL_mem hy
  exact .inl (by omega)
theorem rawL_lx (M n : Nat) : (rawL M n).Pairwise fun a b => a.1 < b.1 ∨ (a.1 = b.1 ∧ a.2 < b.2) := by
  unfold rawL
  rw [List.pairwise_flatMap]
  refine ⟨fun i _ => ?_, ?_⟩
  · unfold mL
    rw [List.pairwise_flatMap]
    refine ⟨fun j _ => ?_, ?_⟩
    · split
      · exact List.pairwise_singleton _ _
      · exact List.Pairwise.nil
    · refine (List.pairwise_lt_range).imp_of_mem fun {a b} ha hb hab x hx y hy => ?_
      split at hx
      · split at hy
        · rw [List.mem_singleton] at hx hy
          subst hx hy
          exact .inr ⟨rfl, by show _ + a < _ + b; omega⟩
        · cases hy
      · cases hx
  · refine (List.pairwise_lt_range).imp_of_mem fun {i j} hi hj hij x hx y hy => ?_
    have h1 := (mL_mem.mp hx).1
    have h2 := (mL_mem.mp hy).1
    exact .inl (by omega)
theorem two_or {α : Type} {a b : α} : ∀ {l : List α}, a ∈ l → b ∈ l → a ≠ b → [a, b] <+ l ∨ [b, a] <+ l
  | c :: l, ha, hb, hne => by
    rcases List.mem_cons.mp ha with rfl | ha'
    · rcases List.mem_cons.mp hb with rfl | hb'
      · exact absurd rfl hne
      · exact .inl (List.cons_sublist_cons.mpr (List.singleton_sublist.mpr hb'))
    · rcases List.mem_cons.mp hb with rfl | hb'
      · exact .inr (List.cons_sublist_cons.mpr (List.singleton_sublist.mpr ha'))
      · rcases two_or ha' hb' hne with h | h
        · exact .inl (h.cons _)
        · exact .inr (h.cons _)
theorem two_not {α : Type} {a b : α} : ∀ {l : List α}, l.Nodup → [a, b] <+ l → [b, a] <+ l → False
  | [], _, h, _ => by simp at h
  | c :: l, hn, h1, h2 => by
    have hn' := List.nodup_cons.mp hn
    rcases List.sublist_cons_iff.mp h1 with h1 | ⟨r, e1, h1⟩
    · rcases List.sublist_cons_iff.mp h2 with h2 | ⟨r2, e2, h2⟩
      · exact two_not hn'.2 h1 h2
      · injection e2 with e2 e3
        have hb : b ∈ l := h1.subset (by simp)
        exact hn'.1 (e2 ▸ hb)
    · injection e1 with e1 e3
      rcases List.sublist_cons_iff.mp h2 with h2 | ⟨r2, e2, h2⟩
      · have ha : a ∈ l := h2.subset (by simp)
        exact hn'.1 (e1 ▸ ha)
      · injection e2 with e2 e4
        have hb : b ∈ l := h1.subset (by rw [← e3]; exact List.mem_singleton.mpr rfl)
        exact hn'.1 (e2 ▸ hb)
theorem lands_eq (W M : Nat) (hW : 1 ≤ W) : (rawL M (W - 1)).mergeSort sumLe = landsL W M (W + M - 4) := by
  have hp := List.mergeSort_perm (rawL M (W - 1)) sumLe
  have tr : ∀ a b c : Nat × Nat, sumLe a b = true → sumLe b c = true → sumLe a c = true := fun a b c h1 h2 => by
    unfold sumLe at *
    rw [decide_eq_true_iff] at *
    omega
  have to : ∀ a b : Nat × Nat, (sumLe a b || sumLe b a) = true := fun a b => by
    unfold sumLe
    rw [Bool.or_eq_true, decide_eq_true_iff, decide_eq_true_iff]
    omega
  have hlx := rawL_lx M (W - 1)
  have hnr : (rawL M (W - 1)).Nodup := hlx.imp fun {a b} h e => by
    subst e
    rcases h with h | ⟨_, h⟩ <;> exact Nat.lt_irrefl _ h
  have hns : ((rawL M (W - 1)).mergeSort sumLe).Nodup := hp.nodup_iff.mpr hnr
  have hle := List.pairwise_mergeSort tr to (rawL M (W - 1))
  have hS : ((rawL M (W - 1)).mergeSort sumLe).Pairwise SumLt := by
    rw [List.pairwise_iff_forall_sublist] at hle ⊢
    intro a b hab
    have h1 := hle hab
    have hne : a ≠ b := (List.pairwise_iff_forall_sublist.mp hns) hab
    unfold sumLe at h1
    rw [decide_eq_true_iff] at h1
    rcases Nat.lt_or_ge (a.1 + a.2) (b.1 + b.2) with h | h
    · exact .inl h
    · have he : a.1 + a.2 = b.1 + b.2 := by omega
      have ha : a ∈ rawL M (W - 1) := hp.mem_iff.mp (hab.subset (by simp))
      have hb : b ∈ rawL M (W - 1) := hp.mem_iff.mp (hab.subset (by simp))
      rcases two_or ha hb hne with h2 | h2
      · rcases (List.pairwise_iff_forall_sublist.mp hlx) h2 with h3 | ⟨h3, h4⟩
        · exact .inr ⟨he, h3⟩
        · omega
      · exfalso
        have : sumLe b a = true := by
          unfold sumLe
          rw [decide_eq_true_iff]
          omega
        exact two_not hns hab (List.pair_sublist_mergeSort tr to this h2)
  have hL := landsL_lt W M (W + M - 4)
  have hnl : (landsL W M (W + M - 4)).Nodup := hL.imp fun {a b} h e => by
    subst e
    exact h.irr
  refine List.Perm.eq_of_pairwise (le := SumLt) (fun a b _ _ h1 h2 => ?_) hS hL (hp.trans ((List.perm_ext_iff_of_nodup hnr hnl).mpr fun l => ?_))
  · exfalso
    rcases h1 with h1 | ⟨h1, h3⟩ <;> rcases h2 with h2 | ⟨h2, h4⟩ <;> omega
  · rw [rawL_mem]
    exact ⟨fun ⟨h1, h2, h3, h4, h5⟩ => landsL_memI ⟨h1, by omega, h3, h4, h5⟩, fun h => by
      obtain ⟨h1, h2, h3, h4, h5⟩ := landsL_mem h
      exact ⟨h1, by omega, h3, h4, h5⟩⟩
end WF

set_option Elab.async false
set_option linter.all false
set_option maxRecDepth 100000
set_option maxHeartbeats 400000
/-! WComp2: comprehensions of two loops over ranges; loops over a list of which S tells -/
namespace WF
open PySem L2 Evl
theorem lc2_out {lo : Int} {n : Nat} {g g1 : TG} {tt tt1 : TT} {te : TE} {wi1 : TI} {vs vs1 : List Nat} {σ : L2.St} {H1 : Hp} {Dl : Addr} {Qd : Hp → Prop} (Pv : Nat → Hp → Prop) (h0 : Pv 0 (upd H1 Dl (.lst [])))
    (hs : ∀ i H, i < n → Pv i H → g (.int (lo + i)) (wipe σ vs) H fun σ2 H2 => wipe σ2 vs = wipe σ vs ∧ tt σ2 H2 fun b H3 =>
      if b = true then wi1 σ2 H3 fun J1 H4 => ∃ W1 : Nat → Nat → Hp → Prop, (∃ m, W1 0 m H4) ∧ ∀ j k H, W1 j k H →
        (J1.stop j H ∧ Pv (i + 1) H) ∨ (J1.go j H ∧ ∃ Nx1 : Hp → Prop, (∀ H', Nx1 H' → ∃ k', k' < k ∧ W1 (j + 1) k' H') ∧ ∀ x H', J1.yld j H x H' → g1 x (wipe σ2 vs1) H' fun σ3 H5 => wipe σ3 vs1 = wipe σ2 vs1 ∧ tt1 σ3 H5 fun b H6 =>
          if b = true then te σ3 H6 fun y H7 => ∃ acc, H7 Dl = some (.lst acc) ∧ acc.length < sizeLine ∧ Nx1 (upd H7 Dl (.lst (acc ++ [y]))) else Nx1 H6)
      else Pv (i + 1) H3) (hd : ∀ H, Pv n H → Qd H) :
    ∃ W : Nat → Nat → Hp → Prop, (∃ m, W 0 m (upd H1 Dl (.lst []))) ∧ ∀ i m H, W i m H →
      ((Itr lo n).stop i H ∧ Qd H) ∨ ((Itr lo n).go i H ∧ ∃ Nx : Hp → Prop, (∀ H', Nx H' → ∃ m', m' < m ∧ W (i + 1) m' H') ∧ ∀ x H', (Itr lo n).yld i H x H' → g x (wipe σ vs) H' fun σ2 H2 => wipe σ2 vs = wipe σ vs ∧ tt σ2 H2 fun b H3 =>
        if b = true then wi1 σ2 H3 fun J1 H4 => ∃ W1 : Nat → Nat → Hp → Prop, (∃ m, W1 0 m H4) ∧ ∀ j k H, W1 j k H →
          (J1.stop j H ∧ Nx H) ∨ (J1.go j H ∧ ∃ Nx1 : Hp → Prop, (∀ H', Nx1 H' → ∃ k', k' < k ∧ W1 (j + 1) k' H') ∧ ∀ x H', J1.yld j H x H' → g1 x (wipe σ2 vs1) H' fun σ3 H5 => wipe σ3 vs1 = wipe σ2 vs1 ∧ tt1 σ3 H5 fun b H6 =>
            if b = true then te σ3 H6 fun y H7 => ∃ acc, H7 Dl = some (.lst acc) ∧ acc.length < sizeLine ∧ Nx1 (upd H7 Dl (.lst (acc ++ [y]))) else Nx1 H6)
        else Nx H3) := by
  refine ⟨fun i m H => m = n - i ∧ i ≤ n ∧ Pv i H, ⟨n, rfl, Nat.zero_le _, h0⟩, ?_⟩
  rintro i m H ⟨rfl, hi, hp⟩
  rcases Nat.lt_or_ge i n with hlt | hge
  · refine .inr ⟨hlt, Pv (i + 1), fun H' p' => ⟨n - (i + 1), by omega, rfl, hlt, p'⟩, fun x H' y => ?_⟩
    obtain ⟨e1, e2⟩ := y
    subst e1 e2
    exact hs i _ hlt hp
  · have e : i = n := Nat.le_antisymm hi hge
    subst e
    exact .inl ⟨Nat.le_refl _, hd H hp⟩
theorem lc2_in {lo : Int} {n : Nat} {g1 : TG} {tt1 : TT} {te : TE} {vs1 : List Nat} {σ2 : L2.St} {H4 : Hp} {Dl : Addr} {Nx : Hp → Prop} (Pv : Nat → Hp → Prop) (h0 : Pv 0 H4)
    (hs : ∀ j H, j < n → Pv j H → g1 (.int (lo + j)) (wipe σ2 vs1) H fun σ3 H5 => wipe σ3 vs1 = wipe σ2 vs1 ∧ tt1 σ3 H5 fun b H6 =>
      if b = true then te σ3 H6 fun y H7 => ∃ acc, H7 Dl = some (.lst acc) ∧ acc.length < sizeLine ∧ Pv (j + 1) (upd H7 Dl (.lst (acc ++ [y]))) else Pv (j + 1) H6) (hd : ∀ H, Pv n H → Nx H) :
    ∃ W1 : Nat → Nat → Hp → Prop, (∃ m, W1 0 m H4) ∧ ∀ j k H, W1 j k H →
      ((Itr lo n).stop j H ∧ Nx H) ∨ ((Itr lo n).go j H ∧ ∃ Nx1 : Hp → Prop, (∀ H', Nx1 H' → ∃ k', k' < k ∧ W1 (j + 1) k' H') ∧ ∀ x H', (Itr lo n).yld j H x H' → g1 x (wipe σ2 vs1) H' fun σ3 H5 => wipe σ3 vs1 = wipe σ2 vs1 ∧ tt1 σ3 H5 fun b H6 =>
        if b = true then te σ3 H6 fun y H7 => ∃ acc, H7 Dl = some (.lst acc) ∧ acc.length < sizeLine ∧ Nx1 (upd H7 Dl (.lst (acc ++ [y]))) else Nx1 H6) := by
  refine ⟨fun i m H => m = n - i ∧ i ≤ n ∧ Pv i H, ⟨n, rfl, Nat.zero_le _, h0⟩, ?_⟩
  rintro i m H ⟨rfl, hi, hp⟩
  rcases Nat.lt_or_ge i n with hlt | hge
  · refine .inr ⟨hlt, Pv (i + 1), fun H' p' => ⟨n - (i + 1), by omega, rfl, hlt, p'⟩, fun x H' y => ?_⟩
    obtain ⟨e1, e2⟩ := y
    subst e1 e2
    exact hs i _ hlt hp
  · have e : i = n := Nat.le_antisymm hi hge
    subst e
    exact .inl ⟨Nat.le_refl _, hd H hp⟩
theorem iRng2_ev {ta : TA} {σ : L2.St} {H : Hp} {lo hi : Int} {R : It → Hp → Prop} {n : Nat} (h : EvA ta σ H [.int lo, .int hi]) (hb : -1000000000 ≤ lo ∧ lo ≤ 1000000000 ∧ -1000000000 ≤ hi ∧ hi ≤ 1000000000) (hn : (hi - lo).toNat = n) (k : ∀ H1, Ex H H1 → R (Itr lo n) H1) : iRng2 ta σ H R :=
  h H (Ex.refl H) _ fun H1 e => ⟨lo, hi, rfl, ⟨by omega, by omega, by omega, by omega⟩, by
    rw [hn]
    exact k H1 e⟩
section
variable {K : PySem.W.Frag} {σ : L2.St} {H H' : Hp} {tl : TE} {D : Ends} {tu tz : TS} {S : List V → Hp → Prop}
theorem s_forER {j : Nat} (h : EvR tl σ H fun p H2 => ∃ xs, H2 p = some (.lst xs) ∧ S xs H2) (Pv : Addr → List V → Nat → L2.St → Hp → Prop) (h0 : ∀ p xs H1, H p = none → Ex H H1 → H1 p = some (.lst xs) → S xs H1 → Pv p xs 0 σ H1)
    (hl : ∀ p xs i σ' H', i ≤ xs.length → Pv p xs i σ' H' → SqL K H' p xs) (hs : ∀ p xs i x σ' H', xs[i]? = some x → Pv p xs i σ' H' → tu { D with nx := Pv p xs (i + 1), ct := Pv p xs (i + 1), bk := D.nx } (σ'.set j (some x)) H')
    (hd : ∀ p xs σ' H', Pv p xs xs.length σ' H' → D.nx σ' H') : tFor (iList K tl) (gName j) tu D σ H :=
  h H (Ex.refl H) _ fun p H1 hp e ⟨xs, h1, hS⟩ => ⟨p, rfl, ⟨xs, sq_of h1⟩, for_list (Pv p xs) (h0 p xs H1 hp e h1 hS) (hl p xs) (hs p xs) (hd p xs)⟩
theorem q_forER {j : Nat} (h : EvR tl σ H fun p H2 => ∃ xs, H2 p = some (.lst xs) ∧ S xs H2) (Pv : Addr → List V → Nat → L2.St → Hp → Prop) (h0 : ∀ p xs H1, H p = none → Ex H H1 → H1 p = some (.lst xs) → S xs H1 → Pv p xs 0 σ H1)
    (hl : ∀ p xs i σ' H', i ≤ xs.length → Pv p xs i σ' H' → SqL K H' p xs) (hs : ∀ p xs i x σ' H', xs[i]? = some x → Pv p xs i σ' H' → tu { D with nx := Pv p xs (i + 1), ct := Pv p xs (i + 1), bk := tz D } (σ'.set j (some x)) H')
    (hd : ∀ p xs σ' H', Pv p xs xs.length σ' H' → tz D σ' H') : tSeq (tFor (iList K tl) (gName j) tu) tz D σ H := s_forER (D := { D with nx := tz D }) h Pv h0 hl hs hd
theorem LandL.get : ∀ {xs : List V} {ls : List (Nat × Nat)} {i : Nat} {x : V}, LandL K H xs ls → xs[i]? = some x → ∃ l p, ls[i]? = some l ∧ x = .ref p ∧ SqT K H p [.int (l.1 : Int), .int (l.2 : Int)]
  | _ :: _, l :: _, 0, _, h, e => by
    cases e
    obtain ⟨⟨p, h0, h1⟩, _⟩ := h
    exact ⟨l, p, rfl, h0, h1⟩
  | _ :: xs, _ :: ls, i + 1, x, h, e => LandL.get (xs := xs) (ls := ls) (i := i) (x := x) h.2 e
  | [], [], i, x, _, e => by simp at e
  | [], _ :: _, _, _, h, _ => h.elim
  | _ :: _, [], _, _, h, _ => h.elim
end
section
variable {σ : L2.St} {H : Hp} {D : Ends} {tu tz : TS}
theorem s_forR1N {ta : TA} {j : Nat} {n : Int} (h : EvA ta σ H [.int n]) (hn : -100000 ≤ n ∧ n ≤ 100000) (Pv : Nat → L2.St → Hp → Prop) (h0 : ∀ H1, Ex H H1 → Pv 0 σ H1)
    (hs : ∀ (i : Nat) σ' H', (i : Int) < n → Pv i σ' H' → tu { D with nx := Pv (i + 1), ct := Pv (i + 1), bk := D.nx } (σ'.set j (some (.int (i : Int)))) H') (hd : ∀ σ' H', Pv n.toNat σ' H' → D.nx σ' H') : tFor (iRng1 ta) (gName j) tu D σ H :=
  h H (Ex.refl H) _ fun H1 e => ⟨n, rfl, by omega, by omega, for_range (lo := 0) (n := n.toNat) Pv (h0 H1 e) (fun i σ' H' hi p => by
    have e0 : (0 : Int) + (i : Int) = (i : Int) := Int.zero_add _
    show tu { D with nx := Pv (i + 1), ct := Pv (i + 1), bk := D.nx } (σ'.set j (some (.int ((0 : Int) + (i : Int))))) H'
    rw [e0]
    exact hs i σ' H' (by omega) p) hd⟩
theorem q_forR1N {ta : TA} {j : Nat} {n : Int} (h : EvA ta σ H [.int n]) (hn : -100000 ≤ n ∧ n ≤ 100000) (Pv : Nat → L2.St → Hp → Prop) (h0 : ∀ H1, Ex H H1 → Pv 0 σ H1)
    (hs : ∀ (i : Nat) σ' H', (i : Int) < n → Pv i σ' H' → tu { D with nx := Pv (i + 1), ct := Pv (i + 1), bk := tz D } (σ'.set j (some (.int (i : Int)))) H') (hd : ∀ σ' H', Pv n.toNat σ' H' → tz D σ' H') : tSeq (tFor (iRng1 ta) (gName j) tu) tz D σ H := s_forR1N (D := { D with nx := tz D }) h hn Pv h0 hs hd
end
/-! the first land in which two calendars are unlike -/
def unlikeB (one other : Rows) (l : Nat × Nat) : Int → Bool := fun d => calDay l.1 l.2 one d ^^ calDay l.1 l.2 other d
def unlikeAt (one other : Rows) (l : Nat × Nat) : Option ((Nat × Nat) × Nat) := (daysN (l.1 * l.2) (unlikeB one other l)).head?.map fun d => (l, d)
def unlikeO (one other : Rows) (ls : List (Nat × Nat)) : Option ((Nat × Nat) × Nat) := ls.findSome? (unlikeAt one other)
theorem find_more {α β : Type} {f : α → Option β} : ∀ {l : List α} {i : Nat} {x : α}, l[i]? = some x → (l.take i).findSome? f = none → f x = none → (l.take (i + 1)).findSome? f = none := fun {l i x} h h1 h2 => by
  rw [take_more h, List.findSome?_append, h1]
  simp [h2]
theorem find_hit {α β : Type} {f : α → Option β} {l : List α} {i : Nat} {x : α} {y : β} (h : l[i]? = some x) (h1 : (l.take i).findSome? f = none) (h2 : f x = some y) : l.findSome? f = some y := by
  have hs : l = l.take (i + 1) ++ l.drop (i + 1) := (List.take_append_drop _ _).symm
  rw [hs, take_more h, List.findSome?_append, List.findSome?_append, h1]
  simp [h2]
theorem figN_pos {N : Nat} {q : Int → Bool} (h : daysN N q ≠ []) : figN N q ≠ 0 := fun z => by
  obtain ⟨d, l, e⟩ := List.exists_cons_of_ne_nil h
  have hm : d ∈ daysN N q := by rw [e]; exact List.mem_cons_self
  obtain ⟨h1, h2⟩ := daysN_mem.mp hm
  have := figN_bit N q d
  rw [z, Nat.zero_testBit, h2, decide_eq_true h1] at this
  cases this
theorem figN_nil {N : Nat} {q : Int → Bool} (h : daysN N q = []) : figN N q = 0 := figN_zero fun d hd => by
  cases hq : q (d : Int) with
  | false => rfl
  | true =>
    have : d ∈ daysN N q := daysN_mem.mpr ⟨hd, hq⟩
    rw [h] at this
    cases this
theorem reach_le {rows : Rows} (hl : rows.length ≤ 3) (hb : rowsBys rows ≤ 4) : 3 ≤ reachOf rows ∧ reachOf rows ≤ 10 := by
  unfold reachOf
  have := List.length_filter_le (fun r : Rl × Bool => r.2) rows
  omega
def enoughL (r : Nat) : List (Nat × Nat) := landsL (4 * r + 1) (6 * r + 1) (4 * r + 1 + (6 * r + 1) - 4)
theorem enoughL_ok {r : Nat} (hr : r ≤ 10) {l : Nat × Nat} (h : l ∈ enoughL r) : LandOk l.1 l.2 := by
  obtain ⟨h1, h2, h3, h4, h5⟩ := landsL_mem h
  have : l.1 * l.2 ≤ 41 * 61 := Nat.mul_le_mul (by omega) (by omega)
  exact ⟨h1, h3, by omega, by omega⟩
/-- the answer: None, or a new pair of a land and a day -/
def RetW (K : PySem.W.Frag) (o : Option ((Nat × Nat) × Nat)) (H : Hp) (Q : VK) : Prop := (o = none → RetV .non H Q) ∧ ∀ l d, o = some (l, d) → ∀ t lp H2, Ex H H2 → H2 t = some (.tup [.ref lp, .int (d : Int)]) → SqT K H2 lp [.int (l.1 : Int), .int (l.2 : Int)] → Q (.ref t) H2
theorem RetW.back {K : PySem.W.Frag} {o : Option ((Nat × Nat) × Nat)} {H H' : Hp} {Q : VK} (k : RetW K o H Q) (e : Ex H H') : RetW K o H' Q := ⟨fun h H2 e2 => k.1 h H2 (e.trans e2), fun l d h t lp H2 e2 h1 h2 => k.2 l d h t lp H2 (e.trans e2) h1 h2⟩
end WF

set_option Elab.async false
set_option linter.all false
set_option maxRecDepth 100000
set_option maxHeartbeats 400000
/-! WLen: len(o) by an own __len__ -/
namespace WF
open PySem L2 Evl
section
variable {X : Cx} {CX : CXT} {C : Addr} {n : Nat} {ps : List Str} {sp : Sp} {E : XK}
def rLenO (C : Addr) (sp : Sp) (E : XK) : List V → Hp → VK → Prop := fun xs H Q => ∃ a dx fs, xs = [.ref a] ∧ H a = some (.ins C dx fs) ∧ sp [.ref a] H (fun v H' => ∃ i, v = .int i ∧ 0 ≤ i ∧ i < 2 ^ 63 ∧ Q (.int i) H') E
theorem call_lenO (M : Mtn X.prog X.w X.K X.mg X.base CX C "__len__" n ps sp) (hr : Room (n + 1) X.A) (hx : Passes CX X E) : CallR X (.builtin "len") (rLenO C sp E) := by
  intro pins s σ H xs us Q I rv hq
  obtain ⟨f, fd, hM, hk, F, hb⟩ := M.ex
  obtain ⟨a, dx, fs, rfl, ha, hsp⟩ := hq
  obtain ⟨u, rfl, ru⟩ := vals1 rv
  cases ru
  have sb0 : L2.Sub X (n + 1) X.A := ⟨hr, rfl⟩
  have sb := sb0.in1
  obtain ⟨mA, J0, _⟩ := ins_get I.hok ha
  obtain ⟨od, J, _⟩ := J0.look
  obtain ⟨m, hF⟩ := I.fr
  refine PySem.W.len_K hF I.ok.mod.kin J hM.at_ hM.fn ?_
  have e0 : Env0 X.prog X.w X.K X.mg X.base X.A.in1 X.stack s H := by
    have e := I.env0
    exact ⟨(sb.fr ▸ e.frames : _), e.mod, e.bs, e.bsz, e.funs, e.frf, e.hok, e.bare⟩
  have hl := F.len _ _ _ _ hsp
  have r2 : Vals [V.ref a] [Value.ref a] := .cons rfl .nil
  refine wpAny_call (codeAny_mono (F.run X.A.in1 X.stack s H ⟨[.ref a], []⟩ [.ref a] [.ref a] _ E sb.room e0 (by
    have := hb s [.ref a] I.kIn (by simpa using hl)
    simpa using this) r2 hsp) fun r s' hq => ?_)
  cases r with
  | error e => exact hx pins σ H s e s' I hq
  | ok fl =>
    cases fl with
    | ret w =>
      obtain ⟨z, H', I', rz, i, ez, h0, h1, q⟩ := I.after hq
      cases ez
      obtain ⟨t, rfl⟩ := rz
      refine ⟨⟨h0, h1⟩, .int i, H', ?_, ⟨_, rfl⟩, q⟩
      exact I'.kept (t' := s'.toks + 1) fun b o e => e
    | next => exact hq.elim
    | brk => exact hq.elim
    | cont => exact hq.elim
/-! methods by their names -/
variable {k : Nat} {m : Str} {o e : Expr} {es : List Expr} {ta : TE} {t : TA} {pos apos : Pos}
theorem pe_mt0 {pl : Sem Bool} (M : Mtn X.prog X.w X.K X.mg X.base CX C m k ps sp) (he : PE X o ta) (c : Cls X.K C) (hr : Room k X.A) (hx : Passes CX X E)
    (ht : eval (.Call (.Attribute o m apos) [] [] pos) X.env = (do
      let ov ← eval o X.env
      standAt apos.atName
      let (f, first) ← holding [ov] (getMethod ov m pl)
      callWith pos f first (backTo pos (starEach [] X.env)) (backToKw pos (keywordEach [] X.env))) := by rfl) : PE X (.Call (.Attribute o m apos) [] [] pos) (tMeth C m sp [] E ta tNil) := by
  obtain ⟨f, fd, h1, h2, h3, h4⟩ := M.ex
  exact pe_meth0 he c h1 h3 hr h4 .nil hx ht
/-- o.m(e, ..) that lets out nothing, or within a try -/
def tMtS (C : Addr) (m : Str) (sp : Sp) (E : L2.St → XK) (ta : TE) (t : TA) : TE := fun σ H Q => ta σ H fun x H1 => ∃ a dx fs, x = .ref a ∧ H1 a = some (.ins C dx fs) ∧ fs.lookup m = none ∧ t σ H1 fun vs H2 => sp (x :: vs) H2 Q (E σ)
theorem pe_mtS {pl : Sem Bool} {E : L2.St → XK} (M : Mtn X.prog X.w X.K X.mg X.base CX C m k ps sp) (he : PE X o ta) (c : Cls X.K C) (hr : Room k X.A) (hx : ∀ σ, PassesAt CX X σ (E σ)) (ha : PA X (e :: es) t)
    (hst : starEach (e :: es) X.env = (false, eval e X.env) :: starEach es X.env := by rfl) (hpl : (backTo pos (starEach es X.env)).any (·.1) = false := by rfl)
    (ht : eval (.Call (.Attribute o m apos) (e :: es) [] pos) X.env = (do
      let ov ← eval o X.env
      standAt apos.atName
      let (f, first) ← holding [ov] (getMethod ov m pl)
      callWith pos f first (backTo pos (starEach (e :: es) X.env)) (backToKw pos (keywordEach [] X.env))) := by rfl) : PE X (.Call (.Attribute o m apos) (e :: es) [] pos) (tMtS C m sp E ta t) := by
  obtain ⟨f, fd, hm, hk, F, hb⟩ := M.ex
  refine ⟨fun pins s σ H Q I h => ?_⟩
  refine PySem.W.methodCall_KW (pl := pl) (thn (he.run pins s σ H _ I h) fun u s1 ⟨x, H1, I1, rx, a, dx, fs, ex, ea, l, q⟩ => ?_) ht
  subst ex
  obtain rfl : u = Value.ref a := rx
  refine getmeth_ok I1 ea c hm l ?_
  refine PySem.W.callWith_K (first := [.ref a]) (h₀ := X.base) I.ok.mod.kin hm.kp (thn (ha.run pos pins s1 σ H1 _ I1 q) fun us s2 ⟨vs, H2, I2, r, q2⟩ => ⟨I2.kIn, ?_⟩) hst hpl
  exact run_fnS (us := .ref a :: us) (vs := .ref a :: vs) F hr hb (hx σ) I2 (.cons rfl r) q2
end
section
variable {X : Cx} {CX : CXT} {C f : Addr} {k : Nat} {fd : FuncData} {ps : List Str} {sp : Sp} {m x : Str} {o e : Expr} {es : List Expr} {ta : TE} {t : TA} {p pos apos : Pos}
theorem pe_mt1 {E : XK} {pl : Sem Bool} (M : Mtn X.prog X.w X.K X.mg X.base CX C m k ps sp) (he : PE X o ta) (c : Cls X.K C) (hr : Room k X.A) (hx : Passes CX X E) (ha : PA X (e :: es) t)
    (hst : starEach (e :: es) X.env = (false, eval e X.env) :: starEach es X.env := by rfl) (hpl : (backTo pos (starEach es X.env)).any (·.1) = false := by rfl)
    (ht : eval (.Call (.Attribute o m apos) (e :: es) [] pos) X.env = (do
      let ov ← eval o X.env
      standAt apos.atName
      let (f, first) ← holding [ov] (getMethod ov m pl)
      callWith pos f first (backTo pos (starEach (e :: es) X.env)) (backToKw pos (keywordEach [] X.env))) := by rfl) : PE X (.Call (.Attribute o m apos) (e :: es) [] pos) (tMeth C m sp [] E ta t) := by
  obtain ⟨f, fd, h1, h2, h3, h4⟩ := M.ex
  exact pe_meth he c h1 h3 hr h4 .nil hx ha hst hpl ht
/-- C(e, ..) within a try -/
def tMakeS (C : Addr) (sp : Sp) (E : L2.St → XK) (t : TA) : TE := fun σ H Q => t σ H fun vs H1 => ∀ x dx, H1 x = none → H1 dx = none → dx ≠ x →
  sp (.ref x :: vs) (upd (upd H1 dx (.own x)) x (.ins C dx [])) (fun v H2 => v = .non ∧ Q (.ref x) H2) (E σ)
theorem run_makeS {E : L2.St → XK} {pins : List (Addr × Obj)} {σ : L2.St} {H : Hp} {s : Shared} {Q : VK} {us : List Value} {vs : List V} (M : Mk X.K C f) (F : FnOk X.prog X.w X.K X.mg X.base CX k f fd ps sp) (hr : Room (k + 1) X.A) (hb : Binds X.K fd ps [])
    (hx : ∀ σ, PassesAt CX X σ (E σ)) (I : Inv X pins σ H s) (r : Vals vs us)
    (h : ∀ x dx, H x = none → H dx = none → dx ≠ x → sp (.ref x :: vs) (upd (upd H dx (.own x)) x (.ins C dx [])) (fun v H2 => v = .non ∧ Q (.ref x) H2) (E σ)) :
    wpAny (model X.prog X.w) X.A (call (.ref C) us) (EP X pins σ Q) X.xe s := by
  have hq := h (s.heap.objs.size + 1) s.heap.objs.size (I.hok.fresh (Nat.le_succ _)) (I.hok.fresh (Nat.le_refl _)) (Nat.ne_of_lt (Nat.lt_succ_self _))
  have I2 := Inv.made (C := C) I
  have r2 : Vals (V.ref (s.heap.objs.size + 1) :: (vs ++ [])) (Value.ref (s.heap.objs.size + 1) :: (us ++ [])) := .cons rfl (r.append .nil)
  have hl : (Value.ref (s.heap.objs.size + 1) :: us ++ []).length = ps.length := by
    have e := r2.length
    rw [List.append_nil, F.len _ _ _ _ hq] at e
    exact e.symm
  rw [← List.append_nil vs] at hq
  have hb2 := hb _ (Value.ref (s.heap.objs.size + 1) :: us) I2.kIn hl
  rw [List.cons_append] at hb2
  refine wpAny_call (make_map (f := f) I.kIn M.makes M.init (beq_iff_eq.mp M.fn) (codeAny_mono (F.run _ X.stack _ _ ⟨Value.ref (s.heap.objs.size + 1) :: us, []⟩ (Value.ref (s.heap.objs.size + 1) :: (us ++ [])) _ _ (E σ) (hr.make C us [])
    (I2.env0.make C us []) hb2 r2 hq) fun r s' hq' => ?_))
  cases r with
  | error e => exact hx σ pins _ _ e s' I2 hq'
  | ok fl =>
    cases fl with
    | ret u =>
      obtain ⟨v, H', I3, rv, ev, q3⟩ := I2.after hq'
      subst ev
      exact ⟨rv, ⟨V.ref (s.heap.objs.size + 1), H', I3, rfl, q3⟩⟩
    | next => exact False.elim hq'
    | brk => exact False.elim hq'
    | cont => exact False.elim hq'
theorem pe_mkS {E : L2.St → XK} (M : Mn X.prog X.w X.K X.mg X.base CX C k ps sp) (hr : Room (k + 1) X.A) (gC : X.mg x = some (.ref C)) (hx : ∀ σ, PassesAt CX X σ (E σ)) (hg : Gl X x) (ha : PA X (e :: es) t) (hdb : (x == ("__debug__" : Str)) = false := by decide)
    (he : starEach (e :: es) X.env = (false, eval e X.env) :: starEach es X.env := by rfl) (hpl : (backTo pos (starEach es X.env)).any (·.1) = false := by rfl) : PE X (.Call (.Name x p) (e :: es) [] pos) (tMakeS C sp E t) := by
  obtain ⟨f, fd, h1, h2, h3⟩ := M.ex
  refine ⟨fun pins s σ H Q I h => ?_⟩
  refine wpAny_Call_Name_kw (ld_glob I hg gC ?_ hdb)
  refine PySem.W.callWith_K (h₀ := X.base) I.ok.mod.kin h1.kp (thn (ha.run pos pins s σ H _ I h) fun us s1 ⟨vs, H1, I1, r, q⟩ => ⟨I1.kIn, ?_⟩) he hpl
  exact run_makeS h1 h2 hr h3 hx I1 r q
end
section
variable {K : PySem.W.Frag} {σ : L2.St} {H H' : Hp} {ta tb tc te tv : TE} {x y z v : V} {t : TT} {D : Ends} {tz : TS}
theorem s_fldR {a C dx : Addr} {fs : List (Str × V)} {f : Str} {R : Addr → Hp → Prop} (hv : EvR tv σ H R) (h : ∀ H1, Ev ta σ H1 (.ref a)) (ho : H a = some (.ins C dx fs)) (hc : Cls K C) (hn : NoAttr K C f) (hz : fs.length < 1000)
    (k : ∀ q H1 H2, H q = none → Ex H H1 → R q H1 → Ex H1 H2 → D.nx σ (upd H2 a (.ins C dx (putF f (.ref q) fs)))) : sFld K ta tv f D σ H :=
  hv H (Ex.refl H) _ fun q H1 hq e1 hR => h H1 H1 (Ex.refl H1) _ fun H2 e2 => ⟨a, C, dx, fs, rfl, e2 _ _ (e1 _ _ ho), hc, hn, hz, k q H1 H2 hq e1 hR e2⟩
theorem el_lcR2 {ta : TA} {j : Nat} {vs : List Nat} {lo : Int} {n : Nat} (f : Nat → Bool) (v : Nat → V) (h : EvA ta σ H [.int lo, .int (lo + (n : Int))]) (hb : -1000000000 ≤ lo ∧ lo ≤ 1000000000) (hn : n ≤ 40000) (hw : ∀ x, wipe ((wipe σ vs).set j (some x)) vs = wipe σ vs)
    (ht : ∀ (i : Nat) H1, Ex H H1 → i < n → EvT t ((wipe σ vs).set j (some (.int (lo + (i : Int))))) H1 (f i)) (he : ∀ (i : Nat) H1, Ex H H1 → i < n → f i = true → Ev te ((wipe σ vs).set j (some (.int (lo + (i : Int))))) H1 (v i)) :
    EvL (tLc (iRng2 ta) (gName j) t te vs) σ H (given n f v) := fun H0 e Q q => h H0 e _ fun H1 e1 => by
  have hN : (lo + (n : Int) - lo).toNat = n := by omega
  refine ⟨lo, lo + (n : Int), rfl, ⟨by omega, by omega, by omega, by omega⟩, ?_⟩
  rw [hN]
  exact fun Dl hD => lc_range (lo := lo) (n := n) (Cw H1 f v Dl) ⟨hD, Ex.new hD, upd_same⟩ (fun i H' hi p => ⟨hw _, cw_turn p (by omega) (ht i H1 (e.trans e1) hi) (fun hf => he i H1 (e.trans e1) hi hf)⟩) (fun H' p => q Dl H' (fresh_back e1 p.1) (e1.trans p.2.1) p.2.2)
theorem et_orInt3 {o : Option Int} {b : Bool} (h : Ev ta σ H x) (hx : NumV K H x o) (hb : ∀ z, o = some z → x = .int z → Ev tb σ H (.bl b)) (hn : o = none → b = false) :
    EvT (tOr (tNot (tB (tCB (rIsi K) (tCons ta (tCons (tC (.ty "int")) tNil))))) (tOr (tB (tCB (rIsi K) (tCons ta (tCons (tC (.ty "bool")) tNil)))) (tNot (tTest tb)))) σ H (!b) := by
  cases hx with
  | int z => exact et_is (et_or (et_not (et_B (ev_isi h (ty_int z) kit_ii))) fun _ => et_or (et_B (ev_isi h (ty_int z) kit_ib)) fun _ => et_not (et_test (hb z rfl rfl))) (by cases b <;> rfl)
  | odd hy n =>
    obtain ⟨b1, b2, h1, h2, h3⟩ := n
    rw [hn rfl]
    cases b1 with
    | false => exact et_is (et_or (b := true) (et_not (et_B (ev_isi h hy h1))) fun q => nomatch q) rfl
    | true =>
      have hb2 : b2 = true := by cases b2 <;> simp_all
      subst hb2
      exact et_is (et_or (et_not (et_B (ev_isi h hy h1))) fun _ => et_or (b := true) (et_B (ev_isi h hy h2)) fun q => nomatch q) rfl
theorem q_pop {l : Addr} {xs : List V} {y : V} (hl : H l = some (.lst (xs ++ [y]))) (ha : Ev ta σ H (.ref l)) (k : ∀ H1, Ex H H1 → tz D σ (upd H1 l (.lst xs))) : tSeq (tDrop (tBM0 K "list" rPop ta)) tz D σ H :=
  ha H (Ex.refl H) _ fun H1 e1 => ⟨Or.inl ⟨rfl, _, sq_of (e1 l _ hl)⟩, l, xs ++ [y], y, rfl, rfl, e1 _ _ hl, by simp, by
    rw [List.dropLast_concat]
    exact k H1 e1⟩
end
section
variable {K : PySem.W.Frag} {H : Hp}
theorem LandL.last : ∀ {ls : List (Nat × Nat)} {l : Nat × Nat} {xs : List V}, LandL K H xs (ls ++ [l]) → ∃ ys q, xs = ys ++ [.ref q] ∧ LandL K H ys ls ∧ SqT K H q [.int (l.1 : Int), .int (l.2 : Int)]
  | [], l, [x], h => by
    obtain ⟨⟨q, rfl, hq⟩, _⟩ := h
    exact ⟨[], q, rfl, trivial, hq⟩
  | [], _, [], h => h.elim
  | [], _, _ :: _ :: _, h => h.2.elim
  | a :: ls, l, [], h => h.elim
  | a :: ls, l, x :: xs, h => by
    obtain ⟨h1, h2⟩ := h
    obtain ⟨ys, q, rfl, h3, h4⟩ := LandL.last (ls := ls) h2
    exact ⟨x :: ys, q, rfl, ⟨h1, h3⟩, h4⟩
theorem cut1 (x : V) (xs : List V) : cutV (x :: xs) (some 1) none = xs := by
  unfold cutV
  have h1 : HT.sIx (x :: xs).length 0 (some 1) = 1 := by
    unfold HT.sIx
    simp
  have h2 : HT.sIx (x :: xs).length (x :: xs).length none = (x :: xs).length := rfl
  rw [h1, h2]
  simp
end
end WF

set_option Elab.async false
set_option linter.all false
set_option maxRecDepth 100000
set_option maxHeartbeats 400000
/-! WOwn: == and operators by an own class's methods -/
namespace WF
open PySem L2 Evl
section
variable {X : Cx} {CX : CXT} {C : Addr} {n : Nat} {ps : List Str} {sp : Sp}
/-- o == y by o's own __eq__; y an object of the class, or a tuple -/
def rEqO (K : PySem.W.Frag) (C : Addr) (sp : Sp) (E : XK) : R2 := fun x y H Q => ∃ a b dx fs, x = .ref a ∧ y = .ref b ∧ H a = some (.ins C dx fs) ∧ ((∃ dy gs, H b = some (.ins C dy gs)) ∨ ((∃ ys, SqT K H b ys) ∧ PySem.W.notFirst K C (.type "tuple") = true)) ∧ sp [x, y] H (fun v H' => ∃ t, v = .bl t ∧ Q v H') E
theorem op_eqO {E : XK} (M : Mtn X.prog X.w X.K X.mg X.base CX C "__eq__" n ps sp) (hr : Room n X.A) (hx : Passes CX X E) : OpR X (compareOp .Eq) (rEqO X.K C sp E) := by
  intro pins s σ H x y v u Q I rx ry hq
  obtain ⟨f, fd, hM, hk, F, hb⟩ := M.ex
  obtain ⟨a, b, dx, fs, rfl, rfl, ha, hy, hsp⟩ := hq
  cases rx
  cases ry
  have sb : L2.Sub X n X.A := ⟨hr, rfl⟩
  obtain ⟨mA, J0, _⟩ := ins_get I.hok ha
  obtain ⟨od, J, _⟩ := J0.look
  obtain ⟨m, hF⟩ := I.fr
  obtain ⟨tb, hty, hnf⟩ : ∃ tb, PySem.W.Looks (model X.prog X.w) s.heap (typeOf (.ref b)) tb ∧ PySem.W.notFirst X.K C tb = true := by
    rcases hy with ⟨dy, gs, hb'⟩ | ⟨⟨ys, hT⟩, hn⟩
    · obtain ⟨mB, J1, _⟩ := ins_get I.hok hb'
      obtain ⟨od', J', _⟩ := J1.look
      exact ⟨.ref C, J'.type, by simp [PySem.W.notFirst]⟩
    · obtain ⟨its, r1, ⟨o, ho, hc, _⟩, _⟩ := I.tuple hT
      exact ⟨.type "tuple", fun A Q E s' k q => wpAny_typeOf_ref (k _ _ ho) (by rw [hc]; exact q), hn⟩
  show wpAny (model X.prog X.w) X.A (richCompare .Eq _ _) (EP X pins σ Q) X.xe s
  refine PySem.W.cmp_K (op := .Eq) (tb := tb) sb.room.units0 hF I.ok.mod.kin J hty hnf hM.at_ hM.fn ?_
  have e0 : Env0 X.prog X.w X.K X.mg X.base X.A X.stack s H := I.env0
  have hl := F.len _ _ _ _ hsp
  have r2 : Vals [V.ref a, V.ref b] [Value.ref a, Value.ref b] := .cons rfl (.cons rfl .nil)
  refine wpAny_call (codeAny_mono (F.run X.A X.stack s H ⟨[.ref a, .ref b], []⟩ [.ref a, .ref b] [.ref a, .ref b] _ E sb.room e0 (by
    have := hb s [.ref a, .ref b] I.kIn (by simpa using hl)
    simpa using this) r2 hsp) fun r s' hq => ?_)
  cases r with
  | error e => exact hx pins σ H s e s' I hq
  | ok fl =>
    cases fl with
    | ret w =>
      obtain ⟨z, H', I', rz, t, ez, q⟩ := I.after hq
      subst ez
      cases rz
      exact ⟨.bl t, H', I', rfl, q⟩
    | next => exact False.elim hq
    | brk => exact False.elim hq
    | cont => exact False.elim hq
/-- a op b, both of the class, by a's own method; within a try too -/
def tBinS (C : Addr) (sp : Sp) (E : L2.St → XK) (ta tb : TE) : TE := fun σ H Q => ta σ H fun x H1 => tb σ H1 fun y H2 => ∃ a b dx fs dy gs, x = .ref a ∧ y = .ref b ∧ H2 a = some (.ins C dx fs) ∧ H2 b = some (.ins C dy gs) ∧ sp [x, y] H2 (fun v H' => ∃ r, v = .ref r ∧ Q v H') (E σ)
theorem pe_binS {E : L2.St → XK} {op : Operator} {e1 e2 : Expr} {ta tb : TE} {pos : Pos} (M : Mtn X.prog X.w X.K X.mg X.base CX C (PySem.dunder op.info.2) n ps sp) (hsf : PySem.W.selfFirst X.K C = true) (hr : Room n X.A) (hx : ∀ σ, PassesAt CX X σ (E σ)) (h1 : PE X e1 ta) (h2 : PE X e2 tb) :
    PE X (.BinOp e1 op e2 pos) (tBinS C sp E ta tb) := by
  obtain ⟨f, fd, hM, hk, F, hb⟩ := M.ex
  refine ⟨fun pins s σ H Q I h => ?_⟩
  refine wpAny_BinOp (binT (R := fun x y H2 => ∃ a b dx fs dy gs, x = .ref a ∧ y = .ref b ∧ H2 a = some (.ins C dx fs) ∧ H2 b = some (.ins C dy gs) ∧ sp [x, y] H2 (fun v H' => ∃ r, v = .ref r ∧ Q v H') (E σ)) h1 h2 I h fun v u s2 x y H2 I2 rx ry q => ?_)
  obtain ⟨a, b, dx, fs, dy, gs, rfl, rfl, ha, hb', hsp⟩ := q
  cases rx
  cases ry
  have sb : L2.Sub X n X.A := ⟨hr, rfl⟩
  obtain ⟨mA, J0, _⟩ := ins_get I2.hok ha
  obtain ⟨od, J, _⟩ := J0.look
  obtain ⟨mB, J1, _⟩ := ins_get I2.hok hb'
  obtain ⟨od', J', _⟩ := J1.look
  obtain ⟨m, hF⟩ := I2.fr
  refine PySem.W.binop_K hF I2.ok.mod.kin J J'.type hsf hM.at_ hM.fn ?_
  have e0 : Env0 X.prog X.w X.K X.mg X.base X.A X.stack s2 H2 := I2.env0
  have hl := F.len _ _ _ _ hsp
  have r2 : Vals [V.ref a, V.ref b] [Value.ref a, Value.ref b] := .cons rfl (.cons rfl .nil)
  refine wpAny_call (codeAny_mono (F.run X.A X.stack s2 H2 ⟨[.ref a, .ref b], []⟩ [.ref a, .ref b] [.ref a, .ref b] _ (E σ) hr e0 (by
    have := hb s2 [.ref a, .ref b] I2.kIn (by simpa using hl)
    simpa using this) r2 hsp) fun r s' hq => ?_)
  cases r with
  | error e => exact hx σ pins H2 s2 e s' I2 hq
  | ok fl =>
    cases fl with
    | ret w =>
      obtain ⟨z, H', I', rz, t, ez, q⟩ := I2.after hq
      subst ez
      cases rz
      exact ⟨.ref t, H', I', rfl, q⟩
    | next => exact False.elim hq
    | brk => exact False.elim hq
    | cont => exact False.elim hq
end
/-! rules as data -/
def dRl : Rl → PyData
  | .wk k => .tuple [.str "weekday", .int k]
  | .fs k => .tuple [.str "first", .int k]
  | .md k => .tuple [.str "monthday", .int k]
  | .bh r b => .tuple [.str "behind", dRl r, .int b]
  | .bo x y => .tuple [.str "both", dRl x, dRl y]
  | .ei x y => .tuple [.str "either", dRl x, dRl y]
  | .wo x y => .tuple [.str "without", dRl x, dRl y]
theorem dp_rl {K : PySem.W.Frag} {H : Hp} {v : V} {r : Rl} (h : RlAt K H v r) : Dp K H v (dRl r) := by
  induction h with
  | wk h => exact .tup h (.cons (.str _) (.cons (.int _) .nil))
  | fs h => exact .tup h (.cons (.str _) (.cons (.int _) .nil))
  | md h => exact .tup h (.cons (.str _) (.cons (.int _) .nil))
  | bh h _ i => exact .tup h (.cons (.str _) (.cons i (.cons (.int _) .nil)))
  | bo h _ _ i j => exact .tup h (.cons (.str _) (.cons i (.cons j .nil)))
  | ei h _ _ i j => exact .tup h (.cons (.str _) (.cons i (.cons j .nil)))
  | wo h _ _ i j => exact .tup h (.cons (.str _) (.cons i (.cons j .nil)))
theorem dRl_lay : ∀ r : Rl, (dRl r).canLay0 = true
  | .wk k | .fs k | .md k => by simp only [dRl, PyData.canLay0, PyData.canLayAll0]; decide +kernel
  | .bh r b => by
    simp only [dRl, PyData.canLay0, PyData.canLayAll0, dRl_lay r]
    decide +kernel
  | .bo x y | .ei x y | .wo x y => by
    simp only [dRl, PyData.canLay0, PyData.canLayAll0, dRl_lay x, dRl_lay y]
    decide +kernel
theorem dRl_depth : ∀ r : Rl, (dRl r).depth ≤ r.dep + 1
  | .wk k | .fs k | .md k => by simp [dRl, PyData.depth, PyData.depthAll, Rl.dep]
  | .bh r b => by
    have := dRl_depth r
    simp only [dRl, PyData.depth, PyData.depthAll, Rl.dep]
    omega
  | .bo x y | .ei x y | .wo x y => by
    have h1 := dRl_depth x
    have h2 := dRl_depth y
    simp only [dRl, PyData.depth, PyData.depthAll, Rl.dep]
    omega
theorem dRl_shaped {r : Rl} (h : r.dep ≤ 50) : SeqAt.shaped (dRl r) = true := by
  unfold SeqAt.shaped
  rw [dRl_lay, Bool.true_and, decide_eq_true_iff]
  have := dRl_depth r
  omega
theorem dRl_self : ∀ r : Rl, PyData.eqv (dRl r) (dRl r) = true
  | .wk k | .fs k | .md k => by simp [dRl, PyData.eqv, PyData.eqvAll]
  | .bh r b => by simp [dRl, PyData.eqv, PyData.eqvAll, dRl_self r]
  | .bo x y | .ei x y | .wo x y => by simp [dRl, PyData.eqv, PyData.eqvAll, dRl_self x, dRl_self y]
theorem ev_eqRl {K : PySem.W.Frag} {σ : L2.St} {H : Hp} {ta tb : TE} {u v : V} {r s : Rl} (h1 : Ev ta σ H u) (h2 : Ev tb σ H v) (hr : RlAt K H u r) (hs : RlAt K H v s) (d1 : r.dep ≤ 50) (d2 : s.dep ≤ 50) : Ev (tOp (rEqD K) ta tb) σ H (.bl (PyData.eqv (dRl r) (dRl s))) :=
  ev_op h1 h2 fun H1 e Q q => ⟨dRl r, dRl s, dp_rl (hr.mono e), dp_rl (hs.mono e), dRl_shaped d1, dRl_shaped d2, q H1 (Ex.refl H1)⟩
def okRl (r : Rl) : Bool := decide (r.parts ≤ 5 ∧ r.bys ≤ 4)
end WF

set_option Elab.async false
set_option linter.all false
set_option maxRecDepth 100000
set_option maxHeartbeats 2000000
/-! WSup: an own error's __init__ that says super().__init__("X") ahead of its stores -/
namespace WF
open PySem L2 Evl PyProof.Rows
open PySem.W (ksEnv ksFn kxs_mw)
structure SupFn (P : Program) (K : PySem.W.Frag) (C : Addr) (qual : Str) (st : Stmt) (f : Addr) (fd : FuncData) (cc cda : Addr) : Prop where
  lk : ∃ oc od osl dV kV doc pm an ct, fd = ksFn "__init__" qual (defArgs st) (defBody st) (defScope st) dV kV doc pm an (.ref cda) ct cc ∧ K.lookup f = some ⟨oc, od, .func fd, osl⟩
  hcd : PySem.W.codeIn K (.ref cda) qual = true
  kp : PySem.W.keepIn K (.ref f) = true
  code : ∃ ccl cdd vs ccs file tf, K.lookup cda = some ⟨ccl, cdd, .fields vs, ccs⟩ ∧ vs[2]? = some (.str file tf) ∧ ((P.main.file : Str) == file) = true
  cell : ∃ cl cld csl, K.lookup cc = some ⟨cl, cld, .cell (some (.ref C)), csl⟩
  mro : PySem.W.mroIn K C (.ref C) = some true
  nsup : PySem.W.nsIn K mainGlobals "super" = some none
  top : (P.main.scope.names.lookup ("super" : Str)).isSome = false
  any : PySem.W.nsIn K cStatics "thirdparty.any" = some none
  sup : PySem.W.ks_superIn K C C "__init__" = some (some (.builtin "ValueError.__init__"))
  subV : PySem.W.subIn K (.ref C) (.type "ValueError") = some true
/-- the context of such an __init__ -/
def cxS (CX : CXT) (P : Program) (w : World) (K : PySem.W.Frag) (mg : Str → Option Value) (base : Heap) (N : List Str) (qual : Str) (scope : Scope) (f cda cc : Addr) (A : Around) (outer : List Env) (s : Shared) (H : Hp) (E : XK) : Cx where
  prog := P
  w := w
  K := K
  mg := mg
  base := base
  A := A.deeper (ksEnv qual scope s.heap.objs.size f (.ref cda) cc)
  N := N
  s_0 := s
  H_0 := H
  env := ksEnv qual scope s.heap.objs.size f (.ref cda) cc
  outer := outer
  stack := ksEnv qual scope s.heap.objs.size f (.ref cda) cc :: outer
  ex := []
  calm := true
  fn := fun x => x != ("__class__" : Str)
  pn := []
  xe := fun e s' => wpAny (model P w) (A.deeper (ksEnv qual scope s.heap.objs.size f (.ref cda) cc)) (leaving (ksEnv qual scope s.heap.objs.size f (.ref cda) cc) e) (fun _ s'' => CX outer H s E e s'') (fun e' s'' => CX outer H s E e' s'') s'
structure ScopeS (ps : List Str) (sc : Scope) : Prop where
  kind : sc.kind = .function
  co : sc.isCoroutine = false
  gen : sc.isGenerator = false
  nd : ps.Nodup
  par : ∀ x ∈ ps, sc.names.lookup x = some .local
  only : ∀ y ∈ sc.names, y.2 ≠ .cell ∧ (y.2 = .free → y.1 = ("__class__" : Str))
  sup : sc.names.lookup ("super" : Str) = some .globalImplicit
  cls : sc.names.lookup ("__class__" : Str) = some .free
theorem look_mem : ∀ {l : List (Str × Value)} {x : Str} {u : Value}, (l.map (·.1)).Nodup → (x, u) ∈ l → l.lookup x = some u
  | (y, v) :: l, x, u, hn, hm => by
    rw [List.map_cons, List.nodup_cons] at hn
    rcases List.mem_cons.mp hm with e | hm
    · cases e
      rw [List.lookup_cons, beq_self_eq_true]
    · have hne : x ≠ y := fun z => hn.1 (List.mem_map.mpr ⟨(x, u), hm, z⟩)
      have hb : (x == y) = false := beq_eq_false_iff_ne.mpr hne
      rw [List.lookup_cons, hb]
      exact look_mem hn.2 hm
theorem zip_look {ps : List Str} {us : List Value} (hn : ps.Nodup) {i : Nat} {x : Str} {u : Value} (h1 : ps[i]? = some x) (h2 : us[i]? = some u) : (ps.zip us).reverse.lookup x = some u := by
  refine look_mem ?_ ?_
  · rw [List.map_reverse]
    have hs : ((ps.zip us).map (·.1)).Sublist ps := by
      clear h1 h2 hn
      induction ps generalizing us with
      | nil => simp
      | cons p ps ih =>
        cases us with
        | nil => simp
        | cons u us => exact List.cons_sublist_cons.mpr ih
    exact List.pairwise_reverse.mpr ((hn.sublist hs).imp fun h => h.symm)
  · rw [List.mem_reverse]
    refine List.mem_of_getElem? (i := i) ?_
    rw [List.getElem?_zip_eq_some]
    exact ⟨h1, h2⟩
theorem inv_startS {CX : CXT} {P : Program} {w : World} {K : PySem.W.Frag} {mg : Str → Option Value} {base : Heap} {ps : List Str} {qual : Str} {scope : Scope} {f cda cc : Addr} {A : Around} {outer : List Env} {s : Shared} {h1 : Heap} {t : Nat} {H : Hp} {E : XK} {us : List Value} {vs : List V} {ocl : Obj} {vcl : Option Value}
    (S : ScopeS ps scope) (hd : A.handled = none) (e0 : Env0 P w K mg base A outer s H) (hl : vs.length = ps.length) (r : Vals vs us) (hcc : K.lookup cc = some ocl) (hcv : ocl.data = .cell vcl)
    (hns : h1.Ns s.heap.objs.size (fun x => (ps.zip us).reverse.lookup x)) (hk : ∀ b o, s.heap.get? b = some o → h1.get? b = some o) :
    Inv (cxS CX P w K mg base ps qual scope f cda cc A outer s H E) [] (L2.start ps vs) H { s with heap := h1, toks := t } := by
  have hb : base.get? cc = some ocl := e0.mod.kin _ _ hcc
  have noA : ∀ b : Addr, b ∉ (cxS CX P w K mg base ps qual scope f cda cc A outer s H E).ex := fun b z => absurd (show b ∈ ([] : List Addr) from z) (by simp)
  have lk : ∀ x c, (cxS CX P w K mg base ps qual scope f cda cc A outer s H E).env.cells.lookup x = some c → x = ("__class__" : Str) ∧ c = cc := fun x c h => by
    have h : ([(("__class__" : Str), cc)] : List (Str × Addr)).lookup x = some c := h
    rw [List.lookup_cons] at h
    split at h
    · rename_i q
      exact ⟨beq_iff_eq.mp q, (Option.some.inj h).symm⟩
    · cases h
  refine ⟨⟨e0.mod, S.kind, rfl, rfl, Nat.le_refl _, fun x y c h1 h2 => (lk x c h1).1.trans (lk y c h2).1.symm, fun x hx => ?_, fun x c hf h => ?_, fun _ => hd, Around.frames_deeper e0.frames, .inr ⟨rfl, rfl⟩, fun b z => absurd z (noA b), e0.bs, e0.bsz, fun b _ _ => noA b, fun b z => absurd z (noA b), e0.funs, e0.frf⟩,
    rfl, e0.bare, Un.kept hk, ⟨_, hns, fun i x v h1 h2 h3 => ?_⟩, fun x c h => ?_, e0.hok.fresh (Nat.le_refl _), fun x c h => ?_, fun p hp => absurd (show p ∈ ([] : List (Addr × Obj)) from hp) (by simp), e0.hok.kept hk, ?_⟩
  · have hx' : scope.names.lookup x = some .cell ∨ scope.names.lookup x = some .free := hx
    rcases hx' with hx' | hx'
    · exact absurd rfl (S.only _ (PySem.mem_of_lookup hx')).1
    · have := (S.only _ (PySem.mem_of_lookup hx')).2 rfl
      have this : x = ("__class__" : Str) := this
      subst this
      exact ⟨cc, by show ([(("__class__" : Str), cc)] : List (Str × Addr)).lookup _ = _; rw [List.lookup_cons, beq_self_eq_true]⟩
  · rw [(lk x c h).1] at hf
    have hf : (("__class__" : Str) != ("__class__" : Str)) = true := hf
    rw [bne_self_eq_false] at hf
    cases hf
  · have hi : i < vs.length := by
      unfold L2.start at h2
      by_cases hi : i < vs.length
      · exact hi
      · rw [List.getElem?_append_right (by simpa using hi)] at h2
        rw [List.getElem?_replicate] at h2
        split at h2 <;> cases h2
    have ha : vs[i]? = some v := by
      unfold L2.start at h2
      rw [List.getElem?_append_left (by simpa using hi), List.getElem?_map] at h2
      cases e : vs[i]? with
      | none => rw [e] at h2; cases h2
      | some a => rw [e] at h2; cases h2; rfl
    obtain ⟨u, hu, rv⟩ := r.get ha
    have h1' : ps[i]? = some x := h1
    exact ⟨u, rv, .inl ⟨S.par x (List.mem_of_getElem? h1'), zip_look S.nd h1' hu⟩⟩
  · rw [(lk x c h).2]
    exact ⟨vcl, ocl, hk _ _ (e0.bs _ _ hb).1, hcv⟩
  · rw [(lk x c h).2]
    exact (e0.bs _ _ hb).2
  · unfold L2.start
    show _ = ps.length
    rw [List.length_append, List.length_map, List.length_replicate]
    omega
section
variable {prog : Program} {w : World} {A : Around} {E : Value → Shared → Prop} {h : Heap} {g : Array GenState} {d : Drawn} {t : Nat} {os : OsState}
variable {nm q : Str} {C N : Addr} {bs bm : List Value} {hdct : Bool} {sn : List Str} {sub : List Value} {ab : Bool} {col : Option Bool} {dd : Option Addr} {k0 k1 k2 k3 k5 : Option Value}
theorem call_bwV {u e t0 : Addr} {rest : List Value} {Q : Value → Shared → Prop}
    (hC : h.get? C = some (excClassObj nm q C N bs bm hdct sn sub ab col dd k0 k1 k2 k3 k5 "ValueError.__new__")) (he : h.get? e = some (PySem.HandSPX.excO C t0)) (hu : h.get? u = some (kxs_mw "ValueError.__init__" e)) (hrest : rest.length ≤ sizeLine)
    (hq : ∀ h' t1, (∀ b o, b ≠ e → h.get? b = some o → h'.get? b = some o) → h'.get? e = some (PySem.HandSPX.excO C t1) → Q .none ⟨h', g, d, t, os⟩) :
    wpAny (model prog w) A (call (.ref u) rest) Q E ⟨h, g, d, t, os⟩ := by
  refine wpAny_call (codeAny_of_tree ?_)
  show wpAny _ A.in1 (callAny (.ref u) ⟨rest, []⟩) _ _ _
  simp only [callAny]
  refine wpAny_bind (wpAny_load hu ?_)
  simp only [kxs_mw, show (Value.type "method-wrapper" == Value.type "method" || Value.type "method-wrapper" == Value.type "builtin_function_or_method" || Value.type "method-wrapper" == Value.type "method-wrapper") = true by decide, if_true]
  refine PySem.W.KFB.if_so (by decide) ?_
  refine wpAny_bind (PySem.ESX.check_bound F.excBase_ValueError hC he rfl ?_)
  refine wpAny_bind (wpAny_pure (wpAny_pure ?_))
  refine ⟨Code.quiet_builtin _ (by decide +kernel), codeAny_builtin F.excBase_ValueError.initEntry ?_⟩
  rw [Around.under_plainId F.excBase_ValueError.init.plain _]
  wp_walk
  refine hq _ h.objs.size (fun b o hb ho => ?_) ?_
  · rw [Heap.get?_update_other _ _ (Ne.symm hb)]
    exact Heap.get?_push_of_some _ ho
  · rw [Heap.get?_update_self _ (Heap.get?_push_of_some _ he) rfl]
    rfl
end

/-- THE RULE: an __init__ that says super().__init__(text), then the rest -/
theorem fn_sup {CX : CXT} {P : Program} {w : World} {K : PySem.W.Frag} {mg : Str → Option Value} {base : Heap} {k : Nat} {C f cc cda : Addr} {fd : FuncData} {qual : Str} {st : Stmt} {ps : List Str} {sp : Sp} {rest : List Stmt} {p0 p1 p2 pos epos cp : Pos} {ktx : Nat} {tx : Str} {ap : Arg}
    (SF : SupFn P K C qual st f fd cc cda) (hsup : mg "super" = none) (S : ScopeS ps (defScope st)) (len : ∀ vs H Q E, sp vs H Q E → vs.length = ps.length)
    (hp : ((defArgs st).posonlyargs ++ (defArgs st).args).head? = some ap) (h0 : ps[0]? = some ap.arg)
    (hbd : defBody st = .Expr (.Call (.Attribute (.Call (.Name "super" p0) [] [] p1) "__init__" p2) [.Constant (.str tx) ktx cp] [] pos) epos :: rest)
    (he : ∀ env : Env, ∃ pl : Sem Bool, eval (.Call (.Attribute (.Call (.Name "super" p0) [] [] p1) "__init__" p2) [.Constant (.str tx) ktx cp] [] pos) env = (do
      let ov ← attributeBase (.Call (.Name "super" p0) [] [] p1) "__init__" env (eval (.Call (.Name "super" p0) [] [] p1) env)
      standAt p2.atName
      let (f, first) ← holding [ov] (getMethod ov "__init__" pl)
      callWith pos f first (backTo pos (starEach [.Constant (.str tx) ktx cp] env)) []))
    (hbody : ∀ (A : Around) (outer : List Env) (s : Shared) (H : Hp) (vs : List V) (Q : VK) (E : XK), Room k (A.deeper (ksEnv qual (defScope st) s.heap.objs.size f (.ref cda) cc)) → sp vs H Q E →
      OexC K C ∧ (∃ a, vs[0]? = some (.ref a) ∧ H a = some (exo a C none)) ∧ ∃ t, PSs (cxS CX P w K mg base ps qual (defScope st) f cda cc A outer s H E) rest t ∧ t { nx := fun _ H' => Q .non H', rt := Q } (L2.start ps vs) H) :
    FnOk P w K mg base CX (k + 1) f fd ps sp := by
  obtain ⟨oc, od, osl, dV, kV, doc, pm, an, ct, rfl, lk⟩ := SF.lk
  obtain ⟨ccl, cdd, vsC, ccs, file, tf, hcode, hvs, hfile⟩ := SF.code
  obtain ⟨cl, cld, csl, hcell⟩ := SF.cell
  refine ⟨len, fun A outer s H args us vs Q E hr e0 hb r hsp => ?_⟩
  have hl := len _ _ _ _ hsp
  have KX : K.In s.heap := e0.mod.kin.keeps fun b o e => (e0.bs b o e).1
  have lim : s.heap.NoLimit := e0.mod.nolimit.keeps fun b o e => (e0.bs b o e).1
  obtain ⟨T, ⟨a, hva, hHa⟩, t, ht, hq⟩ := hbody A outer s H vs Q E (hr.deeper _) hsp
  refine ks_codeAny_call_defAt (fd := ksFn "__init__" qual (defArgs st) (defBody st) (defScope st) dV kV doc pm an (.ref cda) ct cc) (body := defBody st) (binds := ps.zip us) hr.depth (KX _ _ lk) rfl lim (PySem.W.codeRec_of KX SF.hcd) rfl hb (fun x hx => (S.only x hx).1) (fun x hx => S.par _ (List.of_mem_zip hx).1) (fun h1 hns hk1 => ?_) S.co S.gen S.kind
  have I : Inv (cxS CX P w K mg base ps qual (defScope st) f cda cc A outer s H E) [] (L2.start ps vs) H { s with heap := h1, toks := s.toks + (ps.zip us).length } := inv_startS S hr.hd e0 hl r hcell rfl hns hk1
  have X1 : K.In h1 := I.kIn
  obtain ⟨u0, hu0, rv0⟩ := r.get hva
  cases rv0
  rw [hbd]
  obtain ⟨pl, hev⟩ := he (ksEnv qual (defScope st) s.heap.objs.size f (.ref cda) cc)
  refine ks_wpAt_execs_cons (ks_wpAt_Expr_any (ks_wpAt_MethodCall ?_ hev) (show interactive (ksEnv qual (defScope st) s.heap.objs.size f (.ref cda) cc) = false by simp [interactive, Env.blockKind, S.kind]))
  · refine ks_wpAt_super_base (env := ksEnv qual (defScope st) s.heap.objs.size f (.ref cda) cc) S.sup S.cls (by decide) rfl (X1 _ _ lk) rfl hp rfl (X1 _ _ hcode) rfl hvs hfile SF.top ?_
    obtain ⟨mb, hb1, hb2⟩ := I.mod.blt
    refine PySem.W.ks_loadName_global S.kind S.sup (PySem.Calls.loadGlobal_builtin (env := ksEnv qual (defScope st) s.heap.objs.size f (.ref cda) cc) (I.mod.glob.keeps I.bk) hsup (hb1.keeps I.bk) ((hb2 (Str.ofString "super") (by decide)).trans (show bootBuiltins (Str.ofString "super") = some (.type "super") by decide +kernel)) ⟨rfl, ?_⟩)
    refine wpAny_loadName_free S.kind S.cls rfl ⟨_, X1 _ _ hcell, rfl⟩ ?_
    refine wpAny_loadName_local S.kind (S.par _ (List.mem_of_getElem? h0)) hns (zip_look S.nd h0 hu0) ?_
    obtain ⟨nm, q, N, bs, bm, sn, sub, ab, col, dd, k0, k1, k2, k3, k5, hC, hbm⟩ := T.cls
    have hcl : PySem.W.clsIn K C = some { name := nm, bases := bs, mro := .ref C :: bm, ns := N, qualname := q, hasDict := true, slotNames := sn, subclasses := sub, abstract := ab, collection := col, hasDel := false } := by unfold PySem.W.clsIn; rw [hC] <;> rfl
    obtain ⟨t1, ho⟩ := exo_at I.hok hHa
    have hne : a ≠ C := fun z => by
      rw [z] at ho
      have e := X1 _ _ hC
      rw [show h1.get? C = _ from ho] at e
      have e2 := congrArg Obj.data (Option.some.inj e)
      cases e2
    refine ks_wpAny_isType_cls (X1 _ _ hC) rfl ⟨rfl, ?_⟩
    refine ks_wpAny_call_super (X1 _ _ hC) rfl ho rfl (fun c e => nomatch e) (PySem.W.looks_mroIn X1 SF.mro) (fun h2 hso k2' => ?_)
    have X2 : K.In h2 := fun b o q => k2' b o (X1 b o q)
    have I2 := I.kept (t' := s.toks + (ps.zip us).length) k2'
    have hsup2 := SF.sup
    unfold PySem.W.ks_superIn at hsup2
    rw [hcl, Option.bind_some] at hsup2
    refine PySem.W.kxs_getMethod PySem.W.kxs_ValueError hso (PySem.W.looks_opaque X2 SF.any) (l₀ := .ref C :: bm) (fun A Q E s k q => wpAny_bind ((PySem.W.looks_clsIn X2 hcl) A _ E s k (wpAny_pure q))) rfl X2 hsup2 ((PySem.W.InstAt.type (C := C) (od := none) ⟨k2' _ _ ho, rfl, rfl, trivial⟩).andThen (PySem.W.looks_subIn X2 SF.subV)) hne (by decide) ?_
    have hu : (h2.push (kxs_mw "ValueError.__init__" a)).get? h2.objs.size = some (kxs_mw "ValueError.__init__" a) := Heap.get?_push_at rfl rfl
    have k3' : ∀ b o, h2.get? b = some o → (h2.push (kxs_mw "ValueError.__init__" a)).get? b = some o := fun b o e => Heap.get?_push_of_some _ e
    have I3 := I2.kept (t' := s.toks + (ps.zip us).length + 1 + 1) k3'
    refine PySem.W.kxs_callWith (i := "ValueError.__init__") (x := a) rfl (PySem.Calls.evalArgs_plain (PySem.Calls.spliced_cons (PySem.Calls.Constant_str (k := ktx) (pos := cp) (PySem.Calls.spliced_nil ⟨hu, ?_⟩))))
    obtain ⟨t3, ho3⟩ := exo_at I3.hok hHa
    refine call_bwV (k3' _ _ (X2 _ _ hC)) ho3 hu (by show 1 ≤ sizeLine; decide) fun h4 t4 k4 hx4 => ?_
    have I4 := I3.write (t' := s.toks + (ps.zip us).length + 1 + 1) (x := a) (e := a) (o := exo a C none) (by rw [hHa]; exact True.intro) (.inl rfl) k4 ⟨_, hx4⟩ (exo_ok hx4)
    have eu : upd H a (exo a C none) = H := by
      funext b
      by_cases hb : b = a
      · rw [hb, upd_same, hHa]
      · rw [upd_ne hb]
    rw [eu] at I4
    refine wpAt_of_wpAny (wpAny_mono (ht.run [] _ _ H _ I4 hq) (fun fl s' hs => ?_) fun e s' hs => hs)
    have fin : ∀ {σ' : L2.St} {H' : Hp} {v : V} {u : Value}, Inv (cxS CX P w K mg base ps qual (defScope st) f cda cc A outer s H E) [] σ' H' s' → RelV v u → Q v H' → CE outer P w H s Q u s' :=
      fun {σ' H' v u} J rv q => ⟨v, H', J.os, J.bare, J.base, J.hok, rv, q⟩
    cases fl with
    | ret u =>
      obtain ⟨v, σ', H', J, rv, q⟩ := hs
      exact fin J rv q
    | next =>
      obtain ⟨σ', H', J, q⟩ := hs
      exact fin (v := V.non) (u := Value.none) J rfl q
    | brk =>
      obtain ⟨_, _, _, q⟩ := hs
      exact False.elim q
    | cont =>
      obtain ⟨_, _, _, q⟩ := hs
      exact False.elim q
/-! what such an error keeps; raised -/
def spE1 (C : Addr) (f : Str) : Sp := fun vs H Q _ => ∃ a v, vs = [.ref a, v] ∧ H a = some (exo a C none) ∧ ∀ dx, H dx = none → dx ≠ a → Q .non (upd (upd H dx (exd dx [(f, v)])) a (exo a C (some dx)))
def spE2 (C : Addr) (f g : Str) : Sp := fun vs H Q _ => ∃ a u v, vs = [.ref a, u, v] ∧ H a = some (exo a C none) ∧ ∀ dx, H dx = none → dx ≠ a → Q .non (upd (upd (upd H dx (exd dx [(f, u)])) a (exo a C (some dx))) dx (exd dx [(g, v), (f, u)]))
structure MnE (P : Program) (w : World) (K : PySem.W.Frag) (mg : Str → Option Value) (base : Heap) (C : Addr) (k : Nat) (sp : Sp) : Prop where
  ex : ∃ (f : Addr) (fd : FuncData) (ps : List Str), PySem.W.findIn K (.ref C) "__init__" = some (some (.ref f)) ∧ PySem.W.typeIn K (.ref f) = some (.type "function") ∧ FnOk P w K mg base CX0 k f fd ps sp ∧ Binds K fd ps []
  ox : OexC K C
/-- what the top says of such a class -/
structure ErrS (P : Program) (K : PySem.W.Frag) (C : Addr) (qual : Str) (st : Stmt) (ps fs : List Str) : Prop where
  ox : OexC K C
  sup : ∃ f fd cc cda, SupFn P K C qual st f fd cc cda ∧ PySem.W.findIn K (.ref C) "__init__" = some (some (.ref f)) ∧ PySem.W.typeIn K (.ref f) = some (.type "function") ∧ Binds K fd ps []
  xf : XfC K C
  no : ∀ x ∈ fs, PySem.W.findIn K (.ref C) x = some none
  is : PySem.W.isClsIn K C = true
  se : PySem.W.subIn K (.ref C) (.ref C) = some true
theorem ErrS.self {P : Program} {K : PySem.W.Frag} {C : Addr} {qual : Str} {st : Stmt} {ps fs : List Str} (h : ErrS P K C qual st ps fs) : PySem.W.exmOne K (.ref C) (.ref C) = some true := by
  unfold PySem.W.exmOne
  rw [h.ox.exC, if_pos (by rfl)]
  unfold PySem.W.kitCls
  have h2 : (PySem.W.clsIn K C).isSome = true := h.is
  simp only [h2, h.ox.tyC, h.se]
  rfl
section
variable {X : Cx} {C : Addr} {k : Nat} {sp : Sp} {x : Str} {e : Expr} {es : List Expr} {p pos pos2 : Pos} {ta : TA}
theorem ps_raiseS {W : WX} (hc : X.calm = true) (tk : Takes X W) (M : MnE X.prog X.w X.K X.mg X.base C k sp) (hr : Room (k + 1) X.A) (gC : X.mg x = some (.ref C)) (hg : Gl X x) (ha : PA X (e :: es) ta) (hdb : (x == ("__debug__" : Str)) = false := by decide)
    (he : starEach (e :: es) X.env = (false, eval e X.env) :: starEach es X.env := by rfl) (hpl : (backTo pos (starEach es X.env)).any (·.1) = false := by rfl) :
    PS X (.Raise (some (.Call (.Name x p) (e :: es) [] pos)) none pos2) (fun _ σ H => tMkO C sp [] ta σ H fun cls d H' => W cls d σ H') := by
  obtain ⟨f, fd, ps, h1, h2, h3, h4⟩ := M.ex
  exact ps_raise hc tk (pmk_oex M.ox h1 h2 h3 hr h4 .nil (fun _ _ _ _ _ _ _ z => z.elim) hg gC ha hdb he hpl)
end
theorem raise1 {C : Addr} {f : Str} {σ : L2.St} {H : Hp} {ta : TA} {v : V} {W : WX} (h : EvA ta σ H [v]) (k : ∀ d H2, Ex H H2 → H d = none → H2 d = some (.xd [(f, v)]) → W (.ref C) (some d) σ H2) : tMkO C (spE1 C f) [] ta σ H (fun cls d H' => W cls d σ H') :=
  h H (Ex.refl H) _ fun H1 e1 => ⟨by show 1 ≤ 1000; decide, fun a ha => ⟨a, v, rfl, upd_same, fun dx hdx hne => by
    have hdx' : H1 dx = none := by
      rw [upd_ne hne] at hdx
      exact hdx
    refine ⟨rfl, dx, [(f, v)], upd_same, ?_, hdx', k dx _ (fun b o hb => ?_) (fresh_back e1 hdx') upd_same⟩
    · rw [upd_ne hne]
      exact upd_same
    · have hb1 := e1 _ _ hb
      have n1 : b ≠ dx := ne_of_none hb1 hdx'
      have n2 : b ≠ a := ne_of_none hb1 ha
      rw [upd_ne n1, del_ne n2, upd_ne n2, upd_ne n1, upd_ne n2]
      exact hb1⟩⟩
end WF

set_option Elab.async false
set_option linter.all false
set_option maxRecDepth 100000
set_option maxHeartbeats 400000
/-! WNear: raw rows, cut and put together -/
namespace WF
open PySem L2 Evl
/-! ### x == [] -/
def rEqEL (K : PySem.W.Frag) : R2 := fun x y H Q => ∃ p q xs, x = .ref p ∧ y = .ref q ∧ SqL K H p xs ∧ SqL K H q [] ∧ Q (.bl xs.isEmpty) H
theorem op_eqEL {X : Cx} (hu : X.A.units + 1 < cLine) : OpR X (compareOp .Eq) (rEqEL X.K) := by
  intro pins s σ H x y v u Q I rx ry h
  obtain ⟨p, q, xs, rfl, rfl, h1, h2, hq⟩ := h
  cases rx
  cases ry
  obtain ⟨its, r, pl, hz⟩ := I.list h1
  obtain ⟨its2, r2, pl2, hz2⟩ := I.list h2
  have e2 : its2 = [] := by
    have := r2.length
    exact List.length_eq_zero_iff.mp (by simpa using this.symm)
  subst e2
  cases xs with
  | nil =>
    have e : its = [] := List.length_eq_zero_iff.mp (by simpa using r.length.symm)
    subst e
    refine SeqAt.RcAt.lists (A := X.A) (e := fun _ => true) pl.isList pl2.isList rfl (by omega) (fun j h1 h2 => absurd h2 (by simp)) _ _ _ _ ?_
    exact ⟨.bl _, H, I, rfl, hq⟩
  | cons a l =>
    refine SeqAt.RcAt.lists_lengths (A := X.A) pl.isList pl2.isList ?_ (by omega) _ _ _ _ ?_
    · have := r.length
      cases its with
      | nil => simp at this
      | cons b l2 => simp
    · exact ⟨.bl _, H, I, rfl, hq⟩
def leafV : List V := [.str "weekday", .str "first", .str "monthday"]
theorem w1_weekday : inV (.str "weekday") pairsV = false := by decide +kernel
theorem w2_weekday : inV (.str "weekday") leafV = true := by decide +kernel
theorem w1_first : inV (.str "first") pairsV = false := by decide +kernel
theorem w2_first : inV (.str "first") leafV = true := by decide +kernel
theorem w1_monthday : inV (.str "monthday") pairsV = false := by decide +kernel
theorem w2_monthday : inV (.str "monthday") leafV = true := by decide +kernel
theorem w1_behind : inV (.str "behind") pairsV = false := by decide +kernel
theorem w2_behind : inV (.str "behind") leafV = false := by decide +kernel
theorem w1_both : inV (.str "both") pairsV = true := by decide +kernel
theorem w2_both : inV (.str "both") leafV = false := by decide +kernel
theorem w1_either : inV (.str "either") pairsV = true := by decide +kernel
theorem w2_either : inV (.str "either") leafV = false := by decide +kernel
theorem w1_without : inV (.str "without") pairsV = true := by decide +kernel
theorem w2_without : inV (.str "without") leafV = false := by decide +kernel
def pairB : Rl → Bool
  | .bo _ _ | .ei _ _ | .wo _ _ => true
  | _ => false
def leafB : Rl → Bool
  | .wk _ | .fs _ | .md _ => true
  | _ => false
theorem sl_listK {X : Cx} {K : PySem.W.Frag} (hK : X.K = K := by rfl) : SlR X (rSlL K) := by
  subst hK
  exact sl_list
section
variable {K : PySem.W.Frag} {σ : L2.St} {H H' : Hp} {ta tb tc te tu : TE} {tl th : TO} {v x : V} {xs ys : List V} {rows rows' : Rows} {r : Rl} {D : Ends} {b : Bool}
theorem ev_eqEL {a : Addr} (h : Ev ta σ H (.ref a)) (hs : SqL K H a xs) : Ev (tOp (rEqEL K) ta (tLst tNil)) σ H (.bl xs.isEmpty) := fun H1 e Q q =>
  h H1 e _ fun H2 e2 => ⟨Nat.zero_le _, fun p hp => ⟨a, p, xs, rfl, rfl, ex_l ((e.trans e2).trans (Ex.new hp)) hs, sq_of upd_same, q _ (e2.trans (Ex.new hp))⟩⟩
theorem RlAt.word (h : RlAt K H v r) : ∃ p s ys, v = .ref p ∧ SqT K H p (.str s :: ys) ∧ inV (.str s) pairsV = pairB r ∧ inV (.str s) leafV = leafB r := by
  cases h with
  | wk h => exact ⟨_, _, _, rfl, h, w1_weekday, w2_weekday⟩
  | fs h => exact ⟨_, _, _, rfl, h, w1_first, w2_first⟩
  | md h => exact ⟨_, _, _, rfl, h, w1_monthday, w2_monthday⟩
  | bh h _ => exact ⟨_, _, _, rfl, h, w1_behind, w2_behind⟩
  | bo h _ _ => exact ⟨_, _, _, rfl, h, w1_both, w2_both⟩
  | ei h _ _ => exact ⟨_, _, _, rfl, h, w1_either, w2_either⟩
  | wo h _ _ => exact ⟨_, _, _, rfl, h, w1_without, w2_without⟩
theorem et_pairB {i : Nat} (hi : σ[i]? = some (some v)) (h : RlAt K H v r) : EvT (tTest (tOp (rIn K false) (tOp (rIxT K) (tVar i) (tC (.int 0))) (tTup (tCons (tC (.str "both")) (tCons (tC (.str "either")) (tCons (tC (.str "without")) tNil)))))) σ H (pairB r) := by
  obtain ⟨p, s, ys, rfl, hT, h1, h2⟩ := h.word
  exact et_is (et_test (ev_inU (xs := pairsV) (ev_ixT (ev_var hi) hT at0) (eu_tup (ea_cons ev_c (ea_cons ev_c (ea_cons ev_c ea_nil))) (by show 3 ≤ 100000; decide)) rfl rfl)) h1
theorem et_leafB {i : Nat} (hi : σ[i]? = some (some v)) (h : RlAt K H v r) : EvT (tTest (tOp (rIn K false) (tOp (rIxT K) (tVar i) (tC (.int 0))) (tTup (tCons (tC (.str "weekday")) (tCons (tC (.str "first")) (tCons (tC (.str "monthday")) tNil)))))) σ H (leafB r) := by
  obtain ⟨p, s, ys, rfl, hT, h1, h2⟩ := h.word
  exact et_is (et_test (ev_inU (xs := leafV) (ev_ixT (ev_var hi) hT at0) (eu_tup (ea_cons ev_c (ea_cons ev_c (ea_cons ev_c ea_nil))) (by show 3 ≤ 100000; decide)) rfl rfl)) h2
theorem RawL.app : ∀ {xs ys : List V} {rs ss : Rows}, RawL K H xs rs → RawL K H ys ss → RawL K H (xs ++ ys) (rs ++ ss)
  | [], _, [], _, _, h => h
  | _ :: _, _, _ :: _, _, h, g => ⟨h.1, RawL.app h.2 g⟩
  | [], _, _ :: _, _, h, _ => h.elim
  | _ :: _, _, [], _, h, _ => h.elim
theorem RawL.take : ∀ {xs : List V} {rs : Rows} (n : Nat), RawL K H xs rs → RawL K H (xs.take n) (rs.take n)
  | [], [], n, _ => by simp; trivial
  | _ :: _, _ :: _, 0, h => trivial
  | _ :: _, _ :: _, n + 1, h => ⟨h.1, RawL.take n h.2⟩
  | [], _ :: _, _, h => h.elim
  | _ :: _, [], _, h => h.elim
theorem RawL.drop : ∀ {xs : List V} {rs : Rows} (n : Nat), RawL K H xs rs → RawL K H (xs.drop n) (rs.drop n)
  | [], [], n, _ => by simp; trivial
  | _ :: _, _ :: _, 0, h => h
  | _ :: _, _ :: _, n + 1, h => RawL.drop n h.2
  | [], _ :: _, _, h => h.elim
  | _ :: _, [], _, h => h.elim
theorem RawL.rev : ∀ {xs : List V} {rs : Rows}, RawL K H xs rs → RawL K H xs.reverse rs.reverse
  | [], [], _ => trivial
  | x :: xs, r :: rs, h => by
    rw [List.reverse_cons, List.reverse_cons]
    exact RawL.snoc (RawL.rev h.2) h.1
  | [], _ :: _, h => h.elim
  | _ :: _, [], h => h.elim
theorem cut_take {k : Nat} (h : k ≤ xs.length) : cutV xs none (some (k : Int)) = xs.take k := by
  unfold cutV
  have h1 : HT.sIx xs.length 0 none = 0 := rfl
  rw [h1, HT.sIx_nat, List.drop_zero, Nat.min_eq_left h, Nat.sub_zero]
theorem cut_drop {k : Nat} : cutV xs (some (k : Int)) none = xs.drop k := by
  unfold cutV
  have h1 : HT.sIx xs.length xs.length none = xs.length := rfl
  rw [h1, HT.sIx_nat]
  rcases Nat.le_total k xs.length with h | h
  · rw [Nat.min_eq_left h]
    exact List.take_of_length_le (by rw [List.length_drop]; exact Nat.le_refl _)
  · rw [Nat.min_eq_right h, List.drop_eq_nil_of_le (Nat.le_refl _), List.drop_eq_nil_of_le h, List.take_nil]
/-- a new list of raw rows -/
def RawN (K : PySem.W.Frag) (rows : Rows) (p : Addr) (H : Hp) : Prop := ∃ ys, H p = some (.lst ys) ∧ RawL K H ys rows
theorem RawN.mono {p : Addr} (e : Ex H H') (h : RawN K rows p H) : RawN K rows p H' := by
  obtain ⟨ys, h1, h2⟩ := h
  exact ⟨ys, e _ _ h1, h2.kn (KeepN.of e)⟩
theorem er_rawC (h1 : EvR ta σ H (RawN K rows)) (h2 : EvR tb σ H (RawN K rows')) (hn : rows.length + rows'.length ≤ 100) : EvR (tOp rCat ta tb) σ H (RawN K (rows ++ rows')) := fun H1 e Q q =>
  h1 H1 e _ fun p H2 hp e2 ⟨ys, k1, l1⟩ => h2 H2 (e.trans e2) _ fun p2 H3 hp2 e3 ⟨zs, k2, l2⟩ => ⟨p, p2, ys, zs, rfl, rfl, e3 _ _ k1, k2, Evl.sz_of (by rw [l1.len, l2.len]; omega), fun p3 hp3 => q p3 _ (fresh_back (e2.trans e3) hp3) ((e2.trans e3).trans (Ex.new hp3)) ⟨ys ++ zs, upd_same, (l1.kn (KeepN.of (e3.trans (Ex.new hp3)))).app (l2.kn (KeepN.of (Ex.new hp3)))⟩⟩
theorem er_rawA {a : Addr} {i k : Nat} (h : Ev ta σ H (.ref a)) (hs : SqL K H a xs) (hl : RawL K H xs rows) (hk : Ev te σ H (.int (k : Int))) (hz : k ≤ rows.length) : EvR (tSl (rSlL K) ta tNoPart (tPart te)) σ H (RawN K (rows.take k)) := fun H1 e Q q =>
  el_sl h eo_none (eo_some hk) hs H1 e Q fun p H2 hp e2 h2 => q p H2 hp e2 ⟨_, h2, by rw [cut_take (by rw [hl.len]; exact hz)]; exact (hl.take k).kn (KeepN.of (e.trans e2))⟩
theorem er_rawB {a : Addr} {i k : Nat} (h : Ev ta σ H (.ref a)) (hs : SqL K H a xs) (hl : RawL K H xs rows) (hk : Ev te σ H (.int (k : Int))) : EvR (tSl (rSlL K) ta (tPart te) tNoPart) σ H (RawN K (rows.drop k)) := fun H1 e Q q =>
  el_sl h (eo_some hk) eo_none hs H1 e Q fun p H2 hp e2 h2 => q p H2 hp e2 ⟨_, h2, by rw [cut_drop]; exact (hl.drop k).kn (KeepN.of (e.trans e2))⟩
theorem er_raw1 {r : Rl × Bool} (h : EvX tu σ H fun y H2 => RawAt K H2 y r) : EvR (tLst (tCons tu tNil)) σ H (RawN K [r]) := fun H1 e Q q =>
  h H1 e _ fun y H2 e2 hy => ⟨by show 1 ≤ sizeLine; decide, fun p hp => q p _ (fresh_back e2 hp) (e2.trans (Ex.new hp)) ⟨[y], upd_same, hy.kn (KeepN.of (Ex.new hp)), trivial⟩⟩
/-- (rule, truth), the rule itself made on the way -/
theorem ex_raw (ha : EvX ta σ H fun v H2 => RlAt K H2 v r) (hb : ∀ H1, Ev tb σ H1 (.bl b)) : EvX (tTup (tCons ta (tCons tb tNil))) σ H fun y H2 => RawAt K H2 y (r, b) := fun H1 e Q q =>
  ha H1 e _ fun v H2 e2 hv => hb H2 H2 (Ex.refl H2) _ fun H3 e3 => ⟨by show 2 ≤ sizeLine; decide, fun p hp => q _ _ ((e2.trans e3).trans (Ex.new hp)) ⟨p, v, rfl, st_of upd_same, hv.mono (e3.trans (Ex.new hp))⟩⟩
theorem er_rawR {a : Addr} (h : Ev ta σ H (.ref a)) (hs : SqL K H a xs) (hl : RawL K H xs rows) : EvR (tRevL K ta) σ H (RawN K rows.reverse) := fun H1 e Q q =>
  h H1 e _ fun H2 e2 => ⟨a, xs, rfl, ex_l (e.trans e2) hs, fun p hp => q p _ (fresh_back e2 hp) (e2.trans (Ex.new hp)) ⟨_, upd_same, hl.rev.kn (KeepN.of ((e.trans e2).trans (Ex.new hp)))⟩⟩
theorem er_rawV {a : Addr} (h : Ev ta σ H (.ref a)) (hs : H a = some (.lst xs)) (hl : RawL K H xs rows) : ∀ H1, Ex H H1 → ∀ Q : VK, (∀ H2, Ex H1 H2 → RawN K rows a H2 → Q (.ref a) H2) → ta σ H1 Q := fun H1 e Q q =>
  h H1 e _ fun H2 e2 => q H2 e2 ⟨xs, (e.trans e2) _ _ hs, hl.kn (KeepN.of (e.trans e2))⟩
/-- xs + [..], xs one that stands -/
theorem er_rawC1 {a : Addr} (h : Ev ta σ H (.ref a)) (hs : H a = some (.lst xs)) (hl : RawL K H xs rows) (h2 : EvR tb σ H (RawN K rows')) (hn : rows.length + rows'.length ≤ 100) : EvR (tOp rCat ta tb) σ H (RawN K (rows ++ rows')) := fun H1 e Q q =>
  h H1 e _ fun H2 e2 => h2 H2 (e.trans e2) _ fun p2 H3 hp2 e3 ⟨zs, k2, l2⟩ => ⟨a, p2, xs, zs, rfl, rfl, ((e.trans e2).trans e3) _ _ hs, k2, Evl.sz_of (by rw [hl.len, l2.len]; omega), fun p3 hp3 => q p3 _ (fresh_back (e2.trans e3) hp3) ((e2.trans e3).trans (Ex.new hp3)) ⟨xs ++ zs, upd_same, (hl.kn (KeepN.of (((e.trans e2).trans e3).trans (Ex.new hp3)))).app (l2.kn (KeepN.of (Ex.new hp3)))⟩⟩
end
/-! ### rows of which one is put, left out -/
theorem bys_app (a b : Rows) : rowsBys (a ++ b) = rowsBys a + rowsBys b := by
  unfold rowsBys
  rw [List.map_append, List.sum_append]
theorem bys_split {rows : Rows} {k : Nat} {r : Rl × Bool} (h : rows[k]? = some r) : rowsBys rows = rowsBys (rows.take k) + r.1.bys + rowsBys (rows.drop (k + 1)) := by
  have hs : rows = rows.take (k + 1) ++ rows.drop (k + 1) := (List.take_append_drop _ _).symm
  conv => lhs; rw [hs]
  rw [bys_app, take_more h, bys_app]
  unfold rowsBys
  simp
theorem rows_out {n : Nat} {rows : Rows} {k : Nat} {r : Rl × Bool} (h : rows[k]? = some r) (ok : RowsOk n rows) : RowsOk n (rows.take k ++ rows.drop (k + 1)) := by
  have := ok.bys
  have hs := bys_split h
  refine ⟨by rw [bys_app]; omega, fun q hq => ok.fit q ?_⟩
  rcases List.mem_append.mp hq with hq | hq
  · exact List.mem_of_mem_take hq
  · exact List.mem_of_mem_drop hq
theorem rows_put {n : Nat} {rows : Rows} {k : Nat} {r q : Rl × Bool} (h : rows[k]? = some r) (ok : RowsOk n rows) (hb : q.1.bys ≤ r.1.bys) (hf : q.1.fit = true) (hp : q.1.parts ≤ n) : RowsOk n ((rows.take k ++ [q]) ++ rows.drop (k + 1)) := by
  have := ok.bys
  have hs := bys_split h
  refine ⟨?_, fun z hz => ?_⟩
  · rw [bys_app, bys_app]
    have : rowsBys [q] = q.1.bys := by unfold rowsBys; simp
    omega
  · rcases List.mem_append.mp hz with hz | hz
    · rcases List.mem_append.mp hz with hz | hz
      · exact ok.fit z (List.mem_of_mem_take hz)
      · rw [List.mem_singleton] at hz
        subst hz
        exact ⟨hf, hp⟩
    · exact ok.fit z (List.mem_of_mem_drop hz)
theorem out_len {rows : Rows} {k : Nat} {r : Rl × Bool} (h : rows[k]? = some r) : (rows.take k ++ rows.drop (k + 1)).length ≤ rows.length := by
  rw [List.length_append, List.length_take, List.length_drop]
  have := (List.getElem?_eq_some_iff.mp h).1
  omega
theorem put_len {rows : Rows} {k : Nat} {r q : Rl × Bool} (h : rows[k]? = some r) : ((rows.take k ++ [q]) ++ rows.drop (k + 1)).length = rows.length := by
  rw [List.length_append, List.length_append, List.length_take, List.length_drop]
  have := (List.getElem?_eq_some_iff.mp h).1
  simp
  omega
theorem rows_rev {n : Nat} {rows : Rows} (ok : RowsOk n rows) : RowsOk n rows.reverse := by
  refine ⟨?_, fun q hq => ok.fit q (List.mem_reverse.mp hq)⟩
  have : rowsBys rows.reverse = rowsBys rows := by
    unfold rowsBys
    rw [List.map_reverse, List.sum_reverse]
  rw [this]
  exact ok.bys
theorem rows_snoc {n : Nat} {rows : Rows} {q : Rl × Bool} (ok : RowsOk n rows) (hb : q.1.bys = 0) (hf : q.1.fit = true) (hp : q.1.parts ≤ n) : RowsOk n (rows ++ [q]) := by
  have := ok.bys
  refine ⟨?_, fun z hz => ?_⟩
  · rw [bys_app]
    have : rowsBys [q] = q.1.bys := by unfold rowsBys; simp
    omega
  · rcases List.mem_append.mp hz with hz | hz
    · exact ok.fit z hz
    · rw [List.mem_singleton] at hz
      subst hz
      exact ⟨hf, hp⟩
theorem RowsOk.mono {n m : Nat} {rows : Rows} (ok : RowsOk n rows) (h : n ≤ m) : RowsOk m rows := ⟨ok.bys, fun r hr => ⟨(ok.fit r hr).1, Nat.le_trans (ok.fit r hr).2 h⟩⟩
/-- the two within change places -/
def swapR : Rl → Rl
  | .bo x y => .bo y x
  | .ei x y => .ei y x
  | .wo x y => .wo y x
  | r => r
theorem swap_bys : ∀ r : Rl, (swapR r).bys = r.bys ∧ (swapR r).parts = r.parts ∧ (swapR r).fit = r.fit
  | .wk _ | .fs _ | .md _ | .bh _ _ => ⟨rfl, rfl, rfl⟩
  | .bo x y | .ei x y | .wo x y => ⟨Nat.add_comm _ _, by show 1 + y.parts + x.parts = 1 + x.parts + y.parts; omega, Bool.and_comm _ _⟩
end WF

set_option Elab.async false
set_option linter.all false
set_option maxRecDepth 100000
set_option maxHeartbeats 400000
/-! WTup: tuples of rows, cut and put together -/
namespace WF
open PySem L2 Evl PyProof.Rows
theorem sw2 {x y : Str} {f g : Expr} {as bs : List Expr} {pa pb px py pt : Pos} {kt k2 pt2} {env : Env} (hb : env.blockKind = .function) (hx : env.scope.names.lookup x = some .local) (hy : env.scope.names.lookup y = some .local) (hl : py.line = px.line) (hn : (x == y) = false) :
    swappedStores [.Tuple [.Name x px, .Name y py] kt pt] (.Tuple [.Call f as [] pa, .Call g bs [] pb] k2 pt2) env = pure (some [x, y]) := by
  have h1 : foldedForSure 8 (.Call f as [] pa) = false := rfl
  have h3 : constantsAlone 8 (.Call f as [] pa) = false := rfl
  have hn' : (y == x) = false := by
    rw [beq_eq_false_iff_ne] at hn ⊢
    exact hn.symm
  have p1 : (Expr.Name x px).pos = px := rfl
  unfold swappedStores
  simp only [hb]
  simp [h1, h3, List.eraseDups_cons, hn, hn', Env.kindOf, hx, hy, hl, List.filterMap_cons, p1]
def rCatTA (K : PySem.W.Frag) : R2 := fun x y H Q => ∃ a b xs ys, x = .ref a ∧ y = .ref b ∧ SqT K H a xs ∧ SqT K H b ys ∧ xs.length + ys.length ≤ sizeLine ∧ (xs = [] → Q (.ref b) H) ∧ (xs ≠ [] → ys = [] → Q (.ref a) H) ∧ (xs ≠ [] → ys ≠ [] → ∀ p, H p = none → Q (.ref p) (upd H p (.tup (xs ++ ys))))
theorem op_catTA {X : Cx} : OpR X (binaryOp .Add) (rCatTA X.K) := by
  intro pins s σ H x y v u Q I rx ry h
  have h' := h
  obtain ⟨a, b, xs, ys, rfl, rfl, ha, hb, hz, q0, q1, q2⟩ := h
  by_cases hx : xs = []
  · cases rx
    cases ry
    obtain ⟨its, r1, p1, _⟩ := I.tuple ha
    obtain ⟨its2, r2, p2, _⟩ := I.tuple hb
    have hv : its = [] := r1.nil_iff.mpr hx
    obtain ⟨⟨cls, dd, data, sl⟩, ho, hc, n, hd⟩ := id p1
    obtain ⟨⟨cls2, dd2, data2, sl2⟩, ho2, hc2, n2, hd2⟩ := id p2
    simp only at hc hd hc2 hd2
    subst hc hd hc2 hd2
    exact concat_meets ⟨_, ho, rfl⟩ ⟨_, ho2, rfl⟩ noFill_tuple_add seq_tuple_add PySem.F.slot_tuple_add PySem.F.entry_tuple_add (PySem.F.args_tuple_add_2 _ _)
      (tuple_addW0 a b its.toArray its2.toArray n n2 dd dd2 sl sl2 (by simp [hv])) ⟨ho, ho2, ⟨.ref b, H, I, rfl, q0 hx⟩⟩
  · exact op_catT pins s σ H (.ref a) (.ref b) v u Q I rx ry ⟨a, b, xs, ys, rfl, rfl, ha, hb, hx, hz, q1 hx, q2 hx⟩
section
variable {K : PySem.W.Frag} {CF : Addr} {σ : L2.St} {H H' : Hp} {ta tb tc te tu : TE} {tl th : TO} {v x : V} {xs ys : List V} {rows rows' : Rows} {D : Ends}
theorem RowsL.app : ∀ {xs ys : List V} {rs ss : Rows}, RowsL K CF H xs rs → RowsL K CF H ys ss → RowsL K CF H (xs ++ ys) (rs ++ ss)
  | [], _, [], _, _, h => h
  | _ :: _, _, _ :: _, _, h, g => ⟨h.1, RowsL.app h.2 g⟩
  | [], _, _ :: _, _, h, _ => h.elim
  | _ :: _, _, [], _, h, _ => h.elim
theorem RowsL.take : ∀ {xs : List V} {rs : Rows} (n : Nat), RowsL K CF H xs rs → RowsL K CF H (xs.take n) (rs.take n)
  | [], [], n, _ => by simp; trivial
  | _ :: _, _ :: _, 0, h => trivial
  | _ :: _, _ :: _, n + 1, h => ⟨h.1, RowsL.take n h.2⟩
  | [], _ :: _, _, h => h.elim
  | _ :: _, [], _, h => h.elim
theorem RowsL.drop : ∀ {xs : List V} {rs : Rows} (n : Nat), RowsL K CF H xs rs → RowsL K CF H (xs.drop n) (rs.drop n)
  | [], [], n, _ => by simp; trivial
  | _ :: _, _ :: _, 0, h => h
  | _ :: _, _ :: _, n + 1, h => RowsL.drop n h.2
  | [], _ :: _, _, h => h.elim
  | _ :: _, [], _, h => h.elim
theorem ex_rowsA {a : Addr} {k : Nat} (h : Ev ta σ H (.ref a)) (hs : SqT K H a xs) (hl : RowsL K CF H xs rows) (hk : Ev te σ H (.int (k : Int))) (hz : k < rows.length) : EvX (tSl (rSlT K) ta tNoPart (tPart te)) σ H (fun y H2 => ∃ p, y = .ref p ∧ SqT K H2 p (xs.take k)) := fun H1 e Q q =>
  h H1 e _ fun H2 e2 => hk H2 (e.trans e2) _ fun H3 e3 => ⟨(k : Int), rfl, a, xs, rfl, ex_t ((e.trans e2).trans e3) hs, (fun z => by
    have hl' := hl.len
    rw [HT.sIx_nat, Nat.min_eq_left (by omega)] at z
    omega), fun p hp => q (.ref p) _ ((e2.trans e3).trans (Ex.new hp)) ⟨p, rfl, by
      rw [← cut_take (xs := xs) (k := k) (by rw [hl.len]; omega)]
      exact st_of upd_same⟩⟩
theorem ex_rowsB {a : Addr} {k : Nat} (h : Ev ta σ H (.ref a)) (hs : SqT K H a xs) (hk : Ev te σ H (.int (k : Int))) (hz : 1 ≤ k) (hn : 1 ≤ xs.length) : EvX (tSl (rSlT K) ta (tPart te) tNoPart) σ H (fun y H2 => ∃ p, y = .ref p ∧ SqT K H2 p (xs.drop k)) := fun H1 e Q q =>
  h H1 e _ fun H2 e2 => hk H2 (e.trans e2) _ fun H3 e3 => ⟨(k : Int), rfl, a, xs, rfl, ex_t ((e.trans e2).trans e3) hs, (fun z => by
    rw [HT.sIx_nat] at z
    omega), fun p hp => q (.ref p) _ ((e2.trans e3).trans (Ex.new hp)) ⟨p, rfl, by
      rw [← cut_drop (xs := xs) (k := k)]
      exact st_of upd_same⟩⟩
theorem ex_catT (h1 : EvX ta σ H fun y H2 => ∃ p, y = .ref p ∧ SqT K H2 p xs) (h2 : EvX tb σ H fun y H2 => ∃ p, y = .ref p ∧ SqT K H2 p ys) (hz : xs.length + ys.length ≤ 100000) : EvX (tOp (rCatTA K) ta tb) σ H fun y H2 => ∃ p, y = .ref p ∧ SqT K H2 p (xs ++ ys) := fun H1 e Q q =>
  h1 H1 e _ fun y1 H2 e2 ⟨p1, hy1, k1⟩ => h2 H2 (e.trans e2) _ fun y2 H3 e3 ⟨p2, hy2, k2⟩ => ⟨p1, p2, xs, ys, hy1, hy2, ex_t e3 k1, k2, Evl.sz_of hz, (fun hx => by
    subst hx
    exact q _ H3 (e2.trans e3) ⟨p2, rfl, k2⟩), (fun _ hy => by
    subst hy
    exact q _ H3 (e2.trans e3) ⟨p1, rfl, by rw [List.append_nil]; exact ex_t e3 k1⟩), fun _ _ p hp => q _ _ ((e2.trans e3).trans (Ex.new hp)) ⟨p, rfl, st_of upd_same⟩⟩
/-- (*xs, a, b, *ys) -/
theorem ex_starT {tx ty : TE} {a b : V} (h1 : EvX tx σ H fun y H2 => ∃ p, y = .ref p ∧ SqT K H2 p xs) (ha : Ev ta σ H a) (hb : Ev tb σ H b) (h2 : EvX ty σ H fun y H2 => ∃ p, y = .ref p ∧ SqT K H2 p ys) (hz : xs.length + ys.length ≤ 10000) :
    EvX (tTup (StX.tStar K tx (tCons ta (tCons tb (StX.tStar K ty tNil))))) σ H fun y H2 => ∃ p, y = .ref p ∧ SqT K H2 p (xs ++ ([a, b] ++ ys)) := fun H1 e Q q =>
  h1 H1 e _ fun y1 H2 e2 ⟨p1, hy1, k1⟩ => ⟨p1, xs, hy1, .inl k1, ha H2 (e.trans e2) _ fun H3 e3 => hb H3 ((e.trans e2).trans e3) _ fun H4 e4 => h2 H4 (((e.trans e2).trans e3).trans e4) _ fun y2 H5 e5 ⟨p2, hy2, k2⟩ => ⟨p2, ys, hy2, .inl k2, by
    refine ⟨Evl.sz_of (by simp; omega), fun p hp => q _ _ ((((e2.trans e3).trans e4).trans e5).trans (Ex.new hp)) ⟨p, rfl, ?_⟩⟩
    have : upd H5 p (.tup (xs ++ a :: b :: (ys ++ []))) p = some (.tup (xs ++ ([a, b] ++ ys))) := by
      rw [List.append_nil]
      exact upd_same
    exact st_of this⟩⟩
end
/-- a row left out; two that change places -/
def outRow (rows : Rows) (k : Nat) : Rows := rows.take k ++ rows.drop (k + 1)
def swapRow (rows : Rows) (k : Nat) : Rows := rows.take k ++ ([rows.getD (k + 1) (.wk 0, false), rows.getD k (.wk 0, false)] ++ rows.drop (k + 2))
theorem dep_lt : ∀ {rows : Rows}, depMax rows < 5 ↔ ∀ r ∈ rows, r.1.dep < 5
  | [] => ⟨fun _ _ h => (nomatch h), fun _ => (by decide : 0 < 5)⟩
  | a :: rows => by
    have ih := dep_lt (rows := rows)
    have e : depMax (a :: rows) = max a.1.dep (depMax rows) := rfl
    constructor
    · intro h r hr
      rw [e] at h
      rcases List.mem_cons.mp hr with rfl | hr
      · omega
      · exact ih.mp (by omega) r hr
    · intro h
      rw [e]
      have h1 := h a List.mem_cons_self
      have h2 := ih.mpr fun r hr => h r (List.mem_cons_of_mem _ hr)
      omega
theorem out_mem {rows : Rows} {k : Nat} {r : Rl × Bool} (h : r ∈ outRow rows k) : r ∈ rows := by
  rcases List.mem_append.mp h with h | h
  · exact List.mem_of_mem_take h
  · exact List.mem_of_mem_drop h
theorem swap_mem {rows : Rows} {k : Nat} (hk : k + 1 < rows.length) {r : Rl × Bool} (h : r ∈ swapRow rows k) : r ∈ rows := by
  rcases List.mem_append.mp h with h | h
  · exact List.mem_of_mem_take h
  · rcases List.mem_append.mp h with h | h
    · simp only [List.mem_cons, List.not_mem_nil, or_false] at h
      rcases h with rfl | rfl
      · exact getD_mem hk
      · exact getD_mem (by omega)
    · exact List.mem_of_mem_drop h
theorem getD_get {rows : Rows} {k : Nat} (hk : k < rows.length) : rows[k]? = some (rows.getD k (.wk 0, false)) := by
  rw [List.getD_eq_getElem?_getD, List.getElem?_eq_getElem hk]
  rfl
theorem swap_len {rows : Rows} {k : Nat} (hk : k + 1 < rows.length) : (swapRow rows k).length = rows.length := by
  unfold swapRow
  rw [List.length_append, List.length_append, List.length_take, List.length_drop]
  simp
  omega
def needL (rows : Rows) (r n : Nat) : List Nat := (List.range n).filter fun k => (unlikeO rows (outRow rows k) (enoughL r)).isNone
def swapL (rows : Rows) (r n : Nat) : List Nat := (List.range n).filter fun k => (unlikeO rows (swapRow rows k) (enoughL r)).isNone
end WF

set_option Elab.async false
set_option linter.all false
set_option maxRecDepth 100000
set_option maxHeartbeats 400000
/-! WDictB: a dict whose keys are truths -/
namespace WF
open PySem L2 Evl PyProof.Rows
def kb (b : Bool) : Leaf := .num (if b = true then 1 else 0)
theorem kb_is {P : Program} {w : World} (b : Bool) : (leafKind P w).is (kb b) (.bool b) = true := by
  show decide ((if b = true then 1 else 0) = (if b = true then (1 : Int) else 0)) = true
  exact decide_eq_true rfl
theorem kb_inj {a b : Bool} (h : kb a = kb b) : a = b := by
  cases a <;> cases b <;> first | rfl | exact absurd h (by decide)
/-- the pairs: truths, values, in the order of insertion -/
inductive KBs : List (Bool × V) → List (Leaf × Value) → Prop
  | nil : KBs [] []
  | cons {b : Bool} {v : V} {u : Value} {ps qs} (r : RelV v u) (t : KBs ps qs) : KBs ((b, v) :: ps) ((kb b, u) :: qs)
theorem KBs.len : ∀ {ps qs}, KBs ps qs → ps.length = qs.length
  | _, _, .nil => rfl
  | _, _, .cons _ t => congrArg (· + 1) t.len
theorem KBs.val (b : Bool) : ∀ {ps qs}, KBs ps qs → RelO (ps.lookup b) (valueAt qs (kb b))
  | _, _, .nil => trivial
  | _, _, .cons (b := c) (v := v) (u := u) (ps := ps) (qs := qs) r t => by
    have ih := t.val b
    by_cases h : b = c
    · subst h
      have e1 : ((b, v) :: ps).lookup b = some v := by simp [List.lookup]
      have e2 : valueAt ((kb b, u) :: qs) (kb b) = some u := by unfold valueAt; simp
      rw [e1, e2]
      exact r
    · have e1 : ((c, v) :: ps).lookup b = ps.lookup b := by
        have : (b == c) = false := by simpa using h
        simp [List.lookup, this]
      have e2 : valueAt ((kb c, u) :: qs) (kb b) = valueAt qs (kb b) := by
        unfold valueAt
        have : ¬ kb c = kb b := fun z => h (kb_inj z).symm
        simp [this]
      rw [e1, e2]
      exact ih
theorem KBs.snoc {b : Bool} {v : V} {u : Value} (r : RelV v u) : ∀ {ps qs}, KBs ps qs → KBs (ps ++ [(b, v)]) (qs ++ [(kb b, u)])
  | _, _, .nil => .cons r .nil
  | _, _, .cons r' t => .cons r' (t.snoc r)
theorem KBs.absent {b : Bool} : ∀ {ps qs}, KBs ps qs → ps.lookup b = none → (qs.any fun kv => decide (kv.1 = kb b)) = false
  | _, _, .nil, _ => rfl
  | _, _, .cons (b := c) (v := v) (u := u) (ps := ps) (qs := qs) r t, h => by
    by_cases hc : b = c
    · subst hc
      simp [List.lookup] at h
    · have e1 : ((c, v) :: ps).lookup b = ps.lookup b := by
        have : (b == c) = false := by simpa using hc
        simp [List.lookup, this]
      rw [e1] at h
      have : ¬ kb c = kb b := fun z => hc (kb_inj z).symm
      rw [List.any_cons, t.absent h]
      simp [this]
def dB (P : Program) (w : World) (a : Addr) (kvs : List (Bool × V)) : HO := .ext fun h => (a == sysModules) = false ∧ ∃ vs, KBs kvs vs ∧ h.DictOf (leafKind P w) a vs
section
variable {P : Program} {w : World} {H : Hp} {h : Heap} {a : Addr} {kvs : List (Bool × V)}
theorem dB_ok {vs : List (Leaf × Value)} (h1 : (a == sysModules) = false) (h2 : KBs kvs vs) (h3 : h.DictOf (leafKind P w) a vs) : ObjOk P w H h a (dB P w a kvs) := by
  obtain ⟨o, es, ep, ho, hr⟩ := id h3
  exact ⟨⟨h1, vs, h2, h3⟩, ⟨o, ho⟩, fun g1 g2 ⟨z1, vs', z2, o', es', ep', ho', hr'⟩ k => ⟨z1, vs', z2, o', es', ep', k _ ho', hr'⟩⟩
theorem dB_at (hok : HOk P w H h) (e : H a = some (dB P w a kvs)) : (a == sysModules) = false ∧ ∃ vs, KBs kvs vs ∧ h.DictOf (leafKind P w) a vs := by
  have x : ObjOk P w H h a (.ext fun h => (a == sysModules) = false ∧ ∃ vs, KBs kvs vs ∧ h.DictOf (leafKind P w) a vs) := hok a _ e
  exact x.1
theorem dB_lst {xs : List V} : dB P w a kvs ≠ .lst xs := fun z => by
  have z' : HO.ext _ = HO.lst xs := z
  cases z'
end
def tDNewB (P : Program) (w : World) : TE := fun _ H Q => ∀ p, H p = none → Q (.ref p) (upd H p (dB P w p []))
def tDNotInB (P : Program) (w : World) (ty td : TE) : TE := fun σ H Q => ty σ H fun y H1 => td σ H1 fun x H2 => ∃ a b kvs, x = .ref a ∧ y = .bl b ∧ H2 a = some (dB P w a kvs) ∧ Q (.bl (kvs.lookup b).isNone) H2
def sDPutB (P : Program) (w : World) (td ty tv : TE) : TS := fun D σ H => tv σ H fun v H1 => td σ H1 fun x H2 => ty σ H2 fun y H3 => ∃ a b kvs, x = .ref a ∧ y = .bl b ∧ H3 a = some (dB P w a kvs) ∧ kvs.lookup b = none ∧ kvs.length < 100000 ∧ D.nx σ (upd H3 a (dB P w a (kvs ++ [(b, v)])))
def tDGetB (P : Program) (w : World) (td ty tx : TE) : TE := fun σ H Q => td σ H fun x H1 => ∃ a kvs, x = .ref a ∧ H1 a = some (dB P w a kvs) ∧ ty σ H1 fun y H2 => tx σ H2 fun z H3 => ∃ b, y = .bl b ∧ H3 a = some (dB P w a kvs) ∧ Q ((kvs.lookup b).getD z) H3
section
variable {X : Cx} {o i e f value : Expr} {pos pos' apos cpos : Pos} {td ty tv tx : TE}
theorem pe_dnewB : PE X (.Dict [] [] pos) (tDNewB X.prog X.w) := ⟨fun pins s σ H Q I h =>
  wpAny_Dict_empty ⟨.ref s.heap.objs.size, _, I.laid (a := s.heap.objs.size) (o := dB X.prog X.w s.heap.objs.size []) (t' := s.toks) (fun _ _ q => Heap.get?_push_of_some _ q) (Nat.le_refl _) (dB_ok (beq_eq_false_iff_ne.mpr (Ne.symm (Nat.ne_of_lt I.big))) .nil (Heap.DictOf.new s.heap)), rfl, h _ (I.hok.fresh (Nat.le_refl _))⟩⟩
theorem pc_dnotinB (hi : PE X i ty) (ho : PE X o td) : PC X .NotIn i o (tDNotInB X.prog X.w ty td) := by
  refine ⟨fun pins s σ H Q I h => ?_⟩
  refine thn (hi.run pins s σ H _ I h) fun iv s1 ⟨y, H1, I1, ry, q1⟩ => thn (ho.run pins s1 σ H1 _ I1 q1) fun u s2 ⟨x, H2, I2, rx, a, b, kvs, ex, ey, e, q2⟩ => ?_
  subst ex ey
  obtain rfl : u = Value.ref a := rx
  obtain rfl : iv = Value.bool b := ry
  obtain ⟨hd, vs, rel, dd⟩ := dB_at I2.hok e
  refine wpAny_notIn_of (kb_is b) hd dd.mapOf ?_
  have hr := rel.val b
  have hv : (!(valueAt vs (kb b)).isSome) = (kvs.lookup b).isNone := by
    rw [← hr.isSome_eq]
    cases kvs.lookup b <;> rfl
  rw [hv]
  exact ⟨.bl _, H2, I2.tok _, rfl, q2⟩
theorem ps_dputB (ho : PE X o td) (hi : PE X i ty) (hv : PE X value tv) (hs : swapsWith value (some (.Subscript o i pos')) pos.line X.env = pure false) : PS X (.Assign [.Subscript o i pos'] value pos) (sDPutB X.prog X.w td ty tv) := by
  refine ⟨fun pins s σ H D I h => ?_⟩
  refine wpAny_Assign_Subscript (thn (hv.run pins s σ H _ I h) fun r s1 ⟨v, H1, I1, rv, q1⟩ => thn (ho.run pins s1 σ H1 _ I1 q1) fun u s2 ⟨x, H2, I2, rx, q2⟩ => thn (hi.run pins s2 σ H2 _ I2 q2) fun iv s3 ⟨y, H3, I3, ry, a, b, kvs, ex, ey, e, hn, hl, q3⟩ => ?_) hs
  subst ex ey
  obtain rfl : u = Value.ref a := rx
  obtain rfl : iv = Value.bool b := ry
  obtain ⟨hd, vs, rel, dd⟩ := dB_at I3.hok e
  have hlen := rel.len
  have hst : stored vs (kb b) r = vs ++ [(kb b, r)] := by
    unfold stored
    rw [rel.absent hn]
    rfl
  refine wpAny_setItem_pairs (hsz := Evl.sz_of (by omega)) (kb_is b) dd fun h' dd' hs => ⟨σ, _, ?_, q3⟩
  rw [hst] at dd'
  have he : ∃ q, h'.get? a = some q := let ⟨q, _, _, hq, _⟩ := dd'; ⟨q, hq⟩
  exact d_write I3 (by rw [e]; exact True.intro) hs he (dB_ok hd (rel.snoc rv) dd')
theorem pe_dgetB (ho : PE X o td) (he : PE X e ty) (hf : PE X f tx) (m : M2 X o "get" apos e f cpos) : PE X (.Call (.Attribute o "get" apos) [e, f] [] cpos) (tDGetB X.prog X.w td ty tx) := by
  refine ⟨fun pins s σ H Q I h => ?_⟩
  refine wpAny_Call_method m.base m.few m.line PySem.F.plainAttrs_dict PySem.F.slot_dict_get PySem.F.type_dict_get (thn (ho.run pins s σ H _ I h) fun u s1 ⟨x, H1, I1, rx, a, kvs, ex, d, q1⟩ => ?_)
  subst ex
  obtain rfl : u = Value.ref a := rx
  obtain ⟨_, vs1, _, dd1⟩ := dB_at I1.hok d
  refine ⟨dd1.typeIs, fun b q => ?_, ?_⟩
  · cases q
    obtain ⟨ob, _, _, h1, h2, _⟩ := dd1
    exact ⟨ob, h1, h2.2.1⟩
  rw [m.trees]
  refine Calls.callWith_builtin rfl (Calls.evalArgs_plain (Calls.spliced_cons (thn (he.run pins s1 σ H1 _ I1 q1) fun iv s2 ⟨y, H2, I2, ry, q2⟩ =>
    Calls.spliced_cons (thn (hf.run pins s2 σ H2 _ I2 q2) fun fv s3 ⟨z, H3, I3, rz, b, ey, d3, q3⟩ => Calls.spliced_nil ?_))))
  subst ey
  obtain rfl : iv = Value.bool b := ry
  obtain ⟨hd, vs, rel, dd⟩ := dB_at I3.hok d3
  refine call_meetsIn PySem.F.slot_dict_get dd.typeIs PySem.F.entry_dict_get (PySem.F.args_dict_get_3 _ _ _) (meets_dict_get_default (leafKind X.prog X.w) a (kb_is b) hd fv) ⟨_, dd.mapOf, ⟨_, H3, I3.tok _, ?_, q3⟩⟩
  exact (rel.val b).getD rz
end
end WF

set_option Elab.async false
set_option linter.all false
set_option maxRecDepth 100000
set_option maxHeartbeats 400000
/-! WAhead: how many days lie ahead of a day; the nth of them -/
namespace WF
def aheadD (N : Nat) (ds : List Nat) (d : Int) : Int := d / (N : Int) * (ds.length : Int) + ((ds.filter fun (c : Nat) => decide ((c : Int) < d % (N : Int))).length : Int)
theorem ahead_same {N : Nat} {p : Int → Bool} {ds : List Nat} (h : DaysOk N p ds) (d : Int) : aheadD N ds d = aheadD N (daysN N p) d := by
  unfold aheadD
  rw [h.len]
  refine congrArg (fun n : Nat => d / (N : Int) * ((daysN N p).length : Int) + (n : Int)) ?_
  refine nodup_len (h.nd.filter _) ((daysN_nodup N p).filter _) fun c => ?_
  rw [List.mem_filter, List.mem_filter, h.mem, daysN_mem]
theorem daysN_low {p : Int → Bool} {v : Nat} : ∀ {N : Nat}, v ≤ N → (daysN N p).filter (fun (c : Nat) => decide (c < v)) = daysN v p
  | 0, h => by
    have : v = 0 := by omega
    subst this
    rfl
  | N + 1, h => by
    rw [daysN_succ, List.filter_append]
    rcases Nat.lt_or_ge N v with hv | hv
    · have hvn : v = N + 1 := by omega
      subst hvn
      rw [daysN_succ]
      have h1 : (daysN N p).filter (fun (c : Nat) => decide (c < N + 1)) = daysN N p := List.filter_eq_self.mpr fun c hc => decide_eq_true (by have := (daysN_mem.mp hc).1; omega)
      rw [h1]
      split
      · rw [List.filter_cons, if_pos (decide_eq_true (Nat.lt_succ_self N))]; rfl
      · rfl
    · rw [daysN_low hv]
      split
      · rw [List.filter_cons, if_neg (by rw [decide_eq_false (by omega)]; exact Bool.false_ne_true)]
        exact List.append_nil _
      · exact List.append_nil _
theorem daysN_at {p : Int → Bool} {k v : Nat} : ∀ {N : Nat}, (daysN N p)[k]? = some v → (daysN v p).length = k
  | 0, h => by simp [daysN] at h
  | N + 1, h => by
    rw [daysN_succ] at h
    rcases Nat.lt_or_ge k (daysN N p).length with hk | hk
    · rw [List.getElem?_append_left hk] at h
      exact daysN_at h
    · rw [List.getElem?_append_right hk] at h
      split at h
      · have h0 : k - (daysN N p).length = 0 := by
          rcases Nat.eq_zero_or_pos (k - (daysN N p).length) with q | q
          · exact q
          · rw [List.getElem?_eq_none (by simp; omega)] at h
            cases h
        rw [h0] at h
        cases h
        omega
      · simp at h
/-- the nth day that is told -/
def nthDay (w m : Nat) (ds : List Nat) (n : Int) : Int := n / (ds.length : Int) * w * m + ((ds.getD (n % (ds.length : Int)).toNat 0 : Nat) : Int)
theorem nth_law {w m : Nat} {p : Int → Bool} {n : Int} (hN : 0 < w * m) (hn : 0 ≤ n) (hne : daysN (w * m) p ≠ []) :
    0 ≤ nthDay w m (daysN (w * m) p) n ∧ (nthDay w m (daysN (w * m) p) n % ((w * m : Nat) : Int)).toNat ∈ daysN (w * m) p ∧ aheadD (w * m) (daysN (w * m) p) (nthDay w m (daysN (w * m) p) n) = n := by
  have hlen : 0 < (daysN (w * m) p).length := List.length_pos_iff.mpr hne
  have h0 := Int.emod_nonneg n (show ((daysN (w * m) p).length : Int) ≠ 0 by omega)
  have h1 := Int.emod_lt_of_pos n (show (0 : Int) < ((daysN (w * m) p).length : Int) by omega)
  have hlt : (n % ((daysN (w * m) p).length : Int)).toNat < (daysN (w * m) p).length := by omega
  obtain ⟨v, hv⟩ : ∃ v, (daysN (w * m) p)[(n % ((daysN (w * m) p).length : Int)).toNat]? = some v := ⟨_, List.getElem?_eq_getElem hlt⟩
  have hD : (daysN (w * m) p).getD (n % ((daysN (w * m) p).length : Int)).toNat 0 = v := by rw [List.getD_eq_getElem?_getD, hv]; rfl
  have hmem : v ∈ daysN (w * m) p := List.mem_of_getElem? hv
  have hvN := (daysN_mem.mp hmem).1
  have hq0 : 0 ≤ n / ((daysN (w * m) p).length : Int) := Int.ediv_nonneg hn (by omega)
  have hday : nthDay w m (daysN (w * m) p) n = (v : Int) + ((w * m : Nat) : Int) * (n / ((daysN (w * m) p).length : Int)) := by
    unfold nthDay
    rw [hD, Int.natCast_mul, Int.mul_assoc, Int.mul_comm _ ((w : Int) * (m : Int)), Int.add_comm]
  have hmod : nthDay w m (daysN (w * m) p) n % ((w * m : Nat) : Int) = (v : Int) := by
    rw [hday, Int.add_mul_emod_self_left, Int.emod_eq_of_lt (by omega) (by omega)]
  have hdiv : nthDay w m (daysN (w * m) p) n / ((w * m : Nat) : Int) = n / ((daysN (w * m) p).length : Int) := by
    rw [hday, Int.add_mul_ediv_left _ _ (by omega), Int.ediv_eq_zero_of_lt (by omega) (by omega), Int.zero_add]
  refine ⟨?_, ?_, ?_⟩
  · rw [hday]
    have := Int.mul_nonneg (show (0 : Int) ≤ ((w * m : Nat) : Int) by omega) hq0
    omega
  · rw [hmod]
    exact hmem
  · unfold aheadD
    rw [hdiv, hmod]
    have hf : ((daysN (w * m) p).filter fun (c : Nat) => decide ((c : Int) < (v : Int))) = daysN v p := by
      rw [← daysN_low (p := p) (Nat.le_of_lt hvN)]
      congr 1
      funext c
      exact decide_eq_decide.mpr (by omega)
    rw [hf, daysN_at hv, Int.toNat_of_nonneg h0, Int.mul_comm]
    exact Int.mul_ediv_add_emod n _
end WF

set_option Elab.async false
set_option linter.all false
set_option maxRecDepth 100000
set_option maxHeartbeats 1000000
/-! WFit: lists of lands sifted, made into others; enumerate over a list -/
namespace WF
open PySem L2 Evl
section
variable {K : PySem.W.Frag} {σ : L2.St} {H H' : Hp} {ta tb te tl : TE} {t : TT} {D : Ends} {tu tz : TS}
theorem q_forEnL {a : Addr} {xs : List V} {j k : Nat} (h : Ev ta σ H (.ref a)) (hx : SqL K H a xs) (Pv : Nat → L2.St → Hp → Prop) (h0 : ∀ H1, Ex H H1 → Pv 0 σ H1)
    (hl : ∀ i σ' H', i ≤ xs.length → Pv i σ' H' → SqL K H' a xs)
    (hs : ∀ i x σ' H' H2, xs[i]? = some x → Pv i σ' H' → Ex H' H2 → tu { D with nx := Pv (i + 1), ct := Pv (i + 1), bk := tz D } ((σ'.set j (some (.int ((i : Nat) : Int)))).set k (some x)) H2)
    (hd : ∀ σ' H', Pv xs.length σ' H' → tz D σ' H') : tSeq (tFor (iEnum K (tCons ta tNil)) (gTup K 2 (gCons (gName j) (gCons (gName k) gNil))) tu) tz D σ H := by
  refine h H (Ex.refl H) _ fun H1 e1 => ⟨a, xs, rfl, ex_l e1 hx, ?_⟩
  refine for_it (D := { D with nx := tz D }) walk_enum Pv (h0 H1 e1) hl (fun i x σ' H' H2 hi p y => ?_) hd
  obtain ⟨T, u, v, rfl, hT, rfl, hu, hv⟩ := y
  cases hu
  exact ⟨T, _, rfl, st_of upd_same, rfl, _, _, rfl, _, _, rfl, rfl, hs i v σ' H' _ hv p (Ex.new hT)⟩
/-- [land for land in a made list if ..] -/
theorem er_landF {j : Nat} {vs : List Nat} {ls : List (Nat × Nat)} (g : Nat × Nat → Bool) (h : EvR tl σ H fun p H2 => ∃ xs, H2 p = some (.lst xs) ∧ LandL K H2 xs ls) (hz : ls.length ≤ 40000) (hw : ∀ x, wipe ((wipe σ vs).set j (some x)) vs = wipe σ vs) (hj : ∀ x, ((wipe σ vs).set j (some x))[j]? = some (some x))
    (ht : ∀ (l : Nat × Nat) (lp : Addr) H1, l ∈ ls → Ex H H1 → SqT K H1 lp [.int (l.1 : Int), .int (l.2 : Int)] → EvT t ((wipe σ vs).set j (some (.ref lp))) H1 (g l)) :
    EvR (tLc (iList K tl) (gName j) t (tVar j) vs) σ H fun p H2 => ∃ ys, H2 p = some (.lst ys) ∧ LandL K H2 ys (ls.filter g) := fun H0 ee Q q => h H0 ee _ fun a H1 ha e1 ⟨xs, hx, hl⟩ => ⟨a, rfl, ⟨xs, sq_of hx⟩, fun Dl hD => by
  have hlen := hl.len
  refine lc_list (xs := xs) (fun i H' => Ex H1 H' ∧ ∃ ys, H' Dl = some (.lst ys) ∧ LandL K H' ys ((ls.take i).filter g)) ⟨Ex.new hD, [], upd_same, trivial⟩ (fun i H' _ p => sq_of (p.1 _ _ hx)) (fun i x H' hi p => ?_) fun H' p => ?_
  · obtain ⟨e, ys, hy, hly⟩ := p
    obtain ⟨l, lp, hget, rfl, hT⟩ := (hl.kn (KeepN.of e)).get hi
    have hil : i < ls.length := (List.getElem?_eq_some_iff.mp hget).1
    refine ⟨hw _, ht l lp H' (List.mem_of_getElem? hget) ((ee.trans e1).trans e) hT H' (Ex.refl H') _ fun H3 e3 => ?_⟩
    have hys := hly.len
    have hle := List.length_filter_le g (ls.take i)
    rw [List.length_take] at hle
    rw [take_more hget, List.filter_append]
    cases hg : g l with
    | true =>
      refine ⟨.ref lp, hj _, ys, e3 _ _ hy, Evl.sz_lt (by omega), (e.trans e3).mut hD, ys ++ [.ref lp], upd_same, ?_⟩
      have kn : KeepN H3 (upd H3 Dl (.lst (ys ++ [.ref lp]))) := (KeepN.refl _).lst (e3 _ _ hy)
      have : [l].filter g = [l] := by simp [hg]
      rw [this]
      exact ((hly.kn (KeepN.of e3)).kn kn).snoc (sqt_kn kn (ex_t e3 hT))
    | false =>
      have : [l].filter g = [] := by simp [hg]
      show Ex H1 H3 ∧ _
      refine ⟨e.trans e3, ys, e3 _ _ hy, ?_⟩
      rw [this, List.append_nil]
      exact hly.kn (KeepN.of e3)
  · obtain ⟨e, ys, hy, hly⟩ := p
    rw [hlen, List.take_length] at hly
    exact q Dl H' (fresh_back e1 hD) (e1.trans e) ⟨ys, hy, hly⟩⟩
end
theorem raiseE {C : Addr} {f : Str} {σ : L2.St} {H : Hp} {ta : TA} {v : V} {E : XK} (h : EvA ta σ H [v]) (k : ∀ d H2, Ex H H2 → H d = none → H2 d = some (.xd [(f, v)]) → E (.ref C) (some d) H2) : tMkO C (spE1 C f) [] ta σ H E :=
  raise1 (W := fun cls d _ H' => E cls d H') h k
/-! lands with their figures -/
def FigAt (K : PySem.W.Frag) (H : Hp) (fg : Nat × Nat → Int) (x : V) (l : Nat × Nat) : Prop := ∃ a lp, x = .ref a ∧ SqT K H a [.ref lp, .int (fg l)] ∧ SqT K H lp [.int (l.1 : Int), .int (l.2 : Int)]
theorem FigAt.kn {K : PySem.W.Frag} {H H' : Hp} {fg : Nat × Nat → Int} {x : V} {l : Nat × Nat} (e : KeepN H H') (h : FigAt K H fg x l) : FigAt K H' fg x l := by
  obtain ⟨a, lp, h0, h1, h2⟩ := h
  exact ⟨a, lp, h0, sqt_kn e h1, sqt_kn e h2⟩
def FigL (K : PySem.W.Frag) (H : Hp) (fg : Nat × Nat → Int) : List V → List (Nat × Nat) → Prop
  | [], [] => True
  | x :: xs, l :: ls => FigAt K H fg x l ∧ FigL K H fg xs ls
  | _, _ => False
theorem FigL.kn {K : PySem.W.Frag} {H H' : Hp} {fg : Nat × Nat → Int} (e : KeepN H H') : ∀ {xs : List V} {ls : List (Nat × Nat)}, FigL K H fg xs ls → FigL K H' fg xs ls
  | [], [], _ => trivial
  | _ :: _, _ :: _, h => ⟨h.1.kn e, FigL.kn e h.2⟩
  | [], _ :: _, h => h
  | _ :: _, [], h => h
theorem FigL.len {K : PySem.W.Frag} {H : Hp} {fg : Nat × Nat → Int} : ∀ {xs : List V} {ls : List (Nat × Nat)}, FigL K H fg xs ls → xs.length = ls.length
  | [], [], _ => rfl
  | _ :: _, _ :: _, h => congrArg (· + 1) (FigL.len h.2)
  | [], _ :: _, h => h.elim
  | _ :: _, [], h => h.elim
theorem FigL.snoc {K : PySem.W.Frag} {H : Hp} {fg : Nat × Nat → Int} : ∀ {xs : List V} {ls : List (Nat × Nat)} {x : V} {l : Nat × Nat}, FigL K H fg xs ls → FigAt K H fg x l → FigL K H fg (xs ++ [x]) (ls ++ [l])
  | [], [], _, _, _, h => ⟨h, trivial⟩
  | _ :: _, _ :: _, _, _, h, g => ⟨h.1, FigL.snoc h.2 g⟩
  | [], _ :: _, _, _, h, _ => h.elim
  | _ :: _, [], _, _, h, _ => h.elim
theorem FigL.get {K : PySem.W.Frag} {H : Hp} {fg : Nat × Nat → Int} : ∀ {xs : List V} {ls : List (Nat × Nat)} {i : Nat} {x : V}, FigL K H fg xs ls → xs[i]? = some x → FigAt K H fg x (ls.getD i (0, 0)) ∧ ls.getD i (0, 0) ∈ ls
  | _ :: _, l :: _, 0, _, h, e => by
    cases e
    exact ⟨h.1, List.mem_cons_self⟩
  | _ :: xs, l :: ls, i + 1, x, h, e => by
    have := FigL.get (xs := xs) (ls := ls) (i := i) (x := x) h.2 e
    exact ⟨this.1, List.mem_cons_of_mem _ this.2⟩
  | [], [], i, x, _, e => by simp at e
  | [], _ :: _, _, _, h, _ => h.elim
  | _ :: _, [], _, _, h, _ => h.elim
theorem FigL.fn {K : PySem.W.Frag} {H : Hp} {fg : Nat × Nat → Int} {xs : List V} {ls : List (Nat × Nat)} (h : FigL K H fg xs ls) : ∃ q : Nat → Addr, ∀ i x, xs[i]? = some x → ∃ a, x = .ref a ∧ SqT K H a [.ref (q i), .int (fg (ls.getD i (0, 0)))] ∧ SqT K H (q i) [.int ((ls.getD i (0, 0)).1 : Int), .int ((ls.getD i (0, 0)).2 : Int)] := by
  have : ∀ i, ∃ q : Addr, ∀ x, xs[i]? = some x → ∃ a, x = .ref a ∧ SqT K H a [.ref q, .int (fg (ls.getD i (0, 0)))] ∧ SqT K H q [.int ((ls.getD i (0, 0)).1 : Int), .int ((ls.getD i (0, 0)).2 : Int)] := fun i => by
    cases e : xs[i]? with
    | none => exact ⟨0, fun x hx => nomatch hx⟩
    | some y =>
      obtain ⟨⟨a, lp, h0, h1, h2⟩, _⟩ := h.get e
      exact ⟨lp, fun x hx => by
        cases hx
        exact ⟨a, h0, h1, h2⟩⟩
  exact Classical.axiomOfChoice this
section
variable {K : PySem.W.Frag} {σ : L2.St} {H H' : Hp} {ta tb te tl : TE}
/-- [(land, figure of it) for land in a made list] -/
theorem er_figs {j : Nat} {vs : List Nat} {ls : List (Nat × Nat)} (fg : Nat × Nat → Int) (h : EvR tl σ H fun p H2 => ∃ xs, H2 p = some (.lst xs) ∧ LandL K H2 xs ls) (hz : ls.length ≤ 40000) (hw : ∀ x, wipe ((wipe σ vs).set j (some x)) vs = wipe σ vs) (hj : ∀ x, ((wipe σ vs).set j (some x))[j]? = some (some x))
    (he : ∀ (l : Nat × Nat) (lp : Addr) H1, l ∈ ls → Ex H H1 → SqT K H1 lp [.int (l.1 : Int), .int (l.2 : Int)] → Ev te ((wipe σ vs).set j (some (.ref lp))) H1 (.int (fg l))) :
    EvR (tLc (iList K tl) (gName j) tYes (tTup (tCons (tVar j) (tCons te tNil))) vs) σ H fun p H2 => ∃ ys, H2 p = some (.lst ys) ∧ FigL K H2 fg ys ls := fun H0 ee Q q => h H0 ee _ fun a H1 ha e1 ⟨xs, hx, hl⟩ => ⟨a, rfl, ⟨xs, sq_of hx⟩, fun Dl hD => by
  have hlen := hl.len
  refine lc_list (xs := xs) (fun i H' => Ex H1 H' ∧ ∃ ys, H' Dl = some (.lst ys) ∧ FigL K H' fg ys (ls.take i)) ⟨Ex.new hD, [], upd_same, trivial⟩ (fun i H' _ p => sq_of (p.1 _ _ hx)) (fun i x H' hi p => ?_) fun H' p => ?_
  · obtain ⟨e, ys, hy, hly⟩ := p
    obtain ⟨l, lp, hget, rfl, hT⟩ := (hl.kn (KeepN.of e)).get hi
    have hil : i < ls.length := (List.getElem?_eq_some_iff.mp hget).1
    have hys := hly.len
    rw [List.length_take] at hys
    refine ⟨hw _, ?_⟩
    unfold tYes
    dsimp only
    rw [if_pos rfl]
    refine (eu_tup (vs := [.ref lp, .int (fg l)]) (ea_cons (ev_var (hj _)) (ea_cons (he l lp H' (List.mem_of_getElem? hget) ((ee.trans e1).trans e) hT) ea_nil)) (by show 2 ≤ 100000; decide)) H' (Ex.refl H') _ fun t H3 ht e3 h3 => ?_
    refine ⟨ys, e3 _ _ hy, Evl.sz_lt (by omega), (e.trans e3).mut hD, ys ++ [.ref t], upd_same, ?_⟩
    have kn : KeepN H3 (upd H3 Dl (.lst (ys ++ [.ref t]))) := (KeepN.refl _).lst (e3 _ _ hy)
    rw [take_more hget]
    exact ((hly.kn (KeepN.of e3)).kn kn).snoc ⟨t, lp, rfl, sqt_kn kn (st_of h3), sqt_kn kn (ex_t e3 hT)⟩
  · obtain ⟨e, ys, hy, hly⟩ := p
    rw [hlen, List.take_length] at hly
    exact q Dl H' (fresh_back e1 hD) (e1.trans e) ⟨ys, hy, hly⟩⟩
/-- .. in a known list -/
theorem er_figsV {j : Nat} {vs : List Nat} {ls : List (Nat × Nat)} (fg : Nat × Nat → Int) {a : Addr} {xs : List V} (h : Ev tl σ H (.ref a)) (hx0 : H a = some (.lst xs)) (hl0 : LandL K H xs ls) (hz : ls.length ≤ 40000) (hw : ∀ x, wipe ((wipe σ vs).set j (some x)) vs = wipe σ vs) (hj : ∀ x, ((wipe σ vs).set j (some x))[j]? = some (some x))
    (he : ∀ (l : Nat × Nat) (lp : Addr) H1, l ∈ ls → Ex H H1 → SqT K H1 lp [.int (l.1 : Int), .int (l.2 : Int)] → Ev te ((wipe σ vs).set j (some (.ref lp))) H1 (.int (fg l))) :
    EvR (tLc (iList K tl) (gName j) tYes (tTup (tCons (tVar j) (tCons te tNil))) vs) σ H fun p H2 => ∃ ys, H2 p = some (.lst ys) ∧ FigL K H2 fg ys ls := fun H0 ee Q q => h H0 ee _ fun H1 e1 => ⟨a, rfl, ⟨xs, sq_of ((ee.trans e1) _ _ hx0)⟩, fun Dl hD => by
  have hx := (ee.trans e1) _ _ hx0
  have hl := hl0.kn (KeepN.of (ee.trans e1))
  have hlen := hl.len
  refine lc_list (xs := xs) (fun i H' => Ex H1 H' ∧ ∃ ys, H' Dl = some (.lst ys) ∧ FigL K H' fg ys (ls.take i)) ⟨Ex.new hD, [], upd_same, trivial⟩ (fun i H' _ p => sq_of (p.1 _ _ hx)) (fun i x H' hi p => ?_) fun H' p => ?_
  · obtain ⟨e, ys, hy, hly⟩ := p
    obtain ⟨l, lp, hget, rfl, hT⟩ := (hl.kn (KeepN.of e)).get hi
    have hil : i < ls.length := (List.getElem?_eq_some_iff.mp hget).1
    have hys := hly.len
    rw [List.length_take] at hys
    refine ⟨hw _, ?_⟩
    unfold tYes
    dsimp only
    rw [if_pos rfl]
    refine (eu_tup (vs := [.ref lp, .int (fg l)]) (ea_cons (ev_var (hj _)) (ea_cons (he l lp H' (List.mem_of_getElem? hget) ((ee.trans e1).trans e) hT) ea_nil)) (by show 2 ≤ 100000; decide)) H' (Ex.refl H') _ fun t H3 ht e3 h3 => ?_
    refine ⟨ys, e3 _ _ hy, Evl.sz_lt (by omega), (e.trans e3).mut hD, ys ++ [.ref t], upd_same, ?_⟩
    have kn : KeepN H3 (upd H3 Dl (.lst (ys ++ [.ref t]))) := (KeepN.refl _).lst (e3 _ _ hy)
    rw [take_more hget]
    exact ((hly.kn (KeepN.of e3)).kn kn).snoc ⟨t, lp, rfl, sqt_kn kn (st_of h3), sqt_kn kn (ex_t e3 hT)⟩
  · obtain ⟨e, ys, hy, hly⟩ := p
    rw [hlen, List.take_length] at hly
    exact q Dl H' (fresh_back e1 hD) (e1.trans e) ⟨ys, hy, hly⟩⟩
end
end WF

set_option Elab.async false
set_option linter.all false
set_option maxRecDepth 100000
set_option maxHeartbeats 1000000
/-! WOwnB: == of tuples whose items are compared by an own __eq__, whatever it answers -/
namespace WF
open PySem PySem.Spec PyProof.Rows L2 Evl
section
open PySem.SeqAt AutoSeq1 GQ
variable {prog : Program} {w : World} {A : Around} {R : Result → Shared → Prop}
/-- two tuples, item by item: es tells of the answers -/
theorem tuple_eqB (l b : Addr) (items items2 : Array Value) (n n2 : Nat) (dd dd2 : Option Addr) (sl sl2 : Array (Option Value)) (es : Nat → Bool) (I : Nat → Shared → Prop)
    (turn : ∀ i (h1 : i < items.size) (h2 : i < items2.size) s, I i s → wpAny (model prog w) A.in1 (eqBool items[i] items2[i]) (fun r s' => r = es i ∧ I (i + 1) s') (fun e s' => R (.error e) s') s)
    (no : ∀ i s, i < items.size → i < items2.size → es i = false → I (i + 1) s → R (.ok (.ret (.bool false))) s)
    (fin : ∀ s, (∀ i, i < items.size → i < items2.size → es i = true) → I (min items.size items2.size) s → R (.ok (.ret (.bool (items.size == items2.size)))) s) {s : Shared}
    (hl1 : s.heap.get? l = some { cls := .type "tuple", dict := dd, data := .seq items n, slots := sl }) (hb1 : s.heap.get? b = some { cls := .type "tuple", dict := dd2, data := .seq items2 n2, slots := sl2 }) (h : I 0 s) :
    wpAny (model prog w) A.in1 (Builtin.«tuple.__eq__» ⟨[.ref l, .ref b], []⟩) (FinOf prog w A R) (fun e s' => R (.error e) s') s := by
  have f2 := AutoSeq1.sub_tuple_tuple
  have hZ : (items.toList.zip items2.toList).length = min items.size items2.size := by simp
  have h0 := h
  obtain ⟨hp, g, d, tk, os⟩ := s
  wp_walk using wpAny_loadPart' hl1, wpAny_loadPart' hb1, wpAny_forIn_list _ (fun rest b s' => b.1 = none ∧ ∃ i, rest = (items.toList.zip items2.toList).drop i ∧ i ≤ min items.size items2.size ∧ (∀ j, j < i → es j = true) ∧ I i s') _
  case turn =>
    rintro ⟨y, x⟩ rest b s' ⟨hb', i, hz, hi, he, hI⟩
    have hlt : i < (items.toList.zip items2.toList).length := by
      rcases Nat.lt_or_ge i (items.toList.zip items2.toList).length with h' | h'
      · exact h'
      · rw [List.drop_of_length_le h'] at hz; cases hz
    have h1 : i < items.size := by omega
    have h2 : i < items2.size := by omega
    rw [List.drop_eq_getElem_cons hlt] at hz
    injection hz with hyx hrest
    have hy : y = items[i] := by have := congrArg Prod.fst hyx; simpa using this
    have hx : x = items2[i] := by have := congrArg Prod.snd hyx; simpa using this
    subst hy hx
    refine wpAny_bind (wpAny_mono (turn i h1 h2 s' hI) (fun r s2 q2 => ?_) fun _ _ x => x)
    obtain ⟨hr, q2⟩ := q2
    subst hr
    cases hes : es i with
    | true =>
      wp_walk
      exact ⟨rfl, i + 1, hrest, by omega, fun j hj => by
        rcases Nat.lt_or_ge j i with h | h
        · exact he j h
        · rw [show j = i by omega]; exact hes, q2⟩
    | false =>
      have hR := no i s2 h1 h2 hes q2
      wp_walk
      exact hR
  case fin =>
    rintro ⟨b1, b2⟩ s' ⟨hb', i, hz, hi, he, hI⟩
    simp only at hb'
    subst hb'
    have hge : min items.size items2.size ≤ i := by
      rcases Nat.lt_or_ge i (items.toList.zip items2.toList).length with h' | h'
      · rw [List.drop_eq_getElem_cons h'] at hz; cases hz
      · exact hZ ▸ h'
    have hi' : i = min items.size items2.size := by omega
    have hR := fin s' (fun j h1 h2 => he j (by omega)) (hi' ▸ hI)
    wp_walk
    exact hR
  case h =>
    exact ⟨rfl, 0, rfl, Nat.zero_le _, fun j hj => absurd hj (Nat.not_lt_zero _), h0⟩
end
section
variable {prog : Program} {w : World} {A : Around} {E : Value → Shared → Prop} {s : Shared}
open GQ in
theorem rc_tupB {l b : Addr} {items items2 : Array Value} {Q : Value → Shared → Prop} (es : Nat → Bool) (hu : A.units < cLine) (I : Nat → Shared → Prop)
    (hl : s.heap.IsTuple l items) (hb : s.heap.IsTuple b items2)
    (turn : ∀ i (h1 : i < items.size) (h2 : i < items2.size) s, I i s → wpAny (model prog w) A.in1 (eqBool items[i] items2[i]) (fun r s' => r = es i ∧ I (i + 1) s') E s)
    (no : ∀ i s, i < items.size → i < items2.size → es i = false → I (i + 1) s → Q (.bool false) s)
    (fin : ∀ s, (∀ i, i < items.size → i < items2.size → es i = true) → I (min items.size items2.size) s → Q (.bool (items.size == items2.size)) s) (h : I 0 s) : wpAny (model prog w) A (richCompare .Eq (.ref l) (.ref b)) Q E s := by
  obtain ⟨⟨cls, dd, data, sl⟩, ho, hc, n, hd⟩ := id hl
  obtain ⟨⟨cls2, dd2, data2, sl2⟩, ho2, hc2, n2, hd2⟩ := id hb
  simp only at hc hd hc2 hd2
  subst hc hd hc2 hd2
  refine wpAny_richCompare_same_room (op := .Eq) ⟨_, ho, rfl⟩ ⟨_, ho2, rfl⟩ F.slot_tuple_eq (call_here F.slot_tuple_eq ⟨_, ho, rfl⟩ F.entry_tuple_eq (F.args_tuple_eq_2 _ _) ?_) hu
  exact tuple_eqB (R := wants (fun v s' => v ≠ .notImplemented ∧ Q v s') E) l b items items2 n n2 dd dd2 sl sl2 es I turn (fun i s' g1 g2 g3 q => ⟨(fun x => nomatch x), no i s' g1 g2 g3 q⟩) (fun s' g q => ⟨(fun x => nomatch x), fin s' g q⟩) ho ho2 h
end
/-- how two values compare, as far as the own heap tells -/
abbrev EqvB := V → V → Bool → Hp → Prop
def MonB (D : EqvB) : Prop := ∀ x y b H H', Ex H H' → D x y b H → D x y b H'
/-- == answers what D says, and only makes objects -/
def EqBG (X : Cx) (n : Nat) (D : EqvB) : Prop :=
  ∀ (A : Around) (pins : List (Addr × Obj)) (s : Shared) (σ : L2.St) (H : Hp) (x y : V) (u v : Value) (b : Bool), L2.Sub X n A → Inv X pins σ H s → RelV x u → RelV y v → D x y b H →
    wpAny (model X.prog X.w) A (eqBool u v) (fun r s' => r = b ∧ ∃ H', Inv X pins σ H' s' ∧ Ex H H') X.xe s
def RcBG (X : Cx) (n : Nat) (D : EqvB) : Prop :=
  ∀ (A : Around) (pins : List (Addr × Obj)) (s : Shared) (σ : L2.St) (H : Hp) (x y : V) (u v : Value) (b : Bool), L2.Sub X n A → Inv X pins σ H s → RelV x u → RelV y v → D x y b H →
    wpAny (model X.prog X.w) A (richCompare .Eq u v) (fun r s' => r = .bool b ∧ ∃ H', Inv X pins σ H' s' ∧ Ex H H') X.xe s
section
variable {X : Cx} {n m : Nat} {D D' : EqvB}
theorem EqBG.mono (h : EqBG X n D) (hn : n ≤ m) : EqBG X m D := fun A pins s σ H x y u v b sb => h A pins s σ H x y u v b (sb.mono hn)
theorem EqBG.or (h : EqBG X n D) (h' : EqBG X n D') : EqBG X n (fun x y b H => D x y b H ∨ D' x y b H) := fun A pins s σ H x y u v b sb I rx ry d => by
  rcases d with d | d
  · exact h A pins s σ H x y u v b sb I rx ry d
  · exact h' A pins s σ H x y u v b sb I rx ry d
theorem MonB.or (h : MonB D) (h' : MonB D') : MonB (fun x y b H => D x y b H ∨ D' x y b H) := fun x y b H H' e d => d.elim (fun d => .inl (h x y b H H' e d)) fun d => .inr (h' x y b H H' e d)
def DFlatB : EqvB := fun x y b _ => flatV x = true ∧ flatV y = true ∧ eqV x y = b
theorem monB_flat : MonB DFlatB := fun _ _ _ _ _ _ d => d
theorem eqBG_flat : EqBG X 0 DFlatB := by
  intro A pins s σ H x y u v b sb I rx ry d
  obtain ⟨fx, fy, e⟩ := d
  have q := eqAt_V (A := A) (s := s) rx ry fx fy
  rw [e] at q
  exact q X.prog X.w X.xe _ ⟨rfl, H, I, Ex.refl H⟩
/-- two tuples: es tells of the answers of their items -/
def DTupB (K : PySem.W.Frag) (D : EqvB) : EqvB := fun x y b H => ∃ (p q : Addr) (xs ys : List V) (es : Nat → Bool), x = .ref p ∧ y = .ref q ∧ SqT K H p xs ∧ SqT K H q ys ∧ (∀ i x y, xs[i]? = some x → ys[i]? = some y → D x y (es i) H) ∧
  (b = true ↔ xs.length = ys.length ∧ ∀ i, i < xs.length → i < ys.length → es i = true)
theorem monB_tup {K : PySem.W.Frag} (hD : MonB D) : MonB (DTupB K D) := fun x y b H H' e ⟨p, q, xs, ys, es, h1, h2, h3, h4, h5, h6⟩ => ⟨p, q, xs, ys, es, h1, h2, ex_t e h3, ex_t e h4, fun i x y g1 g2 => hD _ _ _ _ _ e (h5 i x y g1 g2), h6⟩
theorem rcBG_tup (hD : MonB D) (h : EqBG X n D) : RcBG X (n + 1) (DTupB X.K D) := by
  intro A pins s σ H x y u v b sb I rx ry d
  obtain ⟨p, q, xs, ys, es, rfl, rfl, hp, hq, hi, hb⟩ := d
  cases rx
  cases ry
  obtain ⟨its, r, e, z⟩ := I.tuple hp
  obtain ⟨its2, r2, e2, z2⟩ := I.tuple hq
  have l1 : its.toArray.size = xs.length := by rw [List.size_toArray, ← r.length]
  have l2 : its2.toArray.size = ys.length := by rw [List.size_toArray, ← r2.length]
  refine rc_tupB es sb.room.units0 (fun _ s' => ∃ H', Inv X pins σ H' s' ∧ Ex H H') e e2 (fun i h1 h2 s' l => ?_) (fun i s' g1 g2 g3 ⟨H', I', e'⟩ => ⟨?_, H', I', e'⟩) (fun s' g ⟨H', I', e'⟩ => ⟨?_, H', I', e'⟩) ⟨H, I, Ex.refl H⟩
  · obtain ⟨H1, I1, e1⟩ := l
    have g1 : its[i]? = some its.toArray[i] := by
      have h1' : i < its.length := by simpa using h1
      rw [List.getElem?_eq_getElem h1'] <;> simp
    have g2 : its2[i]? = some its2.toArray[i] := by
      have h2' : i < its2.length := by simpa using h2
      rw [List.getElem?_eq_getElem h2'] <;> simp
    have k1 : i < xs.length := by omega
    have k2 : i < ys.length := by omega
    obtain ⟨u, hu, ru⟩ := r.get (List.getElem?_eq_getElem k1)
    obtain ⟨v, hv, rv⟩ := r2.get (List.getElem?_eq_getElem k2)
    rw [g1] at hu
    rw [g2] at hv
    rw [Option.some.inj hu, Option.some.inj hv]
    refine wpAny_mono (h A.in1 pins s' σ H1 _ _ u v _ sb.in1 I1 ru rv (hD _ _ _ _ _ e1 (hi i _ _ (List.getElem?_eq_getElem k1) (List.getElem?_eq_getElem k2)))) (fun r s2 q => ?_) fun _ _ x => x
    obtain ⟨hr, H2, I2, e2⟩ := q
    exact ⟨hr, H2, I2, e1.trans e2⟩
  · have hf : b = false := by
      cases hbb : b with
      | false => rfl
      | true =>
        have := (hb.mp hbb).2 i (by omega) (by omega)
        rw [g3] at this
        cases this
    rw [hf]
  · congr 1
    rw [Bool.eq_iff_iff, hb, beq_iff_eq, l1, l2]
    exact ⟨fun h => ⟨h, fun i g1 g2 => g i (by omega) (by omega)⟩, fun h => h.1⟩
/-- what is compared with itself is equal -/
def ReflB (X : Cx) (D : EqvB) : Prop := ∀ (x : V) (b : Bool) (pins : List (Addr × Obj)) (σ : L2.St) (H : Hp) (s : Shared), Inv X pins σ H s → D x x b H → b = true
theorem ReflB.or (h : ReflB X D) (h' : ReflB X D') : ReflB X (fun x y b H => D x y b H ∨ D' x y b H) := fun x b pins σ H s I d => d.elim (h x b pins σ H s I) (h' x b pins σ H s I)
theorem reflB_flat : ReflB X DFlatB := fun x b _ _ _ _ _ ⟨h1, _, h3⟩ => by
  rw [← h3]
  cases x with
  | bl a => exact beq_self_eq_true a
  | int a => exact beq_self_eq_true a
  | str a => exact beq_self_eq_true a
  | non => rfl
  | _ => cases h1
theorem sqt_uniq {pins : List (Addr × Obj)} {σ : L2.St} {H : Hp} {s : Shared} {a : Addr} {xs ys : List V} (I : Inv X pins σ H s) (h1 : SqT X.K H a xs) (h2 : SqT X.K H a ys) : xs = ys := I.tuple_inj h1 h2
theorem reflB_tup (h : ReflB X D) : ReflB X (DTupB X.K D) := fun x b pins σ H s I ⟨p, q, xs, ys, es, h1, h2, h3, h4, h5, h6⟩ => by
  rw [h1] at h2
  cases h2
  have e := sqt_uniq I h3 h4
  subst e
  refine h6.mpr ⟨rfl, fun i g1 g2 => ?_⟩
  exact h _ _ pins σ H s I (h5 i _ _ (List.getElem?_eq_getElem g1) (List.getElem?_eq_getElem g1))
/-- from a rich comparison to == within a tuple: one object is equal to itself -/
theorem RcBG.eqG (h : RcBG X n D) (hr : ∀ x y b H, D x y b H → ∃ p q, x = .ref p ∧ y = .ref q) (hs : ReflB X D) : EqBG X n D := by
  intro A pins s σ H x y u v b sb I rx ry d
  obtain ⟨p, q, rfl, rfl⟩ := hr _ _ _ _ d
  cases rx
  cases ry
  by_cases hab : p = q
  · subst hab
    rw [hs _ _ _ _ _ _ I d]
    exact SeqAt.EqAt.same (A := A) (s := s) (.ref p) X.prog X.w X.xe _ ⟨rfl, H, I, Ex.refl H⟩
  · refine GQ.eqBool_refG hab (wpAny_mono (h A pins s σ H (.ref p) (.ref q) _ _ b sb I rfl rfl d) (fun r s' q => ?_) fun _ _ x => x)
    obtain ⟨hr', q⟩ := q
    exact ⟨b, hr', rfl, q⟩
theorem rl_uniq {pins : List (Addr × Obj)} {σ : L2.St} {H : Hp} {s : Shared} (I : Inv X pins σ H s) {v : V} {r : Rl} (h : RlAt X.K H v r) : ∀ {t : Rl}, RlAt X.K H v t → r = t := by
  induction h with
  | wk h =>
    intro t g
    cases g with
    | wk g => have := sqt_uniq I h g; injection this with _ this; injection this with this; injection this with this; rw [this]
    | fs g => exact absurd (sqt_uniq I h g) (fun z => by injection z with z; exact absurd (V.str.inj z) (by decide +kernel))
    | md g => exact absurd (sqt_uniq I h g) (fun z => by injection z with z; exact absurd (V.str.inj z) (by decide +kernel))
    | _ g => exact absurd (congrArg List.length (sqt_uniq I h g)) (by simp)
  | fs h =>
    intro t g
    cases g with
    | fs g => have := sqt_uniq I h g; injection this with _ this; injection this with this; injection this with this; rw [this]
    | wk g => exact absurd (sqt_uniq I h g) (fun z => by injection z with z; exact absurd (V.str.inj z) (by decide +kernel))
    | md g => exact absurd (sqt_uniq I h g) (fun z => by injection z with z; exact absurd (V.str.inj z) (by decide +kernel))
    | _ g => exact absurd (congrArg List.length (sqt_uniq I h g)) (by simp)
  | md h =>
    intro t g
    cases g with
    | md g => have := sqt_uniq I h g; injection this with _ this; injection this with this; injection this with this; rw [this]
    | fs g => exact absurd (sqt_uniq I h g) (fun z => by injection z with z; exact absurd (V.str.inj z) (by decide +kernel))
    | wk g => exact absurd (sqt_uniq I h g) (fun z => by injection z with z; exact absurd (V.str.inj z) (by decide +kernel))
    | _ g => exact absurd (congrArg List.length (sqt_uniq I h g)) (by simp)
  | bh h _ ih =>
    intro t g
    cases g with
    | bh g g1 =>
      have := sqt_uniq I h g
      injection this with _ this
      injection this with e1 this
      injection this with this
      injection this with this
      subst e1
      rw [ih g1, this]
    | wk g | fs g | md g => exact absurd (congrArg List.length (sqt_uniq I h g)) (by simp)
    | _ g => exact absurd (sqt_uniq I h g) (fun z => by injection z with z; exact absurd (V.str.inj z) (by decide +kernel))
  | bo h _ _ i1 i2 =>
    intro t g
    cases g with
    | bo g g1 g2 =>
      have := sqt_uniq I h g
      injection this with _ this
      injection this with e1 this
      injection this with e2 this
      subst e1 e2
      rw [i1 g1, i2 g2]
    | wk g | fs g | md g => exact absurd (congrArg List.length (sqt_uniq I h g)) (by simp)
    | _ g => exact absurd (sqt_uniq I h g) (fun z => by injection z with z; exact absurd (V.str.inj z) (by decide +kernel))
  | ei h _ _ i1 i2 =>
    intro t g
    cases g with
    | ei g g1 g2 =>
      have := sqt_uniq I h g
      injection this with _ this
      injection this with e1 this
      injection this with e2 this
      subst e1 e2
      rw [i1 g1, i2 g2]
    | wk g | fs g | md g => exact absurd (congrArg List.length (sqt_uniq I h g)) (by simp)
    | _ g => exact absurd (sqt_uniq I h g) (fun z => by injection z with z; exact absurd (V.str.inj z) (by decide +kernel))
  | wo h _ _ i1 i2 =>
    intro t g
    cases g with
    | wo g g1 g2 =>
      have := sqt_uniq I h g
      injection this with _ this
      injection this with e1 this
      injection this with e2 this
      subst e1 e2
      rw [i1 g1, i2 g2]
    | wk g | fs g | md g => exact absurd (congrArg List.length (sqt_uniq I h g)) (by simp)
    | _ g => exact absurd (sqt_uniq I h g) (fun z => by injection z with z; exact absurd (V.str.inj z) (by decide +kernel))
/-- two objects of a class, by its own __eq__, which answers what R says -/
def DInsB (C : Addr) (R : Addr → Addr → Bool → Hp → Prop) : EqvB := fun x y b H => ∃ p q dx dy fs gs, x = .ref p ∧ y = .ref q ∧ H p = some (.ins C dx fs) ∧ H q = some (.ins C dy gs) ∧ R p q b H
theorem monB_ins {C : Addr} {R : Addr → Addr → Bool → Hp → Prop} (hR : ∀ p q b H H', Ex H H' → R p q b H → R p q b H') : MonB (DInsB C R) := fun x y b H H' e ⟨p, q, dx, dy, fs, gs, hx, hy, h1, h2, r⟩ => ⟨p, q, dx, dy, fs, gs, hx, hy, e _ _ h1, e _ _ h2, hR p q b H H' e r⟩
theorem rcBG_ins {CX : CXT} {C : Addr} {ps : List Str} {sp : Sp} {R : Addr → Addr → Bool → Hp → Prop} {E : XK} (M : Mtn X.prog X.w X.K X.mg X.base CX C "__eq__" n ps sp) (hx : Passes CX X E)
    (hsp : ∀ p q b H Q, R p q b H → (∀ H', Ex H H' → Q (.bl b) H') → sp [.ref p, .ref q] H Q E) : RcBG X n (DInsB C R) := by
  intro A pins s σ H x y u v b sb I rx ry d
  obtain ⟨f, fd, hM, hk, F, hb⟩ := M.ex
  obtain ⟨p, q, dx, dy, fs, gs, rfl, rfl, hp, hq, hr⟩ := d
  cases rx
  cases ry
  obtain ⟨mA, J, _⟩ := ins_get I.hok hp
  obtain ⟨mB, J', _⟩ := ins_get I.hok hq
  obtain ⟨od, J, _⟩ := J.look
  obtain ⟨od', J', _⟩ := J'.look
  obtain ⟨m, hF⟩ := I.fr
  refine PySem.W.cmp_K (op := .Eq) (tb := .ref C) sb.room.units0 hF I.ok.mod.kin J J'.type (by simp [PySem.W.notFirst]) hM.at_ hM.fn ?_
  have hS : sp [.ref p, .ref q] H (fun v H' => v = .bl b ∧ Ex H H') E := hsp p q b H _ hr fun H' e => ⟨rfl, e⟩
  have e0 : Env0 X.prog X.w X.K X.mg X.base A X.stack s H := by
    have e := I.env0
    exact ⟨by rw [sb.fr]; exact e.frames, e.mod, e.bs, e.bsz, e.funs, e.frf, e.hok, e.bare⟩
  have hl := F.len _ _ _ _ hS
  have r2 : Vals [V.ref p, V.ref q] [Value.ref p, Value.ref q] := .cons rfl (.cons rfl .nil)
  refine wpAny_call (codeAny_mono (F.run A X.stack s H ⟨[.ref p, .ref q], []⟩ [.ref p, .ref q] [.ref p, .ref q] _ E sb.room e0 (by
    have := hb s [.ref p, .ref q] I.kIn (by simpa using hl)
    simpa using this) r2 hS) fun r s' hq => ?_)
  cases r with
  | error e => exact hx pins σ H s e s' I hq
  | ok fl =>
    cases fl with
    | ret w =>
      obtain ⟨z, H', I', rz, ez, ex⟩ := I.after hq
      subst ez
      cases rz
      exact ⟨rfl, H', I', ex⟩
    | next => exact False.elim hq
    | brk => exact False.elim hq
    | cont => exact False.elim hq
/-- x == y as an expression -/
def rEqB (D : EqvB) : R2 := fun x y H Q => ∃ b, D x y b H ∧ ∀ H', Ex H H' → Q (.bl b) H'
theorem op_eqB (h : RcBG X n D) (hr : Room n X.A) : OpR X (compareOp .Eq) (rEqB D) := by
  intro pins s σ H x y v u Q I rx ry hq
  obtain ⟨b, d, q⟩ := hq
  show wpAny (model X.prog X.w) X.A (richCompare .Eq v u) (EP X pins σ Q) X.xe s
  refine wpAny_mono (h X.A pins s σ H x y v u b ⟨hr, rfl⟩ I rx ry d) (fun r s' z => ?_) fun _ _ x => x
  obtain ⟨hr', H', I', e⟩ := z
  subst hr'
  exact ⟨.bl b, H', I', rfl, q H' e⟩
theorem rv_eqB {x y : V} {b : Bool} {H : Hp} (hm : MonB D) (h : D x y b H) : RV (rEqB D) x y H (.bl b) := fun H1 e Q q => ⟨b, hm _ _ _ _ _ e h, fun H' e' => q H' e'⟩
/-! the rows of calendars -/
/-- two feasts -/
def DFst (K : PySem.W.Frag) (CF : Addr) : EqvB := DInsB CF fun p q b H => ∃ r t, FeastAt K CF H p r ∧ FeastAt K CF H q t ∧ r.dep ≤ 50 ∧ t.dep ≤ 50 ∧ b = PyData.eqv (dRl r) (dRl t)
theorem monB_fst {K : PySem.W.Frag} {CF : Addr} : MonB (DFst K CF) := monB_ins fun p q b H H' e ⟨r, t, h1, h2, h3⟩ => ⟨r, t, h1.mono e, h2.mono e, h3⟩
theorem reflB_fst {CF : Addr} : ReflB X (DFst X.K CF) := fun x b pins σ H s I ⟨p, q, dx, dy, fs, gs, h1, h2, _, _, r, t, ⟨_, v, g1, g2⟩, ⟨_, v', g3, g4⟩, _, _, h⟩ => by
  rw [h1] at h2
  cases h2
  rw [g1] at g3
  have e : feastF v r.bys = feastF v' t.bys := by
    injection g3 with g3
    injection g3
  have e2 : v = v' := by
    have := congrArg (fun l => l.lookup ("told" : Str)) e
    simp only [feastF_told] at this
    exact Option.some.inj this
  subst e2
  rw [h, rl_uniq I g2 g4]
  exact dRl_self t
/-- two rows; two tuples of rows -/
def DRow (K : PySem.W.Frag) (CF : Addr) : EqvB := DTupB K fun x y b H => DFst K CF x y b H ∨ DFlatB x y b H
def DRows (K : PySem.W.Frag) (CF : Addr) : EqvB := DTupB K (DRow K CF)
theorem monB_row {K : PySem.W.Frag} {CF : Addr} : MonB (DRow K CF) := monB_tup (monB_fst.or monB_flat)
theorem monB_rows {K : PySem.W.Frag} {CF : Addr} : MonB (DRows K CF) := monB_tup monB_row
theorem rcB_rows {CF : Addr} (h : RcBG X n (DFst X.K CF)) : RcBG X (n + 2) (DRows X.K CF) := by
  have h1 : EqBG X n (DFst X.K CF) := h.eqG (fun _ _ _ _ ⟨p, q, _, _, _, _, hx, hy, _⟩ => ⟨p, q, hx, hy⟩) reflB_fst
  have h2 : EqBG X (n + 1) (DRow X.K CF) := (rcBG_tup (monB_fst.or monB_flat) (h1.or (eqBG_flat.mono (Nat.zero_le n)))).eqG (fun _ _ _ _ ⟨p, q, _, _, _, hx, hy, _⟩ => ⟨p, q, hx, hy⟩) (reflB_tup (reflB_fst.or reflB_flat))
  exact rcBG_tup monB_row h2
def eqRowB (r t : Rl × Bool) : Bool := PyData.eqv (dRl r.1) (dRl t.1) && (r.2 == t.2)
def eqRows : Rows → Rows → Bool
  | [], [] => true
  | r :: a, t :: b => eqRowB r t && eqRows a b
  | _, _ => false
theorem eqRows_iff : ∀ {a b : Rows} (d : Rl × Bool), eqRows a b = true ↔ a.length = b.length ∧ ∀ i, i < a.length → i < b.length → eqRowB (a.getD i d) (b.getD i d) = true
  | [], [], d => by simp [eqRows]
  | [], _ :: _, d => by simp [eqRows]
  | _ :: _, [], d => by simp [eqRows]
  | r :: a, t :: b, d => by
    have ih := eqRows_iff (a := a) (b := b) d
    show (eqRowB r t && eqRows a b) = true ↔ _
    rw [Bool.and_eq_true, ih]
    constructor
    · rintro ⟨h1, h2, h3⟩
      refine ⟨by rw [List.length_cons, List.length_cons, h2], fun i g1 g2 => ?_⟩
      cases i with
      | zero => exact h1
      | succ i => exact h3 i (by simpa using g1) (by simpa using g2)
    · rintro ⟨h1, h2⟩
      refine ⟨h2 0 (by simp) (by simp), by simpa using h1, fun i g1 g2 => ?_⟩
      exact h2 (i + 1) (by simpa using g1) (by simpa using g2)
theorem row_eqB {K : PySem.W.Frag} {CF : Addr} {H : Hp} {x y : V} {r t : Rl × Bool} (h1 : RowAt K CF H x r) (h2 : RowAt K CF H y t) (d1 : r.1.dep ≤ 50) (d2 : t.1.dep ≤ 50) : DRow K CF x y (eqRowB r t) H := by
  obtain ⟨p, q, rfl, hp, hq⟩ := h1
  obtain ⟨p', q', rfl, hp', hq'⟩ := h2
  refine ⟨p, p', _, _, fun i => if i = 0 then PyData.eqv (dRl r.1) (dRl t.1) else (r.2 == t.2), rfl, rfl, hp, hp', fun i x y g1 g2 => ?_, ?_⟩
  · match i, g1, g2 with
    | 0, g1, g2 =>
      cases g1
      cases g2
      obtain ⟨dx, v, ho, hv⟩ := id hq
      obtain ⟨dy, v', ho', hv'⟩ := id hq'
      exact .inl ⟨q, q', dx, dy, _, _, rfl, rfl, ho, ho', r.1, t.1, hq, hq', d1, d2, rfl⟩
    | 1, g1, g2 =>
      cases g1
      cases g2
      exact .inr ⟨rfl, rfl, rfl⟩
    | n + 2, g1, g2 => simp at g1
  · unfold eqRowB
    rw [Bool.and_eq_true]
    constructor
    · rintro ⟨a, b⟩
      refine ⟨rfl, fun i g1 g2 => ?_⟩
      match i, g1 with
      | 0, _ => exact a
      | 1, _ => exact b
      | n + 2, g1 => exact absurd g1 (by simp)
    · rintro ⟨_, b⟩
      exact ⟨b 0 (by simp) (by simp), b 1 (by simp) (by simp)⟩
theorem rows_eqB {K : PySem.W.Frag} {CF : Addr} {H : Hp} {x y : V} {a b : Rows} (h1 : RowsAt K CF H x a) (h2 : RowsAt K CF H y b) (d1 : ∀ r ∈ a, r.1.dep ≤ 50) (d2 : ∀ r ∈ b, r.1.dep ≤ 50) : DRows K CF x y (eqRows a b) H := by
  obtain ⟨p, xs, rfl, hp, hx⟩ := h1
  obtain ⟨q, ys, rfl, hq, hy⟩ := h2
  have l1 := hx.len
  have l2 := hy.len
  refine ⟨p, q, xs, ys, fun i => eqRowB (a.getD i (.wk 0, false)) (b.getD i (.wk 0, false)), rfl, rfl, hp, hq, fun i x y g1 g2 => ?_, ?_⟩
  · obtain ⟨r, hr, hrow⟩ := hx.get g1
    obtain ⟨t, ht, trow⟩ := hy.get g2
    have e1 : a.getD i (.wk 0, false) = r := by rw [List.getD_eq_getElem?_getD, hr]; rfl
    have e2 : b.getD i (.wk 0, false) = t := by rw [List.getD_eq_getElem?_getD, ht]; rfl
    show DRow K CF x y (eqRowB (a.getD i (.wk 0, false)) (b.getD i (.wk 0, false))) H
    rw [e1, e2]
    exact row_eqB hrow trow (d1 r (List.mem_of_getElem? hr)) (d2 t (List.mem_of_getElem? ht))
  · rw [eqRows_iff (.wk 0, false), l1, l2]
theorem eqRows_self : ∀ a : Rows, eqRows a a = true
  | [] => rfl
  | r :: a => by
    show (eqRowB r r && eqRows a a) = true
    unfold eqRowB
    rw [dRl_self, eqRows_self a]
    simp
def dRows (a : Rows) : PyData := .list (a.map fun r => .tuple [dRl r.1, .bool r.2])
theorem dRows_eqv : ∀ a b : Rows, PyData.eqv (dRows a) (dRows b) = eqRows a b
  | [], [] => by simp [dRows, PyData.eqv, PyData.eqvAll, eqRows]
  | [], _ :: _ => by simp [dRows, PyData.eqv, PyData.eqvAll, eqRows]
  | _ :: _, [] => by simp [dRows, PyData.eqv, PyData.eqvAll, eqRows]
  | r :: a, t :: b => by
    have ih := dRows_eqv a b
    unfold dRows PyData.eqv at ih ⊢
    simp only [List.map_cons, PyData.eqvAll, eqRows, ih]
    simp [PyData.eqv, PyData.eqvAll, eqRowB]
end
end WF

set_option Elab.async false
set_option linter.all false
set_option maxRecDepth 100000
set_option maxHeartbeats 1000000
/-! WText: list(a written dict); xs.extend(a written tuple); words and lines of rules -/
namespace WF
open PySem PySem.Spec PyProof.Rows L2 Evl TL
/-- the entries' keys are these texts -/
def KeysAre : List DictEntry → List Str → Prop
  | [], [] => True
  | e :: r, k :: ks => (∃ t, e.key = .str k t) ∧ KeysAre r ks
  | _, _ => False
theorem keys_len : ∀ {es : List DictEntry} {ks : List Str}, KeysAre es ks → es.length = ks.length
  | [], [], _ => rfl
  | _ :: _, _ :: _, h => congrArg (· + 1) (keys_len h.2)
  | [], _ :: _, h => h.elim
  | _ :: _, [], h => h.elim
theorem keys_pairs {P : Program} {w : World} : ∀ {es : List DictEntry} {ks : List Str}, KeysAre es ks → Pairs (PySem.strKind P w) es (ks.zip (es.map (·.val)))
  | [], [], _ => .nil
  | e :: es, k :: ks, ⟨⟨t, h⟩, r⟩ => .cons (by rw [h]; exact PySem.strKind_is P w k t) rfl (keys_pairs r)
  | [], _ :: _, h => h.elim
  | _ :: _, [], h => h.elim
section
variable {X : Cx} {d : Addr} {es : Array DictEntry} {n : Nat} {ks : List Str}
theorem kd_dictAt {h : Heap} (Y : X.K.In h) (D : KDict X.K X.w d es n) (hk : KeysAre es.toList ks) (nd : ks.Nodup) : h.DictAt (PySem.strKind X.prog X.w) d (ks.zip (es.toList.map (·.val))) n := by
  obtain ⟨o, es', ep, ho, hx, hd, hkeys, _⟩ := PySem.W.mapOf_K (prog := X.prog) Y D.at_ D.lit
  have h0 := Y _ _ D.at_
  rw [h0] at ho
  cases ho
  cases hd
  refine ⟨_, es, h0, hx, rfl, hkeys, keys_pairs hk, ?_⟩
  rw [List.map_fst_zip (by rw [List.length_map, keys_len hk]; exact Nat.le_refl _)]
  exact nd
/-- list(a dict of the module) -/
def rListK (d : Addr) (ks : List Str) : List V → Hp → VK → Prop := fun xs H Q => xs = [.ref d] ∧ ∀ q, H q = none → Q (.ref q) (upd H q (.lst (ks.map V.str)))
theorem call_list_kd (hc : X.calm = true) (D : KDict X.K X.w d es n) (hk : KeysAre es.toList ks) (nd : ks.Nodup) (hz : ks.length ≤ 1000) : CallR X (.type "list") (rListK d ks) := by
  intro pins s σ H xs us Q I r h
  obtain ⟨e, q⟩ := h
  subst e
  obtain ⟨u, eu, rx⟩ := vals1 r
  subst eu
  obtain rfl : u = Value.ref d := rx
  have hl : (ks.zip (es.toList.map (·.val))).length = ks.length := by rw [List.length_zip, List.length_map, keys_len hk, Nat.min_self]
  have hz' : ks.length ≤ sizeLine := Nat.le_trans hz (by decide)
  refine PySem.W.kdl_call (PySem.W.kdl_dict (knd := PySem.strKind X.prog X.w) (kvs := ks.zip (es.toList.map (·.val))) (ep := n) D.low) (I.ok.hd hc) (kd_dictAt I.kIn D hk nd) (by rw [hl]; exact hz') fun h' tk acc' c' hkeep hS hacc => ?_
  refine ⟨.ref s.heap.objs.size, upd H s.heap.objs.size (.lst (ks.map V.str)), I.laid hkeep (Nat.le_refl _) (show ObjOk X.prog X.w _ _ _ (.lst (ks.map V.str)) from ⟨?_, acc'.toList, c', ?_, ?_⟩), rfl, q _ (I.hok.fresh (Nat.le_refl _))⟩
  · rw [List.length_map]; exact hz'
  · have el : acc'.toList.length = acc'.size := by simp
    refine vals_of_at (by rw [List.length_map, el, hacc.1, hl]) fun j x w h1 h2 => ?_
    obtain ⟨k, y, hky, hi⟩ := hacc.2 j w (by rw [← Array.getElem?_toList]; exact h2)
    have e1 : ks[j]? = some k := by
      rw [List.getElem?_zip_eq_some] at hky
      exact hky.1
    rw [List.getElem?_map, e1] at h1
    cases h1
    obtain ⟨t, rfl⟩ := Value.isStrOf_shape hi
    exact ⟨t, rfl⟩
  · rw [Array.toArray_toList]; exact hS
end
/-- a tuple of the module, as it stands -/
def KTupX (K : PySem.W.Frag) (a : Addr) (xs : List V) : Prop := ∃ (its : Array Value) (n : Nat), K.lookup a = some ⟨.type "tuple", none, .seq its n, #[]⟩ ∧ Vals xs its.toList
def rExtK (b : Addr) (zs : List V) : V → List V → Hp → VK → Prop := fun x vs H Q => ∃ l xs, x = .ref l ∧ vs = [.ref b] ∧ H l = some (.lst xs) ∧ xs.length + zs.length ≤ 1000 ∧ Q .non (upd H l (.lst (xs ++ zs)))
theorem mt_extendK {X : Cx} {b : Addr} {zs : List V} (hK : KTupX X.K b zs) : MtM X "list.extend" (rExtK b zs) := by
  intro pins s σ H x vs v us Q I rx rv h
  obtain ⟨l, xs, rfl, rfl, hH, hz, q⟩ := h
  obtain ⟨its2, n2, e2', r2⟩ := hK
  have e2 := I.kIn _ _ e2'
  cases rx
  obtain ⟨u, rfl, ru⟩ := rv.one
  cases ru
  obtain ⟨z, its, n, r, hl, e⟩ := I.lstM hH
  have hl2 : zs.length = its2.size := by rw [r2.length]; simp
  have hsz : its.toArray.size + its2.size ≤ sizeLine := by
    rw [List.size_toArray]
    exact Nat.le_trans (by omega) (show 1000 ≤ sizeLine by decide)
  have hlong : ¬ (!its.toArray.isEmpty && Builtin.List.listTooLong (its.toArray.size + its2.size)) = true := by
    rw [notLongL hsz, Bool.and_false]
    exact Bool.false_ne_true
  refine call_meets F.slot_list_extend ⟨_, e, rfl⟩ F.entry_list_extend (F.args_list_extend_2 _ _)
    (AutoSeq1.list_extend_list_tuple_0 l its.toArray n b its2 n2 hlong (by rw [List.size_toArray]; exact Nat.le_trans (by omega) (show 1000 ≤ sizeLine by decide)) (by omega)) ⟨e, e2, ?_⟩
  refine ⟨.non, _, I.lset (its' := its ++ its2.toList) hH e (by simp) (r.append r2) ?_, rfl, q⟩
  rw [List.length_append]
  exact Nat.le_trans hz (by decide)
/-! words of rules -/
def numS (i : Int) : Str := Str.ofString (toString i)
def wordsR : Rl → List Str
  | .wk k => ["weekday", numS k]
  | .fs k => ["first", numS k]
  | .md k => ["monthday", numS k]
  | .bh r b => "behind" :: numS b :: wordsR r
  | .bo x y => "both" :: (wordsR x ++ wordsR y)
  | .ei x y => "either" :: (wordsR x ++ wordsR y)
  | .wo x y => "without" :: (wordsR x ++ wordsR y)
def beginS (y : Bool) : Str := if y then "yields" else "plain"
def lineS (r : Rl × Bool) : Str := Txt.join " " (beginS r.2 :: wordsR r.1)
def textS (rows : Rows) : Str := Txt.join "" (rows.map fun r => lineS r ++ "\n")
theorem words_len : ∀ r : Rl, (wordsR r).length ≤ 2 * r.parts
  | .wk _ | .fs _ | .md _ => Nat.le_refl _
  | .bh r b => by
    have := words_len r
    simp only [wordsR, Rl.parts, List.length_append, List.length_cons, List.length_nil]
    omega
  | .bo x y | .ei x y | .wo x y => by
    have := words_len x
    have := words_len y
    simp only [wordsR, Rl.parts, List.length_append, List.length_cons, List.length_nil]
    omega
/-! signs of words -/
theorem num_cases {k : Int} (h : -3 ≤ k ∧ k ≤ 2) : k = -3 ∨ k = -2 ∨ k = -1 ∨ k = 0 ∨ k = 1 ∨ k = 2 := by omega
def WordOk (x : Str) : Prop := x.length ≤ 10 ∧ 32 ∉ tl x ∧ 10 ∉ tl x
instance (x : Str) : Decidable (WordOk x) := inferInstanceAs (Decidable (_ ∧ _ ∧ _))
theorem num_ok {k : Int} (h : -3 ≤ k ∧ k ≤ 2) : WordOk (numS k) := by
  rcases num_cases h with rfl | rfl | rfl | rfl | rfl | rfl <;> decide +kernel
theorem int_numS {k : Int} (h : -3 ≤ k ∧ k ≤ 2) : PySem.intText? (numS k) = some k := by
  rcases num_cases h with rfl | rfl | rfl | rfl | rfl | rfl <;> decide +kernel
theorem words_ok : ∀ r : Rl, r.fit = true → ∀ x ∈ wordsR r, WordOk x
  | .wk k, hf, x, hx => by
    have hk := of_decide_eq_true hf
    simp only [wordsR, List.mem_cons, List.not_mem_nil, or_false] at hx
    rcases hx with rfl | rfl
    · decide +kernel
    · exact num_ok (by omega)
  | .fs k, hf, x, hx => by
    have hk := of_decide_eq_true hf
    simp only [wordsR, List.mem_cons, List.not_mem_nil, or_false] at hx
    rcases hx with rfl | rfl
    · decide +kernel
    · exact num_ok (by omega)
  | .md k, hf, x, hx => by
    have hk := of_decide_eq_true hf
    simp only [wordsR, List.mem_cons, List.not_mem_nil, or_false] at hx
    rcases hx with rfl | rfl
    · decide +kernel
    · exact num_ok (by omega)
  | .bh r b, hf, x, hx => by
    simp only [Rl.fit, Bool.and_eq_true] at hf
    have hb := of_decide_eq_true hf.1
    simp only [wordsR, List.mem_cons] at hx
    rcases hx with rfl | rfl | hx
    · decide +kernel
    · exact num_ok (by omega)
    · exact words_ok r hf.2 x hx
  | .bo a b, hf, x, hx => by
    simp only [Rl.fit, Bool.and_eq_true] at hf
    simp only [wordsR, List.mem_cons, List.mem_append] at hx
    rcases hx with rfl | hx | hx
    · decide +kernel
    · exact words_ok a hf.1 x hx
    · exact words_ok b hf.2 x hx
  | .ei a b, hf, x, hx => by
    simp only [Rl.fit, Bool.and_eq_true] at hf
    simp only [wordsR, List.mem_cons, List.mem_append] at hx
    rcases hx with rfl | hx | hx
    · decide +kernel
    · exact words_ok a hf.1 x hx
    · exact words_ok b hf.2 x hx
  | .wo a b, hf, x, hx => by
    simp only [Rl.fit, Bool.and_eq_true] at hf
    simp only [wordsR, List.mem_cons, List.mem_append] at hx
    rcases hx with rfl | hx | hx
    · decide +kernel
    · exact words_ok a hf.1 x hx
    · exact words_ok b hf.2 x hx
theorem begin_ok (y : Bool) : WordOk (beginS y) := by cases y <;> decide +kernel
theorem joinL_len (S : List Nat) : ∀ ps : List (List Nat), (joinL S ps).length ≤ (ps.map (·.length)).sum + ps.length * S.length
  | [] => Nat.zero_le _
  | [p] => by simp [joinL]
  | p :: q :: r => by
    have ih := joinL_len S (q :: r)
    simp only [joinL, List.length_append, List.map_cons, List.sum_cons, List.length_cons, Nat.add_mul, Nat.one_mul] at ih ⊢
    omega
theorem joinL_mem {S : List Nat} {c : Nat} : ∀ {ps : List (List Nat)}, c ∈ joinL S ps → c ∈ S ∨ ∃ p ∈ ps, c ∈ p
  | [], h => by cases h
  | [p], h => .inr ⟨p, List.mem_cons_self, h⟩
  | p :: q :: r, h => by
    have h : c ∈ p ++ (S ++ joinL S (q :: r)) := h
    rcases List.mem_append.mp h with h | h
    · exact .inr ⟨p, List.mem_cons_self, h⟩
    · rcases List.mem_append.mp h with h | h
      · exact .inl h
      · rcases joinL_mem h with h | ⟨z, hz, h⟩
        · exact .inl h
        · exact .inr ⟨z, List.mem_cons_of_mem _ hz, h⟩
theorem sum_le {ls : List Nat} {n : Nat} (h : ∀ x ∈ ls, x ≤ n) : ls.sum ≤ ls.length * n := by
  induction ls with
  | nil => exact Nat.zero_le _
  | cons a ls ih =>
    have h1 := h a List.mem_cons_self
    have h2 := ih fun x hx => h x (List.mem_cons_of_mem _ hx)
    rw [List.sum_cons, List.length_cons, Nat.add_mul, Nat.one_mul]
    omega
theorem join_len (a : Str) (ys : List Str) : (Txt.join a ys).length ≤ (ys.map (·.length)).sum + ys.length * a.length := by
  have h := joinL_len (tl a) (ys.map tl)
  rw [← tl_join, ← join_eq, ← len_tl, ← len_tl, List.length_map, List.map_map] at h
  have e : (ys.map (List.length ∘ tl)) = ys.map (·.length) := List.map_congr_left fun x _ => (len_tl x).symm
  rw [e] at h
  exact h
def lineW (r : Rl × Bool) : List Str := beginS r.2 :: wordsR r.1
theorem lineW_ok {r : Rl × Bool} (hf : r.1.fit = true) : ∀ x ∈ lineW r, WordOk x := fun x hx => by
  rcases List.mem_cons.mp hx with rfl | hx
  · exact begin_ok _
  · exact words_ok _ hf x hx
theorem lineW_len {r : Rl × Bool} (hp : r.1.parts ≤ 5) : (lineW r).length ≤ 11 := by
  have := words_len r.1
  show (wordsR r.1).length + 1 ≤ 11
  omega
theorem lineW_sum {r : Rl × Bool} (hf : r.1.fit = true) (hp : r.1.parts ≤ 5) : ((lineW r).map (·.length)).sum ≤ 110 := by
  have h1 := sum_le (ls := (lineW r).map (·.length)) (n := 10) fun x hx => by
    obtain ⟨z, hz, rfl⟩ := List.mem_map.mp hx
    exact (lineW_ok hf z hz).1
  rw [List.length_map] at h1
  have h2 := lineW_len hp
  omega
theorem line_len {r : Rl × Bool} (hf : r.1.fit = true) (hp : r.1.parts ≤ 5) : (lineS r).length ≤ 121 := by
  have h1 := join_len " " (lineW r)
  have h2 := lineW_len hp
  have h3 := lineW_sum hf hp
  have h4 : (" " : Str).length = 1 := by decide +kernel
  rw [h4, Nat.mul_one] at h1
  show (Txt.join " " (lineW r)).length ≤ 121
  omega
theorem line_free {r : Rl × Bool} (hf : r.1.fit = true) : 10 ∉ tl (lineS r) := fun h => by
  have h : 10 ∈ tl (Txt.join " " (lineW r)) := h
  rw [join_eq, tl_join] at h
  rcases joinL_mem h with h | ⟨p, hp, h⟩
  · revert h; decide +kernel
  · obtain ⟨z, hz, rfl⟩ := List.mem_map.mp hp
    exact (lineW_ok hf z hz).2.2 h
theorem line_split {r : Rl × Bool} (hf : r.1.fit = true) : Txt.split (lineS r) " " = lineW r :=
  split_join (y := " ") (s := 32) (S := []) (by decide +kernel) (by decide +kernel) (by simp [lineW]) fun x hx => (lineW_ok hf x hx).2.1
theorem joinL_nl : ∀ ls : List (List Nat), joinL [] (ls.map (· ++ [10])) = joinL [10] (ls ++ [[]])
  | [] => rfl
  | [p] => by simp [joinL]
  | p :: q :: r => by
    have ih := joinL_nl (q :: r)
    simp only [List.map_cons, List.cons_append, joinL, List.nil_append] at ih ⊢
    rw [ih, List.append_assoc]
    rfl
theorem text_split {rows : Rows} (hf : ∀ r ∈ rows, r.1.fit = true) : Txt.split (textS rows) "\n" = rows.map lineS ++ [("" : Str)] := by
  have e : textS rows = Txt.join "\n" (rows.map lineS ++ [("" : Str)]) := by
    refine ext_tl ?_
    unfold textS
    rw [join_eq, tl_join, join_eq, tl_join, List.map_map, List.map_append, List.map_map]
    have h1 : (rows.map (tl ∘ fun r => lineS r ++ "\n")) = (rows.map (tl ∘ lineS)).map (· ++ [10]) := by
      rw [List.map_map]
      refine List.map_congr_left fun r _ => ?_
      show tl (lineS r ++ "\n") = tl (lineS r) ++ [10]
      rw [tl_append]
      rfl
    rw [h1]
    exact joinL_nl _
  rw [e]
  refine split_join (y := "\n") (s := 10) (S := []) (by decide +kernel) (by decide +kernel) (by simp) fun x hx => ?_
  rcases List.mem_append.mp hx with hx | hx
  · obtain ⟨r, hr, rfl⟩ := List.mem_map.mp hx
    exact line_free (hf r hr)
  · rw [List.mem_singleton.mp hx]
    decide +kernel
theorem text_len {rows : Rows} (hf : ∀ r ∈ rows, r.1.fit = true ∧ r.1.parts ≤ 5) (hl : rows.length ≤ 3) : (textS rows).length ≤ 400 := by
  have h1 := join_len "" (rows.map fun r => lineS r ++ "\n")
  have h2 := sum_le (ls := (rows.map fun r => lineS r ++ "\n").map (·.length)) (n := 122) fun x hx => by
    obtain ⟨z, hz, rfl⟩ := List.mem_map.mp hx
    obtain ⟨r, hr, rfl⟩ := List.mem_map.mp hz
    have := line_len (hf r hr).1 (hf r hr).2
    rw [len_tl, tl_append, List.length_append, ← len_tl]
    show (lineS r).length + 1 ≤ 122
    omega
  have h3 : ("" : Str).length = 0 := by decide +kernel
  rw [h3, Nat.mul_zero] at h1
  rw [List.length_map, List.length_map] at h2
  show (Txt.join "" (rows.map fun r => lineS r ++ "\n")).length ≤ 400
  omega
section
variable {X : Cx} {K : PySem.W.Frag} {o e : Expr} {es : List Expr} {to te : TE} {t : TA} {apos cpos p : Pos}
def rJoin (K : PySem.W.Frag) : V → List V → Hp → VK → Prop := fun x xs H Q => ∃ a p, ∃ ys : List Str, x = .str a ∧ xs = [.ref p] ∧ (SqL K H p (ys.map V.str) ∨ SqT K H p (ys.map V.str)) ∧ (ys.map (·.length)).sum + ys.length * a.length ≤ 16777216 ∧ Q (.str (Txt.join a ys)) H
theorem pe_joinK (ho : PE X o to) (ha : PA X (e :: es) t)
    (hbase : attributeBase o ("join" : Str) X.env (eval o X.env) = eval o X.env := by rfl)
    (hfew : ((backTo cpos (starEach (e :: es) X.env)).all (fun x => !x.1) && (backToKw cpos (keywordEach [] X.env)).all (fun x => x.1.isSome)
      && decide ((e :: es).length + ([] : List Keyword).length + (if ([] : List Keyword).isEmpty then 0 else 1) < 30)) = true := by rfl)
    (hline : (apos.endLine == cpos.line) = true := by rfl) (hs : starEach (e :: es) X.env = (false, eval e X.env) :: starEach es X.env := by rfl) (hplain : (backTo cpos (starEach es X.env)).any (·.1) = false := by rfl)
    (hK : X.K = K := by rfl) : PE X (.Call (.Attribute o ("join" : Str) apos) (e :: es) [] cpos) (tBM K "str" (rJoin K) to t) := by
  subst hK
  exact pe_bm PySem.F.plainAttrs_str PySem.F.slot_str_join PySem.F.type_str_join mt_join ho ha hbase hfew hline hs hplain
theorem pa_starK (he : PE X e te) (hr : PA X es t) (hs : starEach (.Starred e p :: es) X.env = (true, eval e X.env) :: starEach es X.env := by rfl) (hK : X.K = K := by rfl) : PA X (.Starred e p :: es) (StX.tStar K te t) := by
  subst hK
  exact StX.pa_star he hr hs
end
end WF

set_option Elab.async false
set_option linter.all false
set_option maxRecDepth 100000
set_option maxHeartbeats 1000000
/-! WParse: a reader of a line, as an object; what it reads -/
namespace WF
open PySem PySem.Spec PyProof.Rows L2 Evl
def lineF (n : Int) (W : Addr) (a p d r : Int) : List (Str × V) := [("number", .int n), ("row", .ref W), ("spot", .int a), ("parts", .int p), ("due", .int d), ("room", .int r)]
theorem nb_number_row : (("number" : Str) == ("row" : Str)) = false := by decide +kernel
theorem ne_number_row : ¬ (("number" : Str) = ("row" : Str)) := by decide +kernel
theorem nb_number_spot : (("number" : Str) == ("spot" : Str)) = false := by decide +kernel
theorem ne_number_spot : ¬ (("number" : Str) = ("spot" : Str)) := by decide +kernel
theorem nb_number_parts : (("number" : Str) == ("parts" : Str)) = false := by decide +kernel
theorem ne_number_parts : ¬ (("number" : Str) = ("parts" : Str)) := by decide +kernel
theorem nb_number_due : (("number" : Str) == ("due" : Str)) = false := by decide +kernel
theorem ne_number_due : ¬ (("number" : Str) = ("due" : Str)) := by decide +kernel
theorem nb_number_room : (("number" : Str) == ("room" : Str)) = false := by decide +kernel
theorem ne_number_room : ¬ (("number" : Str) = ("room" : Str)) := by decide +kernel
theorem nb_row_number : (("row" : Str) == ("number" : Str)) = false := by decide +kernel
theorem ne_row_number : ¬ (("row" : Str) = ("number" : Str)) := by decide +kernel
theorem nb_row_spot : (("row" : Str) == ("spot" : Str)) = false := by decide +kernel
theorem ne_row_spot : ¬ (("row" : Str) = ("spot" : Str)) := by decide +kernel
theorem nb_row_parts : (("row" : Str) == ("parts" : Str)) = false := by decide +kernel
theorem ne_row_parts : ¬ (("row" : Str) = ("parts" : Str)) := by decide +kernel
theorem nb_row_due : (("row" : Str) == ("due" : Str)) = false := by decide +kernel
theorem ne_row_due : ¬ (("row" : Str) = ("due" : Str)) := by decide +kernel
theorem nb_row_room : (("row" : Str) == ("room" : Str)) = false := by decide +kernel
theorem ne_row_room : ¬ (("row" : Str) = ("room" : Str)) := by decide +kernel
theorem nb_spot_number : (("spot" : Str) == ("number" : Str)) = false := by decide +kernel
theorem ne_spot_number : ¬ (("spot" : Str) = ("number" : Str)) := by decide +kernel
theorem nb_spot_row : (("spot" : Str) == ("row" : Str)) = false := by decide +kernel
theorem ne_spot_row : ¬ (("spot" : Str) = ("row" : Str)) := by decide +kernel
theorem nb_spot_parts : (("spot" : Str) == ("parts" : Str)) = false := by decide +kernel
theorem ne_spot_parts : ¬ (("spot" : Str) = ("parts" : Str)) := by decide +kernel
theorem nb_spot_due : (("spot" : Str) == ("due" : Str)) = false := by decide +kernel
theorem ne_spot_due : ¬ (("spot" : Str) = ("due" : Str)) := by decide +kernel
theorem nb_spot_room : (("spot" : Str) == ("room" : Str)) = false := by decide +kernel
theorem ne_spot_room : ¬ (("spot" : Str) = ("room" : Str)) := by decide +kernel
theorem nb_parts_number : (("parts" : Str) == ("number" : Str)) = false := by decide +kernel
theorem ne_parts_number : ¬ (("parts" : Str) = ("number" : Str)) := by decide +kernel
theorem nb_parts_row : (("parts" : Str) == ("row" : Str)) = false := by decide +kernel
theorem ne_parts_row : ¬ (("parts" : Str) = ("row" : Str)) := by decide +kernel
theorem nb_parts_spot : (("parts" : Str) == ("spot" : Str)) = false := by decide +kernel
theorem ne_parts_spot : ¬ (("parts" : Str) = ("spot" : Str)) := by decide +kernel
theorem nb_parts_due : (("parts" : Str) == ("due" : Str)) = false := by decide +kernel
theorem ne_parts_due : ¬ (("parts" : Str) = ("due" : Str)) := by decide +kernel
theorem nb_parts_room : (("parts" : Str) == ("room" : Str)) = false := by decide +kernel
theorem ne_parts_room : ¬ (("parts" : Str) = ("room" : Str)) := by decide +kernel
theorem nb_due_number : (("due" : Str) == ("number" : Str)) = false := by decide +kernel
theorem ne_due_number : ¬ (("due" : Str) = ("number" : Str)) := by decide +kernel
theorem nb_due_row : (("due" : Str) == ("row" : Str)) = false := by decide +kernel
theorem ne_due_row : ¬ (("due" : Str) = ("row" : Str)) := by decide +kernel
theorem nb_due_spot : (("due" : Str) == ("spot" : Str)) = false := by decide +kernel
theorem ne_due_spot : ¬ (("due" : Str) = ("spot" : Str)) := by decide +kernel
theorem nb_due_parts : (("due" : Str) == ("parts" : Str)) = false := by decide +kernel
theorem ne_due_parts : ¬ (("due" : Str) = ("parts" : Str)) := by decide +kernel
theorem nb_due_room : (("due" : Str) == ("room" : Str)) = false := by decide +kernel
theorem ne_due_room : ¬ (("due" : Str) = ("room" : Str)) := by decide +kernel
theorem nb_room_number : (("room" : Str) == ("number" : Str)) = false := by decide +kernel
theorem ne_room_number : ¬ (("room" : Str) = ("number" : Str)) := by decide +kernel
theorem nb_room_row : (("room" : Str) == ("row" : Str)) = false := by decide +kernel
theorem ne_room_row : ¬ (("room" : Str) = ("row" : Str)) := by decide +kernel
theorem nb_room_spot : (("room" : Str) == ("spot" : Str)) = false := by decide +kernel
theorem ne_room_spot : ¬ (("room" : Str) = ("spot" : Str)) := by decide +kernel
theorem nb_room_parts : (("room" : Str) == ("parts" : Str)) = false := by decide +kernel
theorem ne_room_parts : ¬ (("room" : Str) = ("parts" : Str)) := by decide +kernel
theorem nb_room_due : (("room" : Str) == ("due" : Str)) = false := by decide +kernel
theorem ne_room_due : ¬ (("room" : Str) = ("due" : Str)) := by decide +kernel
section
variable {n : Int} {W : Addr} {a p d r : Int}
theorem lineF_number : (lineF n W a p d r).lookup ("number" : Str) = some (.int n) := by
  unfold lineF
  rw [List.lookup_cons, beq_self_eq_true]
theorem lineF_row : (lineF n W a p d r).lookup ("row" : Str) = some (.ref W) := by
  unfold lineF
  rw [List.lookup_cons, nb_row_number]
  dsimp only
  rw [List.lookup_cons, beq_self_eq_true]
theorem lineF_spot : (lineF n W a p d r).lookup ("spot" : Str) = some (.int a) := by
  unfold lineF
  rw [List.lookup_cons, nb_spot_number]
  dsimp only
  rw [List.lookup_cons, nb_spot_row]
  dsimp only
  rw [List.lookup_cons, beq_self_eq_true]
theorem lineF_parts : (lineF n W a p d r).lookup ("parts" : Str) = some (.int p) := by
  unfold lineF
  rw [List.lookup_cons, nb_parts_number]
  dsimp only
  rw [List.lookup_cons, nb_parts_row]
  dsimp only
  rw [List.lookup_cons, nb_parts_spot]
  dsimp only
  rw [List.lookup_cons, beq_self_eq_true]
theorem lineF_due : (lineF n W a p d r).lookup ("due" : Str) = some (.int d) := by
  unfold lineF
  rw [List.lookup_cons, nb_due_number]
  dsimp only
  rw [List.lookup_cons, nb_due_row]
  dsimp only
  rw [List.lookup_cons, nb_due_spot]
  dsimp only
  rw [List.lookup_cons, nb_due_parts]
  dsimp only
  rw [List.lookup_cons, beq_self_eq_true]
theorem lineF_room : (lineF n W a p d r).lookup ("room" : Str) = some (.int r) := by
  unfold lineF
  rw [List.lookup_cons, nb_room_number]
  dsimp only
  rw [List.lookup_cons, nb_room_row]
  dsimp only
  rw [List.lookup_cons, nb_room_spot]
  dsimp only
  rw [List.lookup_cons, nb_room_parts]
  dsimp only
  rw [List.lookup_cons, nb_room_due]
  dsimp only
  rw [List.lookup_cons, beq_self_eq_true]
theorem lineF_no_take : (lineF n W a p d r).lookup ("take" : Str) = none := by
  unfold lineF
  rw [List.lookup_cons, show (("take" : Str) == ("number" : Str)) = false by decide +kernel]
  dsimp only
  rw [List.lookup_cons, show (("take" : Str) == ("row" : Str)) = false by decide +kernel]
  dsimp only
  rw [List.lookup_cons, show (("take" : Str) == ("spot" : Str)) = false by decide +kernel]
  dsimp only
  rw [List.lookup_cons, show (("take" : Str) == ("parts" : Str)) = false by decide +kernel]
  dsimp only
  rw [List.lookup_cons, show (("take" : Str) == ("due" : Str)) = false by decide +kernel]
  dsimp only
  rw [List.lookup_cons, show (("take" : Str) == ("room" : Str)) = false by decide +kernel]
  dsimp only
  rfl
theorem lineF_no_take_number : (lineF n W a p d r).lookup ("take_number" : Str) = none := by
  unfold lineF
  rw [List.lookup_cons, show (("take_number" : Str) == ("number" : Str)) = false by decide +kernel]
  dsimp only
  rw [List.lookup_cons, show (("take_number" : Str) == ("row" : Str)) = false by decide +kernel]
  dsimp only
  rw [List.lookup_cons, show (("take_number" : Str) == ("spot" : Str)) = false by decide +kernel]
  dsimp only
  rw [List.lookup_cons, show (("take_number" : Str) == ("parts" : Str)) = false by decide +kernel]
  dsimp only
  rw [List.lookup_cons, show (("take_number" : Str) == ("due" : Str)) = false by decide +kernel]
  dsimp only
  rw [List.lookup_cons, show (("take_number" : Str) == ("room" : Str)) = false by decide +kernel]
  dsimp only
  rfl
theorem lineF_no_whole_rule : (lineF n W a p d r).lookup ("whole_rule" : Str) = none := by
  unfold lineF
  rw [List.lookup_cons, show (("whole_rule" : Str) == ("number" : Str)) = false by decide +kernel]
  dsimp only
  rw [List.lookup_cons, show (("whole_rule" : Str) == ("row" : Str)) = false by decide +kernel]
  dsimp only
  rw [List.lookup_cons, show (("whole_rule" : Str) == ("spot" : Str)) = false by decide +kernel]
  dsimp only
  rw [List.lookup_cons, show (("whole_rule" : Str) == ("parts" : Str)) = false by decide +kernel]
  dsimp only
  rw [List.lookup_cons, show (("whole_rule" : Str) == ("due" : Str)) = false by decide +kernel]
  dsimp only
  rw [List.lookup_cons, show (("whole_rule" : Str) == ("room" : Str)) = false by decide +kernel]
  dsimp only
  rfl
theorem lineF_no_end : (lineF n W a p d r).lookup ("end" : Str) = none := by
  unfold lineF
  rw [List.lookup_cons, show (("end" : Str) == ("number" : Str)) = false by decide +kernel]
  dsimp only
  rw [List.lookup_cons, show (("end" : Str) == ("row" : Str)) = false by decide +kernel]
  dsimp only
  rw [List.lookup_cons, show (("end" : Str) == ("spot" : Str)) = false by decide +kernel]
  dsimp only
  rw [List.lookup_cons, show (("end" : Str) == ("parts" : Str)) = false by decide +kernel]
  dsimp only
  rw [List.lookup_cons, show (("end" : Str) == ("due" : Str)) = false by decide +kernel]
  dsimp only
  rw [List.lookup_cons, show (("end" : Str) == ("room" : Str)) = false by decide +kernel]
  dsimp only
  rfl
theorem putF_spot {x : Int} : putF ("spot" : Str) (.int x) (lineF n W a p d r) = lineF n W x p d r := by
  unfold lineF
  rw [putF, if_neg ne_number_spot]
  rw [putF, if_neg ne_row_spot]
  rw [putF, if_pos rfl]
theorem putF_parts {x : Int} : putF ("parts" : Str) (.int x) (lineF n W a p d r) = lineF n W a x d r := by
  unfold lineF
  rw [putF, if_neg ne_number_parts]
  rw [putF, if_neg ne_row_parts]
  rw [putF, if_neg ne_spot_parts]
  rw [putF, if_pos rfl]
theorem putF_due {x : Int} : putF ("due" : Str) (.int x) (lineF n W a p d r) = lineF n W a p x r := by
  unfold lineF
  rw [putF, if_neg ne_number_due]
  rw [putF, if_neg ne_row_due]
  rw [putF, if_neg ne_spot_due]
  rw [putF, if_neg ne_parts_due]
  rw [putF, if_pos rfl]
theorem putF_room {x : Int} : putF ("room" : Str) (.int x) (lineF n W a p d r) = lineF n W a p d x := by
  unfold lineF
  rw [putF, if_neg ne_number_room]
  rw [putF, if_neg ne_row_room]
  rw [putF, if_neg ne_spot_room]
  rw [putF, if_neg ne_parts_room]
  rw [putF, if_neg ne_due_room]
  rw [putF, if_pos rfl]
theorem lineF_mk : putF ("room" : Str) (.int r) (putF ("due" : Str) (.int d) (putF ("parts" : Str) (.int p) (putF ("spot" : Str) (.int a) (putF ("row" : Str) (.ref W) (putF ("number" : Str) (.int n) []))))) = lineF n W a p d r := by
  unfold lineF
  simp only [putF, if_neg ne_number_row, if_neg ne_number_spot, if_neg ne_row_spot, if_neg ne_number_parts, if_neg ne_row_parts, if_neg ne_spot_parts, if_neg ne_number_due, if_neg ne_row_due, if_neg ne_spot_due, if_neg ne_parts_due, if_neg ne_number_room, if_neg ne_row_room, if_neg ne_spot_room, if_neg ne_parts_room, if_neg ne_due_room, if_false]
end
def LineAt (K : PySem.W.Frag) (CL : Addr) (H : Hp) (p : Addr) (num : Int) (ws : List Str) (a pa du ro : Nat) : Prop := ∃ dx W, H p = some (.ins CL dx (lineF num W a pa du ro)) ∧ H W = some (.lst (ws.map V.str))
theorem LineAt.mono {K : PySem.W.Frag} {CL p : Addr} {H H' : Hp} {num : Int} {ws : List Str} {a pa du ro : Nat} (e : Ex H H') (h : LineAt K CL H p num ws a pa du ro) : LineAt K CL H' p num ws a pa du ro := by
  obtain ⟨dx, W, h1, h2⟩ := h
  exact ⟨dx, W, e _ _ h1, e _ _ h2⟩
/-! what is read -/
def ends3 : List Str := ["weekday", "first", "monthday"]
def pairs3 : List Str := ["both", "either", "without"]
def leafN (z : Str) : List Int := if z = "monthday" then [-3, -2, -1, 0, 1, 2] else [-2, -1, 0, 1]
def mkLeaf (z : Str) (k : Int) : Rl := if z = "weekday" then .wk k else if z = "first" then .fs k else .md k
def mkPair (z : Str) (x y : Rl) : Rl := if z = "both" then .bo x y else if z = "either" then .ei x y else .wo x y
def able (pa du ro : Nat) : List Str := (if pa + du < 5 ∧ 0 < ro then ends3 ++ [("behind" : Str)] else ends3) ++ (if pa + du < 4 then pairs3 else [])
def bysL (ro : Nat) : List Int := ([-2, -1, 1, 2] : List Int).filter fun b => decide (b.natAbs ≤ ro)
def takeW (ws : List Str) (a : Nat) (some : List Str) : Option Str := match ws[a]? with
  | none => none
  | Option.some z => if z ∈ some then Option.some z else none
def takeN (ws : List Str) (a : Nat) (ns : List Int) : Option Int := match takeW ws a (ns.map numS) with
  | none => none
  | some z => ns.find? fun k => decide (numS k = z)
inductive Res where
  | ok (r : Rl) (a pa du ro : Nat)
  | bad (a : Nat)
def parse : Nat → List Str → Nat → Nat → Nat → Nat → Res
  | 0, _, a, _, _, _ => .bad a
  | n + 1, ws, a, pa, du, ro => match takeW ws a (able pa du ro) with
    | none => .bad a
    | some z =>
      if z ∈ ends3 then match takeN ws (a + 1) (leafN z) with
        | none => .bad (a + 1)
        | some k => .ok (mkLeaf z k) (a + 2) (pa + 1) (du - 1) ro
      else if z = "behind" then match takeN ws (a + 1) (bysL ro) with
        | none => .bad (a + 1)
        | some b => match parse n ws (a + 2) (pa + 1) du (ro - b.natAbs) with
          | .bad i => .bad i
          | .ok r a1 pa1 du1 ro1 => .ok (.bh r b) a1 pa1 du1 ro1
      else match parse n ws (a + 1) (pa + 1) (du + 1) ro with
        | .bad i => .bad i
        | .ok x a1 pa1 du1 ro1 => match parse n ws a1 pa1 du1 ro1 with
          | .bad i => .bad i
          | .ok y a2 pa2 du2 ro2 => .ok (mkPair z x y) a2 pa2 du2 ro2
theorem takeW_lt {ws : List Str} {a : Nat} {some : List Str} {z : Str} (h : takeW ws a some = Option.some z) : a < ws.length ∧ z ∈ some ∧ ws[a]? = Option.some z := by
  unfold takeW at h
  cases e : ws[a]? with
  | none => rw [e] at h; cases h
  | some y =>
    rw [e] at h
    dsimp only at h
    by_cases hm : y ∈ some
    · rw [if_pos hm] at h
      cases h
      exact ⟨(List.getElem?_eq_some_iff.mp e).1, hm, rfl⟩
    · rw [if_neg hm] at h; cases h
theorem takeN_lt {ws : List Str} {a : Nat} {ns : List Int} {k : Int} (h : takeN ws a ns = some k) : a < ws.length ∧ k ∈ ns ∧ takeW ws a (ns.map numS) = some (numS k) := by
  unfold takeN at h
  cases e : takeW ws a (ns.map numS) with
  | none => rw [e] at h; cases h
  | some z =>
    rw [e] at h
    dsimp only at h
    have h1 := List.find?_some h
    have h2 := List.mem_of_find?_eq_some h
    rw [of_decide_eq_true h1]
    exact ⟨(takeW_lt e).1, h2, rfl⟩
theorem takeN_none {ws : List Str} {a : Nat} {ns : List Int} (h : takeN ws a ns = none) : takeW ws a (ns.map numS) = none := by
  unfold takeN at h
  cases e : takeW ws a (ns.map numS) with
  | none => rfl
  | some z =>
    rw [e] at h
    dsimp only at h
    obtain ⟨_, hm, _⟩ := takeW_lt e
    obtain ⟨k, hk, hz⟩ := List.mem_map.mp hm
    have := List.find?_eq_none.mp h k hk
    rw [hz] at this
    exact absurd (decide_eq_true rfl) this
/-- what a reader keeps -/
theorem parse_keep : ∀ (n : Nat) (ws : List Str) (a pa du ro : Nat) {r : Rl} {a1 pa1 du1 ro1 : Nat}, parse n ws a pa du ro = .ok r a1 pa1 du1 ro1 → 1 ≤ du → pa + du ≤ 5 → a ≤ ws.length → du1 + 1 = du ∧ pa1 + du1 ≤ 5 ∧ a1 ≤ ws.length ∧ ro1 ≤ ro
  | 0, _, _, _, _, _, _, _, _, _, _, h, _, _, _ => by cases h
  | n + 1, ws, a, pa, du, ro, r, a1, pa1, du1, ro1, h, h1, h2, h3 => by
    unfold parse at h
    cases e : takeW ws a (able pa du ro) with
    | none => rw [e] at h; cases h
    | some z =>
      rw [e] at h
      dsimp only at h
      obtain ⟨hl, hm, _⟩ := takeW_lt e
      by_cases hz : z ∈ ends3
      · rw [if_pos hz] at h
        cases e2 : takeN ws (a + 1) (leafN z) with
        | none => rw [e2] at h; cases h
        | some k =>
          rw [e2] at h
          cases h
          have := (takeN_lt e2).1
          exact ⟨by omega, by omega, by omega, by omega⟩
      · rw [if_neg hz] at h
        unfold able at hm
        by_cases hb : z = "behind"
        · rw [if_pos hb] at h
          have hab : pa + du < 5 := by
            by_cases q : pa + du < 5 ∧ 0 < ro
            · exact q.1
            · rw [if_neg q] at hm
              rcases List.mem_append.mp hm with hm | hm
              · exact absurd hm hz
              · split at hm
                · rw [hb] at hm; exact absurd hm (by decide +kernel)
                · cases hm
          cases e2 : takeN ws (a + 1) (bysL ro) with
          | none => rw [e2] at h; cases h
          | some b =>
            rw [e2] at h
            dsimp only at h
            have h4 := (takeN_lt e2).1
            cases e3 : parse n ws (a + 2) (pa + 1) du (ro - b.natAbs) with
            | bad i => rw [e3] at h; cases h
            | ok r' a' pa' du' ro' =>
              rw [e3] at h
              cases h
              have := parse_keep n ws _ _ _ _ e3 h1 (by omega) (by omega)
              exact ⟨this.1, this.2.1, this.2.2.1, by omega⟩
        · rw [if_neg hb] at h
          have hab : pa + du < 4 := by
            by_cases q : pa + du < 4
            · exact q
            · rw [if_neg q, List.append_nil] at hm
              split at hm
              · rcases List.mem_append.mp hm with hm | hm
                · exact absurd hm hz
                · exact absurd (List.mem_singleton.mp hm) hb
              · exact absurd hm hz
          cases e2 : parse n ws (a + 1) (pa + 1) (du + 1) ro with
          | bad i => rw [e2] at h; cases h
          | ok x a2 pa2 du2 ro2 =>
            rw [e2] at h
            dsimp only at h
            have k1 := parse_keep n ws _ _ _ _ e2 (by omega) (by omega) (by omega)
            cases e3 : parse n ws a2 pa2 du2 ro2 with
            | bad i => rw [e3] at h; cases h
            | ok y a3 pa3 du3 ro3 =>
              rw [e3] at h
              cases h
              have k2 := parse_keep n ws _ _ _ _ e3 (by omega) (by omega) (by omega)
              exact ⟨by omega, by omega, by omega, by omega⟩
theorem raise2 {C : Addr} {f g : Str} {σ : L2.St} {H : Hp} {ta : TA} {u v : V} {E : XK} (h : EvA ta σ H [u, v]) (k : ∀ d H2, Ex H H2 → H d = none → H2 d = some (.xd [(g, v), (f, u)]) → E (.ref C) (some d) H2) : tMkO C (spE2 C f g) [] ta σ H E :=
  h H (Ex.refl H) _ fun H1 e1 => ⟨by show 2 ≤ 1000; decide, fun a ha => ⟨a, u, v, rfl, upd_same, fun dx hdx hne => by
    have hdx' : H1 dx = none := by
      rw [upd_ne hne] at hdx
      exact hdx
    refine ⟨rfl, dx, [(g, v), (f, u)], ?_, upd_same, hdx', k dx _ (fun b o hb => ?_) (fresh_back e1 hdx') upd_same⟩
    · rw [upd_ne (Ne.symm hne)]
      exact upd_same
    · have hb1 := e1 _ _ hb
      have n1 : b ≠ dx := ne_of_none hb1 hdx'
      have n2 : b ≠ a := ne_of_none hb1 ha
      rw [upd_ne n1, del_ne n2, upd_ne n1, upd_ne n2, upd_ne n1, upd_ne n2]
      exact hb1⟩⟩
end WF

set_option Elab.async false
set_option linter.all false
set_option maxRecDepth 100000
set_option maxHeartbeats 1000000
/-! WRead: what a text is read as; a written text is read back -/
namespace WF
open PySem PySem.Spec PyProof.Rows L2 Evl TL
/-! a sound reading -/
theorem bysL_in {ro : Nat} {b : Int} (h : b ∈ bysL ro) : (b = -2 ∨ b = -1 ∨ b = 1 ∨ b = 2) ∧ b.natAbs ≤ ro := by
  obtain ⟨h1, h2⟩ := List.mem_filter.mp h
  simp only [List.mem_cons, List.not_mem_nil, or_false] at h1
  exact ⟨h1, of_decide_eq_true h2⟩
theorem bysL_has {ro : Nat} {b : Int} (h : b = -2 ∨ b = -1 ∨ b = 1 ∨ b = 2) (hl : b.natAbs ≤ ro) : b ∈ bysL ro :=
  List.mem_filter.mpr ⟨by simp only [List.mem_cons, List.not_mem_nil, or_false]; exact h, decide_eq_true hl⟩
theorem leaf_fit {z : Str} {k : Int} (hz : z ∈ ends3) (hk : k ∈ leafN z) : (mkLeaf z k).fit = true ∧ (mkLeaf z k).parts = 1 ∧ (mkLeaf z k).bys = 0 := by
  simp only [ends3, List.mem_cons, List.not_mem_nil, or_false] at hz
  rcases hz with rfl | rfl | rfl
  · rw [leafN, if_neg (by decide +kernel)] at hk
    simp only [List.mem_cons, List.not_mem_nil, or_false] at hk
    rw [mkLeaf, if_pos rfl]
    exact ⟨decide_eq_true (by omega), rfl, rfl⟩
  · rw [leafN, if_neg (by decide +kernel)] at hk
    simp only [List.mem_cons, List.not_mem_nil, or_false] at hk
    rw [mkLeaf, if_neg (by decide +kernel), if_pos rfl]
    exact ⟨decide_eq_true (by omega), rfl, rfl⟩
  · rw [leafN, if_pos rfl] at hk
    simp only [List.mem_cons, List.not_mem_nil, or_false] at hk
    rw [mkLeaf, if_neg (by decide +kernel), if_neg (by decide +kernel)]
    exact ⟨decide_eq_true (by omega), rfl, rfl⟩
theorem pair_is (z : Str) (x y : Rl) : (mkPair z x y).fit = (x.fit && y.fit) ∧ (mkPair z x y).parts = 1 + x.parts + y.parts ∧ (mkPair z x y).bys = x.bys + y.bys := by
  unfold mkPair
  split
  · exact ⟨rfl, rfl, rfl⟩
  · split
    · exact ⟨rfl, rfl, rfl⟩
    · exact ⟨rfl, rfl, rfl⟩
theorem parse_sound : ∀ (n : Nat) (ws : List Str) (a pa du ro : Nat) {r : Rl} {a1 pa1 du1 ro1 : Nat}, parse n ws a pa du ro = .ok r a1 pa1 du1 ro1 → r.fit = true ∧ pa1 = pa + r.parts ∧ ro1 + r.bys = ro ∧ a < a1
  | 0, _, _, _, _, _, _, _, _, _, _, h => by cases h
  | n + 1, ws, a, pa, du, ro, r, a1, pa1, du1, ro1, h => by
    unfold parse at h
    cases e : takeW ws a (able pa du ro) with
    | none => rw [e] at h; cases h
    | some z =>
      rw [e] at h
      dsimp only at h
      by_cases hz : z ∈ ends3
      · rw [if_pos hz] at h
        cases e2 : takeN ws (a + 1) (leafN z) with
        | none => rw [e2] at h; cases h
        | some k =>
          rw [e2] at h
          cases h
          obtain ⟨h1, h2, h3⟩ := leaf_fit hz (takeN_lt e2).2.1
          exact ⟨h1, by rw [h2], by rw [h3]; rfl, by omega⟩
      · rw [if_neg hz] at h
        by_cases hb : z = "behind"
        · rw [if_pos hb] at h
          cases e2 : takeN ws (a + 1) (bysL ro) with
          | none => rw [e2] at h; cases h
          | some b =>
            rw [e2] at h
            dsimp only at h
            obtain ⟨b1, b2⟩ := bysL_in (takeN_lt e2).2.1
            cases e3 : parse n ws (a + 2) (pa + 1) du (ro - b.natAbs) with
            | bad i => rw [e3] at h; cases h
            | ok r' a' pa' du' ro' =>
              rw [e3] at h
              cases h
              obtain ⟨k1, k2, k3, k4⟩ := parse_sound n ws _ _ _ _ e3
              refine ⟨?_, ?_, ?_, by omega⟩
              · simp only [Rl.fit, Bool.and_eq_true]
                exact ⟨decide_eq_true b1, k1⟩
              · simp only [Rl.parts]; omega
              · simp only [Rl.bys]; omega
        · rw [if_neg hb] at h
          cases e2 : parse n ws (a + 1) (pa + 1) (du + 1) ro with
          | bad i => rw [e2] at h; cases h
          | ok x a2 pa2 du2 ro2 =>
            rw [e2] at h
            dsimp only at h
            cases e3 : parse n ws a2 pa2 du2 ro2 with
            | bad i => rw [e3] at h; cases h
            | ok y a3 pa3 du3 ro3 =>
              rw [e3] at h
              cases h
              obtain ⟨k1, k2, k3, k4⟩ := parse_sound n ws _ _ _ _ e2
              obtain ⟨l1, l2, l3, l4⟩ := parse_sound n ws _ _ _ _ e3
              obtain ⟨p1, p2, p3⟩ := pair_is z x y
              refine ⟨by rw [p1, k1, l1]; rfl, by rw [p2]; omega, by rw [p3]; omega, by omega⟩
/-! a reading of written words -/
theorem numS_inj {i j : Int} (hi : -3 ≤ i ∧ i ≤ 2) (hj : -3 ≤ j ∧ j ≤ 2) (h : numS i = numS j) : i = j := by
  have := int_numS hi
  rw [h, int_numS hj] at this
  exact (Option.some.inj this).symm
theorem find_num {k : Int} (hk : -3 ≤ k ∧ k ≤ 2) : ∀ {ns : List Int}, (∀ i ∈ ns, -3 ≤ i ∧ i ≤ 2) → k ∈ ns → (ns.find? fun i => decide (numS i = numS k)) = some k
  | [], _, h => by cases h
  | i :: ns, hn, h => by
    rw [List.find?_cons]
    by_cases q : i = k
    · rw [q, decide_eq_true rfl]
    · rw [decide_eq_false (fun e => q (numS_inj (hn _ List.mem_cons_self) hk e))]
      exact find_num hk (fun x hx => hn x (List.mem_cons_of_mem _ hx)) ((List.mem_cons.mp h).resolve_left fun e => q e.symm)
theorem takeW_is {ws zs : List Str} {a : Nat} {z : Str} (h : ws[a]? = some z) (hm : z ∈ zs) : takeW ws a zs = some z := by
  unfold takeW
  rw [h]
  exact if_pos hm
theorem takeN_is {ws : List Str} {a : Nat} {ns : List Int} {k : Int} (hk : -3 ≤ k ∧ k ≤ 2) (hn : ∀ i ∈ ns, -3 ≤ i ∧ i ≤ 2) (h : ws[a]? = some (numS k)) (hm : k ∈ ns) : takeN ws a ns = some k := by
  unfold takeN
  rw [takeW_is h (List.mem_map.mpr ⟨k, hm, rfl⟩)]
  exact find_num hk hn hm
theorem leafN_in (z : Str) : ∀ i ∈ leafN z, -3 ≤ i ∧ i ≤ 2 := by
  unfold leafN
  split
  · decide
  · decide
theorem bysL_ran {ro : Nat} : ∀ i ∈ bysL ro, -3 ≤ i ∧ i ≤ 2 := fun i hi => by
  rcases (bysL_in hi).1 with rfl | rfl | rfl | rfl <;> decide
theorem at_drop {ws l : List Str} {a : Nat} {z : Str} (h : ws.drop a = z :: l) : ws[a]? = some z ∧ ws.drop (a + 1) = l := by
  refine ⟨?_, ?_⟩
  · have := List.getElem?_drop (xs := ws) (i := a) (j := 0)
    rw [h] at this
    exact this.symm
  · rw [← List.drop_drop, h]
    rfl
theorem ends_able {z : Str} {pa du ro : Nat} (h : z ∈ ends3) : z ∈ able pa du ro := by
  unfold able
  refine List.mem_append_left _ ?_
  split
  · exact List.mem_append_left _ h
  · exact h
theorem parse_words : ∀ (n : Nat) (r : Rl) (ws post : List Str) (a pa du ro : Nat), r.fit = true → r.dep < n → 1 ≤ du → pa + du + r.parts ≤ 6 → r.bys ≤ ro → ws.drop a = wordsR r ++ post →
    parse n ws a pa du ro = .ok r (a + (wordsR r).length) (pa + r.parts) (du - 1) (ro - r.bys)
  | 0, _, _, _, _, _, _, _, _, hd, _, _, _, _ => by omega
  | n + 1, .wk k, ws, post, a, pa, du, ro, hf, hd, h1, hp, hb, h => by
    obtain ⟨w0, w'⟩ := at_drop h
    obtain ⟨w1, _⟩ := at_drop w'
    have hk := of_decide_eq_true hf
    unfold parse
    rw [takeW_is w0 (ends_able (by decide +kernel))]
    dsimp only
    rw [if_pos (by decide +kernel), takeN_is (by omega) (leafN_in _) w1 (by rw [leafN, if_neg (by decide +kernel)]; simp only [List.mem_cons, List.not_mem_nil, or_false]; omega)]
    dsimp only
    rw [mkLeaf, if_pos rfl]
    rfl
  | n + 1, .fs k, ws, post, a, pa, du, ro, hf, hd, h1, hp, hb, h => by
    obtain ⟨w0, w'⟩ := at_drop h
    obtain ⟨w1, _⟩ := at_drop w'
    have hk := of_decide_eq_true hf
    unfold parse
    rw [takeW_is w0 (ends_able (by decide +kernel))]
    dsimp only
    rw [if_pos (by decide +kernel), takeN_is (by omega) (leafN_in _) w1 (by rw [leafN, if_neg (by decide +kernel)]; simp only [List.mem_cons, List.not_mem_nil, or_false]; omega)]
    dsimp only
    rw [mkLeaf, if_neg (by decide +kernel), if_pos rfl]
    rfl
  | n + 1, .md k, ws, post, a, pa, du, ro, hf, hd, h1, hp, hb, h => by
    obtain ⟨w0, w'⟩ := at_drop h
    obtain ⟨w1, _⟩ := at_drop w'
    have hk := of_decide_eq_true hf
    unfold parse
    rw [takeW_is w0 (ends_able (by decide +kernel))]
    dsimp only
    rw [if_pos (by decide +kernel), takeN_is (by omega) (leafN_in _) w1 (by rw [leafN, if_pos rfl]; simp only [List.mem_cons, List.not_mem_nil, or_false]; omega)]
    dsimp only
    rw [mkLeaf, if_neg (by decide +kernel), if_neg (by decide +kernel)]
    rfl
  | n + 1, .bh r b, ws, post, a, pa, du, ro, hf, hd, h1, hp, hb, h => by
    obtain ⟨w0, w'⟩ := at_drop h
    obtain ⟨w1, w2⟩ := at_drop w'
    simp only [Rl.fit, Bool.and_eq_true] at hf
    simp only [Rl.dep] at hd
    simp only [Rl.parts] at hp
    simp only [Rl.bys] at hb
    have hbb := of_decide_eq_true hf.1
    have hpp := dep_parts r
    have ih := parse_words n r ws post (a + 2) (pa + 1) du (ro - b.natAbs) hf.2 (by omega) h1 (by omega) (by omega) w2
    unfold parse
    rw [takeW_is w0 (by
      unfold able
      rw [if_pos ⟨by omega, by omega⟩]
      exact List.mem_append_left _ (List.mem_append_right _ (List.mem_singleton.mpr rfl)))]
    dsimp only
    rw [if_neg (by decide +kernel), if_pos rfl, takeN_is (by omega) bysL_ran w1 (bysL_has hbb (by omega))]
    dsimp only
    rw [ih]
    dsimp only
    refine congr (congr (congr (congrArg _ ?_) ?_) ?_) ?_ <;> (try simp only [wordsR, Rl.parts, Rl.bys, List.length_cons, List.length_append]) <;> omega
  | n + 1, .bo x y, ws, post, a, pa, du, ro, hf, hd, h1, hp, hb, h => by
    obtain ⟨w0, w'⟩ := at_drop h
    simp only [Rl.fit, Bool.and_eq_true] at hf
    simp only [Rl.dep] at hd
    simp only [Rl.parts] at hp
    simp only [Rl.bys] at hb
    have hpx := dep_parts x
    have hpy := dep_parts y
    replace w' : ws.drop (a + 1) = wordsR x ++ (wordsR y ++ post) := w'.trans (List.append_assoc _ _ _)
    have ih1 := parse_words n x ws (wordsR y ++ post) (a + 1) (pa + 1) (du + 1) ro hf.1 (by omega) (by omega) (by omega) (by omega) w'
    have w2 : ws.drop (a + 1 + (wordsR x).length) = wordsR y ++ post := by rw [← List.drop_drop, w', List.drop_left]
    have ih2 := parse_words n y ws post (a + 1 + (wordsR x).length) (pa + 1 + x.parts) (du + 1 - 1) (ro - x.bys) hf.2 (by omega) (by omega) (by omega) (by omega) w2
    unfold parse
    rw [takeW_is w0 (by
      unfold able
      rw [if_pos (show pa + du < 4 by omega)]
      exact List.mem_append_right _ (by decide +kernel))]
    dsimp only
    rw [if_neg (by decide +kernel), if_neg (by decide +kernel), ih1]
    dsimp only
    rw [ih2]
    dsimp only
    rw [mkPair, if_pos rfl]
    refine congr (congr (congr (congrArg _ ?_) ?_) ?_) ?_ <;> (try simp only [wordsR, Rl.parts, Rl.bys, List.length_cons, List.length_append]) <;> omega
  | n + 1, .ei x y, ws, post, a, pa, du, ro, hf, hd, h1, hp, hb, h => by
    obtain ⟨w0, w'⟩ := at_drop h
    simp only [Rl.fit, Bool.and_eq_true] at hf
    simp only [Rl.dep] at hd
    simp only [Rl.parts] at hp
    simp only [Rl.bys] at hb
    have hpx := dep_parts x
    have hpy := dep_parts y
    replace w' : ws.drop (a + 1) = wordsR x ++ (wordsR y ++ post) := w'.trans (List.append_assoc _ _ _)
    have ih1 := parse_words n x ws (wordsR y ++ post) (a + 1) (pa + 1) (du + 1) ro hf.1 (by omega) (by omega) (by omega) (by omega) w'
    have w2 : ws.drop (a + 1 + (wordsR x).length) = wordsR y ++ post := by rw [← List.drop_drop, w', List.drop_left]
    have ih2 := parse_words n y ws post (a + 1 + (wordsR x).length) (pa + 1 + x.parts) (du + 1 - 1) (ro - x.bys) hf.2 (by omega) (by omega) (by omega) (by omega) w2
    unfold parse
    rw [takeW_is w0 (by
      unfold able
      rw [if_pos (show pa + du < 4 by omega)]
      exact List.mem_append_right _ (by decide +kernel))]
    dsimp only
    rw [if_neg (by decide +kernel), if_neg (by decide +kernel), ih1]
    dsimp only
    rw [ih2]
    dsimp only
    rw [mkPair, if_neg (by decide +kernel), if_pos rfl]
    refine congr (congr (congr (congrArg _ ?_) ?_) ?_) ?_ <;> (try simp only [wordsR, Rl.parts, Rl.bys, List.length_cons, List.length_append]) <;> omega
  | n + 1, .wo x y, ws, post, a, pa, du, ro, hf, hd, h1, hp, hb, h => by
    obtain ⟨w0, w'⟩ := at_drop h
    simp only [Rl.fit, Bool.and_eq_true] at hf
    simp only [Rl.dep] at hd
    simp only [Rl.parts] at hp
    simp only [Rl.bys] at hb
    have hpx := dep_parts x
    have hpy := dep_parts y
    replace w' : ws.drop (a + 1) = wordsR x ++ (wordsR y ++ post) := w'.trans (List.append_assoc _ _ _)
    have ih1 := parse_words n x ws (wordsR y ++ post) (a + 1) (pa + 1) (du + 1) ro hf.1 (by omega) (by omega) (by omega) (by omega) w'
    have w2 : ws.drop (a + 1 + (wordsR x).length) = wordsR y ++ post := by rw [← List.drop_drop, w', List.drop_left]
    have ih2 := parse_words n y ws post (a + 1 + (wordsR x).length) (pa + 1 + x.parts) (du + 1 - 1) (ro - x.bys) hf.2 (by omega) (by omega) (by omega) (by omega) w2
    unfold parse
    rw [takeW_is w0 (by
      unfold able
      rw [if_pos (show pa + du < 4 by omega)]
      exact List.mem_append_right _ (by decide +kernel))]
    dsimp only
    rw [if_neg (by decide +kernel), if_neg (by decide +kernel), ih1]
    dsimp only
    rw [ih2]
    dsimp only
    rw [mkPair, if_neg (by decide +kernel), if_neg (by decide +kernel)]
    refine congr (congr (congr (congrArg _ ?_) ?_) ?_) ?_ <;> (try simp only [wordsR, Rl.parts, Rl.bys, List.length_cons, List.length_append]) <;> omega
/-! whole texts -/
inductive RRes where
  | ok (rows : Rows)
  | bad (i j : Nat)
def begins2 : List Str := ["plain", "yields"]
def readL : List Str → Nat → Nat → Rows → RRes
  | [], _, _, acc => .ok acc
  | l :: ls, k, ro, acc => match takeW (Txt.split l " ") 0 (if k < 3 then begins2 else []) with
    | none => .bad (k + 1) 1
    | some z => match parse 5 (Txt.split l " ") 1 0 1 ro with
      | .bad i => .bad (k + 1) (i + 1)
      | .ok r a _ _ ro' => if a < (Txt.split l " ").length then .bad (k + 1) (a + 1) else readL ls (k + 1) ro' (acc ++ [(r, decide (z = "yields"))])
theorem readL_cons (l : Str) (ls : List Str) (k ro : Nat) (acc : Rows) : readL (l :: ls) k ro acc = match takeW (Txt.split l " ") 0 (if k < 3 then begins2 else []) with
    | none => .bad (k + 1) 1
    | some z => match parse 5 (Txt.split l " ") 1 0 1 ro with
      | .bad i => .bad (k + 1) (i + 1)
      | .ok r a _ _ ro' => if a < (Txt.split l " ").length then .bad (k + 1) (a + 1) else readL ls (k + 1) ro' (acc ++ [(r, decide (z = "yields"))]) := rfl
def readS (ls : List Str) : RRes := match readL ls.dropLast 0 4 [] with
  | .bad i j => .bad i j
  | .ok rows => if ls.getLast? = some ("" : Str) then .ok rows else .bad ls.length 1
def readT (t : Str) : RRes := readS (Txt.split t "\n")
theorem readL_written : ∀ (rows : Rows) (k ro : Nat) (acc : Rows), k + rows.length ≤ 3 → (∀ r ∈ rows, r.1.fit = true ∧ r.1.parts ≤ 5) → rowsBys rows ≤ ro → readL (rows.map lineS) k ro acc = .ok (acc ++ rows)
  | [], _, _, acc, _, _, _ => by rw [List.append_nil]; rfl
  | (r, y) :: rows, k, ro, acc, hk, hok, hb => by
    obtain ⟨hf, hp⟩ : r.fit = true ∧ r.parts ≤ 5 := hok _ List.mem_cons_self
    have hlen : (rows.length + 1) + k ≤ 3 := by rw [List.length_cons] at hk; omega
    have hbys : r.bys + rowsBys rows ≤ ro := by
      unfold rowsBys at hb ⊢
      rw [List.map_cons, List.sum_cons] at hb
      exact hb
    have hd := dep_parts r
    have hs : Txt.split (lineS (r, y)) " " = beginS y :: wordsR r := line_split hf
    have ih := readL_written rows (k + 1) (ro - r.bys) (acc ++ [(r, decide (beginS y = "yields"))]) (by omega) (fun x hx => hok x (List.mem_cons_of_mem _ hx)) (by omega)
    rw [List.map_cons]
    unfold readL
    rw [hs, if_pos (show k < 3 by omega), takeW_is (z := beginS y) rfl (by cases y <;> decide +kernel)]
    dsimp only
    rw [parse_words 5 r (beginS y :: wordsR r) [] 1 0 1 ro hf (by omega) (by omega) (by omega) (by omega) (by rw [List.append_nil]; rfl)]
    dsimp only
    rw [if_neg (by rw [List.length_cons]; omega), ih]
    have hy : decide (beginS y = "yields") = y := by cases y <;> decide +kernel
    rw [hy, List.append_assoc]
    rfl
theorem readT_written {rows : Rows} (hl : rows.length ≤ 3) (hok : ∀ r ∈ rows, r.1.fit = true ∧ r.1.parts ≤ 5) (hb : rowsBys rows ≤ 4) : readT (textS rows) = .ok rows := by
  unfold readT readS
  rw [text_split fun r hr => (hok r hr).1, List.dropLast_concat, readL_written rows 0 4 [] (by omega) hok hb, List.getLast?_concat]
  dsimp only
  rw [if_pos rfl, List.nil_append]
/-! pieces of any text -/
theorem spl_small (S : List Nat) (n : Nat) : ∀ (l acc : List Nat) (k : Nat), acc.length + l.length ≤ n → spl S k acc l ≠ [] ∧ ∀ p ∈ spl S k acc l, p.length ≤ n
  | [], acc, k, h => by
    rw [TL.spl_nil]
    exact ⟨by simp, fun p hp => by rw [List.mem_singleton.mp hp]; simp only [List.length_nil] at h; omega⟩
  | c :: r, acc, 0, h => by
    rw [List.length_cons] at h
    cases e : TL.pre S (c :: r) with
    | true =>
      rw [TL.spl_hit e]
      refine ⟨by simp, fun p hp => ?_⟩
      rcases List.mem_cons.mp hp with rfl | hp
      · omega
      · exact (spl_small S n r [] _ (by simp only [List.length_nil]; omega)).2 p hp
    | false =>
      rw [TL.spl_miss e]
      exact spl_small S n r (acc ++ [c]) 0 (by rw [List.length_append, List.length_singleton]; omega)
  | c :: r, acc, k + 1, h => spl_small S n r acc k (by rw [List.length_cons] at h; omega)
theorem split_small {x y : Str} (hy : TL.tl y ≠ []) (hk : y.cps.all (· < 256) = true) : Txt.split x y ≠ [] ∧ ∀ p ∈ Txt.split x y, p.length ≤ x.length := by
  have h := TL.split_spl x y hy (TL.kind_ok hk)
  obtain ⟨h1, h2⟩ := spl_small (TL.tl y) x.length (TL.tl x) [] 0 (by rw [List.length_nil, ← TL.len_tl]; omega)
  rw [← h] at h1 h2
  refine ⟨fun e => h1 (by rw [e]; rfl), fun p hp => ?_⟩
  have := h2 _ (List.mem_map.mpr ⟨p, hp, rfl⟩)
  rw [TL.len_tl]
  exact this
theorem lines_small (x : Str) : Txt.split x "\n" ≠ [] ∧ ∀ p ∈ Txt.split x "\n", p.length ≤ x.length := split_small (by decide +kernel) (by decide +kernel)
theorem words_small (x : Str) : Txt.split x " " ≠ [] ∧ ∀ p ∈ Txt.split x " ", p.length ≤ x.length := split_small (by decide +kernel) (by decide +kernel)
theorem cut_last {α : Type} (f : α → V) (ls : List α) : cutV (ls.map f) none (some (-1)) = ls.dropLast.map f := by
  unfold cutV
  have h1 : HT.sIx (ls.map f).length 0 none = 0 := rfl
  have h2 : HT.sIx (ls.map f).length (ls.map f).length (some (-1)) = ls.length - 1 := by
    rw [List.length_map]
    show (if (-1 : Int) < 0 then (-1 + (ls.length : Int)).toNat else min (-1 : Int).toNat ls.length) = _
    rw [if_pos (by decide)]
    omega
  rw [h1, h2, List.drop_zero, Nat.sub_zero, ← List.map_take, ← List.dropLast_eq_take]
theorem at_last {ls : List Str} (h : ls ≠ []) : ∃ z, ls.getLast? = some z ∧ atI (ls.map V.str) (-1) = some (.str z) := by
  have hl : 0 < ls.length := List.length_pos_iff.mpr h
  refine ⟨ls.getLast h, List.getLast?_eq_some_getLast h, ?_⟩
  have e : ixN (ls.map V.str).length (-1) = some (ls.length - 1) := by
    unfold ixN
    rw [if_neg (by decide), List.length_map, if_pos (by omega)]
    exact congrArg some (by omega)
  unfold atI
  rw [e]
  show (ls.map V.str)[ls.length - 1]? = _
  rw [List.getElem?_map, List.getElem?_eq_getElem (show ls.length - 1 < ls.length by omega), List.getLast_eq_getElem]
  rfl
theorem readT_bad {t : Str} {i j : Nat} (h : readL (Txt.split t "\n").dropLast 0 4 [] = .bad i j) : readT t = .bad i j := by
  unfold readT readS
  rw [h]
end WF

set_option Elab.async false
set_option linter.all false
set_option maxRecDepth 100000
set_option maxHeartbeats 1000000
/-! WKnown: what is known of some calendars written down -/
namespace WF
def kFirst : Rows := [(.fs 0, false)]
def kStart : Rows := [(.wk 0, false)]
def kMonth : Rows := [(.md 0, false)]
def kBoth : Rows := [(.wk 0, false), (.md 0, true)]
def kLast : Rows := [(.bo (.wk (-1)) (.md (-1)), false)]
def kOne : Rows := [(.wk 1, false)]
def kLastw : Rows := [(.wk (-1), false)]
def kBeh : Rows := [(.bh (.wk 0) 1, false)]
def kMon : Rows := [(.md (-1), false)]
def kTwo : Rows := [(.md 2, false)]
theorem kn_first12 : (List.range 12).filter (fun i => calDay 2 3 kFirst (i : Nat)) = [0, 4, 6, 10] := by decide +kernel
theorem kn_part1 : unlikeO kStart kFirst (enoughL 3) = some ((2, 3), 2) := by decide +kernel
theorem kn_part2 : unlikeO kFirst kFirst (enoughL 3) = none := by decide +kernel
theorem kn_alike : unlikeO kOne kBeh (enoughL 4) = none := by decide +kernel
end WF

set_option Elab.async false
set_option linter.all false
set_option maxRecDepth 100000
set_option maxHeartbeats 2000000
/-! the text by its places -/
namespace WF
open PySem L2 Evl
def top (i : Nat) : Stmt := PySem.Challenge.pw_weekfeasts_k15_known_calendars.main.body.getD i (.Pass ⟨0, 0, 0, 0⟩)
abbrev s_is_in : Stmt := top 17
theorem sc_is_in : FnScope ["value", "some"] ["value", "some"] (defScope s_is_in) := ⟨rfl, rfl, rfl, by decide +kernel, rfl, by decide +kernel, by decide +kernel⟩
abbrev s_within : Stmt := top 18
theorem sc_within : FnScope ["rule"] ["rule"] (defScope s_within) := ⟨rfl, rfl, rfl, by decide +kernel, rfl, by decide +kernel, by decide +kernel⟩
abbrev s_size_of : Stmt := top 19
theorem sc_size_of : FnScope ["value", "room", "parts", "bys", "rule", "found"] ["value", "room"] (defScope s_size_of) := ⟨rfl, rfl, rfl, by decide +kernel, rfl, by decide +kernel, by decide +kernel⟩
abbrev s_is_rule : Stmt := top 20
theorem sc_is_rule : FnScope ["value", "size"] ["value"] (defScope s_is_rule) := ⟨rfl, rfl, rfl, by decide +kernel, rfl, by decide +kernel, by decide +kernel⟩
abbrev s_Feast_init : Stmt := inClass (top 21) 0
theorem sc_Feast_init : FnScope ["self", "rule"] ["self", "rule"] (defScope s_Feast_init) := ⟨rfl, rfl, rfl, by decide +kernel, rfl, by decide +kernel, by decide +kernel⟩
abbrev s_Feast_rule : Stmt := inClass (top 21) 1
theorem sc_Feast_rule : FnScope ["self"] ["self"] (defScope s_Feast_rule) := ⟨rfl, rfl, rfl, by decide +kernel, rfl, by decide +kernel, by decide +kernel⟩
abbrev s_Feast_eq : Stmt := inClass (top 21) 2
theorem sc_Feast_eq : FnScope ["self", "other"] ["self", "other"] (defScope s_Feast_eq) := ⟨rfl, rfl, rfl, by decide +kernel, rfl, by decide +kernel, by decide +kernel⟩
abbrev s_Feast_and : Stmt := inClass (top 21) 3
theorem sc_Feast_and : FnScope ["self", "other"] ["self", "other"] (defScope s_Feast_and) := ⟨rfl, rfl, rfl, by decide +kernel, rfl, by decide +kernel, by decide +kernel⟩
abbrev s_Feast_or : Stmt := inClass (top 21) 4
theorem sc_Feast_or : FnScope ["self", "other"] ["self", "other"] (defScope s_Feast_or) := ⟨rfl, rfl, rfl, by decide +kernel, rfl, by decide +kernel, by decide +kernel⟩
abbrev s_Feast_sub : Stmt := inClass (top 21) 5
theorem sc_Feast_sub : FnScope ["self", "other"] ["self", "other"] (defScope s_Feast_sub) := ⟨rfl, rfl, rfl, by decide +kernel, rfl, by decide +kernel, by decide +kernel⟩
abbrev s_Feast_moved : Stmt := inClass (top 21) 6
theorem sc_Feast_moved : FnScope ["self", "by"] ["self", "by"] (defScope s_Feast_moved) := ⟨rfl, rfl, rfl, by decide +kernel, rfl, by decide +kernel, by decide +kernel⟩
abbrev s_is_pair : Stmt := top 26
theorem sc_is_pair : FnScope ["value"] ["value"] (defScope s_is_pair) := ⟨rfl, rfl, rfl, by decide +kernel, rfl, by decide +kernel, by decide +kernel⟩
abbrev s_Calendar_init : Stmt := inClass (top 27) 0
theorem sc_Calendar_init : FnScope ["self", "rules", "index", "rule", "bys", "feast", "yields"] ["self", "rules"] (defScope s_Calendar_init) := ⟨rfl, rfl, rfl, by decide +kernel, rfl, by decide +kernel, by decide +kernel⟩
abbrev s_Calendar_rules : Stmt := inClass (top 27) 1
theorem sc_Calendar_rules : FnScope ["self"] ["self"] (defScope s_Calendar_rules) := ⟨rfl, rfl, rfl, by decide +kernel, rfl, by decide +kernel, by decide +kernel⟩
abbrev s_Calendar_reach : Stmt := inClass (top 27) 2
theorem sc_Calendar_reach : FnScope ["self"] ["self"] (defScope s_Calendar_reach) := ⟨rfl, rfl, rfl, by decide +kernel, rfl, by decide +kernel, by decide +kernel⟩
abbrev s_Calendar_eq : Stmt := inClass (top 27) 3
theorem sc_Calendar_eq : FnScope ["self", "other"] ["self", "other"] (defScope s_Calendar_eq) := ⟨rfl, rfl, rfl, by decide +kernel, rfl, by decide +kernel, by decide +kernel⟩
abbrev s_divisor : Stmt := top 28
theorem sc_divisor : FnScope ["one", "other"] ["one", "other"] (defScope s_divisor) := ⟨rfl, rfl, rfl, by decide +kernel, rfl, by decide +kernel, by decide +kernel⟩
abbrev s_is_land : Stmt := top 29
theorem sc_is_land : FnScope ["value", "many"] ["value"] (defScope s_is_land) := ⟨rfl, rfl, rfl, by decide +kernel, rfl, by decide +kernel, by decide +kernel⟩
abbrev s_need_land : Stmt := top 30
theorem sc_need_land : FnScope ["value"] ["value"] (defScope s_need_land) := ⟨rfl, rfl, rfl, by decide +kernel, rfl, by decide +kernel, by decide +kernel⟩
abbrev s_every : Stmt := top 31
theorem sc_every : FnScope ["step", "begin", "many", "turn"] ["step", "begin", "many"] (defScope s_every) := ⟨rfl, rfl, rfl, by decide +kernel, rfl, by decide +kernel, by decide +kernel⟩
abbrev s_turned : Stmt := top 32
theorem sc_turned : FnScope ["figure", "by", "round_days", "whole"] ["figure", "by", "round_days"] (defScope s_turned) := ⟨rfl, rfl, rfl, by decide +kernel, rfl, by decide +kernel, by decide +kernel⟩
abbrev s_figure_of : Stmt := top 33
theorem sc_figure_of : FnScope ["rule", "land", "w", "m", "word", "one", "other", "month"] ["rule", "land"] (defScope s_figure_of) := ⟨rfl, rfl, rfl, by decide +kernel, rfl, by decide +kernel, by decide +kernel⟩
abbrev s_days_of : Stmt := top 34
theorem sc_days_of : FnScope ["rows", "land", "found", "feast", "yields", "figure", "met"] ["rows", "land"] (defScope s_days_of) := ⟨rfl, rfl, rfl, by decide +kernel, rfl, by decide +kernel, by decide +kernel⟩
abbrev s_listed : Stmt := top 35
theorem sc_listed : FnScope ["figure", "found", "lowest"] ["figure"] (defScope s_listed) := ⟨rfl, rfl, rfl, by decide +kernel, rfl, by decide +kernel, by decide +kernel⟩
abbrev s_lands_to : Stmt := top 39
theorem sc_lands_to : FnScope ["weeks", "months", "some", "w", "m"] ["weeks", "months"] (defScope s_lands_to) := ⟨rfl, rfl, rfl, by decide +kernel, rfl, by decide +kernel, by decide +kernel⟩
abbrev s_enough : Stmt := top 40
theorem sc_enough : FnScope ["reach"] ["reach"] (defScope s_enough) := ⟨rfl, rfl, rfl, by decide +kernel, rfl, by decide +kernel, by decide +kernel⟩
abbrev s_first_unlike : Stmt := top 41
theorem sc_first_unlike : FnScope ["one", "other", "reach", "land", "unlike"] ["one", "other", "reach"] (defScope s_first_unlike) := ⟨rfl, rfl, rfl, by decide +kernel, rfl, by decide +kernel, by decide +kernel⟩
abbrev s_parting : Stmt := top 42
theorem sc_parting : FnScope ["one", "other"] ["one", "other"] (defScope s_parting) := ⟨rfl, rfl, rfl, by decide +kernel, rfl, by decide +kernel, by decide +kernel⟩
abbrev s_alike : Stmt := top 43
theorem sc_alike : FnScope ["one", "other"] ["one", "other"] (defScope s_alike) := ⟨rfl, rfl, rfl, by decide +kernel, rfl, by decide +kernel, by decide +kernel⟩
abbrev s_meeting : Stmt := top 44
theorem sc_meeting : FnScope ["one", "other", "found", "land", "does_meet"] ["one", "other"] (defScope s_meeting) := ⟨rfl, rfl, rfl, by decide +kernel, rfl, by decide +kernel, by decide +kernel⟩
abbrev s_needless : Stmt := top 45
theorem sc_needless : FnScope ["calendar", "rows", "found", "index"] ["calendar"] (defScope s_needless) := ⟨rfl, rfl, rfl, by decide +kernel, rfl, by decide +kernel, by decide +kernel⟩
abbrev s_swaps : Stmt := top 46
theorem sc_swaps : FnScope ["calendar", "rows", "found", "index", "other"] ["calendar"] (defScope s_swaps) := ⟨rfl, rfl, rfl, by decide +kernel, rfl, by decide +kernel, by decide +kernel⟩
abbrev s_form : Stmt := top 47
theorem sc_form : FnScope ["calendar", "w", "lands", "counts", "a", "b", "land"] ["calendar"] (defScope s_form) := ⟨rfl, rfl, rfl, by decide +kernel, rfl, by decide +kernel, by decide +kernel⟩
abbrev s_is_from : Stmt := top 50
theorem sc_is_from : FnScope ["value", "least"] ["value", "least"] (defScope s_is_from) := ⟨rfl, rfl, rfl, by decide +kernel, rfl, by decide +kernel, by decide +kernel⟩
abbrev s_need_day : Stmt := top 51
theorem sc_need_day : FnScope ["value"] ["value"] (defScope s_need_day) := ⟨rfl, rfl, rfl, by decide +kernel, rfl, by decide +kernel, by decide +kernel⟩
abbrev s_is_day : Stmt := top 52
theorem sc_is_day : FnScope ["calendar", "land", "day"] ["calendar", "land", "day"] (defScope s_is_day) := ⟨rfl, rfl, rfl, by decide +kernel, rfl, by decide +kernel, by decide +kernel⟩
abbrev s_nth : Stmt := top 53
theorem sc_nth : FnScope ["calendar", "land", "n", "days"] ["calendar", "land", "n"] (defScope s_nth) := ⟨rfl, rfl, rfl, by decide +kernel, rfl, by decide +kernel, by decide +kernel⟩
abbrev s_ahead_of : Stmt := top 54
theorem sc_ahead_of : FnScope ["days", "round_days", "day", "part", "one"] ["days", "round_days", "day"] (defScope s_ahead_of) := ⟨rfl, rfl, rfl, by decide +kernel, rfl, by decide +kernel, by decide +kernel⟩
abbrev s_between : Stmt := top 55
theorem sc_between : FnScope ["calendar", "land", "low", "high", "days", "round_days"] ["calendar", "land", "low", "high"] (defScope s_between) := ⟨rfl, rfl, rfl, by decide +kernel, rfl, by decide +kernel, by decide +kernel⟩
abbrev s_count : Stmt := top 56
theorem sc_count : FnScope ["calendar", "land"] ["calendar", "land"] (defScope s_count) := ⟨rfl, rfl, rfl, by decide +kernel, rfl, by decide +kernel, by decide +kernel⟩
abbrev s_is_seen : Stmt := top 60
theorem sc_is_seen : FnScope ["value", "day"] ["value"] (defScope s_is_seen) := ⟨rfl, rfl, rfl, by decide +kernel, rfl, by decide +kernel, by decide +kernel⟩
abbrev s_fits : Stmt := top 61
theorem sc_fits : FnScope ["figure", "land", "seen", "day", "truth"] ["figure", "land", "seen"] (defScope s_fits) := ⟨rfl, rfl, rfl, by decide +kernel, rfl, by decide +kernel, by decide +kernel⟩
abbrev s_fitting : Stmt := top 62
theorem sc_fitting : FnScope ["calendar", "seen", "most", "index", "one", "land"] ["calendar", "seen", "most"] (defScope s_fitting) := ⟨rfl, rfl, rfl, by decide +kernel, rfl, by decide +kernel, by decide +kernel⟩
abbrev s_asking : Stmt := top 63
theorem sc_asking : FnScope ["calendar", "seen", "most", "some", "day", "told", "land", "figure"] ["calendar", "seen", "most"] (defScope s_asking) := ⟨rfl, rfl, rfl, by decide +kernel, rfl, by decide +kernel, by decide +kernel⟩
abbrev s_words_of : Stmt := top 66
theorem sc_words_of : FnScope ["rule"] ["rule"] (defScope s_words_of) := ⟨rfl, rfl, rfl, by decide +kernel, rfl, by decide +kernel, by decide +kernel⟩
abbrev s_write : Stmt := top 67
theorem sc_write : FnScope ["calendar", "lines", "feast", "yields", "line"] ["calendar"] (defScope s_write) := ⟨rfl, rfl, rfl, by decide +kernel, rfl, by decide +kernel, by decide +kernel⟩
abbrev s_Line_init : Stmt := inClass (top 68) 0
theorem sc_Line_init : FnScope ["self", "number", "text", "room"] ["self", "number", "text", "room"] (defScope s_Line_init) := ⟨rfl, rfl, rfl, by decide +kernel, rfl, by decide +kernel, by decide +kernel⟩
abbrev s_Line_take : Stmt := inClass (top 68) 1
theorem sc_Line_take : FnScope ["self", "some"] ["self", "some"] (defScope s_Line_take) := ⟨rfl, rfl, rfl, by decide +kernel, rfl, by decide +kernel, by decide +kernel⟩
abbrev s_Line_take_number : Stmt := inClass (top 68) 2
theorem sc_Line_take_number : FnScope ["self", "some", "number"] ["self", "some"] (defScope s_Line_take_number) := ⟨rfl, rfl, rfl, by decide +kernel, rfl, by decide +kernel, by decide +kernel⟩
abbrev s_Line_whole_rule : Stmt := inClass (top 68) 3
theorem sc_Line_whole_rule : FnScope ["self", "left", "words", "word", "by", "one", "number"] ["self"] (defScope s_Line_whole_rule) := ⟨rfl, rfl, rfl, by decide +kernel, rfl, by decide +kernel, by decide +kernel⟩
abbrev s_Line_end : Stmt := inClass (top 68) 4
theorem sc_Line_end : FnScope ["self"] ["self"] (defScope s_Line_end) := ⟨rfl, rfl, rfl, by decide +kernel, rfl, by decide +kernel, by decide +kernel⟩
abbrev s_read : Stmt := top 69
theorem sc_read : FnScope ["text", "lines", "rules", "room", "at", "row", "line", "yields"] ["text"] (defScope s_read) := ⟨rfl, rfl, rfl, by decide +kernel, rfl, by decide +kernel, by decide +kernel⟩
abbrev s_Walk_init : Stmt := inClass (top 72) 0
theorem sc_Walk_init : FnScope ["self", "calendar", "land"] ["self", "calendar", "land"] (defScope s_Walk_init) := ⟨rfl, rfl, rfl, by decide +kernel, rfl, by decide +kernel, by decide +kernel⟩
abbrev s_Walk_go : Stmt := inClass (top 72) 1
theorem sc_Walk_go : FnScope ["self", "days", "here", "many", "found", "day"] ["self", "days"] (defScope s_Walk_go) := ⟨rfl, rfl, rfl, by decide +kernel, rfl, by decide +kernel, by decide +kernel⟩
abbrev s_Walk_day : Stmt := inClass (top 72) 2
theorem sc_Walk_day : FnScope ["self"] ["self"] (defScope s_Walk_day) := ⟨rfl, rfl, rfl, by decide +kernel, rfl, by decide +kernel, by decide +kernel⟩
abbrev s_Walk_feasts : Stmt := inClass (top 72) 3
theorem sc_Walk_feasts : FnScope ["self"] ["self"] (defScope s_Walk_feasts) := ⟨rfl, rfl, rfl, by decide +kernel, rfl, by decide +kernel, by decide +kernel⟩
abbrev s_Walk_undo : Stmt := inClass (top 72) 4
theorem sc_Walk_undo : FnScope ["self"] ["self"] (defScope s_Walk_undo) := ⟨rfl, rfl, rfl, by decide +kernel, rfl, by decide +kernel, by decide +kernel⟩
abbrev s_Walk_len : Stmt := inClass (top 72) 5
theorem sc_Walk_len : FnScope ["self"] ["self"] (defScope s_Walk_len) := ⟨rfl, rfl, rfl, by decide +kernel, rfl, by decide +kernel, by decide +kernel⟩
abbrev s_l_random : Stmt := top 74
theorem sc_l_random : FnScope ["_law_script", "_law_salt", "_law_seed", "_law_cell"] ["_law_script", "_law_salt"] (defScope s_l_random) := ⟨rfl, rfl, rfl, by decide +kernel, rfl, by decide +kernel, by decide +kernel⟩
abbrev s_l_below : Stmt := top 75
theorem sc_l_below : FnScope ["_law_d", "_law_size", "_law_result"] ["_law_d", "_law_size"] (defScope s_l_below) := ⟨rfl, rfl, rfl, by decide +kernel, rfl, by decide +kernel, by decide +kernel⟩
abbrev s_l_one : Stmt := top 76
theorem sc_l_one : FnScope ["_law_rule"] ["_law_rule"] (defScope s_l_one) := ⟨rfl, rfl, rfl, by decide +kernel, rfl, by decide +kernel, by decide +kernel⟩
abbrev s_l_days_known : Stmt := top 77
theorem sc_l_days_known : FnScope ["_law_first", "_law_both", "_law_last", "_law_day"] [] (defScope s_l_days_known) := ⟨rfl, rfl, rfl, by decide +kernel, rfl, by decide +kernel, by decide +kernel⟩
abbrev s_l_decided : Stmt := top 78
theorem sc_l_decided : FnScope ["_law_start", "_law_first", "_law_one_here", "_law_last", "_law_two", "_law_minus"] [] (defScope s_l_decided) := ⟨rfl, rfl, rfl, by decide +kernel, rfl, by decide +kernel, by decide +kernel⟩
abbrev s_l_forms : Stmt := top 79
theorem sc_l_forms : FnScope ["_law_start", "_law_month", "_law_first", "_law_both"] [] (defScope s_l_forms) := ⟨rfl, rfl, rfl, by decide +kernel, rfl, by decide +kernel, by decide +kernel⟩
abbrev s_l_seen_known : Stmt := top 80
theorem sc_l_seen_known : FnScope ["_law_weeks", "_law_walk", "_law_feast", "_law_calendar", "_law_text"] [] (defScope s_l_seen_known) := ⟨rfl, rfl, rfl, by decide +kernel, rfl, by decide +kernel, by decide +kernel⟩
abbrev s_law : Stmt := top 81
theorem sc_law : FnScope ["_law_script", "_law_d", "_law_known"] ["_law_script"] (defScope s_law) := ⟨rfl, rfl, rfl, by decide +kernel, rfl, by decide +kernel, by decide +kernel⟩
abbrev s_BadSeen_init : Stmt := inClass (top 7) 0
theorem scs_BadSeen_init : ScopeS ["self", "index"] (defScope s_BadSeen_init) := ⟨rfl, rfl, rfl, by decide +kernel, by decide +kernel, by decide +kernel, rfl, rfl⟩
abbrev s_BadText_init : Stmt := inClass (top 8) 0
theorem scs_BadText_init : ScopeS ["self", "line", "word"] (defScope s_BadText_init) := ⟨rfl, rfl, rfl, by decide +kernel, by decide +kernel, by decide +kernel, rfl, rfl⟩
structure Txt (P : Program) (w : World) (K : PySem.W.Frag) (mg : Str → Option Value) (C_BadRule C_BadRules C_BadLand C_BadDay C_BadNumber C_BadSeen C_BadText C_Feast C_Calendar C_Line C_Walk : Addr) : Prop where
  «super» : mg "super" = none
  x_BadSeen : ErrS P K C_BadSeen "BadSeen.__init__" s_BadSeen_init ["self", "index"] ["index"]
  x_BadText : ErrS P K C_BadText "BadText.__init__" s_BadText_init ["self", "line", "word"] ["line", "word"]
  «len» : mg "len" = none
  «abs» : mg "abs" = none
  «sum» : mg "sum" = none
  «max» : mg "max" = none
  «isinstance» : mg "isinstance" = none
  «sorted» : mg "sorted" = none
  «all» : mg "all" = none
  «int» : mg "int" = none
  «str» : mg "str" = none
  «list» : mg "list" = none
  «tuple» : mg "tuple" = none
  «bool» : mg "bool" = none
  «range» : mg "range" = none
  «enumerate» : mg "enumerate" = none
  g_BYS : ∃ a, mg "BYS" = some (.ref a) ∧ ∀ H, SqT K H a bysV
  g_ENDS : ∃ d aW aM, mg "ENDS" = some (.ref d) ∧ EndsAt w K d aW aM
  g_PAIRS : ∃ a, mg "PAIRS" = some (.ref a) ∧ ∀ H, SqT K H a pairsV
  g_MOST_PARTS : ∃ u, mg "MOST_PARTS" = some u ∧ RelV (.int 5) u
  g_MOST_BYS : ∃ u, mg "MOST_BYS" = some u ∧ RelV (.int 4) u
  g_MOST_RULES : ∃ u, mg "MOST_RULES" = some u ∧ RelV (.int 3) u
  g_LEAST_REACH : ∃ u, mg "LEAST_REACH" = some u ∧ RelV (.int 3) u
  g_MOST_ROUND : ∃ u, mg "MOST_ROUND" = some u ∧ RelV (.int 4000) u
  g_WEEKS : ∃ u, mg "WEEKS" = some u ∧ RelV (.int 4) u
  g_MONTHS : ∃ u, mg "MONTHS" = some u ∧ RelV (.int 6) u
  g_GREATEST : ∃ u, mg "GREATEST" = some u ∧ RelV (.int (10 ^ 30)) u
  g_FARTHEST : ∃ u, mg "FARTHEST" = some u ∧ RelV (.int 1000) u
  g_MOST_ASKED : ∃ u, mg "MOST_ASKED" = some u ∧ RelV (.int 60) u
  g_MOST_DAYS : ∃ u, mg "MOST_DAYS" = some u ∧ RelV (.int 500) u
  k_ENDS : ∀ d, mg "ENDS" = some (.ref d) → ∃ (es : Array DictEntry) (n : Nat), KDict K w d es n ∧ KeysAre es.toList ["weekday", "first", "monthday"]
  k_PAIRS : ∃ a, mg "PAIRS" = some (.ref a) ∧ KTupX K a pairsV ∧ ∀ H, SqT K H a pairsV
  k_BEGINS : ∃ d es n, mg "BEGINS" = some (.ref d) ∧ KDict K w d es n ∧ KeysAre es.toList ["plain", "yields"] ∧ PySem.W.nsIn K d "plain" = some (some (.bool false)) ∧ PySem.W.nsIn K d "yields" = some (some (.bool true))
  c_BadRule : mg "BadRule" = some (.ref C_BadRule)
  e_BadRule : Err K C_BadRule
  c_BadRules : mg "BadRules" = some (.ref C_BadRules)
  c_BadLand : mg "BadLand" = some (.ref C_BadLand)
  e_BadLand : Err K C_BadLand
  c_BadDay : mg "BadDay" = some (.ref C_BadDay)
  e_BadDay : Err K C_BadDay
  c_BadNumber : mg "BadNumber" = some (.ref C_BadNumber)
  e_BadNumber : Err K C_BadNumber
  c_BadSeen : mg "BadSeen" = some (.ref C_BadSeen)
  c_BadText : mg "BadText" = some (.ref C_BadText)
  c_Feast : mg "Feast" = some (.ref C_Feast)
  c_Calendar : mg "Calendar" = some (.ref C_Calendar)
  c_Line : mg "Line" = some (.ref C_Line)
  c_Walk : mg "Walk" = some (.ref C_Walk)
  f_is_in : FunAt K mg "is_in" s_is_in ["value", "some"]
  f_within : FunAt K mg "within" s_within ["rule"]
  f_size_of : FunAt K mg "size_of" s_size_of ["value", "room"]
  f_is_rule : FunAt K mg "is_rule" s_is_rule ["value"]
  m_Feast_init : MkAt K C_Feast "Feast.__init__" s_Feast_init ["self", "rule"]
  m_Feast_eq : MtAt K C_Feast "__eq__" "Feast.__eq__" s_Feast_eq ["self", "other"]
  m_Feast_and : MtAt K C_Feast "__and__" "Feast.__and__" s_Feast_and ["self", "other"]
  m_Feast_or : MtAt K C_Feast "__or__" "Feast.__or__" s_Feast_or ["self", "other"]
  m_Feast_sub : MtAt K C_Feast "__sub__" "Feast.__sub__" s_Feast_sub ["self", "other"]
  m_Feast_moved : MtAt K C_Feast "moved" "Feast.moved" s_Feast_moved ["self", "by"]
  f_is_pair : FunAt K mg "is_pair" s_is_pair ["value"]
  m_Calendar_init : MkAt K C_Calendar "Calendar.__init__" s_Calendar_init ["self", "rules"]
  p_Calendar_reach : PropAt K C_Calendar "reach" "Calendar.reach" s_Calendar_reach
  m_Calendar_eq : MtAt K C_Calendar "__eq__" "Calendar.__eq__" s_Calendar_eq ["self", "other"]
  f_divisor : FunAt K mg "divisor" s_divisor ["one", "other"]
  f_is_land : FunAt K mg "is_land" s_is_land ["value"]
  f_need_land : FunAt K mg "need_land" s_need_land ["value"]
  f_every : FunAt K mg "every" s_every ["step", "begin", "many"]
  f_turned : FunAt K mg "turned" s_turned ["figure", "by", "round_days"]
  f_figure_of : FunAt K mg "figure_of" s_figure_of ["rule", "land"]
  f_days_of : FunAt K mg "days_of" s_days_of ["rows", "land"]
  f_listed : FunAt K mg "listed" s_listed ["figure"]
  f_lands_to : FunAt K mg "lands_to" s_lands_to ["weeks", "months"]
  f_enough : FunAt K mg "enough" s_enough ["reach"]
  f_first_unlike : FunAt K mg "first_unlike" s_first_unlike ["one", "other", "reach"]
  f_parting : FunAt K mg "parting" s_parting ["one", "other"]
  f_alike : FunAt K mg "alike" s_alike ["one", "other"]
  f_meeting : FunAt K mg "meeting" s_meeting ["one", "other"]
  f_needless : FunAt K mg "needless" s_needless ["calendar"]
  f_swaps : FunAt K mg "swaps" s_swaps ["calendar"]
  f_form : FunAt K mg "form" s_form ["calendar"]
  f_is_from : FunAt K mg "is_from" s_is_from ["value", "least"]
  f_need_day : FunAt K mg "need_day" s_need_day ["value"]
  f_is_day : FunAt K mg "is_day" s_is_day ["calendar", "land", "day"]
  f_nth : FunAt K mg "nth" s_nth ["calendar", "land", "n"]
  f_ahead_of : FunAt K mg "ahead_of" s_ahead_of ["days", "round_days", "day"]
  f_between : FunAt K mg "between" s_between ["calendar", "land", "low", "high"]
  f_count : FunAt K mg "count" s_count ["calendar", "land"]
  f_is_seen : FunAt K mg "is_seen" s_is_seen ["value"]
  f_fits : FunAt K mg "fits" s_fits ["figure", "land", "seen"]
  f_fitting : FunAt K mg "fitting" s_fitting ["calendar", "seen", "most"]
  f_asking : FunAt K mg "asking" s_asking ["calendar", "seen", "most"]
  f_words_of : FunAt K mg "words_of" s_words_of ["rule"]
  f_write : FunAt K mg "write" s_write ["calendar"]
  m_Line_init : MkAt K C_Line "Line.__init__" s_Line_init ["self", "number", "text", "room"]
  m_Line_take : MtAt K C_Line "take" "Line.take" s_Line_take ["self", "some"]
  m_Line_take_number : MtAt K C_Line "take_number" "Line.take_number" s_Line_take_number ["self", "some"]
  m_Line_whole_rule : MtAt K C_Line "whole_rule" "Line.whole_rule" s_Line_whole_rule ["self"]
  m_Line_end : MtAt K C_Line "end" "Line.end" s_Line_end ["self"]
  f_read : FunAt K mg "read" s_read ["text"]
  m_Walk_init : MkAt K C_Walk "Walk.__init__" s_Walk_init ["self", "calendar", "land"]
  m_Walk_go : MtAt K C_Walk "go" "Walk.go" s_Walk_go ["self", "days"]
  m_Walk_day : MtAt K C_Walk "day" "Walk.day" s_Walk_day ["self"]
  m_Walk_feasts : MtAt K C_Walk "feasts" "Walk.feasts" s_Walk_feasts ["self"]
  m_Walk_undo : MtAt K C_Walk "undo" "Walk.undo" s_Walk_undo ["self"]
  m_Walk_len : MtAt K C_Walk "__len__" "Walk.__len__" s_Walk_len ["self"]
  f_l_random : FunAt K mg "_law_random" s_l_random ["_law_script", "_law_salt"]
  f_l_below : FunAt K mg "_law_below" s_l_below ["_law_d", "_law_size"]
  f_l_one : FunAt K mg "_law_one" s_l_one ["_law_rule"]
  f_l_days_known : FunAt K mg "_law_days_known" s_l_days_known []
  f_l_decided : FunAt K mg "_law_decided" s_l_decided []
  f_l_forms : FunAt K mg "_law_forms" s_l_forms []
  f_l_seen_known : FunAt K mg "_law_seen_known" s_l_seen_known []
  f_law : FunAt K mg "law" s_law ["_law_script"]

end WF

set_option Elab.async false
set_option linter.all false
set_option maxRecDepth 100000
set_option maxHeartbeats 1000000
/-! the errors' own __init__ -/
namespace WF
open PySem L2 Evl
section
variable {P : Program} {w : World} {K : PySem.W.Frag} {mg : Str → Option Value} {base : Heap} {C_BadRule C_BadRules C_BadLand C_BadDay C_BadNumber C_BadSeen C_BadText C_Feast C_Calendar C_Line C_Walk : Addr}
theorem me_BadSeen (T : Txt P w K mg C_BadRule C_BadRules C_BadLand C_BadDay C_BadNumber C_BadSeen C_BadText C_Feast C_Calendar C_Line C_Walk) : MnE P w K mg base C_BadSeen 2 (spE1 C_BadSeen "index") := by
  obtain ⟨f, fd, cc, cda, SF, h1, h2, hb⟩ := T.x_BadSeen.sup
  refine ⟨⟨f, fd, _, h1, h2, fn_sup (k := 1) SF T.super scs_BadSeen_init (fun vs H Q E h => ?_) rfl rfl rfl (fun env => ⟨_, rfl⟩) (fun A outer s H vs Q E hr h => ?_), hb⟩, T.x_BadSeen.ox⟩
  · obtain ⟨_, _, rfl, _⟩ := h
    rfl
  · obtain ⟨a, v, rfl, ha, k⟩ := h
    exact ⟨T.x_BadSeen.ox, ⟨a, rfl, ha⟩, _, pss_one (ps_ost (pv 0) (pv 1)), _, rfl, _, rfl, a, C_BadSeen, rfl, T.x_BadSeen.ox, T.x_BadSeen.no _ (by simp), .inl ⟨ha, fun dx h1 h2 => k dx h1 h2⟩⟩
theorem me_BadText (T : Txt P w K mg C_BadRule C_BadRules C_BadLand C_BadDay C_BadNumber C_BadSeen C_BadText C_Feast C_Calendar C_Line C_Walk) : MnE P w K mg base C_BadText 2 (spE2 C_BadText "line" "word") := by
  obtain ⟨f, fd, cc, cda, SF, h1, h2, hb⟩ := T.x_BadText.sup
  refine ⟨⟨f, fd, _, h1, h2, fn_sup (k := 1) SF T.super scs_BadText_init (fun vs H Q E h => ?_) rfl rfl rfl (fun env => ⟨_, rfl⟩) (fun A outer s H vs Q E hr h => ?_), hb⟩, T.x_BadText.ox⟩
  · obtain ⟨_, _, _, rfl, _⟩ := h
    rfl
  · obtain ⟨a, u, v, rfl, ha, k⟩ := h
    refine ⟨T.x_BadText.ox, ⟨a, rfl, ha⟩, _, pss_cons (ps_ost (pv 0) (pv 1)) (pss_one (ps_ost (pv 0) (pv 2))), _, rfl, _, rfl, a, C_BadText, rfl, T.x_BadText.ox, T.x_BadText.no _ (by simp), .inl ⟨ha, fun dx h1 h2 => ?_⟩⟩
    exact ⟨_, rfl, _, rfl, a, C_BadText, rfl, T.x_BadText.ox, T.x_BadText.no _ (by simp), .inr ⟨dx, _, upd_same, (by rw [upd_ne h2]; exact upd_same), (by show 1 ≤ 900; decide), k dx h1 h2⟩⟩

end
end WF

set_option Elab.async false
set_option linter.all false
set_option maxRecDepth 100000
set_option maxHeartbeats 2000000
/-! every, turned, divisor -/
namespace WF
open PySem L2 Evl
section
variable {P : Program} {w : World} {K : PySem.W.Frag} {mg : Str → Option Value} {base : Heap} {C_BadRule C_BadRules C_BadLand C_BadDay C_BadNumber C_BadSeen C_BadText C_Feast C_Calendar C_Line C_Walk : Addr} {f : Addr} {fd : FuncData}
def spEvery : Sp := fun vs H Q _ => ∃ (s b T : Nat), vs = [.int s, .int b, .int T] ∧ s ≤ 6000 ∧ b ≤ 6000 ∧ T ≤ 6000 ∧ RetV (.int (((List.range T).map fun t => 2 ^ (b + s * t)).sum : Nat)) H Q
theorem ok_every (F : Fun K "every" "every" s_every f fd) (T : Txt P w K mg C_BadRule C_BadRules C_BadLand C_BadDay C_BadNumber C_BadSeen C_BadText C_Feast C_Calendar C_Line C_Walk) : FnOk P w K mg base CX0 1 f fd ["step", "begin", "many"] spEvery := by
  refine F.ok sc_every (fun vs H Q E h => ?_) (fun cdv A outer s H vs Q E hr h => ?_)
  · obtain ⟨_, _, _, rfl, _⟩ := h
    rfl
  · obtain ⟨s, b, n, rfl, hs, hb, hn, k⟩ := h
    refine ⟨_, (pss_one (ps_ret (pe_callB (cr_sum rfl) (by rfl) T.sum (by decide +kernel) (pa_cons (pe_lc (own := [("turn", 3)]) (g := gName 3) (tt := tYes) rfl sc_every.nd (pi_range1 (by rfl) T.range (pa_cons (pv 2) pa_nil)) (blkOk_by (own := [("turn", 3)]) (N := ["step", "begin", "many", "turn"]) (sc := defScope s_every) (by decide +kernel)) (fun _ _ _ _ _ => (pg_name (i := 3) sc_every.nd rfl (by first | exact Or.inl rfl | exact Or.inr rfl))) (fun _ _ _ _ _ => pts_nil) (fun _ _ _ _ _ => (pe_op op_shlW pe_int (pe_op op_add (pv 1) (pe_op op_mul (pv 0) (pv 3)))))) pa_nil)))), ?_⟩
    refine s_ret (ev_is (ev_sumR (fun t => (((2 ^ (b + s * t) : Nat)) : Int)) (el_rng _ (ea_cons (ev_var rfl) ea_nil) ⟨by omega, by omega⟩ (fun _ => rfl) fun i H1 e1 hi => ?_)) (by rw [cast_sumR]; rfl)) k
    have hm : s * i ≤ 6000 * 6000 := Nat.mul_le_mul hs (by omega)
    have hv : (b : Int) + (s : Int) * (i : Int) = ((b + s * i : Nat) : Int) := by rw [Int.natCast_add, Int.natCast_mul]
    refine ev_is (ev_op ev_c (ev_op (ev_var rfl) (ev_op (ev_var rfl) (ev_var rfl) (rv_I (.inl ⟨by omega, by omega⟩))) rv_I0) (rv_I ⟨?_, ?_⟩)) ?_
    · rw [hv]; exact Int.natCast_nonneg _
    · rw [hv]
      show ((Builtin.Int.intBits 1 : Nat) : Int) + ((b + s * i : Nat) : Int) ≤ 2 ^ 27
      have : Builtin.Int.intBits 1 = 1 := by decide +kernel
      rw [this]
      omega
    · rw [hv, Int.toNat_natCast, Int.one_mul, Int.natCast_pow]
      rfl
theorem dn_every (T : Txt P w K mg C_BadRule C_BadRules C_BadLand C_BadDay C_BadNumber C_BadSeen C_BadText C_Feast C_Calendar C_Line C_Walk) : Dn P w K mg base CX0 "every" 1 ["step", "begin", "many"] spEvery := T.f_every.dn fun _ _ F _ _ => ok_every F T

def sp_divisor : Sp := fun vs H Q _ => ∃ (a b : Nat), vs = [.int a, .int b] ∧ RetV (.int (Nat.gcd a b : Nat)) H Q
theorem ok_divisor (F : Fun K "divisor" "divisor" s_divisor f fd) (T : Txt P w K mg C_BadRule C_BadRules C_BadLand C_BadDay C_BadNumber C_BadSeen C_BadText C_Feast C_Calendar C_Line C_Walk) : FnOk P w K mg base CX0 1 f fd ["one", "other"] sp_divisor := by
  refine F.ok sc_divisor (fun vs H Q E h => ?_) (fun cdv A outer s H vs Q E hr h => ?_)
  · obtain ⟨_, _, rfl, _⟩ := h
    rfl
  · obtain ⟨a, b, rfl, k⟩ := h
    refine ⟨_, (pss_cons (ps_while PassesOwn.never (pt_cmpR op_ne (pv 1) pe_int (nomark _))
  (pss_one (ps_par (i := 0) (j := 1) (by rfl) sc_divisor.nd rfl rfl (by decide) rfl rfl (pa_cons (pv 1) (pa_cons (pe_op op_mod (pv 0) (pv 1)) pa_nil)) (by first | rfl | exact sw2 rfl rfl rfl rfl (by decide)))))
  (pss_one (ps_ret (pv 0)))), ?_⟩
    refine q_while (fun m σ H1 => ∃ x y : Nat, σ = [some (.int x), some (.int y)] ∧ Nat.gcd x y = Nat.gcd a b ∧ m = y ∧ Ex H H1) b ⟨a, b, rfl, rfl, rfl, Ex.refl H⟩ ?_
    rintro m σ' H' ⟨x, y, rfl, hg, rfl, e⟩
    refine ⟨!decide (V.int m = V.int 0), et_cmp (ev_var rfl) ev_c (rv_ne rfl), fun hb H1 e1 => ?_, fun hb H1 e1 => ?_⟩
    · have hy : 0 < m := by
        rcases Nat.eq_zero_or_pos m with h | h
        · subst h; simp at hb
        · exact h
      refine ⟨fun σ2 H2 => σ2 = [some (.int m), some (.int (x % m : Nat))] ∧ Ex H' H2, fun σ2 H2 ⟨h1, h2⟩ => ⟨x % m, Nat.mod_lt _ hy, m, x % m, h1, ?_, rfl, e.trans h2⟩, ?_⟩
      · rw [← hg, Nat.gcd_comm x m, Nat.gcd_rec m x, Nat.gcd_comm]
      · refine s_par (ea_cons (ev_var rfl) (ea_cons (ev_is (ev_op (ev_var rfl) (ev_var rfl) (rv_I (by omega))) rfl) ea_nil)) fun H2 e2 => ⟨rfl, e1.trans e2⟩
    · have hy : m = 0 := by
        rcases Nat.eq_zero_or_pos m with h | h
        · exact h
        · exfalso
          have : ¬ (V.int (m : Int) = V.int 0) := fun q => by
            injection q with q
            omega
          rw [decide_eq_false this] at hb
          cases hb
      subst hy
      rw [Nat.gcd_zero_right] at hg
      refine s_ret (ev_var rfl) fun H2 e2 => ?_
      rw [hg]
      exact k H2 ((e.trans e1).trans e2)
theorem dn_divisor (T : Txt P w K mg C_BadRule C_BadRules C_BadLand C_BadDay C_BadNumber C_BadSeen C_BadText C_Feast C_Calendar C_Line C_Walk) : Dn P w K mg base CX0 "divisor" 1 ["one", "other"] sp_divisor := T.f_divisor.dn fun _ _ F _ _ => ok_divisor F T
def spTurned : Sp := fun vs H Q _ => ∃ (N : Nat) (b : Int) (p : Int → Bool), vs = [.int (figN N p : Nat), .int b, .int N] ∧ 0 < N ∧ N ≤ 100000 ∧ Per (N : Int) p ∧ RetV (.int (figN N fun d => p (d - b) : Nat)) H Q
theorem ok_turned (F : Fun K "turned" "turned" s_turned f fd) (T : Txt P w K mg C_BadRule C_BadRules C_BadLand C_BadDay C_BadNumber C_BadSeen C_BadText C_Feast C_Calendar C_Line C_Walk) : FnOk P w K mg base CX0 1 f fd ["figure", "by", "round_days"] spTurned := by
  refine F.ok sc_turned (fun vs H Q E h => ?_) (fun cdv A outer s H vs Q E hr h => ?_)
  · obtain ⟨_, _, _, rfl, _⟩ := h
    rfl
  · obtain ⟨N, b, p, rfl, hN, hN2, hp, k⟩ := h
    have h0 : 0 ≤ b % (N : Int) := Int.emod_nonneg _ (by omega)
    have h1 : b % (N : Int) < (N : Int) := Int.emod_lt_of_pos _ (by omega)
    obtain ⟨c, hc⟩ : ∃ c : Nat, b % (N : Int) = (c : Int) := ⟨(b % (N : Int)).toNat, by omega⟩
    have hcN : c < N := by omega
    have hpc : ∀ d, p (d - b) = p (d - (c : Int)) := fun d => by
      have : b = (c : Int) + (N : Int) * (b / (N : Int)) := by rw [← hc]; exact (Int.emod_add_mul_ediv b N).symm
      rw [this, show d - ((c : Int) + (N : Int) * (b / (N : Int))) = (d - (c : Int)) + (N : Int) * (-(b / (N : Int))) by rw [Int.mul_neg]; omega, hp.mul]
    refine ⟨_, (pss_cons (ps_set (i := 1) sc_turned.nd rfl (by first | exact Or.inl rfl | exact Or.inr rfl) (pe_op op_mod (pv 1) (pv 2)))
  (pss_cons (ps_set (i := 3) sc_turned.nd rfl (by first | exact Or.inl rfl | exact Or.inr rfl) (pe_op op_shlW (pv 0) (pv 1)))
  (pss_one (ps_ret (pe_op op_or (pe_op op_and (pv 3) (pe_op op_sub (pe_op op_shlW pe_int (pv 2)) pe_int)) (pe_op op_shr (pv 3) (pv 2))))))), ?_⟩
    refine q_asg (ev_is (ev_op (ev_var rfl) (ev_var rfl) (rv_I (by omega))) (by rw [hc])) fun H1 e1 => ?_
    refine q_asg (ev_is (ev_op (ev_var rfl) (ev_var rfl) (rv_I ⟨Int.natCast_nonneg _, ?_⟩)) rfl) fun H2 e2 => ?_
    · have := fig_bits N p
      omega
    refine s_ret (v := .int (figN N fun d => p (d - b) : Nat)) (ev_is (ev_op (ev_op (ev_var rfl) (ev_op (ev_op ev_c (ev_var rfl) (rv_I ⟨Int.natCast_nonneg _, ?_⟩)) ev_c rv_I0) rv_I0) (ev_op (ev_var rfl) (ev_var rfl) (rv_I (Int.natCast_nonneg _))) rv_I0) ?_) fun H3 e3 => ?_
    · rw [bits_one]
      omega
    · rw [Int.toNat_natCast, Int.toNat_natCast, fig_turn hp hcN, figN_congr (q := fun d => p (d - b)) fun d _ => (hpc d).symm]
    · exact k H3 ((e1.trans e2).trans e3)
theorem dn_turned (T : Txt P w K mg C_BadRule C_BadRules C_BadLand C_BadDay C_BadNumber C_BadSeen C_BadText C_Feast C_Calendar C_Line C_Walk) : Dn P w K mg base CX0 "turned" 1 ["figure", "by", "round_days"] spTurned := T.f_turned.dn fun _ _ F _ _ => ok_turned F T
end
end WF

set_option Elab.async false
set_option linter.all false
set_option maxRecDepth 100000
set_option maxHeartbeats 4000000
/-! feasts' rules: is_in, within, size_of, is_rule -/
namespace WF
open PySem L2 Evl
section
variable {P : Program} {w : World} {K : PySem.W.Frag} {mg : Str → Option Value} {base : Heap} {C_BadRule C_BadRules C_BadLand C_BadDay C_BadNumber C_BadSeen C_BadText C_Feast C_Calendar C_Line C_Walk : Addr} {f : Addr} {fd : FuncData}
def inB (o : Option Int) (xs : List V) : Bool := match o with
  | some z => inV (.int z) xs
  | none => false
def spIsIn (K : PySem.W.Frag) : Sp := fun vs H Q _ => ∃ v o a xs, vs = [v, .ref a] ∧ NumV K H v o ∧ SqT K H a xs ∧ xs.all flatV = true ∧ RetV (.bl (inB o xs)) H Q
theorem ok_is_in (F : Fun K "is_in" "is_in" s_is_in f fd) (T : Txt P w K mg C_BadRule C_BadRules C_BadLand C_BadDay C_BadNumber C_BadSeen C_BadText C_Feast C_Calendar C_Line C_Walk) : FnOk P w K mg base CX0 1 f fd ["value", "some"] (spIsIn K) := by
  refine F.ok sc_is_in (fun vs H Q E h => ?_) (fun cdv A outer s H vs Q E hr h => ?_)
  · obtain ⟨_, _, _, _, rfl, _⟩ := h
    rfl
  · obtain ⟨v, o, a, xs, rfl, hV, hA, hf, k⟩ := h
    refine ⟨_, (pss_one (ps_ret (pe_and (pe_callB call_isi (by rfl) T.isinstance (by decide +kernel) (pa_cons (pv 0) (pa_cons (pe_bltn (v := .ty "int") (by rfl) T.int (by decide +kernel) rfl) pa_nil))) (pe_and (pe_not (pe_callB call_isi (by rfl) T.isinstance (by decide +kernel) (pa_cons (pv 0) (pa_cons (pe_bltn (v := .ty "bool") (by rfl) T.bool (by decide +kernel) rfl) pa_nil)))) (pe_one (pe_cmpR op_in_seq (pv 0) (pv 1) (by rfl))))))), ?_⟩
    refine s_ret (ev_isInt3 (ev_var rfl) hV (fun z ho hz => ?_) (fun ho => by rw [ho]; rfl)) k
    subst ho hz
    exact ev_op (ev_var rfl) (ev_var rfl) (rv_isT hA rfl hf)
theorem dn_is_in (T : Txt P w K mg C_BadRule C_BadRules C_BadLand C_BadDay C_BadNumber C_BadSeen C_BadText C_Feast C_Calendar C_Line C_Walk) : Dn P w K mg base CX0 "is_in" 1 ["value", "some"] (spIsIn K) := T.f_is_in.dn fun _ _ F _ _ => ok_is_in F T
theorem spv_is_in {H : Hp} {v : V} {o : Option Int} {a : Addr} {xs : List V} {b : Bool} (h : NumV K H v o) (ha : SqT K H a xs) (hf : xs.all flatV = true) (hb : inB o xs = b) : SpV (spIsIn K) ([v, .ref a] ++ []) H (.bl b) :=
  spV fun H1 e Q _ q => ⟨v, o, a, xs, rfl, h.mono e, ex_t e ha, hf, by rw [hb]; exact q⟩
def spWithin (K : PySem.W.Frag) : Sp := fun vs H Q _ => ∃ a, vs = [.ref a] ∧ ((∃ s x y, isPair s ∧ SqT K H a [.str s, x, y] ∧ RetL [x, y] H Q) ∨ ∃ x y, SqT K H a [.str "behind", x, y] ∧ RetL [x] H Q)
theorem pair_not {s : Str} (h : isPair s) : decide (s = "both" ∨ s = "either" ∨ s = "without") = true := decide_eq_true h
theorem ok_within (F : Fun K "within" "within" s_within f fd) (T : Txt P w K mg C_BadRule C_BadRules C_BadLand C_BadDay C_BadNumber C_BadSeen C_BadText C_Feast C_Calendar C_Line C_Walk) : FnOk P w K mg base CX0 1 f fd ["rule"] (spWithin K) := by
  obtain ⟨aP, gPAIRS, sP⟩ := T.g_PAIRS
  refine F.ok sc_within (fun vs H Q E h => ?_) (fun cdv A outer s H vs Q E hr h => ?_)
  · obtain ⟨_, rfl, _⟩ := h
    rfl
  · obtain ⟨a, rfl, h⟩ := h
    refine ⟨_, (pss_cons (ps_if (pt_cmpR op_in_seq (pe_ix ix_tup (pv 0) pe_int (fun _ _ => rfl)) (pe_glob (v := .ref aP) rfl gPAIRS rfl) (by rfl)) (pss_one (ps_ret (pe_lst (pa_cons (pe_ix ix_tup (pv 0) pe_int (fun _ _ => rfl)) (pa_cons (pe_ix ix_tup (pv 0) pe_int (fun _ _ => rfl)) pa_nil)))))
  pss_nil)
  (pss_one (ps_ret (pe_ifExp (pt_cmpR op_eq (pe_ix ix_tup (pv 0) pe_int (fun _ _ => rfl)) pe_str (nomark _)) (pe_lst (pa_cons (pe_ix ix_tup (pv 0) pe_int (fun _ _ => rfl)) pa_nil)) (pe_lst pa_nil))))), ?_⟩
    rcases h with ⟨s, x, y, hs, hT, k⟩ | ⟨x, y, hT, k⟩
    · refine q_yes (et_is (et_cmp (ev_ixT (ev_var rfl) hT rfl) ev_c (rv_isT (sP _) rfl rfl)) ?_) fun H1 e1 => ?_
      · rw [inV_pairs]; exact pair_not hs
      · exact s_retL (el_lst (ea_cons (ev_ixT (ev_var rfl) (ex_t e1 hT) rfl) (ea_cons (ev_ixT (ev_var rfl) (ex_t e1 hT) rfl) ea_nil)) (by show 2 ≤ 100000; decide)) fun p H2 hp e2 h2 => k p H2 (fresh_back e1 hp) (e1.trans e2) h2
    · refine q_not (et_is (et_cmp (ev_ixT (ev_var rfl) hT rfl) ev_c (rv_isT (sP _) rfl rfl)) ?_) fun H1 e1 => ?_
      · rw [inV_pairs]; decide +kernel
      · exact s_retL (el_ifT (et_str (ev_ixT (ev_var rfl) (ex_t e1 hT) rfl) (by decide +kernel)) (el_lst (ea_cons (ev_ixT (ev_var rfl) (ex_t e1 hT) rfl) ea_nil) (by show 1 ≤ 100000; decide))) fun p H2 hp e2 h2 => k p H2 (fresh_back e1 hp) (e1.trans e2) h2
theorem dn_within (T : Txt P w K mg C_BadRule C_BadRules C_BadLand C_BadDay C_BadNumber C_BadSeen C_BadText C_Feast C_Calendar C_Line C_Walk) : Dn P w K mg base CX0 "within" 1 ["rule"] (spWithin K) := T.f_within.dn fun _ _ F _ _ => ok_within F T
def spSize (K : PySem.W.Frag) (n : Nat) : Sp := fun vs H Q _ => ∃ (v : V) (m : Nat) (o : Option (Nat × Nat)), vs = [v, .int m] ∧ m < n ∧ SzAt K H v m o ∧ RetO o H Q
theorem RetO.no {o : Option (Nat × Nat)} {H : Hp} {Q : VK} (k : RetO o H Q) (h : o = none) {H' : Hp} (e : Ex H H') : Q .non H' := k.1 h H' e
theorem et_eqU {σ : L2.St} {H : Hp} {te : TE} {p : Addr} {xs : List V} (h : Ev te σ H (.ref p)) (hT : SqT K H p xs) : EvT (tTest (tOp (rEqE K) te (tTup tNil))) σ H xs.isEmpty :=
  et_test (ev_opU (xs := []) h (eu_tup ea_nil (Nat.zero_le _)) fun q H1 hq e1 H2 e2 Q k => ⟨p, q, xs, rfl, rfl, ex_t (e1.trans e2) hT, st_of (e2 _ _ hq), k H2 (Ex.refl H2)⟩)
theorem kit_ss {K : PySem.W.Frag} : PySem.W.kitOne K (.type "str") (.type "str") = some true := kit_ty (by decide +kernel)
theorem et_inK {σ : L2.St} {H : Hp} {te : TE} {d : Addr} {s : Str} {r : Option Value} (h : Ev te σ H (.str s)) (e : PySem.W.nsIn K d s = some r) : EvT (tTest (tOp (fun x y H Q => ∃ (z : Str) (r : Option Value), x = .str z ∧ y = .ref d ∧ PySem.W.nsIn K d z = some r ∧ Q (.bl r.isSome) H) te (tC (.ref d)))) σ H r.isSome :=
  et_test (ev_op h ev_c fun H1 _ Q k => ⟨s, r, rfl, rfl, e, k H1 (Ex.refl H1)⟩)
/-- a turn of size_of's loop: the part within, its parts and bys added -/
theorem size_step {n m P0 Q0 : Nat} {va x : V} {R : Int} {v5 : Option V} {o : Option (Nat × Nat)} {D : Ends} {H1 : Hp} (hz : SzAt K H1 x m o) (hm : m < n) (hR : R - (P0 : Int) = (m : Int)) (kN : o = none → ∀ H2, Ex H1 H2 → D.rt .non H2)
    (kS : ∀ p q, o = some (p, q) → ∀ H2 z, Ex H1 H2 → D.nx [some va, some (.int R), some (.int ((P0 + p : Nat) : Int)), some (.int ((Q0 + q : Nat) : Int)), some x, z] H2) :
    tSeq (tAsg (tCall (spSize K n) [] E0 (tCons (tVar 4) (tCons (tOp (rI0 fun i j => .int (i - j)) (tVar 1) (tVar 2)) tNil))) (gName 5)) (tSeq (tIfS (tTest (tOp (fun x y H Q => y = .non ∧ Q (.bl (decide (x = .non))) H) (tVar 5) (tC .non))) (tRet (tC .non)) tNext)
      (tPar 2 3 (tCons (tOp (rI0 fun i j => .int (i + j)) (tVar 2) (tOp (rIxT K) (tVar 5) (tC (.int 0)))) (tCons (tOp (rI0 fun i j => .int (i + j)) (tVar 3) (tOp (rIxT K) (tVar 5) (tC (.int 1)))) tNil)))) D
      [some va, some (.int R), some (.int (P0 : Int)), some (.int (Q0 : Int)), some x, v5] H1 := by
  refine q_call (vs := [x, .int (m : Int)]) (ea_cons (ev_var rfl) (ea_cons (ev_is (ev_op (ev_var rfl) (ev_var rfl) rv_I0) (by rw [hR])) ea_nil)) fun H2 e2 => ⟨x, m, o, rfl, hm, hz.mono e2, fun ho H3 e3 => ?_, fun p q ho t H3 ht e3 h3 => ?_⟩
  · refine q_yes (et_is (et_cmp (ev_var rfl) ev_c rv_isN) rfl) fun H4 e4 => ?_
    exact s_ret ev_c fun H5 e5 => kN ho H5 (((e2.trans e3).trans e4).trans e5)
  · refine q_not (et_is (et_cmp (ev_var rfl) ev_c rv_isN) rfl) fun H4 e4 => ?_
    refine s_par (ea_cons (ev_is (ev_op (ev_var rfl) (ev_ixT (ev_var rfl) (st_of (e4 _ _ h3)) rfl) rv_I0) rfl) (ea_cons (ev_is (ev_op (ev_var rfl) (ev_ixT (ev_var rfl) (st_of (e4 _ _ h3)) rfl) rv_I0) rfl) ea_nil)) fun H5 e5 => ?_
    have := kS p q ho H5 (some (.ref t)) (((e2.trans e3).trans e4).trans e5)
    rw [Int.natCast_add, Int.natCast_add] at this
    exact this
theorem abs_val (b : Int) : (if b < 0 then -b else b) = ((b.natAbs : Nat) : Int) := by
  split <;> omega
theorem size_turn (F : Fun K "size_of" "size_of" s_size_of f fd) (T : Txt P w K mg C_BadRule C_BadRules C_BadLand C_BadDay C_BadNumber C_BadSeen C_BadText C_Feast C_Calendar C_Line C_Walk) (hm : mg "size_of" = some (.ref f)) (hb : Binds K fd ["value", "room"] []) (n : Nat) (ih : FnOk P w K mg base CX0 (n + 1) f fd ["value", "room"] (spSize K n)) : FnOk P w K mg base CX0 (n + 2) f fd ["value", "room"] (spSize K (n + 1)) := by
  obtain ⟨aP, gPAIRS, sP⟩ := T.g_PAIRS
  obtain ⟨aB, gBYS, sB⟩ := T.g_BYS
  obtain ⟨dE, aW, aM, gENDS, tE⟩ := T.g_ENDS
  obtain ⟨esE, nE, kdENDS⟩ := tE.kd
  have D_is_in : Dn P w K mg base CX0 "is_in" 1 ["value", "some"] (spIsIn K) := dn_is_in T
  have D_within : Dn P w K mg base CX0 "within" 1 ["rule"] (spWithin K) := dn_within T
  have D_size_of : Dn P w K mg base CX0 "size_of" (n + 1) ["value", "room"] (spSize K n) := ⟨f, fd, hm, F.kp, ih, hb⟩
  refine F.ok sc_size_of (fun vs H Q E h => ?_) (fun cdv A outer s H vs Q E hr h => ?_)
  · obtain ⟨_, _, _, rfl, _⟩ := h
    rfl
  · obtain ⟨v, m, o, rfl, hmn, hZ, k⟩ := h
    have hr1 : Room 1 _ := hr.mono (by omega)
    refine ⟨_, (pss_cons (ps_if (PW.pt (pw_or (pt_cmpR op_eq (pv 1) pe_int (nomark _)) (pw_or (pt_not (pt_val (pe_callB call_isi (by rfl) T.isinstance (by decide +kernel) (pa_cons (pv 0) (pa_cons (pe_bltn (v := .ty "tuple") (by rfl) T.tuple (by decide +kernel) rfl) pa_nil))))) (pw_or (pt_cmpR (op_eqE (hu_of hr1)) (pv 0) (pe_tup pa_nil) (nomark _)) (pw_or1 (pt_not (pt_val (pe_callB call_isi (by rfl) T.isinstance (by decide +kernel) (pa_cons (pe_ix ix_tup (pv 0) pe_int (fun _ _ => rfl)) (pa_cons (pe_bltn (v := .ty "str") (by rfl) T.str (by decide +kernel) rfl) pa_nil)))))))))) (pss_one (ps_ret pe_non))
  pss_nil)
  (pss_cons (ps_if (pt_cmpR (op_in_kd kdENDS) (pe_ix ix_tup (pv 0) pe_int (fun _ _ => rfl)) (pe_glob (v := .ref dE) rfl gENDS rfl) (by rfl)) (pss_one (ps_ret (pe_ifExp (PW.pt (pw_and (pt_cmpR op_eq (pe_callB call_len_seq (by rfl) T.len (by decide +kernel) (pa_cons (pv 0) pa_nil)) pe_int (nomark _)) (pw_and1 (pt_val (pe_fn D_is_in (hr.mono (by omega)) pass0 rfl (pa_cons (pe_ix ix_tup (pv 0) pe_int (fun _ _ => rfl)) (pa_cons (pe_ix ix_kdict (pe_glob (v := .ref dE) rfl gENDS rfl) (pe_ix ix_tup (pv 0) pe_int (fun _ _ => rfl)) (fun _ _ => rfl)) pa_nil))))))) (pe_tup (pa_cons pe_int (pa_cons pe_int pa_nil))) pe_non)))
  pss_nil)
  (pss_cons (ps_if (PW.pt (pw_or (pt_cmpR op_ne (pe_callB call_len_seq (by rfl) T.len (by decide +kernel) (pa_cons (pv 0) pa_nil)) pe_int (nomark _)) (pw_or1 (PW.pt (pw_and (pt_cmpR op_ne (pe_ix ix_tup (pv 0) pe_int (fun _ _ => rfl)) pe_str (nomark _)) (pw_and1 (pt_cmpR op_notIn_seq (pe_ix ix_tup (pv 0) pe_int (fun _ _ => rfl)) (pe_glob (v := .ref aP) rfl gPAIRS rfl) (by rfl)))))))) (pss_one (ps_ret pe_non))
  pss_nil)
  (pss_cons (ps_if (PW.pt (pw_and (pt_cmpR op_eq (pe_ix ix_tup (pv 0) pe_int (fun _ _ => rfl)) pe_str (nomark _)) (pw_and1 (pt_not (pt_val (pe_fn D_is_in (hr.mono (by omega)) pass0 rfl (pa_cons (pe_ix ix_tup (pv 0) pe_int (fun _ _ => rfl)) (pa_cons (pe_glob (v := .ref aB) rfl gBYS rfl) pa_nil)))))))) (pss_one (ps_ret pe_non))
  pss_nil)
  (pss_cons (ps_par (i := 2) (j := 3) (by rfl) sc_size_of.nd rfl rfl (by decide) rfl rfl (pa_cons pe_int (pa_cons (pe_ifExp (pt_cmpR op_eq (pe_ix ix_tup (pv 0) pe_int (fun _ _ => rfl)) pe_str (nomark _)) (pe_callB call_abs (by rfl) T.abs (by decide +kernel) (pa_cons (pe_ix ix_tup (pv 0) pe_int (fun _ _ => rfl)) pa_nil)) pe_int) pa_nil)) (by first | rfl | exact sw2 rfl rfl rfl rfl (by decide)))
  (pss_cons (ps_for PassesOwn.never rfl (pi_list (pe_fn D_within (hr.mono (by omega)) pass0 rfl (pa_cons (pv 0) pa_nil))) (pg_name (i := 4) sc_size_of.nd rfl (by first | exact Or.inl rfl | exact Or.inr rfl))
  (pss_cons (ps_set (i := 5) sc_size_of.nd rfl (by first | exact Or.inl rfl | exact Or.inr rfl) (pe_fn D_size_of (hr.mono (by omega)) pass0 rfl (pa_cons (pv 4) (pa_cons (pe_op op_sub (pv 1) (pv 2)) pa_nil))))
  (pss_cons (ps_if (pt_cmpR op_isN (pv 5) pe_non (nomark _)) (pss_one (ps_ret pe_non))
  pss_nil)
  (pss_one (ps_par (i := 2) (j := 3) (by rfl) sc_size_of.nd rfl rfl (by decide) rfl rfl (pa_cons (pe_op op_add (pv 2) (pe_ix ix_tup (pv 5) pe_int (fun _ _ => rfl))) (pa_cons (pe_op op_add (pv 3) (pe_ix ix_tup (pv 5) pe_int (fun _ _ => rfl))) pa_nil)) (by first | rfl | exact sw2 rfl rfl rfl rfl (by decide)))))))
  (pss_one (ps_ret (pe_tup (pa_cons (pv 2) (pa_cons (pv 3) pa_nil))))))))))), ?_⟩
    -- the first test: not none
    have gate : ∀ {a : Addr} {s : Str} {xs : List V} {m : Nat}, SqT K H a (.str s :: xs) → EvT (tOr (tTest (tOp rEq (tVar 1) (tC (.int 0)))) (tOr (tNot (tB (tCB (rIsi K) (tCons (tVar 0) (tCons (tC (.ty "tuple")) tNil))))) (tOr (tTest (tOp (rEqE K) (tVar 0) (tTup tNil))) (tNot (tB (tCB (rIsi K) (tCons (tOp (rIxT K) (tVar 0) (tC (.int 0))) (tCons (tC (.ty "str")) tNil)))))))) (start ["value", "room", "parts", "bys", "rule", "found"] [.ref a, .int ((m + 1 : Nat) : Int)]) H false := fun {a s xs m} hT =>
      et_is (et_or (et_cmp (ev_var rfl) ev_c (rv_eq rfl)) fun _ => et_or (et_not (et_B (ev_isi (ev_var rfl) (ty_tup hT) kit_tt))) fun _ => et_or (et_eqU (ev_var rfl) hT) fun _ => et_not (et_B (ev_isi (ev_ixT (ev_var rfl) hT at0) (ty_str s) kit_ss))) (by
        have : ¬ (V.int ((m + 1 : Nat) : Int) = V.int 0) := fun q => by injection q with q; omega
        rw [decide_eq_false this]
        rfl)
    have notEnd : ∀ {s : Str}, s ∈ (["behind", "both", "either", "without", "week"] : List Str) → PySem.W.nsIn K dE s = some none := fun h => tE.no _ h
    have pos : ∀ {m : Nat}, ¬ (V.int ((m + 1 : Nat) : Int) = V.int 0) := fun q => by
      injection q with q
      omega
    -- a word of ENDS; none
    have inE : ∀ {a : Addr} {s : Str} {xs : List V} {σ : L2.St} {H1 : Hp}, SqT K H1 a (.str s :: xs) → σ[0]? = some (some (V.ref a)) → isEnd s → EvT (tTest (tOp (fun x y H Q => ∃ (z : Str) (r : Option Value), x = .str z ∧ y = .ref dE ∧ PySem.W.nsIn K dE z = some r ∧ Q (.bl r.isSome) H) (tOp (rIxT K) (tVar 0) (tC (.int 0))) (tC (.ref dE)))) σ H1 true := fun {a s xs σ H1} hT h0 hs => by
      obtain ⟨a1, h1, _⟩ := tE.in hs
      exact et_is (et_inK (ev_ixT (ev_var h0) hT at0) h1) rfl
    have outE : ∀ {a : Addr} {s : Str} {xs : List V} {σ : L2.St} {H1 : Hp}, SqT K H1 a (.str s :: xs) → σ[0]? = some (some (V.ref a)) → s ∈ (["behind", "both", "either", "without", "week"] : List Str) → EvT (tTest (tOp (fun x y H Q => ∃ (z : Str) (r : Option Value), x = .str z ∧ y = .ref dE ∧ PySem.W.nsIn K dE z = some r ∧ Q (.bl r.isSome) H) (tOp (rIxT K) (tVar 0) (tC (.int 0))) (tC (.ref dE)))) σ H1 false := fun {a s xs σ H1} hT h0 hs => et_is (et_inK (ev_ixT (ev_var h0) hT at0) (notEnd hs)) rfl
    have len2 : ∀ {a : Addr} {xs : List V} {σ : L2.St} {H1 : Hp} {c : Int}, SqT K H1 a xs → σ[0]? = some (some (V.ref a)) → Ev (tCB (rLenS K) (tCons (tVar 0) tNil)) σ H1 (.int (xs.length : Int)) := fun hT h0 => ev_lenT (ev_var h0) hT
    have wordT : ∀ {a : Addr} {s : Str} {xs : List V} {σ : L2.St} {H1 : Hp}, SqT K H1 a (.str s :: xs) → σ[0]? = some (some (V.ref a)) → EvT (tOr (tTest (tOp rNe (tCB (rLenS K) (tCons (tVar 0) tNil)) (tC (.int 3)))) (tAnd (tTest (tOp rNe (tOp (rIxT K) (tVar 0) (tC (.int 0))) (tC (.str "behind")))) (tTest (tOp (rIn K true) (tOp (rIxT K) (tVar 0) (tC (.int 0))) (tC (.ref aP)))))) σ H1
        (!decide (xs.length = 2) || (!decide (s = "behind") && !decide (s = "both" ∨ s = "either" ∨ s = "without"))) := fun {a s xs σ H1} hT h0 =>
      et_or (et_is (et_cmp (ev_lenT (ev_var h0) hT) ev_c (rv_ne rfl)) (by
        show (!decide (V.int (((xs.length + 1 : Nat)) : Int) = V.int 3)) = !decide (xs.length = 2)
        by_cases h : xs.length = 2
        · rw [h]; rfl
        · rw [decide_eq_false h, decide_eq_false]
          intro q
          injection q with q
          omega)) fun _ => et_and (et_is (et_cmp (ev_ixT (ev_var h0) hT at0) ev_c (rv_ne rfl)) (by
        show (!decide (V.str s = V.str "behind")) = !decide (s = "behind")
        by_cases h : s = "behind"
        · rw [h]; rfl
        · rw [decide_eq_false h, decide_eq_false]
          intro q
          injection q with q
          exact h q)) fun _ => et_is (et_cmp (ev_ixT (ev_var h0) hT at0) ev_c (rv_niT (sP _) rfl rfl)) (by rw [inV_pairs])
    cases hZ with
    | zero =>
      refine q_yes (et_or1 (et_is (et_cmp (ev_var rfl) ev_c (rv_eq rfl)) rfl)) fun H1 e1 => ?_
      exact s_ret ev_c fun H2 e2 => k.1 rfl H2 (e1.trans e2)
    | kind hy hk =>
      refine q_yes (et_is (et_or (et_cmp (ev_var rfl) ev_c (rv_eq rfl)) fun _ => et_or1 (et_not (et_B (ev_isi (ev_var rfl) hy hk)))) (by rw [decide_eq_false pos]; rfl)) fun H1 e1 => ?_
      exact s_ret ev_c fun H2 e2 => k.1 rfl H2 (e1.trans e2)
    | empty hT =>
      refine q_yes (et_is (et_or (et_cmp (ev_var rfl) ev_c (rv_eq rfl)) fun _ => et_or (et_not (et_B (ev_isi (ev_var rfl) (ty_tup hT) kit_tt))) fun _ => et_or1 (et_eqU (ev_var rfl) hT)) (by rw [decide_eq_false pos]; rfl)) fun H1 e1 => ?_
      exact s_ret ev_c fun H2 e2 => k.1 rfl H2 (e1.trans e2)
    | head hT hy hk =>
      refine q_yes (et_is (et_or (et_cmp (ev_var rfl) ev_c (rv_eq rfl)) fun _ => et_or (et_not (et_B (ev_isi (ev_var rfl) (ty_tup hT) kit_tt))) fun _ => et_or (et_eqU (ev_var rfl) hT) fun _ => et_not (et_B (ev_isi (ev_ixT (ev_var rfl) hT at0) hy hk))) (by rw [decide_eq_false pos]; rfl)) fun H1 e1 => ?_
      exact s_ret ev_c fun H2 e2 => k.1 rfl H2 (e1.trans e2)
    | leaf hs hT ok =>
      rename_i a s kk m
      obtain ⟨aE, h1, xsE, hxs, hfl, hin⟩ := tE.in hs
      refine q_not (gate hT) fun H1 e1 => ?_
      refine q_yes (inE (ex_t e1 hT) rfl hs) fun H2 e2 => ?_
      have hT2 := ex_t (e1.trans e2) hT
      refine s_retU (eu_ifT (et_and (et_is (et_cmp (ev_lenT (ev_var rfl) hT2) ev_c (rv_eq rfl)) rfl) fun _ => et_B (ev_call (ea_cons (ev_ixT (ev_var rfl) hT2 rfl) (ea_cons (ev_op (ev_c) (ev_ixT (ev_var rfl) hT2 at0) fun H3 _ Q q => ⟨dE, s, .ref aE, rfl, rfl, tE.kdct h1, q H3 (Ex.refl H3)⟩) ea_nil)) (spv_is_in (b := true) (.int kk) (hxs _) hfl (by show inV (.int kk) xsE = true; rw [hin, ok])))) (eu_tup (ea_cons ev_c (ea_cons ev_c ea_nil)) (by show 2 ≤ 100000; decide))) fun t H3 ht e3 h3 => k.2 1 0 rfl t H3 (fresh_back (e1.trans e2) ht) ((e1.trans e2).trans e3) h3
    | leafLen hs hT hl =>
      rename_i a s xs m
      refine q_not (gate hT) fun H1 e1 => ?_
      refine q_yes (inE (ex_t e1 hT) rfl hs) fun H2 e2 => ?_
      have hT2 := ex_t (e1.trans e2) hT
      refine s_ret (ev_ifF (et_and0 (et_is (et_cmp (ev_lenT (ev_var rfl) hT2) ev_c (rv_eq rfl)) (decide_eq_false fun q => ?_))) ev_c) fun H3 e3 => k.1 rfl H3 ((e1.trans e2).trans e3)
      injection q with q
      have : ((V.str s :: xs).length : Int) = (xs.length : Int) + 1 := by simp
      omega
    | leafNum hs hT hx no =>
      rename_i a s x o m
      obtain ⟨aE, h1, xsE, hxs, hfl, hin⟩ := tE.in hs
      refine q_not (gate hT) fun H1 e1 => ?_
      refine q_yes (inE (ex_t e1 hT) rfl hs) fun H2 e2 => ?_
      have hT2 := ex_t (e1.trans e2) hT
      refine s_ret (ev_ifF (et_is (et_and (et_is (et_cmp (ev_lenT (ev_var rfl) hT2) ev_c (rv_eq rfl)) rfl) fun _ => et_B (ev_call (ea_cons (ev_ixT (ev_var rfl) hT2 rfl) (ea_cons (ev_op (ev_c) (ev_ixT (ev_var rfl) hT2 at0) fun H3 _ Q q => ⟨dE, s, .ref aE, rfl, rfl, tE.kdct h1, q H3 (Ex.refl H3)⟩) ea_nil)) (spv_is_in (b := false) (hx.mono (e1.trans e2)) (hxs _) hfl (by
        cases o with
        | none => rfl
        | some z => show inV (.int z) xsE = false; rw [hin, no z rfl])))) rfl) ev_c) fun H3 e3 => k.1 rfl H3 ((e1.trans e2).trans e3)
    | word hs hT hl =>
      rename_i a s xs m
      refine q_not (gate hT) fun H1 e1 => ?_
      refine q_not (outE (ex_t e1 hT) rfl hs) fun H2 e2 => ?_
      refine q_yes (et_is (wordT (ex_t (e1.trans e2) hT) rfl) ?_) fun H3 e3 => ?_
      · rcases hl with hl | rfl
        · rw [decide_eq_false hl]; rfl
        · rw [show decide (("week" : Str) = "behind") = false by decide +kernel, show decide (("week" : Str) = "both" ∨ ("week" : Str) = "either" ∨ ("week" : Str) = "without") = false by decide +kernel]
          cases decide (xs.length = 2) <;> rfl
      · exact s_ret ev_c fun H4 e4 => k.1 rfl H4 (((e1.trans e2).trans e3).trans e4)
    | byBad hT hb no =>
      rename_i a x b o m
      refine q_not (gate hT) fun H1 e1 => ?_
      refine q_not (outE (ex_t e1 hT) rfl (by simp)) fun H2 e2 => ?_
      refine q_not (et_is (wordT (ex_t (e1.trans e2) hT) rfl) (by simp)) fun H3 e3 => ?_
      have E3 := (e1.trans e2).trans e3
      refine q_yes (et_is (et_and (et_str (c := true) (ev_ixT (ev_var rfl) (ex_t E3 hT) rfl) (by decide +kernel)) fun _ => et_not (et_B (ev_call (ea_cons (ev_ixT (ev_var rfl) (ex_t E3 hT) rfl) (ea_cons ev_c ea_nil)) (spv_is_in (b := false) (hb.mono E3) (sB _) rfl (by
        cases o with
        | none => rfl
        | some z => show inV (.int z) bysV = false; rw [inV_bys, no z rfl]))))) rfl) fun H4 e4 => ?_
      exact s_ret ev_c fun H5 e5 => k.1 rfl H5 ((E3.trans e4).trans e5)
    | behind hT ok hx =>
      rename_i a x b m o
      refine q_not (gate hT) fun H1 e1 => ?_
      refine q_not (outE (ex_t e1 hT) rfl (by simp)) fun H2 e2 => ?_
      refine q_not (et_is (wordT (ex_t (e1.trans e2) hT) rfl) (by simp)) fun H3 e3 => ?_
      have E3 := (e1.trans e2).trans e3
      refine q_not (et_is (et_and (et_str (c := true) (ev_ixT (ev_var rfl) (ex_t E3 hT) rfl) (by decide +kernel)) fun _ => et_not (et_B (ev_call (ea_cons (ev_ixT (ev_var rfl) (ex_t E3 hT) rfl) (ea_cons ev_c ea_nil)) (spv_is_in (b := true) (.int b) (sB _) rfl (by
        show inV (.int b) bysV = true; rw [inV_bys, ok]))))) rfl) fun H4 e4 => ?_
      have E4 := E3.trans e4
      refine q_par (y := .int ((b.natAbs : Nat) : Int)) (ea_cons ev_c (ea_cons (ev_ifT (et_str (ev_ixT (ev_var rfl) (ex_t E4 hT) rfl) (by decide +kernel)) (ev_cb (ea_cons (ev_ixT (ev_var rfl) (ex_t E4 hT) rfl) ea_nil) fun H5 _ Q q => ⟨b, rfl, by rw [abs_val]; exact q H5 (Ex.refl H5)⟩)) ea_nil)) fun H5 e5 => ?_
      have E5 := E4.trans e5
      refine q_forNLn (xs := [x]) (el_call (ea_cons (ev_var rfl) ea_nil) (spL fun H6 e6 Q _ q => ⟨a, rfl, .inr ⟨x, _, ex_t (E5.trans e6) hT, q⟩⟩))
        (fun l i σ H' => Ex H H' ∧ H' l = some (.lst [x]) ∧ ∃ p q z4 z5, σ = [some (.ref a), some (.int ((m + 1 : Nat) : Int)), some (.int ((p : Nat) : Int)), some (.int ((q : Nat) : Int)), z4, z5] ∧ ((i = 0 ∧ p = 1 ∧ q = b.natAbs) ∨ (i = 1 ∧ ∃ p1 q1, o = some (p1, q1) ∧ p = 1 + p1 ∧ q = b.natAbs + q1)))
        (fun l H6 _ e6 h6 => ⟨E5.trans e6, h6, 1, b.natAbs, _, _, rfl, .inl ⟨rfl, rfl, rfl⟩⟩) (fun l i σ' H' _ h => sq_of h.2.1) ?_ ?_
      · rintro l i y σ' H' hi ⟨e, hl, p, q, z4, z5, rfl, hc⟩
        rcases hc with ⟨rfl, rfl, rfl⟩ | ⟨rfl, _⟩
        · cases hi
          refine size_step (hx.mono e) (by omega) (by omega) (fun ho H6 e6 => k.1 (by rw [ho]; rfl) H6 (e.trans e6)) fun p q ho H6 z e6 => ⟨e.trans e6, e6 _ _ hl, _, _, _, _, rfl, .inr ⟨rfl, p, q, ho, rfl, rfl⟩⟩
        · simp at hi
      · rintro l σ' H' ⟨e, hl, p, q, z4, z5, rfl, hc⟩
        rcases hc with ⟨h0, _⟩ | ⟨_, p1, q1, ho, rfl, rfl⟩
        · cases h0
        · exact s_retU (eu_tup (ea_cons (ev_var rfl) (ea_cons (ev_var rfl) ea_nil)) (by show 2 ≤ 100000; decide)) fun t H6 ht e6 h6 => k.2 _ _ (by rw [ho]; rfl) t H6 (fresh_back e ht) (e.trans e6) h6
    | pairNo hs hT hx =>
      rename_i a s x y m
      have hsM : s ∈ (["behind", "both", "either", "without", "week"] : List Str) := by rcases hs with rfl | rfl | rfl <;> simp
      have hsB : decide (s = "behind") = false := by rcases hs with rfl | rfl | rfl <;> decide +kernel
      refine q_not (gate hT) fun H1 e1 => ?_
      refine q_not (outE (ex_t e1 hT) rfl hsM) fun H2 e2 => ?_
      refine q_not (et_is (wordT (ex_t (e1.trans e2) hT) rfl) (by rw [pair_not hs]; simp)) fun H3 e3 => ?_
      have E3 := (e1.trans e2).trans e3
      refine q_not (et_and0 (et_str (ev_ixT (ev_var rfl) (ex_t E3 hT) rfl) hsB)) fun H4 e4 => ?_
      have E4 := E3.trans e4
      refine q_par (y := .int ((0 : Nat) : Int)) (ea_cons ev_c (ea_cons (ev_ifF (et_str (ev_ixT (ev_var rfl) (ex_t E4 hT) rfl) hsB) ev_c) ea_nil)) fun H5 e5 => ?_
      have E5 := E4.trans e5
      refine q_forNLn (xs := [x, y]) (el_call (ea_cons (ev_var rfl) ea_nil) (spL fun H6 e6 Q _ q => ⟨a, rfl, .inl ⟨s, x, y, hs, ex_t (E5.trans e6) hT, q⟩⟩))
        (fun l i σ H' => Ex H H' ∧ H' l = some (.lst [x, y]) ∧ ∃ z4 z5, σ = [some (.ref a), some (.int ((m + 1 : Nat) : Int)), some (.int ((1 : Nat) : Int)), some (.int ((0 : Nat) : Int)), z4, z5] ∧ i = 0)
        (fun l H6 _ e6 h6 => ⟨E5.trans e6, h6, _, _, rfl, rfl⟩) (fun l i σ' H' _ h => sq_of h.2.1) ?_ ?_
      · rintro l i y σ' H' hi ⟨e, hl, z4, z5, rfl, rfl⟩
        cases hi
        exact size_step (hx.mono e) (by omega) (by omega) (fun ho H6 e6 => k.1 rfl H6 (e.trans e6)) fun p q ho => nomatch ho
      · rintro l σ' H' ⟨e, hl, z4, z5, rfl, h0⟩
        cases h0
    | pair hs hT hx hp hy =>
      rename_i a s x y m p1 q1 o
      have hsM : s ∈ (["behind", "both", "either", "without", "week"] : List Str) := by rcases hs with rfl | rfl | rfl <;> simp
      have hsB : decide (s = "behind") = false := by rcases hs with rfl | rfl | rfl <;> decide +kernel
      refine q_not (gate hT) fun H1 e1 => ?_
      refine q_not (outE (ex_t e1 hT) rfl hsM) fun H2 e2 => ?_
      refine q_not (et_is (wordT (ex_t (e1.trans e2) hT) rfl) (by rw [pair_not hs]; simp)) fun H3 e3 => ?_
      have E3 := (e1.trans e2).trans e3
      refine q_not (et_and0 (et_str (ev_ixT (ev_var rfl) (ex_t E3 hT) rfl) hsB)) fun H4 e4 => ?_
      have E4 := E3.trans e4
      refine q_par (y := .int ((0 : Nat) : Int)) (ea_cons ev_c (ea_cons (ev_ifF (et_str (ev_ixT (ev_var rfl) (ex_t E4 hT) rfl) hsB) ev_c) ea_nil)) fun H5 e5 => ?_
      have E5 := E4.trans e5
      refine q_forNLn (xs := [x, y]) (el_call (ea_cons (ev_var rfl) ea_nil) (spL fun H6 e6 Q _ q => ⟨a, rfl, .inl ⟨s, x, y, hs, ex_t (E5.trans e6) hT, q⟩⟩))
        (fun l i σ H' => Ex H H' ∧ H' l = some (.lst [x, y]) ∧ ∃ p q z4 z5, σ = [some (.ref a), some (.int ((m + 1 : Nat) : Int)), some (.int ((p : Nat) : Int)), some (.int ((q : Nat) : Int)), z4, z5] ∧ ((i = 0 ∧ p = 1 ∧ q = 0) ∨ (i = 1 ∧ p = 1 + p1 ∧ q = q1) ∨ (i = 2 ∧ ∃ p2 q2, o = some (p2, q2) ∧ p = 1 + p1 + p2 ∧ q = q1 + q2)))
        (fun l H6 _ e6 h6 => ⟨E5.trans e6, h6, 1, 0, _, _, rfl, .inl ⟨rfl, rfl, rfl⟩⟩) (fun l i σ' H' _ h => sq_of h.2.1) ?_ ?_
      · rintro l i z σ' H' hi ⟨e, hl, p, q, z4, z5, rfl, hc⟩
        rcases hc with ⟨rfl, rfl, rfl⟩ | ⟨rfl, rfl, rfl⟩ | ⟨rfl, _⟩
        · cases hi
          refine size_step (hx.mono e) (by omega) (by omega) (fun ho => nomatch ho) fun p q ho H6 z e6 => ⟨e.trans e6, e6 _ _ hl, _, _, _, _, rfl, .inr (.inl ⟨rfl, ?_, ?_⟩)⟩
          · injection ho with ho; injection ho with h1 h2; omega
          · injection ho with ho; injection ho with h1 h2; omega
        · cases hi
          exact size_step (hy.mono e) (by omega) (by omega) (fun ho H6 e6 => k.1 (by rw [ho]; rfl) H6 (e.trans e6)) fun p q ho H6 z e6 => ⟨e.trans e6, e6 _ _ hl, _, _, _, _, rfl, .inr (.inr ⟨rfl, p, q, ho, rfl, rfl⟩)⟩
        · simp at hi
      · rintro l σ' H' ⟨e, hl, p, q, z4, z5, rfl, hc⟩
        rcases hc with ⟨h0, _⟩ | ⟨h0, _⟩ | ⟨_, p2, q2, ho, rfl, rfl⟩
        · cases h0
        · cases h0
        · exact s_retU (eu_tup (ea_cons (ev_var rfl) (ea_cons (ev_var rfl) ea_nil)) (by show 2 ≤ 100000; decide)) fun t H6 ht e6 h6 => k.2 _ _ (by rw [ho]; rfl) t H6 (fresh_back e ht) (e.trans e6) h6
theorem ok_size (F : Fun K "size_of" "size_of" s_size_of f fd) (T : Txt P w K mg C_BadRule C_BadRules C_BadLand C_BadDay C_BadNumber C_BadSeen C_BadText C_Feast C_Calendar C_Line C_Walk) (hm : mg "size_of" = some (.ref f)) (hb : Binds K fd ["value", "room"] []) : ∀ n : Nat, FnOk P w K mg base CX0 (n + 1) f fd ["value", "room"] (spSize K n)
  | 0 => fnok_none fun _ _ _ _ ⟨_, _, _, _, h, _⟩ => absurd h (Nat.not_lt_zero _)
  | n + 1 => size_turn F T hm hb n (ok_size F T hm hb n)
theorem dn_size (T : Txt P w K mg C_BadRule C_BadRules C_BadLand C_BadDay C_BadNumber C_BadSeen C_BadText C_Feast C_Calendar C_Line C_Walk) : Dn P w K mg base CX0 "size_of" 7 ["value", "room"] (spSize K 6) := T.f_size_of.dn fun _ _ F hm hb => ok_size F T hm hb 6
/-- is a rule: at most five parts, bys of at most four -/
def isRuleB (o : Option (Nat × Nat)) : Bool := match o with
  | some (_, q) => decide (q ≤ 4)
  | none => false
def spIsRule (K : PySem.W.Frag) : Sp := fun vs H Q _ => ∃ v o, vs = [v] ∧ SzAt K H v 5 o ∧ RetV (.bl (isRuleB o)) H Q
theorem ok_is_rule (F : Fun K "is_rule" "is_rule" s_is_rule f fd) (T : Txt P w K mg C_BadRule C_BadRules C_BadLand C_BadDay C_BadNumber C_BadSeen C_BadText C_Feast C_Calendar C_Line C_Walk) : FnOk P w K mg base CX0 8 f fd ["value"] (spIsRule K) := by
  have D_size_of : Dn P w K mg base CX0 "size_of" 7 ["value", "room"] (spSize K 6) := dn_size T
  refine F.ok sc_is_rule (fun vs H Q E h => ?_) (fun cdv A outer s H vs Q E hr h => ?_)
  · obtain ⟨_, _, rfl, _⟩ := h
    rfl
  · obtain ⟨v, o, rfl, hZ, k⟩ := h
    refine ⟨_, (pss_cons (ps_set (i := 1) sc_is_rule.nd rfl (by first | exact Or.inl rfl | exact Or.inr rfl) (pe_fn D_size_of (hr.mono (by omega)) pass0 rfl (pa_cons (pv 0) (pa_cons (pe_globE rfl T.g_MOST_PARTS) pa_nil))))
  (pss_one (ps_ret (pe_and (pe_cmpR op_notN (pv 1) pe_non (nomark _)) (pe_one (pe_cmpR op_le (pe_ix ix_tup (pv 1) pe_int (fun _ _ => rfl)) (pe_globE rfl T.g_MOST_BYS) (nomark _))))))), ?_⟩
    refine q_call (vs := [v, .int ((5 : Nat) : Int)]) (ea_cons (ev_var rfl) (ea_cons ev_c ea_nil)) fun H2 e2 => ⟨v, 5, o, rfl, by decide, hZ.mono e2, fun ho H3 e3 => ?_, fun p q ho t H3 ht e3 h3 => ?_⟩
    · subst ho
      exact s_ret (ev_and0 (ev_is (ev_op (ev_var rfl) ev_c rv_notN) rfl)) fun H4 e4 => k H4 ((e2.trans e3).trans e4)
    · subst ho
      refine s_ret (v := .bl (isRuleB (some (p, q)))) (ev_is (ev_andV (ev_is (ev_op (ev_var rfl) ev_c rv_notN) rfl) fun _ => ev_op (ev_ixT (ev_var rfl) (st_of h3) rfl) ev_c rv_I0) ?_) fun H4 e4 => k H4 ((e2.trans e3).trans e4)
      show V.bl (true && decide ((q : Int) ≤ 4)) = V.bl (decide (q ≤ 4))
      rw [Bool.true_and]
      by_cases h : q ≤ 4
      · rw [decide_eq_true h, decide_eq_true (by omega)]
      · rw [decide_eq_false h, decide_eq_false (by omega)]
theorem dn_is_rule (T : Txt P w K mg C_BadRule C_BadRules C_BadLand C_BadDay C_BadNumber C_BadSeen C_BadText C_Feast C_Calendar C_Line C_Walk) : Dn P w K mg base CX0 "is_rule" 8 ["value"] (spIsRule K) := T.f_is_rule.dn fun _ _ F _ _ => ok_is_rule F T
end
end WF

set_option Elab.async false
set_option linter.all false
set_option maxRecDepth 100000
set_option maxHeartbeats 2000000
/-! Feast's __init__ -/
namespace WF
open PySem L2 Evl
section
variable {P : Program} {w : World} {K : PySem.W.Frag} {mg : Str → Option Value} {base : Heap} {C_BadRule C_BadRules C_BadLand C_BadDay C_BadNumber C_BadSeen C_BadText C_Feast C_Calendar C_Line C_Walk : Addr} {f : Addr} {fd : FuncData}
def spFeast (K : PySem.W.Frag) (CF CR : Addr) : Sp := fun vs H Q E => ∃ (p dx : Addr) (v : V) (o : Option (Nat × Nat)), vs = [.ref p, v] ∧ H p = some (.ins CF dx []) ∧ SzAt K H v 5 o ∧
  (isRuleB o = false → ∀ H1, Ex H H1 → E (.ref CR) none H1) ∧ (∀ a q, o = some (a, q) → q ≤ 4 → ∀ H', ExB p H H' → H' p = some (.ins CF dx (feastF v q)) → Q .non H')
theorem ev_sizeAt {σ : L2.St} {H : Hp} {v : V} {ta : TA} {a q n m : Nat} (h : EvA ta σ H [v, .int (m : Int)]) (hm : m < n) (hz : SzAt K H v m (some (a, q))) : Ev (tOp (rIxT K) (tCall (spSize K n) [] E0 ta) (tC (.int 1))) σ H (.int (q : Int)) := fun H1 e Q k =>
  h H1 e _ fun H2 e2 => ⟨v, m, some (a, q), rfl, hm, hz.mono (e.trans e2), ⟨fun ho => (by cases ho), fun a' q' ho t H3 ht e3 h3 => by
    cases ho
    exact ⟨t, _, 1, .int (q : Int), rfl, rfl, st_of h3, rfl, k H3 (e2.trans e3)⟩⟩⟩
theorem ok_feast (F : Fun K "__init__" "Feast.__init__" s_Feast_init f fd) (T : Txt P w K mg C_BadRule C_BadRules C_BadLand C_BadDay C_BadNumber C_BadSeen C_BadText C_Feast C_Calendar C_Line C_Walk) (CF : Cls1 K C_Feast ["told", "bys"]) : FnOk P w K mg base (L2.CX P w) 9 f fd ["self", "rule"] (spFeast K C_Feast C_BadRule) := by
  have D_size_of : Dn P w K mg base CX0 "size_of" 7 ["value", "room"] (spSize K 6) := dn_size T
  have D_is_rule : Dn P w K mg base CX0 "is_rule" 8 ["value"] (spIsRule K) := dn_is_rule T
  refine F.okX sc_Feast_init (fun vs H Q E h => ?_) (fun cdv A outer s H vs Q E hr h => ?_)
  · obtain ⟨_, _, _, _, rfl, _⟩ := h
    rfl
  · obtain ⟨p, dx, v, o, rfl, hp, hZ, kE, kG⟩ := h
    refine ⟨_, (pss_cons (ps_if (pt_not (pt_val (pe_fn D_is_rule (hr.mono (by omega)) pass0 rfl (pa_cons (pv 1) pa_nil)))) (pss_one (ps_raise0 rfl (takes_of rfl rfl rfl rfl) T.e_BadRule T.c_BadRule rfl))
  pss_nil)
  (pss_cons (ps_fld (pv 0) (pv 1) rfl)
  (pss_one (ps_fld (pv 0) (pe_ix ix_tup (pe_fn D_size_of (hr.mono (by omega)) pass0 rfl (pa_cons (pv 1) (pa_cons (pe_globE rfl T.g_MOST_PARTS) pa_nil))) pe_int (fun _ _ => rfl)) rfl)))), ?_⟩
    have hev : EvT (tNot (tB (tCall (spIsRule K) [] E0 (tCons (tVar 1) tNil)))) (start ["self", "rule"] [.ref p, v]) H (!isRuleB o) := et_not (et_B (ev_call (ea_cons (ev_var rfl) ea_nil) (spV (z := .bl (isRuleB o)) fun H1 e Q _ q => ⟨v, o, rfl, hZ.mono e, q⟩)))
    cases hb : isRuleB o with
    | false =>
      rw [hb] at hev
      exact q_yes hev fun H1 e1 => kE hb H1 e1
    | true =>
      rw [hb] at hev
      refine q_not hev fun H1 e1 => ?_
      obtain ⟨a, q, rfl, hq⟩ : ∃ a q, o = some (a, q) ∧ q ≤ 4 := by
        cases o with
        | none => cases hb
        | some z => exact ⟨z.1, z.2, rfl, of_decide_eq_true hb⟩
      refine q_fld (ev_var rfl) (ev_var rfl) (e1 _ _ hp) CF.cl (CF.no _ (by simp)) (by show 0 < 1000; decide) fun H2 e2 => ?_
      have hZ2 : SzAt K (upd H2 p (.ins C_Feast dx (putF "told" v []))) v 5 (some (a, q)) := sz_upd ((e1.trans e2) _ _ hp) (hZ.mono (e1.trans e2))
      refine s_fld (y := .int (q : Int)) (ev_sizeAt (m := 5) (ea_cons (ev_var rfl) (ea_cons ev_c ea_nil)) (by decide) hZ2) (ev_var rfl) upd_same CF.cl (CF.no _ (by simp)) (by show 1 < 1000; decide) fun H3 e3 => ?_
      exact kG a q rfl hq _ (((ExB.of (e1.trans e2)).upd.step e3).upd) upd_same
theorem mn_feast (T : Txt P w K mg C_BadRule C_BadRules C_BadLand C_BadDay C_BadNumber C_BadSeen C_BadText C_Feast C_Calendar C_Line C_Walk) (CF : Cls1 K C_Feast ["told", "bys"]) : Mn P w K mg base (L2.CX P w) C_Feast 9 ["self", "rule"] (spFeast K C_Feast C_BadRule) := T.m_Feast_init.mn fun _ _ F => ok_feast F T CF
/-- Feast(rule), of a rule that may be one -/
theorem er_feast {CF CR : Addr} {σ : L2.St} {H : Hp} {v : V} {r : Rl} {ta : TA} {E : XK} (h : EvA ta σ H [v]) (hr : RlAt K H v r) (hf : r.fit = true) (hp : r.parts ≤ 5) (hb : r.bys ≤ 4) : EvR (tMake CF (spFeast K CF CR) [] E ta) σ H fun p H2 => FeastAt K CF H2 p r :=
  er_make h fun H1 e1 x dx hx hdx hne Q k => by
    have e2 : Ex H1 (upd (upd H1 dx (.own x)) x (.ins CF dx [])) := ex_made hx hdx
    have hz := sz_of (hr.mono (e1.trans e2)) hf 5
    rw [szOf, if_pos hp] at hz
    refine ⟨x, dx, v, _, rfl, upd_same, hz, fun hn => ?_, fun a q ho hq H' eb h' => ?_⟩
    · have : isRuleB (some (r.parts, r.bys)) = true := decide_eq_true hb
      rw [this] at hn
      cases hn
    · cases ho
      have ee : Ex H1 H' := eb.old e2 hx
      exact k H' ee ⟨dx, v, h', hr.mono (e1.trans ee)⟩
end
end WF

set_option Elab.async false
set_option linter.all false
set_option maxRecDepth 100000
set_option maxHeartbeats 2000000
/-! Feast's rule, == and operators -/
namespace WF
open PySem L2 Evl
theorem isRuleB_sz (r : Rl) : isRuleB (szOf r 5) = okRl r := by
  unfold szOf okRl
  by_cases h : r.parts ≤ 5
  · rw [if_pos h]
    show decide (r.bys ≤ 4) = _
    rw [decide_eq_decide]
    exact ⟨fun x => ⟨h, x⟩, fun x => x.2⟩
  · rw [if_neg h]
    show false = _
    rw [eq_comm, decide_eq_false_iff_not]
    exact fun x => h x.1
section
variable {P : Program} {w : World} {K : PySem.W.Frag} {mg : Str → Option Value} {base : Heap} {C_BadRule C_BadRules C_BadLand C_BadDay C_BadNumber C_BadSeen C_BadText C_Feast C_Calendar C_Line C_Walk : Addr} {f : Addr} {fd : FuncData}
def spOp (K : PySem.W.Frag) (CF CR : Addr) (mk : Rl → Rl → Rl) : Sp := fun vs H Q E => ∃ (a b : Addr) (r s : Rl), vs = [.ref a, .ref b] ∧ FeastAt K CF H a r ∧ FeastAt K CF H b s ∧ r.fit = true ∧ s.fit = true ∧
  (okRl (mk r s) = false → ∀ H1, Ex H H1 → E (.ref CR) none H1) ∧ (okRl (mk r s) = true → ∀ p H2, H p = none → Ex H H2 → FeastAt K CF H2 p (mk r s) → Q (.ref p) H2)
/-- Feast(a new rule), made or refused -/
theorem mk_feast {CF CR : Addr} {σ : L2.St} {H : Hp} {tu : TE} {us : List V} {E : XK} {Q : VK} {r : Rl} (h : EvU tu σ H us) (hr : ∀ t H1, Ex H H1 → H1 t = some (.tup us) → RlAt K H1 (.ref t) r) (hf : r.fit = true)
    (kE : okRl r = false → ∀ H1, Ex H H1 → E (.ref CR) none H1) (kG : okRl r = true → ∀ p H2, H p = none → Ex H H2 → FeastAt K CF H2 p r → Q (.ref p) H2) : tMake CF (spFeast K CF CR) [] E (tCons tu tNil) σ H Q :=
  h H (Ex.refl H) _ fun t H1 ht e1 h1 x dx hx hdx hne => by
    have e2 : Ex H1 (upd (upd H1 dx (.own x)) x (.ins CF dx [])) := ex_made hx hdx
    have hR := hr t H1 e1 h1
    refine ⟨x, dx, .ref t, _, rfl, upd_same, sz_of (hR.mono e2) hf 5, fun hn H2 e3 => kE (by rw [← isRuleB_sz]; exact hn) H2 ((e1.trans e2).trans e3), fun a q ho hq H' eb h' => ⟨rfl, ?_⟩⟩
    have ee : Ex H1 H' := eb.old e2 hx
    have hok : okRl r = true := by
      rw [← isRuleB_sz, ho]
      exact decide_eq_true hq
    have hq' : q = r.bys := by
      unfold szOf at ho
      by_cases h : r.parts ≤ 5
      · rw [if_pos h] at ho
        cases ho
        rfl
      · rw [if_neg h] at ho
        cases ho
    subst hq'
    exact kG hok x H' (fresh_back e1 hx) (e1.trans ee) ⟨dx, .ref t, h', hR.mono ee⟩
theorem mk_feastNo {CF CR : Addr} {σ : L2.St} {H : Hp} {tu : TE} {us : List V} {E : XK} {Q : VK} {o : Option (Nat × Nat)} (h : EvU tu σ H us) (hz : ∀ t H1, Ex H H1 → H1 t = some (.tup us) → SzAt K H1 (.ref t) 5 o) (ho : isRuleB o = false)
    (kE : ∀ H1, Ex H H1 → E (.ref CR) none H1) : tMake CF (spFeast K CF CR) [] E (tCons tu tNil) σ H Q :=
  h H (Ex.refl H) _ fun t H1 ht e1 h1 x dx hx hdx hne => by
    have e2 : Ex H1 (upd (upd H1 dx (.own x)) x (.ins CF dx [])) := ex_made hx hdx
    refine ⟨x, dx, .ref t, o, rfl, upd_same, (hz t H1 e1 h1).mono e2, fun _ H2 e3 => kE H2 ((e1.trans e2).trans e3), fun a q hq hq4 _ _ _ => ?_⟩
    subst hq
    rw [show isRuleB (some (a, q)) = decide (q ≤ 4) from rfl, decide_eq_true hq4] at ho
    cases ho
theorem mt_and (T : Txt P w K mg C_BadRule C_BadRules C_BadLand C_BadDay C_BadNumber C_BadSeen C_BadText C_Feast C_Calendar C_Line C_Walk) (CF : Cls1 K C_Feast ["told", "bys"]) : Mtn P w K mg base (L2.CX P w) C_Feast "__and__" 11 ["self", "other"] (spOp K C_Feast C_BadRule .bo) := T.m_Feast_and.mtn fun g fd F => by
  have M_Feast : Mn P w K mg base (L2.CX P w) C_Feast 9 ["self", "rule"] (spFeast K C_Feast C_BadRule) := mn_feast T CF
  refine F.okX sc_Feast_and (fun vs H Q E h => ?_) (fun cdv A outer s H vs Q E hr h => ?_)
  · obtain ⟨_, _, _, _, rfl, _⟩ := h
    rfl
  · obtain ⟨a, b, r, s, rfl, ⟨dx, v, ho, hv⟩, ⟨dy, u, ho2, hu⟩, f1, f2, kE, kG⟩ := h
    refine ⟨_, (pss_one (ps_ret (pe_mk M_Feast (hr.mono (by omega)) T.c_Feast (passes_call (takes_of rfl rfl rfl rfl) (fun _ _ _ _ h => h)) rfl (pa_cons (pe_tup (pa_cons pe_str (pa_cons (pe_fld (pv 0) rfl) (pa_cons (pe_fld (pv 1) rfl) pa_nil)))) pa_nil)))), ?_⟩
    exact s_retX (mk_feast (r := .bo r s) (eu_tup (ea_cons ev_c (ea_cons (ev_fld (ev_var rfl) ho CF.cl (CF.no _ (by simp)) rfl) (ea_cons (ev_fld (ev_var rfl) ho2 CF.cl (CF.no _ (by simp)) rfl) ea_nil))) (by show 3 ≤ 100000; decide)) (fun t H1 e1 h1 => .bo (st_of h1) (hv.mono e1) (hu.mono e1)) (by simp only [Rl.fit, f1, f2]; rfl) kE kG)
theorem mt_or (T : Txt P w K mg C_BadRule C_BadRules C_BadLand C_BadDay C_BadNumber C_BadSeen C_BadText C_Feast C_Calendar C_Line C_Walk) (CF : Cls1 K C_Feast ["told", "bys"]) : Mtn P w K mg base (L2.CX P w) C_Feast "__or__" 11 ["self", "other"] (spOp K C_Feast C_BadRule .ei) := T.m_Feast_or.mtn fun g fd F => by
  have M_Feast : Mn P w K mg base (L2.CX P w) C_Feast 9 ["self", "rule"] (spFeast K C_Feast C_BadRule) := mn_feast T CF
  refine F.okX sc_Feast_or (fun vs H Q E h => ?_) (fun cdv A outer s H vs Q E hr h => ?_)
  · obtain ⟨_, _, _, _, rfl, _⟩ := h
    rfl
  · obtain ⟨a, b, r, s, rfl, ⟨dx, v, ho, hv⟩, ⟨dy, u, ho2, hu⟩, f1, f2, kE, kG⟩ := h
    refine ⟨_, (pss_one (ps_ret (pe_mk M_Feast (hr.mono (by omega)) T.c_Feast (passes_call (takes_of rfl rfl rfl rfl) (fun _ _ _ _ h => h)) rfl (pa_cons (pe_tup (pa_cons pe_str (pa_cons (pe_fld (pv 0) rfl) (pa_cons (pe_fld (pv 1) rfl) pa_nil)))) pa_nil)))), ?_⟩
    exact s_retX (mk_feast (r := .ei r s) (eu_tup (ea_cons ev_c (ea_cons (ev_fld (ev_var rfl) ho CF.cl (CF.no _ (by simp)) rfl) (ea_cons (ev_fld (ev_var rfl) ho2 CF.cl (CF.no _ (by simp)) rfl) ea_nil))) (by show 3 ≤ 100000; decide)) (fun t H1 e1 h1 => .ei (st_of h1) (hv.mono e1) (hu.mono e1)) (by simp only [Rl.fit, f1, f2]; rfl) kE kG)
theorem mt_sub (T : Txt P w K mg C_BadRule C_BadRules C_BadLand C_BadDay C_BadNumber C_BadSeen C_BadText C_Feast C_Calendar C_Line C_Walk) (CF : Cls1 K C_Feast ["told", "bys"]) : Mtn P w K mg base (L2.CX P w) C_Feast "__sub__" 11 ["self", "other"] (spOp K C_Feast C_BadRule .wo) := T.m_Feast_sub.mtn fun g fd F => by
  have M_Feast : Mn P w K mg base (L2.CX P w) C_Feast 9 ["self", "rule"] (spFeast K C_Feast C_BadRule) := mn_feast T CF
  refine F.okX sc_Feast_sub (fun vs H Q E h => ?_) (fun cdv A outer s H vs Q E hr h => ?_)
  · obtain ⟨_, _, _, _, rfl, _⟩ := h
    rfl
  · obtain ⟨a, b, r, s, rfl, ⟨dx, v, ho, hv⟩, ⟨dy, u, ho2, hu⟩, f1, f2, kE, kG⟩ := h
    refine ⟨_, (pss_one (ps_ret (pe_mk M_Feast (hr.mono (by omega)) T.c_Feast (passes_call (takes_of rfl rfl rfl rfl) (fun _ _ _ _ h => h)) rfl (pa_cons (pe_tup (pa_cons pe_str (pa_cons (pe_fld (pv 0) rfl) (pa_cons (pe_fld (pv 1) rfl) pa_nil)))) pa_nil)))), ?_⟩
    exact s_retX (mk_feast (r := .wo r s) (eu_tup (ea_cons ev_c (ea_cons (ev_fld (ev_var rfl) ho CF.cl (CF.no _ (by simp)) rfl) (ea_cons (ev_fld (ev_var rfl) ho2 CF.cl (CF.no _ (by simp)) rfl) ea_nil))) (by show 3 ≤ 100000; decide)) (fun t H1 e1 h1 => .wo (st_of h1) (hv.mono e1) (hu.mono e1)) (by simp only [Rl.fit, f1, f2]; rfl) kE kG)
def spMoved (K : PySem.W.Frag) (CF CR : Addr) : Sp := fun vs H Q E => ∃ (a : Addr) (b : V) (r : Rl) (o : Option Int), vs = [.ref a, b] ∧ FeastAt K CF H a r ∧ r.fit = true ∧ NumV K H b o ∧
  ((∀ z, o = some z → byOk z = true → okRl (.bh r z) = false) → ∀ H1, Ex H H1 → E (.ref CR) none H1) ∧ (∀ z, o = some z → byOk z = true → okRl (.bh r z) = true → ∀ p H2, H p = none → Ex H H2 → FeastAt K CF H2 p (.bh r z) → Q (.ref p) H2)
theorem mt_moved (T : Txt P w K mg C_BadRule C_BadRules C_BadLand C_BadDay C_BadNumber C_BadSeen C_BadText C_Feast C_Calendar C_Line C_Walk) (CF : Cls1 K C_Feast ["told", "bys"]) : Mtn P w K mg base (L2.CX P w) C_Feast "moved" 11 ["self", "by"] (spMoved K C_Feast C_BadRule) := T.m_Feast_moved.mtn fun g fd F => by
  have M_Feast : Mn P w K mg base (L2.CX P w) C_Feast 9 ["self", "rule"] (spFeast K C_Feast C_BadRule) := mn_feast T CF
  refine F.okX sc_Feast_moved (fun vs H Q E h => ?_) (fun cdv A outer s H vs Q E hr h => ?_)
  · obtain ⟨_, _, _, _, rfl, _⟩ := h
    rfl
  · obtain ⟨a, b, r, o, rfl, ⟨dx, v, ho, hv⟩, f1, hN, kE, kG⟩ := h
    refine ⟨_, (pss_one (ps_ret (pe_mk M_Feast (hr.mono (by omega)) T.c_Feast (passes_call (takes_of rfl rfl rfl rfl) (fun _ _ _ _ h => h)) rfl (pa_cons (pe_tup (pa_cons pe_str (pa_cons (pe_fld (pv 0) rfl) (pa_cons (pv 1) pa_nil)))) pa_nil)))), ?_⟩
    have hu : EvU (tTup (tCons (tC (.str "behind")) (tCons (tFld K (tVar 0) "told") (tCons (tVar 1) tNil)))) (start ["self", "by"] [.ref a, b]) H [.str "behind", v, b] := eu_tup (ea_cons ev_c (ea_cons (ev_fld (ev_var rfl) ho CF.cl (CF.no _ (by simp)) rfl) (ea_cons (ev_var rfl) ea_nil))) (by show 3 ≤ 100000; decide)
    by_cases hz : ∃ z, o = some z ∧ byOk z = true
    · obtain ⟨z, rfl, hb⟩ := hz
      cases hN with
      | int z =>
        exact s_retX (mk_feast (r := .bh r z) hu (fun t H1 e1 h1 => .bh (st_of h1) (hv.mono e1)) (by simp only [Rl.fit, f1]; rw [show decide (z = -2 ∨ z = -1 ∨ z = 1 ∨ z = 2) = true from hb]; rfl) (fun hn => kE fun z' hz' _ => by cases hz'; exact hn) (kG z rfl hb))
    · have hno : ∀ z, o = some z → byOk z = false := fun z hz' => by
        cases hb : byOk z with
        | false => rfl
        | true => exact (hz ⟨z, hz', hb⟩).elim
      exact s_retX (mk_feastNo (o := none) hu (fun t H1 e1 h1 => .byBad (st_of h1) (hN.mono e1) hno) rfl (kE fun z hz' hb => by rw [hno z hz'] at hb; cases hb))
end
end WF

set_option Elab.async false
set_option linter.all false
set_option maxRecDepth 100000
set_option maxHeartbeats 2000000
/-! is_pair and Calendar's __init__, of right rows -/
namespace WF
open PySem L2 Evl
section
variable {P : Program} {w : World} {K : PySem.W.Frag} {mg : Str → Option Value} {base : Heap} {C_BadRule C_BadRules C_BadLand C_BadDay C_BadNumber C_BadSeen C_BadText C_Feast C_Calendar C_Line C_Walk : Addr} {f : Addr} {fd : FuncData}
theorem kit_bb {K : PySem.W.Frag} : PySem.W.kitOne K (.type "bool") (.type "bool") = some true := kit_ty (by decide +kernel)
def spIsPair (K : PySem.W.Frag) (CF : Addr) : Sp := fun vs H Q _ => ∃ v r, vs = [v] ∧ RowAt K CF H v r ∧ RetV (.bl true) H Q
theorem ok_is_pair (F : Fun K "is_pair" "is_pair" s_is_pair f fd) (T : Txt P w K mg C_BadRule C_BadRules C_BadLand C_BadDay C_BadNumber C_BadSeen C_BadText C_Feast C_Calendar C_Line C_Walk) (IF : ClsI K C_Feast) : FnOk P w K mg base CX0 1 f fd ["value"] (spIsPair K C_Feast) := by
  refine F.ok sc_is_pair (fun vs H Q E h => ?_) (fun cdv A outer s H vs Q E hr h => ?_)
  · obtain ⟨_, _, rfl, _⟩ := h
    rfl
  · obtain ⟨v, r, rfl, ⟨p, q, rfl, hT, dx, tv, hq, _⟩, k⟩ := h
    refine ⟨_, (pss_cons (ps_if (PW.pt (pw_or (pt_not (pt_val (pe_callB call_isi (by rfl) T.isinstance (by decide +kernel) (pa_cons (pv 0) (pa_cons (pe_bltn (v := .ty "tuple") (by rfl) T.tuple (by decide +kernel) rfl) pa_nil))))) (pw_or1 (pt_cmpR op_ne (pe_callB call_len_seq (by rfl) T.len (by decide +kernel) (pa_cons (pv 0) pa_nil)) pe_int (nomark _))))) (pss_one (ps_ret pe_bl))
  pss_nil)
  (pss_one (ps_ret (pe_and (pe_callB call_isi (by rfl) T.isinstance (by decide +kernel) (pa_cons (pe_ix ix_tup (pv 0) pe_int (fun _ _ => rfl)) (pa_cons (pe_glob (v := .ref C_Feast) rfl T.c_Feast rfl) pa_nil))) (pe_one (pe_callB call_isi (by rfl) T.isinstance (by decide +kernel) (pa_cons (pe_ix ix_tup (pv 0) pe_int (fun _ _ => rfl)) (pa_cons (pe_bltn (v := .ty "bool") (by rfl) T.bool (by decide +kernel) rfl) pa_nil)))))))), ?_⟩
    refine q_not (et_is (et_or (et_not (et_B (ev_isi (ev_var rfl) (ty_tup hT) kit_tt))) fun _ => et_cmp (ev_lenT (ev_var rfl) hT) ev_c (rv_ne rfl)) rfl) fun H1 e1 => ?_
    exact s_ret (ev_is (ev_andV (ev_isiC (ev_ixT (ev_var rfl) (ex_t e1 hT) rfl) (IF.ty (e1 _ _ hq)) kit_self) fun _ => ev_isi (ev_ixT (ev_var rfl) (ex_t e1 hT) rfl) (ty_bl _) kit_bb) rfl) fun H2 e2 => k H2 (e1.trans e2)
theorem dn_is_pair (T : Txt P w K mg C_BadRule C_BadRules C_BadLand C_BadDay C_BadNumber C_BadSeen C_BadText C_Feast C_Calendar C_Line C_Walk) (IF : ClsI K C_Feast) : Dn P w K mg base CX0 "is_pair" 1 ["value"] (spIsPair K C_Feast) := T.f_is_pair.dn fun _ _ F _ _ => ok_is_pair F T IF
theorem rows_eq (d : Rl × Bool) : ∀ rows : Rows, (List.range rows.length).map (fun i => rows.getD i d) = rows
  | [] => rfl
  | r :: rows => by
    rw [List.length_cons, List.range_succ_eq_map, List.map_cons, List.map_map]
    exact congrArg (List.cons r) (rows_eq d rows)
/-- the rows' feasts, by their place -/
theorem RowsL.fn {CF : Addr} {H : Hp} {xs : List V} {rows : Rows} (h : RowsL K CF H xs rows) (d : Rl × Bool) : ∃ q : Nat → Addr, ∀ i x, xs[i]? = some x → ∃ p, x = .ref p ∧ SqT K H p [.ref (q i), .bl (rows.getD i d).2] ∧ FeastAt K CF H (q i) (rows.getD i d).1 := by
  have : ∀ i, ∃ q : Addr, ∀ x, xs[i]? = some x → ∃ p, x = .ref p ∧ SqT K H p [.ref q, .bl (rows.getD i d).2] ∧ FeastAt K CF H q (rows.getD i d).1 := fun i => by
    cases e : xs[i]? with
    | none => exact ⟨0, fun x hx => nomatch hx⟩
    | some y =>
      obtain ⟨r, hr, p, q, h0, h1, h2⟩ := h.get e
      refine ⟨q, fun x hx => ?_⟩
      cases hx
      have : rows.getD i d = r := by rw [List.getD_eq_getElem?_getD, hr]; rfl
      rw [this]
      exact ⟨p, h0, h1, h2⟩
  exact Classical.axiomOfChoice this
def spCal (K : PySem.W.Frag) (CF CC : Addr) : Sp := fun vs H Q E => ∃ (p dx : Addr) (v : V) (rows : Rows), vs = [.ref p, v] ∧ H p = some (.ins CC dx []) ∧ RowsAt K CF H v rows ∧ rows.length ≤ 3 ∧ rowsBys rows ≤ 4 ∧
  (∀ H', ExB p H H' → H' p = some (.ins CC dx (calF v (reachOf rows))) → Q .non H')
theorem ok_cal (F : Fun K "__init__" "Calendar.__init__" s_Calendar_init f fd) (T : Txt P w K mg C_BadRule C_BadRules C_BadLand C_BadDay C_BadNumber C_BadSeen C_BadText C_Feast C_Calendar C_Line C_Walk) (CF : Cls1 K C_Feast ["told", "bys"]) (IF : ClsI K C_Feast) (CC : Cls1 K C_Calendar ["rows", "near"]) : FnOk P w K mg base CX0 2 f fd ["self", "rules"] (spCal K C_Feast C_Calendar) := by
  have D_is_pair : Dn P w K mg base CX0 "is_pair" 1 ["value"] (spIsPair K C_Feast) := dn_is_pair T IF
  refine F.ok sc_Calendar_init (fun vs H Q E h => ?_) (fun cdv A outer s H vs Q E hr h => ?_)
  · obtain ⟨_, _, _, _, rfl, _⟩ := h
    rfl
  · obtain ⟨p, dx, v, rows, rfl, hp, ⟨a, xs, rfl, hX, hRs⟩, hlen, hbys, k⟩ := h
    obtain ⟨qf, hqf⟩ := hRs.fn (.wk 0, false)
    have hxl := hRs.len
    refine ⟨_, (pss_cons (ps_if (PW.pt (pw_or (pt_not (pt_val (pe_callB call_isi (by rfl) T.isinstance (by decide +kernel) (pa_cons (pv 1) (pa_cons (pe_bltn (v := .ty "tuple") (by rfl) T.tuple (by decide +kernel) rfl) pa_nil))))) (pw_or1 (pt_cmpR op_gt (pe_callB call_len_seq (by rfl) T.len (by decide +kernel) (pa_cons (pv 1) pa_nil)) (pe_globE rfl T.g_MOST_RULES) (nomark _))))) (pss_one ps_never)
  pss_nil)
  (pss_cons (ps_for PassesOwn.never rfl (pi_enumT (by rfl) T.enumerate (pa_cons (pv 1) pa_nil)) (pg_tup rfl (pgs_cons (pg_name (i := 2) sc_Calendar_init.nd rfl (by first | exact Or.inl rfl | exact Or.inr rfl)) (pgs_cons (pg_name (i := 3) sc_Calendar_init.nd rfl (by first | exact Or.inl rfl | exact Or.inr rfl)) pgs_nil)))
  (pss_one (ps_if (pt_not (pt_val (pe_fn D_is_pair (hr.mono (by omega)) pass0 rfl (pa_cons (pv 3) pa_nil)))) (pss_one ps_never)
  pss_nil)))
  (pss_cons (ps_set (i := 4) sc_Calendar_init.nd rfl (by first | exact Or.inl rfl | exact Or.inr rfl) (pe_callB (cr_sum rfl) (by rfl) T.sum (by decide +kernel) (pa_cons (pe_lc (own := [("feast", 5), ("yields", 6)]) (tt := tYes) rfl sc_Calendar_init.nd (pi_tup (pv 1)) (blkOk_by (own := [("feast", 5), ("yields", 6)]) (N := ["self", "rules", "index", "rule", "bys", "feast", "yields"]) (sc := defScope s_Calendar_init) (by decide +kernel)) (fun _ _ _ _ _ => (pg_tupK (K := K) (n := 2) rfl (pgs_cons (pg_name (i := 5) sc_Calendar_init.nd rfl (by first | exact Or.inl rfl | exact Or.inr rfl)) (pgs_cons (pg_name (i := 6) sc_Calendar_init.nd rfl (by first | exact Or.inl rfl | exact Or.inr rfl)) pgs_nil)))) (fun _ _ _ _ _ => pts_nil) (fun _ _ _ _ _ => (pe_fldK (K := K) (pv 5) rfl))) pa_nil)))
  (pss_cons (ps_if (pt_cmpR op_gt (pv 4) (pe_globE rfl T.g_MOST_BYS) (nomark _)) (pss_one ps_never)
  pss_nil)
  (pss_cons (ps_fld (pv 0) (pv 1) rfl)
  (pss_one (ps_fld (pv 0) (pe_op op_add (pe_op op_add (pe_globE rfl T.g_LEAST_REACH) (pv 4)) (pe_callB call_len_seq (by rfl) T.len (by decide +kernel) (pa_cons (pe_lc (own := [("feast", 5), ("yields", 6)]) rfl sc_Calendar_init.nd (pi_tup (pv 1)) (blkOk_by (own := [("feast", 5), ("yields", 6)]) (N := ["self", "rules", "index", "rule", "bys", "feast", "yields"]) (sc := defScope s_Calendar_init) (by decide +kernel)) (fun _ _ _ _ _ => (pg_tupK (K := K) (n := 2) rfl (pgs_cons (pg_name (i := 5) sc_Calendar_init.nd rfl (by first | exact Or.inl rfl | exact Or.inr rfl)) (pgs_cons (pg_name (i := 6) sc_Calendar_init.nd rfl (by first | exact Or.inl rfl | exact Or.inr rfl)) pgs_nil)))) (fun _ _ _ _ _ => (pts_one (pt_val (pv 6)))) (fun _ _ _ _ _ => (pv 5))) pa_nil))) rfl))))))), ?_⟩
    refine q_not (et_is (et_or (et_not (et_B (ev_isi (ev_var rfl) (ty_tup hX) kit_tt))) fun _ => et_cmp (ev_lenT (ev_var rfl) hX) ev_c rv_I0) ?_) fun H1 e1 => ?_
    · show (false || decide ((3 : Int) < ((xs.length : Nat) : Int))) = false
      rw [decide_eq_false (by omega)]
      rfl
    refine q_forEnT (ev_var rfl) (ex_t e1 hX) (fun i σ H' => Ex H H' ∧ ∃ a2 a3, σ = [some (.ref p), some (.ref a), a2, a3, none, none, none]) (fun H2 e2 => ⟨e1.trans e2, _, _, rfl⟩) (fun i σ' H' _ h => ex_t h.1 hX) ?_ ?_
    · rintro i x σ' H' H2 hi ⟨e, a2, a3, rfl⟩ e2
      obtain ⟨r, hr', hrow⟩ := hRs.get hi
      refine s_no (et_is (et_not (et_B (ev_call (ea_cons (ev_var rfl) ea_nil) (spV (z := .bl true) fun H3 e3 Q _ q => ⟨x, r, rfl, hrow.mono ((e.trans e2).trans e3), q⟩)))) rfl) fun H3 e3 => ⟨(e.trans e2).trans e3, _, _, rfl⟩
    rintro σ' H' ⟨e, a2, a3, rfl⟩
    have hsum : (((List.range xs.length).map fun i => (((rows.getD i (.wk 0, false)).1.bys : Nat) : Int)).sum) = ((rowsBys rows : Nat) : Int) := by
      rw [cast_sumR, hxl]
      have := rows_eq (.wk 0, false) rows
      unfold rowsBys
      conv => rhs; rw [← this]
      rw [List.map_map]
      rfl
    refine q_asg (v := .int ((rowsBys rows : Nat) : Int)) (ev_is (ev_sumR (n := xs.length) (fun i => (((rows.getD i (.wk 0, false)).1.bys : Nat) : Int)) (el_is (el_tup2 (fun i => .ref (qf i)) (fun i => .bl (rows.getD i (.wk 0, false)).2) (fun _ => true) _ (ev_var rfl) (ex_t e hX) (by omega) (fun _ _ => rfl) (fun i x hi => ?_) (fun _ _ _ _ => et_yes) (fun i H2 e2 hi _ => ?_)) (given_allL xs _))) (by rw [hsum])) fun H2 e2 => ?_
    · obtain ⟨p', h0, h1, _⟩ := hqf i x hi
      exact ⟨p', h0, ex_t e h1⟩
    · obtain ⟨x, hx⟩ : ∃ x, xs[i]? = some x := ⟨xs[i], by simp [hi]⟩
      obtain ⟨p', h0, h1, dx', tv, hq', _⟩ := hqf i x hx
      exact ev_fld (ev_var rfl) ((e.trans e2) _ _ hq') CF.cl (CF.no _ (by simp)) (feastF_bys _ _)
    refine q_not (et_is (et_cmp (ev_var rfl) ev_c rv_I0) (decide_eq_false (by omega))) fun H3 e3 => ?_
    have E3 := (e.trans e2).trans e3
    refine q_fld (ev_var rfl) (ev_var rfl) (E3 _ _ hp) CC.cl (CC.no _ (by simp)) (by show 0 < 1000; decide) fun H4 e4 => ?_
    have E4 := E3.trans e4
    have hp4 := E4 _ _ hp
    refine s_fld (y := .int ((reachOf rows : Nat) : Int)) (ev_is (ev_op (ev_op ev_c (ev_var rfl) rv_I0) (ev_lenN (el_tup2 (fun i => .ref (qf i)) (fun i => .bl (rows.getD i (.wk 0, false)).2) (fun i => (rows.getD i (.wk 0, false)).2) (fun i => .ref (qf i)) (ev_var rfl) (sqt_upd hp4 (ex_t E4 hX)) (by omega) (fun _ _ => rfl) (fun i x hi => ?_) (fun i H5 e5 hi => et_B (ev_var rfl)) (fun i H5 e5 hi _ => ev_var rfl))) rv_I0) ?_) (ev_var rfl) upd_same CC.cl (CC.no _ (by simp)) (by show 1 < 1000; decide) fun H5 e5 => k _ (((ExB.of E4).upd.step e5).upd) upd_same
    · obtain ⟨p', h0, h1, _⟩ := hqf i x hi
      exact ⟨p', h0, sqt_upd hp4 (ex_t E4 h1)⟩
    · have hl : (given xs.length (fun i => (rows.getD i (.wk 0, false)).2) (fun i => V.ref (qf i))).length = (rows.filter fun r => r.2).length := by
        unfold given
        rw [List.length_map, hxl]
        have := rows_eq (.wk 0, false) rows
        conv => rhs; rw [← this]
        rw [List.filter_map, List.length_map]
        rfl
      rw [hl]
      show V.int (3 + ((rowsBys rows : Nat) : Int) + _) = _
      unfold reachOf
      rw [Int.natCast_add, Int.natCast_add]
      rfl
theorem mn_cal (T : Txt P w K mg C_BadRule C_BadRules C_BadLand C_BadDay C_BadNumber C_BadSeen C_BadText C_Feast C_Calendar C_Line C_Walk) (CF : Cls1 K C_Feast ["told", "bys"]) (IF : ClsI K C_Feast) (CC : Cls1 K C_Calendar ["rows", "near"]) : Mn P w K mg base CX0 C_Calendar 2 ["self", "rules"] (spCal K C_Feast C_Calendar) := T.m_Calendar_init.mn fun _ _ F => ok_cal F T CF IF CC
/-- Calendar(rules) -/
theorem er_cal {CF CC : Addr} {σ : L2.St} {H : Hp} {v : V} {rows : Rows} {ta : TA} {E : XK} (h : EvA ta σ H [v]) (hr : RowsAt K CF H v rows) (hl : rows.length ≤ 3) (hb : rowsBys rows ≤ 4) : EvR (tMake CC (spCal K CF CC) [] E ta) σ H fun p H2 => CalAt K CF CC H2 (.ref p) rows :=
  er_make h fun H1 e1 x dx hx hdx hne Q k => by
    have e2 : Ex H1 (upd (upd H1 dx (.own x)) x (.ins CC dx [])) := ex_made hx hdx
    refine ⟨x, dx, v, rows, rfl, upd_same, hr.mono (e1.trans e2), hl, hb, fun H' eb h' => ?_⟩
    have ee : Ex H1 H' := eb.old e2 hx
    exact k H' ee ⟨x, dx, v, rfl, h', hr.mono (e1.trans ee)⟩
end
end WF

set_option Elab.async false
set_option linter.all false
set_option maxRecDepth 100000
set_option maxHeartbeats 2000000
/-! figure_of -/
namespace WF
open PySem L2 Evl
section
variable {P : Program} {w : World} {K : PySem.W.Frag} {mg : Str → Option Value} {base : Heap} {C_BadRule C_BadRules C_BadLand C_BadDay C_BadNumber C_BadSeen C_BadText C_Feast C_Calendar C_Line C_Walk : Addr} {f : Addr} {fd : FuncData}
def spFig (K : PySem.W.Frag) (n : Nat) : Sp := fun vs H Q _ => ∃ (v : V) (l : Addr) (r : Rl) (w m : Nat), vs = [v, .ref l] ∧ RlAt K H v r ∧ r.dep < n ∧ SqT K H l [.int w, .int m] ∧ LandOk w m ∧ RetV (.int (figN (w * m) (r.day w m) : Nat)) H Q
theorem spv_every {H : Hp} {s b n : Nat} {z : Int} (hs : s ≤ 6000) (hb : b ≤ 6000) (hn : n ≤ 6000) (hz : ((((List.range n).map fun t => 2 ^ (b + s * t)).sum : Nat) : Int) = z) : SpV spEvery ([.int s, .int b, .int n] ++ []) H (.int z) :=
  spV fun H1 _ Q _ q => ⟨s, b, n, rfl, hs, hb, hn, by rw [hz]; exact q⟩
theorem spv_turned {H : Hp} {N : Nat} {b : Int} {p : Int → Bool} (hN : 0 < N) (h2 : N ≤ 100000) (hp : Per (N : Int) p) : SpV spTurned ([.int (figN N p : Nat), .int b, .int N] ++ []) H (.int (figN N fun d => p (d - b) : Nat)) :=
  spV fun H1 _ Q _ q => ⟨N, b, p, rfl, hN, h2, hp, q⟩
theorem spv_fig {H : Hp} {n : Nat} {v : V} {l : Addr} {r : Rl} {w m : Nat} (h1 : RlAt K H v r) (h2 : r.dep < n) (h3 : SqT K H l [.int w, .int m]) (h4 : LandOk w m) : SpV (spFig K n) ([v, .ref l] ++ []) H (.int (figN (w * m) (r.day w m) : Nat)) :=
  spV fun H1 e Q _ q => ⟨v, l, r, w, m, rfl, h1.mono e, h2, ex_t e h3, h4, q⟩
theorem fig_turnN (F : Fun K "figure_of" "figure_of" s_figure_of f fd) (T : Txt P w K mg C_BadRule C_BadRules C_BadLand C_BadDay C_BadNumber C_BadSeen C_BadText C_Feast C_Calendar C_Line C_Walk) (hm : mg "figure_of" = some (.ref f)) (hb : Binds K fd ["rule", "land"] []) (n : Nat) (ih : FnOk P w K mg base CX0 (n + 1) f fd ["rule", "land"] (spFig K n)) : FnOk P w K mg base CX0 (n + 2) f fd ["rule", "land"] (spFig K (n + 1)) := by
  have D_every : Dn P w K mg base CX0 "every" 1 ["step", "begin", "many"] spEvery := dn_every T
  have D_turned : Dn P w K mg base CX0 "turned" 1 ["figure", "by", "round_days"] spTurned := dn_turned T
  have D_figure_of : Dn P w K mg base CX0 "figure_of" (n + 1) ["rule", "land"] (spFig K n) := ⟨f, fd, hm, F.kp, ih, hb⟩
  refine F.ok sc_figure_of (fun vs H Q E h => ?_) (fun cdv A outer s H vs Q E hr h => ?_)
  · obtain ⟨_, _, _, _, _, rfl, _⟩ := h
    rfl
  · obtain ⟨v, l, r, w, m, rfl, hR, hd, hL, hO, k⟩ := h
    obtain ⟨w2, wm, m6, n5⟩ := id hO
    have hq : ((w * m : Nat) : Int) = (w : Int) * (m : Int) := Int.natCast_mul w m
    have hr1 : Room 1 _ := hr.mono (by omega)
    refine ⟨_, (pss_cons (ps_asg (pv 1) (pg_tup rfl (pgs_cons (pg_name (i := 2) sc_figure_of.nd rfl (by first | exact Or.inl rfl | exact Or.inr rfl)) (pgs_cons (pg_name (i := 3) sc_figure_of.nd rfl (by first | exact Or.inl rfl | exact Or.inr rfl)) pgs_nil))))
  (pss_cons (ps_set (i := 4) sc_figure_of.nd rfl (by first | exact Or.inl rfl | exact Or.inr rfl) (pe_ix ix_tup (pv 0) pe_int (fun _ _ => rfl)))
  (pss_cons (ps_if (pt_cmpR op_eq (pv 4) pe_str (nomark _)) (pss_one (ps_ret (pe_fn D_every (hr.mono (by omega)) pass0 rfl (pa_cons (pv 2) (pa_cons (pe_op op_mod (pe_ix ix_tup (pv 0) pe_int (fun _ _ => rfl)) (pv 2)) (pa_cons (pv 3) pa_nil))))))
  pss_nil)
  (pss_cons (ps_if (pt_cmpR op_eq (pv 4) pe_str (nomark _)) (pss_one (ps_ret (pe_fn D_every (hr.mono (by omega)) pass0 rfl (pa_cons (pv 3) (pa_cons (pe_op op_mod (pe_ix ix_tup (pv 0) pe_int (fun _ _ => rfl)) (pv 3)) (pa_cons (pv 2) pa_nil))))))
  pss_nil)
  (pss_cons (ps_if (pt_cmpR op_eq (pv 4) pe_str (nomark _)) (pss_one (ps_ret (pe_callB (cr_sum rfl) (by rfl) T.sum (by decide +kernel) (pa_cons (pe_lc (own := [("month", 7)]) (g := gName 7) (tt := tYes) rfl sc_figure_of.nd (pi_range1 (by rfl) T.range (pa_cons (pv 2) pa_nil)) (blkOk_by (own := [("month", 7)]) (N := ["rule", "land", "w", "m", "word", "one", "other", "month"]) (sc := defScope s_figure_of) (by decide +kernel)) (fun _ _ _ _ _ => (pg_name (i := 7) sc_figure_of.nd rfl (by first | exact Or.inl rfl | exact Or.inr rfl))) (fun _ _ _ _ _ => pts_nil) (fun _ _ _ _ _ => (pe_op op_shlW pe_int (pe_op op_add (pe_op op_mul (pv 7) (pv 3)) (pe_op op_mod (pe_op op_sub (pe_ix (ix_tupK (K := K)) (pv 0) pe_int (fun _ _ => rfl)) (pe_op op_mul (pv 7) (pv 3))) (pv 2)))))) pa_nil))))
  pss_nil)
  (pss_cons (ps_if (pt_cmpR op_eq (pv 4) pe_str (nomark _)) (pss_one (ps_ret (pe_fn D_turned (hr.mono (by omega)) pass0 rfl (pa_cons (pe_fn D_figure_of (hr.mono (by omega)) pass0 rfl (pa_cons (pe_ix ix_tup (pv 0) pe_int (fun _ _ => rfl)) (pa_cons (pv 1) pa_nil))) (pa_cons (pe_ix ix_tup (pv 0) pe_int (fun _ _ => rfl)) (pa_cons (pe_op op_mul (pv 2) (pv 3)) pa_nil))))))
  pss_nil)
  (pss_cons (ps_par (i := 5) (j := 6) (by rfl) sc_figure_of.nd rfl rfl (by decide) rfl rfl (pa_cons (pe_fn D_figure_of (hr.mono (by omega)) pass0 rfl (pa_cons (pe_ix ix_tup (pv 0) pe_int (fun _ _ => rfl)) (pa_cons (pv 1) pa_nil))) (pa_cons (pe_fn D_figure_of (hr.mono (by omega)) pass0 rfl (pa_cons (pe_ix ix_tup (pv 0) pe_int (fun _ _ => rfl)) (pa_cons (pv 1) pa_nil))) pa_nil)) (by first | rfl | exact sw2 rfl rfl rfl rfl (by decide)))
  (pss_cons (ps_if (pt_cmpR op_eq (pv 4) pe_str (nomark _)) (pss_one (ps_ret (pe_op op_and (pv 5) (pv 6))))
  pss_nil)
  (pss_one (ps_ret (pe_ifExp (pt_cmpR op_eq (pv 4) pe_str (nomark _)) (pe_op op_or (pv 5) (pv 6)) (pe_op op_and (pv 5) (pe_un un_inv (pv 6)))))))))))))), ?_⟩
    refine q_asgT (ev_var rfl) hL fun H1 e1 => ?_
    have hR1 := hR.mono e1
    have hw0 : ∀ k : Int, k % (w : Int) = (((k % (w : Int)).toNat : Nat) : Int) := fun k => by
      have := Int.emod_nonneg k (show (w : Int) ≠ 0 by omega)
      omega
    have hm0 : ∀ k : Int, k % (m : Int) = (((k % (m : Int)).toNat : Nat) : Int) := fun k => by
      have := Int.emod_nonneg k (show (m : Int) ≠ 0 by omega)
      omega
    have hwl : ∀ k : Int, (k % (w : Int)).toNat < w := fun k => by
      have := Int.emod_lt_of_pos k (show 0 < (w : Int) by omega)
      omega
    have hml : ∀ k : Int, (k % (m : Int)).toNat < m := fun k => by
      have := Int.emod_lt_of_pos k (show 0 < (m : Int) by omega)
      omega
    cases hR1 with
    | wk hT => 
      rename_i p k0
      refine q_asg (ev_ixT (ev_var rfl) hT rfl) fun H2 e2 => ?_
      refine q_yes (et_str (ev_var rfl) (by decide +kernel)) fun H3 e3 => ?_
      refine s_ret (v := .int (figN (w * m) ((Rl.wk k0).day w m) : Nat)) (ev_call (ea_cons (ev_var rfl) (ea_cons (ev_op (ev_ixT (ev_var rfl) (ex_t (e2.trans e3) hT) rfl) (ev_var rfl) (rv_I (by omega))) (ea_cons (ev_var rfl) ea_nil))) ?_) fun H4 e4 => k H4 (((e1.trans e2).trans e3).trans e4)
      rw [hw0]
      refine spv_every (by omega) (by have := hwl k0; omega) (by omega) ?_
      rw [every_fig k0 (by omega)]
      rfl
    | fs hT =>
      rename_i p k0
      refine q_asg (ev_ixT (ev_var rfl) hT rfl) fun H2 e2 => ?_
      refine q_not (et_str (ev_var rfl) (by decide +kernel)) fun H3 e3 => ?_
      refine q_not (et_str (ev_var rfl) (by decide +kernel)) fun H4 e4 => ?_
      refine q_yes (et_str (ev_var rfl) (by decide +kernel)) fun H5 e5 => ?_
      have hT5 := ex_t (((e2.trans e3).trans e4).trans e5) hT
      refine s_ret (v := .int (figN (w * m) ((Rl.fs k0).day w m) : Nat)) (ev_is (ev_sumR (fun t => (((2 ^ (m * t + ((k0 - (m : Int) * (t : Int)) % (w : Int)).toNat) : Nat)) : Int)) (el_rng _ (ea_cons (ev_var rfl) ea_nil) ⟨by omega, by omega⟩ (fun _ => rfl) fun i H6 e6 hi => ?_)) (by rw [cast_sumR, first_fig k0 (by omega) wm, Int.toNat_natCast, Nat.mul_comm m w]; rfl)) fun H6 e6 => k H6 (((((e1.trans e2).trans e3).trans e4).trans e5).trans e6)
      have hi' : i < w := by omega
      have hmi : m * i ≤ 6000 * 6000 := Nat.mul_le_mul m6 (by omega)
      have hv : (i : Int) * (m : Int) = ((m * i : Nat) : Int) := by rw [Int.natCast_mul, Int.mul_comm]
      refine ev_is (ev_op ev_c (ev_op (ev_op (ev_var rfl) (ev_var rfl) (rv_I (.inl ⟨by omega, by omega⟩))) (ev_op (ev_op (ev_ixT (ev_var rfl) (ex_t e6 hT5) rfl) (ev_op (ev_var rfl) (ev_var rfl) (rv_I (.inl ⟨by omega, by omega⟩))) rv_I0) (ev_var rfl) (rv_I (by omega))) rv_I0) (rv_I ⟨?_, ?_⟩)) ?_
      · rw [hw0]; omega
      · rw [hw0, bits_one]
        have := hwl (k0 - (i : Int) * (m : Int))
        omega
      · rw [hw0, hv, Int.one_mul]
        have e3 : (m : Int) * (i : Int) = ((m * i : Nat) : Int) := by rw [Int.natCast_mul]
        rw [e3, ← Int.natCast_add, Int.toNat_natCast, Int.natCast_pow]
        rfl
    | md hT => 
      rename_i p k0
      refine q_asg (ev_ixT (ev_var rfl) hT rfl) fun H2 e2 => ?_
      refine q_not (et_str (ev_var rfl) (by decide +kernel)) fun H3 e3 => ?_
      refine q_yes (et_str (ev_var rfl) (by decide +kernel)) fun H4 e4 => ?_
      refine s_ret (v := .int (figN (w * m) ((Rl.md k0).day w m) : Nat)) (ev_call (ea_cons (ev_var rfl) (ea_cons (ev_op (ev_ixT (ev_var rfl) (ex_t ((e2.trans e3).trans e4) hT) rfl) (ev_var rfl) (rv_I (by omega))) (ea_cons (ev_var rfl) ea_nil))) ?_) fun H5 e5 => k H5 ((((e1.trans e2).trans e3).trans e4).trans e5)
      rw [hm0]
      refine spv_every (by omega) (by have := hml k0; omega) (by omega) ?_
      rw [every_fig k0 (by omega), Nat.mul_comm m w]
      rfl
    | bh hT hr2 =>
      rename_i p u r b
      have hd2 : r.dep < n := by simp only [Rl.dep] at hd; omega
      refine q_asg (ev_ixT (ev_var rfl) hT rfl) fun H2 e2 => ?_
      refine q_not (et_str (ev_var rfl) (by decide +kernel)) fun H3 e3 => ?_
      refine q_not (et_str (ev_var rfl) (by decide +kernel)) fun H4 e4 => ?_
      refine q_not (et_str (ev_var rfl) (by decide +kernel)) fun H5 e5 => ?_
      refine q_yes (et_str (ev_var rfl) (by decide +kernel)) fun H6 e6 => ?_
      have E6 := (((e2.trans e3).trans e4).trans e5).trans e6
      have hT6 := ex_t E6 hT
      refine s_ret (v := .int (figN (w * m) ((Rl.bh r b).day w m) : Nat)) (ev_call (ea_cons (ev_call (ea_cons (ev_ixT (ev_var rfl) hT6 rfl) (ea_cons (ev_var rfl) ea_nil)) (spv_fig (hr2.mono E6) hd2 (ex_t (e1.trans E6) hL) hO)) (ea_cons (ev_ixT (ev_var rfl) hT6 rfl) (ea_cons (ev_is (ev_op (ev_var rfl) (ev_var rfl) (rv_I (.inl ⟨by omega, by omega⟩))) (by rw [← hq])) ea_nil))) ?_) fun H7 e7 => k H7 ((e1.trans E6).trans e7)
      exact spv_turned hO.pos (by omega) (by rw [hq]; exact rl_per w m r)
    | bo hT hr1 hr2 =>
      rename_i p u v x y
      have hd1 : x.dep < n := by simp only [Rl.dep] at hd; omega
      have hd2 : y.dep < n := by simp only [Rl.dep] at hd; omega
      refine q_asg (ev_ixT (ev_var rfl) hT rfl) fun H2 e2 => ?_
      refine q_not (et_str (ev_var rfl) (by decide +kernel)) fun H3 e3 => ?_
      refine q_not (et_str (ev_var rfl) (by decide +kernel)) fun H4 e4 => ?_
      refine q_not (et_str (ev_var rfl) (by decide +kernel)) fun H5 e5 => ?_
      refine q_not (et_str (ev_var rfl) (by decide +kernel)) fun H6 e6 => ?_
      have E6 := (((e2.trans e3).trans e4).trans e5).trans e6
      have hT6 := ex_t E6 hT
      refine q_par (ea_cons (ev_call (ea_cons (ev_ixT (ev_var rfl) hT6 rfl) (ea_cons (ev_var rfl) ea_nil)) (spv_fig (hr1.mono E6) hd1 (ex_t (e1.trans E6) hL) hO)) (ea_cons (ev_call (ea_cons (ev_ixT (ev_var rfl) hT6 rfl) (ea_cons (ev_var rfl) ea_nil)) (spv_fig (hr2.mono E6) hd2 (ex_t (e1.trans E6) hL) hO)) ea_nil)) fun H7 e7 => ?_
      refine q_yes (et_str (ev_var rfl) (by decide +kernel)) fun H8 e8 => ?_
      refine s_ret (v := .int (figN (w * m) ((Rl.bo x y).day w m) : Nat)) (ev_is (ev_op (ev_var rfl) (ev_var rfl) rv_I0) (by rw [fig_and]; rfl)) fun H9 e9 => k H9 ((((e1.trans E6).trans e7).trans e8).trans e9)
    | ei hT hr1 hr2 =>
      rename_i p u v x y
      have hd1 : x.dep < n := by simp only [Rl.dep] at hd; omega
      have hd2 : y.dep < n := by simp only [Rl.dep] at hd; omega
      refine q_asg (ev_ixT (ev_var rfl) hT rfl) fun H2 e2 => ?_
      refine q_not (et_str (ev_var rfl) (by decide +kernel)) fun H3 e3 => ?_
      refine q_not (et_str (ev_var rfl) (by decide +kernel)) fun H4 e4 => ?_
      refine q_not (et_str (ev_var rfl) (by decide +kernel)) fun H5 e5 => ?_
      refine q_not (et_str (ev_var rfl) (by decide +kernel)) fun H6 e6 => ?_
      have E6 := (((e2.trans e3).trans e4).trans e5).trans e6
      have hT6 := ex_t E6 hT
      refine q_par (ea_cons (ev_call (ea_cons (ev_ixT (ev_var rfl) hT6 rfl) (ea_cons (ev_var rfl) ea_nil)) (spv_fig (hr1.mono E6) hd1 (ex_t (e1.trans E6) hL) hO)) (ea_cons (ev_call (ea_cons (ev_ixT (ev_var rfl) hT6 rfl) (ea_cons (ev_var rfl) ea_nil)) (spv_fig (hr2.mono E6) hd2 (ex_t (e1.trans E6) hL) hO)) ea_nil)) fun H7 e7 => ?_
      refine q_not (et_str (ev_var rfl) (by decide +kernel)) fun H8 e8 => ?_
      refine s_ret (v := .int (figN (w * m) ((Rl.ei x y).day w m) : Nat)) (ev_ifT (et_str (ev_var rfl) (by decide +kernel)) (ev_is (ev_op (ev_var rfl) (ev_var rfl) rv_I0) (by rw [fig_or]; rfl))) fun H9 e9 => k H9 ((((e1.trans E6).trans e7).trans e8).trans e9)
    | wo hT hr1 hr2 =>
      rename_i p u v x y
      have hd1 : x.dep < n := by simp only [Rl.dep] at hd; omega
      have hd2 : y.dep < n := by simp only [Rl.dep] at hd; omega
      refine q_asg (ev_ixT (ev_var rfl) hT rfl) fun H2 e2 => ?_
      refine q_not (et_str (ev_var rfl) (by decide +kernel)) fun H3 e3 => ?_
      refine q_not (et_str (ev_var rfl) (by decide +kernel)) fun H4 e4 => ?_
      refine q_not (et_str (ev_var rfl) (by decide +kernel)) fun H5 e5 => ?_
      refine q_not (et_str (ev_var rfl) (by decide +kernel)) fun H6 e6 => ?_
      have E6 := (((e2.trans e3).trans e4).trans e5).trans e6
      have hT6 := ex_t E6 hT
      refine q_par (ea_cons (ev_call (ea_cons (ev_ixT (ev_var rfl) hT6 rfl) (ea_cons (ev_var rfl) ea_nil)) (spv_fig (hr1.mono E6) hd1 (ex_t (e1.trans E6) hL) hO)) (ea_cons (ev_call (ea_cons (ev_ixT (ev_var rfl) hT6 rfl) (ea_cons (ev_var rfl) ea_nil)) (spv_fig (hr2.mono E6) hd2 (ex_t (e1.trans E6) hL) hO)) ea_nil)) fun H7 e7 => ?_
      refine q_not (et_str (ev_var rfl) (by decide +kernel)) fun H8 e8 => ?_
      refine s_ret (v := .int (figN (w * m) ((Rl.wo x y).day w m) : Nat)) (ev_ifF (et_str (ev_var rfl) (by decide +kernel)) (ev_is (ev_op (ev_var rfl) (ev_un (ev_var rfl) ru_inv) rv_I0) (by rw [fig_wo]; rfl))) fun H9 e9 => k H9 ((((e1.trans E6).trans e7).trans e8).trans e9)
theorem ok_fig (F : Fun K "figure_of" "figure_of" s_figure_of f fd) (T : Txt P w K mg C_BadRule C_BadRules C_BadLand C_BadDay C_BadNumber C_BadSeen C_BadText C_Feast C_Calendar C_Line C_Walk) (hm : mg "figure_of" = some (.ref f)) (hb : Binds K fd ["rule", "land"] []) : ∀ n : Nat, FnOk P w K mg base CX0 (n + 1) f fd ["rule", "land"] (spFig K n)
  | 0 => fnok_none fun _ _ _ _ ⟨_, _, _, _, _, _, _, h, _⟩ => absurd h (Nat.not_lt_zero _)
  | n + 1 => fig_turnN F T hm hb n (ok_fig F T hm hb n)
end
end WF

set_option Elab.async false
set_option linter.all false
set_option maxRecDepth 100000
set_option maxHeartbeats 2000000
/-! days_of, listed -/
namespace WF
open PySem L2 Evl
section
variable {P : Program} {w : World} {K : PySem.W.Frag} {mg : Str → Option Value} {base : Heap} {C_BadRule C_BadRules C_BadLand C_BadDay C_BadNumber C_BadSeen C_BadText C_Feast C_Calendar C_Line C_Walk : Addr} {f : Addr} {fd : FuncData}
def spDays (K : PySem.W.Frag) (CF : Addr) : Sp := fun vs H Q _ => ∃ (v : V) (l : Addr) (rows : Rows) (w m : Nat), vs = [v, .ref l] ∧ RowsAt K CF H v rows ∧ depMax rows < 5 ∧ SqT K H l [.int w, .int m] ∧ LandOk w m ∧ RetV (.int (figN (w * m) (calDay w m rows) : Nat)) H Q
theorem spv_days {H : Hp} {CF : Addr} {v : V} {l : Addr} {rows : Rows} {w m : Nat} (h1 : RowsAt K CF H v rows) (h2 : depMax rows < 5) (h3 : SqT K H l [.int w, .int m]) (h4 : LandOk w m) : SpV (spDays K CF) ([v, .ref l] ++ []) H (.int (figN (w * m) (calDay w m rows) : Nat)) :=
  spV fun H1 e Q _ q => ⟨v, l, rows, w, m, rfl, h1.mono e, h2, ex_t e h3, h4, q⟩
theorem ok_days (F : Fun K "days_of" "days_of" s_days_of f fd) (T : Txt P w K mg C_BadRule C_BadRules C_BadLand C_BadDay C_BadNumber C_BadSeen C_BadText C_Feast C_Calendar C_Line C_Walk) (CF : Cls1 K C_Feast ["told", "bys"]) (D_figure_of : Dn P w K mg base CX0 "figure_of" 6 ["rule", "land"] (spFig K 5)) : FnOk P w K mg base CX0 7 f fd ["rows", "land"] (spDays K C_Feast) := by
  have D_turned : Dn P w K mg base CX0 "turned" 1 ["figure", "by", "round_days"] spTurned := dn_turned T
  refine F.ok sc_days_of (fun vs H Q E h => ?_) (fun cdv A outer s H vs Q E hr h => ?_)
  · obtain ⟨_, _, _, _, _, rfl, _⟩ := h
    rfl
  · obtain ⟨v, l, rows, w, m, rfl, ⟨a, xs, rfl, hX, hRs⟩, hd, hL, hO, k⟩ := h
    obtain ⟨w2, wm, m6, n5⟩ := id hO
    have hq : ((w * m : Nat) : Int) = (w : Int) * (m : Int) := Int.natCast_mul w m
    refine ⟨_, (pss_cons (ps_set (i := 2) sc_days_of.nd rfl (by first | exact Or.inl rfl | exact Or.inr rfl) pe_int)
  (pss_cons (ps_for PassesOwn.never rfl (pi_tup (pv 0)) (pg_tup rfl (pgs_cons (pg_name (i := 3) sc_days_of.nd rfl (by first | exact Or.inl rfl | exact Or.inr rfl)) (pgs_cons (pg_name (i := 4) sc_days_of.nd rfl (by first | exact Or.inl rfl | exact Or.inr rfl)) pgs_nil)))
  (pss_cons (ps_set (i := 5) sc_days_of.nd rfl (by first | exact Or.inl rfl | exact Or.inr rfl) (pe_fn D_figure_of (hr.mono (by omega)) pass0 rfl (pa_cons (pe_fld (pv 3) rfl) (pa_cons (pv 1) pa_nil))))
  (pss_cons (ps_set (i := 6) sc_days_of.nd rfl (by first | exact Or.inl rfl | exact Or.inr rfl) (pe_ifExp (pt_val (pv 4)) (pe_op op_and (pv 5) (pv 2)) pe_int))
  (pss_one (ps_set (i := 2) sc_days_of.nd rfl (by first | exact Or.inl rfl | exact Or.inr rfl) (pe_op op_or (pe_op op_or (pv 2) (pe_op op_and (pv 5) (pe_un un_inv (pv 6)))) (pe_fn D_turned (hr.mono (by omega)) pass0 rfl (pa_cons (pv 6) (pa_cons pe_int (pa_cons (pe_op op_mul (pe_ix ix_tup (pv 1) pe_int (fun _ _ => rfl)) (pe_ix ix_tup (pv 1) pe_int (fun _ _ => rfl))) pa_nil))))))))))
  (pss_one (ps_ret (pv 2))))), ?_⟩
    refine q_asg ev_c fun H1 e1 => ?_
    refine q_forT (ev_var rfl) (ex_t e1 hX) (fun i σ H' => ∃ a1 a2 a3 a4, σ = [some (.ref a), some (.ref l), some (.int (figN (w * m) (calDay w m (rows.take i)) : Nat)), a1, a2, a3, a4] ∧ Ex H H') (fun H2 e2 => ⟨none, none, none, none, ?_, e1.trans e2⟩) (fun i σ' H' _ ⟨_, _, _, _, _, e⟩ => ex_t e hX) ?_ ?_
    · rw [show figN (w * m) (calDay w m (rows.take 0)) = 0 from figN_zero fun _ _ => rfl]
      rfl
    · rintro i x σ' H' hi ⟨a1, a2, a3, a4, rfl, e⟩
      obtain ⟨r, hr1, p, q, rfl, hp, dx, tv, hf, hv⟩ := hRs.get hi
      refine ⟨_, _, rfl, ex_t e hp, rfl, _, _, rfl, _, _, rfl, rfl, ?_⟩
      have hdr : r.1.dep < 5 := Nat.lt_of_le_of_lt (dep_le hr1) hd
      refine q_asg (ev_call (ea_cons (ev_fld (ev_var rfl) (e _ _ hf) CF.cl (CF.no _ (by simp)) (feastF_told _ _)) (ea_cons (ev_var rfl) ea_nil)) (spv_fig (hv.mono e) hdr (ex_t e hL) hO)) fun H3 e3 => ?_
      refine q_asg (v := .int (figN (w * m) (fun d => r.2 && (r.1.day w m d && calDay w m (rows.take i) d)) : Nat)) (ev_if (et_B (ev_var rfl)) (fun hb => ev_is (ev_op (ev_var rfl) (ev_var rfl) rv_I0) ?_) (fun hb => ev_is ev_c ?_)) fun H4 e4 => ?_
      · rw [fig_and, hb]; rfl
      · rw [hb]
        exact congrArg (fun n : Nat => V.int (n : Int)) (figN_zero fun _ _ => rfl).symm
      have hper : Per ((w * m : Nat) : Int) (fun d => r.2 && (r.1.day w m d && calDay w m (rows.take i) d)) := fun d => by
        show (r.2 && (r.1.day w m (d + ((w * m : Nat) : Int)) && calDay w m (rows.take i) (d + ((w * m : Nat) : Int)))) = _
        rw [hq, rl_per w m r.1 d, cal_per w m (rows.take i) d]
      refine s_asg (v := .int (figN (w * m) (calDay w m (rows.take (i + 1))) : Nat)) (ev_is (ev_op (ev_op (ev_var rfl) (ev_op (ev_var rfl) (ev_un (ev_var rfl) ru_inv) rv_I0) rv_I0) (ev_call (ea_cons (ev_var rfl) (ea_cons ev_c (ea_cons (ev_is (ev_op (ev_ixT (ev_var rfl) (ex_t ((e.trans e3).trans e4) hL) rfl) (ev_ixT (ev_var rfl) (ex_t ((e.trans e3).trans e4) hL) rfl) (rv_I (.inl ⟨by omega, by omega⟩))) (by rw [← hq])) ea_nil))) (spv_turned hO.pos (by omega) hper)) rv_I0) ?_) fun H5 e5 => ⟨_, _, _, _, rfl, ((e.trans e3).trans e4).trans e5⟩
      rw [fig_wo, fig_or, fig_or, cal_more _ _ hr1]
      refine congrArg (fun n : Nat => V.int (n : Int)) (figN_congr fun d _ => ?_)
      unfold addRow
      cases r.2 <;> cases r.1.day w m d <;> cases calDay w m (rows.take i) d <;> rfl
    · rintro σ' H' ⟨a1, a2, a3, a4, rfl, e⟩
      refine s_ret (ev_var rfl) fun H2 e2 => ?_
      rw [hRs.len, List.take_length]
      exact k H2 (e.trans e2)
theorem dn_days (T : Txt P w K mg C_BadRule C_BadRules C_BadLand C_BadDay C_BadNumber C_BadSeen C_BadText C_Feast C_Calendar C_Line C_Walk) (CF : Cls1 K C_Feast ["told", "bys"]) : Dn P w K mg base CX0 "days_of" 7 ["rows", "land"] (spDays K C_Feast) := T.f_days_of.dn fun _ _ F _ _ => ok_days F T CF (T.f_figure_of.dn fun _ _ F hm hb => ok_fig F T hm hb 5)
/-- listed -/
def spListed : Sp := fun vs H Q _ => ∃ (N : Nat) (p : Int → Bool), vs = [.int (figN N p : Nat)] ∧ N ≤ 50000 ∧ RetL ((daysN N p).map fun (d : Nat) => V.int (d : Int)) H Q
theorem ok_listed (F : Fun K "listed" "listed" s_listed f fd) (T : Txt P w K mg C_BadRule C_BadRules C_BadLand C_BadDay C_BadNumber C_BadSeen C_BadText C_Feast C_Calendar C_Line C_Walk) : FnOk P w K mg base CX0 1 f fd ["figure"] spListed := by
  refine F.ok sc_listed (fun vs H Q E h => ?_) (fun cdv A outer s H vs Q E hr h => ?_)
  · obtain ⟨_, _, rfl, _⟩ := h
    rfl
  · obtain ⟨N, p, rfl, hN, k⟩ := h
    refine ⟨_, (pss_cons (ps_set (i := 1) sc_listed.nd rfl (by first | exact Or.inl rfl | exact Or.inr rfl) (pe_lst pa_nil))
  (pss_cons (ps_while PassesOwn.never (pt_cmpR op_gt (pv 0) pe_int (nomark _))
  (pss_cons (ps_set (i := 2) sc_listed.nd rfl (by first | exact Or.inl rfl | exact Or.inr rfl) (pe_op op_and (pv 0) (pe_un un_neg (pv 0))))
  (pss_cons (ps_expr (pe_bm PySem.F.plainAttrs_list PySem.F.slot_list_append PySem.F.type_list_append mt_append (pv 1) (pa_cons (pe_op op_sub (pe_bits (pv 2)) pe_int) pa_nil)))
  (pss_one (ps_set (i := 0) sc_listed.nd rfl (by first | exact Or.inl rfl | exact Or.inr rfl) (pe_op op_xor (pv 0) (pv 2)))))))
  (pss_one (ps_ret (pv 1))))), ?_⟩
    refine q_asgL (el_lst ea_nil (Nat.zero_le _)) fun l H1 hl e1 h1 => ?_
    refine q_while (fun n σ H' => ∃ i lw, i ≤ N ∧ n = N - i ∧ σ = [some (.int (figN N (fun d => p d && decide ((i : Int) ≤ d)) : Nat)), some (.ref l), lw] ∧ H' l = some (.lst ((daysN i p).map fun (d : Nat) => V.int (d : Int))) ∧ Ex H H') N
      ⟨0, none, Nat.zero_le _, rfl, ?_, h1, e1⟩ ?_
    · rw [figN_congr (q := fun d => p d && decide ((0 : Int) ≤ d)) (p := p) fun d _ => by
        show p d = (p d && decide ((0 : Int) ≤ (d : Int)))
        rw [decide_eq_true (Int.natCast_nonneg d), Bool.and_true]]
      rfl
    · rintro n σ' H' ⟨i, lw, hi, rfl, rfl, hL, e⟩
      refine ⟨decide ((0 : Int) < (figN N (fun d => p d && decide ((i : Int) ≤ d)) : Nat)), et_cmp (ev_var rfl) ev_c rv_I0, fun hb H2 e2 => ?_, fun hb H2 e2 => ?_⟩
      · have hpos : 0 < figN N (fun d => p d && decide ((i : Int) ≤ d)) := by
          have := of_decide_eq_true hb
          omega
        obtain ⟨j, a, hj, hqj, hlt, hfig⟩ := fig_low hpos
        rw [Bool.and_eq_true, decide_eq_true_iff] at hqj
        have hij : i ≤ j := by omega
        have hlow : Builtin.bitAnd (figN N (fun d => p d && decide ((i : Int) ≤ d)) : Int) (-(figN N (fun d => p d && decide ((i : Int) ≤ d)) : Int)) = ((2 ^ j : Nat) : Int) := by
          have e0 : (figN N (fun d => p d && decide ((i : Int) ≤ d)) : Int) = 2 ^ j * (2 * (a : Int) + 1) := by
            rw [hfig, Int.natCast_mul, Int.natCast_pow, Int.natCast_add, Int.natCast_mul]; rfl
          rw [e0, PySem.W.kbt_low, Int.natCast_pow]
          rfl
        have hdn : daysN (j + 1) p = daysN i p ++ [j] := by
          rw [daysN_succ, hqj.1, if_pos rfl, daysN_more (fun d h1 h2 => ?_) hij]
          have := hlt d h2
          rw [decide_eq_true (show (i : Int) ≤ (d : Int) by omega), Bool.and_true] at this
          exact this
        have hxor : Builtin.bitXor (figN N (fun d => p d && decide ((i : Int) ≤ d)) : Int) ((2 ^ j : Nat) : Int) = (figN N (fun d => p d && decide (((j + 1 : Nat) : Int) ≤ d)) : Nat) := by
          rw [fig_one hj, fig_xor]
          refine congrArg (fun n : Nat => (n : Int)) (figN_congr fun d _ => ?_)
          show ((p d && decide ((i : Int) ≤ d)) ^^ ((d : Int) == (j : Int))) = (p d && decide (((j + 1 : Nat) : Int) ≤ d))
          rcases Nat.lt_trichotomy d j with h | h | h
          · have h1 : (p d && decide ((i : Int) ≤ d)) = false := hlt d h
            rw [h1, decide_eq_false (show ¬ ((j + 1 : Nat) : Int) ≤ (d : Int) by omega), Bool.and_false, beq_eq_false_iff_ne.mpr (show (d : Int) ≠ (j : Int) by omega)]
            rfl
          · subst h
            rw [hqj.1, decide_eq_true hqj.2, decide_eq_false (show ¬ ((d + 1 : Nat) : Int) ≤ (d : Int) by omega), beq_self_eq_true]
            rfl
          · rw [decide_eq_true (show (i : Int) ≤ (d : Int) by omega), decide_eq_true (show ((j + 1 : Nat) : Int) ≤ (d : Int) by omega), beq_eq_false_iff_ne.mpr (show (d : Int) ≠ (j : Int) by omega)]
            simp
        refine ⟨fun σ2 H3 => σ2 = [some (.int (figN N (fun d => p d && decide (((j + 1 : Nat) : Int) ≤ d)) : Nat)), some (.ref l), some (.int (2 ^ j : Nat))] ∧ H3 l = some (.lst ((daysN (j + 1) p).map fun (d : Nat) => V.int (d : Int))) ∧ Ex H H3, fun σ2 H3 ⟨q1, q2, q3⟩ => ⟨N - (j + 1), by omega, j + 1, _, by omega, rfl, q1, q2, q3⟩, ?_⟩
        refine q_asg (v := .int (2 ^ j : Nat)) (ev_is (ev_op (ev_var rfl) (ev_un (ev_var rfl) ru_neg) rv_I0) (by rw [hlow])) fun H3 e3 => ?_
        have hbits : ((Builtin.Int.intBits ((2 ^ j : Nat) : Int) : Nat) : Int) - 1 = (j : Int) := by
          rw [bits_pow]; omega
        refine q_app (v := .int (j : Int)) ((e2.trans e3) _ _ hL) (ev_var rfl) (ev_is (ev_op (ev_bits (ev_var rfl)) ev_c rv_I0) (by rw [hbits])) ?_ fun H4 e4 => ?_
        · rw [List.length_map]
          have := daysN_len i p
          omega
        · refine s_asg (ev_is (ev_op (ev_var rfl) (ev_var rfl) rv_I0) (by rw [hxor])) fun H5 e5 => ⟨rfl, ?_, ?_⟩
          · refine e5 _ _ ?_
            rw [upd_same, hdn, List.map_append]
            rfl
          · exact (Ex.mut (((e.trans e2).trans e3).trans e4) hl).trans e5
      · have h0 : figN N (fun d => p d && decide ((i : Int) ≤ d)) = 0 := by
          have := of_decide_eq_false hb
          omega
        have hz : daysN N p = daysN i p := daysN_more (fun d h1 h2 => by
          have := figN_bit N (fun d => p d && decide ((i : Int) ≤ d)) d
          rw [h0, Nat.zero_testBit, decide_eq_true h2, Bool.true_and, decide_eq_true (show (i : Int) ≤ (d : Int) by omega), Bool.and_true] at this
          exact this.symm) hi
        refine s_ret (ev_var rfl) fun H3 e3 => ?_
        refine k l H3 hl ((e.trans e2).trans e3) ?_
        rw [hz]
        exact (e2.trans e3) _ _ hL
theorem dn_listed (T : Txt P w K mg C_BadRule C_BadRules C_BadLand C_BadDay C_BadNumber C_BadSeen C_BadText C_Feast C_Calendar C_Line C_Walk) : Dn P w K mg base CX0 "listed" 1 ["figure"] spListed := T.f_listed.dn fun _ _ F _ _ => ok_listed F T
end
end WF

set_option Elab.async false
set_option linter.all false
set_option maxRecDepth 100000
set_option maxHeartbeats 2000000
/-! is_land, need_land -/
namespace WF
open PySem L2 Evl
section
variable {P : Program} {w : World} {K : PySem.W.Frag} {mg : Str → Option Value} {base : Heap} {C_BadRule C_BadRules C_BadLand C_BadDay C_BadNumber C_BadSeen C_BadText C_Feast C_Calendar C_Line C_Walk : Addr} {f : Addr} {fd : FuncData}
def spIsLand (K : PySem.W.Frag) : Sp := fun vs H Q _ => ∃ v b, vs = [v] ∧ LandV K H v b ∧ RetV (.bl b) H Q
theorem kit_tuple_len {b : Bool} : True := trivial
theorem ok_is_land (F : Fun K "is_land" "is_land" s_is_land f fd) (T : Txt P w K mg C_BadRule C_BadRules C_BadLand C_BadDay C_BadNumber C_BadSeen C_BadText C_Feast C_Calendar C_Line C_Walk) : FnOk P w K mg base CX0 2 f fd ["value"] (spIsLand K) := by
  have D_divisor : Dn P w K mg base CX0 "divisor" 1 ["one", "other"] sp_divisor := dn_divisor T
  refine F.ok sc_is_land (fun vs H Q E h => ?_) (fun cdv A outer s H vs Q E hr h => ?_)
  · obtain ⟨_, _, rfl, _⟩ := h
    rfl
  · obtain ⟨v, b, rfl, hV, k⟩ := h
    refine ⟨_, (pss_cons (ps_if (PW.pt (pw_or (pt_not (pt_val (pe_callB call_isi (by rfl) T.isinstance (by decide +kernel) (pa_cons (pv 0) (pa_cons (pe_bltn (v := .ty "tuple") (by rfl) T.tuple (by decide +kernel) rfl) pa_nil))))) (pw_or1 (pt_cmpR op_ne (pe_callB call_len_seq (by rfl) T.len (by decide +kernel) (pa_cons (pv 0) pa_nil)) pe_int (nomark _))))) (pss_one (ps_ret pe_bl))
  pss_nil)
  (pss_cons (ps_if (pt_not (pt_val (pe_callB (cr_all rfl) (by rfl) T.all (by decide +kernel) (pa_cons (pe_lc (own := [("many", 1)]) (g := gName 1) (tt := tYes) rfl sc_is_land.nd (pi_tup (pv 0)) (blkOk_by (own := [("many", 1)]) (N := ["value", "many"]) (sc := defScope s_is_land) (by decide +kernel)) (fun _ _ _ _ _ => (pg_name (i := 1) sc_is_land.nd rfl (by first | exact Or.inl rfl | exact Or.inr rfl))) (fun _ _ _ _ _ => pts_nil) (fun _ _ _ _ _ => (pe_and (pe_callB (call_isiK1 (K := K)) (by rfl) T.isinstance (by decide +kernel) (pa_cons (pv 1) (pa_cons (pe_bltn (v := .ty "int") (by rfl) T.int (by decide +kernel) rfl) pa_nil))) (pe_one (pe_not (pe_callB (call_isiK1 (K := K)) (by rfl) T.isinstance (by decide +kernel) (pa_cons (pv 1) (pa_cons (pe_bltn (v := .ty "bool") (by rfl) T.bool (by decide +kernel) rfl) pa_nil)))))))) pa_nil)))) (pss_one (ps_ret pe_bl))
  pss_nil)
  (pss_one (ps_ret (pe_and (pe_chain op_le op_lt pe_int (pe_ix ix_tup (pv 0) pe_int (fun _ _ => rfl)) (pe_ix ix_tup (pv 0) pe_int (fun _ _ => rfl))) (pe_one (pe_cmpR op_eq (pe_fn D_divisor (hr.mono (by omega)) pass0 rfl (pa_cons (pe_ix ix_tup (pv 0) pe_int (fun _ _ => rfl)) (pa_cons (pe_ix ix_tup (pv 0) pe_int (fun _ _ => rfl)) pa_nil))) pe_int (nomark _)))))))), ?_⟩
    have key : ∀ {a : Addr} {x y : V} {o p : Option Int}, v = .ref a → SqT K H a [x, y] → NumV K H x o → NumV K H y p → ∀ H1, Ex H H1 → EvT (tTest (tCB (rAll K) (tCons (tLc (iTup K (tVar 0)) (gName 1) tYes (tAndV (tCB (rIsi K) (tCons (tVar 1) (tCons (tC (.ty "int")) tNil))) (tNotV (tCB (rIsi K) (tCons (tVar 1) (tCons (tC (.ty "bool")) tNil))))) [1]) tNil))) (start ["value", "many"] [v]) H1 (o.isSome && p.isSome) := by
      rintro a x y o p rfl hT hx hy H1 e1
      refine et_test (ev_is (ev_all (bs := [o.isSome, p.isSome]) ?_) (by simp))
      refine el_is (el_tupN (xs := [x, y]) (fun _ => true) (fun i => if i = 0 then .bl o.isSome else .bl p.isSome) (ev_var rfl) (ex_t e1 hT) (by show 2 ≤ 40000; decide) (fun _ => rfl) (fun _ _ _ _ _ => et_yes) fun i z H2 e2 hi _ => ?_) rfl
      match i, hi with
      | 0, hi => cases hi; exact ev_isInt (fun H3 e3 => ev_var rfl) (hx.mono (e1.trans e2))
      | 1, hi => cases hi; exact ev_isInt (fun H3 e3 => ev_var rfl) (hy.mono (e1.trans e2))
    cases hV with
    | no hy n =>
      refine q_yes (et_or1 (et_not (et_B (ev_isi (ev_var rfl) hy n)))) fun H1 e1 => ?_
      exact s_ret ev_c fun H2 e2 => k H2 (e1.trans e2)
    | len hT n z =>
      rename_i a xs
      refine q_yes (et_is (et_or (et_not (et_B (ev_isi (ev_var rfl) (ty_tup hT) kit_tt))) (fun _ => et_cmp (ev_lenT (ev_var rfl) hT) ev_c (rv_ne rfl))) (by simp; omega)) fun H1 e1 => ?_
      exact s_ret ev_c fun H2 e2 => k H2 (e1.trans e2)
    | odd hT hx hy n =>
      refine q_not (et_is (et_or (et_not (et_B (ev_isi (ev_var rfl) (ty_tup hT) kit_tt))) (fun _ => et_cmp (ev_lenT (ev_var rfl) hT) ev_c (rv_ne rfl))) (by simp)) fun H1 e1 => ?_
      refine q_yes (et_is (et_not (key rfl hT hx hy H1 e1)) (by rcases n with rfl | rfl <;> simp)) fun H2 e2 => ?_
      exact s_ret ev_c fun H3 e3 => k H3 ((e1.trans e2).trans e3)
    | two hT z1 z2 =>
      rename_i a w m
      refine q_not (et_is (et_or (et_not (et_B (ev_isi (ev_var rfl) (ty_tup hT) kit_tt))) (fun _ => et_cmp (ev_lenT (ev_var rfl) hT) ev_c (rv_ne rfl))) (by simp)) fun H1 e1 => ?_
      refine q_not (et_is (et_not (key rfl hT (.int w) (.int m) H1 e1)) rfl) fun H2 e2 => ?_
      have hT2 := ex_t (e1.trans e2) hT
      refine s_ret (v := .bl (landB w m)) (ev_andV (ev_chain ev_c (ev_ixT (ev_var rfl) hT2 rfl) rv_I0 (fun _ => ev_ixT (ev_var rfl) hT2 rfl) (fun _ => rv_I0)) fun hb => ?_) fun H3 e3 => k H3 ((e1.trans e2).trans e3)
      rw [Bool.and_eq_true, decide_eq_true_iff, decide_eq_true_iff] at hb
      obtain ⟨wn, rfl⟩ := Int.eq_ofNat_of_zero_le (show 0 ≤ w by omega)
      obtain ⟨mn, rfl⟩ := Int.eq_ofNat_of_zero_le (show 0 ≤ m by omega)
      refine ev_is (ev_op (ev_call (ea_cons (ev_ixT (ev_var rfl) hT2 rfl) (ea_cons (ev_ixT (ev_var rfl) hT2 rfl) ea_nil)) (spV (z := .int (Nat.gcd mn wn : Nat)) fun H4 _ Q _ q => ⟨mn, wn, rfl, q⟩)) ev_c (rv_eq rfl)) ?_
      refine congrArg V.bl ?_
      show decide (V.int ((Nat.gcd mn wn : Nat) : Int) = V.int 1) = decide (Nat.gcd mn wn = 1)
      by_cases h : Nat.gcd mn wn = 1
      · rw [decide_eq_true h, h]; rfl
      · rw [decide_eq_false h, decide_eq_false]
        intro q
        injection q with q
        omega
theorem dn_is_land (T : Txt P w K mg C_BadRule C_BadRules C_BadLand C_BadDay C_BadNumber C_BadSeen C_BadText C_Feast C_Calendar C_Line C_Walk) : Dn P w K mg base CX0 "is_land" 2 ["value"] (spIsLand K) := T.f_is_land.dn fun _ _ F _ _ => ok_is_land F T
/-- a land whose round is told; what is none -/
inductive NeedL (K : PySem.W.Frag) (H : Hp) : V → Option (Nat × Nat) → Prop where
  | good {l : Addr} {w m : Nat} (h : SqT K H l [.int w, .int m]) (o : LandOk w m) (c : Nat.gcd m w = 1) (z : w * m ≤ 4000) : NeedL K H (.ref l) (some (w, m))
  | bad {v : V} (h : LandV K H v false) : NeedL K H v none
  | big {l : Addr} {w m : Nat} (h : SqT K H l [.int w, .int m]) (c : landB w m = true) (z0 : w < 4294967296 ∧ m < 4294967296) (z : 4000 < w * m) : NeedL K H (.ref l) none
theorem NeedL.mono {H H' : Hp} {v : V} {o : Option (Nat × Nat)} (e : Ex H H') (h : NeedL K H v o) : NeedL K H' v o := by
  cases h with
  | good h o c z => exact .good (ex_t e h) o c z
  | bad h => exact .bad (h.mono e)
  | big h c z0 z => exact .big (ex_t e h) c z0 z
def spNeedLand (K : PySem.W.Frag) (C : Addr) : Sp := fun vs H Q E => ∃ v o, vs = [v] ∧ NeedL K H v o ∧ (o ≠ none → RetV .non H Q) ∧ (o = none → ∀ H1, Ex H H1 → E (.ref C) none H1)
theorem ok_need_land (F : Fun K "need_land" "need_land" s_need_land f fd) (T : Txt P w K mg C_BadRule C_BadRules C_BadLand C_BadDay C_BadNumber C_BadSeen C_BadText C_Feast C_Calendar C_Line C_Walk) : FnOk P w K mg base (L2.CX P w) 3 f fd ["value"] (spNeedLand K C_BadLand) := by
  have D_is_land : Dn P w K mg base CX0 "is_land" 2 ["value"] (spIsLand K) := dn_is_land T
  refine F.okX sc_need_land (fun vs H Q E h => ?_) (fun cdv A outer s H vs Q E hr h => ?_)
  · obtain ⟨_, _, rfl, _⟩ := h
    rfl
  · obtain ⟨v, o, rfl, hV, kG, kB⟩ := h
    refine ⟨_, (pss_one (ps_if (PW.pt (pw_or (pt_not (pt_val (pe_fn D_is_land (hr.mono (by omega)) pass0 rfl (pa_cons (pv 0) pa_nil)))) (pw_or1 (pt_cmpR op_gt (pe_op op_mul (pe_ix ix_tup (pv 0) pe_int (fun _ _ => rfl)) (pe_ix ix_tup (pv 0) pe_int (fun _ _ => rfl))) (pe_globE rfl T.g_MOST_ROUND) (nomark _))))) (pss_one (ps_raise0 rfl (takes_of rfl rfl rfl rfl) T.e_BadLand T.c_BadLand rfl))
  pss_nil)), ?_⟩
    cases hV with
    | good hT hO c z =>
      rename_i l w m
      obtain ⟨w2, wm, m6, n5⟩ := id hO
      have hq : ((w * m : Nat) : Int) = (w : Int) * (m : Int) := Int.natCast_mul w m
      have hL : LandV K H (.ref l) true := by
        have : landB (w : Int) (m : Int) = true := by
          unfold landB
          rw [decide_eq_true (show (2 : Int) ≤ (w : Int) by omega), decide_eq_true (show (w : Int) < (m : Int) by omega)]
          exact decide_eq_true c
        rw [← this]
        exact .two hT ⟨by omega, by omega⟩ ⟨by omega, by omega⟩
      refine s_no (et_is (et_or (et_not (et_B (ev_call (ea_cons (ev_var rfl) ea_nil) (spV (z := .bl true) fun H1 e Q _ q => ⟨_, _, rfl, hL.mono e, q⟩)))) fun _ => et_cmp (ev_op (ev_ixT (ev_var rfl) hT rfl) (ev_ixT (ev_var rfl) hT rfl) (rv_I (.inl ⟨by omega, by omega⟩))) ev_c rv_I0) ?_) fun H1 e1 => kG (by simp) H1 e1
      show (false || decide ((4000 : Int) < (w : Int) * (m : Int))) = false
      rw [decide_eq_false (by omega)]
      rfl
    | bad hL =>
      refine s_yes (et_or1 (et_not (et_B (ev_call (ea_cons (ev_var rfl) ea_nil) (spV (z := .bl false) fun H1 e Q _ q => ⟨_, _, rfl, hL.mono e, q⟩))))) fun H1 e1 => kB rfl H1 e1
    | big hT c z0 z =>
      rename_i l w m
      have hq : ((w * m : Nat) : Int) = (w : Int) * (m : Int) := Int.natCast_mul w m
      have hL : LandV K H (.ref l) true := by
        rw [← c]
        exact .two hT ⟨by omega, by omega⟩ ⟨by omega, by omega⟩
      refine s_yes (et_is (et_or (et_not (et_B (ev_call (ea_cons (ev_var rfl) ea_nil) (spV (z := .bl true) fun H1 e Q _ q => ⟨_, _, rfl, hL.mono e, q⟩)))) fun _ => et_cmp (ev_op (ev_ixT (ev_var rfl) hT rfl) (ev_ixT (ev_var rfl) hT rfl) (rv_I (.inl ⟨by omega, by omega⟩))) ev_c rv_I0) ?_) fun H1 e1 => kB rfl H1 e1
      show (false || decide ((4000 : Int) < (w : Int) * (m : Int))) = true
      rw [decide_eq_true (by omega)]
      rfl
theorem dn_need_land (T : Txt P w K mg C_BadRule C_BadRules C_BadLand C_BadDay C_BadNumber C_BadSeen C_BadText C_Feast C_Calendar C_Line C_Walk) : Dn P w K mg base (L2.CX P w) "need_land" 3 ["value"] (spNeedLand K C_BadLand) := T.f_need_land.dn fun _ _ F _ _ => ok_need_land F T
end
end WF

set_option Elab.async false
set_option linter.all false
set_option maxRecDepth 100000
set_option maxHeartbeats 2000000
/-! counting: is_from, need_day, is_day, count -/
namespace WF
open PySem L2 Evl
section
variable {P : Program} {w : World} {K : PySem.W.Frag} {mg : Str → Option Value} {base : Heap} {C_BadRule C_BadRules C_BadLand C_BadDay C_BadNumber C_BadSeen C_BadText C_Feast C_Calendar C_Line C_Walk : Addr} {f : Addr} {fd : FuncData}
def fromB (o : Option Int) (least : Int) : Bool := match o with
  | some z => decide (least ≤ z) && decide (z ≤ 10 ^ 30)
  | none => false
def spIsFrom (K : PySem.W.Frag) : Sp := fun vs H Q _ => ∃ v o least, vs = [v, .int least] ∧ NumV K H v o ∧ RetV (.bl (fromB o least)) H Q
theorem ok_is_from (F : Fun K "is_from" "is_from" s_is_from f fd) (T : Txt P w K mg C_BadRule C_BadRules C_BadLand C_BadDay C_BadNumber C_BadSeen C_BadText C_Feast C_Calendar C_Line C_Walk) : FnOk P w K mg base CX0 1 f fd ["value", "least"] (spIsFrom K) := by
  refine F.ok sc_is_from (fun vs H Q E h => ?_) (fun cdv A outer s H vs Q E hr h => ?_)
  · obtain ⟨_, _, _, rfl, _⟩ := h
    rfl
  · obtain ⟨v, o, least, rfl, hV, k⟩ := h
    refine ⟨_, (pss_one (ps_ret (pe_and (pe_callB call_isi (by rfl) T.isinstance (by decide +kernel) (pa_cons (pv 0) (pa_cons (pe_bltn (v := .ty "int") (by rfl) T.int (by decide +kernel) rfl) pa_nil))) (pe_and (pe_not (pe_callB call_isi (by rfl) T.isinstance (by decide +kernel) (pa_cons (pv 0) (pa_cons (pe_bltn (v := .ty "bool") (by rfl) T.bool (by decide +kernel) rfl) pa_nil)))) (pe_one (pe_chain op_le op_le (pv 1) (pv 0) (pe_globE rfl T.g_GREATEST))))))), ?_⟩
    refine s_ret (ev_isInt3 (ev_var rfl) hV (fun z ho hz => ?_) (fun ho => by rw [ho]; rfl)) k
    subst ho hz
    exact ev_chain (ev_var rfl) (ev_var rfl) rv_I0 (fun _ => ev_c) (fun _ => rv_I0)
theorem dn_is_from (T : Txt P w K mg C_BadRule C_BadRules C_BadLand C_BadDay C_BadNumber C_BadSeen C_BadText C_Feast C_Calendar C_Line C_Walk) : Dn P w K mg base CX0 "is_from" 1 ["value", "least"] (spIsFrom K) := T.f_is_from.dn fun _ _ F _ _ => ok_is_from F T
def dayB (o : Option Int) : Bool := fromB o (-(10 ^ 30))
def spNeedDay (K : PySem.W.Frag) (C : Addr) : Sp := fun vs H Q E => ∃ v o, vs = [v] ∧ NumV K H v o ∧ (dayB o = true → RetV .non H Q) ∧ (dayB o = false → ∀ H1, Ex H H1 → E (.ref C) none H1)
theorem ok_need_day (F : Fun K "need_day" "need_day" s_need_day f fd) (T : Txt P w K mg C_BadRule C_BadRules C_BadLand C_BadDay C_BadNumber C_BadSeen C_BadText C_Feast C_Calendar C_Line C_Walk) : FnOk P w K mg base (L2.CX P w) 2 f fd ["value"] (spNeedDay K C_BadDay) := by
  have D_is_from : Dn P w K mg base CX0 "is_from" 1 ["value", "least"] (spIsFrom K) := dn_is_from T
  refine F.okX sc_need_day (fun vs H Q E h => ?_) (fun cdv A outer s H vs Q E hr h => ?_)
  · obtain ⟨_, _, rfl, _⟩ := h
    rfl
  · obtain ⟨v, o, rfl, hV, kG, kB⟩ := h
    refine ⟨_, (pss_one (ps_if (pt_not (pt_val (pe_fn D_is_from (hr.mono (by omega)) pass0 rfl (pa_cons (pv 0) (pa_cons (pe_un un_neg (pe_globE rfl T.g_GREATEST)) pa_nil))))) (pss_one (ps_raise0 rfl (takes_of rfl rfl rfl rfl) T.e_BadDay T.c_BadDay rfl))
  pss_nil)), ?_⟩
    refine s_when (et_not (et_B (ev_call (ea_cons (ev_var rfl) (ea_cons (ev_un ev_c ru_neg) ea_nil)) (spV (z := .bl (dayB o)) fun H1 e Q _ q => ⟨_, _, _, rfl, hV.mono e, q⟩)))) (fun hb H1 e1 => ?_) (fun hb H1 e1 => ?_)
    · exact kB (by simpa using hb) H1 e1
    · exact kG (by simpa using hb) H1 e1
theorem dn_need_day (T : Txt P w K mg C_BadRule C_BadRules C_BadLand C_BadDay C_BadNumber C_BadSeen C_BadText C_Feast C_Calendar C_Line C_Walk) : Dn P w K mg base (L2.CX P w) "need_day" 2 ["value"] (spNeedDay K C_BadDay) := T.f_need_day.dn fun _ _ F _ _ => ok_need_day F T
theorem fig_at {N : Nat} {p : Int → Bool} (hp : Per (N : Int) p) (hN : 0 < N) (d : Int) : V.bl (decide (V.int (Builtin.bitAnd ((figN N p : Int) / 2 ^ (d % (N : Int)).toNat) 1) = V.int 1)) = V.bl (p d) := by
  have h0 : 0 ≤ d % (N : Int) := Int.emod_nonneg _ (by omega)
  have h1 : d % (N : Int) < (N : Int) := Int.emod_lt_of_pos _ (by omega)
  have hb := figN_bit N p (d % (N : Int)).toNat
  rw [decide_eq_true (show (d % (N : Int)).toNat < N by omega), Bool.true_and, Int.toNat_of_nonneg h0, hp.emod] at hb
  rw [← hb, Nat.testBit_eq_decide_div_mod_eq, PyProof.Rows.bitAnd_m1]
  have e : (figN N p : Int) / 2 ^ (d % (N : Int)).toNat % 2 = ((figN N p / 2 ^ (d % (N : Int)).toNat % 2 : Nat) : Int) := by
    rw [Int.natCast_emod, Int.natCast_ediv, Int.natCast_pow]; rfl
  rw [e]
  refine congrArg V.bl ?_
  by_cases h : figN N p / 2 ^ (d % (N : Int)).toNat % 2 = 1
  · rw [h]; rfl
  · rw [decide_eq_false h, decide_eq_false]
    intro q
    injection q with q
    omega
/-- what is asked of a calendar, a land and the rest: BadLand, an error behind, or an answer -/
def spIsDay (K : PySem.W.Frag) (CF CC CL CD : Addr) : Sp := fun vs H Q E => ∃ c l d o z, vs = [c, l, d] ∧ NeedL K H l o ∧ NumV K H d z ∧
  (o = none → ∀ H1, Ex H H1 → E (.ref CL) none H1) ∧ (o ≠ none → dayB z = false → ∀ H1, Ex H H1 → E (.ref CD) none H1) ∧
  (∀ w m i, o = some (w, m) → z = some i → dayB z = true → ∃ rows, CalAt K CF CC H c rows ∧ depMax rows < 5 ∧ RetV (.bl (calDay w m rows i)) H Q)
theorem ok_is_day (F : Fun K "is_day" "is_day" s_is_day f fd) (T : Txt P w K mg C_BadRule C_BadRules C_BadLand C_BadDay C_BadNumber C_BadSeen C_BadText C_Feast C_Calendar C_Line C_Walk) (CF : Cls1 K C_Feast ["told", "bys"]) (CC : Cls1 K C_Calendar ["rows", "near"]) : FnOk P w K mg base (L2.CX P w) 8 f fd ["calendar", "land", "day"] (spIsDay K C_Feast C_Calendar C_BadLand C_BadDay) := by
  have D_need_land : Dn P w K mg base (L2.CX P w) "need_land" 3 ["value"] (spNeedLand K C_BadLand) := dn_need_land T
  have D_need_day : Dn P w K mg base (L2.CX P w) "need_day" 2 ["value"] (spNeedDay K C_BadDay) := dn_need_day T
  have D_days_of : Dn P w K mg base CX0 "days_of" 7 ["rows", "land"] (spDays K C_Feast) := dn_days T CF
  refine F.okX sc_is_day (fun vs H Q E h => ?_) (fun cdv A outer s H vs Q E hr h => ?_)
  · obtain ⟨_, _, _, _, _, rfl, _⟩ := h
    rfl
  · obtain ⟨c, l, d, o, z, rfl, hL, hZ, kL, kD, kG⟩ := h
    refine ⟨_, (pss_cons (ps_expr (pe_fn D_need_land (hr.mono (by omega)) (passes_call (takes_of rfl rfl rfl rfl) (fun _ _ _ _ h => h)) rfl (pa_cons (pv 1) pa_nil)))
  (pss_cons (ps_expr (pe_fn D_need_day (hr.mono (by omega)) (passes_call (takes_of rfl rfl rfl rfl) (fun _ _ _ _ h => h)) rfl (pa_cons (pv 2) pa_nil)))
  (pss_one (ps_ret (pe_cmpR op_eq (pe_op op_and (pe_op op_shr (pe_fn D_days_of (hr.mono (by omega)) pass0 rfl (pa_cons (pe_fld (pv 0) rfl) (pa_cons (pv 1) pa_nil))) (pe_op op_mod (pv 2) (pe_op op_mul (pe_ix ix_tup (pv 1) pe_int (fun _ _ => rfl)) (pe_ix ix_tup (pv 1) pe_int (fun _ _ => rfl))))) pe_int) pe_int (nomark _)))))), ?_⟩
    refine q_dropX (ea_cons (ev_var rfl) ea_nil) fun H1 e1 => ⟨l, o, rfl, hL.mono e1, fun ho H2 e2 => ?_, fun ho H2 e2 => kL ho H2 (e1.trans e2)⟩
    refine q_dropX (ea_cons (ev_var rfl) ea_nil) fun H3 e3 => ⟨d, z, rfl, hZ.mono ((e1.trans e2).trans e3), fun hz H4 e4 => ?_, fun hz H4 e4 => kD ho hz H4 (((e1.trans e2).trans e3).trans e4)⟩
    have E4 := ((e1.trans e2).trans e3).trans e4
    cases hL with
    | bad h => exact absurd rfl ho
    | big h c z0 z => exact absurd rfl ho
    | good hT hO cp zz =>
      rename_i la w m
      cases hZ with
      | odd h n => cases hz
      | int i =>
        obtain ⟨rows, ⟨ca, dx, rv, rfl, hc, hrv⟩, hdep, k⟩ := kG w m i rfl rfl hz
        obtain ⟨w2, wm, m6, n5⟩ := id hO
        have hq : ((w * m : Nat) : Int) = (w : Int) * (m : Int) := Int.natCast_mul w m
        have hT4 := ex_t E4 hT
        have hper : Per ((w * m : Nat) : Int) (calDay w m rows) := by rw [hq]; exact cal_per w m rows
        have hpos := hO.pos
        refine s_ret (v := .bl (calDay w m rows i)) (ev_is (ev_op (ev_op (ev_op (ev_call (ea_cons (ev_fld (ev_var rfl) (E4 _ _ hc) CC.cl (CC.no _ (by simp)) (calF_rows _ _)) (ea_cons (ev_var rfl) ea_nil)) (spv_days (hrv.mono E4) hdep hT4 hO)) (ev_op (ev_var rfl) (ev_is (ev_op (ev_ixT (ev_var rfl) hT4 rfl) (ev_ixT (ev_var rfl) hT4 rfl) (rv_I (.inl ⟨by omega, by omega⟩))) (by rw [← hq])) (rv_I (by omega))) (rv_I (Int.emod_nonneg _ (by omega)))) ev_c rv_I0) ev_c (rv_eq rfl)) (fig_at hper hpos i)) fun H5 e5 => k H5 (E4.trans e5)
theorem dn_is_day (T : Txt P w K mg C_BadRule C_BadRules C_BadLand C_BadDay C_BadNumber C_BadSeen C_BadText C_Feast C_Calendar C_Line C_Walk) (CF : Cls1 K C_Feast ["told", "bys"]) (CC : Cls1 K C_Calendar ["rows", "near"]) : Dn P w K mg base (L2.CX P w) "is_day" 8 ["calendar", "land", "day"] (spIsDay K C_Feast C_Calendar C_BadLand C_BadDay) := T.f_is_day.dn fun _ _ F _ _ => ok_is_day F T CF CC
def spCount (K : PySem.W.Frag) (CF CC CL : Addr) : Sp := fun vs H Q E => ∃ c l o, vs = [c, l] ∧ NeedL K H l o ∧ (o = none → ∀ H1, Ex H H1 → E (.ref CL) none H1) ∧
  (∀ w m, o = some (w, m) → ∃ rows, CalAt K CF CC H c rows ∧ depMax rows < 5 ∧ RetV (.int ((daysN (w * m) (calDay w m rows)).length : Nat)) H Q)
theorem ok_count (F : Fun K "count" "count" s_count f fd) (T : Txt P w K mg C_BadRule C_BadRules C_BadLand C_BadDay C_BadNumber C_BadSeen C_BadText C_Feast C_Calendar C_Line C_Walk) (CF : Cls1 K C_Feast ["told", "bys"]) (CC : Cls1 K C_Calendar ["rows", "near"]) : FnOk P w K mg base (L2.CX P w) 8 f fd ["calendar", "land"] (spCount K C_Feast C_Calendar C_BadLand) := by
  have D_need_land : Dn P w K mg base (L2.CX P w) "need_land" 3 ["value"] (spNeedLand K C_BadLand) := dn_need_land T
  have D_days_of : Dn P w K mg base CX0 "days_of" 7 ["rows", "land"] (spDays K C_Feast) := dn_days T CF
  have D_listed : Dn P w K mg base CX0 "listed" 1 ["figure"] spListed := dn_listed T
  refine F.okX sc_count (fun vs H Q E h => ?_) (fun cdv A outer s H vs Q E hr h => ?_)
  · obtain ⟨_, _, _, rfl, _⟩ := h
    rfl
  · obtain ⟨c, l, o, rfl, hL, kL, kG⟩ := h
    refine ⟨_, (pss_cons (ps_expr (pe_fn D_need_land (hr.mono (by omega)) (passes_call (takes_of rfl rfl rfl rfl) (fun _ _ _ _ h => h)) rfl (pa_cons (pv 1) pa_nil)))
  (pss_one (ps_ret (pe_callB call_len_seq (by rfl) T.len (by decide +kernel) (pa_cons (pe_fn D_listed (hr.mono (by omega)) pass0 rfl (pa_cons (pe_fn D_days_of (hr.mono (by omega)) pass0 rfl (pa_cons (pe_fld (pv 0) rfl) (pa_cons (pv 1) pa_nil))) pa_nil)) pa_nil))))), ?_⟩
    refine q_dropX (ea_cons (ev_var rfl) ea_nil) fun H1 e1 => ⟨l, o, rfl, hL.mono e1, fun ho H2 e2 => ?_, fun ho H2 e2 => kL ho H2 (e1.trans e2)⟩
    have E4 := e1.trans e2
    cases hL with
    | bad h => exact absurd rfl ho
    | big h c z0 z => exact absurd rfl ho
    | good hT hO cp zz =>
      rename_i la w m
      obtain ⟨rows, ⟨ca, dx, rv, rfl, hc, hrv⟩, hdep, k⟩ := kG w m rfl
      obtain ⟨w2, wm, m6, n5⟩ := id hO
      refine s_ret (ev_is (ev_lenN (el_call (ea_cons (ev_call (ea_cons (ev_fld (ev_var rfl) (E4 _ _ hc) CC.cl (CC.no _ (by simp)) (calF_rows _ _)) (ea_cons (ev_var rfl) ea_nil)) (spv_days (hrv.mono E4) hdep (ex_t E4 hT) hO)) ea_nil) (spL fun H5 _ Q _ q => ⟨w * m, calDay w m rows, rfl, by omega, q⟩))) (by rw [List.length_map])) fun H5 e5 => k H5 (E4.trans e5)
theorem dn_count (T : Txt P w K mg C_BadRule C_BadRules C_BadLand C_BadDay C_BadNumber C_BadSeen C_BadText C_Feast C_Calendar C_Line C_Walk) (CF : Cls1 K C_Feast ["told", "bys"]) (CC : Cls1 K C_Calendar ["rows", "near"]) : Dn P w K mg base (L2.CX P w) "count" 8 ["calendar", "land"] (spCount K C_Feast C_Calendar C_BadLand) := T.f_count.dn fun _ _ F _ _ => ok_count F T CF CC
end
end WF

set_option Elab.async false
set_option linter.all false
set_option maxRecDepth 100000
set_option maxHeartbeats 2000000
/-! the law's own defs: what is drawn -/
namespace WF
open PySem L2 Evl
section
variable {P : Program} {w : World} {K : PySem.W.Frag} {mg : Str → Option Value} {base : Heap} {C_BadRule C_BadRules C_BadLand C_BadDay C_BadNumber C_BadSeen C_BadText C_Feast C_Calendar C_Line C_Walk : Addr} {f : Addr} {fd : FuncData}
def spRandom (K : PySem.W.Frag) : Sp := fun vs H Q _ => ∃ (a : Addr) (ns : List Int) (salt : Int), vs = [.ref a, .int salt] ∧ SqL K H a (ns.map V.int) ∧ ns.length ≤ 63 ∧ 0 ≤ salt ∧ salt < 1000000 ∧ ∀ p H2 xs, Good xs → H p = none → Ex H H2 → H2 p = some (.lst xs) → Q (.ref p) H2
theorem ok_random (F : Fun K "_law_random" "_law_random" s_l_random f fd) (T : Txt P w K mg C_BadRule C_BadRules C_BadLand C_BadDay C_BadNumber C_BadSeen C_BadText C_Feast C_Calendar C_Line C_Walk) : FnOk P w K mg base CX0 1 f fd ["_law_script", "_law_salt"] (spRandom K) := by
  refine F.ok sc_l_random (fun vs H Q E h => ?_) (fun cdv A outer s H vs Q E hr h => ?_)
  · obtain ⟨_, _, _, rfl, _⟩ := h
    rfl
  · obtain ⟨a, ns, salt, rfl, hA, hn, h0, h1, k⟩ := h
    refine ⟨_, (pss_cons (ps_set (i := 2) sc_l_random.nd rfl (by first | exact Or.inl rfl | exact Or.inr rfl) (pv 1))
  (pss_cons (ps_for PassesOwn.never rfl (pi_list (pv 0)) (pg_name (i := 3) sc_l_random.nd rfl (by first | exact Or.inl rfl | exact Or.inr rfl))
  (pss_one (ps_set (i := 2) sc_l_random.nd rfl (by first | exact Or.inl rfl | exact Or.inr rfl) (pe_op op_mod (pe_callTy call_int1 (by rfl) T.int (by decide +kernel) (pa_cons (pe_op op_add (pe_op op_mul (pv 2) pe_int) (pe_callB call_abs (by rfl) T.abs (by decide +kernel) (pa_cons (pv 3) pa_nil))) pa_nil)) pe_int))))
  (pss_one (ps_ret (pe_op op_cat (pe_lst (pa_cons (pv 2) (pa_cons pe_int pa_nil))) (pe_lc (own := [("_law_cell", 3)]) (g := gName 3) rfl sc_l_random.nd (pi_list (pv 0)) (blkOk_by (own := [("_law_cell", 3)]) (N := ["_law_script", "_law_salt", "_law_seed", "_law_cell"]) (sc := defScope s_l_random) (by decide +kernel)) (fun _ _ _ _ _ => (pg_name (i := 3) sc_l_random.nd rfl (by first | exact Or.inl rfl | exact Or.inr rfl))) (fun _ _ _ _ _ => (pts_one (pt_cmpR op_ge (pv 3) (pe_op op_pow pe_int pe_int) (nomark _)))) (fun _ _ _ _ _ => (pv 3)))))))), ?_⟩
    refine q_asg (ev_var rfl) fun H1 e1 => ?_
    refine q_forLn (ev_var rfl) (ex_l e1 hA) (fun i σ H' => Ex H H' ∧ ∃ z c, 0 ≤ z ∧ z < 2147483647 ∧ σ = [some (.ref a), some (.int salt), some (.int z), c]) (fun H2 e2 => ⟨e1.trans e2, salt, none, h0, by omega, rfl⟩) (fun i σ' H' _ h => ex_l h.1 hA) ?_ ?_
    · rintro i x σ' H' hi ⟨e, z, c, hz0, hz1, rfl⟩
      obtain ⟨n, _, rfl⟩ : ∃ n, ns[i]? = some n ∧ x = .int n := by
        rw [List.getElem?_map] at hi
        cases en : ns[i]? with
        | none => rw [en] at hi; cases hi
        | some n => rw [en] at hi; exact ⟨n, rfl, (Option.some.inj hi).symm⟩
      refine s_asg (ev_op (ev_int1 (ev_op (ev_op (ev_var rfl) ev_c (rv_I (.inl ⟨by omega, by omega⟩))) (ev_abs (ev_var rfl)) rv_I0)) ev_c (rv_I (by decide))) fun H2 e2 => ⟨e.trans e2, _, _, Int.emod_nonneg _ (by decide), Int.emod_lt_of_pos _ (by decide), rfl⟩
    · rintro σ' H' ⟨e, z, c, hz0, hz1, rfl⟩
      refine s_retL (el_cat (el_lst (ea_cons (ev_var rfl) (ea_cons ev_c ea_nil)) (by show 2 ≤ 100000; decide)) (el_lcL (fun i => decide (10 ^ 18 ≤ ns.getD i 0)) (fun i => .int (ns.getD i 0)) (ev_var rfl) (ex_l e hA) (by rw [List.length_map]; omega) (fun _ => rfl) (fun i x H2 e2 hi => ?_) (fun i x H2 e2 hi hf => ?_)) ?_) fun p H2 hp e2 h2 => ?_
      · have hx : x = .int (ns.getD i 0) := by
          rw [List.getElem?_map] at hi
          rw [List.getD_eq_getElem?_getD]
          cases en : ns[i]? with
          | none => rw [en] at hi; cases hi
          | some n => rw [en] at hi; exact (Option.some.inj hi).symm
        subst hx
        exact et_cmp (ev_var rfl) (ev_op ev_c ev_c (rv_I ⟨by decide, by decide, by decide⟩)) rv_I0
      · have hx : x = .int (ns.getD i 0) := by
          rw [List.getElem?_map] at hi
          rw [List.getD_eq_getElem?_getD]
          cases en : ns[i]? with
          | none => rw [en] at hi; cases hi
          | some n => rw [en] at hi; exact (Option.some.inj hi).symm
        subst hx
        exact ev_var rfl
      · have := given_len (ns.map V.int).length (fun i => decide (10 ^ 18 ≤ ns.getD i 0)) (fun i => V.int (ns.getD i 0))
        rw [List.length_map] at this ⊢
        show 2 + _ ≤ 100000
        omega
      · refine k p H2 _ ⟨z, 0, ((List.range ns.length).filter fun i => decide (10 ^ 18 ≤ ns.getD i 0)).map fun i => ns.getD i 0, ?_, hz0, hz1, Int.le_refl _, fun b hb => ?_, ?_⟩ (fresh_back e hp) (e.trans e2) h2
        · rw [List.map_map, List.length_map]
          rfl
        · rw [List.mem_map] at hb
          obtain ⟨i, hi, rfl⟩ := hb
          rw [List.mem_filter] at hi
          have h18 := of_decide_eq_true hi.2
          have : (0 : Int) ≤ 10 ^ 18 := by decide
          omega
        · rw [List.length_map]
          have := List.length_filter_le (fun i => decide (10 ^ 18 ≤ ns.getD i 0)) (List.range ns.length)
          rw [List.length_range] at this
          omega
theorem dn_random (T : Txt P w K mg C_BadRule C_BadRules C_BadLand C_BadDay C_BadNumber C_BadSeen C_BadText C_Feast C_Calendar C_Line C_Walk) : Dn P w K mg base CX0 "_law_random" 1 ["_law_script", "_law_salt"] (spRandom K) := T.f_l_random.dn fun _ _ F _ _ => ok_random F T
def spBelow : Sp := fun vs H Q _ => ∃ (d : Addr) (xs : List V) (n : Int), vs = [.ref d, .int n] ∧ H d = some (.lst xs) ∧ Good xs ∧ 1 ≤ n ∧ n < 1073741824 ∧ ∀ (r : Nat) xs' H', (r : Int) < n → Good xs' → ExB d H H' → H' d = some (.lst xs') → Q (.int r) H'
theorem at1 {x y : V} {xs : List V} : atI (x :: y :: xs) 1 = some y := atI_nat (j := 1) rfl
theorem ixN0 {n : Nat} (h : 0 < n) : ixN n 0 = some 0 := by
  have := ixN_nat (n := n) (j := 0) h
  exact this
theorem ixN1 {n : Nat} (h : 1 < n) : ixN n 1 = some 1 := ixN_nat (n := n) (j := 1) h
theorem ok_below (F : Fun K "_law_below" "_law_below" s_l_below f fd) (T : Txt P w K mg C_BadRule C_BadRules C_BadLand C_BadDay C_BadNumber C_BadSeen C_BadText C_Feast C_Calendar C_Line C_Walk) : FnOk P w K mg base CX0 1 f fd ["_law_d", "_law_size"] spBelow := by
  refine F.ok sc_l_below (fun vs H Q E h => ?_) (fun cdv A outer s H vs Q E hr h => ?_)
  · obtain ⟨_, _, _, rfl, _⟩ := h
    rfl
  · obtain ⟨d, xs, n, rfl, hd, hg, h1, h2, k⟩ := h
    refine ⟨_, (Evl.pss_cut (ps_if (PW.pt (pw_and (pt_cmpR op_eq (pe_ix ix_list (pv 0) pe_int (fun _ _ => rfl)) pe_int (nomark _)) (pw_and1 (pt_cmpR op_gt (pe_callB call_len_seq (by rfl) T.len (by decide +kernel) (pa_cons (pv 0) pa_nil)) pe_int (nomark _))))) (pss_one (ps_asg (pe_bm PySem.F.plainAttrs_list PySem.F.slot_list_pop PySem.F.type_list_pop mt_popAt (pv 0) (pa_cons pe_int pa_nil)) (pg_sub (pv 0) pe_int set_list)))
  pss_nil)
  (pss_cons (ps_if (pt_cmpR op_gt (pe_ix ix_list (pv 0) pe_int (fun _ _ => rfl)) pe_int (nomark _)) (pss_cons (ps_set (i := 2) sc_l_below.nd rfl (by first | exact Or.inl rfl | exact Or.inr rfl) (pe_op op_mod (pe_callTy call_int1 (by rfl) T.int (by decide +kernel) (pa_cons (pe_ix ix_list (pv 0) pe_int (fun _ _ => rfl)) pa_nil)) (pv 1)))
  (pss_cons (ps_asg (pe_op op_fdiv (pe_ix ix_list (pv 0) pe_int (fun _ _ => rfl)) (pv 1)) (pg_sub (pv 0) pe_int set_list))
  (pss_one (ps_ret (pv 2)))))
  pss_nil)
  (pss_cons (ps_asg (pe_op op_mod (pe_callTy call_int1 (by rfl) T.int (by decide +kernel) (pa_cons (pe_op op_add (pe_op op_mul (pe_ix ix_list (pv 0) pe_int (fun _ _ => rfl)) pe_int) pe_int) pa_nil)) pe_int) (pg_sub (pv 0) pe_int set_list))
  (pss_one (ps_ret (pe_op op_mod (pe_callTy call_int1 (by rfl) T.int (by decide +kernel) (pa_cons (pe_op op_fdiv (pe_ix ix_list (pv 0) pe_int (fun _ _ => rfl)) pe_int) pa_nil)) (pv 1))))))), ?_⟩
    obtain ⟨z, r, bs, rfl, hz0, hz1, hr0, hbs, hl⟩ := hg
    refine q_cut (M := fun σ' H' => σ' = [some (.ref d), some (.int n), none] ∧ ∃ (z r : Int) (bs : List Int), H' d = some (.lst (.int z :: .int r :: bs.map V.int)) ∧ 0 ≤ z ∧ z < 2147483647 ∧ 0 ≤ r ∧ (∀ b ∈ bs, 0 ≤ b) ∧ bs.length ≤ 100 ∧ ExB d H H') ?_ ?_
    · refine s_when (et_and (et_cmp (ev_ixL (ev_var rfl) (sq_of hd) at1) ev_c (rv_eq rfl)) fun _ => et_cmp (ev_lenL (ev_var rfl) (sq_of hd)) ev_c rv_I0) (fun hb H1 e1 => ?_) (fun hb H1 e1 => ⟨rfl, z, r, bs, e1 _ _ hd, hz0, hz1, hr0, hbs, hl, ExB.of e1⟩)
      rw [Bool.and_eq_true] at hb
      have hlen := of_decide_eq_true hb.2
      cases bs with
      | nil => exact absurd hlen (by simp)
      | cons b bs =>
        refine ⟨_, rfl, .inl ⟨rfl, _, sq_of (e1 _ _ hd)⟩, d, _, 2, 2, .int b, rfl, rfl, e1 _ _ hd, by decide, by decide, ?_, rfl, _, rfl, d, _, 1, 1, rfl, rfl, upd_same, ?_, ?_⟩
        · show (if 0 ≤ (2 : Int) && (2 : Int) < (((V.int z :: V.int r :: (b :: bs).map V.int).length : Nat) : Int) then some (2 : Int).toNat else none) = some 2
          rw [if_pos]
          · rfl
          · simp
            omega
        · exact ixN1 (by simp)
        · refine ⟨rfl, z, b, bs, upd_same, hz0, hz1, hbs b List.mem_cons_self, fun c hc => hbs c (List.mem_cons_of_mem _ hc), ?_, (ExB.of e1).upd.upd⟩
          simp at hl
          omega
    · rintro σ' H' ⟨rfl, z, r, bs, hd', hz0, hz1, hr0, hbs, hl, eb⟩
      refine q_when (et_cmp (ev_ixL (ev_var rfl) (sq_of hd') at1) ev_c rv_I0) (fun hb H1 e1 => ?_) (fun hb H1 e1 => ?_)
      · refine q_asg (ev_op (ev_int1 (ev_ixL (ev_var rfl) (sq_of (e1 _ _ hd')) at1)) (ev_var rfl) (rv_I (by omega))) fun H2 e2 => ?_
        refine q_setI (j := 1) ((e1.trans e2) _ _ hd') (ev_op (ev_ixL (ev_var rfl) (sq_of ((e1.trans e2) _ _ hd')) at1) (ev_var rfl) (rv_I ⟨by omega, h2⟩)) (ev_var rfl) (ixN1 (by simp)) fun H3 e3 => ?_
        refine s_ret (ev_var rfl) fun H4 e4 => ?_
        have hm0 := Int.emod_nonneg r (show n ≠ 0 by omega)
        have hm1 := Int.emod_lt_of_pos r (show 0 < n by omega)
        have hk := k (r % n).toNat _ H4 (by omega) ⟨z, r / n, bs, rfl, hz0, hz1, Int.ediv_nonneg hr0 (by omega), hbs, hl⟩ (((eb.step ((e1.trans e2).trans e3)).upd).step e4) (e4 _ _ upd_same)
        rw [Int.toNat_of_nonneg hm0] at hk
        exact hk
      · refine q_setI (j := 0) (e1 _ _ hd') (ev_op (ev_int1 (ev_op (ev_op (ev_ixL (ev_var rfl) (sq_of (e1 _ _ hd')) at0) ev_c (rv_I (.inl ⟨by omega, by omega⟩))) ev_c rv_I0)) ev_c (rv_I (by decide))) (ev_var rfl) (ixN0 (by simp)) fun H2 e2 => ?_
        refine s_ret (ev_op (ev_int1 (ev_op (ev_ixL (ev_var rfl) (sq_of upd_same) at0) ev_c (rv_I ⟨by decide, by decide⟩))) (ev_var rfl) (rv_I (by omega))) fun H4 e4 => ?_
        have hm0 := Int.emod_nonneg ((z * 48271 + 11) % 2147483647 / 64) (show n ≠ 0 by omega)
        have hm1 := Int.emod_lt_of_pos ((z * 48271 + 11) % 2147483647 / 64) (show 0 < n by omega)
        have hk := k ((z * 48271 + 11) % 2147483647 / 64 % n).toNat _ H4 (by omega) ⟨(z * 48271 + 11) % 2147483647, r, bs, rfl, Int.emod_nonneg _ (by decide), Int.emod_lt_of_pos _ (by decide), hr0, hbs, hl⟩ (((eb.step (e1.trans e2)).upd).step e4) (e4 _ _ upd_same)
        rw [Int.toNat_of_nonneg hm0] at hk
        exact hk
theorem dn_below (T : Txt P w K mg C_BadRule C_BadRules C_BadLand C_BadDay C_BadNumber C_BadSeen C_BadText C_Feast C_Calendar C_Line C_Walk) : Dn P w K mg base CX0 "_law_below" 1 ["_law_d", "_law_size"] spBelow := T.f_l_below.dn fun _ _ F _ _ => ok_below F T
end
end WF

set_option Elab.async false
set_option linter.all false
set_option maxRecDepth 100000
set_option maxHeartbeats 2000000
/-! pick, leaf, rule -/
namespace WF
open PySem L2 Evl
section
variable {P : Program} {w : World} {K : PySem.W.Frag} {mg : Str → Option Value} {base : Heap} {C_BadRule C_BadRules C_BadLand C_BadDay C_BadNumber C_BadSeen C_BadText C_Feast C_Calendar C_Line C_Walk : Addr} {f : Addr} {fd : FuncData}
def spPick (K : PySem.W.Frag) : Sp := fun vs H Q _ => ∃ (d l : Addr) (xs ys : List V), vs = [.ref d, .ref l] ∧ H d = some (.lst xs) ∧ Good xs ∧ SqL K H l ys ∧ l ≠ d ∧ 1 ≤ ys.length ∧ ys.length ≤ 1000000 ∧
  ∀ y xs' H', y ∈ ys → Good xs' → ExB d H H' → H' d = some (.lst xs') → Q y H'
/-- pick of a new list -/
theorem pick_new {σ : L2.St} {H : Hp} {ta tl : TE} {d : Addr} {xs ys : List V} {Q : VK} {E : XK} (h0 : Ev ta σ H (.ref d)) (hl : EvL tl σ H ys) (hd : H d = some (.lst xs)) (hg : Good xs) (h1 : 1 ≤ ys.length) (h2 : ys.length ≤ 1000000)
    (k : ∀ y xs' H', y ∈ ys → Good xs' → ExB d H H' → H' d = some (.lst xs') → Q y H') : tCall (spPick K) [] E (tCons ta (tCons tl tNil)) σ H Q :=
  h0 H (Ex.refl H) _ fun H1 e1 => hl H1 e1 _ fun p H2 hp e2 hp2 => ⟨d, p, xs, ys, rfl, (e1.trans e2) _ _ hd, hg, sq_of hp2, (ne_of_none (e1 _ _ hd) hp).symm, h1, h2, fun y xs' H' hy hg' eb hd' =>
    k y xs' H' hy hg' (fun b o hb q => eb b o hb ((e1.trans e2) b o q)) hd'⟩
theorem below_ev {σ : L2.St} {H : Hp} {ta tb : TE} {d : Addr} {xs : List V} {n : Int} {Q : VK} {E : XK} (h0 : Ev ta σ H (.ref d)) (hl : Ev tb σ H (.int n)) (hd : H d = some (.lst xs)) (hg : Good xs) (h1 : 1 ≤ n) (h2 : n < 1073741824)
    (k : ∀ (r : Nat) xs' H', (r : Int) < n → Good xs' → ExB d H H' → H' d = some (.lst xs') → Q (.int r) H') : tCall spBelow [] E (tCons ta (tCons tb tNil)) σ H Q :=
  call_ev (ea_cons h0 (ea_cons hl ea_nil)) fun H1 e1 => ⟨d, xs, n, rfl, e1 _ _ hd, hg, h1, h2, fun r xs' H' hr hg' eb hd' => k r xs' H' hr hg' (fun b o hb q => eb b o hb (e1 b o q)) hd'⟩
/-- below(..) == c -/
theorem below_eq {σ : L2.St} {H : Hp} {ta tb : TE} {d : Addr} {xs : List V} {n c : Int} {Q : Bool → Hp → Prop} {E : XK} (h0 : Ev ta σ H (.ref d)) (hl : Ev tb σ H (.int n)) (hd : H d = some (.lst xs)) (hg : Good xs) (h1 : 1 ≤ n) (h2 : n < 1073741824)
    (k : ∀ (r : Nat) xs' H', (r : Int) < n → Good xs' → ExB d H H' → H' d = some (.lst xs') → Q (decide (V.int r = V.int c)) H') : tTest (tOp rEq (tCall spBelow [] E (tCons ta (tCons tb tNil))) (tC (.int c))) σ H Q :=
  below_ev h0 hl hd hg h1 h2 fun r xs' H' hr hg' eb hd' => ⟨rfl, _, rfl, k r xs' H' hr hg' eb hd'⟩
def spLeaf (K : PySem.W.Frag) : Sp := fun vs H Q _ => ∃ (d : Addr) (xs : List V), vs = [.ref d] ∧ H d = some (.lst xs) ∧ Good xs ∧
  ∀ v r xs' H', RlAt K H' v r → r.fit = true → r.parts = 1 → r.bys = 0 → Good xs' → ExB d H H' → H' d = some (.lst xs') → Q v H'
def spRule (K : PySem.W.Frag) (n : Nat) : Sp := fun vs H Q _ => ∃ (d l : Addr) (xs : List V) (p b : Nat), vs = [.ref d, .ref l] ∧ H d = some (.lst xs) ∧ Good xs ∧ H l = some (.lst [.int (p : Int), .int (b : Int)]) ∧ d ≠ l ∧ p < n ∧ b ≤ 100 ∧
  ∀ v r xs' (p' b' : Nat) H', RlAt K H' v r → r.fit = true → r.parts + p' = 1 + p → r.bys + b' = b → Good xs' → H' d = some (.lst xs') → H' l = some (.lst [.int (p' : Int), .int (b' : Int)]) → ExB2 d l H H' → Q v H'
end
end WF

set_option Elab.async false
set_option linter.all false
set_option maxRecDepth 100000
set_option maxHeartbeats 2000000
/-! rows, made -/
namespace WF
open PySem L2 Evl
section
variable {P : Program} {w : World} {K : PySem.W.Frag} {mg : Str → Option Value} {base : Heap} {C_BadRule C_BadRules C_BadLand C_BadDay C_BadNumber C_BadSeen C_BadText C_Feast C_Calendar C_Line C_Walk : Addr} {f : Addr} {fd : FuncData}
def spRows (K : PySem.W.Frag) : Sp := fun vs H Q _ => ∃ (d : Addr) (xs : List V) (many parts : Nat), vs = [.ref d, .int many, .int parts] ∧ H d = some (.lst xs) ∧ Good xs ∧ many ≤ 3 ∧ 1 ≤ parts ∧ parts ≤ 5 ∧
  ∀ p ys rows xs' H', H p = none → H' p = some (.lst ys) → RawL K H' ys rows → rows.length = many → RowsOk parts rows → Good xs' → ExB d H H' → H' d = some (.lst xs') → Q (.ref p) H'
def spMade (K : PySem.W.Frag) (CF CC : Addr) : Sp := fun vs H Q _ => ∃ (l : Addr) (ys : List V) (rows : Rows), vs = [.ref l] ∧ SqL K H l ys ∧ RawL K H ys rows ∧ rows.length ≤ 3 ∧ RowsOk 5 rows ∧ ∀ p H2, H p = none → Ex H H2 → CalAt K CF CC H2 (.ref p) rows → Q (.ref p) H2
theorem tup_RV {σ : L2.St} {H : Hp} {ta tb : TE} {R : Addr → Hp → Prop} {y : V} {Q : VK} (ha : EvR ta σ H R) (hb : ∀ H1, Ex H H1 → Ev tb σ H1 y) (k : ∀ p t H1 H2, Ex H H1 → R p H1 → Ex H1 H2 → H2 t = some (.tup [.ref p, y]) → Q (.ref t) H2) : tTup (tCons ta (tCons tb tNil)) σ H Q :=
  ha H (Ex.refl H) _ fun p H1 hp e1 hR => hb H1 e1 H1 (Ex.refl H1) _ fun H2 e2 => ⟨by show 2 ≤ sizeLine; decide, fun t ht => k p t H1 _ e1 hR (e2.trans (Ex.new ht)) upd_same⟩
/-- Calendar(a new tuple of rows) -/
theorem er_calX {CF CC : Addr} {σ : L2.St} {H : Hp} {ta : TE} {rows : Rows} {E : XK} (h : EvR ta σ H fun p H2 => ∃ zs, H2 p = some (.tup zs) ∧ RowsL K CF H2 zs rows) (hl : rows.length ≤ 3) (hb : rowsBys rows ≤ 4) :
    EvR (tMake CC (spCal K CF CC) [] E (tCons ta tNil)) σ H fun p H2 => CalAt K CF CC H2 (.ref p) rows := fun H1 e Q q => h H1 e _ fun p H2 hp e2 ⟨zs, h1, h2⟩ =>
  er_cal (K := K) (CF := CF) (CC := CC) (σ := σ) (H := H2) (v := .ref p) (rows := rows) (ta := fun _ H Q => Q [.ref p] H) (E := E) (fun H3 _ Q q => q H3 (Ex.refl H3)) ⟨p, zs, rfl, st_of h1, h2⟩ hl hb H2 (Ex.refl H2) Q fun p3 H3 hp3 e3 hc => q p3 H3 (fresh_back e2 hp3) (e2.trans e3) hc
end
end WF

set_option Elab.async false
set_option linter.all false
set_option maxRecDepth 100000
set_option maxHeartbeats 2000000
/-! the law's lands -/
namespace WF
open PySem L2 Evl
section
variable {P : Program} {w : World} {K : PySem.W.Frag} {mg : Str → Option Value} {base : Heap} {C_BadRule C_BadRules C_BadLand C_BadDay C_BadNumber C_BadSeen C_BadText C_Feast C_Calendar C_Line C_Walk : Addr} {f : Addr} {fd : FuncData}
theorem ev_min2 {σ : L2.St} {H : Hp} {ta : TE} {a b : Int} (h : EvL ta σ H [.int a, .int b]) : Ev (tCB (rMin K) (tCons ta tNil)) σ H (.int (min a b)) := fun H1 e Q q =>
  h H1 e _ fun p H2 _ e2 h2 => ⟨p, [a, b], rfl, sq_of h2, by show 0 < 2; decide, fun m hm hle => by
    have h1 := hle a (by simp)
    have h2 := hle b (by simp)
    have : m = min a b := by
      simp at hm
      rcases hm with rfl | rfl <;> omega
    rw [this]
    exact q H2 e2⟩
def spLands (K : PySem.W.Frag) : Sp := fun vs H Q _ => ∃ (W M : Nat), vs = [.int W, .int M] ∧ 1 ≤ W ∧ W ≤ 100 ∧ M ≤ 100 ∧ ∀ p xs H2, H p = none → Ex H H2 → H2 p = some (.lst xs) → LandL K H2 xs (landsL W M (W + M - 4)) → Q (.ref p) H2
end
end WF

set_option Elab.async false
set_option linter.all false
set_option maxRecDepth 100000
set_option maxHeartbeats 1000000
/-! nth, ahead_of, between -/
namespace WF
open PySem L2 Evl
theorem dp_ints {K : PySem.W.Frag} {H : Hp} : ∀ ns : List Int, DpAll K H (ns.map V.int) (ns.map PyData.int)
  | [] => .nil
  | n :: ns => .cons (.int n) (dp_ints ns)
theorem eqv_nil : ∀ ns : List Int, PyData.eqv (.list (ns.map PyData.int)) (.list []) = decide (ns = [])
  | [] => rfl
  | _ :: _ => rfl
theorem filter_getD (ds : List Nat) (f : Nat → Bool) : ((List.range ds.length).filter fun i => f (ds.getD i 0)).map (fun i => ds.getD i 0) = ds.filter f := by
  induction ds with
  | nil => rfl
  | cons a ds ih =>
    rw [List.length_cons, List.range_succ_eq_map]
    have : ((List.map Nat.succ (List.range ds.length)).filter fun i => f ((a :: ds).getD i 0)) = ((List.range ds.length).filter fun i => f (ds.getD i 0)).map Nat.succ := by
      rw [List.filter_map]
      rfl
    by_cases h : f a = true
    · rw [List.filter_cons, if_pos (show f ((a :: ds).getD 0 0) = true from h), List.map_cons, this, List.map_map, List.filter_cons, if_pos h]
      exact congrArg (List.cons a) ih
    · rw [List.filter_cons, if_neg (show ¬ f ((a :: ds).getD 0 0) = true from h), this, List.map_map, List.filter_cons, if_neg h]
      exact ih
section
variable {P : Program} {w : World} {K : PySem.W.Frag} {mg : Str → Option Value} {base : Heap} {C_BadRule C_BadRules C_BadLand C_BadDay C_BadNumber C_BadSeen C_BadText C_Feast C_Calendar C_Line C_Walk : Addr} {f : Addr} {fd : FuncData}
theorem filter_len (ds : List Nat) (f : Nat → Bool) (v : Nat → V) : (given ds.length (fun i => f (ds.getD i 0)) v).length = (ds.filter f).length := by
  unfold given
  rw [List.length_map, ← filter_getD ds f, List.length_map]
def spAhead (K : PySem.W.Frag) : Sp := fun vs H Q _ => ∃ (a : Addr) (ds : List Nat) (N : Nat) (d : Int), vs = [.ref a, .int N, .int d] ∧ SqL K H a (ds.map fun (d : Nat) => V.int (d : Int)) ∧ ds.length ≤ 40000 ∧ 0 < N ∧ N ≤ 50000 ∧ RetV (.int (aheadD N ds d)) H Q
theorem getD_of {ds : List Nat} {i : Nat} {x : V} (h : (ds.map fun (d : Nat) => V.int (d : Int))[i]? = some x) : x = .int ((ds.getD i 0 : Nat) : Int) := by
  rw [List.getElem?_map] at h
  rw [List.getD_eq_getElem?_getD]
  cases e : ds[i]? with
  | none => rw [e] at h; cases h
  | some d => rw [e] at h; cases h; rfl
theorem ok_ahead (F : Fun K "ahead_of" "ahead_of" s_ahead_of f fd) (T : Txt P w K mg C_BadRule C_BadRules C_BadLand C_BadDay C_BadNumber C_BadSeen C_BadText C_Feast C_Calendar C_Line C_Walk) : FnOk P w K mg base CX0 1 f fd ["days", "round_days", "day"] (spAhead K) := by
  refine F.ok sc_ahead_of (fun vs H Q E h => ?_) (fun cdv A outer s H vs Q E hr h => ?_)
  · obtain ⟨_, _, _, _, rfl, _⟩ := h
    rfl
  · obtain ⟨a, ds, N, d, rfl, hL, hz, hN, hN5, k⟩ := h
    refine ⟨_, (pss_cons (ps_set (i := 3) sc_ahead_of.nd rfl (by first | exact Or.inl rfl | exact Or.inr rfl) (pe_op op_mod (pv 2) (pv 1)))
  (pss_one (ps_ret (pe_op op_add (pe_op op_mul (pe_op op_fdiv (pv 2) (pv 1)) (pe_callB call_len_seq (by rfl) T.len (by decide +kernel) (pa_cons (pv 0) pa_nil))) (pe_callB call_len_seq (by rfl) T.len (by decide +kernel) (pa_cons (pe_lc (own := [("one", 4)]) (g := gName 4) rfl sc_ahead_of.nd (pi_list (pv 0)) (blkOk_by (own := [("one", 4)]) (N := ["days", "round_days", "day", "part", "one"]) (sc := defScope s_ahead_of) (by decide +kernel)) (fun _ _ _ _ _ => (pg_name (i := 4) sc_ahead_of.nd rfl (by first | exact Or.inl rfl | exact Or.inr rfl))) (fun _ _ _ _ _ => (pts_one (pt_cmpR op_lt (pv 4) (pv 3) (nomark _)))) (fun _ _ _ _ _ => (pv 4))) pa_nil)))))), ?_⟩
    refine q_asg (ev_op (ev_var rfl) (ev_var rfl) (rv_I (by omega))) fun H1 e1 => ?_
    have hm := Int.emod_lt_of_pos d (show (0 : Int) < (N : Int) by omega)
    refine s_ret (ev_is (ev_op (ev_op (ev_op (ev_var rfl) (ev_var rfl) (rv_I ⟨by omega, by omega⟩)) (ev_lenL (ev_var rfl) (ex_l e1 hL)) (rv_I (.inr ⟨?_, ?_⟩))) (ev_lenN (el_lcL (fun i => decide (((ds.getD i 0 : Nat) : Int) < d % (N : Int))) (fun i => .int ((ds.getD i 0 : Nat) : Int)) (ev_var rfl) (ex_l e1 hL) (by rw [List.length_map]; exact hz) (fun _ => rfl) (fun i x H2 e2 hx => ?_) (fun i x H2 e2 hx _ => ?_))) rv_I0) ?_) fun H2 e2 => k H2 (e1.trans e2)
    all_goals first | (rw [List.length_map]; omega) | skip
    · rw [getD_of hx]
      exact et_cmp (ev_var rfl) (ev_var rfl) rv_I0
    · rw [getD_of hx]
      exact ev_var rfl
    · unfold aheadD
      rw [List.length_map, filter_len ds (fun (c : Nat) => decide ((c : Int) < d % (N : Int)))]
theorem dn_ahead (T : Txt P w K mg C_BadRule C_BadRules C_BadLand C_BadDay C_BadNumber C_BadSeen C_BadText C_Feast C_Calendar C_Line C_Walk) : Dn P w K mg base CX0 "ahead_of" 1 ["days", "round_days", "day"] (spAhead K) := T.f_ahead_of.dn fun _ _ F _ _ => ok_ahead F T
/-- xs == [] -/
theorem ev_eqNil {σ : L2.St} {H : Hp} {ta : TE} {a : Addr} {ds : List Nat} (h : Ev ta σ H (.ref a)) (ha : H a = some (.lst (ds.map fun (d : Nat) => V.int (d : Int)))) : Ev (tOp (rEqD K) ta (tLst tNil)) σ H (.bl (decide (ds = []))) :=
  ev_opL h (el_lst ea_nil (Nat.zero_le _)) fun p H1 hp e1 H2 e2 Q q => ⟨.list ((ds.map fun (d : Nat) => (d : Int)).map PyData.int), .list [], .lst (sq_of ((e1.trans e2) _ _ ha)) (by
    have := dp_ints (K := K) (H := H2) (ds.map fun (d : Nat) => (d : Int))
    rw [List.map_map] at this
    exact this), .lst (sq_of (e2 _ _ hp)) .nil, PySem.W.ke_shaped_ints _, PySem.W.ke_shaped_ints [], by
    rw [eqv_nil]
    have : decide ((ds.map fun (d : Nat) => (d : Int)) = []) = decide (ds = []) := by
      cases ds <;> rfl
    rw [this]
    exact q H2 (Ex.refl H2)⟩
def nthV (w m : Nat) (ds : List Nat) (n : Int) : V := if ds = [] then .non else .int (n / (ds.length : Int) * w * m + ((ds.getD (n % (ds.length : Int)).toNat 0 : Nat) : Int))
def spNth (K : PySem.W.Frag) (CF CC CL CN : Addr) : Sp := fun vs H Q E => ∃ c l v o z, vs = [c, l, v] ∧ NeedL K H l o ∧ NumV K H v z ∧ (o = none → ∀ H1, Ex H H1 → E (.ref CL) none H1) ∧ (o ≠ none → fromB z 0 = false → ∀ H1, Ex H H1 → E (.ref CN) none H1) ∧
  (∀ w m n, o = some (w, m) → z = some n → fromB z 0 = true → ∃ rows, CalAt K CF CC H c rows ∧ depMax rows < 5 ∧ RetV (nthV w m (daysN (w * m) (calDay w m rows)) n) H Q)
theorem ok_nth (F : Fun K "nth" "nth" s_nth f fd) (T : Txt P w K mg C_BadRule C_BadRules C_BadLand C_BadDay C_BadNumber C_BadSeen C_BadText C_Feast C_Calendar C_Line C_Walk) (CF : Cls1 K C_Feast ["told", "bys"]) (CC : Cls1 K C_Calendar ["rows", "near"]) : FnOk P w K mg base (L2.CX P w) 8 f fd ["calendar", "land", "n"] (spNth K C_Feast C_Calendar C_BadLand C_BadNumber) := by
  have D_need_land : Dn P w K mg base (L2.CX P w) "need_land" 3 ["value"] (spNeedLand K C_BadLand) := dn_need_land T
  have D_is_from : Dn P w K mg base CX0 "is_from" 1 ["value", "least"] (spIsFrom K) := dn_is_from T
  have D_days_of : Dn P w K mg base CX0 "days_of" 7 ["rows", "land"] (spDays K C_Feast) := dn_days T CF
  have D_listed : Dn P w K mg base CX0 "listed" 1 ["figure"] spListed := dn_listed T
  refine F.okX sc_nth (fun vs H Q E h => ?_) (fun cdv A outer s H vs Q E hr h => ?_)
  · obtain ⟨_, _, _, _, _, rfl, _⟩ := h
    rfl
  · obtain ⟨c, l, v, o, z, rfl, hL, hZ, kL, kN, kG⟩ := h
    have hr1 : Room 1 _ := hr.mono (by omega)
    refine ⟨_, (pss_cons (ps_expr (pe_fn D_need_land (hr.mono (by omega)) (passes_call (takes_of rfl rfl rfl rfl) (fun _ _ _ _ h => h)) rfl (pa_cons (pv 1) pa_nil)))
  (pss_cons (ps_if (pt_not (pt_val (pe_fn D_is_from (hr.mono (by omega)) pass0 rfl (pa_cons (pv 2) (pa_cons pe_int pa_nil))))) (pss_one (ps_raise0 rfl (takes_of rfl rfl rfl rfl) T.e_BadNumber T.c_BadNumber rfl))
  pss_nil)
  (pss_cons (ps_set (i := 3) sc_nth.nd rfl (by first | exact Or.inl rfl | exact Or.inr rfl) (pe_fn D_listed (hr.mono (by omega)) pass0 rfl (pa_cons (pe_fn D_days_of (hr.mono (by omega)) pass0 rfl (pa_cons (pe_fld (pv 0) rfl) (pa_cons (pv 1) pa_nil))) pa_nil)))
  (pss_cons (ps_if (pt_cmpR (op_eqD hr1.units) (pv 3) (pe_lst pa_nil) (nomark _)) (pss_one (ps_ret pe_non))
  pss_nil)
  (pss_one (ps_ret (pe_op op_add (pe_op op_mul (pe_op op_mul (pe_op op_fdiv (pv 2) (pe_callB call_len_seq (by rfl) T.len (by decide +kernel) (pa_cons (pv 3) pa_nil))) (pe_ix ix_tup (pv 1) pe_int (fun _ _ => rfl))) (pe_ix ix_tup (pv 1) pe_int (fun _ _ => rfl))) (pe_ix ix_list (pv 3) (pe_op op_mod (pv 2) (pe_callB call_len_seq (by rfl) T.len (by decide +kernel) (pa_cons (pv 3) pa_nil))) (fun _ _ => rfl))))))))), ?_⟩
    refine q_dropX (ea_cons (ev_var rfl) ea_nil) fun H1 e1 => ⟨l, o, rfl, hL.mono e1, fun ho H2 e2 => ?_, fun ho H2 e2 => kL ho H2 (e1.trans e2)⟩
    refine q_when (et_not (et_B (ev_call (ea_cons (ev_var rfl) (ea_cons ev_c ea_nil)) (spV (z := .bl (fromB z 0)) fun H3 e3 Q _ q => ⟨_, _, _, rfl, hZ.mono ((e1.trans e2).trans e3), q⟩)))) (fun hb H3 e3 => ?_) (fun hb H3 e3 => ?_)
    · exact kN ho (by simpa using hb) H3 ((e1.trans e2).trans e3)
    · have hb : fromB z 0 = true := by simpa using hb
      have E3 := (e1.trans e2).trans e3
      cases hL with
      | bad h => exact absurd rfl ho
      | big h c z0 z => exact absurd rfl ho
      | good hT hO cp zz =>
        rename_i la w m
        cases hZ with
        | odd h n => cases hb
        | int n =>
          obtain ⟨rows, ⟨ca, dx, rv, rfl, hc, hrv⟩, hdep, k⟩ := kG w m n rfl rfl hb
          obtain ⟨w2, wm, m6, n5⟩ := id hO
          have hn : 0 ≤ n ∧ n ≤ 10 ^ 30 := by
            have h : (decide (0 ≤ n) && decide (n ≤ 10 ^ 30)) = true := hb
            rw [Bool.and_eq_true, decide_eq_true_iff, decide_eq_true_iff] at h
            exact h
          have hlen := daysN_len (w * m) (calDay w m rows)
          refine q_asgL (el_call (ea_cons (ev_call (ea_cons (ev_fld (ev_var rfl) (E3 _ _ hc) CC.cl (CC.no _ (by simp)) (calF_rows _ _)) (ea_cons (ev_var rfl) ea_nil)) (spv_days (hrv.mono E3) hdep (ex_t E3 hT) hO)) ea_nil) (spL fun H5 _ Q _ q => ⟨w * m, calDay w m rows, rfl, by omega, q⟩)) fun D H4 hD e4 hD4 => ?_
          generalize hds : daysN (w * m) (calDay w m rows) = ds at hD4 hlen k
          refine q_when (et_test (ev_eqNil (ev_var rfl) hD4)) (fun hb H5 e5 => ?_) (fun hb H5 e5 => ?_)
          · refine s_ret ev_c fun H6 e6 => ?_
            have := k H6 (((E3.trans e4).trans e5).trans e6)
            unfold nthV at this
            rw [if_pos (of_decide_eq_true hb)] at this
            exact this
          · have hne := of_decide_eq_false hb
            have hpos : 0 < ds.length := List.length_pos_iff.mpr hne
            have h0 := Int.emod_nonneg n (show (ds.length : Int) ≠ 0 by omega)
            have h1 := Int.emod_lt_of_pos n (show (0 : Int) < (ds.length : Int) by omega)
            have hlt : (n % (ds.length : Int)).toNat < ds.length := by omega
            have hD5 := e5 _ _ hD4
            have hT5 := ex_t ((E3.trans e4).trans e5) hT
            have hlm : ((ds.map fun (d : Nat) => V.int (d : Int)).length : Int) = (ds.length : Int) := by rw [List.length_map]
            have hat : atI (ds.map fun (d : Nat) => V.int (d : Int)) (n % (ds.length : Int)) = some (.int ((ds.getD (n % (ds.length : Int)).toNat 0 : Nat) : Int)) := by
              have : (ds.map fun (d : Nat) => V.int (d : Int))[(n % (ds.length : Int)).toNat]? = some (.int ((ds.getD (n % (ds.length : Int)).toNat 0 : Nat) : Int)) := by
                rw [List.getElem?_map, List.getD_eq_getElem?_getD, List.getElem?_eq_getElem hlt]
                rfl
              have h2 := atI_nat this
              rwa [Int.toNat_of_nonneg h0] at h2
            refine s_ret (v := .int (n / (ds.length : Int) * w * m + ((ds.getD (n % (ds.length : Int)).toNat 0 : Nat) : Int))) (ev_op (ev_op (ev_op (ev_op (ev_var rfl) (ev_is (ev_lenL (ev_var rfl) (sq_of hD5)) (congrArg V.int hlm)) (rv_I ?_)) (ev_ixT (ev_var rfl) hT5 rfl) (rv_I (.inr ⟨by omega, by omega⟩))) (ev_ixT (ev_var rfl) hT5 rfl) (rv_I (.inr ⟨by omega, by omega⟩))) (ev_op (ev_var rfl) (ev_op (ev_var rfl) (ev_is (ev_lenL (ev_var rfl) (sq_of hD5)) (congrArg V.int hlm)) (rv_I (by show 0 < _; omega))) (rv_ixL (sq_of hD5) hat)) rv_I0) fun H6 e6 => ?_
            · refine ⟨by omega, ?_⟩
              omega
            · have := k H6 (((E3.trans e4).trans e5).trans e6)
              unfold nthV at this
              rw [if_neg hne] at this
              exact this
theorem dn_nth (T : Txt P w K mg C_BadRule C_BadRules C_BadLand C_BadDay C_BadNumber C_BadSeen C_BadText C_Feast C_Calendar C_Line C_Walk) (CF : Cls1 K C_Feast ["told", "bys"]) (CC : Cls1 K C_Calendar ["rows", "near"]) : Dn P w K mg base (L2.CX P w) "nth" 8 ["calendar", "land", "n"] (spNth K C_Feast C_Calendar C_BadLand C_BadNumber) := T.f_nth.dn fun _ _ F _ _ => ok_nth F T CF CC
end
end WF

set_option Elab.async false
set_option linter.all false
set_option maxRecDepth 100000
set_option maxHeartbeats 1000000
/-! between; the law's ahead -/
namespace WF
open PySem L2 Evl
section
variable {P : Program} {w : World} {K : PySem.W.Frag} {mg : Str → Option Value} {base : Heap} {C_BadRule C_BadRules C_BadLand C_BadDay C_BadNumber C_BadSeen C_BadText C_Feast C_Calendar C_Line C_Walk : Addr} {f : Addr} {fd : FuncData}
theorem q_parL {σ : L2.St} {H : Hp} {D : Ends} {tz : TS} {te tb : TE} {xs : List V} {v : V} {i j : Nat} (h : EvL te σ H xs) (h2 : Ev tb σ H v) (k : ∀ p H1, H p = none → Ex H H1 → H1 p = some (.lst xs) → tz D ((σ.set i (some (.ref p))).set j (some v)) H1) :
    tSeq (tPar i j (tCons te (tCons tb tNil))) tz D σ H := h H (Ex.refl H) _ fun p H1 hp e1 h1 => h2 H1 e1 _ fun H2 e2 => ⟨_, _, rfl, k p H2 hp (e1.trans e2) (e2 _ _ h1)⟩
def betweenN (N : Nat) (ds : List Nat) (lo hi : Int) : Int := if aheadD N ds (hi + 1) - aheadD N ds lo > 0 then aheadD N ds (hi + 1) - aheadD N ds lo else 0
def spBetween (K : PySem.W.Frag) (CF CC CL CD : Addr) : Sp := fun vs H Q E => ∃ c l v u o z y, vs = [c, l, v, u] ∧ NeedL K H l o ∧ NumV K H v z ∧ NumV K H u y ∧ (o = none → ∀ H1, Ex H H1 → E (.ref CL) none H1) ∧ (o ≠ none → (dayB z && dayB y) = false → ∀ H1, Ex H H1 → E (.ref CD) none H1) ∧
  (∀ w m i j, o = some (w, m) → z = some i → y = some j → (dayB z && dayB y) = true → ∃ rows, CalAt K CF CC H c rows ∧ depMax rows < 5 ∧ RetV (.int (betweenN (w * m) (daysN (w * m) (calDay w m rows)) i j)) H Q)
theorem ok_between (F : Fun K "between" "between" s_between f fd) (T : Txt P w K mg C_BadRule C_BadRules C_BadLand C_BadDay C_BadNumber C_BadSeen C_BadText C_Feast C_Calendar C_Line C_Walk) (CF : Cls1 K C_Feast ["told", "bys"]) (CC : Cls1 K C_Calendar ["rows", "near"]) : FnOk P w K mg base (L2.CX P w) 8 f fd ["calendar", "land", "low", "high"] (spBetween K C_Feast C_Calendar C_BadLand C_BadDay) := by
  have D_need_land : Dn P w K mg base (L2.CX P w) "need_land" 3 ["value"] (spNeedLand K C_BadLand) := dn_need_land T
  have D_need_day : Dn P w K mg base (L2.CX P w) "need_day" 2 ["value"] (spNeedDay K C_BadDay) := dn_need_day T
  have D_days_of : Dn P w K mg base CX0 "days_of" 7 ["rows", "land"] (spDays K C_Feast) := dn_days T CF
  have D_listed : Dn P w K mg base CX0 "listed" 1 ["figure"] spListed := dn_listed T
  have D_ahead_of : Dn P w K mg base CX0 "ahead_of" 1 ["days", "round_days", "day"] (spAhead K) := dn_ahead T
  refine F.okX sc_between (fun vs H Q E h => ?_) (fun cdv A outer s H vs Q E hr h => ?_)
  · obtain ⟨_, _, _, _, _, _, _, rfl, _⟩ := h
    rfl
  · obtain ⟨c, l, v, u, o, z, y, rfl, hL, hZ, hY, kL, kD, kG⟩ := h
    refine ⟨_, (pss_cons (ps_expr (pe_fn D_need_land (hr.mono (by omega)) (passes_call (takes_of rfl rfl rfl rfl) (fun _ _ _ _ h => h)) rfl (pa_cons (pv 1) pa_nil)))
  (pss_cons (ps_expr (pe_fn D_need_day (hr.mono (by omega)) (passes_call (takes_of rfl rfl rfl rfl) (fun _ _ _ _ h => h)) rfl (pa_cons (pv 2) pa_nil)))
  (pss_cons (ps_expr (pe_fn D_need_day (hr.mono (by omega)) (passes_call (takes_of rfl rfl rfl rfl) (fun _ _ _ _ h => h)) rfl (pa_cons (pv 3) pa_nil)))
  (pss_cons (ps_par (i := 4) (j := 5) (by rfl) sc_between.nd rfl rfl (by decide) rfl rfl (pa_cons (pe_fn D_listed (hr.mono (by omega)) pass0 rfl (pa_cons (pe_fn D_days_of (hr.mono (by omega)) pass0 rfl (pa_cons (pe_fld (pv 0) rfl) (pa_cons (pv 1) pa_nil))) pa_nil)) (pa_cons (pe_op op_mul (pe_ix ix_tup (pv 1) pe_int (fun _ _ => rfl)) (pe_ix ix_tup (pv 1) pe_int (fun _ _ => rfl))) pa_nil)) (by first | rfl | exact sw2 rfl rfl rfl rfl (by decide)))
  (pss_one (ps_ret (pe_callB (call_max2 rfl) (by rfl) T.max (by decide +kernel) (pa_cons pe_int (pa_cons (pe_op op_sub (pe_fn D_ahead_of (hr.mono (by omega)) pass0 rfl (pa_cons (pv 4) (pa_cons (pv 5) (pa_cons (pe_op op_add (pv 3) pe_int) pa_nil)))) (pe_fn D_ahead_of (hr.mono (by omega)) pass0 rfl (pa_cons (pv 4) (pa_cons (pv 5) (pa_cons (pv 2) pa_nil))))) pa_nil))))))))), ?_⟩
    refine q_dropX (ea_cons (ev_var rfl) ea_nil) fun H1 e1 => ⟨l, o, rfl, hL.mono e1, fun ho H2 e2 => ?_, fun ho H2 e2 => kL ho H2 (e1.trans e2)⟩
    have E2 := e1.trans e2
    refine q_dropX (ea_cons (ev_var rfl) ea_nil) fun H3 e3 => ⟨v, z, rfl, hZ.mono (E2.trans e3), fun hz H4 e4 => ?_, fun hz H4 e4 => kD ho (by rw [hz]; rfl) H4 ((E2.trans e3).trans e4)⟩
    have E4 := (E2.trans e3).trans e4
    refine q_dropX (ea_cons (ev_var rfl) ea_nil) fun H5 e5 => ⟨u, y, rfl, hY.mono (E4.trans e5), fun hy H6 e6 => ?_, fun hy H6 e6 => kD ho (by rw [hz, hy]; rfl) H6 ((E4.trans e5).trans e6)⟩
    have E6 := (E4.trans e5).trans e6
    cases hL with
    | bad h => exact absurd rfl ho
    | big h c z0 z => exact absurd rfl ho
    | good hT hO cp zz =>
      rename_i la w m
      cases hZ with
      | odd h n => cases hz
      | int i =>
        cases hY with
        | odd h n => cases hy
        | int j =>
          obtain ⟨rows, ⟨ca, dx, rv, rfl, hc, hrv⟩, hdep, k⟩ := kG w m i j rfl rfl rfl (by rw [hz, hy]; rfl)
          obtain ⟨w2, wm, m6, n5⟩ := id hO
          have hq : ((w * m : Nat) : Int) = (w : Int) * (m : Int) := Int.natCast_mul w m
          have hpos := hO.pos
          have hlen := daysN_len (w * m) (calDay w m rows)
          have hT6 := ex_t E6 hT
          refine q_parL (v := .int ((w * m : Nat) : Int)) (el_call (ea_cons (ev_call (ea_cons (ev_fld (ev_var rfl) (E6 _ _ hc) CC.cl (CC.no _ (by simp)) (calF_rows _ _)) (ea_cons (ev_var rfl) ea_nil)) (spv_days (hrv.mono E6) hdep hT6 hO)) ea_nil) (spL fun H5 _ Q _ q => ⟨w * m, calDay w m rows, rfl, by omega, q⟩)) (ev_is (ev_op (ev_ixT (ev_var rfl) hT6 rfl) (ev_ixT (ev_var rfl) hT6 rfl) (rv_I (.inl ⟨by omega, by omega⟩))) (by rw [hq])) fun D H7 hD e7 hD7 => ?_
          generalize hds : daysN (w * m) (calDay w m rows) = ds at hD7 hlen k
          refine s_ret (v := .int (betweenN (w * m) ds i j)) (ev_max2 ev_c (ev_op (ev_call (ea_cons (ev_var rfl) (ea_cons (ev_var rfl) (ea_cons (ev_op (ev_var rfl) ev_c rv_I0) ea_nil))) (spV (z := .int (aheadD (w * m) ds (j + 1))) fun H8 e8 Q _ q => ⟨_, ds, w * m, _, rfl, sq_of (e8 _ _ hD7), by omega, hpos, by omega, q⟩)) (ev_call (ea_cons (ev_var rfl) (ea_cons (ev_var rfl) (ea_cons (ev_var rfl) ea_nil))) (spV (z := .int (aheadD (w * m) ds i)) fun H8 e8 Q _ q => ⟨_, ds, w * m, _, rfl, sq_of (e8 _ _ hD7), by omega, hpos, by omega, q⟩)) rv_I0)) fun H8 e8 => k H8 ((E6.trans e7).trans e8)
theorem dn_between (T : Txt P w K mg C_BadRule C_BadRules C_BadLand C_BadDay C_BadNumber C_BadSeen C_BadText C_Feast C_Calendar C_Line C_Walk) (CF : Cls1 K C_Feast ["told", "bys"]) (CC : Cls1 K C_Calendar ["rows", "near"]) : Dn P w K mg base (L2.CX P w) "between" 8 ["calendar", "land", "low", "high"] (spBetween K C_Feast C_Calendar C_BadLand C_BadDay) := T.f_between.dn fun _ _ F _ _ => ok_between F T CF CC
def spLAhead : Sp := fun vs H Q _ => ∃ (a : Addr) (ds : List Nat) (N : Nat) (d : Int), vs = [.ref a, .int N, .int d] ∧ H a = some (.dK (dk ds)) ∧ ds.length ≤ 40000 ∧ 0 < N ∧ N ≤ 50000 ∧ RetV (.int (aheadD N ds d)) H Q
end
end WF

set_option Elab.async false
set_option linter.all false
set_option maxRecDepth 100000
set_option maxHeartbeats 1000000
/-! deciding: lands_to, enough, first_unlike, parting, alike -/
namespace WF
open PySem L2 Evl
section
variable {P : Program} {w : World} {K : PySem.W.Frag} {mg : Str → Option Value} {base : Heap} {C_BadRule C_BadRules C_BadLand C_BadDay C_BadNumber C_BadSeen C_BadText C_Feast C_Calendar C_Line C_Walk : Addr} {f : Addr} {fd : FuncData}
theorem ok_lands_to (F : Fun K "lands_to" "lands_to" s_lands_to f fd) (T : Txt P w K mg C_BadRule C_BadRules C_BadLand C_BadDay C_BadNumber C_BadSeen C_BadText C_Feast C_Calendar C_Line C_Walk) : FnOk P w K mg base CX0 2 f fd ["weeks", "months"] (spLands K) := by
  have D_divisor : Dn P w K mg base CX0 "divisor" 1 ["one", "other"] sp_divisor := dn_divisor T
  refine F.ok sc_lands_to (fun vs H Q E h => ?_) (fun cdv A outer s H vs Q E hr h => ?_)
  · obtain ⟨_, _, rfl, _⟩ := h
    rfl
  · obtain ⟨W, M, rfl, hW1, hW, hM, k⟩ := h
    refine ⟨_, (pss_cons (ps_setLc2 (i := 2) (own := [("w", 3), ("m", 4)]) (vs1 := [4]) (g := gName 3) (g1 := gName 4) (tt := tYes) rfl sc_lands_to.nd rfl rfl (sw_true rfl rfl rfl (by decide +kernel)) (pi_range2 (by rfl) T.range (pa_cons pe_int (pa_cons (pe_op op_add (pv 0) pe_int) pa_nil))) (blkOk_by (own := [("w", 3), ("m", 4)]) (N := ["weeks", "months", "some", "w", "m"]) (sc := defScope s_lands_to) (by decide +kernel)) (by decide) (fun _ _ _ _ _ => (pg_name (i := 3) sc_lands_to.nd rfl (by first | exact Or.inl rfl | exact Or.inr rfl))) (fun _ _ _ _ _ => pts_nil) (fun _ _ _ _ _ => (pi_range2 (by rfl) T.range (pa_cons (pe_op op_add (pv 3) pe_int) (pa_cons (pe_op op_add (pv 1) pe_int) pa_nil)))) (fun _ _ _ _ _ => (pg_name (i := 4) sc_lands_to.nd rfl (by first | exact Or.inl rfl | exact Or.inr rfl))) (fun _ _ _ _ _ => (pts_one (pt_cmpR op_eq (pe_fn D_divisor (hr.mono (by omega)) pass0 rfl (pa_cons (pv 4) (pa_cons (pv 3) pa_nil))) pe_int (nomark _)))) (fun _ _ _ _ _ => (pe_tup (pa_cons (pv 3) (pa_cons (pv 4) pa_nil)))))
  (pss_one (ps_ret (pe_sortSum rfl hr.units rfl T.sorted rfl T.sum (pa_cons (pv 2) pa_nil))))), ?_⟩
    have hn : ((W : Int) + 1 - 2).toNat = W - 1 := by omega
    refine q_asgR (R := fun p H2 => ∃ xs, H2 p = some (.lst xs) ∧ LandL K H2 xs (rawL M (W - 1))) (fun H0 e0 Q0 q0 => ?_) fun p H1 hp e1 ⟨xs, h1, hl⟩ => ?_
    · have hA : EvA (tCons (tC (.int 2)) (tCons (tOp (rI0 fun i j => .int (i + j)) (tVar 0) (tC (.int 1))) tNil)) (start ["weeks", "months", "some", "w", "m"] [.int (W : Int), .int (M : Int)]) H0 [.int 2, .int ((W : Int) + 1)] := ea_cons ev_c (ea_cons (ev_op (ev_var rfl) ev_c rv_I0) ea_nil)
      unfold tLc2
      refine iRng2_ev hA ⟨by omega, by omega, by omega, by omega⟩ hn fun H1 e1 => ?_
      refine fun Dl hD => lc2_out (lo := 2) (n := W - 1) (fun i H' => Ex H1 H' ∧ ∃ xs, H' Dl = some (.lst xs) ∧ LandL K H' xs (rawL M i)) ⟨Ex.new hD, [], upd_same, trivial⟩ ?_ ?_
      · rintro i H' hi ⟨e, xs, h, hl⟩
        have hm : ((M : Int) + 1 - (2 + (i : Int) + 1)).toNat = M - (2 + i) := by omega
        have hlen := hl.len
        have hrl := rawL_len M i
        have hiM : i * M ≤ 100 * 100 := Nat.mul_le_mul (by omega) hM
        refine ⟨rfl, et_yes H' (Ex.refl H') _ fun H2 e2 => ?_⟩
        have hB : EvA (tCons (tOp (rI0 fun i j => .int (i + j)) (tVar 3) (tC (.int 1))) (tCons (tOp (rI0 fun i j => .int (i + j)) (tVar 1) (tC (.int 1))) tNil)) ((wipe (start ["weeks", "months", "some", "w", "m"] [.int (W : Int), .int (M : Int)]) [3, 4]).set 3 (some (.int (2 + (i : Int))))) H2 [.int (2 + (i : Int) + 1), .int ((M : Int) + 1)] := ea_cons (ev_op (ev_var rfl) ev_c rv_I0) (ea_cons (ev_op (ev_var rfl) ev_c rv_I0) ea_nil)
        rw [if_pos rfl]
        refine iRng2_ev hB ⟨by omega, by omega, by omega, by omega⟩ hm fun H3 e3 => ?_
        refine lc2_in (lo := 2 + (i : Int) + 1) (n := M - (2 + i)) (fun j H4 => Ex H1 H4 ∧ ∃ ys, H4 Dl = some (.lst ys) ∧ LandL K H4 ys (rawL M i ++ mL M (2 + i) j)) ⟨(e.trans e2).trans e3, xs, (e2.trans e3) _ _ h, by rw [show mL M (2 + i) 0 = [] from rfl, List.append_nil]; exact hl.kn (KeepN.of (e2.trans e3))⟩ ?_ ?_
        · rintro j H4 hj ⟨e4, ys, h4, hl4⟩
          have hw : (2 + (i : Int)) = ((2 + i : Nat) : Int) := by omega
          have hm2 : (2 + (i : Int) + 1 + (j : Int)) = ((2 + i + 1 + j : Nat) : Int) := by omega
          have hy4 := hl4.len
          rw [List.length_append] at hy4
          have hml := mL_len M (2 + i) j
          have ht : EvT (tTest (tOp rEq (tCall sp_divisor [] E0 (tCons (tVar 4) (tCons (tVar 3) tNil))) (tC (.int 1)))) ((wipe ((wipe (start ["weeks", "months", "some", "w", "m"] [.int (W : Int), .int (M : Int)]) [3, 4]).set 3 (some (.int (2 + (i : Int))))) [4]).set 4 (some (.int (2 + (i : Int) + 1 + (j : Int))))) H4 (decide (Nat.gcd (2 + i + 1 + j) (2 + i) = 1)) :=
            et_is (et_cmp (ev_call (ea_cons (ev_is (ev_var rfl) (congrArg V.int hm2)) (ea_cons (ev_is (ev_var rfl) (congrArg V.int hw)) ea_nil)) (spV (z := .int (Nat.gcd (2 + i + 1 + j) (2 + i) : Nat)) fun H5 _ Q _ q => ⟨_, _, rfl, q⟩)) ev_c (rv_eq rfl)) (by
              by_cases h : Nat.gcd (2 + i + 1 + j) (2 + i) = 1
              · rw [decide_eq_true h, h]; rfl
              · rw [decide_eq_false h, decide_eq_false]
                intro q
                have := V.int.inj q
                omega)
          refine ⟨rfl, ht H4 (Ex.refl H4) _ fun H5 e5 => ?_⟩
          by_cases hg : Nat.gcd (2 + i + 1 + j) (2 + i) = 1
          · rw [decide_eq_true hg, if_pos rfl]
            refine ⟨_, rfl, _, rfl, by show 2 ≤ sizeLine; decide, fun t htn => ⟨ys, (Ex.new htn) _ _ (e5 _ _ h4), Evl.sz_lt (by omega), ?_⟩⟩
            have hne : Dl ≠ t := ne_of_none (e5 _ _ h4) htn
            have e6 : Ex H4 (upd H5 t (.tup [.int (2 + (i : Int)), .int (2 + (i : Int) + 1 + (j : Int))])) := e5.trans (Ex.new htn)
            have kn : KeepN H4 (upd (upd H5 t (.tup [.int (2 + (i : Int)), .int (2 + (i : Int) + 1 + (j : Int))])) Dl (.lst (ys ++ [.ref t]))) := (KeepN.of e6).lst h4
            refine ⟨(e4.trans e6).mut hD, ys ++ [.ref t], upd_same, ?_⟩
            rw [mL_succ, if_pos hg, ← List.append_assoc]
            refine LandL.snoc (hl4.kn kn) ?_
            show SqT K _ t [.int ((2 + i : Nat) : Int), .int ((2 + i + 1 + j : Nat) : Int)]
            rw [← hw, ← hm2]
            exact sqt_kn ((KeepN.refl _).lst ((Ex.new htn) _ _ (e5 _ _ h4))) (st_of upd_same)
          · rw [decide_eq_false hg, if_neg (by decide)]
            refine ⟨e4.trans e5, ys, e5 _ _ h4, ?_⟩
            rw [mL_succ, if_neg hg, List.append_nil]
            exact hl4.kn (KeepN.of e5)
        · rintro H4 ⟨e4, ys, h4, hl4⟩
          refine ⟨e4, ys, h4, ?_⟩
          rw [rawL_succ]
          exact hl4
      · rintro H' ⟨e, xs, h, hl⟩
        exact q0 Dl H' (fresh_back e1 hD) (e1.trans e) ⟨xs, h, hl⟩
    · refine s_retX ⟨_, rfl, p, xs, rawL M (W - 1), rfl, sq_of h1, hl, fun ys q hY hq => ?_⟩
      rw [lands_eq W M hW1] at hY
      exact k q ys _ (fresh_back e1 hq) (e1.trans (Ex.new hq)) upd_same (hY.kn (KeepN.of (Ex.new hq)))
theorem dn_lands_to (T : Txt P w K mg C_BadRule C_BadRules C_BadLand C_BadDay C_BadNumber C_BadSeen C_BadText C_Feast C_Calendar C_Line C_Walk) : Dn P w K mg base CX0 "lands_to" 2 ["weeks", "months"] (spLands K) := T.f_lands_to.dn fun _ _ F _ _ => ok_lands_to F T
def spEnough (K : PySem.W.Frag) : Sp := fun vs H Q _ => ∃ r : Nat, vs = [.int (r : Int)] ∧ r ≤ 10 ∧ ∀ p xs H2, H p = none → Ex H H2 → H2 p = some (.lst xs) → LandL K H2 xs (enoughL r) → Q (.ref p) H2
theorem ok_enough (F : Fun K "enough" "enough" s_enough f fd) (T : Txt P w K mg C_BadRule C_BadRules C_BadLand C_BadDay C_BadNumber C_BadSeen C_BadText C_Feast C_Calendar C_Line C_Walk) : FnOk P w K mg base CX0 3 f fd ["reach"] (spEnough K) := by
  have D_lands_to : Dn P w K mg base CX0 "lands_to" 2 ["weeks", "months"] (spLands K) := dn_lands_to T
  refine F.ok sc_enough (fun vs H Q E h => ?_) (fun cdv A outer s H vs Q E hr h => ?_)
  · obtain ⟨_, rfl, _⟩ := h
    rfl
  · obtain ⟨r, rfl, hr10, k⟩ := h
    refine ⟨_, (pss_one (ps_ret (pe_fn D_lands_to (hr.mono (by omega)) pass0 rfl (pa_cons (pe_op op_add (pe_op op_mul (pe_globE rfl T.g_WEEKS) (pv 0)) pe_int) (pa_cons (pe_op op_add (pe_op op_mul (pe_globE rfl T.g_MONTHS) (pv 0)) pe_int) pa_nil))))), ?_⟩
    exact s_retC (ea_cons (ev_is (ev_op (ev_op ev_c (ev_var rfl) (rv_I (.inl ⟨by decide, by decide⟩))) ev_c rv_I0) (show _ = V.int ((4 * r + 1 : Nat) : Int) from congrArg V.int (by omega))) (ea_cons (ev_is (ev_op (ev_op ev_c (ev_var rfl) (rv_I (.inl ⟨by decide, by decide⟩))) ev_c rv_I0) (show _ = V.int ((6 * r + 1 : Nat) : Int) from congrArg V.int (by omega))) ea_nil)) fun H1 e1 => ⟨4 * r + 1, 6 * r + 1, rfl, by omega, by omega, by omega, fun p xs H2 hp e2 h2 hl => k p xs H2 (fresh_back e1 hp) (e1.trans e2) h2 hl⟩
theorem dn_enough (T : Txt P w K mg C_BadRule C_BadRules C_BadLand C_BadDay C_BadNumber C_BadSeen C_BadText C_Feast C_Calendar C_Line C_Walk) : Dn P w K mg base CX0 "enough" 3 ["reach"] (spEnough K) := T.f_enough.dn fun _ _ F _ _ => ok_enough F T
theorem er_enough {σ : L2.St} {H : Hp} {ta : TA} {E : XK} {r : Nat} (h : EvA ta σ H [.int (r : Int)]) (hr : r ≤ 10) : EvR (tCall (spEnough K) [] E ta) σ H fun p H2 => ∃ xs, H2 p = some (.lst xs) ∧ LandL K H2 xs (enoughL r) := fun H1 e Q q =>
  h H1 e _ fun H2 e2 => ⟨r, rfl, hr, fun p xs H3 hp e3 h3 hl => q p H3 (fresh_back e2 hp) (e2.trans e3) ⟨xs, h3, hl⟩⟩
def spUnlike (K : PySem.W.Frag) (CF : Addr) : Sp := fun vs H Q _ => ∃ (u v : V) (one other : Rows) (r : Nat), vs = [u, v, .int (r : Int)] ∧ RowsAt K CF H u one ∧ RowsAt K CF H v other ∧ depMax one < 5 ∧ depMax other < 5 ∧ r ≤ 10 ∧ RetW K (unlikeO one other (enoughL r)) H Q
theorem ok_first_unlike (F : Fun K "first_unlike" "first_unlike" s_first_unlike f fd) (T : Txt P w K mg C_BadRule C_BadRules C_BadLand C_BadDay C_BadNumber C_BadSeen C_BadText C_Feast C_Calendar C_Line C_Walk) (CF : Cls1 K C_Feast ["told", "bys"]) : FnOk P w K mg base CX0 8 f fd ["one", "other", "reach"] (spUnlike K C_Feast) := by
  have D_days_of : Dn P w K mg base CX0 "days_of" 7 ["rows", "land"] (spDays K C_Feast) := dn_days T CF
  have D_listed : Dn P w K mg base CX0 "listed" 1 ["figure"] spListed := dn_listed T
  have D_enough : Dn P w K mg base CX0 "enough" 3 ["reach"] (spEnough K) := dn_enough T
  refine F.ok sc_first_unlike (fun vs H Q E h => ?_) (fun cdv A outer s H vs Q E hr h => ?_)
  · obtain ⟨_, _, _, _, _, rfl, _⟩ := h
    rfl
  · obtain ⟨u, v, one, other, r, rfl, hu1, hv1, hd1, hd2, hr10, k⟩ := h
    refine ⟨_, (pss_cons (ps_for PassesOwn.never rfl (pi_list (pe_fn D_enough (hr.mono (by omega)) pass0 rfl (pa_cons (pv 2) pa_nil))) (pg_name (i := 3) sc_first_unlike.nd rfl (by first | exact Or.inl rfl | exact Or.inr rfl))
  (pss_cons (ps_set (i := 4) sc_first_unlike.nd rfl (by first | exact Or.inl rfl | exact Or.inr rfl) (pe_op op_xor (pe_fn D_days_of (hr.mono (by omega)) pass0 rfl (pa_cons (pv 0) (pa_cons (pv 3) pa_nil))) (pe_fn D_days_of (hr.mono (by omega)) pass0 rfl (pa_cons (pv 1) (pa_cons (pv 3) pa_nil)))))
  (pss_one (ps_if (pt_cmpR op_ne (pv 4) pe_int (nomark _)) (pss_one (ps_ret (pe_tup (pa_cons (pv 3) (pa_cons (pe_ix ix_list (pe_fn D_listed (hr.mono (by omega)) pass0 rfl (pa_cons (pv 4) pa_nil)) pe_int (fun _ _ => rfl)) pa_nil)))))
  pss_nil))))
  (pss_one (ps_ret pe_non))), ?_⟩
    refine q_forER (er_enough (ea_cons (ev_var rfl) ea_nil) hr10) (fun p xs i σ' H' => ∃ a3 a4, σ' = [some u, some v, some (.int (r : Int)), a3, a4] ∧ Ex H H' ∧ H' p = some (.lst xs) ∧ LandL K H' xs (enoughL r) ∧ ((enoughL r).take i).findSome? (unlikeAt one other) = none)
      (fun p xs H1 hp e1 h1 hl => ⟨none, none, rfl, e1, h1, hl, rfl⟩) (fun p xs i σ' H' _ ⟨_, _, _, _, h, _⟩ => sq_of h) ?_ ?_
    · rintro p xs i x σ' H' hi ⟨a3, a4, rfl, e, hp, hl, hf⟩
      obtain ⟨⟨lw, lm⟩, lp, hget, rfl, hT⟩ := hl.get hi
      have hmem : (lw, lm) ∈ enoughL r := List.mem_of_getElem? hget
      have hO : LandOk lw lm := enoughL_ok hr10 hmem
      obtain ⟨w2, wm, m6, n5⟩ := id hO
      refine q_asg (v := .int (figN (lw * lm) (unlikeB one other (lw, lm)) : Nat)) (ev_is (ev_op (ev_call (ea_cons (ev_var rfl) (ea_cons (ev_var rfl) ea_nil)) (spv_days (hu1.mono e) hd1 hT hO)) (ev_call (ea_cons (ev_var rfl) (ea_cons (ev_var rfl) ea_nil)) (spv_days (hv1.mono e) hd2 hT hO)) rv_I0) (by rw [fig_xor]; rfl)) fun H1 e1 => ?_
      cases hdn : daysN (lw * lm) (unlikeB one other (lw, lm)) with
      | nil =>
        have h0 := figN_nil hdn
        refine s_no (et_is (et_cmp (ev_var rfl) ev_c (rv_ne rfl)) (by rw [h0]; rfl)) fun H2 e2 => ⟨_, _, rfl, (e.trans e1).trans e2, (e1.trans e2) _ _ hp, hl.kn (KeepN.of (e1.trans e2)), find_more hget hf (by unfold unlikeAt; rw [hdn]; rfl)⟩
      | cons d ds =>
        have h0 := figN_pos (N := lw * lm) (q := unlikeB one other (lw, lm)) (by rw [hdn]; simp)
        refine s_yes (et_is (et_cmp (ev_var rfl) ev_c (rv_ne rfl)) (by
          rw [decide_eq_false]
          · rfl
          · intro q
            have := V.int.inj q
            omega)) fun H2 e2 => ?_
        have E2 := (e.trans e1).trans e2
        refine s_retU (eu_tup (vs := [.ref lp, .int (d : Int)]) (ea_cons (ev_var rfl) (ea_cons (ev_opL1 (el_call (ea_cons (ev_var rfl) ea_nil) (spL fun H3 _ Q _ q => ⟨_, _, rfl, by omega, q⟩)) (fun _ _ => ev_c) fun q H3 hq _ => rv_ixL (i := 0) (sq_of hq) (by rw [hdn]; exact at0)) ea_nil)) (by show 2 ≤ 100000; decide)) fun t H3 _ e3 h3 => ?_
        refine k.2 (lw, lm) d (find_hit hget hf (by unfold unlikeAt; rw [hdn]; rfl)) t lp H3 (E2.trans e3) h3 (ex_t ((e1.trans e2).trans e3) hT)
    · rintro p xs σ' H' ⟨a3, a4, rfl, e, hp, hl, hf⟩
      rw [hl.len, List.take_length] at hf
      exact s_ret ev_c fun H1 e1 => k.1 hf H1 (e.trans e1)
theorem dn_first_unlike (T : Txt P w K mg C_BadRule C_BadRules C_BadLand C_BadDay C_BadNumber C_BadSeen C_BadText C_Feast C_Calendar C_Line C_Walk) (CF : Cls1 K C_Feast ["told", "bys"]) : Dn P w K mg base CX0 "first_unlike" 8 ["one", "other", "reach"] (spUnlike K C_Feast) := T.f_first_unlike.dn fun _ _ F _ _ => ok_first_unlike F T CF
theorem ev_nmax {σ : L2.St} {H : Hp} {ta tb : TE} {a b : Nat} (ha : Ev ta σ H (.int (a : Int))) (hb : Ev tb σ H (.int (b : Int))) : Ev (tCB rMax2 (tCons ta (tCons tb tNil))) σ H (.int ((max a b : Nat) : Int)) := ev_is (ev_max2 ha hb) (by
  refine congrArg V.int ?_
  split <;> omega)
def spParting (K : PySem.W.Frag) (CF CC : Addr) : Sp := fun vs H Q _ => ∃ (u v : V) (one other : Rows), vs = [u, v] ∧ CalAt K CF CC H u one ∧ CalAt K CF CC H v other ∧ depMax one < 5 ∧ depMax other < 5 ∧ reachOf one ≤ 10 ∧ reachOf other ≤ 10 ∧ RetW K (unlikeO one other (enoughL (max (reachOf one) (reachOf other)))) H Q
theorem ok_parting (F : Fun K "parting" "parting" s_parting f fd) (T : Txt P w K mg C_BadRule C_BadRules C_BadLand C_BadDay C_BadNumber C_BadSeen C_BadText C_Feast C_Calendar C_Line C_Walk) (CF : Cls1 K C_Feast ["told", "bys"]) (CC : Cls1 K C_Calendar ["rows", "near"]) : FnOk P w K mg base CX0 9 f fd ["one", "other"] (spParting K C_Feast C_Calendar) := by
  have D_first_unlike : Dn P w K mg base CX0 "first_unlike" 8 ["one", "other", "reach"] (spUnlike K C_Feast) := dn_first_unlike T CF
  refine F.ok sc_parting (fun vs H Q E h => ?_) (fun cdv A outer s H vs Q E hr h => ?_)
  · obtain ⟨_, _, _, _, rfl, _⟩ := h
    rfl
  · obtain ⟨u, v, one, other, rfl, ⟨cu, dxu, ru, rfl, hu, hru⟩, ⟨cv, dxv, rv, rfl, hv, hrv⟩, hd1, hd2, hr1, hr2, k⟩ := h
    refine ⟨_, (pss_one (ps_ret (pe_fn D_first_unlike (hr.mono (by omega)) pass0 rfl (pa_cons (pe_fld (pv 0) rfl) (pa_cons (pe_fld (pv 1) rfl) (pa_cons (pe_callB (call_max2 rfl) (by rfl) T.max (by decide +kernel) (pa_cons (pe_fld (pv 0) rfl) (pa_cons (pe_fld (pv 1) rfl) pa_nil))) pa_nil)))))), ?_⟩
    exact s_retC (ea_cons (ev_fld (ev_var rfl) hu CC.cl (CC.no _ (by simp)) (calF_rows _ _)) (ea_cons (ev_fld (ev_var rfl) hv CC.cl (CC.no _ (by simp)) (calF_rows _ _)) (ea_cons (ev_nmax (ev_fld (ev_var rfl) hu CC.cl (CC.no _ (by simp)) (calF_near _ _)) (ev_fld (ev_var rfl) hv CC.cl (CC.no _ (by simp)) (calF_near _ _))) ea_nil))) fun H1 e1 => ⟨_, _, one, other, _, rfl, hru.mono e1, hrv.mono e1, hd1, hd2, by omega, k.back e1⟩
theorem dn_parting (T : Txt P w K mg C_BadRule C_BadRules C_BadLand C_BadDay C_BadNumber C_BadSeen C_BadText C_Feast C_Calendar C_Line C_Walk) (CF : Cls1 K C_Feast ["told", "bys"]) (CC : Cls1 K C_Calendar ["rows", "near"]) : Dn P w K mg base CX0 "parting" 9 ["one", "other"] (spParting K C_Feast C_Calendar) := T.f_parting.dn fun _ _ F _ _ => ok_parting F T CF CC
def spAlike (K : PySem.W.Frag) (CF CC : Addr) : Sp := fun vs H Q _ => ∃ (u v : V) (one other : Rows), vs = [u, v] ∧ CalAt K CF CC H u one ∧ CalAt K CF CC H v other ∧ depMax one < 5 ∧ depMax other < 5 ∧ reachOf one ≤ 10 ∧ reachOf other ≤ 10 ∧ RetV (.bl (unlikeO one other (enoughL (max (reachOf one) (reachOf other)))).isNone) H Q
theorem ok_alike (F : Fun K "alike" "alike" s_alike f fd) (T : Txt P w K mg C_BadRule C_BadRules C_BadLand C_BadDay C_BadNumber C_BadSeen C_BadText C_Feast C_Calendar C_Line C_Walk) (CF : Cls1 K C_Feast ["told", "bys"]) (CC : Cls1 K C_Calendar ["rows", "near"]) : FnOk P w K mg base CX0 10 f fd ["one", "other"] (spAlike K C_Feast C_Calendar) := by
  have D_parting : Dn P w K mg base CX0 "parting" 9 ["one", "other"] (spParting K C_Feast C_Calendar) := dn_parting T CF CC
  refine F.ok sc_alike (fun vs H Q E h => ?_) (fun cdv A outer s H vs Q E hr h => ?_)
  · obtain ⟨_, _, _, _, rfl, _⟩ := h
    rfl
  · obtain ⟨u, v, one, other, rfl, hu, hv, hd1, hd2, hr1, hr2, k⟩ := h
    refine ⟨_, (pss_one (ps_ret (pe_cmpR op_isN (pe_fn D_parting (hr.mono (by omega)) pass0 rfl (pa_cons (pv 0) (pa_cons (pv 1) pa_nil))) pe_non (nomark _)))), ?_⟩
    refine s_retX (call_ev (ea_cons (ev_var rfl) (ea_cons (ev_var rfl) ea_nil)) fun H1 e1 => ⟨u, v, one, other, rfl, hu.mono e1, hv.mono e1, hd1, hd2, hr1, hr2, fun ho H2 e2 => ⟨rfl, ?_⟩, fun l d ho t lp H2 e2 h1 h2 => ⟨rfl, ?_⟩⟩)
    · rw [ho] at k
      exact k H2 (e1.trans e2)
    · rw [ho] at k
      exact k H2 (e1.trans e2)
theorem dn_alike (T : Txt P w K mg C_BadRule C_BadRules C_BadLand C_BadDay C_BadNumber C_BadSeen C_BadText C_Feast C_Calendar C_Line C_Walk) (CF : Cls1 K C_Feast ["told", "bys"]) (CC : Cls1 K C_Calendar ["rows", "near"]) : Dn P w K mg base CX0 "alike" 10 ["one", "other"] (spAlike K C_Feast C_Calendar) := T.f_alike.dn fun _ _ F _ _ => ok_alike F T CF CC
end
end WF

set_option Elab.async false
set_option linter.all false
set_option maxRecDepth 100000
set_option maxHeartbeats 1000000
/-! needless, swaps -/
namespace WF
open PySem L2 Evl
section
variable {P : Program} {w : World} {K : PySem.W.Frag} {mg : Str → Option Value} {base : Heap} {C_BadRule C_BadRules C_BadLand C_BadDay C_BadNumber C_BadSeen C_BadText C_Feast C_Calendar C_Line C_Walk : Addr} {f : Addr} {fd : FuncData}
theorem et_unlike {σ : L2.St} {H : Hp} {E : XK} {CF : Addr} {ta tx tn : TE} {u : V} {one other : Rows} {r : Nat} (h1 : Ev ta σ H u) (h2 : EvX tx σ H fun y H2 => RowsAt K CF H2 y other) (h3 : Ev tn σ H (.int (r : Int))) (hu : RowsAt K CF H u one) (d1 : depMax one < 5) (d2 : depMax other < 5) (hr : r ≤ 10) :
    EvT (tTest (tOp (fun x y H Q => y = .non ∧ Q (.bl (decide (x = .non))) H) (tCall (spUnlike K CF) [] E (tCons ta (tCons tx (tCons tn tNil)))) (tC .non))) σ H (unlikeO one other (enoughL r)).isNone := fun H1 e Q q =>
  h1 H1 e _ fun H2 e2 => h2 H2 (e.trans e2) _ fun y H3 e3 hy => h3 H3 ((e.trans e2).trans e3) _ fun H4 e4 => ⟨u, y, one, other, r, rfl, hu.mono (((e.trans e2).trans e3).trans e4), hy.mono e4, d1, d2, hr, fun ho H5 e5 => ⟨rfl, _, rfl, by
    rw [ho] at q
    exact q H5 (((e2.trans e3).trans e4).trans e5)⟩, fun l d ho t lp H5 e5 _ _ => ⟨rfl, _, rfl, by
    rw [ho] at q
    exact q H5 (((e2.trans e3).trans e4).trans e5)⟩⟩
theorem filter_snoc {p : Nat → Bool} {n : Nat} : ((List.range (n + 1)).filter p).map (fun (k : Nat) => V.int (k : Int)) = ((List.range n).filter p).map (fun (k : Nat) => V.int (k : Int)) ++ (if p n then [V.int (n : Int)] else []) := by
  rw [List.range_succ, List.filter_append, List.map_append]
  refine congrArg (_ ++ ·) ?_
  cases h : p n <;> simp [h]
def spNeedless (K : PySem.W.Frag) (CF CC : Addr) : Sp := fun vs H Q _ => ∃ c rows, vs = [c] ∧ CalAt K CF CC H c rows ∧ depMax rows < 5 ∧ rows.length ≤ 3 ∧ reachOf rows ≤ 10 ∧ RetL ((needL rows (reachOf rows) rows.length).map fun (k : Nat) => V.int (k : Int)) H Q
theorem ok_needless (F : Fun K "needless" "needless" s_needless f fd) (T : Txt P w K mg C_BadRule C_BadRules C_BadLand C_BadDay C_BadNumber C_BadSeen C_BadText C_Feast C_Calendar C_Line C_Walk) (CF : Cls1 K C_Feast ["told", "bys"]) (CC : Cls1 K C_Calendar ["rows", "near"]) : FnOk P w K mg base CX0 9 f fd ["calendar"] (spNeedless K C_Feast C_Calendar) := by
  have D_first_unlike : Dn P w K mg base CX0 "first_unlike" 8 ["one", "other", "reach"] (spUnlike K C_Feast) := dn_first_unlike T CF
  refine F.ok sc_needless (fun vs H Q E h => ?_) (fun cdv A outer s H vs Q E hr h => ?_)
  · obtain ⟨_, _, rfl, _⟩ := h
    rfl
  · obtain ⟨c, rows, rfl, ⟨ca, dx, rv, rfl, hc, a, xs, rfl, hT, hRs⟩, hdep, hlen, hq10, k⟩ := h
    have hxl := hRs.len
    refine ⟨_, (pss_cons (ps_set (i := 1) sc_needless.nd rfl (by first | exact Or.inl rfl | exact Or.inr rfl) (pe_fld (pv 0) rfl))
  (pss_cons (ps_set (i := 2) sc_needless.nd rfl (by first | exact Or.inl rfl | exact Or.inr rfl) (pe_lst pa_nil))
  (pss_cons (ps_for PassesOwn.never rfl (pi_range1 (by rfl) T.range (pa_cons (pe_callB call_len_seq (by rfl) T.len (by decide +kernel) (pa_cons (pv 1) pa_nil)) pa_nil)) (pg_name (i := 3) sc_needless.nd rfl (by first | exact Or.inl rfl | exact Or.inr rfl))
  (pss_one (ps_if (pt_cmpR op_isN (pe_fn D_first_unlike (hr.mono (by omega)) pass0 rfl (pa_cons (pv 1) (pa_cons (pe_op op_catTA (pe_slice sl_tup (pv 1) po_none (po_some (pv 3))) (pe_slice sl_tup (pv 1) (po_some (pe_op op_add (pv 3) pe_int)) po_none)) (pa_cons (pe_fld (pv 0) rfl) pa_nil)))) pe_non (nomark _)) (pss_one (ps_expr (pe_bm PySem.F.plainAttrs_list PySem.F.slot_list_append PySem.F.type_list_append mt_append (pv 2) (pa_cons (pv 3) pa_nil))))
  pss_nil)))
  (pss_one (ps_ret (pv 2)))))), ?_⟩
    refine q_asg (ev_fld (ev_var rfl) hc CC.cl (CC.no _ (by simp)) (calF_rows _ _)) fun H1 e1 => ?_
    refine q_asgL (el_lst ea_nil (Nat.zero_le _)) fun Fl H2 hF e2 h2 => ?_
    have hF0 := fresh_back e1 hF
    refine q_forR1 (n := (rows.length : Int)) (ea_cons (ev_is (ev_lenT (ev_var rfl) (ex_t (e1.trans e2) hT)) (by rw [hxl])) ea_nil) ⟨by omega, by omega⟩ (fun i σ H' => ∃ a3, σ = [some (.ref ca), some (.ref a), some (.ref Fl), a3] ∧ Ex H H' ∧ H' Fl = some (.lst ((needL rows (reachOf rows) i).map fun (k : Nat) => V.int (k : Int)))) (fun H3 e3 => ⟨none, rfl, (e1.trans e2).trans e3, e3 _ _ h2⟩) ?_ ?_
    · rintro i σ' H' hi ⟨a3, rfl, e, hFl⟩
      have hi' : i < rows.length := by omega
      have hsn := filter_snoc (p := fun k => (unlikeO rows (outRow rows k) (enoughL (reachOf rows))).isNone) (n := i)
      refine s_when (et_unlike (other := outRow rows i) (ev_var rfl) (fun H3 e3 Q q => (ex_catT (xs := xs.take i) (ys := xs.drop (i + 1)) (ex_rowsA (ev_var rfl) (ex_t e hT) (hRs.mono e) (ev_var rfl) hi') (ex_rowsB (k := i + 1) (ev_var rfl) (ex_t e hT) (ev_op (ev_var rfl) ev_c rv_I0) (by omega) (by omega)) (by rw [List.length_take, List.length_drop]; omega)) H3 e3 Q fun y H4 e4 ⟨p, hy, hp⟩ => q y H4 e4 ⟨p, _, hy, hp, ((hRs.take i).app (hRs.drop (i + 1))).mono ((e.trans e3).trans e4)⟩) (ev_fld (ev_var rfl) (e _ _ hc) CC.cl (CC.no _ (by simp)) (calF_near _ _)) ⟨a, xs, rfl, ex_t e hT, hRs.mono e⟩ hdep (dep_lt.mpr fun r hr => dep_lt.mp hdep r (out_mem hr)) hq10) (fun hb H3 e3 => ?_) (fun hb H3 e3 => ?_)
      · refine s_app (v := .int (i : Int)) (e3 _ _ hFl) (ev_var rfl) (ev_var rfl) ?_ fun H4 e4 => ⟨_, rfl, (e.trans (e3.trans e4)).mut hF0, ?_⟩
        · rw [List.length_map]
          have := List.length_filter_le (fun k => (unlikeO rows (outRow rows k) (enoughL (reachOf rows))).isNone) (List.range i)
          rw [List.length_range] at this
          unfold needL
          omega
        · unfold needL
          rw [hsn, if_pos hb]
          exact upd_same
      · refine ⟨_, rfl, e.trans e3, ?_⟩
        unfold needL
        rw [hsn, hb]
        simp only [Bool.false_eq_true, if_false, List.append_nil]
        exact e3 _ _ hFl
    · rintro σ' H' ⟨a3, rfl, e, hFl⟩
      rw [Int.toNat_natCast] at hFl
      exact s_ret (ev_var rfl) fun H3 e3 => k Fl H3 hF0 (e.trans e3) (e3 _ _ hFl)
theorem dn_needless (T : Txt P w K mg C_BadRule C_BadRules C_BadLand C_BadDay C_BadNumber C_BadSeen C_BadText C_Feast C_Calendar C_Line C_Walk) (CF : Cls1 K C_Feast ["told", "bys"]) (CC : Cls1 K C_Calendar ["rows", "near"]) : Dn P w K mg base CX0 "needless" 9 ["calendar"] (spNeedless K C_Feast C_Calendar) := T.f_needless.dn fun _ _ F _ _ => ok_needless F T CF CC
def spSwaps (K : PySem.W.Frag) (CF CC : Addr) : Sp := fun vs H Q _ => ∃ c rows, vs = [c] ∧ CalAt K CF CC H c rows ∧ depMax rows < 5 ∧ rows.length ≤ 3 ∧ reachOf rows ≤ 10 ∧ RetL ((swapL rows (reachOf rows) (rows.length - 1)).map fun (k : Nat) => V.int (k : Int)) H Q
theorem ok_swaps (F : Fun K "swaps" "swaps" s_swaps f fd) (T : Txt P w K mg C_BadRule C_BadRules C_BadLand C_BadDay C_BadNumber C_BadSeen C_BadText C_Feast C_Calendar C_Line C_Walk) (CF : Cls1 K C_Feast ["told", "bys"]) (CC : Cls1 K C_Calendar ["rows", "near"]) : FnOk P w K mg base CX0 9 f fd ["calendar"] (spSwaps K C_Feast C_Calendar) := by
  have D_first_unlike : Dn P w K mg base CX0 "first_unlike" 8 ["one", "other", "reach"] (spUnlike K C_Feast) := dn_first_unlike T CF
  refine F.ok sc_swaps (fun vs H Q E h => ?_) (fun cdv A outer s H vs Q E hr h => ?_)
  · obtain ⟨_, _, rfl, _⟩ := h
    rfl
  · obtain ⟨c, rows, rfl, ⟨ca, dx, rv, rfl, hc, a, xs, rfl, hT, hRs⟩, hdep, hlen, hq10, k⟩ := h
    have hxl := hRs.len
    refine ⟨_, (pss_cons (ps_set (i := 1) sc_swaps.nd rfl (by first | exact Or.inl rfl | exact Or.inr rfl) (pe_fld (pv 0) rfl))
  (pss_cons (ps_set (i := 2) sc_swaps.nd rfl (by first | exact Or.inl rfl | exact Or.inr rfl) (pe_lst pa_nil))
  (pss_cons (ps_for PassesOwn.never rfl (pi_range1 (by rfl) T.range (pa_cons (pe_op op_sub (pe_callB call_len_seq (by rfl) T.len (by decide +kernel) (pa_cons (pv 1) pa_nil)) pe_int) pa_nil)) (pg_name (i := 3) sc_swaps.nd rfl (by first | exact Or.inl rfl | exact Or.inr rfl))
  (pss_cons (ps_set (i := 4) sc_swaps.nd rfl (by first | exact Or.inl rfl | exact Or.inr rfl) (pe_tup (StX.pa_star (pe_slice sl_tup (pv 1) po_none (po_some (pv 3))) (pa_cons (pe_ix ix_tup (pv 1) (pe_op op_add (pv 3) pe_int) (fun _ _ => rfl)) (pa_cons (pe_ix ix_tup (pv 1) (pv 3) (fun _ _ => rfl)) (StX.pa_star (pe_slice sl_tup (pv 1) (po_some (pe_op op_add (pv 3) pe_int)) po_none) pa_nil))))))
  (pss_one (ps_if (pt_cmpR op_isN (pe_fn D_first_unlike (hr.mono (by omega)) pass0 rfl (pa_cons (pv 1) (pa_cons (pv 4) (pa_cons (pe_fld (pv 0) rfl) pa_nil)))) pe_non (nomark _)) (pss_one (ps_expr (pe_bm PySem.F.plainAttrs_list PySem.F.slot_list_append PySem.F.type_list_append mt_append (pv 2) (pa_cons (pv 3) pa_nil))))
  pss_nil))))
  (pss_one (ps_ret (pv 2)))))), ?_⟩
    refine q_asg (ev_fld (ev_var rfl) hc CC.cl (CC.no _ (by simp)) (calF_rows _ _)) fun H1 e1 => ?_
    refine q_asgL (el_lst ea_nil (Nat.zero_le _)) fun Fl H2 hF e2 h2 => ?_
    have hF0 := fresh_back e1 hF
    refine q_forR1N (n := (rows.length : Int) - 1) (ea_cons (ev_op (ev_is (ev_lenT (ev_var rfl) (ex_t (e1.trans e2) hT)) (by rw [hxl])) ev_c rv_I0) ea_nil) ⟨by omega, by omega⟩ (fun i σ H' => ∃ a3 a4, σ = [some (.ref ca), some (.ref a), some (.ref Fl), a3, a4] ∧ Ex H H' ∧ H' Fl = some (.lst ((swapL rows (reachOf rows) i).map fun (k : Nat) => V.int (k : Int)))) (fun H3 e3 => ⟨none, none, rfl, (e1.trans e2).trans e3, e3 _ _ h2⟩) ?_ ?_
    · rintro i σ' H' hi ⟨a3, a4, rfl, e, hFl⟩
      have hi' : i + 1 < rows.length := by omega
      have hsn := filter_snoc (p := fun k => (unlikeO rows (swapRow rows k) (enoughL (reachOf rows))).isNone) (n := i)
      obtain ⟨x1, hx1⟩ : ∃ x, xs[i + 1]? = some x := ⟨xs[i + 1], by simp [hxl, hi']⟩
      obtain ⟨x0, hx0⟩ : ∃ x, xs[i]? = some x := ⟨xs[i], List.getElem?_eq_getElem (by omega)⟩
      obtain ⟨r1, hr1, hrow1⟩ := hRs.get hx1
      obtain ⟨r0, hr0, hrow0⟩ := hRs.get hx0
      have g1 := getD_get hi'
      have g0 := getD_get (show i < rows.length by omega)
      rw [hr1] at g1
      rw [hr0] at g0
      injection g1 with g1
      injection g0 with g0
      refine q_asgX (ex_starT (xs := xs.take i) (ys := xs.drop (i + 2)) (ex_rowsA (ev_var rfl) (ex_t e hT) (hRs.mono e) (ev_var rfl) (by omega)) (ev_op (ev_var rfl) (ev_op (ev_var rfl) ev_c rv_I0) (rv_ixT (ex_t e hT) (atI_nat (j := i + 1) hx1))) (ev_op (ev_var rfl) (ev_var rfl) (rv_ixT (ex_t e hT) (atI_nat (j := i) hx0))) (ex_rowsB (k := i + 2) (ev_var rfl) (ex_t e hT) (ev_op (ev_var rfl) ev_c rv_I0) (by omega) (by omega)) (by rw [List.length_take, List.length_drop]; omega) H' (Ex.refl H') _ fun y H3 e3 ⟨p, hy, hp⟩ => ?_)
      subst hy
      have E3 := e.trans e3
      have hYs : RowsAt K C_Feast H3 (.ref p) (swapRow rows i) := by
        refine ⟨p, _, rfl, hp, ?_⟩
        refine RowsL.mono E3 ((hRs.take i).app ?_)
        refine RowsL.app (xs := [x1, x0]) (rs := [rows.getD (i + 1) (.wk 0, false), rows.getD i (.wk 0, false)]) ?_ (hRs.drop (i + 2))
        rw [← g1, ← g0]
        exact ⟨hrow1, hrow0, trivial⟩
      refine s_when (et_unlike (other := swapRow rows i) (ev_var rfl) (ex_v (ev_var rfl) fun H4 e4 => hYs.mono e4) (ev_fld (ev_var rfl) (E3 _ _ hc) CC.cl (CC.no _ (by simp)) (calF_near _ _)) ⟨a, xs, rfl, ex_t E3 hT, hRs.mono E3⟩ hdep (dep_lt.mpr fun r hr => dep_lt.mp hdep r (swap_mem hi' hr)) hq10) (fun hb H4 e4 => ?_) (fun hb H4 e4 => ?_)
      · refine s_app (v := .int (i : Int)) ((e3.trans e4) _ _ hFl) (ev_var rfl) (ev_var rfl) ?_ fun H5 e5 => ⟨_, _, rfl, (E3.trans (e4.trans e5)).mut hF0, ?_⟩
        · rw [List.length_map]
          have := List.length_filter_le (fun k => (unlikeO rows (swapRow rows k) (enoughL (reachOf rows))).isNone) (List.range i)
          rw [List.length_range] at this
          unfold swapL
          omega
        · unfold swapL
          rw [hsn, if_pos hb]
          exact upd_same
      · refine ⟨_, _, rfl, E3.trans e4, ?_⟩
        unfold swapL
        rw [hsn, hb]
        simp only [Bool.false_eq_true, if_false, List.append_nil]
        exact (e3.trans e4) _ _ hFl
    · rintro σ' H' ⟨a3, a4, rfl, e, hFl⟩
      have hn : ((rows.length : Int) - 1).toNat = rows.length - 1 := by omega
      rw [hn] at hFl
      exact s_ret (ev_var rfl) fun H3 e3 => k Fl H3 hF0 (e.trans e3) (e3 _ _ hFl)
theorem dn_swaps (T : Txt P w K mg C_BadRule C_BadRules C_BadLand C_BadDay C_BadNumber C_BadSeen C_BadText C_Feast C_Calendar C_Line C_Walk) (CF : Cls1 K C_Feast ["told", "bys"]) (CC : Cls1 K C_Calendar ["rows", "near"]) : Dn P w K mg base CX0 "swaps" 9 ["calendar"] (spSwaps K C_Feast C_Calendar) := T.f_swaps.dn fun _ _ F _ _ => ok_swaps F T CF CC
end
end WF

set_option Elab.async false
set_option linter.all false
set_option maxRecDepth 100000
set_option maxHeartbeats 1000000
/-! meeting; walks over the keys of a new dict -/
namespace WF
open PySem L2 Evl PyProof.Rows
/-! ### the least lands in which two calendars meet, in which they don't -/
def meetB (one other : Rows) (l : Nat × Nat) : Bool := !decide (daysN (l.1 * l.2) (fun d => calDay l.1 l.2 one d && calDay l.1 l.2 other d) = [])
def meetO (one other : Rows) (b : Bool) (ls : List (Nat × Nat)) : Option (Nat × Nat) := ls.find? fun l => meetB one other l == b
theorem meetB_comm (one other : Rows) (l : Nat × Nat) : meetB one other l = meetB other one l := by
  unfold meetB
  have : (fun d => calDay l.1 l.2 one d && calDay l.1 l.2 other d) = fun d => calDay l.1 l.2 other d && calDay l.1 l.2 one d := funext fun d => Bool.and_comm _ _
  rw [this]
theorem meetO_comm (one other : Rows) (b : Bool) (ls : List (Nat × Nat)) : meetO one other b ls = meetO other one b ls := by
  unfold meetO
  refine congrArg (fun f => ls.find? f) (funext fun l => ?_)
  rw [meetB_comm]
theorem meet_more {one other : Rows} {b : Bool} {ls : List (Nat × Nat)} {i : Nat} {l : Nat × Nat} (h : ls[i]? = some l) : meetO one other b (ls.take (i + 1)) = (meetO one other b (ls.take i)).or (if meetB one other l = b then some l else none) := by
  unfold meetO
  rw [take_more h, List.find?_append]
  congr 1
  by_cases hb : meetB one other l = b
  · simp [hb]
  · have : (meetB one other l == b) = false := by simpa using hb
    simp [this, hb]
/-- at x: None, or a land -/
def LdAt (K : PySem.W.Frag) (H : Hp) (o : Option (Nat × Nat)) (x : V) : Prop := (o = none ∧ x = .non) ∨ ∃ l lp, o = some l ∧ x = .ref lp ∧ SqT K H lp [.int ((l.1 : Nat) : Int), .int ((l.2 : Nat) : Int)]
theorem LdAt.kn {K : PySem.W.Frag} {H H' : Hp} {o : Option (Nat × Nat)} {x : V} (e : KeepN H H') (h : LdAt K H o x) : LdAt K H' o x := by
  rcases h with h | ⟨l, lp, h1, h2, h3⟩
  · exact .inl h
  · exact .inr ⟨l, lp, h1, h2, sqt_kn e h3⟩
section
variable {P : Program} {w : World} {K : PySem.W.Frag} {mg : Str → Option Value} {base : Heap} {C_BadRule C_BadRules C_BadLand C_BadDay C_BadNumber C_BadSeen C_BadText C_Feast C_Calendar C_Line C_Walk : Addr} {f : Addr} {fd : FuncData}
theorem ev_getB {σ : L2.St} {H : Hp} {td ty tx : TE} {a : Addr} {b : Bool} {z : V} {kvs : List (Bool × V)} (h1 : Ev td σ H (.ref a)) (h2 : Ev ty σ H (.bl b)) (h3 : Ev tx σ H z) (hd : H a = some (dB P w a kvs)) : Ev (tDGetB P w td ty tx) σ H ((kvs.lookup b).getD z) := fun H1 e Q q =>
  h1 H1 e _ fun H2 e2 => ⟨a, kvs, rfl, e2 _ _ (e _ _ hd), h2 H2 (e.trans e2) _ fun H3 e3 => h3 H3 ((e.trans e2).trans e3) _ fun H4 e4 => ⟨b, rfl, ((e2.trans e3).trans e4) _ _ (e _ _ hd), q H4 ((e2.trans e3).trans e4)⟩⟩
def spMeet (K : PySem.W.Frag) (CF CC : Addr) : Sp := fun vs H Q _ => ∃ (u v : V) (one other : Rows), vs = [u, v] ∧ CalAt K CF CC H u one ∧ CalAt K CF CC H v other ∧ depMax one < 5 ∧ depMax other < 5 ∧ reachOf one ≤ 10 ∧ reachOf other ≤ 10 ∧
  ∀ t x y H2, Ex H H2 → H2 t = some (.tup [x, y]) → LdAt K H2 (meetO one other true (enoughL (max (reachOf one) (reachOf other)))) x → LdAt K H2 (meetO one other false (enoughL (max (reachOf one) (reachOf other)))) y → Q (.ref t) H2
theorem ok_meeting (F : Fun K "meeting" "meeting" s_meeting f fd) (T : Txt P w K mg C_BadRule C_BadRules C_BadLand C_BadDay C_BadNumber C_BadSeen C_BadText C_Feast C_Calendar C_Line C_Walk) (CF : Cls1 K C_Feast ["told", "bys"]) (CC : Cls1 K C_Calendar ["rows", "near"]) : FnOk P w K mg base CX0 8 f fd ["one", "other"] (spMeet K C_Feast C_Calendar) := by
  have D_days_of : Dn P w K mg base CX0 "days_of" 7 ["rows", "land"] (spDays K C_Feast) := dn_days T CF
  have D_enough : Dn P w K mg base CX0 "enough" 3 ["reach"] (spEnough K) := dn_enough T
  refine F.ok sc_meeting (fun vs H Q E h => ?_) (fun cdv A outer s H vs Q E hr h => ?_)
  · obtain ⟨_, _, _, _, rfl, _⟩ := h
    rfl
  · obtain ⟨u, v, one, other, rfl, ⟨cu, dxu, ru, rfl, hu, hru⟩, ⟨cv, dxv, rv, rfl, hv, hrv⟩, hd1, hd2, hr1, hr2, k⟩ := h
    refine ⟨_, (pss_cons (ps_set (i := 2) sc_meeting.nd rfl (by first | exact Or.inl rfl | exact Or.inr rfl) pe_dnewB)
  (pss_cons (ps_for PassesOwn.never rfl (pi_list (pe_fn D_enough (hr.mono (by omega)) pass0 rfl (pa_cons (pe_callB (call_max2 rfl) (by rfl) T.max (by decide +kernel) (pa_cons (pe_fld (pv 0) rfl) (pa_cons (pe_fld (pv 1) rfl) pa_nil))) pa_nil))) (pg_name (i := 3) sc_meeting.nd rfl (by first | exact Or.inl rfl | exact Or.inr rfl))
  (pss_cons (ps_set (i := 4) sc_meeting.nd rfl (by first | exact Or.inl rfl | exact Or.inr rfl) (pe_cmpR op_ne (pe_op op_and (pe_fn D_days_of (hr.mono (by omega)) pass0 rfl (pa_cons (pe_fld (pv 0) rfl) (pa_cons (pv 3) pa_nil))) (pe_fn D_days_of (hr.mono (by omega)) pass0 rfl (pa_cons (pe_fld (pv 1) rfl) (pa_cons (pv 3) pa_nil)))) pe_int (nomark _)))
  (pss_one (ps_if (pt_cmp (pc_dnotinB (pv 4) (pv 2))) (pss_one (ps_dputB (pv 2) (pv 4) (pv 3) rfl))
  pss_nil))))
  (pss_one (ps_ret (pe_tup (pa_cons (pe_dgetB (pv 2) pe_bl pe_non ⟨rfl, rfl, rfl, rfl⟩) (pa_cons (pe_dgetB (pv 2) pe_bl pe_non ⟨rfl, rfl, rfl, rfl⟩) pa_nil))))))), ?_⟩
    refine q_asgX fun Fd hF => ?_
    have e1 : Ex H (upd H Fd (dB P w Fd [])) := Ex.new hF
    have hm10 : max (reachOf one) (reachOf other) ≤ 10 := by omega
    generalize hmr : max (reachOf one) (reachOf other) = r at k hm10
    refine q_forER (er_enough (r := r) (ea_cons (ev_is (ev_nmax (ev_fld (ev_var rfl) (e1 _ _ hu) CC.cl (CC.no _ (by simp)) (calF_near _ _)) (ev_fld (ev_var rfl) (e1 _ _ hv) CC.cl (CC.no _ (by simp)) (calF_near _ _))) (by rw [hmr])) ea_nil) hm10)
      (fun p xs i σ' H' => ∃ a3 a4 kvs, σ' = [some (.ref cu), some (.ref cv), some (.ref Fd), a3, a4] ∧ Ex H H' ∧ H' p = some (.lst xs) ∧ LandL K H' xs (enoughL r) ∧ H' Fd = some (dB P w Fd kvs) ∧ kvs.length ≤ i ∧ ∀ b, LdAt K H' (meetO one other b ((enoughL r).take i)) ((kvs.lookup b).getD .non) ∧ ((kvs.lookup b).isNone = (meetO one other b ((enoughL r).take i)).isNone))
      (fun p xs H1 hp e2 h1 hl => ⟨none, none, [], rfl, e1.trans e2, h1, hl, e2 _ _ upd_same, Nat.le_refl _, fun b => ⟨.inl ⟨rfl, rfl⟩, rfl⟩⟩) (fun p xs i σ' H' _ ⟨_, _, _, _, _, h, _⟩ => sq_of h) ?_ ?_
    · rintro p xs i x σ' H' hi ⟨a3, a4, kvs, rfl, e, hp, hl, hFd, hkl, hkv⟩
      obtain ⟨⟨lw, lm⟩, lp, hget, rfl, hT⟩ := hl.get hi
      have hmem : (lw, lm) ∈ enoughL r := List.mem_of_getElem? hget
      have hO : LandOk lw lm := enoughL_ok hm10 hmem
      obtain ⟨w2, wm, m6, n5⟩ := id hO
      have hil : i < 100000 := by
        have h1 := (List.getElem?_eq_some_iff.mp hget).1
        have h2 : (enoughL r).length ≤ 60000 := by
          have := (lands_eq (4 * r + 1) (6 * r + 1) (by omega))
          have h3 : (enoughL r).length = (rawL (6 * r + 1) (4 * r + 1 - 1)).length := by
            unfold enoughL
            rw [← this, List.length_mergeSort]
          have h4 := rawL_len (6 * r + 1) (4 * r + 1 - 1)
          have h5 : (4 * r + 1 - 1) * (6 * r + 1) ≤ 40 * 61 := Nat.mul_le_mul (by omega) (by omega)
          omega
        omega
      refine q_asg (v := .bl (meetB one other (lw, lm))) (ev_is (ev_op (ev_op (ev_call (ea_cons (ev_fld (ev_var rfl) (e _ _ hu) CC.cl (CC.no _ (by simp)) (calF_rows _ _)) (ea_cons (ev_var rfl) ea_nil)) (spv_days (hru.mono e) hd1 hT hO)) (ev_call (ea_cons (ev_fld (ev_var rfl) (e _ _ hv) CC.cl (CC.no _ (by simp)) (calF_rows _ _)) (ea_cons (ev_var rfl) ea_nil)) (spv_days (hrv.mono e) hd2 hT hO)) rv_I0) ev_c (rv_ne rfl)) (by
        rw [fig_and]
        unfold meetB
        refine congrArg (fun b => V.bl (!b)) ?_
        by_cases h : daysN (lw * lm) (fun d => calDay (lw : Int) (lm : Int) one d && calDay (lw : Int) (lm : Int) other d) = []
        · rw [figN_nil h, decide_eq_true h]
          rfl
        · have h0 := figN_pos h
          rw [decide_eq_false h, decide_eq_false]
          intro q
          exact h0 (Int.ofNat_inj.mp (V.int.inj q)))) fun H1 e2 => ?_
      have hFd1 := e2 _ _ hFd
      obtain ⟨hk1, hk2⟩ := hkv (meetB one other (lw, lm))
      refine s_if (b := (kvs.lookup (meetB one other (lw, lm))).isNone) (fun H2 e3 Q q => ⟨_, rfl, _, rfl, Fd, meetB one other (lw, lm), kvs, rfl, rfl, e3 _ _ hFd1, _, rfl, q H2 (Ex.refl H2)⟩) (fun hb H2 e3 => ?_) (fun hb H2 e3 => ?_)
      · have hnone : kvs.lookup (meetB one other (lw, lm)) = none := Option.isNone_iff_eq_none.mp hb
        have hmo : meetO one other (meetB one other (lw, lm)) ((enoughL r).take i) = none := Option.isNone_iff_eq_none.mp (hk2 ▸ hb)
        have E3 := e2.trans e3
        have hFd2 := e3 _ _ hFd1
        refine ⟨_, rfl, _, rfl, _, rfl, Fd, meetB one other (lw, lm), kvs, rfl, rfl, hFd2, hnone, by omega, ?_⟩
        have kn : KeepN H' (upd H2 Fd (dB P w Fd (kvs ++ [(meetB one other (lw, lm), V.ref lp)]))) → True := fun _ => trivial
        have hup : ∀ q o, q ≠ Fd → H' q = some o → upd H2 Fd (dB P w Fd (kvs ++ [(meetB one other (lw, lm), V.ref lp)])) q = some o := fun q o hq h => by
          rw [upd_ne hq]
          exact E3 _ _ h
        have sqt : ∀ {q : Addr} {zs : List V}, SqT K H' q zs → SqT K (upd H2 Fd (dB P w Fd (kvs ++ [(meetB one other (lw, lm), V.ref lp)]))) q zs := fun {q zs} h => by
          have hne : ∀ o, H' q = some o → (∀ ks, o ≠ dB P w Fd ks) → q ≠ Fd := fun o ho hn z => by
            rw [z, hFd] at ho
            exact hn kvs (Option.some.inj ho).symm
          rcases h with (h | ⟨o, h⟩) | h
          · exact .inl (.inl (hup _ _ (hne _ h fun ks z => by
              have z' : HO.tup zs = HO.ext _ := z
              cases z') h))
          · exact .inl (.inr ⟨o, hup _ _ (hne _ h fun ks z => by
              have z' : HO.frz o _ = HO.ext _ := z
              cases z') h⟩)
          · exact .inr h
        have landl : ∀ {xs : List V} {ls : List (Nat × Nat)}, LandL K H' xs ls → LandL K (upd H2 Fd (dB P w Fd (kvs ++ [(meetB one other (lw, lm), V.ref lp)]))) xs ls := by
          intro xs ls
          induction xs generalizing ls with
          | nil => intro h; cases ls <;> exact h
          | cons x xs ih =>
            intro h
            cases ls with
            | nil => exact h.elim
            | cons l ls =>
              obtain ⟨⟨p, h0, h1⟩, h2⟩ := h
              exact ⟨⟨p, h0, sqt h1⟩, ih h2⟩
        have hpF : p ≠ Fd := fun z => by
          rw [z, hFd] at hp
          exact dB_lst (Option.some.inj hp)
        refine ⟨_, _, kvs ++ [(meetB one other (lw, lm), .ref lp)], rfl, ((e.trans E3).mut hF), hup _ _ hpF hp, landl hl, upd_same, by rw [List.length_append]; show _ + 1 ≤ _; omega, fun b => ?_⟩
        rw [meet_more hget]
        obtain ⟨hb1, hb2⟩ := hkv b
        by_cases hbb : meetB one other (lw, lm) = b
        · subst hbb
          have hlk : (kvs ++ [(meetB one other (lw, lm), V.ref lp)]).lookup (meetB one other (lw, lm)) = some (.ref lp) := by
            rw [List.lookup_append, hnone]
            simp [List.lookup]
          rw [hmo, hlk, if_pos rfl]
          exact ⟨.inr ⟨(lw, lm), lp, rfl, rfl, sqt hT⟩, rfl⟩
        · have hlk : (kvs ++ [(meetB one other (lw, lm), V.ref lp)]).lookup b = kvs.lookup b := by
            rw [List.lookup_append]
            have : (b == meetB one other (lw, lm)) = false := by simpa using fun z => hbb z.symm
            simp [List.lookup, this]
          rw [hlk, if_neg hbb, Option.or_none]
          refine ⟨?_, hb2⟩
          rcases hb1 with h | ⟨l, lp', h1, h2, h3⟩
          · exact .inl h
          · exact .inr ⟨l, lp', h1, h2, sqt h3⟩
      · have E3 := e2.trans e3
        refine ⟨_, _, kvs, rfl, e.trans E3, E3 _ _ hp, hl.kn (KeepN.of E3), E3 _ _ hFd, by omega, fun b => ?_⟩
        rw [meet_more hget]
        obtain ⟨hb1, hb2⟩ := hkv b
        have hor : (meetO one other b ((enoughL r).take i)).or (if meetB one other (lw, lm) = b then some (lw, lm) else none) = meetO one other b ((enoughL r).take i) := by
          by_cases hbb : meetB one other (lw, lm) = b
          · subst hbb
            rw [hk2] at hb
            cases ho : meetO one other (meetB one other (lw, lm)) ((enoughL r).take i) with
            | none => rw [ho] at hb; cases hb
            | some z => rfl
          · rw [if_neg hbb, Option.or_none]
        rw [hor]
        exact ⟨hb1.kn (KeepN.of E3), hb2⟩
    · rintro p xs σ' H' ⟨a3, a4, kvs, rfl, e, hp, hl, hFd, hkl, hkv⟩
      rw [hl.len, List.take_length] at hkv
      refine s_retU (eu_tup (ea_cons (ev_getB (ev_var rfl) ev_c ev_c hFd) (ea_cons (ev_getB (ev_var rfl) ev_c ev_c hFd) ea_nil)) (by show 2 ≤ 100000; decide)) fun t H1 _ e2 h1 => ?_
      exact k t _ _ H1 (e.trans e2) h1 ((hkv true).1.kn (KeepN.of e2)) ((hkv false).1.kn (KeepN.of e2))
theorem dn_meeting (T : Txt P w K mg C_BadRule C_BadRules C_BadLand C_BadDay C_BadNumber C_BadSeen C_BadText C_Feast C_Calendar C_Line C_Walk) (CF : Cls1 K C_Feast ["told", "bys"]) (CC : Cls1 K C_Calendar ["rows", "near"]) : Dn P w K mg base CX0 "meeting" 8 ["one", "other"] (spMeet K C_Feast C_Calendar) := T.f_meeting.dn fun _ _ F _ _ => ok_meeting F T CF CC
end
end WF

set_option Elab.async false
set_option linter.all false
set_option maxRecDepth 100000
set_option maxHeartbeats 1000000
/-! form -/
namespace WF
open PySem L2 Evl
section
variable {K : PySem.W.Frag} {σ : L2.St} {H : Hp} {t1 t2 t3 te : TE} {D : Ends} {tz : TS}
theorem er_three {xs ys zs : List V} (h1 : EvU t1 σ H xs) (h2 : EvU t2 σ H ys) (h3 : EvU t3 σ H zs) : EvR (tTup (tCons t1 (tCons t2 (tCons t3 tNil)))) σ H fun p H2 => ∃ a b c, H2 p = some (.tup [.ref a, .ref b, .ref c]) ∧ H2 a = some (.tup xs) ∧ H2 b = some (.tup ys) ∧ H2 c = some (.tup zs) := fun H1 e Q q =>
  h1 H1 e _ fun a H2 ha e2 k1 => h2 H2 (e.trans e2) _ fun b H3 hb e3 k2 => h3 H3 ((e.trans e2).trans e3) _ fun c H4 hc e4 k3 => ⟨by show 3 ≤ sizeLine; decide, fun p hp =>
    q p _ (fresh_back ((e2.trans e3).trans e4) hp) (((e2.trans e3).trans e4).trans (Ex.new hp)) ⟨a, b, c, upd_same, ((e3.trans e4).trans (Ex.new hp)) _ _ k1, (e4.trans (Ex.new hp)) _ _ k2, (Ex.new hp) _ _ k3⟩⟩
theorem q_asgT3 {x y z : V} {i j k : Nat} {a : Addr} (h : Ev te σ H (.ref a)) (ht : SqT K H a [x, y, z]) (q : ∀ H1, Ex H H1 → tz D (((σ.set i (some x)).set j (some y)).set k (some z)) H1) : tSeq (tAsg te (gTup K 3 (gCons (gName i) (gCons (gName j) (gCons (gName k) gNil))))) tz D σ H :=
  h H (Ex.refl H) _ fun H1 e => ⟨a, [x, y, z], rfl, ex_t e ht, rfl, _, _, rfl, _, _, rfl, _, _, rfl, rfl, q H1 e⟩
end
section
variable {P : Program} {w : World} {K : PySem.W.Frag} {mg : Str → Option Value} {base : Heap} {C_BadRule C_BadRules C_BadLand C_BadDay C_BadNumber C_BadSeen C_BadText C_Feast C_Calendar C_Line C_Walk : Addr} {f : Addr} {fd : FuncData}
def spForm (K : PySem.W.Frag) (CF CC : Addr) : Sp := fun vs H Q _ => ∃ (u : V) (rows : Rows), vs = [u] ∧ CalAt K CF CC H u rows ∧ depMax rows < 5 ∧ reachOf rows ≤ 10 ∧ (∀ r ∈ rows, r.1.fit = true) ∧
  ∀ (t : Addr) (a b c : Int) H2, FormOk rows a b c → a.natAbs ≤ 10000 → b.natAbs ≤ 40000 → H t = none → Ex H H2 → H2 t = some (.tup [.int a, .int b, .int c]) → Q (.ref t) H2
theorem ok_form (F : Fun K "form" "form" s_form f fd) (T : Txt P w K mg C_BadRule C_BadRules C_BadLand C_BadDay C_BadNumber C_BadSeen C_BadText C_Feast C_Calendar C_Line C_Walk) (CF : Cls1 K C_Feast ["told", "bys"]) (CC : Cls1 K C_Calendar ["rows", "near"]) : FnOk P w K mg base CX0 8 f fd ["calendar"] (spForm K C_Feast C_Calendar) := by
  have D_days_of : Dn P w K mg base CX0 "days_of" 7 ["rows", "land"] (spDays K C_Feast) := dn_days T CF
  have D_listed : Dn P w K mg base CX0 "listed" 1 ["figure"] spListed := dn_listed T
  refine F.ok sc_form (fun vs H Q E h => ?_) (fun cdv A outer s H vs Q E hr h => ?_)
  · obtain ⟨_, _, rfl, _⟩ := h
    rfl
  · obtain ⟨u, rows, rfl, ⟨cu, dxu, ru, rfl, hu, hru⟩, hd, hr10, hfit, k⟩ := h
    refine ⟨_, (pss_cons (ps_set (i := 1) sc_form.nd rfl (by first | exact Or.inl rfl | exact Or.inr rfl) (pe_op op_add (pe_op op_mul pe_int (pe_fld (pv 0) rfl)) pe_int))
  (pss_cons (ps_set (i := 2) sc_form.nd rfl (by first | exact Or.inl rfl | exact Or.inr rfl) (pe_tup (pa_cons (pe_tup (pa_cons (pv 1) (pa_cons (pe_op op_add (pe_op op_mul pe_int (pv 1)) pe_int) pa_nil))) (pa_cons (pe_tup (pa_cons (pv 1) (pa_cons (pe_op op_add (pe_op op_mul pe_int (pv 1)) pe_int) pa_nil))) (pa_cons (pe_tup (pa_cons (pe_op op_add (pv 1) pe_int) (pa_cons (pe_op op_add (pe_op op_mul pe_int (pv 1)) pe_int) pa_nil))) pa_nil)))))
  (pss_cons (ps_setLc (i := 3) (own := [("land", 6)]) (g := gName 6) (tt := tYes) rfl sc_form.nd rfl rfl (sw_true rfl rfl rfl (by decide +kernel)) (pi_tup (pv 2)) (blkOk_by (own := [("land", 6)]) (N := ["calendar", "w", "lands", "counts", "a", "b", "land"]) (sc := defScope s_form) (by decide +kernel)) (fun _ _ _ _ _ => (pg_name (i := 6) sc_form.nd rfl (by first | exact Or.inl rfl | exact Or.inr rfl))) (fun _ _ _ _ _ => pts_nil) (fun _ _ _ _ _ => (pe_callB (call_len_seqK (K := K)) (by rfl) T.len (by decide +kernel) (pa_cons (pe_fn D_listed (hr.mono (by omega)) pass0 rfl (pa_cons (pe_fn D_days_of (hr.mono (by omega)) pass0 rfl (pa_cons (pe_fldK (K := K) (pv 0) rfl) (pa_cons (pv 6) pa_nil))) pa_nil)) pa_nil))))
  (pss_cons (ps_set (i := 4) sc_form.nd rfl (by first | exact Or.inl rfl | exact Or.inr rfl) (pe_op op_fdiv (pe_op op_sub (pe_ix ix_list (pv 3) pe_int (fun _ _ => rfl)) (pe_ix ix_list (pv 3) pe_int (fun _ _ => rfl))) (pv 1)))
  (pss_cons (ps_set (i := 5) sc_form.nd rfl (by first | exact Or.inl rfl | exact Or.inr rfl) (pe_op op_sub (pe_op op_sub (pe_ix ix_list (pv 3) pe_int (fun _ _ => rfl)) (pe_ix ix_list (pv 3) pe_int (fun _ _ => rfl))) (pe_op op_mul pe_int (pv 4))))
  (pss_one (ps_ret (pe_tup (pa_cons (pv 4) (pa_cons (pv 5) (pa_cons (pe_op op_sub (pe_op op_sub (pe_ix ix_list (pv 3) pe_int (fun _ _ => rfl)) (pe_op op_mul (pv 4) (pe_op op_add (pe_op op_mul pe_int (pv 1)) pe_int))) (pe_op op_mul (pv 5) (pv 1))) pa_nil))))))))))), ?_⟩
    generalize hrr : reachOf rows = r at hu hr10
    refine q_asg (v := .int ((4 * r + 1 : Nat) : Int)) (ev_is (ev_op (ev_op ev_c (ev_fld (ev_var rfl) hu CC.cl (CC.no _ (by simp)) (calF_near _ _)) (rv_I (.inl ⟨by decide, by decide⟩))) ev_c rv_I0) (congrArg V.int (by omega))) fun H1 e1 => ?_
    refine q_asgR (er_three
      (eu_tup (ea_cons (ev_var rfl) (ea_cons (ev_is (ev_op (ev_op ev_c (ev_var rfl) (rv_I (.inl ⟨by decide, by decide⟩))) ev_c rv_I0) (show _ = V.int ((2 * (4 * r + 1) + 1 : Nat) : Int) from congrArg V.int (by omega))) ea_nil)) (by show 2 ≤ 100000; decide))
      (eu_tup (ea_cons (ev_var rfl) (ea_cons (ev_is (ev_op (ev_op ev_c (ev_var rfl) (rv_I (.inl ⟨by decide, by decide⟩))) ev_c rv_I0) (show _ = V.int ((3 * (4 * r + 1) + 1 : Nat) : Int) from congrArg V.int (by omega))) ea_nil)) (by show 2 ≤ 100000; decide))
      (eu_tup (ea_cons (ev_is (ev_op (ev_var rfl) ev_c rv_I0) (show _ = V.int ((4 * r + 1 + 1 : Nat) : Int) from congrArg V.int (by omega))) (ea_cons (ev_is (ev_op (ev_op ev_c (ev_var rfl) (rv_I (.inl ⟨by decide, by decide⟩))) ev_c rv_I0) (show _ = V.int ((2 * (4 * r + 1) + 3 : Nat) : Int) from congrArg V.int (by omega))) ea_nil)) (by show 2 ≤ 100000; decide))) fun L H2 hL e2 ⟨a1, a2, a3, hL2, h1, h2, h3⟩ => ?_
    obtain ⟨a, b, f1, f2, f3⟩ := form_ok hfit hrr
    have m1 : (4 * r + 1) * (2 * (4 * r + 1) + 1) ≤ 41 * 83 := Nat.mul_le_mul (by omega) (by omega)
    have m2 : (4 * r + 1) * (3 * (4 * r + 1) + 1) ≤ 41 * 124 := Nat.mul_le_mul (by omega) (by omega)
    have m3 : (4 * r + 1 + 1) * (2 * (4 * r + 1) + 3) ≤ 42 * 85 := Nat.mul_le_mul (by omega) (by omega)
    have r3 : 3 ≤ r := by rw [← hrr]; unfold reachOf; omega
    have O1 : LandOk (4 * r + 1) (2 * (4 * r + 1) + 1) := ⟨by omega, by omega, by omega, by omega⟩
    have O2 : LandOk (4 * r + 1) (3 * (4 * r + 1) + 1) := ⟨by omega, by omega, by omega, by omega⟩
    have O3 : LandOk (4 * r + 1 + 1) (2 * (4 * r + 1) + 3) := ⟨by omega, by omega, by omega, by omega⟩
    have l1 : lenN rows (4 * r + 1) (2 * (4 * r + 1) + 1) ≤ 10000 := Nat.le_trans (daysN_len _ _) O1.n5
    have l2 : lenN rows (4 * r + 1) (3 * (4 * r + 1) + 1) ≤ 10000 := Nat.le_trans (daysN_len _ _) O2.n5
    have l3 : lenN rows (4 * r + 1 + 1) (2 * (4 * r + 1) + 3) ≤ 10000 := Nat.le_trans (daysN_len _ _) O3.n5
    have cnt : ∀ {lp : Addr} {w m : Nat} {H3 : Hp} {σ3 : L2.St}, Ex H2 H3 → H2 lp = some (.tup [.int (w : Int), .int (m : Int)]) → LandOk w m → σ3[0]? = some (some (.ref cu)) → σ3[6]? = some (some (.ref lp)) →
        Ev (tCB (rLenS K) (tCons (tCall spListed [] E0 (tCons (tCall (spDays K C_Feast) [] E0 (tCons (tFld K (tVar 0) "rows") (tCons (tVar 6) tNil))) tNil)) tNil)) σ3 H3 (.int ((lenN rows w m : Nat) : Int)) := fun {lp w m H3 σ3} e3 hlp hO h0 h6 => by
      have E3 := (e1.trans e2).trans e3
      refine ev_is (ev_lenN (el_call (ea_cons (ev_call (ea_cons (ev_fld (ev_var h0) (E3 _ _ hu) CC.cl (CC.no _ (by simp)) (calF_rows _ _)) (ea_cons (ev_var h6) ea_nil)) (spv_days (hru.mono E3) hd (st_of (e3 _ _ hlp)) hO)) ea_nil) (spL fun H4 _ Q _ q => ⟨_, _, rfl, by have := hO.n5; omega, q⟩))) ?_
      rw [List.length_map]
      rfl
    refine q_asgL (el_is (el_tupN (fun _ => true) (fun i => .int (([lenN rows (4 * r + 1) (2 * (4 * r + 1) + 1), lenN rows (4 * r + 1) (3 * (4 * r + 1) + 1), lenN rows (4 * r + 1 + 1) (2 * (4 * r + 1) + 3)].getD i 0 : Nat) : Int)) (ev_var rfl) (st_of hL2) (by show 3 ≤ 40000; decide) (fun _ => rfl) (fun _ _ _ _ _ => et_yes) fun i x H3 e3 hx _ => ?_)
      (show _ = [V.int ((lenN rows (4 * r + 1) (2 * (4 * r + 1) + 1) : Nat) : Int), V.int ((lenN rows (4 * r + 1) (3 * (4 * r + 1) + 1) : Nat) : Int), V.int ((lenN rows (4 * r + 1 + 1) (2 * (4 * r + 1) + 3) : Nat) : Int)] from rfl)) fun C H3 hC e3 hC3 => ?_
    · match i, hx with
      | 0, hx => cases hx; exact cnt e3 h1 O1 rfl rfl
      | 1, hx => cases hx; exact cnt e3 h2 O2 rfl rfl
      | 2, hx => cases hx; exact cnt e3 h3 O3 rfl rfl
      | n + 3, hx => simp at hx
    · generalize lenN rows (4 * r + 1) (2 * (4 * r + 1) + 1) = c0 at *
      generalize lenN rows (4 * r + 1) (3 * (4 * r + 1) + 1) = c1 at *
      generalize lenN rows (4 * r + 1 + 1) (2 * (4 * r + 1) + 3) = c2 at *
      have hq : ((c1 : Int) - (c0 : Int)) / ((4 * r + 1 : Nat) : Int) = a := by
        rw [f1]
        exact Int.mul_ediv_cancel_left _ (by omega)
      have ha : a.natAbs ≤ 10000 := by
        have z1 : -10000 ≤ ((4 * r + 1 : Nat) : Int) * a := by omega
        have z2 : ((4 * r + 1 : Nat) : Int) * a ≤ 10000 := by omega
        rcases Int.lt_trichotomy a 0 with q | q | q
        · have : ((4 * r + 1 : Nat) : Int) * a ≤ 1 * a := Int.mul_le_mul_of_nonpos_right (by omega) (by omega)
          omega
        · omega
        · have : 1 * a ≤ ((4 * r + 1 : Nat) : Int) * a := Int.mul_le_mul_of_nonneg_right (by omega) (by omega)
          omega
      refine q_asg (v := .int a) (ev_is (ev_op (ev_op (ev_op (ev_var rfl) ev_c (rv_ixL (i := 1) (sq_of hC3) rfl)) (ev_op (ev_var rfl) ev_c (rv_ixL (i := 0) (sq_of hC3) rfl)) rv_I0) (ev_var rfl) (rv_I ⟨by omega, by omega⟩)) (congrArg V.int hq)) fun H4 e4 => ?_
      refine q_asg (v := .int b) (ev_is (ev_op (ev_op (ev_op (ev_var rfl) ev_c (rv_ixL (i := 2) (sq_of (e4 _ _ hC3)) rfl)) (ev_op (ev_var rfl) ev_c (rv_ixL (i := 0) (sq_of (e4 _ _ hC3)) rfl)) rv_I0) (ev_op ev_c (ev_var rfl) (rv_I (.inl ⟨by decide, by decide⟩))) rv_I0) (congrArg V.int f2)) fun H5 e5 => ?_
      have hC5 := (e4.trans e5) _ _ hC3
      refine s_retU (eu_tup (vs := [.int a, .int b, .int ((c0 : Int) - a * (2 * ((4 * r + 1 : Nat) : Int) + 1) - b * ((4 * r + 1 : Nat) : Int))]) (ea_cons (ev_var rfl) (ea_cons (ev_var rfl) (ea_cons (ev_op (ev_op (ev_op (ev_var rfl) ev_c (rv_ixL (i := 0) (sq_of hC5) rfl)) (ev_op (ev_var rfl) (ev_op (ev_op ev_c (ev_var rfl) (rv_I (.inl ⟨by decide, by decide⟩))) ev_c rv_I0) (rv_I (.inl ⟨by omega, by omega⟩))) rv_I0) (ev_op (ev_var rfl) (ev_var rfl) (rv_I (.inl ⟨by omega, by omega⟩))) rv_I0) ea_nil))) (by show 3 ≤ 100000; decide)) fun t H6 ht e6 h6 => ?_
      have EE := (((e1.trans e2).trans e3).trans (e4.trans e5))
      exact k t a b _ H6 f3 ha (by omega) (fresh_back EE ht) (EE.trans e6) h6
theorem dn_form (T : Txt P w K mg C_BadRule C_BadRules C_BadLand C_BadDay C_BadNumber C_BadSeen C_BadText C_Feast C_Calendar C_Line C_Walk) (CF : Cls1 K C_Feast ["told", "bys"]) (CC : Cls1 K C_Calendar ["rows", "near"]) : Dn P w K mg base CX0 "form" 8 ["calendar"] (spForm K C_Feast C_Calendar) := T.f_form.dn fun _ _ F _ _ => ok_form F T CF CC
end
end WF

set_option Elab.async false
set_option linter.all false
set_option maxRecDepth 100000
set_option maxHeartbeats 1000000
/-! what was seen; lands that fit it -/
namespace WF
open PySem L2 Evl
def seenB (o : Option Int) : Bool := match o with
  | some z => decide (-1000 ≤ z) && decide (z ≤ 1000)
  | none => false
/-- a value, and whether it is a day and a truth -/
inductive SeenV (K : PySem.W.Frag) (H : Hp) : V → Bool → Prop where
  | kind {v : V} {t : Value} (h : TyX K H v t) (k : PySem.W.kitOne K t (.type "tuple") = some false) : SeenV K H v false
  | len {a : Addr} {xs : List V} (h : SqT K H a xs) (n : xs.length ≠ 2) : SeenV K H (.ref a) false
  | snd {a : Addr} {x y : V} {t : Value} (h : SqT K H a [x, y]) (hy : TyX K H y t) (k : PySem.W.kitOne K t (.type "bool") = some false) : SeenV K H (.ref a) false
  | fst {a : Addr} {x : V} {b : Bool} {o : Option Int} (h : SqT K H a [x, .bl b]) (hx : NumV K H x o) : SeenV K H (.ref a) (seenB o)
theorem SeenV.mono {K : PySem.W.Frag} {H H' : Hp} {v : V} {b : Bool} (e : Ex H H') (h : SeenV K H v b) : SeenV K H' v b := by
  cases h with
  | kind h k => exact .kind (ty_mono e h) k
  | len h n => exact .len (ex_t e h) n
  | snd h hy k => exact .snd (ex_t e h) (ty_mono e hy) k
  | fst h hx => exact .fst (ex_t e h) (hx.mono e)
theorem kit_bb2 {K : PySem.W.Frag} : PySem.W.kitOne K (.type "bool") (.type "bool") = some true := kit_ty (by decide +kernel)
/-- what was seen, item by item -/
abbrev Seen := List (Int × Bool)
def SeenAt (K : PySem.W.Frag) (H : Hp) (x : V) (s : Int × Bool) : Prop := ∃ a, x = .ref a ∧ SqT K H a [.int s.1, .bl s.2]
def SeenL (K : PySem.W.Frag) (H : Hp) : List V → Seen → Prop
  | [], [] => True
  | x :: xs, s :: ss => SeenAt K H x s ∧ SeenL K H xs ss
  | _, _ => False
theorem SeenL.kn {K : PySem.W.Frag} {H H' : Hp} (e : KeepN H H') : ∀ {xs : List V} {ss : Seen}, SeenL K H xs ss → SeenL K H' xs ss
  | [], [], _ => trivial
  | _ :: _, _ :: _, ⟨⟨a, h0, h1⟩, h2⟩ => ⟨⟨a, h0, sqt_kn e h1⟩, SeenL.kn e h2⟩
  | [], _ :: _, h => h
  | _ :: _, [], h => h
theorem SeenL.len {K : PySem.W.Frag} {H : Hp} : ∀ {xs : List V} {ss : Seen}, SeenL K H xs ss → xs.length = ss.length
  | [], [], _ => rfl
  | _ :: _, _ :: _, h => congrArg (· + 1) (SeenL.len h.2)
  | [], _ :: _, h => h.elim
  | _ :: _, [], h => h.elim
theorem SeenL.get {K : PySem.W.Frag} {H : Hp} : ∀ {xs : List V} {ss : Seen} {i : Nat} {x : V}, SeenL K H xs ss → xs[i]? = some x → SeenAt K H x (ss.getD i (0, false)) ∧ i < ss.length
  | _ :: _, s :: _, 0, _, h, e => by
    cases e
    exact ⟨h.1, Nat.succ_pos _⟩
  | _ :: xs, _ :: ss, i + 1, x, h, e => by
    have := SeenL.get (xs := xs) (ss := ss) (i := i) (x := x) h.2 e
    exact ⟨this.1, Nat.succ_lt_succ this.2⟩
  | [], [], i, x, _, e => by simp at e
  | [], _ :: _, _, _, h, _ => h.elim
  | _ :: _, [], _, _, h, _ => h.elim
theorem SeenL.snoc {K : PySem.W.Frag} {H : Hp} : ∀ {xs : List V} {ss : Seen} {x : V} {s : Int × Bool}, SeenL K H xs ss → SeenAt K H x s → SeenL K H (xs ++ [x]) (ss ++ [s])
  | [], [], _, _, _, h => ⟨h, trivial⟩
  | _ :: _, _ :: _, _, _, h, g => ⟨h.1, SeenL.snoc h.2 g⟩
  | [], _ :: _, _, _, h, _ => h.elim
  | _ :: _, [], _, _, h, _ => h.elim
def fitsB (p : Int → Bool) (ss : Seen) : Bool := ss.all fun s => p s.1 == s.2
theorem getD_all {α : Type} (d : α) (f : α → Bool) : ∀ ss : List α, ((List.range ss.length).map fun i => f (ss.getD i d)) = ss.map f
  | [] => rfl
  | s :: ss => by
    rw [List.length_cons, List.range_succ_eq_map, List.map_cons, List.map_map]
    exact congrArg (List.cons (f s)) (getD_all d f ss)
/-- what is asked of a calendar, a land and the rest: BadLand, an error behind, or an answer -/
theorem bl_beq (a b : Bool) : V.bl (decide (V.bl a = V.bl b)) = V.bl (a == b) := by cases a <;> cases b <;> rfl
section
variable {P : Program} {w : World} {K : PySem.W.Frag} {mg : Str → Option Value} {base : Heap} {C_BadRule C_BadRules C_BadLand C_BadDay C_BadNumber C_BadSeen C_BadText C_Feast C_Calendar C_Line C_Walk : Addr} {f : Addr} {fd : FuncData}
def spSeen (K : PySem.W.Frag) : Sp := fun vs H Q _ => ∃ v b, vs = [v] ∧ SeenV K H v b ∧ RetV (.bl b) H Q
theorem ok_seen (F : Fun K "is_seen" "is_seen" s_is_seen f fd) (T : Txt P w K mg C_BadRule C_BadRules C_BadLand C_BadDay C_BadNumber C_BadSeen C_BadText C_Feast C_Calendar C_Line C_Walk) : FnOk P w K mg base CX0 1 f fd ["value"] (spSeen K) := by
  obtain ⟨uF, gFARTHEST, rFARTHEST⟩ := T.g_FARTHEST
  refine F.ok sc_is_seen (fun vs H Q E h => ?_) (fun cdv A outer s H vs Q E hr h => ?_)
  · obtain ⟨_, _, rfl, _⟩ := h
    rfl
  · obtain ⟨v, b, rfl, hV, k⟩ := h
    refine ⟨_, (pss_cons (ps_if (PW.pt (pw_or (pt_not (pt_val (pe_callB call_isi (by rfl) T.isinstance (by decide +kernel) (pa_cons (pv 0) (pa_cons (pe_bltn (v := .ty "tuple") (by rfl) T.tuple (by decide +kernel) rfl) pa_nil))))) (pw_or (pt_cmpR op_ne (pe_callB call_len_seq (by rfl) T.len (by decide +kernel) (pa_cons (pv 0) pa_nil)) pe_int (nomark _)) (pw_or1 (pt_not (pt_val (pe_callB call_isi (by rfl) T.isinstance (by decide +kernel) (pa_cons (pe_ix ix_tup (pv 0) pe_int (fun _ _ => rfl)) (pa_cons (pe_bltn (v := .ty "bool") (by rfl) T.bool (by decide +kernel) rfl) pa_nil))))))))) (pss_one (ps_ret pe_bl))
  pss_nil)
  (pss_cons (ps_set (i := 1) sc_is_seen.nd rfl (by first | exact Or.inl rfl | exact Or.inr rfl) (pe_ix ix_tup (pv 0) pe_int (fun _ _ => rfl)))
  (pss_one (ps_ret (pe_and (pe_callB call_isi (by rfl) T.isinstance (by decide +kernel) (pa_cons (pv 1) (pa_cons (pe_bltn (v := .ty "int") (by rfl) T.int (by decide +kernel) rfl) pa_nil))) (pe_and (pe_not (pe_callB call_isi (by rfl) T.isinstance (by decide +kernel) (pa_cons (pv 1) (pa_cons (pe_bltn (v := .ty "bool") (by rfl) T.bool (by decide +kernel) rfl) pa_nil)))) (pe_one (pe_chain op_le op_le (pe_un un_neg (pe_globE rfl T.g_FARTHEST)) (pv 1) (pe_globE rfl T.g_FARTHEST))))))))), ?_⟩
    cases hV with
    | kind h kk =>
      refine q_yes (et_or1 (et_is (et_not (et_B (ev_isi (ev_var rfl) h kk))) rfl)) fun H1 e1 => ?_
      exact s_ret ev_c fun H2 e2 => k H2 (e1.trans e2)
    | len h n =>
      rename_i a xs
      refine q_yes (et_is (et_or (et_not (et_B (ev_isi (ev_var rfl) (ty_tup h) kit_tt))) fun _ => et_or1 (et_is (et_cmp (ev_lenT (ev_var rfl) h) ev_c (rv_ne rfl)) (by rw [decide_eq_false (fun q => n (by have := V.int.inj q; omega))]; rfl))) rfl) fun H1 e1 => ?_
      exact s_ret ev_c fun H2 e2 => k H2 (e1.trans e2)
    | snd h hy kk =>
      refine q_yes (et_is (et_or (et_not (et_B (ev_isi (ev_var rfl) (ty_tup h) kit_tt))) fun _ => et_or (et_cmp (ev_lenT (ev_var rfl) h) ev_c (rv_ne rfl)) fun _ => et_not (et_B (ev_isi (ev_ixT (ev_var rfl) h rfl) hy kk))) rfl) fun H1 e1 => ?_
      exact s_ret ev_c fun H2 e2 => k H2 (e1.trans e2)
    | fst h hx =>
      rename_i a x b o
      refine q_not (et_is (et_or (et_not (et_B (ev_isi (ev_var rfl) (ty_tup h) kit_tt))) fun _ => et_or (et_cmp (ev_lenT (ev_var rfl) h) ev_c (rv_ne rfl)) fun _ => et_not (et_B (ev_isi (ev_ixT (ev_var rfl) h rfl) (ty_bl b) kit_bb2))) rfl) fun H1 e1 => ?_
      refine q_asg (ev_ixT (ev_var rfl) (ex_t e1 h) rfl) fun H2 e2 => ?_
      refine s_ret (ev_isInt3 (ev_var rfl) (hx.mono (e1.trans e2)) (fun z ho hz => ?_) (fun ho => by rw [ho]; rfl)) fun H3 e3 => k H3 ((e1.trans e2).trans e3)
      subst ho hz
      exact ev_is (ev_chain (ev_un ev_c ru_neg) (ev_var rfl) rv_I0 (fun _ => ev_c) (fun _ => rv_I0)) rfl
theorem dn_seen (T : Txt P w K mg C_BadRule C_BadRules C_BadLand C_BadDay C_BadNumber C_BadSeen C_BadText C_Feast C_Calendar C_Line C_Walk) : Dn P w K mg base CX0 "is_seen" 1 ["value"] (spSeen K) := T.f_is_seen.dn fun _ _ F _ _ => ok_seen F T
def spFits (K : PySem.W.Frag) : Sp := fun vs H Q _ => ∃ (lp a : Addr) (xs : List V) (ss : Seen) (w m : Nat) (p : Int → Bool), vs = [.int ((figN (w * m) p : Nat) : Int), .ref lp, .ref a] ∧ SqT K H lp [.int (w : Int), .int (m : Int)] ∧ LandOk w m ∧ Per ((w * m : Nat) : Int) p ∧
  (SqL K H a xs ∨ SqT K H a xs) ∧ SeenL K H xs ss ∧ ss.length ≤ 1000 ∧ RetV (.bl (fitsB p ss)) H Q
theorem ok_fits (F : Fun K "fits" "fits" s_fits f fd) (T : Txt P w K mg C_BadRule C_BadRules C_BadLand C_BadDay C_BadNumber C_BadSeen C_BadText C_Feast C_Calendar C_Line C_Walk) : FnOk P w K mg base CX0 1 f fd ["figure", "land", "seen"] (spFits K) := by
  refine F.ok sc_fits (fun vs H Q E h => ?_) (fun cdv A outer s H vs Q E hr h => ?_)
  · obtain ⟨_, _, _, _, _, _, _, rfl, _⟩ := h
    rfl
  · obtain ⟨lp, a, xs, ss, w, m, p, rfl, hT, hO, hper, hS, hl, hn, k⟩ := h
    have hpos := hO.pos
    obtain ⟨w2, wm, m6, n5⟩ := id hO
    have hq : ((w * m : Nat) : Int) = (w : Int) * (m : Int) := Int.natCast_mul w m
    have hlen := hl.len
    have item : ∀ (i : Nat) (x : V), xs[i]? = some x → ∃ q, x = .ref q ∧ SqT K H q [.int (ss.getD i (0, false)).1, .bl (ss.getD i (0, false)).2] := fun i x hi => (hl.get hi).1
    have hall : (List.range xs.length).map (fun i => V.bl (p (ss.getD i (0, false)).1 == (ss.getD i (0, false)).2)) = (ss.map fun s => p s.1 == s.2).map V.bl := by
      rw [hlen, ← getD_all (0, false) (fun s : Int × Bool => p s.1 == s.2) ss, List.map_map]
      rfl
    have hfin : (ss.map fun s => p s.1 == s.2).all id = fitsB p ss := by
      unfold fitsB
      rw [List.all_map]
      rfl
    rcases hS with hS | hS
    · refine ⟨_, (pss_one (ps_ret (pe_callB (cr_all rfl) (by rfl) T.all (by decide +kernel) (pa_cons (pe_lc (own := [("day", 3), ("truth", 4)]) (tt := tYes) rfl sc_fits.nd (pi_list (pv 2)) (blkOk_by (own := [("day", 3), ("truth", 4)]) (N := ["figure", "land", "seen", "day", "truth"]) (sc := defScope s_fits) (by decide +kernel)) (fun _ _ _ _ _ => (pg_tupK (K := K) (n := 2) rfl (pgs_cons (pg_name (i := 3) sc_fits.nd rfl (by first | exact Or.inl rfl | exact Or.inr rfl)) (pgs_cons (pg_name (i := 4) sc_fits.nd rfl (by first | exact Or.inl rfl | exact Or.inr rfl)) pgs_nil)))) (fun _ _ _ _ _ => pts_nil) (fun _ _ _ _ _ => (pe_cmpR op_eq (pe_cmpR op_eq (pe_op op_and (pe_op op_shr (pv 0) (pe_op op_mod (pv 3) (pe_op op_mul (pe_ix (ix_tupK (K := K)) (pv 1) pe_int (fun _ _ => rfl)) (pe_ix (ix_tupK (K := K)) (pv 1) pe_int (fun _ _ => rfl))))) pe_int) pe_int (nomark _)) (pv 4) (nomark _)))) pa_nil)))), ?_⟩
      refine s_ret (v := .bl (fitsB p ss)) (ev_is (ev_all (bs := ss.map fun s => p s.1 == s.2) (el_is (el_lst2 (fun i => .int (ss.getD i (0, false)).1) (fun i => .bl (ss.getD i (0, false)).2) (fun _ => true) (fun i => .bl (p (ss.getD i (0, false)).1 == (ss.getD i (0, false)).2)) (ev_var rfl) hS (by omega) (fun _ _ => rfl) item (fun i H1 e1 hi H2 e2 Q q => q H2 (Ex.refl H2)) (fun i H1 e1 hi _ => ev_is (ev_op (ev_is (ev_op (ev_op (ev_op (ev_var rfl) (ev_op (ev_var rfl) (ev_is (ev_op (ev_ixT (ev_var rfl) (ex_t e1 hT) rfl) (ev_ixT (ev_var rfl) (ex_t e1 hT) rfl) (rv_I (.inl ⟨by omega, by omega⟩))) (by rw [← hq])) (rv_I (by omega))) (rv_I (Int.emod_nonneg _ (by omega)))) ev_c rv_I0) ev_c (rv_eq rfl)) (fig_at hper hpos _)) (ev_var rfl) (rv_eq rfl)) (bl_beq _ _))) ((given_allL _ _).trans hall))) (by rw [hfin])) k
    · refine ⟨_, (pss_one (ps_ret (pe_callB (cr_all rfl) (by rfl) T.all (by decide +kernel) (pa_cons (pe_lc (own := [("day", 3), ("truth", 4)]) (tt := tYes) rfl sc_fits.nd (pi_tup (pv 2)) (blkOk_by (own := [("day", 3), ("truth", 4)]) (N := ["figure", "land", "seen", "day", "truth"]) (sc := defScope s_fits) (by decide +kernel)) (fun _ _ _ _ _ => (pg_tupK (K := K) (n := 2) rfl (pgs_cons (pg_name (i := 3) sc_fits.nd rfl (by first | exact Or.inl rfl | exact Or.inr rfl)) (pgs_cons (pg_name (i := 4) sc_fits.nd rfl (by first | exact Or.inl rfl | exact Or.inr rfl)) pgs_nil)))) (fun _ _ _ _ _ => pts_nil) (fun _ _ _ _ _ => (pe_cmpR op_eq (pe_cmpR op_eq (pe_op op_and (pe_op op_shr (pv 0) (pe_op op_mod (pv 3) (pe_op op_mul (pe_ix (ix_tupK (K := K)) (pv 1) pe_int (fun _ _ => rfl)) (pe_ix (ix_tupK (K := K)) (pv 1) pe_int (fun _ _ => rfl))))) pe_int) pe_int (nomark _)) (pv 4) (nomark _)))) pa_nil)))), ?_⟩
      refine s_ret (v := .bl (fitsB p ss)) (ev_is (ev_all (bs := ss.map fun s => p s.1 == s.2) (el_is (el_tup2 (fun i => .int (ss.getD i (0, false)).1) (fun i => .bl (ss.getD i (0, false)).2) (fun _ => true) (fun i => .bl (p (ss.getD i (0, false)).1 == (ss.getD i (0, false)).2)) (ev_var rfl) hS (by omega) (fun _ _ => rfl) item (fun i H1 e1 hi H2 e2 Q q => q H2 (Ex.refl H2)) (fun i H1 e1 hi _ => ev_is (ev_op (ev_is (ev_op (ev_op (ev_op (ev_var rfl) (ev_op (ev_var rfl) (ev_is (ev_op (ev_ixT (ev_var rfl) (ex_t e1 hT) rfl) (ev_ixT (ev_var rfl) (ex_t e1 hT) rfl) (rv_I (.inl ⟨by omega, by omega⟩))) (by rw [← hq])) (rv_I (by omega))) (rv_I (Int.emod_nonneg _ (by omega)))) ev_c rv_I0) ev_c (rv_eq rfl)) (fig_at hper hpos _)) (ev_var rfl) (rv_eq rfl)) (bl_beq _ _))) ((given_allL _ _).trans hall))) (by rw [hfin])) k
theorem dn_fits (T : Txt P w K mg C_BadRule C_BadRules C_BadLand C_BadDay C_BadNumber C_BadSeen C_BadText C_Feast C_Calendar C_Line C_Walk) : Dn P w K mg base CX0 "fits" 1 ["figure", "land", "seen"] (spFits K) := T.f_fits.dn fun _ _ F _ _ => ok_fits F T
end
end WF

set_option Elab.async false
set_option linter.all false
set_option maxRecDepth 100000
set_option maxHeartbeats 1000000
/-! fitting -/
namespace WF
open PySem L2 Evl
def landsTo (M : Nat) : List (Nat × Nat) := landsL (M - 1) M (M - 1 + M - 4)
def fitL (rows : Rows) (ss : Seen) (M : Nat) : List (Nat × Nat) := (landsTo M).filter fun l => fitsB (calDay (l.1 : Int) (l.2 : Int) rows) ss
theorem landsTo_ok {M : Nat} (hM : M ≤ 50) {l : Nat × Nat} (h : l ∈ landsTo M) : LandOk l.1 l.2 := by
  obtain ⟨h1, h2, h3, h4, h5⟩ := landsL_mem h
  have : l.1 * l.2 ≤ 50 * 50 := Nat.mul_le_mul (by omega) (by omega)
  exact ⟨h1, h3, by omega, by omega⟩
theorem landsTo_len {M : Nat} (h2 : 2 ≤ M) (hM : M ≤ 50) : (landsTo M).length ≤ 3000 := by
  unfold landsTo
  have e := lands_eq (M - 1) M (by omega)
  have h3 : (landsL (M - 1) M (M - 1 + M - 4)).length = (rawL M (M - 1 - 1)).length := by rw [← e, List.length_mergeSort]
  have h4 := rawL_len M (M - 1 - 1)
  have h5 : (M - 1 - 1) * M ≤ 50 * 50 := Nat.mul_le_mul (by omega) (by omega)
  omega
section
variable {K : PySem.W.Frag} {σ : L2.St} {H H' : Hp} {ta tb tc te tl : TE} {tA : TA}
theorem er_landsB {E : XK} {M : Nat} (h : EvA tA σ H [.int ((M - 1 : Nat) : Int), .int (M : Int)]) (h1 : 2 ≤ M) (h2 : M ≤ 50) : EvR (tCall (spLands K) [] E tA) σ H fun p H2 => ∃ ys, H2 p = some (.lst ys) ∧ LandL K H2 ys (landsTo M) := fun H1 e Q q =>
  h H1 e _ fun H2 e2 => ⟨M - 1, M, rfl, by omega, by omega, by omega, fun p xs H3 hp e3 k1 k2 => q p H3 (fresh_back e2 hp) (e2.trans e3) ⟨xs, k1, k2⟩⟩
end
section
variable {P : Program} {w : World} {K : PySem.W.Frag} {mg : Str → Option Value} {base : Heap} {C_BadRule C_BadRules C_BadLand C_BadDay C_BadNumber C_BadSeen C_BadText C_Feast C_Calendar C_Line C_Walk : Addr} {f : Addr} {fd : FuncData}
def spFit (K : PySem.W.Frag) (CF CC CS : Addr) : Sp := fun vs H Q E => ∃ (c : V) (a : Addr) (M : Nat) (xs : List V) (rows : Rows) (good : Nat → Bool), vs = [c, .ref a, .int (M : Int)] ∧ 2 ≤ M ∧ M ≤ 50 ∧ CalAt K CF CC H c rows ∧ depMax rows < 5 ∧ (SqL K H a xs ∨ SqT K H a xs) ∧ xs.length ≤ 1000 ∧
  (∀ i x, xs[i]? = some x → SeenV K H x (good i)) ∧
  (∀ i, i < xs.length → (∀ j, j < i → good j = true) → good i = false → ∀ d H2, Ex H H2 → H2 d = some (.xd [("index", .int ((i : Nat) : Int))]) → E (.ref CS) (some d) H2) ∧
  ((∀ i, i < xs.length → good i = true) → ∃ ss, SeenL K H xs ss ∧ ∀ p ys H2, H p = none → Ex H H2 → H2 p = some (.lst ys) → LandL K H2 ys (fitL rows ss M) → Q (.ref p) H2)
theorem ok_fitting (F : Fun K "fitting" "fitting" s_fitting f fd) (T : Txt P w K mg C_BadRule C_BadRules C_BadLand C_BadDay C_BadNumber C_BadSeen C_BadText C_Feast C_Calendar C_Line C_Walk) (CF : Cls1 K C_Feast ["told", "bys"]) (CC : Cls1 K C_Calendar ["rows", "near"]) : FnOk P w K mg base (L2.CX P w) 8 f fd ["calendar", "seen", "most"] (spFit K C_Feast C_Calendar C_BadSeen) := by
  have D_is_seen : Dn P w K mg base CX0 "is_seen" 1 ["value"] (spSeen K) := dn_seen T
  have D_lands_to : Dn P w K mg base CX0 "lands_to" 2 ["weeks", "months"] (spLands K) := dn_lands_to T
  have D_fits : Dn P w K mg base CX0 "fits" 1 ["figure", "land", "seen"] (spFits K) := dn_fits T
  have D_days_of : Dn P w K mg base CX0 "days_of" 7 ["rows", "land"] (spDays K C_Feast) := dn_days T CF
  have ME_BadSeen : MnE P w K mg base C_BadSeen 2 (spE1 C_BadSeen "index") := me_BadSeen T
  refine F.okX sc_fitting (fun vs H Q E h => ?_) (fun cdv A outer s H vs Q E hr h => ?_)
  · obtain ⟨_, _, _, _, _, _, rfl, _⟩ := h
    rfl
  · obtain ⟨c, a, M, xs, rows, good, rfl, hM2, hM, ⟨ca, dx, rv, rfl, hc, hrv⟩, hdep, hS, hn, hV, kB, kG⟩ := h
    rcases hS with hS | hS
    · refine ⟨_, (pss_cons (ps_for (passes_of rfl) rfl (pi_enum (by rfl) T.enumerate (pa_cons (pv 1) pa_nil)) (pg_tup rfl (pgs_cons (pg_name (i := 3) sc_fitting.nd rfl (by first | exact Or.inl rfl | exact Or.inr rfl)) (pgs_cons (pg_name (i := 4) sc_fitting.nd rfl (by first | exact Or.inl rfl | exact Or.inr rfl)) pgs_nil)))
  (pss_one (ps_if (pt_not (pt_val (pe_fn D_is_seen (hr.mono (by omega)) pass0 rfl (pa_cons (pv 4) pa_nil)))) (pss_one (ps_raiseS rfl (takes_of rfl rfl rfl rfl) ME_BadSeen (hr.mono (by omega)) T.c_BadSeen rfl (pa_cons (pv 3) pa_nil)))
  pss_nil)))
  (pss_one (ps_ret (pe_lc (own := [("land", 5)]) (g := gName 5) rfl sc_fitting.nd (pi_list (pe_fn D_lands_to (hr.mono (by omega)) pass0 rfl (pa_cons (pe_op op_sub (pv 2) pe_int) (pa_cons (pv 2) pa_nil)))) (blkOk_by (own := [("land", 5)]) (N := ["calendar", "seen", "most", "index", "one", "land"]) (sc := defScope s_fitting) (by decide +kernel)) (fun _ _ _ _ _ => (pg_name (i := 5) sc_fitting.nd rfl (by first | exact Or.inl rfl | exact Or.inr rfl))) (fun _ _ _ _ _ => (pts_one (pt_val (pe_fn D_fits (hr.mono (by omega)) pass0 rfl (pa_cons (pe_fn D_days_of (hr.mono (by omega)) pass0 rfl (pa_cons (pe_fldK (K := K) (pv 0) rfl) (pa_cons (pv 5) pa_nil))) (pa_cons (pv 5) (pa_cons (pv 1) pa_nil))))))) (fun _ _ _ _ _ => (pv 5)))))), ?_⟩
      refine q_forEnL (ev_var rfl) hS (fun i σ' H' => ∃ a3 a4, σ' = [some (.ref ca), some (.ref a), some (.int (M : Int)), a3, a4, none] ∧ Ex H H' ∧ ∀ j, j < i → good j = true) (fun H1 e1 => ⟨none, none, rfl, e1, fun j hj => absurd hj (Nat.not_lt_zero _)⟩) (fun i σ' H' _ ⟨_, _, _, e, _⟩ => ex_l e hS) ?_ ?_
      · rintro i x σ' H' H2 hi ⟨a3, a4, rfl, e, hj⟩ e2
        have E2 := e.trans e2
        have hil := (List.getElem?_eq_some_iff.mp hi).1
        have hev : EvT (tNot (tB (tCall (spSeen K) [] E0 (tCons (tVar 4) tNil)))) [some (.ref ca), some (.ref a), some (.int (M : Int)), some (.int ((i : Nat) : Int)), some x, none] H2 (!good i) := et_not (et_B (ev_call (ea_cons (ev_var rfl) ea_nil) (spV fun H3 e3 Q _ q => ⟨x, _, rfl, (hV i x hi).mono (E2.trans e3), q⟩)))
        cases hg : good i with
        | false =>
          rw [hg] at hev
          exact s_yes hev fun H3 e3 => raiseE (ea_cons (ev_var rfl) ea_nil) fun dd H4 e4 hd4 hx => kB i hil hj hg dd H4 ((E2.trans e3).trans e4) hx
        | true =>
          rw [hg] at hev
          exact s_no hev fun H3 e3 => ⟨_, _, rfl, E2.trans e3, fun j hji => by
            by_cases h : j = i
            · rw [h]; exact hg
            · exact hj j (by omega)⟩
      · rintro σ' H' ⟨a3, a4, rfl, e, hj⟩
        obtain ⟨ss, hss, kG⟩ := kG hj
        have hss' : SeenL K H' xs ss := hss.kn (KeepN.of e)
        refine s_retX ?_
        refine er_landF (fun l => fitsB (calDay (l.1 : Int) (l.2 : Int) rows) ss) (er_landsB (M := M) (ea_cons (ev_is (ev_op (ev_var rfl) ev_c rv_I0) (congrArg V.int (by omega))) (ea_cons (ev_var rfl) ea_nil)) hM2 hM) (by have := landsTo_len hM2 hM; omega) (fun _ => rfl) (fun _ => rfl) (fun l lp H1 hl e1 hT => ?_) H' (Ex.refl H') _ fun p H2 hp e2 ⟨ys, hy, hly⟩ => kG p ys H2 (fresh_back e hp) (e.trans e2) hy hly
        have hO := landsTo_ok hM hl
        have E1 := e.trans e1
        refine et_B (ev_call (ea_cons (ev_call (ea_cons (ev_fld (ev_var rfl) (E1 _ _ hc) CC.cl (CC.no _ (by simp)) (calF_rows _ _)) (ea_cons (ev_var rfl) ea_nil)) (spv_days (hrv.mono E1) hdep hT hO)) (ea_cons (ev_var rfl) (ea_cons (ev_var rfl) ea_nil))) (spV fun H3 e3 Q _ q => ⟨lp, a, xs, ss, l.1, l.2, calDay (l.1 : Int) (l.2 : Int) rows, rfl, ex_t e3 hT, hO, ?_, .inl (ex_l (E1.trans e3) hS), hss.kn (KeepN.of (E1.trans e3)), by have := hss.len; omega, q⟩))
        rw [Int.natCast_mul]
        exact cal_per _ _ rows
    · refine ⟨_, (pss_cons (ps_for (passes_of rfl) rfl (pi_enumT (by rfl) T.enumerate (pa_cons (pv 1) pa_nil)) (pg_tup rfl (pgs_cons (pg_name (i := 3) sc_fitting.nd rfl (by first | exact Or.inl rfl | exact Or.inr rfl)) (pgs_cons (pg_name (i := 4) sc_fitting.nd rfl (by first | exact Or.inl rfl | exact Or.inr rfl)) pgs_nil)))
  (pss_one (ps_if (pt_not (pt_val (pe_fn D_is_seen (hr.mono (by omega)) pass0 rfl (pa_cons (pv 4) pa_nil)))) (pss_one (ps_raiseS rfl (takes_of rfl rfl rfl rfl) ME_BadSeen (hr.mono (by omega)) T.c_BadSeen rfl (pa_cons (pv 3) pa_nil)))
  pss_nil)))
  (pss_one (ps_ret (pe_lc (own := [("land", 5)]) (g := gName 5) rfl sc_fitting.nd (pi_list (pe_fn D_lands_to (hr.mono (by omega)) pass0 rfl (pa_cons (pe_op op_sub (pv 2) pe_int) (pa_cons (pv 2) pa_nil)))) (blkOk_by (own := [("land", 5)]) (N := ["calendar", "seen", "most", "index", "one", "land"]) (sc := defScope s_fitting) (by decide +kernel)) (fun _ _ _ _ _ => (pg_name (i := 5) sc_fitting.nd rfl (by first | exact Or.inl rfl | exact Or.inr rfl))) (fun _ _ _ _ _ => (pts_one (pt_val (pe_fn D_fits (hr.mono (by omega)) pass0 rfl (pa_cons (pe_fn D_days_of (hr.mono (by omega)) pass0 rfl (pa_cons (pe_fldK (K := K) (pv 0) rfl) (pa_cons (pv 5) pa_nil))) (pa_cons (pv 5) (pa_cons (pv 1) pa_nil))))))) (fun _ _ _ _ _ => (pv 5)))))), ?_⟩
      refine q_forEnT (ev_var rfl) hS (fun i σ' H' => ∃ a3 a4, σ' = [some (.ref ca), some (.ref a), some (.int (M : Int)), a3, a4, none] ∧ Ex H H' ∧ ∀ j, j < i → good j = true) (fun H1 e1 => ⟨none, none, rfl, e1, fun j hj => absurd hj (Nat.not_lt_zero _)⟩) (fun i σ' H' _ ⟨_, _, _, e, _⟩ => ex_t e hS) ?_ ?_
      · rintro i x σ' H' H2 hi ⟨a3, a4, rfl, e, hj⟩ e2
        have E2 := e.trans e2
        have hil := (List.getElem?_eq_some_iff.mp hi).1
        have hev : EvT (tNot (tB (tCall (spSeen K) [] E0 (tCons (tVar 4) tNil)))) [some (.ref ca), some (.ref a), some (.int (M : Int)), some (.int ((i : Nat) : Int)), some x, none] H2 (!good i) := et_not (et_B (ev_call (ea_cons (ev_var rfl) ea_nil) (spV fun H3 e3 Q _ q => ⟨x, _, rfl, (hV i x hi).mono (E2.trans e3), q⟩)))
        cases hg : good i with
        | false =>
          rw [hg] at hev
          exact s_yes hev fun H3 e3 => raiseE (ea_cons (ev_var rfl) ea_nil) fun dd H4 e4 hd4 hx => kB i hil hj hg dd H4 ((E2.trans e3).trans e4) hx
        | true =>
          rw [hg] at hev
          exact s_no hev fun H3 e3 => ⟨_, _, rfl, E2.trans e3, fun j hji => by
            by_cases h : j = i
            · rw [h]; exact hg
            · exact hj j (by omega)⟩
      · rintro σ' H' ⟨a3, a4, rfl, e, hj⟩
        obtain ⟨ss, hss, kG⟩ := kG hj
        have hss' : SeenL K H' xs ss := hss.kn (KeepN.of e)
        refine s_retX ?_
        refine er_landF (fun l => fitsB (calDay (l.1 : Int) (l.2 : Int) rows) ss) (er_landsB (M := M) (ea_cons (ev_is (ev_op (ev_var rfl) ev_c rv_I0) (congrArg V.int (by omega))) (ea_cons (ev_var rfl) ea_nil)) hM2 hM) (by have := landsTo_len hM2 hM; omega) (fun _ => rfl) (fun _ => rfl) (fun l lp H1 hl e1 hT => ?_) H' (Ex.refl H') _ fun p H2 hp e2 ⟨ys, hy, hly⟩ => kG p ys H2 (fresh_back e hp) (e.trans e2) hy hly
        have hO := landsTo_ok hM hl
        have E1 := e.trans e1
        refine et_B (ev_call (ea_cons (ev_call (ea_cons (ev_fld (ev_var rfl) (E1 _ _ hc) CC.cl (CC.no _ (by simp)) (calF_rows _ _)) (ea_cons (ev_var rfl) ea_nil)) (spv_days (hrv.mono E1) hdep hT hO)) (ea_cons (ev_var rfl) (ea_cons (ev_var rfl) ea_nil))) (spV fun H3 e3 Q _ q => ⟨lp, a, xs, ss, l.1, l.2, calDay (l.1 : Int) (l.2 : Int) rows, rfl, ex_t e3 hT, hO, ?_, .inr (ex_t (E1.trans e3) hS), hss.kn (KeepN.of (E1.trans e3)), by have := hss.len; omega, q⟩))
        rw [Int.natCast_mul]
        exact cal_per _ _ rows
theorem dn_fitting (T : Txt P w K mg C_BadRule C_BadRules C_BadLand C_BadDay C_BadNumber C_BadSeen C_BadText C_Feast C_Calendar C_Line C_Walk) (CF : Cls1 K C_Feast ["told", "bys"]) (CC : Cls1 K C_Calendar ["rows", "near"]) : Dn P w K mg base (L2.CX P w) "fitting" 8 ["calendar", "seen", "most"] (spFit K C_Feast C_Calendar C_BadSeen) := T.f_fitting.dn fun _ _ F _ _ => ok_fitting F T CF CC
end
end WF

set_option Elab.async false
set_option linter.all false
set_option maxRecDepth 100000
set_option maxHeartbeats 1000000
/-! asking -/
namespace WF
open PySem L2 Evl
def askB (rows : Rows) (ls : List (Nat × Nat)) (d : Nat) : Bool := (ls.any fun l => !calDay (l.1 : Int) (l.2 : Int) rows (d : Int)) && (ls.any fun l => calDay (l.1 : Int) (l.2 : Int) rows (d : Int))
def askO (rows : Rows) (ls : List (Nat × Nat)) : Option Nat := (List.range 61).find? (askB rows ls)
def askV (o : Option Nat) : V := match o with
  | some d => .int ((d : Nat) : Int)
  | none => .non
theorem find_none {n : Nat} {p : Nat → Bool} (h : ∀ j, j < n → p j = false) : (List.range n).find? p = none := by
  rw [List.find?_eq_none]
  intro x hx
  rw [h x (List.mem_range.mp hx)]
  decide
theorem find_some : ∀ {n d : Nat} {p : Nat → Bool}, d < n → p d = true → (∀ j, j < d → p j = false) → (List.range n).find? p = some d
  | 0, _, _, h, _, _ => absurd h (Nat.not_lt_zero _)
  | n + 1, d, p, hd, hp, hl => by
    rw [List.range_succ, List.find?_append]
    by_cases h : d < n
    · rw [find_some h hp hl]
      rfl
    · have : d = n := by omega
      subst this
      rw [find_none hl]
      simp [hp]
theorem fig_at2 {N : Nat} {p : Int → Bool} (hp : Per (N : Int) p) (hN : 0 < N) (d : Int) : Builtin.bitAnd ((figN N p : Int) / 2 ^ (d % (N : Int)).toNat) 1 = if p d = true then 1 else 0 := by
  have h := V.bl.inj (fig_at hp hN d)
  have h2 : Builtin.bitAnd ((figN N p : Int) / 2 ^ (d % (N : Int)).toNat) 1 = (figN N p : Int) / 2 ^ (d % (N : Int)).toNat % 2 := PyProof.Rows.bitAnd_m1 _
  rw [h2] at h ⊢
  have h0 := Int.emod_nonneg ((figN N p : Int) / 2 ^ (d % (N : Int)).toNat) (show (2 : Int) ≠ 0 by decide)
  have h1 := Int.emod_lt_of_pos ((figN N p : Int) / 2 ^ (d % (N : Int)).toNat) (show (0 : Int) < 2 by decide)
  by_cases hx : (figN N p : Int) / 2 ^ (d % (N : Int)).toNat % 2 = 1
  · rw [decide_eq_true (congrArg V.int hx)] at h
    rw [← h, if_pos rfl, hx]
  · rw [decide_eq_false (fun q => hx (V.int.inj q))] at h
    rw [← h, if_neg (by decide)]
    omega
theorem in_bits (f : Nat × Nat → Bool) : ∀ ls : List (Nat × Nat), inV (.int 0) (ls.map fun l => V.int (if f l = true then 1 else 0)) = (ls.any fun l => !f l) ∧ inV (.int 1) (ls.map fun l => V.int (if f l = true then 1 else 0)) = (ls.any f)
  | [] => ⟨rfl, rfl⟩
  | l :: ls => by
    obtain ⟨h1, h2⟩ := in_bits f ls
    rw [List.map_cons, List.any_cons, List.any_cons, ← h1, ← h2]
    cases f l <;> simp [inV, eqV]
theorem bits_flat (f : Nat × Nat → Bool) (ls : List (Nat × Nat)) : (ls.map fun l => V.int (if f l = true then 1 else 0)).all flatV = true := by
  rw [List.all_eq_true]
  intro x hx
  rw [List.mem_map] at hx
  obtain ⟨l, _, rfl⟩ := hx
  rfl
theorem map_getD {α β : Type} (d : α) (f : α → β) : ∀ ss : List α, ((List.range ss.length).map fun i => f (ss.getD i d)) = ss.map f
  | [] => rfl
  | s :: ss => by
    rw [List.length_cons, List.range_succ_eq_map, List.map_cons, List.map_map]
    exact congrArg (List.cons (f s)) (map_getD d f ss)
section
variable {P : Program} {w : World} {K : PySem.W.Frag} {mg : Str → Option Value} {base : Heap} {C_BadRule C_BadRules C_BadLand C_BadDay C_BadNumber C_BadSeen C_BadText C_Feast C_Calendar C_Line C_Walk : Addr} {f : Addr} {fd : FuncData}
def spAsk (K : PySem.W.Frag) (CF CC CS : Addr) : Sp := fun vs H Q E => ∃ (c : V) (a : Addr) (M : Nat) (xs : List V) (rows : Rows) (good : Nat → Bool), vs = [c, .ref a, .int (M : Int)] ∧ 2 ≤ M ∧ M ≤ 50 ∧ CalAt K CF CC H c rows ∧ depMax rows < 5 ∧ (SqL K H a xs ∨ SqT K H a xs) ∧ xs.length ≤ 1000 ∧
  (∀ i x, xs[i]? = some x → SeenV K H x (good i)) ∧
  (∀ i, i < xs.length → (∀ j, j < i → good j = true) → good i = false → ∀ d H2, Ex H H2 → H2 d = some (.xd [("index", .int ((i : Nat) : Int))]) → E (.ref CS) (some d) H2) ∧
  ((∀ i, i < xs.length → good i = true) → ∃ ss, SeenL K H xs ss ∧ RetV (askV (askO rows (fitL rows ss M))) H Q)
theorem ok_asking (F : Fun K "asking" "asking" s_asking f fd) (T : Txt P w K mg C_BadRule C_BadRules C_BadLand C_BadDay C_BadNumber C_BadSeen C_BadText C_Feast C_Calendar C_Line C_Walk) (CF : Cls1 K C_Feast ["told", "bys"]) (CC : Cls1 K C_Calendar ["rows", "near"]) : FnOk P w K mg base (L2.CX P w) 9 f fd ["calendar", "seen", "most"] (spAsk K C_Feast C_Calendar C_BadSeen) := by
  obtain ⟨uM, gMOST_ASKED, rMOST_ASKED⟩ := T.g_MOST_ASKED
  have D_fitting : Dn P w K mg base (L2.CX P w) "fitting" 8 ["calendar", "seen", "most"] (spFit K C_Feast C_Calendar C_BadSeen) := dn_fitting T CF CC
  have D_days_of : Dn P w K mg base CX0 "days_of" 7 ["rows", "land"] (spDays K C_Feast) := dn_days T CF
  refine F.okX sc_asking (fun vs H Q E h => ?_) (fun cdv A outer s H vs Q E hr h => ?_)
  · obtain ⟨_, _, _, _, _, _, rfl, _⟩ := h
    rfl
  · obtain ⟨c, a, M, xs, rows, good, rfl, hM2, hM, hcal, hdep, hS, hn, hV, kB, kG⟩ := h
    obtain ⟨ca, dx, rv, rfl, hc, hrv⟩ := id hcal
    refine ⟨_, (pss_cons (ps_setLc (i := 3) (own := [("land", 6)]) (g := gName 6) (tt := tYes) rfl sc_asking.nd rfl rfl (sw_true rfl rfl rfl (by decide +kernel)) (pi_list (pe_fn D_fitting (hr.mono (by omega)) (passes_call (takes_of rfl rfl rfl rfl) (fun _ _ _ _ h => h)) rfl (pa_cons (pv 0) (pa_cons (pv 1) (pa_cons (pv 2) pa_nil))))) (blkOk_by (own := [("land", 6)]) (N := ["calendar", "seen", "most", "some", "day", "told", "land", "figure"]) (sc := defScope s_asking) (by decide +kernel)) (fun _ _ _ _ _ => (pg_name (i := 6) sc_asking.nd rfl (by first | exact Or.inl rfl | exact Or.inr rfl))) (fun _ _ _ _ _ => pts_nil) (fun _ _ _ _ _ => (pe_tup (pa_cons (pv 6) (pa_cons (pe_fn D_days_of (hr.mono (by omega)) pass0 rfl (pa_cons (pe_fldK (K := K) (pv 0) rfl) (pa_cons (pv 6) pa_nil))) pa_nil)))))
  (pss_cons (ps_for (passes_of rfl) rfl (pi_range1 (by rfl) T.range (pa_cons (pe_op op_add (pe_globE rfl T.g_MOST_ASKED) pe_int) pa_nil)) (pg_name (i := 4) sc_asking.nd rfl (by first | exact Or.inl rfl | exact Or.inr rfl))
  (pss_cons (ps_setLc (i := 5) (own := [("land", 6), ("figure", 7)]) (tt := tYes) rfl sc_asking.nd rfl rfl (sw_true rfl rfl rfl (by decide +kernel)) (pi_list (pv 3)) (blkOk_by (own := [("land", 6), ("figure", 7)]) (N := ["calendar", "seen", "most", "some", "day", "told", "land", "figure"]) (sc := defScope s_asking) (by decide +kernel)) (fun _ _ _ _ _ => (pg_tupK (K := K) (n := 2) rfl (pgs_cons (pg_name (i := 6) sc_asking.nd rfl (by first | exact Or.inl rfl | exact Or.inr rfl)) (pgs_cons (pg_name (i := 7) sc_asking.nd rfl (by first | exact Or.inl rfl | exact Or.inr rfl)) pgs_nil)))) (fun _ _ _ _ _ => pts_nil) (fun _ _ _ _ _ => (pe_op op_and (pe_op op_shr (pv 7) (pe_op op_mod (pv 4) (pe_op op_mul (pe_ix (ix_tupK (K := K)) (pv 6) pe_int (fun _ _ => rfl)) (pe_ix (ix_tupK (K := K)) (pv 6) pe_int (fun _ _ => rfl))))) pe_int)))
  (pss_one (ps_if (PW.pt (pw_and (pt_cmpR op_in_seq pe_int (pv 5) (by rfl)) (pw_and1 (pt_cmpR op_in_seq pe_int (pv 5) (by rfl))))) (pss_one (ps_ret (pv 4)))
  pss_nil))))
  (pss_one (ps_ret pe_non)))), ?_⟩
    by_cases hbad : ¬ ∀ i, i < xs.length → good i = true
    · exact call_ev (ea_cons (ev_var rfl) (ea_cons (ev_var rfl) (ea_cons (ev_var rfl) ea_nil))) fun H1 e1 => ⟨_, a, M, xs, rows, good, rfl, hM2, hM, hcal.mono e1, hdep, hS.imp (ex_l e1) (ex_t e1), hn, fun i x hi => (hV i x hi).mono e1, fun i hi hj hg dd H2 e2 hx => kB i hi hj hg dd H2 (e1.trans e2) hx, fun h => absurd h hbad⟩
    have hgood := Classical.not_not.mp hbad
    obtain ⟨ss, hss, k⟩ := kG hgood
    have hok : ∀ l ∈ fitL rows ss M, LandOk l.1 l.2 := fun l hl => landsTo_ok hM (List.mem_filter.mp hl).1
    have hfl : (fitL rows ss M).length ≤ 3000 := Nat.le_trans (List.length_filter_le _ _) (landsTo_len hM2 hM)
    refine q_asgR (er_figs (ls := fitL rows ss M) (fun l => ((figN (l.1 * l.2) (calDay (l.1 : Int) (l.2 : Int) rows) : Nat) : Int)) (fun H1 e1 Q q => call_ev (ea_cons (ev_var rfl) (ea_cons (ev_var rfl) (ea_cons (ev_var rfl) ea_nil))) fun H2 e2 => ⟨_, a, M, xs, rows, good, rfl, hM2, hM, hcal.mono (e1.trans e2), hdep, hS.imp (ex_l (e1.trans e2)) (ex_t (e1.trans e2)), hn, fun i x hi => (hV i x hi).mono (e1.trans e2), fun i hi hj hg => absurd (hgood i hi) (by rw [hg]; decide), fun _ => ⟨ss, hss.kn (KeepN.of (e1.trans e2)), fun p ys H3 hp e3 hy hly => q p H3 (fresh_back e2 hp) (e2.trans e3) ⟨ys, hy, hly⟩⟩⟩) (by omega) (fun _ => rfl) (fun _ => rfl) fun l lp H3 hl E3 hT => ev_call (ea_cons (ev_fld (ev_var rfl) (E3 _ _ hc) CC.cl (CC.no _ (by simp)) (calF_rows _ _)) (ea_cons (ev_var rfl) ea_nil)) (spv_days (hrv.mono E3) hdep hT (hok l hl))) fun L H3 hL E3 ⟨fs, hfs, hfl2⟩ => ?_
    generalize hls : fitL rows ss M = ls at k hok hfl hfl2
    obtain ⟨qf, hqf⟩ := hfl2.fn
    have hflen := hfl2.len
    refine q_forR1 (n := 61) (ea_cons (ev_op ev_c ev_c rv_I0) ea_nil) ⟨by decide, by decide⟩ (fun i σ' H' => ∃ a4 a5, σ' = [some (.ref ca), some (.ref a), some (.int (M : Int)), some (.ref L), a4, a5, none, none] ∧ Ex H3 H' ∧ ∀ j, j < i → askB rows ls j = false) (fun H4 e4 => ⟨none, none, rfl, e4, fun j hj => absurd hj (Nat.not_lt_zero _)⟩) ?_ ?_
    · rintro i σ' H' hi ⟨a4, a5, rfl, e, hj⟩
      have item : ∀ (n : Nat) (x : V), fs[n]? = some x → ∃ p, x = .ref p ∧ SqT K H' p [.ref (qf n), .int ((figN ((ls.getD n (0, 0)).1 * (ls.getD n (0, 0)).2) (calDay ((ls.getD n (0, 0)).1 : Int) ((ls.getD n (0, 0)).2 : Int) rows) : Nat) : Int)] := fun n x hx => by
        obtain ⟨p, h0, h1, _⟩ := hqf n x hx
        exact ⟨p, h0, ex_t e h1⟩
      refine q_asgL (el_is (el_lst2 (fun n => .ref (qf n)) (fun n => .int ((figN ((ls.getD n (0, 0)).1 * (ls.getD n (0, 0)).2) (calDay ((ls.getD n (0, 0)).1 : Int) ((ls.getD n (0, 0)).2 : Int) rows) : Nat) : Int)) (fun _ => true) (fun n => .int (if calDay ((ls.getD n (0, 0)).1 : Int) ((ls.getD n (0, 0)).2 : Int) rows ((i : Nat) : Int) = true then 1 else 0)) (ev_var rfl) (sq_of (e _ _ hfs)) (by omega) (fun _ _ => rfl) item (fun n H4 e4 hn H5 e5 Q q => q H5 (Ex.refl H5)) (fun n H4 e4 hn _ => ?_)) ((given_allL _ _).trans (show _ = ls.map (fun l => V.int (if calDay (l.1 : Int) (l.2 : Int) rows ((i : Nat) : Int) = true then 1 else 0)) by rw [hflen]; exact map_getD (0, 0) (fun l : Nat × Nat => V.int (if calDay (l.1 : Int) (l.2 : Int) rows ((i : Nat) : Int) = true then 1 else 0)) ls))) fun TL H4 hTL e4 hTLv => ?_
      · obtain ⟨p, _, _, hT0⟩ := hqf n _ (List.getElem?_eq_getElem hn)
        have hmem : ls.getD n (0, 0) ∈ ls := (hfl2.get (List.getElem?_eq_getElem hn)).2
        have hO := hok _ hmem
        have hT := ex_t (e.trans e4) hT0
        generalize ls.getD n (0, 0) = l at hT hO ⊢
        obtain ⟨w2, wm, m6, n5⟩ := id hO
        have hpos := hO.pos
        have hq : ((l.1 * l.2 : Nat) : Int) = (l.1 : Int) * (l.2 : Int) := Int.natCast_mul l.1 l.2
        have hper : Per ((l.1 * l.2 : Nat) : Int) (calDay (l.1 : Int) (l.2 : Int) rows) := by rw [hq]; exact cal_per _ _ rows
        exact ev_is (ev_op (ev_op (ev_var rfl) (ev_op (ev_var rfl) (ev_is (ev_op (ev_ixT (ev_var rfl) hT rfl) (ev_ixT (ev_var rfl) hT rfl) (rv_I (.inl ⟨by omega, by omega⟩))) (by rw [← hq])) (rv_I (by omega))) (rv_I (Int.emod_nonneg _ (by omega)))) ev_c rv_I0) (congrArg V.int (fig_at2 hper hpos _))
      · obtain ⟨i0, i1⟩ := in_bits (fun l => calDay (l.1 : Int) (l.2 : Int) rows ((i : Nat) : Int)) ls
        have hfb := bits_flat (fun l => calDay (l.1 : Int) (l.2 : Int) rows ((i : Nat) : Int)) ls
        have rvI : ∀ z : Int, RV (rIn K false) (.int z) (.ref TL) H4 (.bl (inV (.int z) (ls.map fun l => V.int (if calDay (l.1 : Int) (l.2 : Int) rows ((i : Nat) : Int) = true then 1 else 0)))) := fun z H5 e5 Q q => ⟨TL, _, rfl, .inl (sq_of (e5 _ _ hTLv)), rfl, hfb, q H5 (Ex.refl H5)⟩
        have hev : EvT (tAnd (tTest (tOp (rIn K false) (tC (.int 0)) (tVar 5))) (tTest (tOp (rIn K false) (tC (.int 1)) (tVar 5)))) [some (.ref ca), some (.ref a), some (.int (M : Int)), some (.ref L), some (.int ((i : Nat) : Int)), some (.ref TL), none, none] H4 (askB rows ls i) := et_is (et_and (et_test (ev_op ev_c (ev_var rfl) (rvI 0))) fun _ => et_test (ev_op ev_c (ev_var rfl) (rvI 1))) (by rw [i0, i1]; rfl)
        cases hb : askB rows ls i with
        | true =>
          rw [hb] at hev
          refine s_yes hev fun H5 e5 => ?_
          have hsome : askO rows ls = some i := find_some (by omega) hb hj
          rw [hsome] at k
          exact s_ret (ev_var rfl) fun H6 e6 => k H6 ((((E3.trans e).trans e4).trans e5).trans e6)
        | false =>
          rw [hb] at hev
          exact s_no hev fun H5 e5 => ⟨_, _, rfl, (e.trans e4).trans e5, fun j hji => by
            by_cases h : j = i
            · rw [h]; exact hb
            · exact hj j (by omega)⟩
    · rintro σ' H' ⟨a4, a5, rfl, e, hj⟩
      have hno : askO rows ls = none := find_none fun j h => hj j h
      rw [hno] at k
      exact s_ret ev_c fun H4 e4 => k H4 ((E3.trans e).trans e4)
theorem dn_asking (T : Txt P w K mg C_BadRule C_BadRules C_BadLand C_BadDay C_BadNumber C_BadSeen C_BadText C_Feast C_Calendar C_Line C_Walk) (CF : Cls1 K C_Feast ["told", "bys"]) (CC : Cls1 K C_Calendar ["rows", "near"]) : Dn P w K mg base (L2.CX P w) "asking" 9 ["calendar", "seen", "most"] (spAsk K C_Feast C_Calendar C_BadSeen) := T.f_asking.dn fun _ _ F _ _ => ok_asking F T CF CC
end
end WF

set_option Elab.async false
set_option linter.all false
set_option maxRecDepth 100000
set_option maxHeartbeats 2000000
/-! a walk: its object, its methods -/
namespace WF
open PySem L2 Evl
def walkF (L : Addr) (N : Nat) (p : Int → Bool) : List (Str × V) := putF "rows" (.ref L) (putF "round_days" (.int (N : Nat)) (putF "figure" (.int (figN N p : Nat)) []))
theorem walkF_figure (L : Addr) (N : Nat) (p : Int → Bool) : (walkF L N p).lookup ("figure" : Str) = some (.int (figN N p : Nat)) := by
  unfold walkF
  rw [lookup_putF, if_neg (by decide +kernel), lookup_putF, if_neg (by decide +kernel), lookup_putF, if_pos rfl]
theorem walkF_round (L : Addr) (N : Nat) (p : Int → Bool) : (walkF L N p).lookup ("round_days" : Str) = some (.int (N : Nat)) := by
  unfold walkF
  rw [lookup_putF, if_neg (by decide +kernel), lookup_putF, if_pos rfl]
theorem walkF_rows (L : Addr) (N : Nat) (p : Int → Bool) : (walkF L N p).lookup ("rows" : Str) = some (.ref L) := by
  unfold walkF
  rw [lookup_putF, if_pos rfl]
theorem walkF_no (L : Addr) (N : Nat) (p : Int → Bool) {m : Str} (h1 : ¬ m = "rows") (h2 : ¬ m = "round_days") (h3 : ¬ m = "figure") : (walkF L N p).lookup m = none := by
  unfold walkF
  rw [lookup_putF, if_neg h1, lookup_putF, if_neg h2, lookup_putF, if_neg h3]
  all_goals rfl
structure WalkAt (K : PySem.W.Frag) (CW : Addr) (H : Hp) (p L : Addr) (N : Nat) (pr : Int → Bool) (hist : List (Nat × Nat)) : Prop where
  obj : ∃ dx, H p = some (.ins CW dx (walkF L N pr))
  rows : ∃ xs, H L = some (.lst xs) ∧ LandL K H xs hist
section
variable {K : PySem.W.Frag} {CW p L : Addr} {H H' : Hp} {N : Nat} {pr : Int → Bool} {hist : List (Nat × Nat)}
theorem WalkAt.mono (e : Ex H H') (h : WalkAt K CW H p L N pr hist) : WalkAt K CW H' p L N pr hist := by
  obtain ⟨⟨dx, h1⟩, xs, h2, h3⟩ := h
  exact ⟨⟨dx, e _ _ h1⟩, xs, e _ _ h2, h3.kn (KeepN.of e)⟩
theorem WalkAt.but {d : Addr} {xs : List V} (hd : H d = some (.lst xs)) (e : ExB d H H') (hne : L ≠ d) (h : WalkAt K CW H p L N pr hist) : WalkAt K CW H' p L N pr hist := by
  obtain ⟨⟨dx, h1⟩, ys, h2, h3⟩ := h
  exact ⟨⟨dx, e.kn hd _ _ (fun _ q => nomatch q) h1⟩, ys, e _ _ hne h2, h3.kn (e.kn hd)⟩
/-- the rows become other rows -/
theorem WalkAt.put {xs : List V} {hist' : List (Nat × Nat)} (h : WalkAt K CW H p L N pr hist) (e : Ex H H') (hl : LandL K H' xs hist') : WalkAt K CW (upd H' L (.lst xs)) p L N pr hist' := by
  obtain ⟨⟨dx, h1⟩, ys, h2, h3⟩ := h
  have kn : KeepN H' (upd H' L (.lst xs)) := (KeepN.refl H').lst (e _ _ h2)
  exact ⟨⟨dx, kn _ _ (fun _ q => nomatch q) (e _ _ h1)⟩, xs, upd_same, hl.kn kn⟩
end
def goB : Option Int → Bool
  | some z => decide (1 ≤ z) && decide (z ≤ 500)
  | none => false
def goneL (pr : Int → Bool) (here n : Nat) : List V := given n (fun i => pr ((here : Int) + (i : Int))) (fun i => .int ((here : Int) + (i : Int)))
section
variable {P : Program} {w : World} {K : PySem.W.Frag} {mg : Str → Option Value} {base : Heap} {C_BadRule C_BadRules C_BadLand C_BadDay C_BadNumber C_BadSeen C_BadText C_Feast C_Calendar C_Line C_Walk : Addr} {f : Addr} {fd : FuncData}
def spWalk (K : PySem.W.Frag) (CF CC CW CL : Addr) : Sp := fun vs H Q E => ∃ p dx c l o, vs = [.ref p, c, l] ∧ H p = some (.ins CW dx []) ∧ NeedL K H l o ∧ (o = none → ∀ H1, Ex H H1 → E (.ref CL) none H1) ∧
  (∀ w m, o = some (w, m) → ∃ rows, CalAt K CF CC H c rows ∧ depMax rows < 5 ∧ ∀ H' L, H L = none → ExB p H H' → WalkAt K CW H' p L (w * m) (calDay w m rows) [(0, 0)] → Q .non H')
theorem ok_walk (F : Fun K "__init__" "Walk.__init__" s_Walk_init f fd) (T : Txt P w K mg C_BadRule C_BadRules C_BadLand C_BadDay C_BadNumber C_BadSeen C_BadText C_Feast C_Calendar C_Line C_Walk) (CF : Cls1 K C_Feast ["told", "bys"]) (CC : Cls1 K C_Calendar ["rows", "near"]) (CW : Cls1 K C_Walk ["figure", "round_days", "rows"]) : FnOk P w K mg base (L2.CX P w) 8 f fd ["self", "calendar", "land"] (spWalk K C_Feast C_Calendar C_Walk C_BadLand) := by
  have D_need_land : Dn P w K mg base (L2.CX P w) "need_land" 3 ["value"] (spNeedLand K C_BadLand) := dn_need_land T
  have D_days_of : Dn P w K mg base CX0 "days_of" 7 ["rows", "land"] (spDays K C_Feast) := dn_days T CF
  refine F.okX sc_Walk_init (fun vs H Q E h => ?_) (fun cdv A outer s H vs Q E hr h => ?_)
  · obtain ⟨_, _, _, _, _, rfl, _⟩ := h
    rfl
  · obtain ⟨p, dx, c, l, o, rfl, hp, hL, kL, kG⟩ := h
    refine ⟨_, (pss_cons (ps_expr (pe_fn D_need_land (hr.mono (by omega)) (passes_call (takes_of rfl rfl rfl rfl) (fun _ _ _ _ h => h)) rfl (pa_cons (pv 2) pa_nil)))
  (pss_cons (ps_fld (pv 0) (pe_fn D_days_of (hr.mono (by omega)) pass0 rfl (pa_cons (pe_fld (pv 1) rfl) (pa_cons (pv 2) pa_nil))) rfl)
  (pss_cons (ps_fld (pv 0) (pe_op op_mul (pe_ix ix_tup (pv 2) pe_int (fun _ _ => rfl)) (pe_ix ix_tup (pv 2) pe_int (fun _ _ => rfl))) rfl)
  (pss_one (ps_fld (pv 0) (pe_lst (pa_cons (pe_tup (pa_cons pe_int (pa_cons pe_int pa_nil))) pa_nil)) rfl))))), ?_⟩
    refine q_dropX (ea_cons (ev_var rfl) ea_nil) fun H1 e1 => ⟨l, o, rfl, hL.mono e1, fun ho H2 e2 => ?_, fun ho H2 e2 => kL ho H2 (e1.trans e2)⟩
    have E2 := e1.trans e2
    cases hL with
    | bad h => exact absurd rfl ho
    | big h c z0 z => exact absurd rfl ho
    | good hT hO cp zz =>
      rename_i la w m
      obtain ⟨rows, ⟨ca, dc, rv, rfl, hc, hrv⟩, hdep, k⟩ := kG w m rfl
      obtain ⟨w2, wm, m6, n5⟩ := id hO
      have hq : ((w * m : Nat) : Int) = (w : Int) * (m : Int) := Int.natCast_mul w m
      refine q_fld (ev_call (ea_cons (ev_fld (ev_var rfl) (E2 _ _ hc) CC.cl (CC.no _ (by simp)) (calF_rows _ _)) (ea_cons (ev_var rfl) ea_nil)) (spv_days (hrv.mono E2) hdep (ex_t E2 hT) hO)) (ev_var rfl) (E2 _ _ hp) CW.cl (CW.no _ (by simp)) (by show 0 < 1000; decide) fun H3 e3 => ?_
      have E3 := E2.trans e3
      have hT3 := sqt_upd (fs' := putF "figure" (.int (figN (w * m) (calDay w m rows) : Nat)) []) (E3 _ _ hp) (ex_t E3 hT)
      refine q_fld (y := .int (w * m : Nat)) (ev_is (ev_op (ev_ixT (ev_var rfl) hT3 rfl) (ev_ixT (ev_var rfl) hT3 rfl) (rv_I (.inl ⟨by omega, by omega⟩))) (by rw [← hq])) (ev_var rfl) upd_same CW.cl (CW.no _ (by simp)) (by show 1 < 1000; decide) fun H4 e4 => ?_
      refine s_fldR (er_landsD (K := K) (ls := [(0, 0)]) (ly_cons (a := 0) (b := 0) ly_nil) (by decide)) (fun H5 => ev_var rfl) upd_same CW.cl (CW.no _ (by simp)) (by show 2 < 1000; decide) fun q H5 H6 hq0 e5 hR e6 => ?_
      obtain ⟨ys, hy, hl⟩ := hR
      have eb4 : ExB p H (upd H4 p (.ins C_Walk dx (putF "round_days" (.int (w * m : Nat)) (putF "figure" (.int (figN (w * m) (calDay w m rows) : Nat)) [])))) := ((((ExB.of E3).upd).step e4).upd)
      have eb6 := (eb4.step e5).step e6
      have hqp : q ≠ p := fun z => by
        rw [z, upd_same] at hq0
        cases hq0
      have hqH : H q = none := by
        cases hh : H q with
        | none => rfl
        | some o =>
          have := eb4 _ _ hqp hh
          rw [this] at hq0
          cases hq0
      refine k _ q hqH (eb6.upd) ⟨⟨dx, upd_same⟩, ys, ?_, ?_⟩
      · rw [upd_ne hqp]
        exact e6 _ _ hy
      · match ys, hl with
        | [x], ⟨⟨q0, h0, hT0⟩, _⟩ => exact ⟨⟨q0, h0, sqt_upd (e6 _ _ (e5 _ _ upd_same)) (ex_t e6 hT0)⟩, trivial⟩
        | [], h => exact h.elim
        | _ :: _ :: _, h => exact h.2.elim
theorem mn_walk (T : Txt P w K mg C_BadRule C_BadRules C_BadLand C_BadDay C_BadNumber C_BadSeen C_BadText C_Feast C_Calendar C_Line C_Walk) (CF : Cls1 K C_Feast ["told", "bys"]) (CC : Cls1 K C_Calendar ["rows", "near"]) (CW : Cls1 K C_Walk ["figure", "round_days", "rows"]) : Mn P w K mg base (L2.CX P w) C_Walk 8 ["self", "calendar", "land"] (spWalk K C_Feast C_Calendar C_Walk C_BadLand) := T.m_Walk_init.mn fun _ _ F => ok_walk F T CF CC CW
def spGo (K : PySem.W.Frag) (CW CN : Addr) : Sp := fun vs H Q E => ∃ p L N pr rest here many v z, vs = [.ref p, v] ∧ WalkAt K CW H p L N pr (rest ++ [(here, many)]) ∧ NumV K H v z ∧ 0 < N ∧ Per (N : Int) pr ∧ here ≤ 1000000 ∧ rest.length ≤ 1000 ∧
  (goB z = false → ∀ H1, Ex H H1 → E (.ref CN) none H1) ∧
  (∀ n : Nat, z = some (n : Int) → 1 ≤ n → n ≤ 500 → ∀ q H1, H q = none → ExB L H H1 → H1 q = some (.lst (goneL pr here n)) → WalkAt K CW H1 p L N pr ((rest ++ [(here, many)]) ++ [(here + n, many + (goneL pr here n).length)]) → Q (.ref q) H1)
theorem ok_go (F : Fun K "go" "Walk.go" s_Walk_go f fd) (T : Txt P w K mg C_BadRule C_BadRules C_BadLand C_BadDay C_BadNumber C_BadSeen C_BadText C_Feast C_Calendar C_Line C_Walk) (CW : Cls1 K C_Walk ["figure", "round_days", "rows"]) : FnOk P w K mg base (L2.CX P w) 1 f fd ["self", "days"] (spGo K C_Walk C_BadNumber) := by
  refine F.okX sc_Walk_go (fun vs H Q E h => ?_) (fun cdv A outer s H vs Q E hr h => ?_)
  · obtain ⟨_, _, _, _, _, _, _, _, _, rfl, _⟩ := h
    rfl
  · obtain ⟨p, L, N, pr, rest, here, many, v, z, rfl, hW, hZ, hN, hper, hh, hrl, kB, kG⟩ := h
    refine ⟨_, (pss_cons (ps_if (PW.pt (pw_or (pt_not (pt_val (pe_callB call_isi (by rfl) T.isinstance (by decide +kernel) (pa_cons (pv 1) (pa_cons (pe_bltn (v := .ty "int") (by rfl) T.int (by decide +kernel) rfl) pa_nil))))) (pw_or (pt_val (pe_callB call_isi (by rfl) T.isinstance (by decide +kernel) (pa_cons (pv 1) (pa_cons (pe_bltn (v := .ty "bool") (by rfl) T.bool (by decide +kernel) rfl) pa_nil)))) (pw_or1 (pt_not (pt_chain op_le op_le pe_int (pv 1) (pe_globE rfl T.g_MOST_DAYS))))))) (pss_one (ps_raise0 rfl (takes_of rfl rfl rfl rfl) T.e_BadNumber T.c_BadNumber rfl))
  pss_nil)
  (pss_cons (ps_asg (pe_ix ix_list (pe_fld (pv 0) rfl) (pe_un un_neg pe_int) (fun _ _ => rfl)) (pg_tup rfl (pgs_cons (pg_name (i := 2) sc_Walk_go.nd rfl (by first | exact Or.inl rfl | exact Or.inr rfl)) (pgs_cons (pg_name (i := 3) sc_Walk_go.nd rfl (by first | exact Or.inl rfl | exact Or.inr rfl)) pgs_nil))))
  (pss_cons (ps_setLc (i := 4) (own := [("day", 5)]) (g := gName 5) rfl sc_Walk_go.nd rfl rfl (sw_true rfl rfl rfl (by decide +kernel)) (pi_range2 (by rfl) T.range (pa_cons (pv 2) (pa_cons (pe_op op_add (pv 2) (pv 1)) pa_nil))) (blkOk_by (own := [("day", 5)]) (N := ["self", "days", "here", "many", "found", "day"]) (sc := defScope s_Walk_go) (by decide +kernel)) (fun _ _ _ _ _ => (pg_name (i := 5) sc_Walk_go.nd rfl (by first | exact Or.inl rfl | exact Or.inr rfl))) (fun _ _ _ _ _ => (pts_one (pt_cmpR op_eq (pe_op op_and (pe_op op_shr (pe_fldK (K := K) (pv 0) rfl) (pe_op op_mod (pv 5) (pe_fldK (K := K) (pv 0) rfl))) pe_int) pe_int (nomark _)))) (fun _ _ _ _ _ => (pv 5)))
  (pss_cons (ps_expr (pe_bm PySem.F.plainAttrs_list PySem.F.slot_list_append PySem.F.type_list_append mt_append (pe_fld (pv 0) rfl) (pa_cons (pe_tup (pa_cons (pe_op op_add (pv 2) (pv 1)) (pa_cons (pe_op op_add (pv 3) (pe_callB call_len_seq (by rfl) T.len (by decide +kernel) (pa_cons (pv 4) pa_nil))) pa_nil))) pa_nil)))
  (pss_one (ps_ret (pv 4))))))), ?_⟩
    have ht : EvT _ (start ["self", "days", "here", "many", "found", "day"] [.ref p, v]) H (!goB z) := et_orInt3 (K := K) (ta := tVar 1) (tb := tChain (rI0 fun i j => .bl (decide (i ≤ j))) (rI0 fun i j => .bl (decide (i ≤ j))) (tC (.int 1)) (tVar 1) (tC (.int 500))) (x := v) (o := z) (b := goB z) (ev_var rfl) hZ (fun i hi hv => by
      subst hi hv
      exact ev_chain ev_c (ev_var rfl) rv_I0 (fun _ => ev_c) (fun _ => rv_I0)) (fun ho => by rw [ho]; rfl)
    cases hb : goB z with
    | false =>
      rw [hb] at ht
      exact q_yes ht fun H1 e1 => kB hb H1 e1
    | true =>
      rw [hb] at ht
      refine q_not ht fun H1 e1 => ?_
      obtain ⟨n, rfl, hn1, hn2⟩ : ∃ n : Nat, z = some (n : Int) ∧ 1 ≤ n ∧ n ≤ 500 := by
        cases z with
        | none => cases hb
        | some i =>
          have hb' : (decide (1 ≤ i) && decide (i ≤ 500)) = true := hb
          rw [Bool.and_eq_true, decide_eq_true_iff, decide_eq_true_iff] at hb'
          exact ⟨i.toNat, congrArg some (by omega), by omega, by omega⟩
      have hv : v = .int (n : Int) := by cases hZ; rfl
      subst hv
      obtain ⟨⟨dx, hp⟩, xs, hL, hl⟩ := id hW
      obtain ⟨ys, t, rfl, hys, ht1⟩ := hl.last
      have hyl := hys.len
      have hp1 := e1 _ _ hp
      refine q_asgT (ev_op (ev_fld (ev_var rfl) hp1 CW.cl (CW.no _ (by simp)) (walkF_rows _ _ _)) (ev_un ev_c ru_neg) (rv_ixL (sq_of (e1 _ _ hL)) (atI_last _ _))) (ex_t e1 ht1) fun H2 e2 => ?_
      have E2 := e1.trans e2
      refine q_asgL (el_is (el_lcR2 (lo := (here : Int)) (n := n) (fun i => pr ((here : Int) + (i : Int))) (fun i => .int ((here : Int) + (i : Int))) (ea_cons (ev_var rfl) (ea_cons (ev_op (ev_var rfl) (ev_var rfl) rv_I0) ea_nil)) ⟨by omega, by omega⟩ (by omega) (fun _ => rfl) (fun i H3 e3 hi => ?_) (fun i H3 e3 hi _ => ev_var rfl)) rfl) fun q H3 hq e3 hqL => ?_
      · have hp3 := (E2.trans e3) _ _ hp
        exact et_is (et_test (ev_is (ev_op (ev_op (ev_op (ev_fld (ev_var rfl) hp3 CW.cl (CW.no _ (by simp)) (walkF_figure _ _ _)) (ev_op (ev_var rfl) (ev_fld (ev_var rfl) hp3 CW.cl (CW.no _ (by simp)) (walkF_round _ _ _)) (rv_I (by omega))) (rv_I (Int.emod_nonneg _ (by omega)))) ev_c rv_I0) ev_c (rv_eq rfl)) (fig_at hper hN _))) rfl
      have E3 := E2.trans e3
      have hlen : (goneL pr here n).length ≤ n := given_len _ _ _
      have hqL' : H3 q = some (.lst (goneL pr here n)) := hqL
      refine q_appU (ys := [.int ((here + n : Nat) : Int), .int ((many + (goneL pr here n).length : Nat) : Int)]) (E3 _ _ hL) (ev_fld (ev_var rfl) (E3 _ _ hp) CW.cl (CW.no _ (by simp)) (walkF_rows _ _ _)) (eu_tup (ea_cons (ev_is (ev_op (ev_var rfl) (ev_var rfl) rv_I0) rfl) (ea_cons (ev_is (ev_op (ev_var rfl) (ev_lenL (ev_var rfl) (sq_of hqL')) rv_I0) rfl) ea_nil)) (by show 2 ≤ 100000; decide)) (by rw [List.length_append]; simp; omega) fun u H4 hu e4 hu4 => ?_
      refine s_ret (ev_var rfl) fun H5 e5 => ?_
      have hq0 := fresh_back E2 hq
      have hqne : q ≠ L := (ne_of_none hL hq0).symm
      refine kG n rfl hn1 hn2 q H5 hq0 ((ExB.of (E3.trans e4)).upd.step e5) (e5 _ _ ?_) (WalkAt.mono e5 (hW.put (E3.trans e4) ?_))
      · rw [upd_ne hqne]
        exact e4 _ _ hqL'
      · exact LandL.snoc (hl.kn (KeepN.of (E3.trans e4))) (st_of hu4)
theorem mt_go (T : Txt P w K mg C_BadRule C_BadRules C_BadLand C_BadDay C_BadNumber C_BadSeen C_BadText C_Feast C_Calendar C_Line C_Walk) (CW : Cls1 K C_Walk ["figure", "round_days", "rows"]) : Mtn P w K mg base (L2.CX P w) C_Walk "go" 1 ["self", "days"] (spGo K C_Walk C_BadNumber) := T.m_Walk_go.mtn fun _ _ F => ok_go F T CW
def spDayW (K : PySem.W.Frag) (CW : Addr) : Sp := fun vs H Q _ => ∃ p L N pr rest here many, vs = [.ref p] ∧ WalkAt K CW H p L N pr (rest ++ [(here, many)]) ∧ RetV (.int ((here : Nat) : Int)) H Q
theorem ok_dayW (F : Fun K "day" "Walk.day" s_Walk_day f fd) (T : Txt P w K mg C_BadRule C_BadRules C_BadLand C_BadDay C_BadNumber C_BadSeen C_BadText C_Feast C_Calendar C_Line C_Walk) (CW : Cls1 K C_Walk ["figure", "round_days", "rows"]) : FnOk P w K mg base CX0 1 f fd ["self"] (spDayW K C_Walk) := by
  refine F.ok sc_Walk_day (fun vs H Q E h => ?_) (fun cdv A outer s H vs Q E hr h => ?_)
  · obtain ⟨_, _, _, _, _, _, _, rfl, _⟩ := h
    rfl
  · obtain ⟨p, L, N, pr, rest, here, many, rfl, hW, k⟩ := h
    refine ⟨_, (pss_one (ps_ret (pe_ix ix_tup (pe_ix ix_list (pe_fld (pv 0) rfl) (pe_un un_neg pe_int) (fun _ _ => rfl)) pe_int (fun _ _ => rfl)))), ?_⟩
    obtain ⟨⟨dx, hp⟩, xs, hL, hl⟩ := id hW
    obtain ⟨ys, t, rfl, hys, ht1⟩ := hl.last
    exact s_ret (ev_ixT (ev_op (ev_fld (ev_var rfl) hp CW.cl (CW.no _ (by simp)) (walkF_rows _ _ _)) (ev_un ev_c ru_neg) (rv_ixL (sq_of hL) (atI_last _ _))) ht1 rfl) fun H1 e1 => k H1 e1
theorem mt_dayW (T : Txt P w K mg C_BadRule C_BadRules C_BadLand C_BadDay C_BadNumber C_BadSeen C_BadText C_Feast C_Calendar C_Line C_Walk) (CW : Cls1 K C_Walk ["figure", "round_days", "rows"]) : Mtn P w K mg base CX0 C_Walk "day" 1 ["self"] (spDayW K C_Walk) := T.m_Walk_day.mtn fun _ _ F => ok_dayW F T CW
def spFeastsW (K : PySem.W.Frag) (CW : Addr) : Sp := fun vs H Q _ => ∃ p L N pr rest here many, vs = [.ref p] ∧ WalkAt K CW H p L N pr (rest ++ [(here, many)]) ∧ RetV (.int ((many : Nat) : Int)) H Q
theorem ok_feastsW (F : Fun K "feasts" "Walk.feasts" s_Walk_feasts f fd) (T : Txt P w K mg C_BadRule C_BadRules C_BadLand C_BadDay C_BadNumber C_BadSeen C_BadText C_Feast C_Calendar C_Line C_Walk) (CW : Cls1 K C_Walk ["figure", "round_days", "rows"]) : FnOk P w K mg base CX0 1 f fd ["self"] (spFeastsW K C_Walk) := by
  refine F.ok sc_Walk_feasts (fun vs H Q E h => ?_) (fun cdv A outer s H vs Q E hr h => ?_)
  · obtain ⟨_, _, _, _, _, _, _, rfl, _⟩ := h
    rfl
  · obtain ⟨p, L, N, pr, rest, here, many, rfl, hW, k⟩ := h
    refine ⟨_, (pss_one (ps_ret (pe_ix ix_tup (pe_ix ix_list (pe_fld (pv 0) rfl) (pe_un un_neg pe_int) (fun _ _ => rfl)) pe_int (fun _ _ => rfl)))), ?_⟩
    obtain ⟨⟨dx, hp⟩, xs, hL, hl⟩ := id hW
    obtain ⟨ys, t, rfl, hys, ht1⟩ := hl.last
    exact s_ret (ev_ixT (ev_op (ev_fld (ev_var rfl) hp CW.cl (CW.no _ (by simp)) (walkF_rows _ _ _)) (ev_un ev_c ru_neg) (rv_ixL (sq_of hL) (atI_last _ _))) ht1 rfl) fun H1 e1 => k H1 e1
theorem mt_feastsW (T : Txt P w K mg C_BadRule C_BadRules C_BadLand C_BadDay C_BadNumber C_BadSeen C_BadText C_Feast C_Calendar C_Line C_Walk) (CW : Cls1 K C_Walk ["figure", "round_days", "rows"]) : Mtn P w K mg base CX0 C_Walk "feasts" 1 ["self"] (spFeastsW K C_Walk) := T.m_Walk_feasts.mtn fun _ _ F => ok_feastsW F T CW
def spLenW (K : PySem.W.Frag) (CW : Addr) : Sp := fun vs H Q _ => ∃ p L N pr rest l, vs = [.ref p] ∧ WalkAt K CW H p L N pr (rest ++ [l]) ∧ RetV (.int ((rest.length : Nat) : Int)) H Q
theorem ok_lenW (F : Fun K "__len__" "Walk.__len__" s_Walk_len f fd) (T : Txt P w K mg C_BadRule C_BadRules C_BadLand C_BadDay C_BadNumber C_BadSeen C_BadText C_Feast C_Calendar C_Line C_Walk) (CW : Cls1 K C_Walk ["figure", "round_days", "rows"]) : FnOk P w K mg base CX0 1 f fd ["self"] (spLenW K C_Walk) := by
  refine F.ok sc_Walk_len (fun vs H Q E h => ?_) (fun cdv A outer s H vs Q E hr h => ?_)
  · obtain ⟨_, _, _, _, _, _, rfl, _⟩ := h
    rfl
  · obtain ⟨p, L, N, pr, rest, l, rfl, hW, k⟩ := h
    refine ⟨_, (pss_one (ps_ret (pe_callB call_len_seq (by rfl) T.len (by decide +kernel) (pa_cons (pe_slice sl_list (pe_fld (pv 0) rfl) (po_some pe_int) po_none) pa_nil)))), ?_⟩
    obtain ⟨⟨dx, hp⟩, xs, hL, hl⟩ := id hW
    have hxl := hl.len
    rw [List.length_append] at hxl
    cases xs with
    | nil => simp at hxl
    | cons x xs =>
      refine s_ret (ev_is (ev_lenN (el_is (el_sl (ev_fld (ev_var rfl) hp CW.cl (CW.no _ (by simp)) (walkF_rows _ _ _)) (eo_some ev_c) eo_none (sq_of hL)) (cut1 x xs))) ?_) fun H1 e1 => k H1 e1
      have : xs.length = rest.length := by simp at hxl; exact hxl
      rw [this]
theorem mt_lenW (T : Txt P w K mg C_BadRule C_BadRules C_BadLand C_BadDay C_BadNumber C_BadSeen C_BadText C_Feast C_Calendar C_Line C_Walk) (CW : Cls1 K C_Walk ["figure", "round_days", "rows"]) : Mtn P w K mg base CX0 C_Walk "__len__" 1 ["self"] (spLenW K C_Walk) := T.m_Walk_len.mtn fun _ _ F => ok_lenW F T CW
def spUndo (K : PySem.W.Frag) (CW : Addr) : Sp := fun vs H Q _ => ∃ p L N pr rest l, vs = [.ref p] ∧ WalkAt K CW H p L N pr (rest ++ [l]) ∧ (rest = [] → RetV (.bl false) H Q) ∧ (rest ≠ [] → ∀ H1, ExB L H H1 → WalkAt K CW H1 p L N pr rest → Q (.bl true) H1)
theorem ok_undo (F : Fun K "undo" "Walk.undo" s_Walk_undo f fd) (T : Txt P w K mg C_BadRule C_BadRules C_BadLand C_BadDay C_BadNumber C_BadSeen C_BadText C_Feast C_Calendar C_Line C_Walk) (CW : Cls1 K C_Walk ["figure", "round_days", "rows"]) : FnOk P w K mg base CX0 1 f fd ["self"] (spUndo K C_Walk) := by
  refine F.ok sc_Walk_undo (fun vs H Q E h => ?_) (fun cdv A outer s H vs Q E hr h => ?_)
  · obtain ⟨_, _, _, _, _, _, rfl, _⟩ := h
    rfl
  · obtain ⟨p, L, N, pr, rest, l, rfl, hW, k0, k1⟩ := h
    refine ⟨_, (pss_cons (ps_if (pt_cmpR op_eq (pe_callB call_len_seq (by rfl) T.len (by decide +kernel) (pa_cons (pe_fld (pv 0) rfl) pa_nil)) pe_int (nomark _)) (pss_one (ps_ret pe_bl))
  pss_nil)
  (pss_cons (ps_expr (pe_bm0 PySem.F.plainAttrs_list PySem.F.slot_list_pop PySem.F.type_list_pop mt_pop (pe_fld (pv 0) rfl)))
  (pss_one (ps_ret pe_bl)))), ?_⟩
    obtain ⟨⟨dx, hp⟩, xs, hL, hl⟩ := id hW
    obtain ⟨ys, t, rfl, hys, ht1⟩ := hl.last
    have hyl := hys.len
    refine q_when (b := decide (rest = [])) (et_is (et_test (ev_op (ev_lenL (ev_fld (ev_var rfl) hp CW.cl (CW.no _ (by simp)) (walkF_rows _ _ _)) (sq_of hL)) ev_c (rv_eq rfl))) ?_) (fun hb H1 e1 => ?_) (fun hb H1 e1 => ?_)
    · rw [List.length_append, hyl]
      cases rest with
      | nil => rfl
      | cons a r =>
        rw [decide_eq_false (show ¬ (a :: r = []) by simp), decide_eq_false]
        intro q
        have q2 := V.int.inj q
        simp only [List.length_cons, List.length_nil] at q2
        omega
    · exact s_ret ev_c fun H2 e2 => k0 (of_decide_eq_true hb) H2 (e1.trans e2)
    · refine q_pop (e1 _ _ hL) (ev_fld (ev_var rfl) (e1 _ _ hp) CW.cl (CW.no _ (by simp)) (walkF_rows _ _ _)) fun H2 e2 => ?_
      have E2 := e1.trans e2
      exact s_ret ev_c fun H3 e3 => k1 (of_decide_eq_false hb) H3 ((ExB.of E2).upd.step e3) (WalkAt.mono e3 (hW.put E2 (hys.kn (KeepN.of E2))))
theorem mt_undo (T : Txt P w K mg C_BadRule C_BadRules C_BadLand C_BadDay C_BadNumber C_BadSeen C_BadText C_Feast C_Calendar C_Line C_Walk) (CW : Cls1 K C_Walk ["figure", "round_days", "rows"]) : Mtn P w K mg base CX0 C_Walk "undo" 1 ["self"] (spUndo K C_Walk) := T.m_Walk_undo.mtn fun _ _ F => ok_undo F T CW
end
end WF

set_option Elab.async false
set_option linter.all false
set_option maxRecDepth 100000
set_option maxHeartbeats 1000000
/-! the words of a rule, by the program and by the law -/
namespace WF
open PySem L2 Evl
theorem small_i {k : Int} (h : -3 ≤ k ∧ k ≤ 2) : k.natAbs.log2 < 1920 := by
  have : k.natAbs ≤ 3 := by omega
  rcases (show k.natAbs = 0 ∨ k.natAbs = 1 ∨ k.natAbs = 2 ∨ k.natAbs = 3 by omega) with h | h | h | h <;> rw [h] <;> decide +kernel
section
variable {K : PySem.W.Frag} {σ : L2.St} {H : Hp} {ta tb te : TE} {tA : TA} {xs ys : List V}
theorem ea_star (h : EvL te σ H xs) (ht : EvA tA σ H ys) : EvA (StX.tStar K te tA) σ H (xs ++ ys) := fun H1 e Q q =>
  h H1 e _ fun p H2 hp e2 h2 => ⟨p, xs, rfl, .inr (sq_of h2), ht H2 (e.trans e2) _ fun H3 e3 => q H3 (e2.trans e3)⟩
theorem ev_strI {i : Int} (h : Ev ta σ H (.int i)) (hi : -3 ≤ i ∧ i ≤ 2) : Ev (tCB (fun xs H Q => ∃ i, xs = [.int i] ∧ i.natAbs.log2 < 1920 ∧ Q (.str (toString i)) H) (tCons ta tNil)) σ H (.str (numS i)) := fun H1 e Q q =>
  h H1 e _ fun H2 e2 => ⟨i, rfl, small_i hi, q H2 e2⟩
end
section
variable {P : Program} {w : World} {K : PySem.W.Frag} {mg : Str → Option Value} {base : Heap} {C_BadRule C_BadRules C_BadLand C_BadDay C_BadNumber C_BadSeen C_BadText C_Feast C_Calendar C_Line C_Walk : Addr} {f : Addr} {fd : FuncData}
def spWords (K : PySem.W.Frag) (n : Nat) : Sp := fun vs H Q _ => ∃ v r, vs = [v] ∧ RlAt K H v r ∧ r.dep < n ∧ r.fit = true ∧ r.parts ≤ 50 ∧ RetL ((wordsR r).map V.str) H Q
theorem el_words {σ : L2.St} {H : Hp} {tA : TA} {E : XK} {n : Nat} {v : V} {r : Rl} (h : EvA tA σ H [v]) (hr : RlAt K H v r) (hd : r.dep < n) (hf : r.fit = true) (hp : r.parts ≤ 50) : EvL (tCall (spWords K n) [] E tA) σ H ((wordsR r).map V.str) :=
  el_call h (spL fun H1 e Q _ q => ⟨v, r, rfl, hr.mono e, hd, hf, hp, q⟩)
theorem words_turn (F : Fun K "words_of" "words_of" s_words_of f fd) (T : Txt P w K mg C_BadRule C_BadRules C_BadLand C_BadDay C_BadNumber C_BadSeen C_BadText C_Feast C_Calendar C_Line C_Walk) (hm : mg "words_of" = some (.ref f)) (hb : Binds K fd ["rule"] []) (n : Nat) (ih : FnOk P w K mg base CX0 (n + 1) f fd ["rule"] (spWords K n)) : FnOk P w K mg base CX0 (n + 2) f fd ["rule"] (spWords K (n + 1)) := by
  obtain ⟨dE, aW, aM, gENDS, tE⟩ := T.g_ENDS
  obtain ⟨esE, nE, kdENDS⟩ := tE.kd
  have D_words_of : Dn P w K mg base CX0 "words_of" (n + 1) ["rule"] (spWords K n) := ⟨f, fd, hm, F.kp, ih, hb⟩
  refine F.ok sc_words_of (fun vs H Q E h => ?_) (fun cdv A outer s H vs Q E hr h => ?_)
  · obtain ⟨_, _, rfl, _⟩ := h
    rfl
  · obtain ⟨v, r, rfl, hR, hd, hf, hp5, k⟩ := h
    refine ⟨_, (pss_cons (ps_if (pt_cmpR (op_in_kd kdENDS) (pe_ix ix_tup (pv 0) pe_int (fun _ _ => rfl)) (pe_glob (v := .ref dE) rfl gENDS rfl) (by rfl)) (pss_one (ps_ret (pe_lst (pa_cons (pe_ix ix_tup (pv 0) pe_int (fun _ _ => rfl)) (pa_cons (pe_callTy call_str_int (by rfl) T.str (by decide +kernel) (pa_cons (pe_ix ix_tup (pv 0) pe_int (fun _ _ => rfl)) pa_nil)) pa_nil)))))
  pss_nil)
  (pss_cons (ps_if (pt_cmpR op_eq (pe_ix ix_tup (pv 0) pe_int (fun _ _ => rfl)) pe_str (nomark _)) (pss_one (ps_ret (pe_lst (pa_cons (pe_ix ix_tup (pv 0) pe_int (fun _ _ => rfl)) (pa_cons (pe_callTy call_str_int (by rfl) T.str (by decide +kernel) (pa_cons (pe_ix ix_tup (pv 0) pe_int (fun _ _ => rfl)) pa_nil)) (StX.pa_star (pe_fn D_words_of (hr.mono (by omega)) pass0 rfl (pa_cons (pe_ix ix_tup (pv 0) pe_int (fun _ _ => rfl)) pa_nil)) pa_nil))))))
  pss_nil)
  (pss_one (ps_ret (pe_lst (pa_cons (pe_ix ix_tup (pv 0) pe_int (fun _ _ => rfl)) (StX.pa_star (pe_fn D_words_of (hr.mono (by omega)) pass0 rfl (pa_cons (pe_ix ix_tup (pv 0) pe_int (fun _ _ => rfl)) pa_nil)) (StX.pa_star (pe_fn D_words_of (hr.mono (by omega)) pass0 rfl (pa_cons (pe_ix ix_tup (pv 0) pe_int (fun _ _ => rfl)) pa_nil)) pa_nil)))))))), ?_⟩
    cases hR with
    | wk hT =>
      rename_i p k0
      have hk := of_decide_eq_true hf
      refine q_yes (et_is (et_inK (ev_ixT (ev_var rfl) hT at0) tE.week) rfl) fun H1 e1 => ?_
      exact s_retL (el_is (el_lst (ea_cons (ev_ixT (ev_var rfl) (ex_t e1 hT) at0) (ea_cons (ev_strI (ev_ixT (ev_var rfl) (ex_t e1 hT) rfl) (by omega)) ea_nil)) (by show 2 ≤ 100000; decide)) rfl) fun p H2 hp e2 h2 => k p H2 (fresh_back e1 hp) (e1.trans e2) h2
    | fs hT =>
      rename_i p k0
      have hk := of_decide_eq_true hf
      refine q_yes (et_is (et_inK (ev_ixT (ev_var rfl) hT at0) tE.first) rfl) fun H1 e1 => ?_
      exact s_retL (el_is (el_lst (ea_cons (ev_ixT (ev_var rfl) (ex_t e1 hT) at0) (ea_cons (ev_strI (ev_ixT (ev_var rfl) (ex_t e1 hT) rfl) (by omega)) ea_nil)) (by show 2 ≤ 100000; decide)) rfl) fun p H2 hp e2 h2 => k p H2 (fresh_back e1 hp) (e1.trans e2) h2
    | md hT =>
      rename_i p k0
      have hk := of_decide_eq_true hf
      refine q_yes (et_is (et_inK (ev_ixT (ev_var rfl) hT at0) tE.month) rfl) fun H1 e1 => ?_
      exact s_retL (el_is (el_lst (ea_cons (ev_ixT (ev_var rfl) (ex_t e1 hT) at0) (ea_cons (ev_strI (ev_ixT (ev_var rfl) (ex_t e1 hT) rfl) (by omega)) ea_nil)) (by show 2 ≤ 100000; decide)) rfl) fun p H2 hp e2 h2 => k p H2 (fresh_back e1 hp) (e1.trans e2) h2
    | bh hT hr1 =>
      rename_i p u r b
      simp only [Rl.fit, Bool.and_eq_true] at hf
      have hb := of_decide_eq_true hf.1
      have hl := words_len r
      have hd2 : r.dep < n := by simp only [Rl.dep] at hd; omega
      refine q_not (et_is (et_inK (ev_ixT (ev_var rfl) hT at0) (tE.no _ (by simp))) rfl) fun H1 e1 => ?_
      refine q_yes (et_str (ev_ixT (ev_var rfl) (ex_t e1 hT) at0) (by decide +kernel)) fun H2 e2 => ?_
      have E2 := e1.trans e2
      exact s_retL (el_is (el_lst (ea_cons (ev_ixT (ev_var rfl) (ex_t E2 hT) at0) (ea_cons (ev_strI (ev_ixT (ev_var rfl) (ex_t E2 hT) rfl) (by omega)) (ea_star (el_words (ea_cons (ev_ixT (ev_var rfl) (ex_t E2 hT) rfl) ea_nil) (hr1.mono E2) hd2 hf.2 (by simp only [Rl.parts] at hp5; omega)) ea_nil))) (by simp only [Rl.parts] at hp5; simp only [List.length_cons, List.length_append, List.length_map, List.length_nil]; omega)) (by simp [wordsR])) fun p H3 hp e3 h3 => k p H3 (fresh_back E2 hp) (E2.trans e3) h3
    | bo hT hr1 hr2 =>
      rename_i p u v x y
      simp only [Rl.fit, Bool.and_eq_true] at hf
      simp only [Rl.dep] at hd
      have hl1 := words_len x
      have hl2 := words_len y
      refine q_not (et_is (et_inK (ev_ixT (ev_var rfl) hT at0) (tE.no _ (by simp))) rfl) fun H1 e1 => ?_
      refine q_not (et_str (ev_ixT (ev_var rfl) (ex_t e1 hT) at0) (by decide +kernel)) fun H2 e2 => ?_
      have E2 := e1.trans e2
      exact s_retL (el_is (el_lst (ea_cons (ev_ixT (ev_var rfl) (ex_t E2 hT) at0) (ea_star (el_words (ea_cons (ev_ixT (ev_var rfl) (ex_t E2 hT) rfl) ea_nil) (hr1.mono E2) (by omega) hf.1 (by simp only [Rl.parts] at hp5; omega)) (ea_star (el_words (ea_cons (ev_ixT (ev_var rfl) (ex_t E2 hT) rfl) ea_nil) (hr2.mono E2) (by omega) hf.2 (by simp only [Rl.parts] at hp5; omega)) ea_nil))) (by simp only [Rl.parts] at hp5; simp only [List.length_cons, List.length_append, List.length_map, List.length_nil]; omega)) (by simp [wordsR])) fun p H3 hp e3 h3 => k p H3 (fresh_back E2 hp) (E2.trans e3) h3
    | ei hT hr1 hr2 =>
      rename_i p u v x y
      simp only [Rl.fit, Bool.and_eq_true] at hf
      simp only [Rl.dep] at hd
      have hl1 := words_len x
      have hl2 := words_len y
      refine q_not (et_is (et_inK (ev_ixT (ev_var rfl) hT at0) (tE.no _ (by simp))) rfl) fun H1 e1 => ?_
      refine q_not (et_str (ev_ixT (ev_var rfl) (ex_t e1 hT) at0) (by decide +kernel)) fun H2 e2 => ?_
      have E2 := e1.trans e2
      exact s_retL (el_is (el_lst (ea_cons (ev_ixT (ev_var rfl) (ex_t E2 hT) at0) (ea_star (el_words (ea_cons (ev_ixT (ev_var rfl) (ex_t E2 hT) rfl) ea_nil) (hr1.mono E2) (by omega) hf.1 (by simp only [Rl.parts] at hp5; omega)) (ea_star (el_words (ea_cons (ev_ixT (ev_var rfl) (ex_t E2 hT) rfl) ea_nil) (hr2.mono E2) (by omega) hf.2 (by simp only [Rl.parts] at hp5; omega)) ea_nil))) (by simp only [Rl.parts] at hp5; simp only [List.length_cons, List.length_append, List.length_map, List.length_nil]; omega)) (by simp [wordsR])) fun p H3 hp e3 h3 => k p H3 (fresh_back E2 hp) (E2.trans e3) h3
    | wo hT hr1 hr2 =>
      rename_i p u v x y
      simp only [Rl.fit, Bool.and_eq_true] at hf
      simp only [Rl.dep] at hd
      have hl1 := words_len x
      have hl2 := words_len y
      refine q_not (et_is (et_inK (ev_ixT (ev_var rfl) hT at0) (tE.no _ (by simp))) rfl) fun H1 e1 => ?_
      refine q_not (et_str (ev_ixT (ev_var rfl) (ex_t e1 hT) at0) (by decide +kernel)) fun H2 e2 => ?_
      have E2 := e1.trans e2
      exact s_retL (el_is (el_lst (ea_cons (ev_ixT (ev_var rfl) (ex_t E2 hT) at0) (ea_star (el_words (ea_cons (ev_ixT (ev_var rfl) (ex_t E2 hT) rfl) ea_nil) (hr1.mono E2) (by omega) hf.1 (by simp only [Rl.parts] at hp5; omega)) (ea_star (el_words (ea_cons (ev_ixT (ev_var rfl) (ex_t E2 hT) rfl) ea_nil) (hr2.mono E2) (by omega) hf.2 (by simp only [Rl.parts] at hp5; omega)) ea_nil))) (by simp only [Rl.parts] at hp5; simp only [List.length_cons, List.length_append, List.length_map, List.length_nil]; omega)) (by simp [wordsR])) fun p H3 hp e3 h3 => k p H3 (fresh_back E2 hp) (E2.trans e3) h3
theorem ok_words (F : Fun K "words_of" "words_of" s_words_of f fd) (T : Txt P w K mg C_BadRule C_BadRules C_BadLand C_BadDay C_BadNumber C_BadSeen C_BadText C_Feast C_Calendar C_Line C_Walk) (hm : mg "words_of" = some (.ref f)) (hb : Binds K fd ["rule"] []) : ∀ n : Nat, FnOk P w K mg base CX0 (n + 1) f fd ["rule"] (spWords K n)
  | 0 => fnok_none fun _ _ _ _ ⟨_, _, _, _, h, _⟩ => absurd h (Nat.not_lt_zero _)
  | n + 1 => words_turn F T hm hb n (ok_words F T hm hb n)
theorem dn_words (T : Txt P w K mg C_BadRule C_BadRules C_BadLand C_BadDay C_BadNumber C_BadSeen C_BadText C_Feast C_Calendar C_Line C_Walk) (n : Nat) : Dn P w K mg base CX0 "words_of" (n + 1) ["rule"] (spWords K n) := T.f_words_of.dn fun _ _ F hm hb => ok_words F T hm hb n
end
end WF

set_option Elab.async false
set_option linter.all false
set_option maxRecDepth 100000
set_option maxHeartbeats 1000000
/-! write; the law's own lines -/
namespace WF
open PySem L2 Evl
section
variable {K : PySem.W.Frag} {σ : L2.St} {H : Hp} {ta tb te tu : TE} {tA : TA} {t : TT} {xs ys : List V}
theorem ev_join {a : Str} {ys : List Str} (h : EvL tu σ H (ys.map V.str)) (hz : (ys.map (·.length)).sum + ys.length * a.length ≤ 16777216) : Ev (tBM K "str" (rJoin K) (tC (.str a)) (tCons tu tNil)) σ H (.str (Txt.join a ys)) := fun H1 e Q q =>
  ⟨rfl, h H1 e _ fun p H2 hp e2 h2 => ⟨a, p, ys, rfl, rfl, .inl (sq_of h2), hz, q H2 e2⟩⟩
theorem ev_intB {σ : L2.St} {H : Hp} {ta : TE} {b : Bool} (h : Ev ta σ H (.bl b)) : Ev (tCB (fun xs H Q => (∃ i, xs = [.int i] ∧ Q (.int i) H) ∨ ∃ k, xs = [.bl k] ∧ Q (.int (if k then 1 else 0)) H) (tCons ta tNil)) σ H (.int (if b then 1 else 0)) :=
  ev_cb (ea_cons h ea_nil) fun H1 _ Q q => .inr ⟨b, rfl, q H1 (Ex.refl H1)⟩
theorem rv_addS {a b : Str} (h : a.length + b.length ≤ 10000) : RV (fun x y H Q => ∃ i j, x = .str i ∧ y = .str j ∧ i.length + j.length ≤ sizeLine ∧ Q (.str (i ++ j)) H) (.str a) (.str b) H (.str (a ++ b)) := fun H1 _ _ q => ⟨a, b, rfl, rfl, Nat.le_trans h (by decide), q H1 (Ex.refl H1)⟩
theorem ev_begin {b : Bool} (h : EvT t σ H b) : Ev (tIf t (tC (.str "yields")) (tC (.str "plain"))) σ H (.str (beginS b)) := by
  cases b with
  | true => exact ev_ifT h ev_c
  | false => exact ev_ifF h ev_c
theorem line_size {r : Rl × Bool} (hf : r.1.fit = true) (hp : r.1.parts ≤ 5) : ((lineW r).map (·.length)).sum + (lineW r).length * (" " : Str).length ≤ 16777216 := by
  have h1 := lineW_sum hf hp
  have h2 := lineW_len hp
  have h3 : (" " : Str).length = 1 := by decide +kernel
  rw [h3]
  omega
theorem lines_size {rows : Rows} (hf : ∀ r ∈ rows, r.1.fit = true ∧ r.1.parts ≤ 5) (hl : rows.length ≤ 3) : ((rows.map fun r => lineS r ++ "\n").map (·.length)).sum + (rows.map fun r => lineS r ++ "\n").length * ("" : Str).length ≤ 16777216 := by
  have h2 := sum_le (ls := (rows.map fun r => lineS r ++ "\n").map (·.length)) (n := 122) fun x hx => by
    obtain ⟨z, hz, rfl⟩ := List.mem_map.mp hx
    obtain ⟨r, hr, rfl⟩ := List.mem_map.mp hz
    have := line_len (hf r hr).1 (hf r hr).2
    rw [TL.len_tl, TL.tl_append, List.length_append, ← TL.len_tl]
    show (lineS r).length + 1 ≤ 122
    omega
  have h3 : ("" : Str).length = 0 := by decide +kernel
  rw [h3, Nat.mul_zero]
  rw [List.length_map, List.length_map] at h2
  omega
theorem range_rows {α : Type} (g : Rl × Bool → α) (rows : Rows) (d : Rl × Bool) : (List.range rows.length).map (fun i => g (rows.getD i d)) = rows.map g := by
  have := congrArg (List.map g) (rows_eq d rows)
  rw [List.map_map] at this
  exact this
end
section
variable {P : Program} {w : World} {K : PySem.W.Frag} {mg : Str → Option Value} {base : Heap} {C_BadRule C_BadRules C_BadLand C_BadDay C_BadNumber C_BadSeen C_BadText C_Feast C_Calendar C_Line C_Walk : Addr} {f : Addr} {fd : FuncData}
def spWrite (K : PySem.W.Frag) (CF CC : Addr) : Sp := fun vs H Q _ => ∃ c rows, vs = [c] ∧ CalAt K CF CC H c rows ∧ (∀ r ∈ rows, r.1.fit = true ∧ r.1.parts ≤ 5) ∧ rows.length ≤ 3 ∧ RetV (.str (textS rows)) H Q
theorem ok_write (F : Fun K "write" "write" s_write f fd) (T : Txt P w K mg C_BadRule C_BadRules C_BadLand C_BadDay C_BadNumber C_BadSeen C_BadText C_Feast C_Calendar C_Line C_Walk) (CF : Cls1 K C_Feast ["told", "bys"]) (CC : Cls1 K C_Calendar ["rows", "near"]) : FnOk P w K mg base CX0 8 f fd ["calendar"] (spWrite K C_Feast C_Calendar) := by
  have D_words_of : Dn P w K mg base CX0 "words_of" 6 ["rule"] (spWords K 5) := dn_words T 5
  refine F.ok sc_write (fun vs H Q E h => ?_) (fun cdv A outer s H vs Q E hr h => ?_)
  · obtain ⟨_, _, rfl, _⟩ := h
    rfl
  · obtain ⟨c, rows, rfl, ⟨a, dx, rv, rfl, ho, ra, xs, rfl, hX, hRs⟩, hok, hl, k⟩ := h
    obtain ⟨qf, hqf⟩ := hRs.fn (.wk 0, false)
    have hxl := hRs.len
    refine ⟨_, (pss_cons (ps_setLc (i := 1) (own := [("feast", 2), ("yields", 3)]) (tt := tYes) rfl sc_write.nd rfl rfl (sw_true rfl rfl rfl (by decide +kernel)) (pi_tup (pe_fld (pv 0) rfl)) (blkOk_by (own := [("feast", 2), ("yields", 3)]) (N := ["calendar", "lines", "feast", "yields", "line"]) (sc := defScope s_write) (by decide +kernel)) (fun _ _ _ _ _ => (pg_tupK (K := K) (n := 2) rfl (pgs_cons (pg_name (i := 2) sc_write.nd rfl (by first | exact Or.inl rfl | exact Or.inr rfl)) (pgs_cons (pg_name (i := 3) sc_write.nd rfl (by first | exact Or.inl rfl | exact Or.inr rfl)) pgs_nil)))) (fun _ _ _ _ _ => pts_nil) (fun _ _ _ _ _ => (pe_joinK (K := K) pe_str (pa_cons (pe_lst (pa_cons (pe_ifExp (pt_val (pv 3)) pe_str pe_str) (pa_starK (K := K) (pe_fn D_words_of (hr.mono (by omega)) pass0 rfl (pa_cons (pe_fldK (K := K) (pv 2) rfl) pa_nil)) pa_nil))) pa_nil))))
  (pss_one (ps_ret (pe_bm PySem.F.plainAttrs_str PySem.F.slot_str_join PySem.F.type_str_join mt_join pe_str (pa_cons (pe_lc (own := [("line", 4)]) (g := gName 4) (tt := tYes) rfl sc_write.nd (pi_list (pv 1)) (blkOk_by (own := [("line", 4)]) (N := ["calendar", "lines", "feast", "yields", "line"]) (sc := defScope s_write) (by decide +kernel)) (fun _ _ _ _ _ => (pg_name (i := 4) sc_write.nd rfl (by first | exact Or.inl rfl | exact Or.inr rfl))) (fun _ _ _ _ _ => pts_nil) (fun _ _ _ _ _ => (pe_op op_add_str (pv 4) pe_str))) pa_nil))))), ?_⟩
    refine q_asgL (el_is (el_tup2 (fun i => .ref (qf i)) (fun i => .bl (rows.getD i (.wk 0, false)).2) (fun _ => true) (fun i => .str (lineS (rows.getD i (.wk 0, false)))) (ev_fld (ev_var rfl) ho CC.cl (CC.no _ (by simp)) (calF_rows _ _)) hX (by omega) (fun _ _ => rfl) (fun i x hi => ?_) (fun _ _ _ _ => et_yes) (fun i H1 e1 hi _ => ?_)) (show _ = (rows.map lineS).map V.str from ?_)) fun L H1 hL e1 hLv => ?_
    · obtain ⟨p', h0, h1, _⟩ := hqf i x hi
      exact ⟨p', h0, h1⟩
    · obtain ⟨x, hx⟩ : ∃ x, xs[i]? = some x := ⟨xs[i], by simp [hi]⟩
      obtain ⟨p', h0, h1, dx', tv, hq', hrl⟩ := hqf i x hx
      have hmem := getD_mem (d := ((.wk 0, false) : Rl × Bool)) (show i < rows.length by omega)
      obtain ⟨hf, hp⟩ := hok _ hmem
      have hd := dep_parts (rows.getD i (.wk 0, false)).1
      have hwl := words_len (rows.getD i (.wk 0, false)).1
      exact ev_join (ys := lineW (rows.getD i (.wk 0, false))) (el_is (el_lst (ea_cons (ev_begin (et_B (ev_var rfl))) (ea_star (el_words (ea_cons (ev_fld (ev_var rfl) (e1 _ _ hq') CF.cl (CF.no _ (by simp)) (feastF_told _ _)) ea_nil) (hrl.mono e1) (by omega) hf (by omega)) ea_nil)) (by simp only [List.length_cons, List.length_append, List.length_map, List.length_nil]; omega)) (by simp [lineW])) (line_size hf hp)
    · rw [given_allL, hxl, List.map_map]
      exact range_rows (fun r => V.str (lineS r)) rows _
    · refine s_ret (ev_join (ys := rows.map fun r => lineS r ++ "\n") (el_is (el_lcL (fun _ => true) (fun i => .str (lineS (rows.getD i (.wk 0, false)) ++ "\n")) (ev_var rfl) (sq_of hLv) (by rw [List.length_map, List.length_map]; omega) (fun _ => rfl) (fun _ _ _ _ _ => et_yes) (fun i x H2 e2 hx _ => ?_)) (show _ = (rows.map fun r => lineS r ++ "\n").map V.str from ?_)) (lines_size hok hl)) fun H2 e2 => k H2 (e1.trans e2)
      · have hi : i < rows.length := by
          have := (List.getElem?_eq_some_iff.mp hx).1
          rwa [List.length_map, List.length_map] at this
        have hmem := getD_mem (d := ((.wk 0, false) : Rl × Bool)) hi
        obtain ⟨hf, hp⟩ := hok _ hmem
        have hln := line_len hf hp
        have hxx : x = .str (lineS (rows.getD i (.wk 0, false))) := by
          rw [List.map_map, List.getElem?_map, List.getElem?_eq_getElem hi] at hx
          cases hx
          rw [List.getD_eq_getElem?_getD, List.getElem?_eq_getElem hi]
          rfl
        rw [hxx]
        exact ev_op (ev_var rfl) ev_c (rv_addS (by have : ("\n" : Str).length = 1 := by decide +kernel
                                                   omega))
      · rw [given_allL, List.length_map, List.length_map, List.map_map]
        exact range_rows (fun r => V.str (lineS r ++ "\n")) rows _
theorem dn_write (T : Txt P w K mg C_BadRule C_BadRules C_BadLand C_BadDay C_BadNumber C_BadSeen C_BadText C_Feast C_Calendar C_Line C_Walk) (CF : Cls1 K C_Feast ["told", "bys"]) (CC : Cls1 K C_Calendar ["rows", "near"]) : Dn P w K mg base CX0 "write" 8 ["calendar"] (spWrite K C_Feast C_Calendar) := T.f_write.dn fun _ _ F _ _ => ok_write F T CF CC
def spLines (K : PySem.W.Frag) : Sp := fun vs H Q _ => ∃ (l : Addr) (ys : List V) (rows : Rows), vs = [.ref l] ∧ SqL K H l ys ∧ RawL K H ys rows ∧ (∀ r ∈ rows, r.1.fit = true ∧ r.1.parts ≤ 5) ∧ rows.length ≤ 3 ∧ RetL ((rows.map lineS).map V.str) H Q
end
end WF

set_option Elab.async false
set_option linter.all false
set_option maxRecDepth 100000
set_option maxHeartbeats 1000000
/-! the reader of a line: its words taken -/
namespace WF
open PySem L2 Evl
theorem inV_strs (z : Str) : ∀ zs : List Str, inV (.str z) (zs.map V.str) = decide (z ∈ zs)
  | [] => rfl
  | y :: zs => by
    have ih := inV_strs z zs
    unfold inV at ih ⊢
    rw [List.map_cons, List.any_cons, ih, Bool.eq_iff_iff, Bool.or_eq_true, decide_eq_true_iff, decide_eq_true_iff, List.mem_cons]
    show ((y == z) = true ∨ _) ↔ _
    rw [beq_iff_eq]
    exact ⟨fun h => h.elim (fun h => .inl h.symm) .inr, fun h => h.elim (fun h => .inl h.symm) .inr⟩
theorem strs_flat : ∀ zs : List Str, (zs.map V.str).all flatV = true
  | [] => rfl
  | _ :: zs => strs_flat zs
def RefE (CT p : Addr) (num : Int) (i : Nat) (H : Hp) (E : XK) : Prop := ∀ d H2, ExB p H H2 → H2 d = some (.xd [("word", .int ((i + 1 : Nat) : Int)), ("line", .int num)]) → E (.ref CT) (some d) H2
theorem RefE.back {CT p : Addr} {num : Int} {i : Nat} {H H' : Hp} {E : XK} (h : RefE CT p num i H E) (e : ExB p H H') : RefE CT p num i H' E := fun d H2 e2 hd => h d H2 (e.trans e2) hd
section
variable {K : PySem.W.Frag} {σ : L2.St} {H : Hp} {ta tv tb tc : TE} {x : V} {D : Ends} {tz : TS}
theorem q_fldadd {p C dx : Addr} {fs : List (Str × V)} {f : Str} {i j : Int} (ha : Ev ta σ H (.ref p)) (ho : H p = some (.ins C dx fs)) (hc : Cls K C) (hn : NoAttr K C f) (hf : fs.lookup f = some (.int i)) (hv : ∀ H1, Ex H H1 → Ev tv σ H1 (.int j)) (hz : fs.length < 1000) (k : ∀ H1, Ex H H1 → tz D σ (upd H1 p (.ins C dx (putF f (.int (i + j)) fs)))) : tSeq (sFldAug K ta tv rAdd f) tz D σ H :=
  ha H (Ex.refl H) _ fun H1 e1 => ⟨p, C, dx, fs, .int i, rfl, e1 _ _ ho, hc, hn, hf, hv H1 e1 H1 (Ex.refl H1) _ fun H2 e2 => ⟨i, j, rfl, rfl, dx, fs, (e1.trans e2) _ _ ho, hz, k H2 (e1.trans e2)⟩⟩
theorem q_fldR {a C dx : Addr} {fs : List (Str × V)} {f : Str} {R : Addr → Hp → Prop} (hv : EvR tv σ H R) (h : ∀ H1, Ev ta σ H1 (.ref a)) (ho : H a = some (.ins C dx fs)) (hc : Cls K C) (hn : NoAttr K C f) (hz : fs.length < 1000)
    (k : ∀ q H1 H2, H q = none → Ex H H1 → R q H1 → Ex H1 H2 → tz D σ (upd H2 a (.ins C dx (putF f (.ref q) fs)))) : tSeq (sFld K ta tv f) tz D σ H :=
  hv H (Ex.refl H) _ fun q H1 hq e1 hR => h H1 H1 (Ex.refl H1) _ fun H2 e2 => ⟨a, C, dx, fs, rfl, e2 _ _ (e1 _ _ ho), hc, hn, hz, k q H1 H2 hq e1 hR e2⟩
theorem tA_1c {Q : List V → Hp → Prop} {v : V} (h : Q [v] H) : tCons (tC v) tNil σ H Q := h
theorem tA_one {Q : List V → Hp → Prop} (h : ta σ H fun x H1 => Q [x] H1) : tCons ta tNil σ H Q := h
theorem tA_x {tA : TA} {Q : List V → Hp → Prop} (h : ta σ H fun x H1 => tA σ H1 fun xs H2 => Q (x :: xs) H2) : tCons ta tA σ H Q := h
theorem tTup_go {tA : TA} {Q : VK} (h : tA σ H fun xs H1 => xs.length ≤ sizeLine ∧ ∀ p, H1 p = none → Q (.ref p) (upd H1 p (.tup xs))) : tTup tA σ H Q := h
theorem tCB_one {r : List V → Hp → VK → Prop} {Q : VK} (h : ta σ H fun x H1 => r [x] H1 Q) : tCB r (tCons ta tNil) σ H Q := h
theorem tMeth_go {C p dx : Addr} {fs : List (Str × V)} {m : Str} {sp : Sp} {E : XK} {tA : TA} {Q : VK} (ha : Ev ta σ H (.ref p)) (ho : H p = some (.ins C dx fs)) (hl : fs.lookup m = none) (k : ∀ H1, Ex H H1 → tA σ H1 fun vs H2 => sp (.ref p :: (vs ++ [])) H2 Q E) : tMeth C m sp [] E ta tA σ H Q :=
  ha H (Ex.refl H) _ fun H1 e1 => ⟨p, dx, fs, rfl, e1 _ _ ho, hl, k H1 e1⟩
theorem el_split {a b : Str} (h : Ev ta σ H (.str a)) (hb : (b.length == 0) = false) (hz : a.length ≤ 10000) : EvL (tBM K "str" (fun x xs H Q => ∃ a b, x = .str a ∧ xs = [.str b] ∧ (b.length == 0) = false ∧ a.length + 2 ≤ sizeLine ∧ rNewStrs (Txt.split a b) H Q) ta (tCons (tC (.str b)) tNil)) σ H ((Txt.split a b).map V.str) := fun H1 e Q q =>
  h H1 e _ fun H2 e2 => ⟨rfl, tA_1c ⟨a, b, rfl, rfl, hb, Nat.le_trans (Nat.add_le_add_right hz 2) (by decide), fun p hp => q p _ (fresh_back e2 hp) (e2.trans (Ex.new hp)) upd_same⟩⟩
theorem q_fldsub {p C dx : Addr} {fs : List (Str × V)} {f : Str} {i j : Int} (ha : Ev ta σ H (.ref p)) (ho : H p = some (.ins C dx fs)) (hc : Cls K C) (hn : NoAttr K C f) (hf : fs.lookup f = some (.int i)) (hv : ∀ H1, Ex H H1 → Ev tv σ H1 (.int j)) (hz : fs.length < 1000) (k : ∀ H1, Ex H H1 → tz D σ (upd H1 p (.ins C dx (putF f (.int (i - j)) fs)))) : tSeq (sFldAug K ta tv rSub f) tz D σ H :=
  ha H (Ex.refl H) _ fun H1 e1 => ⟨p, C, dx, fs, .int i, rfl, e1 _ _ ho, hc, hn, hf, hv H1 e1 H1 (Ex.refl H1) _ fun H2 e2 => ⟨i, j, rfl, rfl, dx, fs, (e1.trans e2) _ _ ho, hz, k H2 (e1.trans e2)⟩⟩
end
section
variable {P : Program} {w : World} {K : PySem.W.Frag} {mg : Str → Option Value} {base : Heap} {C_BadRule C_BadRules C_BadLand C_BadDay C_BadNumber C_BadSeen C_BadText C_Feast C_Calendar C_Line C_Walk : Addr} {f : Addr} {fd : FuncData}
abbrev lineFs : List Str := ["number", "row", "spot", "parts", "due", "room"]
def spLine (K : PySem.W.Frag) (CL : Addr) : Sp := fun vs H Q _ => ∃ (p dx : Addr) (num : Int) (z : Str) (ro : Nat), vs = [.ref p, .int num, .str z, .int (ro : Int)] ∧ H p = some (.ins CL dx []) ∧ z.length ≤ 10000 ∧
  ∀ H', ExB p H H' → LineAt K CL H' p num (Txt.split z " ") 0 0 1 ro → Q .non H'
theorem ok_line (F : Fun K "__init__" "Line.__init__" s_Line_init f fd) (T : Txt P w K mg C_BadRule C_BadRules C_BadLand C_BadDay C_BadNumber C_BadSeen C_BadText C_Feast C_Calendar C_Line C_Walk) (CI : Cls1 K C_Line lineFs) : FnOk P w K mg base CX0 1 f fd ["self", "number", "text", "room"] (spLine K C_Line) := by
  refine F.ok sc_Line_init (fun vs H Q E h => ?_) (fun cdv A outer s H vs Q E hr h => ?_)
  · obtain ⟨_, _, _, _, _, rfl, _⟩ := h
    rfl
  · obtain ⟨p, dx, num, z, ro, rfl, hp, hz, k⟩ := h
    refine ⟨_, (pss_cons (ps_fld (pv 0) (pv 1) rfl)
  (pss_cons (ps_fld (pv 0) (pe_bm PySem.F.plainAttrs_str PySem.F.slot_str_split PySem.F.type_str_split mt_split (pv 2) (pa_cons pe_str pa_nil)) rfl)
  (pss_cons (ps_fld (pv 0) pe_int rfl)
  (pss_cons (ps_fld (pv 0) pe_int rfl)
  (pss_cons (ps_fld (pv 0) pe_int rfl)
  (pss_one (ps_fld (pv 0) (pv 3) rfl))))))), ?_⟩
    have l1 : (putF ("number" : Str) (.int num) []).length ≤ 1 := length_putF _ _ _
    refine q_fld (ev_var rfl) (ev_var rfl) hp CI.cl (CI.no _ (by simp)) (by show 0 < 1000; decide) fun H1 e1 => ?_
    have b1 := (ExB.of (p := p) e1).upd (o := .ins C_Line dx (putF ("number" : Str) (.int num) []))
    have hp1 : upd H1 p (.ins C_Line dx (putF ("number" : Str) (.int num) [])) p = some (.ins C_Line dx (putF ("number" : Str) (.int num) [])) := upd_same
    generalize upd H1 p (.ins C_Line dx (putF ("number" : Str) (.int num) [])) = G1 at b1 hp1 ⊢
    refine q_fldR (el_R (el_split (ev_var rfl) (by decide +kernel) hz)) (fun _ => ev_var rfl) hp1 CI.cl (CI.no _ (by simp)) (by omega) fun W H2 H3 hW e2 hR e3 => ?_
    have l2 := length_putF ("row" : Str) (.ref W) (putF ("number" : Str) (.int num) [])
    have hWp : W ≠ p := fun q => by rw [q, hp1] at hW; cases hW
    have b2 := (b1.step (e2.trans e3)).upd (o := .ins C_Line dx (putF ("row" : Str) (.ref W) (putF ("number" : Str) (.int num) [])))
    have hp2 : upd H3 p (.ins C_Line dx (putF ("row" : Str) (.ref W) (putF ("number" : Str) (.int num) []))) p = some (.ins C_Line dx (putF ("row" : Str) (.ref W) (putF ("number" : Str) (.int num) []))) := upd_same
    have w2 : upd H3 p (.ins C_Line dx (putF ("row" : Str) (.ref W) (putF ("number" : Str) (.int num) []))) W = some (.lst ((Txt.split z " ").map V.str)) := by rw [upd_ne hWp]; exact e3 _ _ hR
    generalize upd H3 p (.ins C_Line dx (putF ("row" : Str) (.ref W) (putF ("number" : Str) (.int num) []))) = G2 at b2 hp2 w2 ⊢
    generalize hf2 : putF ("row" : Str) (V.ref W) (putF ("number" : Str) (V.int num) []) = f2 at l2 hp2
    refine q_fld ev_c (ev_var rfl) hp2 CI.cl (CI.no _ (by simp)) (by omega) fun H4 e4 => ?_
    have l3 := length_putF ("spot" : Str) (.int 0) f2
    have b3 := (b2.step e4).upd (o := .ins C_Line dx (putF ("spot" : Str) (.int 0) f2))
    have hp3 : upd H4 p (.ins C_Line dx (putF ("spot" : Str) (.int 0) f2)) p = some (.ins C_Line dx (putF ("spot" : Str) (.int 0) f2)) := upd_same
    have w3 : upd H4 p (.ins C_Line dx (putF ("spot" : Str) (.int 0) f2)) W = some (.lst ((Txt.split z " ").map V.str)) := by rw [upd_ne hWp]; exact e4 _ _ w2
    generalize upd H4 p (.ins C_Line dx (putF ("spot" : Str) (.int 0) f2)) = G3 at b3 hp3 w3 ⊢
    generalize hf3 : putF ("spot" : Str) (V.int 0) f2 = f3 at l3 hp3
    refine q_fld ev_c (ev_var rfl) hp3 CI.cl (CI.no _ (by simp)) (by omega) fun H5 e5 => ?_
    have l4 := length_putF ("parts" : Str) (.int 0) f3
    have b4 := (b3.step e5).upd (o := .ins C_Line dx (putF ("parts" : Str) (.int 0) f3))
    have hp4 : upd H5 p (.ins C_Line dx (putF ("parts" : Str) (.int 0) f3)) p = some (.ins C_Line dx (putF ("parts" : Str) (.int 0) f3)) := upd_same
    have w4 : upd H5 p (.ins C_Line dx (putF ("parts" : Str) (.int 0) f3)) W = some (.lst ((Txt.split z " ").map V.str)) := by rw [upd_ne hWp]; exact e5 _ _ w3
    generalize upd H5 p (.ins C_Line dx (putF ("parts" : Str) (.int 0) f3)) = G4 at b4 hp4 w4 ⊢
    generalize hf4 : putF ("parts" : Str) (V.int 0) f3 = f4 at l4 hp4
    refine q_fld ev_c (ev_var rfl) hp4 CI.cl (CI.no _ (by simp)) (by omega) fun H6 e6 => ?_
    have l5 := length_putF ("due" : Str) (.int 1) f4
    have b5 := (b4.step e6).upd (o := .ins C_Line dx (putF ("due" : Str) (.int 1) f4))
    have hp5 : upd H6 p (.ins C_Line dx (putF ("due" : Str) (.int 1) f4)) p = some (.ins C_Line dx (putF ("due" : Str) (.int 1) f4)) := upd_same
    have w5 : upd H6 p (.ins C_Line dx (putF ("due" : Str) (.int 1) f4)) W = some (.lst ((Txt.split z " ").map V.str)) := by rw [upd_ne hWp]; exact e6 _ _ w4
    generalize upd H6 p (.ins C_Line dx (putF ("due" : Str) (.int 1) f4)) = G5 at b5 hp5 w5 ⊢
    generalize hf5 : putF ("due" : Str) (V.int 1) f4 = f5 at l5 hp5
    refine s_fld (ev_var rfl) (ev_var rfl) hp5 CI.cl (CI.no _ (by simp)) (by omega) fun H7 e7 => k _ (b5.step e7).upd ⟨dx, W, ?_, by rw [upd_ne hWp]; exact e7 _ _ w5⟩
    rw [← hf5, ← hf4, ← hf3, ← hf2, lineF_mk]
    exact upd_same
theorem mn_line (T : Txt P w K mg C_BadRule C_BadRules C_BadLand C_BadDay C_BadNumber C_BadSeen C_BadText C_Feast C_Calendar C_Line C_Walk) (CI : Cls1 K C_Line lineFs) : Mn P w K mg base CX0 C_Line 1 ["self", "number", "text", "room"] (spLine K C_Line) := T.m_Line_init.mn fun _ _ F => ok_line F T CI
theorem LineAt.but {CL p : Addr} {H H' : Hp} {num : Int} {ws : List Str} {a pa du ro : Nat} {q : Addr} (hq : H q = none) (e : ExB q H H') (h : LineAt K CL H p num ws a pa du ro) : LineAt K CL H' p num ws a pa du ro := by
  obtain ⟨dx, W, h1, h2⟩ := h
  exact ⟨dx, W, e _ _ (ne_of_none h1 hq) h1, e _ _ (ne_of_none h2 hq) h2⟩
def spTake (K : PySem.W.Frag) (CL CT : Addr) : Sp := fun vs H Q E => ∃ (p s : Addr) (num : Int) (ws : List Str) (a pa du ro : Nat) (zs : List Str), vs = [.ref p, .ref s] ∧ LineAt K CL H p num ws a pa du ro ∧ SqL K H s (zs.map V.str) ∧ a ≤ ws.length ∧
  (takeW ws a zs = none → RefE CT p num a H E) ∧ (∀ z, takeW ws a zs = some z → ∀ H2, ExB p H H2 → LineAt K CL H2 p num ws (a + 1) pa du ro → Q (.str z) H2)
theorem mt_take (T : Txt P w K mg C_BadRule C_BadRules C_BadLand C_BadDay C_BadNumber C_BadSeen C_BadText C_Feast C_Calendar C_Line C_Walk) (CI : Cls1 K C_Line lineFs) : Mtn P w K mg base (L2.CX P w) C_Line "take" 4 ["self", "some"] (spTake K C_Line C_BadText) := T.m_Line_take.mtn fun g fd F => by
  have ME_BadText : MnE P w K mg base C_BadText 2 (spE2 C_BadText "line" "word") := me_BadText T
  refine F.okX sc_Line_take (fun vs H Q E h => ?_) (fun cdv A outer s H vs Q E hr h => ?_)
  · obtain ⟨_, _, _, _, _, _, _, _, _, rfl, _⟩ := h
    rfl
  · obtain ⟨p, sp, num, ws, a, pa, du, ro, zs, rfl, ⟨dx, W, hp, hW⟩, hS, hal, kB, kG⟩ := h
    have hWp : W ≠ p := fun q => by rw [q, hp] at hW; cases hW
    refine ⟨_, (pss_cons (ps_if (PW.pt (pw_or (pt_cmpR op_eq (pe_fld (pv 0) rfl) (pe_callB call_len_seq (by rfl) T.len (by decide +kernel) (pa_cons (pe_fld (pv 0) rfl) pa_nil)) (nomark _)) (pw_or1 (pt_cmpR op_notIn_seq (pe_ix ix_list (pe_fld (pv 0) rfl) (pe_fld (pv 0) rfl) (fun _ _ => rfl)) (pv 1) (by rfl))))) (pss_one (ps_raiseS rfl (takes_of rfl rfl rfl rfl) ME_BadText (hr.mono (by omega)) T.c_BadText rfl (pa_cons (pe_fld (pv 0) rfl) (pa_cons (pe_op op_add (pe_fld (pv 0) rfl) pe_int) pa_nil))))
  pss_nil)
  (pss_cons (ps_fldaug (pv 0) pe_int in_add)
  (pss_one (ps_ret (pe_ix ix_list (pe_fld (pv 0) rfl) (pe_op op_sub (pe_fld (pv 0) rfl) pe_int) (fun _ _ => rfl)))))), ?_⟩
    have fl : ∀ {fn : Str} {y : V} {H1 : Hp} {σ : L2.St}, Ex H H1 → σ[0]? = some (some (.ref p)) → fn ∈ lineFs → (lineF num W a pa du ro).lookup fn = some y → Ev (tFld K (tVar 0) fn) σ H1 y := fun e h0 hm hl => ev_fld (ev_var h0) (e _ _ hp) CI.cl (CI.no _ hm) hl
    have at_ : ∀ {x : Str}, ws[a]? = some x → atI (ws.map V.str) ((a : Nat) : Int) = some (.str x) := fun {x} hx => atI_nat (by rw [List.getElem?_map, hx]; rfl)
    cases e : takeW ws a zs with
    | none =>
      have key : EvT (tOr (tTest (tOp rEq (tFld K (tVar 0) "spot") (tCB (rLenS K) (tCons (tFld K (tVar 0) "row") tNil)))) (tTest (tOp (rIn K true) (tOp (rIxL K) (tFld K (tVar 0) "row") (tFld K (tVar 0) "spot")) (tVar 1)))) [some (.ref p), some (.ref sp)] H true := by
        rcases Nat.lt_or_ge a ws.length with h | h
        · obtain ⟨x, hx⟩ : ∃ x, ws[a]? = some x := ⟨ws[a], List.getElem?_eq_getElem h⟩
          have hnm : x ∉ zs := fun hm => by
            unfold takeW at e
            rw [hx] at e
            dsimp only at e
            rw [if_pos hm] at e
            cases e
          refine et_is (et_or (et_cmp (fl (Ex.refl H) rfl (by simp) lineF_spot) (ev_lenL (fl (Ex.refl H) rfl (by simp) lineF_row) (sq_of hW)) (rv_eq rfl)) fun _ => et_test (ev_op (ev_op (fl (Ex.refl H) rfl (by simp) lineF_row) (fl (Ex.refl H) rfl (by simp) lineF_spot) (rv_ixL (sq_of hW) (at_ hx))) (ev_var rfl) (rv_niL hS rfl (strs_flat _)))) ?_
          rw [inV_strs, decide_eq_false hnm, Bool.not_false, Bool.or_true]
        · refine et_or1 (et_is (et_cmp (fl (Ex.refl H) rfl (by simp) lineF_spot) (ev_lenL (fl (Ex.refl H) rfl (by simp) lineF_row) (sq_of hW)) (rv_eq rfl)) (decide_eq_true (congrArg V.int ?_)))
          rw [List.length_map]; omega
      refine q_yes key fun H1 e1 => ?_
      exact raise2 (ea_cons (fl e1 rfl (by simp) lineF_number) (ea_cons (ev_is (ev_op (fl e1 rfl (by simp) lineF_spot) ev_c rv_I0) (congrArg V.int (by omega))) ea_nil)) fun d H2 e2 _ hd => kB e d H2 (ExB.of (e1.trans e2)) hd
    | some z =>
      obtain ⟨hlt, hm, hx⟩ := takeW_lt e
      have key : EvT (tOr (tTest (tOp rEq (tFld K (tVar 0) "spot") (tCB (rLenS K) (tCons (tFld K (tVar 0) "row") tNil)))) (tTest (tOp (rIn K true) (tOp (rIxL K) (tFld K (tVar 0) "row") (tFld K (tVar 0) "spot")) (tVar 1)))) [some (.ref p), some (.ref sp)] H false := by
        refine et_is (et_or (et_cmp (fl (Ex.refl H) rfl (by simp) lineF_spot) (ev_lenL (fl (Ex.refl H) rfl (by simp) lineF_row) (sq_of hW)) (rv_eq rfl)) fun _ => et_test (ev_op (ev_op (fl (Ex.refl H) rfl (by simp) lineF_row) (fl (Ex.refl H) rfl (by simp) lineF_spot) (rv_ixL (sq_of hW) (at_ hx))) (ev_var rfl) (rv_niL hS rfl (strs_flat _)))) ?_
        rw [inV_strs, decide_eq_true hm, decide_eq_false (fun q => by
          have := V.int.inj q
          rw [List.length_map] at this
          omega)]
        rfl
      refine q_not key fun H1 e1 => ?_
      refine q_fldadd (ev_var rfl) (e1 _ _ hp) CI.cl (CI.no _ (by simp)) lineF_spot (fun _ _ => ev_c) (by show 6 < 1000; decide) fun H2 e2 => ?_
      rw [putF_spot]
      have eb : ExB p H (upd H2 p (.ins C_Line dx (lineF num W ((a : Int) + 1) pa du ro))) := (ExB.of (e1.trans e2)).upd
      have hp2 : upd H2 p (.ins C_Line dx (lineF num W ((a : Int) + 1) pa du ro)) p = some (.ins C_Line dx (lineF num W ((a + 1 : Nat) : Int) pa du ro)) := by rw [Int.natCast_add]; exact upd_same
      have hW2 : upd H2 p (.ins C_Line dx (lineF num W ((a : Int) + 1) pa du ro)) W = some (.lst (ws.map V.str)) := by rw [upd_ne hWp]; exact (e1.trans e2) _ _ hW
      generalize upd H2 p (.ins C_Line dx (lineF num W ((a : Int) + 1) pa du ro)) = H3 at eb hp2 hW2 ⊢
      exact s_ret (ev_op (ev_fld (ev_var rfl) hp2 CI.cl (CI.no _ (by simp)) lineF_row) (ev_is (ev_op (ev_fld (ev_var rfl) hp2 CI.cl (CI.no _ (by simp)) lineF_spot) ev_c rv_I0) (show _ = V.int ((a : Nat) : Int) from congrArg V.int (by omega))) (rv_ixL (sq_of hW2) (at_ hx))) fun H4 e4 => kG z e H4 (eb.step e4) ⟨dx, W, e4 _ _ hp2, e4 _ _ hW2⟩
def spEnd (K : PySem.W.Frag) (CL CT : Addr) : Sp := fun vs H Q E => ∃ (p : Addr) (num : Int) (ws : List Str) (a pa du ro : Nat), vs = [.ref p] ∧ LineAt K CL H p num ws a pa du ro ∧ (a < ws.length → RefE CT p num a H E) ∧ (ws.length ≤ a → RetV .non H Q)
theorem mt_end (T : Txt P w K mg C_BadRule C_BadRules C_BadLand C_BadDay C_BadNumber C_BadSeen C_BadText C_Feast C_Calendar C_Line C_Walk) (CI : Cls1 K C_Line lineFs) : Mtn P w K mg base (L2.CX P w) C_Line "end" 4 ["self"] (spEnd K C_Line C_BadText) := T.m_Line_end.mtn fun g fd F => by
  have ME_BadText : MnE P w K mg base C_BadText 2 (spE2 C_BadText "line" "word") := me_BadText T
  refine F.okX sc_Line_end (fun vs H Q E h => ?_) (fun cdv A outer s H vs Q E hr h => ?_)
  · obtain ⟨_, _, _, _, _, _, _, rfl, _⟩ := h
    rfl
  · obtain ⟨p, num, ws, a, pa, du, ro, rfl, ⟨dx, W, hp, hW⟩, kB, kG⟩ := h
    refine ⟨_, (pss_one (ps_if (pt_cmpR op_lt (pe_fld (pv 0) rfl) (pe_callB call_len_seq (by rfl) T.len (by decide +kernel) (pa_cons (pe_fld (pv 0) rfl) pa_nil)) (nomark _)) (pss_one (ps_raiseS rfl (takes_of rfl rfl rfl rfl) ME_BadText (hr.mono (by omega)) T.c_BadText rfl (pa_cons (pe_fld (pv 0) rfl) (pa_cons (pe_op op_add (pe_fld (pv 0) rfl) pe_int) pa_nil))))
  pss_nil)), ?_⟩
    have fl : ∀ {fn : Str} {y : V} {H1 : Hp} {σ : L2.St}, Ex H H1 → σ[0]? = some (some (.ref p)) → fn ∈ lineFs → (lineF num W a pa du ro).lookup fn = some y → Ev (tFld K (tVar 0) fn) σ H1 y := fun e h0 hm hl => ev_fld (ev_var h0) (e _ _ hp) CI.cl (CI.no _ hm) hl
    rcases Nat.lt_or_ge a ws.length with h | h
    · refine s_yes (et_is (et_cmp (fl (Ex.refl H) rfl (by simp) lineF_spot) (ev_lenL (fl (Ex.refl H) rfl (by simp) lineF_row) (sq_of hW)) rv_I0) (decide_eq_true (by rw [List.length_map]; omega))) fun H1 e1 => ?_
      exact raise2 (ea_cons (fl e1 rfl (by simp) lineF_number) (ea_cons (ev_is (ev_op (fl e1 rfl (by simp) lineF_spot) ev_c rv_I0) (congrArg V.int (by omega))) ea_nil)) fun d H2 e2 _ hd => kB h d H2 (ExB.of (e1.trans e2)) hd
    · exact s_no (et_is (et_cmp (fl (Ex.refl H) rfl (by simp) lineF_spot) (ev_lenL (fl (Ex.refl H) rfl (by simp) lineF_row) (sq_of hW)) rv_I0) (decide_eq_false (by rw [List.length_map]; omega))) fun H1 e1 => kG h H1 e1
def spTakeN (K : PySem.W.Frag) (CL CT : Addr) : Sp := fun vs H Q E => ∃ (p s : Addr) (num : Int) (ws : List Str) (a pa du ro : Nat) (ns : List Int), vs = [.ref p, .ref s] ∧ LineAt K CL H p num ws a pa du ro ∧ (SqL K H s (ns.map V.int) ∨ SqT K H s (ns.map V.int)) ∧ a ≤ ws.length ∧ ns.length ≤ 10 ∧ (∀ k ∈ ns, -3 ≤ k ∧ k ≤ 2) ∧
  (takeN ws a ns = none → RefE CT p num a H E) ∧ (∀ k, takeN ws a ns = some k → ∀ H2, ExB p H H2 → LineAt K CL H2 p num ws (a + 1) pa du ro → Q (.int k) H2)
theorem ints_at {ns : List Int} {i : Nat} {x : V} (h : (ns.map V.int)[i]? = some x) : x = .int (ns.getD i 0) ∧ ns.getD i 0 ∈ ns := by
  rw [List.getElem?_map] at h
  cases e : ns[i]? with
  | none => rw [e] at h; cases h
  | some k =>
    rw [e] at h
    cases h
    have e2 : ns.getD i 0 = k := by rw [List.getD_eq_getElem?_getD, e]; rfl
    rw [e2]
    exact ⟨rfl, List.mem_of_getElem? e⟩
theorem given_nums (ns : List Int) : given (ns.map V.int).length (fun _ => true) (fun i => V.str (numS (ns.getD i 0))) = (ns.map numS).map V.str := by
  rw [given_allL, List.length_map, List.map_map]
  apply List.ext_getElem
  · simp
  · intro i h1 h2
    have hi : i < ns.length := by simpa using h1
    simp [List.getD_eq_getElem?_getD, List.getElem?_eq_getElem hi]
theorem mt_take_number (T : Txt P w K mg C_BadRule C_BadRules C_BadLand C_BadDay C_BadNumber C_BadSeen C_BadText C_Feast C_Calendar C_Line C_Walk) (CI : Cls1 K C_Line lineFs) : Mtn P w K mg base (L2.CX P w) C_Line "take_number" 6 ["self", "some"] (spTakeN K C_Line C_BadText) := T.m_Line_take_number.mtn fun g fd F => by
  have N_Line_take : Mtn P w K mg base (L2.CX P w) C_Line "take" 4 ["self", "some"] (spTake K C_Line C_BadText) := mt_take T CI
  refine F.okX sc_Line_take_number (fun vs H Q E h => ?_) (fun cdv A outer s H vs Q E hr h => ?_)
  · obtain ⟨_, _, _, _, _, _, _, _, _, rfl, _⟩ := h
    rfl
  · obtain ⟨p, sp, num, ws, a, pa, du, ro, ns, rfl, hL, hS, hal, hnl, hns, kB, kG⟩ := h
    obtain ⟨dx, W, hp, hW⟩ := id hL
    have hz : (ns.map V.int).length ≤ 40000 := by rw [List.length_map]; omega
    have last : ∀ z s' H1, H s' = none → Ex H H1 → takeW ws a (ns.map numS) = some z → ∀ H2, ExB p H1 H2 → LineAt K C_Line H2 p num ws (a + 1) pa du ro → ∃ k, PySem.intText? z = some k ∧ z.length ≤ 640 ∧ Q (.int k) H2 := fun z s' H1 hs' e1 hz H2 eb hl2 => by
      cases hN : takeN ws a ns with
      | none => rw [takeN_none hN] at hz; cases hz
      | some k =>
        obtain ⟨_, hk, hw⟩ := takeN_lt hN
        rw [hw] at hz
        cases hz
        have h3 := (num_ok (hns k hk)).1
        exact ⟨k, int_numS (hns k hk), by omega, kG k hN H2 (fun b o hb q => eb b o hb (e1 b o q)) hl2⟩
    rcases hS with hS | hS
    · refine ⟨_, (pss_one (ps_ret (pe_callTy call_int_str (by rfl) T.int (by decide +kernel) (pa_cons (pe_mt1 N_Line_take (pv 0) CI.cl (hr.mono (by omega)) (passes_call (takes_of rfl rfl rfl rfl) (fun _ _ _ _ h => h)) (pa_cons (pe_lc (own := [("number", 2)]) (g := gName 2) (tt := tYes) rfl sc_Line_take_number.nd (pi_list (pv 1)) (blkOk_by (own := [("number", 2)]) (N := ["self", "some", "number"]) (sc := defScope s_Line_take_number) (by decide +kernel)) (fun _ _ _ _ _ => (pg_name (i := 2) sc_Line_take_number.nd rfl (by first | exact Or.inl rfl | exact Or.inr rfl))) (fun _ _ _ _ _ => pts_nil) (fun _ _ _ _ _ => (pe_callTy call_str_int (by rfl) T.str (by decide +kernel) (pa_cons (pv 2) pa_nil)))) pa_nil)) pa_nil)))), ?_⟩
      refine s_retX (tCB_one (tMeth_go (ev_var rfl) hp lineF_no_take fun H1 e1 => tA_one ?_))
      refine (el_is (el_lcL (fun _ => true) (fun i => .str (numS (ns.getD i 0))) (ev_var rfl) hS hz (fun _ => rfl) (fun _ _ _ _ _ => et_yes) (fun i x H2 e2 hx _ => ?_)) (given_nums ns)) H1 e1 _ fun s' H2 hs' e2 hs2 => ?_
      · obtain ⟨rfl, hm⟩ := ints_at hx
        exact ev_strI (ev_var rfl) (hns _ hm)
      · refine ⟨p, s', num, ws, a, pa, du, ro, ns.map numS, rfl, hL.mono (e1.trans e2), sq_of hs2, hal, fun hn => ?_, fun z hz H3 eb hl3 => ?_⟩
        · refine (kB ?_).back (ExB.of (e1.trans e2))
          unfold takeN
          rw [hn]
        · obtain ⟨k, k1, k2, k3⟩ := last z s' H2 (fresh_back e1 hs') (e1.trans e2) hz H3 eb hl3
          exact ⟨z, k, rfl, k1, k2, k3⟩
    · refine ⟨_, (pss_one (ps_ret (pe_callTy call_int_str (by rfl) T.int (by decide +kernel) (pa_cons (pe_mt1 N_Line_take (pv 0) CI.cl (hr.mono (by omega)) (passes_call (takes_of rfl rfl rfl rfl) (fun _ _ _ _ h => h)) (pa_cons (pe_lc (own := [("number", 2)]) (g := gName 2) (tt := tYes) rfl sc_Line_take_number.nd (pi_tup (pv 1)) (blkOk_by (own := [("number", 2)]) (N := ["self", "some", "number"]) (sc := defScope s_Line_take_number) (by decide +kernel)) (fun _ _ _ _ _ => (pg_name (i := 2) sc_Line_take_number.nd rfl (by first | exact Or.inl rfl | exact Or.inr rfl))) (fun _ _ _ _ _ => pts_nil) (fun _ _ _ _ _ => (pe_callTy call_str_int (by rfl) T.str (by decide +kernel) (pa_cons (pv 2) pa_nil)))) pa_nil)) pa_nil)))), ?_⟩
      refine s_retX (tCB_one (tMeth_go (ev_var rfl) hp lineF_no_take fun H1 e1 => tA_one ?_))
      refine (el_is (el_tupN (fun _ => true) (fun i => .str (numS (ns.getD i 0))) (ev_var rfl) hS hz (fun _ => rfl) (fun _ _ _ _ _ => et_yes) (fun i x H2 e2 hx _ => ?_)) (given_nums ns)) H1 e1 _ fun s' H2 hs' e2 hs2 => ?_
      · obtain ⟨rfl, hm⟩ := ints_at hx
        exact ev_strI (ev_var rfl) (hns _ hm)
      · refine ⟨p, s', num, ws, a, pa, du, ro, ns.map numS, rfl, hL.mono (e1.trans e2), sq_of hs2, hal, fun hn => ?_, fun z hz H3 eb hl3 => ?_⟩
        · refine (kB ?_).back (ExB.of (e1.trans e2))
          unfold takeN
          rw [hn]
        · obtain ⟨k, k1, k2, k3⟩ := last z s' H2 (fresh_back e1 hs') (e1.trans e2) hz H3 eb hl3
          exact ⟨z, k, rfl, k1, k2, k3⟩
end
end WF

set_option Elab.async false
set_option linter.all false
set_option maxRecDepth 100000
set_option maxHeartbeats 2000000
/-! the reader of a line: a whole rule -/
namespace WF
open PySem L2 Evl
section
variable {K : PySem.W.Frag} {σ : L2.St} {H : Hp} {ta tv te : TE} {t : TT} {v : V} {D : Ends} {tz : TS}
theorem q_whenApp {l : Addr} {xs : List V} {b : Bool} (h : EvT t σ H b) (hl : H l = some (.lst xs)) (ha : ∀ H1, Ev ta σ H1 (.ref l)) (hv : ∀ H1, Ev te σ H1 v) (hz : xs.length < 1000) (k : ∀ H1, ExB l H H1 → H1 l = some (.lst (if b = true then xs ++ [v] else xs)) → tz D σ H1) :
    tSeq (tIfS t (tDrop (tBM K "list" rAppend ta (tCons te tNil))) tNext) tz D σ H := q_when h (fun hb H1 e1 => s_app (D := { D with nx := tz D }) (e1 _ _ hl) (ha _) (hv _) (by omega) fun H2 e2 => k _ (ExB.of (e1.trans e2)).upd (by rw [if_pos hb]; exact upd_same)) (fun hb H1 e1 => k H1 (ExB.of e1) (by rw [hb, if_neg (by decide)]; exact e1 _ _ hl))
theorem q_whenExt {l d : Addr} {xs zs : List V} {b : Bool} (h : EvT t σ H b) (hl : H l = some (.lst xs)) (ha : ∀ H1, Ev ta σ H1 (.ref l)) (hz : xs.length + zs.length ≤ 1000) (k : ∀ H1, ExB l H H1 → H1 l = some (.lst (if b = true then xs ++ zs else xs)) → tz D σ H1) :
    tSeq (tIfS t (tDrop (tBM K "list" (rExtK d zs) ta (tCons (tC (.ref d)) tNil))) tNext) tz D σ H := q_when h (fun hb H1 e1 => ha H1 H1 (Ex.refl H1) _ fun H2 e2 => ⟨.inl ⟨rfl, xs, sq_of ((e1.trans e2) _ _ hl)⟩, tA_1c ⟨l, xs, rfl, rfl, (e1.trans e2) _ _ hl, hz, k _ (ExB.of (e1.trans e2)).upd (by rw [if_pos hb]; exact upd_same)⟩⟩) (fun hb H1 e1 => k H1 (ExB.of e1) (by rw [hb, if_neg (by decide)]; exact e1 _ _ hl))
theorem el_listK {d : Addr} {ks : List Str} : EvL (tCB (rListK d ks) (tCons (tC (.ref d)) tNil)) σ H (ks.map V.str) := fun H1 e Q q => tCB_one (show rListK d ks [V.ref d] H1 Q from ⟨rfl, fun p hp => q p _ hp (Ex.new hp) upd_same⟩)
end
theorem LineAt.parts {K : PySem.W.Frag} {CL p dx W : Addr} {H : Hp} {num : Int} {ws : List Str} {a pa du ro : Nat} {x : Int} {y : Nat} (hW : H W = some (.lst (ws.map V.str))) (hWp : W ≠ p) (e : x = (y : Int)) : LineAt K CL (upd H p (.ins CL dx (putF "parts" (.int x) (lineF num W a pa du ro)))) p num ws a y du ro :=
  ⟨dx, W, by rw [putF_parts, e]; exact upd_same, by rw [upd_ne hWp]; exact hW⟩
theorem LineAt.due {K : PySem.W.Frag} {CL p dx W : Addr} {H : Hp} {num : Int} {ws : List Str} {a pa du ro : Nat} {x : Int} {y : Nat} (hW : H W = some (.lst (ws.map V.str))) (hWp : W ≠ p) (e : x = (y : Int)) : LineAt K CL (upd H p (.ins CL dx (putF "due" (.int x) (lineF num W a pa du ro)))) p num ws a pa y ro :=
  ⟨dx, W, by rw [putF_due, e]; exact upd_same, by rw [upd_ne hWp]; exact hW⟩
theorem LineAt.room {K : PySem.W.Frag} {CL p dx W : Addr} {H : Hp} {num : Int} {ws : List Str} {a pa du ro : Nat} {x : Int} {y : Nat} (hW : H W = some (.lst (ws.map V.str))) (hWp : W ≠ p) (e : x = (y : Int)) : LineAt K CL (upd H p (.ins CL dx (putF "room" (.int x) (lineF num W a pa du ro)))) p num ws a pa du y :=
  ⟨dx, W, by rw [putF_room, e]; exact upd_same, by rw [upd_ne hWp]; exact hW⟩
theorem row_ne {K : PySem.W.Frag} {p W CL dx : Addr} {H : Hp} {fs : List (Str × V)} {xs : List V} (hp : H p = some (.ins CL dx fs)) (hW : H W = some (.lst xs)) : W ≠ p := fun q => by rw [q, hp] at hW; cases hW
theorem able_cases {pa du ro : Nat} {z : Str} (h : z ∈ able pa du ro) : z ∈ ends3 ∨ (z = "behind" ∧ pa + du < 5 ∧ 0 < ro) ∨ (z ∈ pairs3 ∧ pa + du < 4) := by
  unfold able at h
  rcases List.mem_append.mp h with h | h
  · by_cases q : pa + du < 5 ∧ 0 < ro
    · rw [if_pos q] at h
      rcases List.mem_append.mp h with h | h
      · exact .inl h
      · exact .inr (.inl ⟨List.mem_singleton.mp h, q⟩)
    · rw [if_neg q] at h
      exact .inl h
  · by_cases q : pa + du < 4
    · rw [if_pos q] at h
      exact .inr (.inr ⟨h, q⟩)
    · rw [if_neg q] at h
      cases h
theorem not_ends {z : Str} (h : z = "behind" ∨ z ∈ pairs3) : z ∉ ends3 := by
  unfold pairs3 at h
  simp only [List.mem_cons, List.not_mem_nil, or_false] at h
  rcases h with rfl | rfl | rfl | rfl <;> decide +kernel
theorem not_behind {z : Str} (h : z ∈ pairs3) : ¬ z = "behind" := by
  unfold pairs3 at h
  simp only [List.mem_cons, List.not_mem_nil, or_false] at h
  rcases h with rfl | rfl | rfl <;> decide +kernel
theorem bysL_ok {ro : Nat} : ∀ b ∈ bysL ro, (-3 ≤ b ∧ b ≤ 2) ∧ b.natAbs ≤ ro := fun b hb => by
  obtain ⟨h1, h2⟩ := List.mem_filter.mp hb
  simp only [List.mem_cons, List.not_mem_nil, or_false] at h1
  exact ⟨by rcases h1 with rfl | rfl | rfl | rfl <;> decide, of_decide_eq_true h2⟩
theorem leafN_ok (z : Str) : (∀ k ∈ leafN z, -3 ≤ k ∧ k ≤ 2) ∧ (leafN z).length ≤ 10 := by
  unfold leafN
  split <;> decide
theorem mkLeaf_at {K : PySem.W.Frag} {H : Hp} {t : Addr} {z : Str} {k : Int} (hE : z ∈ ends3) (hT : SqT K H t [.str z, .int k]) : RlAt K H (.ref t) (mkLeaf z k) := by
  unfold ends3 at hE
  simp only [List.mem_cons, List.not_mem_nil, or_false] at hE
  unfold mkLeaf
  rcases hE with rfl | rfl | rfl
  · rw [if_pos rfl]; exact .wk hT
  · rw [if_neg (by decide +kernel), if_pos rfl]; exact .fs hT
  · rw [if_neg (by decide +kernel), if_neg (by decide +kernel)]; exact .md hT
theorem mkPair_at {K : PySem.W.Frag} {H : Hp} {t : Addr} {z : Str} {u v : V} {x y : Rl} (hE : z ∈ pairs3) (hT : SqT K H t [.str z, u, v]) (hx : RlAt K H u x) (hy : RlAt K H v y) : RlAt K H (.ref t) (mkPair z x y) := by
  unfold pairs3 at hE
  simp only [List.mem_cons, List.not_mem_nil, or_false] at hE
  unfold mkPair
  rcases hE with rfl | rfl | rfl
  · rw [if_pos rfl]; exact .bo hT hx hy
  · rw [if_neg (by decide +kernel), if_pos rfl]; exact .ei hT hx hy
  · rw [if_neg (by decide +kernel), if_neg (by decide +kernel)]; exact .wo hT hx hy
theorem sqt_butI {K : PySem.W.Frag} {H H' : Hp} {p C dx a : Addr} {fs : List (Str × V)} {xs : List V} (hp : H p = some (.ins C dx fs)) (e : ExB p H H') (h : SqT K H a xs) : SqT K H' a xs := by
  rcases h with (h | ⟨o, h⟩) | h
  · exact .inl (.inl (e _ _ (fun q => by rw [q, hp] at h; cases h) h))
  · exact .inl (.inr ⟨o, e _ _ (fun q => by rw [q, hp] at h; cases h) h⟩)
  · exact .inr h
theorem rl_butI {K : PySem.W.Frag} {H H' : Hp} {p C dx : Addr} {fs : List (Str × V)} {v : V} {r : Rl} (hp : H p = some (.ins C dx fs)) (e : ExB p H H') (h : RlAt K H v r) : RlAt K H' v r := by
  induction h with
  | wk h => exact .wk (sqt_butI hp e h)
  | fs h => exact .fs (sqt_butI hp e h)
  | md h => exact .md (sqt_butI hp e h)
  | bh h _ i => exact .bh (sqt_butI hp e h) i
  | bo h _ _ i j => exact .bo (sqt_butI hp e h) i j
  | ei h _ _ i j => exact .ei (sqt_butI hp e h) i j
  | wo h _ _ i j => exact .wo (sqt_butI hp e h) i j
theorem given_bys (ro : Nat) : given bysV.length (fun i => decide ((([-2, -1, 1, 2] : List Int).getD i 0).natAbs ≤ ro)) (fun i => V.int (([-2, -1, 1, 2] : List Int).getD i 0)) = (bysL ro).map V.int := by
  match ro with
  | 0 => decide +kernel
  | 1 => decide +kernel
  | n + 2 =>
    have h : ∀ i, i < 4 → decide ((([-2, -1, 1, 2] : List Int).getD i 0).natAbs ≤ n + 2) = true := fun i hi => by
      rcases (show i = 0 ∨ i = 1 ∨ i = 2 ∨ i = 3 by omega) with rfl | rfl | rfl | rfl <;> exact decide_eq_true (by show _ ≤ n + 2; simp)
    have h2 : bysL (n + 2) = [-2, -1, 1, 2] := by
      unfold bysL
      refine List.filter_eq_self.mpr fun b hb => ?_
      simp only [List.mem_cons, List.not_mem_nil, or_false] at hb
      rcases hb with rfl | rfl | rfl | rfl <;> exact decide_eq_true (by show _ ≤ n + 2; simp)
    rw [h2]
    unfold given
    have h3 : (List.range bysV.length).filter (fun i => decide ((([-2, -1, 1, 2] : List Int).getD i 0).natAbs ≤ n + 2)) = List.range 4 := List.filter_eq_self.mpr fun i hi => h i (List.mem_range.mp hi)
    rw [h3]
    rfl
theorem parse_parts : ∀ (n : Nat) (ws : List Str) (a pa du ro : Nat) {r : Rl} {a1 pa1 du1 ro1 : Nat}, parse n ws a pa du ro = .ok r a1 pa1 du1 ro1 → pa + 1 ≤ pa1
  | 0, _, _, _, _, _, _, _, _, _, _, h => by cases h
  | n + 1, ws, a, pa, du, ro, r, a1, pa1, du1, ro1, h => by
    unfold parse at h
    cases e : takeW ws a (able pa du ro) with
    | none => rw [e] at h; cases h
    | some z =>
      rw [e] at h
      dsimp only at h
      by_cases hz : z ∈ ends3
      · rw [if_pos hz] at h
        cases e2 : takeN ws (a + 1) (leafN z) with
        | none => rw [e2] at h; cases h
        | some k => rw [e2] at h; cases h; exact Nat.le_refl _
      · rw [if_neg hz] at h
        by_cases hb : z = "behind"
        · rw [if_pos hb] at h
          cases e2 : takeN ws (a + 1) (bysL ro) with
          | none => rw [e2] at h; cases h
          | some b =>
            rw [e2] at h
            dsimp only at h
            cases e3 : parse n ws (a + 2) (pa + 1) du (ro - b.natAbs) with
            | bad i => rw [e3] at h; cases h
            | ok r' a' pa' du' ro' =>
              rw [e3] at h
              cases h
              have := parse_parts n ws _ _ _ _ e3
              omega
        · rw [if_neg hb] at h
          cases e2 : parse n ws (a + 1) (pa + 1) (du + 1) ro with
          | bad i => rw [e2] at h; cases h
          | ok x a2 pa2 du2 ro2 =>
            rw [e2] at h
            dsimp only at h
            have k1 := parse_parts n ws _ _ _ _ e2
            cases e3 : parse n ws a2 pa2 du2 ro2 with
            | bad i => rw [e3] at h; cases h
            | ok y a3 pa3 du3 ro3 =>
              rw [e3] at h
              cases h
              have k2 := parse_parts n ws _ _ _ _ e3
              omega
section
variable {σ : L2.St} {H : Hp}
theorem tNil_go {Q : List V → Hp → Prop} (h : Q [] H) : tNil σ H Q := h
end
section
variable {P : Program} {w : World} {K : PySem.W.Frag} {mg : Str → Option Value} {base : Heap} {C_BadRule C_BadRules C_BadLand C_BadDay C_BadNumber C_BadSeen C_BadText C_Feast C_Calendar C_Line C_Walk : Addr} {f : Addr} {fd : FuncData}
def spWR (K : PySem.W.Frag) (CL CT : Addr) (n : Nat) : Sp := fun vs H Q E => ∃ (p : Addr) (num : Int) (ws : List Str) (a pa du ro : Nat), vs = [.ref p] ∧ LineAt K CL H p num ws a pa du ro ∧ pa + du ≤ 5 ∧ 1 ≤ du ∧ 5 ≤ pa + n ∧ a ≤ ws.length ∧
  (∀ i, parse n ws a pa du ro = .bad i → RefE CT p num i H E) ∧
  (∀ r a1 pa1 du1 ro1, parse n ws a pa du ro = .ok r a1 pa1 du1 ro1 → ∀ v H2, ExB p H H2 → LineAt K CL H2 p num ws a1 pa1 du1 ro1 → RlAt K H2 v r → Q v H2)
theorem wr_turn (T : Txt P w K mg C_BadRule C_BadRules C_BadLand C_BadDay C_BadNumber C_BadSeen C_BadText C_Feast C_Calendar C_Line C_Walk) (CI : Cls1 K C_Line lineFs) (n : Nat) (ih : Mtn P w K mg base (L2.CX P w) C_Line "whole_rule" (n + 7) ["self"] (spWR K C_Line C_BadText n)) : Mtn P w K mg base (L2.CX P w) C_Line "whole_rule" (n + 8) ["self"] (spWR K C_Line C_BadText (n + 1)) := T.m_Line_whole_rule.mtn fun g fd F => by
  obtain ⟨dE, aW, aM, gENDS, tE⟩ := T.g_ENDS
  obtain ⟨esE, nE, kdENDS, kkENDS⟩ := T.k_ENDS dE gENDS
  obtain ⟨aP, gPAIRS, kxPAIRS, sP⟩ := T.k_PAIRS
  obtain ⟨aB, gBYS, sB⟩ := T.g_BYS
  have N_Line_take : Mtn P w K mg base (L2.CX P w) C_Line "take" 4 ["self", "some"] (spTake K C_Line C_BadText) := mt_take T CI
  have N_Line_take_number : Mtn P w K mg base (L2.CX P w) C_Line "take_number" 6 ["self", "some"] (spTakeN K C_Line C_BadText) := mt_take_number T CI
  have N_Line_whole_rule := ih
  refine F.okX sc_Line_whole_rule (fun vs H Q E h => ?_) (fun cdv A outer s H vs Q E hr h => ?_)
  · obtain ⟨_, _, _, _, _, _, _, rfl, _⟩ := h
    rfl
  · obtain ⟨p, num, ws, a, pa, du, ro, rfl, hL, h5, hdu, hfu, hal, kB, kG⟩ := h
    obtain ⟨dx, W, hp, hW⟩ := id hL
    have hWp := row_ne (K := K) hp hW
    refine ⟨_, (pss_cons (ps_set (i := 1) sc_Line_whole_rule.nd rfl (by first | exact Or.inl rfl | exact Or.inr rfl) (pe_op op_sub (pe_op op_sub (pe_globE rfl T.g_MOST_PARTS) (pe_fld (pv 0) rfl)) (pe_fld (pv 0) rfl)))
  (pss_cons (ps_set (i := 2) sc_Line_whole_rule.nd rfl (by first | exact Or.inl rfl | exact Or.inr rfl) (pe_callTy (call_list_kd rfl kdENDS kkENDS (by decide +kernel) (by decide)) (by rfl) T.list (by decide +kernel) (pa_cons (pe_glob (v := .ref dE) rfl gENDS rfl) pa_nil)))
  (pss_cons (ps_if (PW.pt (pw_and (pt_cmpR op_gt (pv 1) pe_int (nomark _)) (pw_and1 (pt_cmpR op_gt (pe_fld (pv 0) rfl) pe_int (nomark _))))) (pss_one (ps_expr (pe_bm PySem.F.plainAttrs_list PySem.F.slot_list_append PySem.F.type_list_append mt_append (pv 2) (pa_cons pe_str pa_nil))))
  pss_nil)
  (pss_cons (ps_if (pt_cmpR op_gt (pv 1) pe_int (nomark _)) (pss_one (ps_expr (pe_bm PySem.F.plainAttrs_list PySem.F.slot_list_extend PySem.F.type_list_extend (mt_extendK kxPAIRS) (pv 2) (pa_cons (pe_glob (v := .ref aP) rfl gPAIRS rfl) pa_nil))))
  pss_nil)
  (pss_cons (ps_set (i := 3) sc_Line_whole_rule.nd rfl (by first | exact Or.inl rfl | exact Or.inr rfl) (pe_mt1 N_Line_take (pv 0) CI.cl (hr.mono (by omega)) (passes_call (takes_of rfl rfl rfl rfl) (fun _ _ _ _ h => h)) (pa_cons (pv 2) pa_nil)))
  (pss_cons (ps_fldaug (pv 0) pe_int in_add)
  (pss_cons (ps_fldaug (pv 0) pe_int in_sub)
  (pss_cons (ps_if (pt_cmpR (op_in_kd kdENDS) (pv 3) (pe_glob (v := .ref dE) rfl gENDS rfl) (by rfl)) (pss_one (ps_ret (pe_tup (pa_cons (pv 3) (pa_cons (pe_mt1 N_Line_take_number (pv 0) CI.cl (hr.mono (by omega)) (passes_call (takes_of rfl rfl rfl rfl) (fun _ _ _ _ h => h)) (pa_cons (pe_ix ix_kdict (pe_glob (v := .ref dE) rfl gENDS rfl) (pv 3) (fun _ _ => rfl)) pa_nil)) pa_nil)))))
  pss_nil)
  (pss_cons (ps_if (pt_cmpR op_eq (pv 3) pe_str (nomark _)) (pss_cons (ps_set (i := 4) sc_Line_whole_rule.nd rfl (by first | exact Or.inl rfl | exact Or.inr rfl) (pe_mt1 N_Line_take_number (pv 0) CI.cl (hr.mono (by omega)) (passes_call (takes_of rfl rfl rfl rfl) (fun _ _ _ _ h => h)) (pa_cons (pe_lc (own := [("number", 6)]) (g := gName 6) rfl sc_Line_whole_rule.nd (pi_tup (pe_glob (v := .ref aB) rfl gBYS rfl)) (blkOk_by (own := [("number", 6)]) (N := ["self", "left", "words", "word", "by", "one", "number"]) (sc := defScope s_Line_whole_rule) (by decide +kernel)) (fun _ _ _ _ _ => (pg_name (i := 6) sc_Line_whole_rule.nd rfl (by first | exact Or.inl rfl | exact Or.inr rfl))) (fun _ _ _ _ _ => (pts_one (pt_cmpR op_le (pe_callB call_abs (by rfl) T.abs (by decide +kernel) (pa_cons (pv 6) pa_nil)) (pe_fldK (K := K) (pv 0) rfl) (nomark _)))) (fun _ _ _ _ _ => (pv 6))) pa_nil)))
  (pss_cons (ps_fldaug (pv 0) (pe_callB call_abs (by rfl) T.abs (by decide +kernel) (pa_cons (pv 4) pa_nil)) in_sub)
  (pss_cons (ps_fldaug (pv 0) pe_int in_add)
  (pss_one (ps_ret (pe_tup (pa_cons (pv 3) (pa_cons (pe_mt0 N_Line_whole_rule (pv 0) CI.cl (hr.mono (by omega)) (passes_call (takes_of rfl rfl rfl rfl) (fun _ _ _ _ h => h))) (pa_cons (pv 4) pa_nil)))))))))
  pss_nil)
  (pss_cons (ps_fldaug (pv 0) pe_int in_add)
  (pss_cons (ps_set (i := 5) sc_Line_whole_rule.nd rfl (by first | exact Or.inl rfl | exact Or.inr rfl) (pe_mt0 N_Line_whole_rule (pv 0) CI.cl (hr.mono (by omega)) (passes_call (takes_of rfl rfl rfl rfl) (fun _ _ _ _ h => h))))
  (pss_one (ps_ret (pe_tup (pa_cons (pv 3) (pa_cons (pv 5) (pa_cons (pe_mt0 N_Line_whole_rule (pv 0) CI.cl (hr.mono (by omega)) (passes_call (takes_of rfl rfl rfl rfl) (fun _ _ _ _ h => h))) pa_nil))))))))))))))))), ?_⟩
    have fl : ∀ {fn : Str} {y : V} {H1 : Hp} {σ : L2.St}, Ex H H1 → σ[0]? = some (some (.ref p)) → fn ∈ lineFs → (lineF num W a pa du ro).lookup fn = some y → Ev (tFld K (tVar 0) fn) σ H1 y := fun e h0 hm hl => ev_fld (ev_var h0) (e _ _ hp) CI.cl (CI.no _ hm) hl
    refine q_asg (v := .int (5 - (pa : Int) - (du : Int))) (ev_op (ev_op ev_c (fl (Ex.refl H) rfl (by simp) lineF_parts) rv_I0) (fl (Ex.refl H) rfl (by simp) lineF_due) rv_I0) fun H1 e1 => ?_
    refine q_asgL el_listK fun Ww H2 hWw e2 hWv => ?_
    have E2 := e1.trans e2
    refine q_whenApp (b := decide (pa + du < 5 ∧ 0 < ro)) (et_is (et_and (et_cmp (ev_var rfl) ev_c rv_I0) fun _ => et_cmp (fl E2 rfl (by simp) lineF_room) ev_c rv_I0) ?_) hWv (fun _ => ev_var rfl) (fun _ => ev_c) (by show 3 < 1000; decide) fun H3 b3 hW3 => ?_
    · rw [Bool.eq_iff_iff, Bool.and_eq_true, decide_eq_true_iff, decide_eq_true_iff, decide_eq_true_iff]
      omega
    refine q_whenExt (b := decide (pa + du < 4)) (et_is (et_cmp (ev_var rfl) ev_c rv_I0) ?_) hW3 (fun _ => ev_var rfl) (by split <;> decide) fun H4 b4 hW4 => ?_
    · rw [decide_eq_decide]
      omega
    have E4 : Ex H H4 := e1.trans ((b3.trans b4).old e2 hWw)
    have hW4' : H4 Ww = some (.lst ((able pa du ro).map V.str)) := by
      rw [hW4]
      refine congrArg (fun l => some (HO.lst l)) ?_
      unfold able
      by_cases c1 : pa + du < 5 ∧ 0 < ro <;> by_cases c2 : pa + du < 4 <;> simp [c1, c2, ends3, pairs3, pairsV]
    refine q_asgX (tMeth_go (ev_var rfl) (E4 _ _ hp) lineF_no_take fun H5 e5 => tA_one ⟨_, rfl, ?_⟩)
    have E5 := E4.trans e5
    refine ⟨p, Ww, num, ws, a, pa, du, ro, able pa du ro, rfl, hL.mono E5, sq_of (e5 _ _ hW4'), hal, fun hn => (kB a (by unfold parse; rw [hn])).back (ExB.of E5), fun z hz H6 eb6 hl6 => ?_⟩
    obtain ⟨hlt, hm, hx⟩ := takeW_lt hz
    have eb6' : ExB p H H6 := (ExB.of E5).trans eb6
    obtain ⟨dx6, W6, hp6, hW6⟩ := id hl6
    refine q_fldadd (ev_var rfl) hp6 CI.cl (CI.no _ (by simp)) lineF_parts (fun _ _ => ev_c) (by show 6 < 1000; decide) fun H7 e7 => ?_
    have hl7 : LineAt K C_Line (upd H7 p (.ins C_Line dx6 (putF "parts" (.int ((pa : Int) + 1)) (lineF num W6 ((a + 1 : Nat) : Int) pa du ro)))) p num ws (a + 1) (pa + 1) du ro := LineAt.parts (e7 _ _ hW6) (row_ne (K := K) hp6 hW6) (by omega)
    have eb7 := (eb6'.step e7).upd (o := .ins C_Line dx6 (putF "parts" (.int ((pa : Int) + 1)) (lineF num W6 ((a + 1 : Nat) : Int) pa du ro)))
    generalize upd H7 p (.ins C_Line dx6 (putF "parts" (.int ((pa : Int) + 1)) (lineF num W6 ((a + 1 : Nat) : Int) pa du ro))) = G7 at hl7 eb7 ⊢
    obtain ⟨dx7, W7, hp7, hW7⟩ := id hl7
    refine q_fldsub (ev_var rfl) hp7 CI.cl (CI.no _ (by simp)) lineF_due (fun _ _ => ev_c) (by show 6 < 1000; decide) fun H8 e8 => ?_
    have hl8 : LineAt K C_Line (upd H8 p (.ins C_Line dx7 (putF "due" (.int ((du : Int) - 1)) (lineF num W7 ((a + 1 : Nat) : Int) ((pa + 1 : Nat) : Int) du ro)))) p num ws (a + 1) (pa + 1) (du - 1) ro := LineAt.due (e8 _ _ hW7) (row_ne (K := K) hp7 hW7) (by omega)
    have eb8 := (eb7.step e8).upd (o := .ins C_Line dx7 (putF "due" (.int ((du : Int) - 1)) (lineF num W7 ((a + 1 : Nat) : Int) ((pa + 1 : Nat) : Int) du ro)))
    generalize upd H8 p (.ins C_Line dx7 (putF "due" (.int ((du : Int) - 1)) (lineF num W7 ((a + 1 : Nat) : Int) ((pa + 1 : Nat) : Int) du ro))) = G8 at hl8 eb8 ⊢
    obtain ⟨dx8, W8, hp8, hW8⟩ := id hl8
    rcases able_cases hm with hE | ⟨hzb, hc1⟩ | ⟨hP, hc2⟩
    · obtain ⟨aZ, hns, hsq⟩ : ∃ aZ, PySem.W.nsIn K dE z = some (some (.ref aZ)) ∧ ∀ H, SqT K H aZ ((leafN z).map V.int) := by
        have hE' := hE
        unfold ends3 at hE'
        simp only [List.mem_cons, List.not_mem_nil, or_false] at hE'
        rcases hE' with rfl | rfl | rfl
        · exact ⟨aW, tE.week, fun H => by rw [show leafN "weekday" = [-2, -1, 0, 1] by decide +kernel]; exact tE.sW H⟩
        · exact ⟨aW, tE.first, fun H => by rw [show leafN "first" = [-2, -1, 0, 1] by decide +kernel]; exact tE.sW H⟩
        · exact ⟨aM, tE.month, fun H => by rw [show leafN "monthday" = [-3, -2, -1, 0, 1, 2] by decide +kernel]; exact tE.sM H⟩
      refine q_yes (et_is (et_inK (ev_var rfl) hns) rfl) fun H9 e9 => ?_
      refine s_retX (tTup_go (tA_x ⟨_, rfl, tA_one (tMeth_go (ev_var rfl) (e9 _ _ hp8) lineF_no_take_number fun H10 e10 => tA_one ?_)⟩))
      refine (ev_op ev_c (ev_var rfl) fun H3 _ Q q => ⟨dE, z, .ref aZ, rfl, rfl, tE.kdct hns, q H3 (Ex.refl H3)⟩) H10 (Ex.refl H10) _ fun H11 e11 => ?_
      have E11 := (e9.trans e10).trans e11
      refine ⟨p, aZ, num, ws, a + 1, pa + 1, du - 1, ro, leafN z, rfl, hl8.mono E11, .inr (hsq _), by omega, (leafN_ok z).2, (leafN_ok z).1, fun hn => (kB (a + 1) (by unfold parse; rw [hz]; dsimp only; rw [if_pos hE, hn])).back (eb8.step E11), fun k hk H12 eb12 hl12 => ⟨by show 2 ≤ sizeLine; decide, fun t ht => ?_⟩⟩
      refine kG (mkLeaf z k) (a + 2) (pa + 1) (du - 1) ro (by unfold parse; rw [hz]; dsimp only; rw [if_pos hE, hk]) (.ref t) _ (((eb8.step E11).trans eb12).step (Ex.new ht)) (hl12.mono (Ex.new ht)) (mkLeaf_at hE (st_of upd_same))
    · have hnE : z ∉ ends3 := not_ends (.inl hzb)
      refine q_not (et_is (et_inK (ev_var rfl) (tE.no z (by rw [hzb]; simp))) rfl) fun H9 e9 => ?_
      refine q_yes (et_str (ev_var rfl) (decide_eq_true hzb)) fun H10 e10 => ?_
      have E10 := e9.trans e10
      refine q_asgX (tMeth_go (ev_var rfl) (E10 _ _ hp8) lineF_no_take_number fun H11 e11 => tA_one ?_)
      have E11 := E10.trans e11
      refine (el_is (el_tupN (K := K) (xs := bysV) (fun i => decide ((([-2, -1, 1, 2] : List Int).getD i 0).natAbs ≤ ro)) (fun i => V.int (([-2, -1, 1, 2] : List Int).getD i 0)) ev_c (sB _) (by decide) (fun _ => rfl) (fun i x H12 e12 hx => ?_) (fun i x H12 e12 hx _ => ?_)) (given_bys ro)) H11 (Ex.refl H11) _ fun s' H12 hs' e12 hs2 => ?_
      · have hxi : x = .int (([-2, -1, 1, 2] : List Int).getD i 0) := (ints_at (ns := [-2, -1, 1, 2]) hx).1
        rw [hxi]
        refine et_is (et_cmp (ev_abs (ev_var rfl)) (ev_fld (ev_var rfl) ((E11.trans e12) _ _ hp8) CI.cl (CI.no _ (by simp)) lineF_room) rv_I0) ?_
        rw [decide_eq_decide]
        split <;> omega
      · have hxi : x = .int (([-2, -1, 1, 2] : List Int).getD i 0) := (ints_at (ns := [-2, -1, 1, 2]) hx).1
        rw [hxi]
        exact ev_var rfl
      have E12 := E11.trans e12
      refine ⟨p, s', num, ws, a + 1, pa + 1, du - 1, ro, bysL ro, rfl, hl8.mono E12, .inl (sq_of hs2), by omega, Nat.le_trans (List.length_filter_le _ _) (by decide), fun k hk => (bysL_ok k hk).1, fun hn => (kB (a + 1) (by unfold parse; rw [hz]; dsimp only; rw [if_neg hnE, if_pos hzb, hn])).back (eb8.step E12), fun b hb H13 eb13 hl13 => ?_⟩
      have hbm := (takeN_lt hb).2.1
      have hbl := (takeN_lt hb).1
      have hbn := (bysL_ok b hbm).2
      have eb13' := (eb8.step E12).trans eb13
      obtain ⟨dx13, W13, hp13, hW13⟩ := id hl13
      refine q_fldsub (ev_var rfl) hp13 CI.cl (CI.no _ (by simp)) lineF_room (fun _ _ => ev_abs (ev_var rfl)) (by show 6 < 1000; decide) fun H14 e14 => ?_
      generalize hab : (if b < 0 then -b else b) = ab
      have hl14 : LineAt K C_Line (upd H14 p (.ins C_Line dx13 (putF "room" (.int ((ro : Int) - ab)) (lineF num W13 ((a + 1 + 1 : Nat) : Int) ((pa + 1 : Nat) : Int) ((du - 1 : Nat) : Int) ro)))) p num ws (a + 1 + 1) (pa + 1) (du - 1) (ro - b.natAbs) := LineAt.room (e14 _ _ hW13) (row_ne (K := K) hp13 hW13) (by split at hab <;> omega)
      have eb14 := (eb13'.step e14).upd (o := .ins C_Line dx13 (putF "room" (.int ((ro : Int) - ab)) (lineF num W13 ((a + 1 + 1 : Nat) : Int) ((pa + 1 : Nat) : Int) ((du - 1 : Nat) : Int) ro)))
      generalize upd H14 p (.ins C_Line dx13 (putF "room" (.int ((ro : Int) - ab)) (lineF num W13 ((a + 1 + 1 : Nat) : Int) ((pa + 1 : Nat) : Int) ((du - 1 : Nat) : Int) ro))) = G14 at hl14 eb14 ⊢
      obtain ⟨dx14, W14, hp14, hW14⟩ := id hl14
      refine q_fldadd (ev_var rfl) hp14 CI.cl (CI.no _ (by simp)) lineF_due (fun _ _ => ev_c) (by show 6 < 1000; decide) fun H15 e15 => ?_
      have hl15 : LineAt K C_Line (upd H15 p (.ins C_Line dx14 (putF "due" (.int (((du - 1 : Nat) : Int) + 1)) (lineF num W14 ((a + 1 + 1 : Nat) : Int) ((pa + 1 : Nat) : Int) ((du - 1 : Nat) : Int) ((ro - b.natAbs : Nat) : Int))))) p num ws (a + 1 + 1) (pa + 1) du (ro - b.natAbs) := LineAt.due (e15 _ _ hW14) (row_ne (K := K) hp14 hW14) (by omega)
      have eb15 := (eb14.step e15).upd (o := .ins C_Line dx14 (putF "due" (.int (((du - 1 : Nat) : Int) + 1)) (lineF num W14 ((a + 1 + 1 : Nat) : Int) ((pa + 1 : Nat) : Int) ((du - 1 : Nat) : Int) ((ro - b.natAbs : Nat) : Int))))
      generalize upd H15 p (.ins C_Line dx14 (putF "due" (.int (((du - 1 : Nat) : Int) + 1)) (lineF num W14 ((a + 1 + 1 : Nat) : Int) ((pa + 1 : Nat) : Int) ((du - 1 : Nat) : Int) ((ro - b.natAbs : Nat) : Int)))) = G15 at hl15 eb15 ⊢
      obtain ⟨dx15, W15, hp15, hW15⟩ := id hl15
      refine s_retX (tTup_go (tA_x ⟨_, rfl, tA_x (tMeth_go (ev_var rfl) hp15 lineF_no_whole_rule fun H16 e16 => tNil_go ?_)⟩))
      refine ⟨p, num, ws, a + 1 + 1, pa + 1, du, ro - b.natAbs, rfl, hl15.mono e16, by omega, hdu, by omega, by omega, fun i hi => (kB i (by unfold parse; rw [hz]; dsimp only; rw [if_neg hnE, if_pos hzb, hb]; dsimp only; rw [show a + 2 = a + 1 + 1 from rfl, hi])).back (eb15.step e16), fun r a1 pa1 du1 ro1 hpr v H17 eb17 hl17 hrl => tA_one ⟨_, rfl, ⟨by show 3 ≤ sizeLine; decide, fun t ht => ?_⟩⟩⟩
      refine kG (.bh r b) a1 pa1 du1 ro1 (by unfold parse; rw [hz]; dsimp only; rw [if_neg hnE, if_pos hzb, hb]; dsimp only; rw [show a + 2 = a + 1 + 1 from rfl, hpr]) (.ref t) _ (((eb15.step e16).trans eb17).step (Ex.new ht)) (hl17.mono (Ex.new ht)) (.bh (st_of ?_) (hrl.mono (Ex.new ht)))
      rw [hzb]
      exact upd_same
    · have hnE : z ∉ ends3 := not_ends (.inr hP)
      have hnb := not_behind hP
      refine q_not (et_is (et_inK (ev_var rfl) (tE.no z (by
        unfold pairs3 at hP
        simp only [List.mem_cons, List.not_mem_nil, or_false] at hP
        rcases hP with rfl | rfl | rfl <;> simp))) rfl) fun H9 e9 => ?_
      refine q_not (et_str (ev_var rfl) (decide_eq_false hnb)) fun H10 e10 => ?_
      have E10 := e9.trans e10
      refine q_fldadd (ev_var rfl) (E10 _ _ hp8) CI.cl (CI.no _ (by simp)) lineF_due (fun _ _ => ev_c) (by show 6 < 1000; decide) fun H11 e11 => ?_
      have hl11 : LineAt K C_Line (upd H11 p (.ins C_Line dx8 (putF "due" (.int (((du - 1 : Nat) : Int) + 2)) (lineF num W8 ((a + 1 : Nat) : Int) ((pa + 1 : Nat) : Int) ((du - 1 : Nat) : Int) ro)))) p num ws (a + 1) (pa + 1) (du + 1) ro := LineAt.due ((E10.trans e11) _ _ hW8) (row_ne (K := K) hp8 hW8) (by omega)
      have eb11 := (eb8.step (E10.trans e11)).upd (o := .ins C_Line dx8 (putF "due" (.int (((du - 1 : Nat) : Int) + 2)) (lineF num W8 ((a + 1 : Nat) : Int) ((pa + 1 : Nat) : Int) ((du - 1 : Nat) : Int) ro)))
      generalize upd H11 p (.ins C_Line dx8 (putF "due" (.int (((du - 1 : Nat) : Int) + 2)) (lineF num W8 ((a + 1 : Nat) : Int) ((pa + 1 : Nat) : Int) ((du - 1 : Nat) : Int) ro))) = G11 at hl11 eb11 ⊢
      obtain ⟨dx11, W11, hp11, hW11⟩ := id hl11
      refine q_asgX (tMeth_go (ev_var rfl) hp11 lineF_no_whole_rule fun H12 e12 => tNil_go ?_)
      refine ⟨p, num, ws, a + 1, pa + 1, du + 1, ro, rfl, hl11.mono e12, by omega, by omega, by omega, by omega, fun i hi => (kB i (by unfold parse; rw [hz]; dsimp only; rw [if_neg hnE, if_neg hnb, hi])).back (eb11.step e12), fun x a1 pa1 du1 ro1 hpx u H13 eb13 hl13 hrx => ?_⟩
      obtain ⟨k1, k2, k3, _⟩ := parse_keep n ws _ _ _ _ hpx (by omega) (by omega) (by omega)
      have hkp : pa + 1 ≤ pa1 ∨ True := .inr trivial
      have eb13' := (eb11.step e12).trans eb13
      obtain ⟨dx13, W13, hp13, hW13⟩ := id hl13
      refine s_retX (tTup_go (tA_x ⟨_, rfl, tA_x ⟨_, rfl, tA_one (tMeth_go (ev_var rfl) hp13 lineF_no_whole_rule fun H14 e14 => tNil_go ?_)⟩⟩))
      refine ⟨p, num, ws, a1, pa1, du1, ro1, rfl, hl13.mono e14, by omega, by omega, ?_, k3, fun i hi => (kB i (by unfold parse; rw [hz]; dsimp only; rw [if_neg hnE, if_neg hnb, hpx]; dsimp only; rw [hi])).back (eb13'.step e14), fun y a2 pa2 du2 ro2 hpy v H15 eb15 hl15 hry => ⟨by show 3 ≤ sizeLine; decide, fun t ht => ?_⟩⟩
      · exact Nat.le_trans (by omega) (Nat.add_le_add_right (parse_parts n ws _ _ _ _ hpx) n)
      · refine kG (mkPair z x y) a2 pa2 du2 ro2 (by unfold parse; rw [hz]; dsimp only; rw [if_neg hnE, if_neg hnb, hpx]; dsimp only; rw [hpy]) (.ref t) _ (((eb13'.step e14).trans eb15).step (Ex.new ht)) (hl15.mono (Ex.new ht)) (mkPair_at hP (st_of upd_same) ?_ (hry.mono (Ex.new ht)))
        exact (rl_butI (e14 _ _ hp13) eb15 (hrx.mono e14)).mono (Ex.new ht)
theorem mt_rule (T : Txt P w K mg C_BadRule C_BadRules C_BadLand C_BadDay C_BadNumber C_BadSeen C_BadText C_Feast C_Calendar C_Line C_Walk) (CI : Cls1 K C_Line lineFs) : ∀ n : Nat, Mtn P w K mg base (L2.CX P w) C_Line "whole_rule" (n + 7) ["self"] (spWR K C_Line C_BadText n)
  | 0 => T.m_Line_whole_rule.mtn fun g fd F => fnok_none fun vs H Q E ⟨_, _, _, _, _, _, _, _, _, h1, h2, h3, _⟩ => by omega
  | n + 1 => wr_turn T CI n (mt_rule T CI n)
end
end WF

set_option Elab.async false
set_option linter.all false
set_option maxRecDepth 100000
set_option maxHeartbeats 1000000
/-! read: a text as a calendar, with refusals -/
namespace WF
open PySem L2 Evl
section
variable {K : PySem.W.Frag} {σ : L2.St} {H : Hp} {ta tb te tl tu2 : TE} {tA : TA} {t : TT} {D : Ends} {tu tz : TS}
theorem q_forEnE {xs : List V} {j k : Nat} (h : EvL tl σ H xs) (Pv : Addr → Nat → L2.St → Hp → Prop) (h0 : ∀ p H1, H p = none → Ex H H1 → H1 p = some (.lst xs) → Pv p 0 σ H1)
    (hl : ∀ p i σ' H', Pv p i σ' H' → H' p = some (.lst xs))
    (hs : ∀ p i x σ' H' H2, xs[i]? = some x → Pv p i σ' H' → Ex H' H2 → tu { D with nx := Pv p (i + 1), ct := Pv p (i + 1), bk := tz D } ((σ'.set j (some (.int ((i : Nat) : Int)))).set k (some x)) H2)
    (hd : ∀ p σ' H', Pv p xs.length σ' H' → tz D σ' H') : tSeq (tFor (iEnum K (tCons tl tNil)) (gTup K 2 (gCons (gName j) (gCons (gName k) gNil))) tu) tz D σ H := by
  refine h H (Ex.refl H) _ fun a H1 ha e1 hx => ⟨a, xs, rfl, sq_of hx, ?_⟩
  refine for_it (D := { D with nx := tz D }) walk_enum (Pv a) (h0 a H1 ha e1 hx) (fun i σ' H' _ h => sq_of (hl a i σ' H' h)) (fun i x σ' H' H2 hi p y => ?_) (hd a)
  obtain ⟨T, u, v, rfl, hT, rfl, hu, hv⟩ := y
  cases hu
  exact ⟨T, _, rfl, st_of upd_same, rfl, _, _, rfl, _, _, rfl, rfl, hs a i v σ' H' _ hv p (Ex.new hT)⟩
theorem opC_go {r : R2} {v : V} {Q : VK} (h : tb σ H fun y H1 => r v y H1 Q) : tOp r (tC v) tb σ H Q := h
theorem q_dropGo {k0 : TE} (h : k0 σ H fun _ H1 => tz D σ H1) : tSeq (tDrop k0) tz D σ H := h
theorem app_go {l : Addr} {xs : List V} {Q : VK} (ha : Ev ta σ H (.ref l)) (hl : H l = some (.lst xs)) (h : ∀ H1, Ex H H1 → te σ H1 fun v H2 => rAppend (.ref l) [v] H2 Q) : tBM K "list" rAppend ta (tCons te tNil) σ H Q := ha H (Ex.refl H) _ fun H1 e1 =>
  ⟨Or.inl ⟨rfl, xs, sq_of (e1 l _ hl)⟩, h H1 e1⟩
theorem el_cutLast {a : Addr} {ls : List Str} (h : Ev ta σ H (.ref a)) (hx : SqL K H a (ls.map V.str)) : EvL (tSl (rSlL K) ta tNoPart (tPart (tUn (rU fun i => V.int (-i)) (tC (V.int 1))))) σ H (ls.dropLast.map V.str) := by
  rw [← cut_last V.str ls]
  exact el_sl h eo_none (eo_some (ev_un ev_c ru_neg)) hx
/-- tuple(a list that has a name) -/
theorem er_tupleV {R : Addr} {zs : List V} {S : List V → Hp → Prop} (hS : ∀ ys H1 H2, KeepN H1 H2 → S ys H1 → S ys H2) (h : Ev ta σ H (.ref R)) (hR : SqL K H R zs) (hs : S zs H) :
    EvR (tCB (fun xs H Q => ∃ p ys, xs = [.ref p] ∧ ((SqL K H p ys ∧ ∀ l, H l = none → Q (.ref l) (upd H l (.tup ys))) ∨ (SqT K H p ys ∧ Q (.ref p) H))) (tCons ta tNil)) σ H fun p H2 => ∃ ys, H2 p = some (.tup ys) ∧ S ys H2 := fun H1 e Q q =>
  h H1 e _ fun H2 e2 => ⟨R, zs, rfl, .inl ⟨ex_l (e.trans e2) hR, fun l hl => q l _ (fresh_back e2 hl) (e2.trans (Ex.new hl)) ⟨zs, upd_same, hS zs _ _ (KeepN.of ((e.trans e2).trans (Ex.new hl))) hs⟩⟩⟩
theorem rows_not {CF : Addr} {zs : List V} {rows : Rows} {ws : List Str} (h : RowsL K CF H zs rows) (e : zs = ws.map V.str) (hw : 0 < ws.length) : False := by
  cases ws with
  | nil => exact absurd hw (by decide)
  | cons z ws =>
    subst e
    cases rows with
    | nil => exact h
    | cons r rows =>
      obtain ⟨⟨a, b, h0, _⟩, _⟩ := h
      cases h0
theorem mk_go {CF CR : Addr} {E : XK} {Q : VK} (h : te σ H fun v H1 => tMake CF (spFeast K CF CR) [] E (fun _ H Q => Q [v] H) σ H1 Q) : tMake CF (spFeast K CF CR) [] E (tCons te tNil) σ H Q := h
theorem mk_leaf {CF CR : Addr} {E : XK} {Q : VK} {v : V} {r : Rl} (hr : RlAt K H v r) (hf : r.fit = true) (hp : r.parts ≤ 5) (hb : r.bys ≤ 4) (k : ∀ p H2, H p = none → Ex H H2 → FeastAt K CF H2 p r → Q (.ref p) H2) : tMake CF (spFeast K CF CR) [] E (fun _ H Q => Q [v] H) σ H Q :=
  er_feast (K := K) (CF := CF) (CR := CR) (σ := σ) (H := H) (v := v) (r := r) (ta := fun _ H Q => Q [v] H) (E := E) (fun H3 _ Q q => q H3 (Ex.refl H3)) hr hf hp hb H (Ex.refl H) Q fun p H3 hp e3 hc => k p H3 hp e3 hc
theorem q_parR {xs : List V} {v : V} {i j : Nat} (h : EvL te σ H xs) (h2 : ∀ H1, Ev tb σ H1 v) (k : ∀ p H1, H p = none → Ex H H1 → H1 p = some (.lst xs) → tz D ((σ.set i (some (.ref p))).set j (some v)) H1) :
    tSeq (tPar i j (tCons te (tCons tb tNil))) tz D σ H := h H (Ex.refl H) _ fun p H1 hp e1 h1 => h2 H1 H1 (Ex.refl H1) _ fun H2 e2 => ⟨_, _, rfl, k p H2 hp (e1.trans e2) (e2 _ _ h1)⟩
theorem er_line {CL : Addr} {E : XK} {num : Int} {z : Str} {ro : Nat} (h : EvA tA σ H [.int num, .str z, .int (ro : Int)]) (hz : z.length ≤ 10000) : EvR (tMake CL (spLine K CL) [] E tA) σ H fun p H2 => LineAt K CL H2 p num (Txt.split z " ") 0 0 1 ro :=
  er_make h fun H1 e1 x dx hx hdx hne Q k => ⟨x, dx, num, z, ro, rfl, upd_same, hz, fun H' eb hl => k H' (eb.old (ex_made hx hdx) hx) hl⟩
theorem RowsL.snoc {CF : Addr} : ∀ {xs : List V} {rs : Rows} {x : V} {r : Rl × Bool}, RowsL K CF H xs rs → RowAt K CF H x r → RowsL K CF H (xs ++ [x]) (rs ++ [r])
  | [], [], _, _, _, h => ⟨h, trivial⟩
  | _ :: _, _ :: _, _, _, h, h2 => ⟨h.1, RowsL.snoc h.2 h2⟩
  | [], _ :: _, _, _, h, _ => h.elim
  | _ :: _, [], _, _, h, _ => h.elim
end
section
variable {P : Program} {w : World} {K : PySem.W.Frag} {mg : Str → Option Value} {base : Heap} {C_BadRule C_BadRules C_BadLand C_BadDay C_BadNumber C_BadSeen C_BadText C_Feast C_Calendar C_Line C_Walk : Addr} {f : Addr} {fd : FuncData}
def spRead (K : PySem.W.Frag) (CF CC CT : Addr) : Sp := fun vs H Q E => ∃ t : Str, vs = [.str t] ∧ t.length ≤ 10000 ∧ (∀ x ∈ Txt.split t "\n", x.length ≤ 10000) ∧
  (∀ i j, readT t = .bad i j → ∀ d H2, Ex H H2 → H2 d = some (.xd [("word", .int (j : Int)), ("line", .int (i : Int))]) → E (.ref CT) (some d) H2) ∧
  (∀ rows, readT t = .ok rows → ∀ p H2, H p = none → Ex H H2 → CalAt K CF CC H2 (.ref p) rows → Q (.ref p) H2)
theorem ok_read (F : Fun K "read" "read" s_read f fd) (T : Txt P w K mg C_BadRule C_BadRules C_BadLand C_BadDay C_BadNumber C_BadSeen C_BadText C_Feast C_Calendar C_Line C_Walk) (CF : Cls1 K C_Feast ["told", "bys"]) (IF : ClsI K C_Feast) (CC : Cls1 K C_Calendar ["rows", "near"]) (CI : Cls1 K C_Line lineFs) : FnOk P w K mg base (L2.CX P w) 14 f fd ["text"] (spRead K C_Feast C_Calendar C_BadText) := by
  have ME_BadText : MnE P w K mg base C_BadText 2 (spE2 C_BadText "line" "word") := me_BadText T
  have N_Line_take : Mtn P w K mg base (L2.CX P w) C_Line "take" 4 ["self", "some"] (spTake K C_Line C_BadText) := mt_take T CI
  have N_Line_end : Mtn P w K mg base (L2.CX P w) C_Line "end" 4 ["self"] (spEnd K C_Line C_BadText) := mt_end T CI
  have N_Line_whole_rule : Mtn P w K mg base (L2.CX P w) C_Line "whole_rule" 12 ["self"] (spWR K C_Line C_BadText 5) := mt_rule T CI 5
  have M_Line : Mn P w K mg base CX0 C_Line 1 ["self", "number", "text", "room"] (spLine K C_Line) := mn_line T CI
  have M_Feast : Mn P w K mg base (L2.CX P w) C_Feast 9 ["self", "rule"] (spFeast K C_Feast C_BadRule) := mn_feast T CF
  have M_Calendar : Mn P w K mg base CX0 C_Calendar 2 ["self", "rules"] (spCal K C_Feast C_Calendar) := mn_cal T CF IF CC
  obtain ⟨dB, esB, nB, gBEGINS, kdBEGINS, kkBEGINS, nsP, nsY⟩ := T.k_BEGINS
  refine F.okX sc_read (fun vs H Q E h => ?_) (fun cdv A outer s H vs Q E hr h => ?_)
  · obtain ⟨_, rfl, _⟩ := h
    rfl
  · obtain ⟨t, rfl, hz, hzs, kB, kG⟩ := h
    refine ⟨_, (pss_cons (ps_set (i := 1) sc_read.nd rfl (by first | exact Or.inl rfl | exact Or.inr rfl) (pe_bm PySem.F.plainAttrs_str PySem.F.slot_str_split PySem.F.type_str_split mt_split (pv 0) (pa_cons pe_str pa_nil)))
  (pss_cons (ps_par (i := 2) (j := 3) (by rfl) sc_read.nd rfl rfl (by decide) rfl rfl (pa_cons (pe_lst pa_nil) (pa_cons (pe_globE rfl T.g_MOST_BYS) pa_nil)) (by first | rfl | exact sw2 rfl rfl rfl rfl (by decide)))
  (pss_cons (ps_for (passes_of rfl) rfl (pi_enum (by rfl) T.enumerate (pa_cons (pe_slice sl_list (pv 1) po_none (po_some (pe_un un_neg pe_int))) pa_nil)) (pg_tup rfl (pgs_cons (pg_name (i := 4) sc_read.nd rfl (by first | exact Or.inl rfl | exact Or.inr rfl)) (pgs_cons (pg_name (i := 5) sc_read.nd rfl (by first | exact Or.inl rfl | exact Or.inr rfl)) pgs_nil)))
  (pss_cons (ps_set (i := 6) sc_read.nd rfl (by first | exact Or.inl rfl | exact Or.inr rfl) (pe_mk M_Line (hr.mono (by omega)) T.c_Line pass0 rfl (pa_cons (pe_op op_add (pv 4) pe_int) (pa_cons (pv 5) (pa_cons (pv 3) pa_nil)))))
  (pss_cons (ps_set (i := 7) sc_read.nd rfl (by first | exact Or.inl rfl | exact Or.inr rfl) (pe_ix ix_kdict (pe_glob (v := .ref dB) rfl gBEGINS rfl) (pe_mt1 N_Line_take (pv 6) CI.cl (hr.mono (by omega)) (passes_call (takes_of rfl rfl rfl rfl) (fun _ _ _ _ h => h)) (pa_cons (pe_ifExp (pt_cmpR op_lt (pv 4) (pe_globE rfl T.g_MOST_RULES) (nomark _)) (pe_callTy (call_list_kd rfl kdBEGINS kkBEGINS (by decide +kernel) (by decide)) (by rfl) T.list (by decide +kernel) (pa_cons (pe_glob (v := .ref dB) rfl gBEGINS rfl) pa_nil)) (pe_lst pa_nil)) pa_nil)) (fun _ _ => rfl)))
  (pss_cons (ps_expr (pe_bm PySem.F.plainAttrs_list PySem.F.slot_list_append PySem.F.type_list_append mt_append (pv 2) (pa_cons (pe_tup (pa_cons (pe_mk M_Feast (hr.mono (by omega)) T.c_Feast (passes_call (takes_of rfl rfl rfl rfl) (fun _ _ _ _ h => h)) rfl (pa_cons (pe_mt0 N_Line_whole_rule (pv 6) CI.cl (hr.mono (by omega)) (passes_call (takes_of rfl rfl rfl rfl) (fun _ _ _ _ h => h))) pa_nil)) (pa_cons (pv 7) pa_nil))) pa_nil)))
  (pss_cons (ps_expr (pe_mt0 N_Line_end (pv 6) CI.cl (hr.mono (by omega)) (passes_call (takes_of rfl rfl rfl rfl) (fun _ _ _ _ h => h))))
  (pss_one (ps_set (i := 3) sc_read.nd rfl (by first | exact Or.inl rfl | exact Or.inr rfl) (pe_fld (pv 6) rfl))))))))
  (pss_cons (ps_if (pt_cmpR op_ne (pe_ix ix_list (pv 1) (pe_un un_neg pe_int) (fun _ _ => rfl)) pe_str (nomark _)) (pss_one (ps_raiseS rfl (takes_of rfl rfl rfl rfl) ME_BadText (hr.mono (by omega)) T.c_BadText rfl (pa_cons (pe_callB call_len_seq (by rfl) T.len (by decide +kernel) (pa_cons (pv 1) pa_nil)) (pa_cons pe_int pa_nil))))
  pss_nil)
  (pss_one (ps_ret (pe_mk M_Calendar (hr.mono (by omega)) T.c_Calendar pass0 rfl (pa_cons (pe_callTy call_tuple_of (by rfl) T.tuple (by decide +kernel) (pa_cons (pv 2) pa_nil)) pa_nil)))))))), ?_⟩
    obtain ⟨hne, hsm⟩ := lines_small t
    generalize hls : Txt.split t "\n" = ls at hne hsm hzs
    have hrd : readT t = readS ls := by rw [← hls]; rfl
    refine q_asgL (el_is (el_split (ev_var rfl) (by decide +kernel) hz) (by rw [hls])) fun L H1 hL e1 hLv => ?_
    refine q_parR (el_lst ea_nil (by show 0 ≤ 100000; decide)) (fun _ => ev_c) fun R H2 hR e2 hRv => ?_
    have hR0 : H R = none := fresh_back e1 hR
    have hLR : L ≠ R := fun q => by rw [q, hR] at hLv; cases hLv
    have key : ∀ i j, readL ls.dropLast 0 4 [] = .bad i j → ∀ d H2, Ex H H2 → H2 d = some (.xd [("word", .int (j : Int)), ("line", .int (i : Int))]) → E (.ref C_BadText) (some d) H2 := fun i j hb => kB i j (by rw [hrd]; unfold readS; rw [hb])
    refine q_forEnE (xs := ls.dropLast.map V.str) (el_cutLast (ev_var rfl) (sq_of (e2 _ _ hLv))) (fun p i σ' H' => ∃ (ro : Nat) (acc : Rows) (zs : List V) (a4 a5 a6 a7 : Option V), σ' = [some (.str t), some (.ref L), some (.ref R), some (.int (ro : Int)), a4, a5, a6, a7] ∧ Ex H H' ∧ H' L = some (.lst (ls.map V.str)) ∧ H' p = some (.lst (ls.dropLast.map V.str)) ∧ p ≠ R ∧
      H' R = some (.lst zs) ∧ RowsL K C_Feast H' zs acc ∧ readL (ls.dropLast.drop i) i ro acc = readL ls.dropLast 0 4 [] ∧ rowsBys acc + ro = 4 ∧ acc.length = i ∧ acc.length ≤ 3 ∧ (∀ r ∈ acc, r.1.fit = true ∧ r.1.parts ≤ 5)) (fun p H3 hp e3 hpv => ?_) (fun p i σ' H' ⟨_, _, _, _, _, _, _, _, _, _, h, _⟩ => h) ?_ ?_
    · refine ⟨4, [], [], _, _, _, _, rfl, e1.trans (e2.trans e3), (e2.trans e3) _ _ hLv, hpv, fun q => ?_, e3 _ _ hRv, trivial, rfl, rfl, rfl, by decide, fun _ h => by cases h⟩
      rw [q, hRv] at hp
      cases hp
    · rintro p i x σ' H' G hi ⟨ro, acc, zs, a4, a5, a6, a7, rfl, eH, hLv', hpv, hpR, hRv', hzl, hread, hby, hal, ha3, hfit⟩ eG
      obtain ⟨l, hl, rfl⟩ : ∃ l, ls.dropLast[i]? = some l ∧ x = .str l := by
        rw [List.getElem?_map] at hi
        cases e : ls.dropLast[i]? with
        | none => rw [e] at hi; cases hi
        | some l => rw [e] at hi; cases hi; exact ⟨l, rfl, rfl⟩
      have hlm : l ∈ ls := List.dropLast_subset _ (List.mem_of_getElem? hl)
      have hdr : ls.dropLast.drop i = l :: ls.dropLast.drop (i + 1) := by
        obtain ⟨hlt, he⟩ := List.getElem?_eq_some_iff.mp hl
        rw [← he]
        exact List.drop_eq_getElem_cons hlt
      rw [hdr, readL_cons] at hread
      refine q_asgR (er_line (ea_cons (ev_is (ev_op (ev_var rfl) ev_c rv_I0) (show V.int ((i : Int) + 1) = .int ((i + 1 : Nat) : Int) from rfl)) (ea_cons (ev_var rfl) (ea_cons (ev_var rfl) ea_nil))) (hzs l hlm)) fun q H3 hq e3 hl3 => ?_
      generalize hws : Txt.split l " " = ws at hread hl3
      have hwl : 0 < ws.length := by rw [← hws]; exact List.length_pos_iff.mpr (words_small l).1
      obtain ⟨dx3, W3, hq3, hW3⟩ := id hl3
      have bk : ∀ {a : Nat} {H'' : Hp}, Ex H3 H'' → readL ls.dropLast 0 4 [] = .bad (i + 1) (a + 1) → RefE C_BadText q ((i + 1 : Nat) : Int) a H'' E := fun {a H''} e hb d H4 e4 hd => key _ _ hb d H4 (eH.trans (eG.trans ((ExB.of e).trans e4 |>.old e3 hq))) hd
      refine q_asgX (opC_go (tMeth_go (ev_var rfl) hq3 lineF_no_take fun H4 e4 => tA_one ?_))
      have el : EvL (tIf (tTest (tOp (rI0 fun i j => V.bl (decide (i < j))) (tVar 4) (tC (V.int 3)))) (tCB (rListK dB [Str.ofString "plain", Str.ofString "yields"]) (tCons (tC (V.ref dB)) tNil)) (tLst tNil)) [some (.str t), some (.ref L), some (.ref R), some (.int (ro : Int)), some (.int (i : Int)), some (.str l), some (.ref q), a7] H4 ((if i < 3 then begins2 else []).map V.str) := by
        by_cases h3 : i < 3
        · rw [if_pos h3]
          exact el_ifT (et_is (et_cmp (ev_var rfl) ev_c rv_I0) (decide_eq_true (by omega))) el_listK
        · rw [if_neg h3]
          exact el_ifF (et_is (et_cmp (ev_var rfl) ev_c rv_I0) (decide_eq_false (by omega))) (el_lst ea_nil (by show 0 ≤ 100000; decide))
      refine el H4 (Ex.refl H4) _ fun Ww H5 hWw e5 hWv => ?_
      refine ⟨q, Ww, _, ws, 0, 0, 1, ro, _, rfl, hl3.mono (e4.trans e5), sq_of hWv, Nat.zero_le _, fun hn => bk (e4.trans e5) (by rw [← hread, hn]), fun z hz0 H6 eb6 hl6 => ?_⟩
      obtain ⟨_, hzm, _⟩ := takeW_lt hz0
      have hi3 : i < 3 := by
        by_cases h3 : i < 3
        · exact h3
        · rw [if_neg h3] at hzm; cases hzm
      rw [if_pos hi3] at hzm
      have hzc : z = "plain" ∨ z = "yields" := by
        simp only [begins2, List.mem_cons, List.not_mem_nil, or_false] at hzm
        exact hzm
      have hkd : KDct K w dB z (.bl (decide (z = "yields"))) := by
        rcases hzc with rfl | rfl
        · exact ⟨esB, nB, .bool false, kdBEGINS.at_, kdBEGINS.lit, nsP, by rw [decide_eq_false (by decide +kernel)]; rfl⟩
        · exact ⟨esB, nB, .bool true, kdBEGINS.at_, kdBEGINS.lit, nsY, by rw [decide_eq_true rfl]; rfl⟩
      refine ⟨dB, z, _, rfl, rfl, hkd, ?_⟩
      rw [hz0] at hread
      dsimp only at hread
      have hNG : G q = none := hq
      have E6 : Ex G H6 := (((ExB.of (p := q) ((e4.trans e5))).trans eb6).old e3 hq)
      have ebb6 : ExB q H3 H6 := (ExB.of (e4.trans e5)).trans eb6
      obtain ⟨dx6, W6, hq6, hW6⟩ := id hl6
      refine q_dropGo (app_go (ev_var rfl) ((eG.trans E6) _ _ hRv') fun H7 e7 => tTup_go (tA_x (mk_go (tMeth_go (ev_var rfl) (e7 _ _ hq6) lineF_no_whole_rule fun H8 e8 => tNil_go ?_))))
      refine ⟨q, _, ws, 1, 0, 1, ro, rfl, hl6.mono (e7.trans e8), by omega, by omega, by omega, hwl, fun i' hi' => (bk (Ex.refl H3) (by rw [← hread, hi'])).back (ebb6.step (e7.trans e8)), fun r a1 pa1 du1 ro1 hpr v H9 eb9 hl9 hrl => ?_⟩
      obtain ⟨s1, s2, s3, _⟩ := parse_sound 5 ws _ _ _ _ hpr
      obtain ⟨k1, k2, k3, _⟩ := parse_keep 5 ws _ _ _ _ hpr (by omega) (by omega) hwl
      rw [hpr] at hread
      dsimp only at hread
      have ebb9 : ExB q H3 H9 := (ebb6.step (e7.trans e8)).trans eb9
      refine mk_leaf hrl s1 (by omega) (by omega) fun pf H10 hpf e10 hF => tA_one ⟨_, rfl, ⟨by show 2 ≤ sizeLine; decide, fun tp htp => ?_⟩⟩
      have ebb10 := (ebb9.step (e10.trans (Ex.new (o := .tup [.ref pf, .bl (decide (z = "yields"))]) htp)))
      have hFt := hF.mono (Ex.new (o := .tup [.ref pf, .bl (decide (z = "yields"))]) htp)
      have hl10 := hl9.mono (e10.trans (Ex.new (o := .tup [.ref pf, .bl (decide (z = "yields"))]) htp))
      have htv : upd H10 tp (.tup [.ref pf, .bl (decide (z = "yields"))]) tp = some (.tup [.ref pf, .bl (decide (z = "yields"))]) := upd_same
      generalize upd H10 tp (.tup [.ref pf, .bl (decide (z = "yields"))]) = A at ebb10 hFt hl10 htv ⊢
      have EA : Ex G A := ebb10.old e3 hq
      have hRA := (eG.trans EA) _ _ hRv'
      have hzA := hzl.mono (eG.trans EA)
      have hzlen := hzl.len
      refine ⟨R, zs, _, rfl, rfl, hRA, Evl.sz_lt (by omega), ?_⟩
      have kn : KeepN A (upd A R (.lst (zs ++ [.ref tp]))) := (KeepN.refl _).lst hRA
      have hzB : RowsL K C_Feast (upd A R (.lst (zs ++ [.ref tp]))) (zs ++ [.ref tp]) (acc ++ [(r, decide (z = "yields"))]) := (hzA.snoc ⟨tp, pf, rfl, st_of htv, hFt⟩).kn kn
      obtain ⟨dxA, WA, hqA, hWA⟩ := hl10
      have hWR : WA ≠ R := fun e => by
        rw [e, hRA] at hWA
        exact rows_not hzl (HO.lst.inj (Option.some.inj hWA)) hwl
      have hqR : q ≠ R := fun e => by
        rw [e, hRA] at hqA
        cases hqA
      have hlB : LineAt K C_Line (upd A R (.lst (zs ++ [.ref tp]))) q ((i + 1 : Nat) : Int) ws a1 pa1 du1 ro1 := ⟨dxA, WA, by rw [upd_ne hqR]; exact hqA, by rw [upd_ne hWR]; exact hWA⟩
      have EB : Ex H (upd A R (.lst (zs ++ [.ref tp]))) := (eH.trans (eG.trans EA)).mut hR0
      have hRB : upd A R (.lst (zs ++ [.ref tp])) R = some (.lst (zs ++ [.ref tp])) := upd_same
      have hLB : upd A R (.lst (zs ++ [.ref tp])) L = some (.lst (ls.map V.str)) := by rw [upd_ne hLR]; exact (eG.trans EA) _ _ hLv'
      have hpB : upd A R (.lst (zs ++ [.ref tp])) p = some (.lst (ls.dropLast.map V.str)) := by rw [upd_ne hpR]; exact (eG.trans EA) _ _ hpv
      generalize upd A R (.lst (zs ++ [.ref tp])) = B at hzB hlB EB hRB hLB hpB ⊢
      obtain ⟨dxB, WB, hqB, hWB⟩ := id hlB
      refine q_dropGo (tMeth_go (ev_var rfl) hqB lineF_no_end fun H11 e11 => tNil_go ?_)
      refine ⟨q, _, ws, a1, pa1, du1, ro1, rfl, hlB.mono e11, fun hlt d H12 e12 hd => ?_, fun hge H12 e12 => ?_⟩
      · rw [if_pos hlt] at hread
        exact key _ _ hread.symm d H12 (((ExB.of e11).trans e12).old EB (fresh_back (eH.trans eG) hq)) hd
      · rw [if_neg (by omega)] at hread
        have E12 := e11.trans e12
        refine s_asg (ev_fld (ev_var rfl) (E12 _ _ hqB) CI.cl (CI.no _ (by simp)) lineF_room) fun H13 e13 => ?_
        have E13 := E12.trans e13
        refine ⟨ro1, acc ++ [(r, decide (z = "yields"))], zs ++ [.ref tp], _, _, _, _, rfl, EB.trans E13, E13 _ _ hLB, E13 _ _ hpB, hpR, E13 _ _ hRB, hzB.mono E13, hread, ?_, ?_, ?_, ?_⟩
        · unfold rowsBys at hby ⊢
          rw [List.map_append, List.sum_append, List.map_singleton, List.sum_singleton]
          show _ + r.bys + ro1 = 4
          omega
        · rw [List.length_append, List.length_singleton, hal]
        · rw [List.length_append, List.length_singleton, hal]
          omega
        · intro x hx
          rcases List.mem_append.mp hx with hx | hx
          · exact hfit x hx
          · rw [List.mem_singleton.mp hx]
            exact ⟨s1, by show r.parts ≤ 5; omega⟩
    · rintro p σ' H' ⟨ro, acc, zs, a4, a5, a6, a7, rfl, eH, hLv', hpv, hpR, hRv', hzl, hread, hby, hal, ha3, hfit⟩
      rw [List.length_map, List.drop_length] at hread
      have hread : RRes.ok acc = readL ls.dropLast 0 4 [] := hread
      obtain ⟨z, hz1, hz2⟩ := at_last hne
      by_cases hze : z = ""
      · refine q_not (et_is (et_cmp (ev_op (ev_var rfl) (ev_un ev_c ru_neg) (rv_ixL (sq_of hLv') hz2)) ev_c (rv_ne rfl)) (by rw [decide_eq_true (congrArg V.str hze)]; rfl)) fun H2 e2 => ?_
        have hzlen := hzl.len
        refine s_retR (er_calX (er_tupleV (S := fun ys H => RowsL K C_Feast H ys acc) (fun ys H1 H2 e h => RowsL.kn e h) (ev_var rfl) (sq_of (e2 _ _ hRv')) (hzl.mono e2)) ha3 (by omega)) fun pc H3 hpc e3 hC => ?_
        exact kG acc (by rw [hrd]; unfold readS; rw [← hread]; dsimp only; rw [if_pos (by rw [hz1, hze])]) pc H3 (fresh_back (eH.trans e2) hpc) (eH.trans (e2.trans e3)) hC
      · refine q_yes (et_is (et_cmp (ev_op (ev_var rfl) (ev_un ev_c ru_neg) (rv_ixL (sq_of hLv') hz2)) ev_c (rv_ne rfl)) (by rw [decide_eq_false (fun e => hze (V.str.inj e))]; rfl)) fun H2 e2 => ?_
        refine raise2 (ea_cons (ev_is (ev_lenL (ev_var rfl) (sq_of (e2 _ _ hLv'))) (by rw [List.length_map])) (ea_cons ev_c ea_nil)) fun d H3 e3 _ hd => ?_
        exact kB ls.length 1 (by rw [hrd]; unfold readS; rw [← hread]; dsimp only; rw [if_neg (by rw [hz1]; exact fun e => hze (Option.some.inj e))]) d H3 (eH.trans (e2.trans e3)) hd
end
end WF

set_option Elab.async false
set_option linter.all false
set_option maxRecDepth 100000
set_option maxHeartbeats 2000000
/-! Calendar's == -/
namespace WF
open PySem L2 Evl
theorem kit_no {K : PySem.W.Frag} {C : Addr} {t : String} (h1 : PySem.W.isClsIn K C = true) (h2 : PySem.W.typeIn K (.ref C) = some (.type "type")) (h3 : PySem.W.subIn K (.type t) (.ref C) = some false) : PySem.W.kitOne K (.type t) (.ref C) = some false := by
  unfold PySem.W.kitOne
  rw [if_neg (fun q => by cases beq_iff_eq.mp q)]
  unfold PySem.W.kitCls
  have h : (PySem.W.clsIn K C).isSome = true := h1
  simp only [h, h2, h3]
  rfl
section
variable {K : PySem.W.Frag} {σ : L2.St} {H : Hp} {ta tb te tl : TE} {tA : TA} {D : Ends} {tz : TS}
def spFEq (K : PySem.W.Frag) (CF : Addr) : Sp := fun vs H Q _ => ∃ (a b : Addr) (r : Rl), vs = [.ref a, .ref b] ∧ FeastAt K CF H a r ∧
  ((∃ s, FeastAt K CF H b s ∧ r.dep ≤ 50 ∧ s.dep ≤ 50 ∧ RetV (.bl (PyData.eqv (dRl r) (dRl s))) H Q) ∨ (∃ ys, SqT K H b ys ∧ RetV (.bl false) H Q))
theorem rcB_fst {X : Cx} {CX : CXT} {E : XK} {CF : Addr} (M : Mtn X.prog X.w X.K X.mg X.base CX CF "__eq__" 2 ["self", "other"] (spFEq X.K CF)) (hx : Passes CX X E) : RcBG X 2 (DFst X.K CF) :=
  rcBG_ins M hx fun p q b H Q ⟨r, t, h1, h2, d1, d2, hb⟩ k => ⟨p, q, r, rfl, h1, .inl ⟨t, h2, d1, d2, fun H' e => hb ▸ k H' e⟩⟩
def spCEq (K : PySem.W.Frag) (CF CC : Addr) : Sp := fun vs H Q _ => ∃ (a b : Addr) (rows : Rows), vs = [.ref a, .ref b] ∧ CalAt K CF CC H (.ref a) rows ∧
  ((∃ ss, CalAt K CF CC H (.ref b) ss ∧ (∀ r ∈ rows, r.1.dep ≤ 50) ∧ (∀ r ∈ ss, r.1.dep ≤ 50) ∧ RetV (.bl (eqRows rows ss)) H Q) ∨ (∃ ys, SqT K H b ys ∧ RetV (.bl false) H Q))
theorem ev_ceqR {CF CC : Addr} {E : XK} {a : Addr} {rows ss : Rows} (h1 : Ev ta σ H (.ref a)) (ha : CalAt K CF CC H (.ref a) rows) (h2 : EvR tb σ H fun p H2 => CalAt K CF CC H2 (.ref p) ss) (d1 : ∀ r ∈ rows, r.1.dep ≤ 50) (d2 : ∀ r ∈ ss, r.1.dep ≤ 50) : Ev (tOp (rEqO K CC (spCEq K CF CC) E) ta tb) σ H (.bl (eqRows rows ss)) := fun H1 e Q q =>
  h1 H1 e _ fun H2 e2 => h2 H2 (e.trans e2) _ fun p H3 hp e3 hF => by
    have hA := ha.mono ((e.trans e2).trans e3)
    obtain ⟨a', dx, v, ea, ho, hv⟩ := id hA
    cases ea
    obtain ⟨p', dy, u, ep, ho2, hu⟩ := id hF
    cases ep
    exact ⟨a, p, dx, _, rfl, rfl, ho, .inl ⟨dy, _, ho2⟩, a, p, rows, rfl, hA, .inl ⟨ss, hF, d1, d2, fun H4 e4 => ⟨_, rfl, q H4 ((e2.trans e3).trans e4)⟩⟩⟩
/-- a calendar made of raw rows -/
theorem er_made {CF CC : Addr} {E : XK} {R : Addr} {ys : List V} {rows : Rows} (h : EvA tA σ H [.ref R]) (hR : SqL K H R ys) (hraw : RawL K H ys rows) (hl : rows.length ≤ 3) (hok : RowsOk 5 rows) : EvR (tCall (spMade K CF CC) [] E tA) σ H fun p H2 => CalAt K CF CC H2 (.ref p) rows := fun H1 e Q q =>
  h H1 e _ fun H2 e2 => ⟨R, ys, rows, rfl, ex_l (e.trans e2) hR, hraw.kn (KeepN.of (e.trans e2)), hl, hok, fun p H3 hp e3 hc => q p H3 (fresh_back e2 hp) (e2.trans e3) hc⟩
end
section
variable {P : Program} {w : World} {K : PySem.W.Frag} {mg : Str → Option Value} {base : Heap} {C_BadRule C_BadRules C_BadLand C_BadDay C_BadNumber C_BadSeen C_BadText C_Feast C_Calendar C_Line C_Walk : Addr} {f : Addr} {fd : FuncData}
theorem mt_eq (T : Txt P w K mg C_BadRule C_BadRules C_BadLand C_BadDay C_BadNumber C_BadSeen C_BadText C_Feast C_Calendar C_Line C_Walk) (CF : Cls1 K C_Feast ["told", "bys"]) (IF : ClsI K C_Feast) (hk : PySem.W.kitOne K (.type "tuple") (.ref C_Feast) = some false) : Mtn P w K mg base CX0 C_Feast "__eq__" 2 ["self", "other"] (spFEq K C_Feast) := T.m_Feast_eq.mtn fun g fd F => by
  refine F.ok sc_Feast_eq (fun vs H Q E h => ?_) (fun cdv A outer s H vs Q E hr h => ?_)
  · obtain ⟨_, _, _, rfl, _⟩ := h
    rfl
  · obtain ⟨a, b, r, rfl, ⟨dx, v, ho, hv⟩, h⟩ := h
    have hr1 : Room 1 _ := hr
    refine ⟨_, (pss_one (ps_ret (pe_and (pe_callB call_isi (by rfl) T.isinstance (by decide +kernel) (pa_cons (pv 1) (pa_cons (pe_glob (v := .ref C_Feast) rfl T.c_Feast rfl) pa_nil))) (pe_one (pe_cmpR (op_eqD hr1.units) (pe_fld (pv 0) rfl) (pe_fld (pv 1) rfl) (nomark _)))))), ?_⟩
    rcases h with ⟨s, ⟨dy, u, ho2, hu⟩, d1, d2, k⟩ | ⟨ys, hT, k⟩
    · exact s_ret (ev_is (ev_andV (ev_isiC (ev_var rfl) (IF.ty ho2) kit_self) fun _ => ev_eqRl (ev_fld (ev_var rfl) ho CF.cl (CF.no _ (by simp)) rfl) (ev_fld (ev_var rfl) ho2 CF.cl (CF.no _ (by simp)) rfl) hv hu d1 d2) rfl) k
    · exact s_ret (ev_and0 (ev_isiC (ev_var rfl) (ty_tup hT) hk)) k
theorem mt_ceq (T : Txt P w K mg C_BadRule C_BadRules C_BadLand C_BadDay C_BadNumber C_BadSeen C_BadText C_Feast C_Calendar C_Line C_Walk) (CF : Cls1 K C_Feast ["told", "bys"]) (IF : ClsI K C_Feast) (hkF : PySem.W.kitOne K (.type "tuple") (.ref C_Feast) = some false) (CC : Cls1 K C_Calendar ["rows", "near"]) (IC : ClsI K C_Calendar) (hk : PySem.W.kitOne K (.type "tuple") (.ref C_Calendar) = some false) : Mtn P w K mg base CX0 C_Calendar "__eq__" 5 ["self", "other"] (spCEq K C_Feast C_Calendar) := T.m_Calendar_eq.mtn fun g fd F => by
  have N_Feast_eq : Mtn P w K mg base CX0 C_Feast "__eq__" 2 ["self", "other"] (spFEq K C_Feast) := mt_eq T CF IF hkF
  refine F.ok sc_Calendar_eq (fun vs H Q E h => ?_) (fun cdv A outer s H vs Q E hr h => ?_)
  · obtain ⟨_, _, _, rfl, _⟩ := h
    rfl
  · obtain ⟨a, b, rows, rfl, ⟨a', dx, v, ea, ho, hv⟩, h⟩ := h
    cases ea
    refine ⟨_, (pss_one (ps_ret (pe_and (pe_callB call_isi (by rfl) T.isinstance (by decide +kernel) (pa_cons (pv 1) (pa_cons (pe_glob (v := .ref C_Calendar) rfl T.c_Calendar rfl) pa_nil))) (pe_one (pe_cmpR (op_eqB (rcB_rows (rcB_fst N_Feast_eq pass0)) (hr.mono (by omega))) (pe_fld (pv 0) rfl) (pe_fld (pv 1) rfl) (nomark _)))))), ?_⟩
    rcases h with ⟨ss, ⟨b', dy, u, eb, ho2, hu⟩, d1, d2, k⟩ | ⟨ys, hT, k⟩
    · cases eb
      exact s_ret (ev_is (ev_andV (ev_isiC (ev_var rfl) (IC.ty ho2) kit_self) fun _ => ev_op (ev_fld (ev_var rfl) ho CC.cl (CC.no _ (by simp)) (calF_rows _ _)) (ev_fld (ev_var rfl) ho2 CC.cl (CC.no _ (by simp)) (calF_rows _ _)) (rv_eqB monB_rows (rows_eqB hv hu d1 d2))) rfl) k
    · exact s_ret (ev_and0 (ev_isiC (ev_var rfl) (ty_tup hT) hk)) k
theorem dn_read (T : Txt P w K mg C_BadRule C_BadRules C_BadLand C_BadDay C_BadNumber C_BadSeen C_BadText C_Feast C_Calendar C_Line C_Walk) (CF : Cls1 K C_Feast ["told", "bys"]) (IF : ClsI K C_Feast) (CC : Cls1 K C_Calendar ["rows", "near"]) (CI : Cls1 K C_Line lineFs) : Dn P w K mg base (L2.CX P w) "read" 14 ["text"] (spRead K C_Feast C_Calendar C_BadText) := T.f_read.dn fun _ _ F _ _ => ok_read F T CF IF CC CI
end
end WF

set_option Elab.async false
set_option linter.all false
set_option maxRecDepth 100000
set_option maxHeartbeats 1000000
/-! the properties that the law reads -/
namespace WF
open PySem L2 Evl
section
variable {P : Program} {w : World} {K : PySem.W.Frag} {mg : Str → Option Value} {base : Heap} {C_BadRule C_BadRules C_BadLand C_BadDay C_BadNumber C_BadSeen C_BadText C_Feast C_Calendar C_Line C_Walk : Addr} {f : Addr} {fd : FuncData}
def spPReach (K : PySem.W.Frag) (CF CC : Addr) : Sp := fun vs H Q _ => ∃ c rows, vs = [c] ∧ CalAt K CF CC H c rows ∧ RetV (.int ((reachOf rows : Nat) : Int)) H Q
theorem pr_reach (T : Txt P w K mg C_BadRule C_BadRules C_BadLand C_BadDay C_BadNumber C_BadSeen C_BadText C_Feast C_Calendar C_Line C_Walk) (CC : Cls1 K C_Calendar ["rows", "near"]) : Prn P w K mg base C_Calendar "reach" 1 (spPReach K C_Feast C_Calendar) := T.p_Calendar_reach.prn fun g fd F => by
  refine F.ok sc_Calendar_reach (fun vs H Q E h => ?_) (fun cdv A outer s H vs Q E hr h => ?_)
  · obtain ⟨_, _, rfl, _⟩ := h
    rfl
  · obtain ⟨c, rows, rfl, ⟨a, dx, rv, rfl, ho, hrv⟩, k⟩ := h
    refine ⟨_, (pss_one (ps_ret (pe_fld (pv 0) rfl))), ?_⟩
    exact s_ret (ev_fld (ev_var rfl) ho CC.cl (CC.no _ (by simp)) (calF_near _ _)) k
theorem ev_reach {CF CC : Addr} {σ : L2.St} {H : Hp} {ta : TE} {E : XK} {c : V} {rows : Rows} (h : Ev ta σ H c) (hc : CalAt K CF CC H c rows) : Ev (tProp CC (spPReach K CF CC) [] E ta) σ H (.int ((reachOf rows : Nat) : Int)) := by
  obtain ⟨a, dx, rv, rfl, ho, hrv⟩ := id hc
  exact ev_prp h ho fun H1 e1 Q E q => ⟨_, rows, rfl, hc.mono e1, q⟩
end
end WF

set_option Elab.async false
set_option linter.all false
set_option maxRecDepth 100000
set_option maxHeartbeats 1000000
/-! what is known of calendars written down -/
namespace WF
open PySem L2 Evl
theorem kn_not5 : (List.range 6).filter (fun i => !calDay 2 3 kBoth ((i : Nat) : Int)) = [5] := by decide +kernel
theorem kn_last24 : (List.range 24).filter (fun i => calDay 3 4 kLast ((i : Nat) : Int)) = [11, 23] := by decide +kernel
theorem kn_count : (daysN (3 * 5) (calDay ((3 : Nat) : Int) ((5 : Nat) : Int) kFirst)).length = 3 := by decide +kernel
theorem kn_nth : nthV 2 3 (daysN (2 * 3) (calDay ((2 : Nat) : Int) ((3 : Nat) : Int) kFirst)) (10 ^ 30) = .int (3 * 10 ^ 30) := by decide +kernel
theorem kn_nth0 : nthV 2 3 (daysN (2 * 3) (calDay ((2 : Nat) : Int) ((3 : Nat) : Int) [])) 0 = .non := by decide +kernel
theorem kn_bet1 : betweenN (2 * 3) (daysN (2 * 3) (calDay ((2 : Nat) : Int) ((3 : Nat) : Int) kBoth)) 0 5 = 5 := by decide +kernel
theorem kn_bet2 : betweenN (2 * 3) (daysN (2 * 3) (calDay ((2 : Nat) : Int) ((3 : Nat) : Int) kFirst)) (-6) 5 = 4 := by decide +kernel
theorem kn_meet1 : meetO kOne kLastw true (enoughL 3) = some (2, 3) := by decide +kernel
theorem kn_meet2 : meetO kOne kLastw false (enoughL 3) = some (3, 4) := by decide +kernel
theorem kn_meet3 : meetO kStart kMon true (enoughL 3) = some (2, 3) := by decide +kernel
theorem kn_meet4 : meetO kStart kMon false (enoughL 3) = none := by decide +kernel
theorem kn_meet5 : meetO kOne kStart true (enoughL 3) = none := by decide +kernel
theorem kn_meet6 : meetO kOne kStart false (enoughL 3) = some (2, 3) := by decide +kernel
theorem kn_part3 : unlikeO kTwo kMon (enoughL 3) = some ((2, 5), 2) := by decide +kernel
theorem kn_part4 : unlikeO kLastw kOne (enoughL 3) = some ((3, 4), 1) := by decide +kernel
/-! forms -/
theorem form_of {rows : Rows} {a b c : Int} {w m n1 n2 n3 : Nat} (h : FormOk rows a b c) (h1 : 2 * reachOf rows + 1 ≤ w) (h2 : w + 1 + (2 * reachOf rows + 1) ≤ m) (g1 : Nat.gcd m w = 1) (g2 : Nat.gcd (m + 1) w = 1) (g3 : Nat.gcd m (w + 1) = 1)
    (e1 : lenN rows w m = n1) (e2 : lenN rows w (m + 1) = n2) (e3 : lenN rows (w + 1) m = n3) : a = (n2 : Int) - n1 ∧ b = (n3 : Int) - n1 ∧ c = n1 - a * m - b * w := by
  have k1 := h w m h1 (by omega) g1
  have k2 := h w (m + 1) h1 (by omega) g2
  have k3 := h (w + 1) m (by omega) (by omega) g3
  rw [e1] at k1
  rw [e2, Int.natCast_add, Int.mul_add] at k2
  rw [e3, Int.natCast_add, Int.mul_add] at k3
  refine ⟨by omega, by omega, by omega⟩
def kSM : Rows := [(.wk 0, false), (.md 0, false)]
def kSF : Rows := [(.wo (.wk 0) (.fs 0), false)]
def kSF2 : Rows := [(.wk 0, false), (.fs 0, false)]
def kSFT : Rows := [(.wk 0, false), (.fs 0, true)]
def kSaM : Rows := [(.bo (.wk 0) (.md 0), false)]
theorem kn_form1 {a b c : Int} (h : FormOk kSM a b c) : a = 1 ∧ b = 1 ∧ c = -1 := by
  obtain ⟨h1, h2, h3⟩ := form_of (w := 7) (m := 15) h (by decide +kernel) (by decide +kernel) (by decide +kernel) (by decide +kernel) (by decide +kernel) (by decide +kernel : lenN kSM 7 15 = 21) (by decide +kernel : lenN kSM 7 16 = 22) (by decide +kernel : lenN kSM 8 15 = 22)
  exact ⟨by omega, by omega, by rw [h3, h1, h2]; decide⟩
theorem kn_form2 {a b c : Int} (h : FormOk kBoth a b c) : a = 1 ∧ b = 1 ∧ c = 0 := by
  obtain ⟨h1, h2, h3⟩ := form_of (w := 9) (m := 19) h (by decide +kernel) (by decide +kernel) (by decide +kernel) (by decide +kernel) (by decide +kernel) (by decide +kernel : lenN kBoth 9 19 = 28) (by decide +kernel : lenN kBoth 9 20 = 29) (by decide +kernel : lenN kBoth 10 19 = 29)
  exact ⟨by omega, by omega, by rw [h3, h1, h2]; decide⟩
theorem kn_form3 {a b c : Int} (h : FormOk kSF a b c) : a = 1 ∧ b = -1 ∧ c = 0 := by
  obtain ⟨h1, h2, h3⟩ := form_of (w := 7) (m := 15) h (by decide +kernel) (by decide +kernel) (by decide +kernel) (by decide +kernel) (by decide +kernel) (by decide +kernel : lenN kSF 7 15 = 8) (by decide +kernel : lenN kSF 7 16 = 9) (by decide +kernel : lenN kSF 8 15 = 7)
  exact ⟨by omega, by omega, by rw [h3, h1, h2]; decide⟩
theorem kn_form4 {a b c : Int} (h : FormOk [] a b c) : a = 0 ∧ b = 0 ∧ c = 0 := by
  obtain ⟨h1, h2, h3⟩ := form_of (w := 7) (m := 15) h (by decide +kernel) (by decide +kernel) (by decide +kernel) (by decide +kernel) (by decide +kernel) (by decide +kernel : lenN [] 7 15 = 0) (by decide +kernel : lenN [] 7 16 = 0) (by decide +kernel : lenN [] 8 15 = 0)
  exact ⟨by omega, by omega, by rw [h3, h1, h2]; decide⟩
theorem kn_form5 {a b c : Int} (h : FormOk kSaM a b c) : a = 0 ∧ b = 0 ∧ c = 1 := by
  obtain ⟨h1, h2, h3⟩ := form_of (w := 7) (m := 15) h (by decide +kernel) (by decide +kernel) (by decide +kernel) (by decide +kernel) (by decide +kernel) (by decide +kernel : lenN kSaM 7 15 = 1) (by decide +kernel : lenN kSaM 7 16 = 1) (by decide +kernel : lenN kSaM 8 15 = 1)
  exact ⟨by omega, by omega, by rw [h3, h1, h2]; decide⟩
theorem kn_need1 : needL kSF2 (reachOf kSF2) kSF2.length = [1] := by decide +kernel
theorem kn_need2 : needL kSFT (reachOf kSFT) kSFT.length = [] := by decide +kernel
theorem kn_swap1 : swapL kSF2 (reachOf kSF2) (kSF2.length - 1) = [0] := by decide +kernel
theorem kn_swap2 : swapL kBoth (reachOf kBoth) (kBoth.length - 1) = [] := by decide +kernel
/-! what was seen; a walk -/
theorem kn_fit1 : fitL kStart [(2, false), (3, true)] 5 = [(3, 4), (3, 5)] := by decide +kernel
theorem kn_fit2 : fitL kStart [] 4 = [(2, 3), (3, 4)] := by decide +kernel
theorem kn_ask1 : askV (askO kStart (fitL kStart [(1, false)] 5)) = .int 2 := by decide +kernel
theorem kn_ask2 : askV (askO kStart (fitL kStart [(3, true)] 5)) = .non := by decide +kernel
end WF

set_option Elab.async false
set_option linter.all false
set_option maxRecDepth 100000
set_option maxHeartbeats 1000000
/-! steps of the known values -/
namespace WF
open PySem L2 Evl
section
variable {K : PySem.W.Frag} {H H' : Hp}
mutual
theorem Dp.mono (e : Ex H H') : ∀ {v : V} {d : PyData}, Dp K H v d → Dp K H' v d
  | _, _, .non => .non
  | _, _, .bl b => .bl b
  | _, _, .int i => .int i
  | _, _, .str x => .str x
  | _, _, .lst h hs => .lst (ex_l e h) (DpAll.mono e hs)
  | _, _, .tup h hs => .tup (ex_t e h) (DpAll.mono e hs)
theorem DpAll.mono (e : Ex H H') : ∀ {vs : List V} {ds : List PyData}, DpAll K H vs ds → DpAll K H' vs ds
  | _, _, .nil => .nil
  | _, _, .cons h hs => .cons (Dp.mono e h) (DpAll.mono e hs)
end
theorem DpAll.len : ∀ {vs : List V} {ds : List PyData}, DpAll K H vs ds → vs.length = ds.length
  | _, _, .nil => rfl
  | _, _, .cons _ hs => congrArg (· + 1) (DpAll.len hs)
end
/-- te gives the datum d -/
def EvD (K : PySem.W.Frag) (te : TE) (σ : L2.St) (H : Hp) (d : PyData) : Prop := EvX te σ H fun v H2 => Dp K H2 v d
def EDA (K : PySem.W.Frag) (tA : TA) (σ : L2.St) (H : Hp) (ds : List PyData) : Prop := ∀ H1, Ex H H1 → ∀ Q : List V → Hp → Prop, (∀ vs H2, Ex H1 H2 → DpAll K H2 vs ds → Q vs H2) → tA σ H1 Q
section
variable {K : PySem.W.Frag} {σ : L2.St} {H H' : Hp} {ta tb tc te tl tu : TE} {tA : TA} {D : Ends} {tz : TS} {d d2 : PyData} {ds : List PyData}
theorem ed_ev {v : V} (h : Ev te σ H v) (hd : ∀ H1 : Hp, Dp K H1 v d) : EvD K te σ H d := fun H1 e Q q => h H1 e _ fun H2 e2 => q v H2 e2 (hd H2)
theorem ed_int {i : Int} (h : Ev te σ H (.int i)) : EvD K te σ H (.int i) := ed_ev h fun _ => .int i
theorem ed_bl {b : Bool} (h : Ev te σ H (.bl b)) : EvD K te σ H (.bool b) := ed_ev h fun _ => .bl b
theorem ed_non (h : Ev te σ H .non) : EvD K te σ H .none := ed_ev h fun _ => .non
theorem eda_nil : EDA K tNil σ H [] := fun H1 e Q q => q [] H1 (Ex.refl H1) .nil
theorem eda_cons (h : EvD K te σ H d) (ht : EDA K tA σ H ds) : EDA K (tCons te tA) σ H (d :: ds) := fun H1 e Q q => h H1 e _ fun v H2 e2 hv => ht H2 (e.trans e2) _ fun vs H3 e3 hvs => q (v :: vs) H3 (e2.trans e3) (.cons (Dp.mono e3 hv) hvs)
theorem ed_tup (h : EDA K tA σ H ds) (hl : ds.length ≤ 100000) : EvD K (tTup tA) σ H (.tuple ds) := fun H1 e Q q => h H1 e _ fun vs H2 e2 hvs => ⟨Evl.sz_of (by rw [DpAll.len hvs]; exact hl), fun p hp => q _ _ (e2.trans (Ex.new hp)) (.tup (st_of upd_same) (DpAll.mono (Ex.new hp) hvs))⟩
theorem ed_lst (h : EDA K tA σ H ds) (hl : ds.length ≤ 100000) : EvD K (tLst tA) σ H (.list ds) := fun H1 e Q q => h H1 e _ fun vs H2 e2 hvs => ⟨Evl.sz_of (by rw [DpAll.len hvs]; exact hl), fun p hp => q _ _ (e2.trans (Ex.new hp)) (.lst (sq_of upd_same) (DpAll.mono (Ex.new hp) hvs))⟩
theorem ed_ints {ns : List Int} (h : EvL te σ H (ns.map V.int)) : EvD K te σ H (.list (ns.map PyData.int)) := fun H1 e Q q => h H1 e _ fun p H2 hp e2 h2 => q _ H2 e2 (.lst (sq_of h2) (dp_ints ns))
theorem ev_neDD (h1 : EvD K ta σ H d) (h2 : EvD K tb σ H d2) (s1 : SeqAt.shaped d = true) (s2 : SeqAt.shaped d2 = true) : Ev (tOp (rNeD K) ta tb) σ H (.bl (!PyData.eqv d d2)) := fun H1 e Q q => h1 H1 e _ fun u H2 e2 hu => h2 H2 (e.trans e2) _ fun v H3 e3 hv => ⟨d, d2, Dp.mono e3 hu, hv, s1, s2, q H3 (e2.trans e3)⟩
theorem ev_eqDD (h1 : EvD K ta σ H d) (h2 : EvD K tb σ H d2) (s1 : SeqAt.shaped d = true) (s2 : SeqAt.shaped d2 = true) : Ev (tOp (rEqD K) ta tb) σ H (.bl (PyData.eqv d d2)) := fun H1 e Q q => h1 H1 e _ fun u H2 e2 hu => h2 H2 (e.trans e2) _ fun v H3 e3 hv => ⟨d, d2, Dp.mono e3 hu, hv, s1, s2, q H3 (e2.trans e3)⟩
/-! rules, feasts, rows written down -/
def EvRl (K : PySem.W.Frag) (te : TE) (σ : L2.St) (H : Hp) (r : Rl) : Prop := EvX te σ H fun v H2 => RlAt K H2 v r
theorem er_wk {k : Int} (h : Ev te σ H (.int k)) : EvRl K (tTup (tCons (tC (.str "weekday")) (tCons te tNil))) σ H (.wk k) := fun H1 e Q q => eu_tup (vs := [.str "weekday", .int k]) (ea_cons ev_c (ea_cons h ea_nil)) (by show 2 ≤ 100000; decide) H1 e _ fun p H2 _ e2 h2 => q _ H2 e2 (.wk (st_of h2))
theorem er_fs {k : Int} (h : Ev te σ H (.int k)) : EvRl K (tTup (tCons (tC (.str "first")) (tCons te tNil))) σ H (.fs k) := fun H1 e Q q => eu_tup (vs := [.str "first", .int k]) (ea_cons ev_c (ea_cons h ea_nil)) (by show 2 ≤ 100000; decide) H1 e _ fun p H2 _ e2 h2 => q _ H2 e2 (.fs (st_of h2))
theorem er_md {k : Int} (h : Ev te σ H (.int k)) : EvRl K (tTup (tCons (tC (.str "monthday")) (tCons te tNil))) σ H (.md k) := fun H1 e Q q => eu_tup (vs := [.str "monthday", .int k]) (ea_cons ev_c (ea_cons h ea_nil)) (by show 2 ≤ 100000; decide) H1 e _ fun p H2 _ e2 h2 => q _ H2 e2 (.md (st_of h2))
theorem er_bo {x y : Rl} (h1 : EvRl K ta σ H x) (h2 : EvRl K tb σ H y) : EvRl K (tTup (tCons (tC (.str "both")) (tCons ta (tCons tb tNil)))) σ H (.bo x y) := fun H1 e Q q => h1 H1 e _ fun u H2 e2 hu => h2 H2 (e.trans e2) _ fun v H3 e3 hv =>
  ⟨by show 3 ≤ sizeLine; decide, fun p hp => q _ _ ((e2.trans e3).trans (Ex.new hp)) (.bo (st_of upd_same) (hu.mono (e3.trans (Ex.new hp))) (hv.mono (Ex.new hp)))⟩
theorem er_bh {x : Rl} {b : Int} (h1 : EvRl K ta σ H x) (h2 : ∀ H1, Ev tb σ H1 (.int b)) : EvRl K (tTup (tCons (tC (.str "behind")) (tCons ta (tCons tb tNil)))) σ H (.bh x b) := fun H1 e Q q => h1 H1 e _ fun u H2 e2 hu => h2 H2 H2 (Ex.refl H2) _ fun H3 e3 =>
  ⟨by show 3 ≤ sizeLine; decide, fun p hp => q _ _ ((e2.trans e3).trans (Ex.new hp)) (.bh (st_of upd_same) (hu.mono (e3.trans (Ex.new hp))))⟩
theorem er_feastX {CF CR : Addr} {E : XK} {r : Rl} (h : EvRl K tu σ H r) (hf : r.fit = true) (hp : r.parts ≤ 5) (hb : r.bys ≤ 4) : EvR (tMake CF (spFeast K CF CR) [] E (tCons tu tNil)) σ H fun p H2 => FeastAt K CF H2 p r := fun H1 e Q q =>
  h H1 e _ fun v H2 e2 hr => er_feast (K := K) (CF := CF) (CR := CR) (σ := σ) (H := H2) (v := v) (r := r) (ta := fun _ H Q => Q [v] H) (E := E) (fun H3 _ Q q => q H3 (Ex.refl H3)) hr hf hp hb H2 (Ex.refl H2) Q fun p H3 hp e3 hc => q p H3 (fresh_back e2 hp) (e2.trans e3) hc
def EvF (K : PySem.W.Frag) (CF : Addr) (te : TE) (σ : L2.St) (H : Hp) (r : Rl) : Prop := EvX te σ H fun v H2 => ∃ p, v = .ref p ∧ FeastAt K CF H2 p r
theorem ef_of {CF : Addr} {r : Rl} (h : EvR te σ H fun p H2 => FeastAt K CF H2 p r) : EvF K CF te σ H r := fun H1 e Q q => h H1 e _ fun p H2 _ e2 hF => q _ H2 e2 ⟨p, rfl, hF⟩
theorem ef_var {CF p : Addr} {r : Rl} (h : Ev te σ H (.ref p)) (hF : FeastAt K CF H p r) : EvF K CF te σ H r := fun H1 e Q q => h H1 e _ fun H2 e2 => q _ H2 e2 ⟨p, rfl, hF.mono (e.trans e2)⟩
def EvRow (K : PySem.W.Frag) (CF : Addr) (te : TE) (σ : L2.St) (H : Hp) (r : Rl × Bool) : Prop := EvX te σ H fun v H2 => RowAt K CF H2 v r
theorem ew_row {CF : Addr} {r : Rl} {b : Bool} (h : EvF K CF te σ H r) : EvRow K CF (tTup (tCons te (tCons (tC (.bl b)) tNil))) σ H (r, b) := fun H1 e Q q => h H1 e _ fun v H2 e2 ⟨p, hv, hF⟩ => by
  subst hv
  exact ⟨by show 2 ≤ sizeLine; decide, fun t ht => q _ _ (e2.trans (Ex.new ht)) ⟨t, p, rfl, st_of upd_same, hF.mono (Ex.new ht)⟩⟩
def EvRows (K : PySem.W.Frag) (CF : Addr) (tA : TA) (σ : L2.St) (H : Hp) (rows : Rows) : Prop := ∀ H1, Ex H H1 → ∀ Q : List V → Hp → Prop, (∀ vs H2, Ex H1 H2 → RowsL K CF H2 vs rows → Q vs H2) → tA σ H1 Q
theorem ews_nil {CF : Addr} : EvRows K CF tNil σ H [] := fun H1 e Q q => q [] H1 (Ex.refl H1) trivial
theorem ews_cons {CF : Addr} {r : Rl × Bool} {rows : Rows} (h : EvRow K CF te σ H r) (ht : EvRows K CF tA σ H rows) : EvRows K CF (tCons te tA) σ H (r :: rows) := fun H1 e Q q => h H1 e _ fun v H2 e2 hv => ht H2 (e.trans e2) _ fun vs H3 e3 hvs => q (v :: vs) H3 (e2.trans e3) ⟨hv.mono e3, hvs⟩
def EvC (K : PySem.W.Frag) (CF CC : Addr) (te : TE) (σ : L2.St) (H : Hp) (rows : Rows) : Prop := EvR te σ H fun p H2 => CalAt K CF CC H2 (.ref p) rows
theorem ec_rows {CF CC : Addr} {E : XK} {rows : Rows} (h : EvRows K CF tA σ H rows) (hl : rows.length ≤ 3) (hb : rowsBys rows ≤ 4) : EvC K CF CC (tMake CC (spCal K CF CC) [] E (tCons (tTup tA) tNil)) σ H rows :=
  er_calX (fun H1 e Q q => h H1 e _ fun vs H2 e2 hvs => ⟨Evl.sz_of (by rw [hvs.len]; omega), fun p hp => q p _ (fresh_back e2 hp) (e2.trans (Ex.new hp)) ⟨vs, upd_same, hvs.mono (Ex.new hp)⟩⟩) hl hb
def EvCX (K : PySem.W.Frag) (CF CC : Addr) (te : TE) (σ : L2.St) (H : Hp) (rows : Rows) : Prop := EvX te σ H fun v H2 => CalAt K CF CC H2 v rows
theorem ex_c {CF CC : Addr} {rows : Rows} (h : EvC K CF CC te σ H rows) : EvCX K CF CC te σ H rows := fun H1 e Q q => h H1 e _ fun p H2 _ e2 hC => q _ H2 e2 hC
theorem ex_cv {CF CC : Addr} {c : V} {rows : Rows} (h : Ev te σ H c) (hC : CalAt K CF CC H c rows) : EvCX K CF CC te σ H rows := fun H1 e Q q => h H1 e _ fun H2 e2 => q _ H2 e2 (hC.mono (e.trans e2))
/-- a land written down -/
theorem need_good {w m : Nat} {l : Addr} (h : SqT K H l [.int (w : Int), .int (m : Int)]) (o : LandOk w m) (c : Nat.gcd m w = 1) (z : w * m ≤ 4000) : NeedL K H (.ref l) (some (w, m)) := .good h o c z
end
end WF

set_option Elab.async false
set_option linter.all false
set_option maxRecDepth 100000
set_option maxHeartbeats 1000000
/-! what the known calls answer -/
namespace WF
open PySem L2 Evl
section
variable {K : PySem.W.Frag} {σ : L2.St} {H : Hp} {ta tb tc td te tu : TE} {tA : TA} {D : Ends} {tz : TS} {CF CC CW CL CD CN CS CT CR : Addr} {E : XK} {rows ss : Rows} {w m : Nat}
theorem tA_hd {Q : List V → Hp → Prop} (h : te σ H fun x H1 => tA σ H1 fun xs H2 => Q (x :: xs) H2) : tCons te tA σ H Q := h
theorem tA_lst {Q : List V → Hp → Prop} (h : te σ H fun x H1 => Q [x] H1) : tCons te tNil σ H Q := h
theorem q_parX {i j : Nat} (h : tA σ H fun xs H1 => ∃ x y, xs = [x, y] ∧ tz D ((σ.set i (some x)).set j (some y)) H1) : tSeq (tPar i j tA) tz D σ H := h
def EvN (K : PySem.W.Frag) (te : TE) (σ : L2.St) (H : Hp) (w m : Nat) : Prop := EvX te σ H fun v H2 => NeedL K H2 v (some (w, m))
theorem en_land (o : LandOk w m) (c : Nat.gcd m w = 1) (z : w * m ≤ 4000) : EvN K (tTup (tCons (tC (.int (w : Int))) (tCons (tC (.int (m : Int))) tNil))) σ H w m := fun H1 e Q q =>
  eu_tup (vs := [.int (w : Int), .int (m : Int)]) (ea_cons ev_c (ea_cons ev_c ea_nil)) (by show 2 ≤ 100000; decide) H1 e _ fun p H2 _ e2 h2 => q _ H2 e2 (need_good (st_of h2) o c z)
theorem en_23 : EvN K (tTup (tCons (tC (.int 2)) (tCons (tC (.int 3)) tNil))) σ H 2 3 := en_land (w := 2) (m := 3) ⟨by decide, by decide, by decide, by decide⟩ (by decide +kernel) (by decide)
theorem en_34 : EvN K (tTup (tCons (tC (.int 3)) (tCons (tC (.int 4)) tNil))) σ H 3 4 := en_land (w := 3) (m := 4) ⟨by decide, by decide, by decide, by decide⟩ (by decide +kernel) (by decide)
theorem en_35 : EvN K (tTup (tCons (tC (.int 3)) (tCons (tC (.int 5)) tNil))) σ H 3 5 := en_land (w := 3) (m := 5) ⟨by decide, by decide, by decide, by decide⟩ (by decide +kernel) (by decide)
theorem ev_kday {i : Int} (h1 : EvCX K CF CC ta σ H rows) (h2 : EvN K tb σ H w m) (h3 : Ev tc σ H (.int i)) (hd : depMax rows < 5) (hi : dayB (some i) = true) :
    Ev (tCall (spIsDay K CF CC CL CD) [] E (tCons ta (tCons tb (tCons tc tNil)))) σ H (.bl (calDay w m rows i)) := fun H1 e Q q =>
  h1 H1 e _ fun c H2 e2 hc => h2 H2 (e.trans e2) _ fun l H3 e3 hL => h3 H3 ((e.trans e2).trans e3) _ fun H4 e4 =>
    ⟨c, l, .int i, some (w, m), some i, rfl, hL.mono e4, .int i, (fun h => nomatch h), (fun _ h => by rw [hi] at h; cases h), fun w' m' i' hw hi' _ => by
      cases hw
      cases hi'
      exact ⟨rows, (hc.mono e3).mono e4, hd, fun H5 e5 => q H5 (((e2.trans e3).trans e4).trans e5)⟩⟩
theorem ev_kcount (h1 : EvCX K CF CC ta σ H rows) (h2 : EvN K tb σ H w m) (hd : depMax rows < 5) :
    Ev (tCall (spCount K CF CC CL) [] E (tCons ta (tCons tb tNil))) σ H (.int ((daysN (w * m) (calDay w m rows)).length : Nat)) := fun H1 e Q q =>
  h1 H1 e _ fun c H2 e2 hc => h2 H2 (e.trans e2) _ fun l H3 e3 hL =>
    ⟨c, l, some (w, m), rfl, hL, (fun h => nomatch h), fun w' m' hw => by
      cases hw
      exact ⟨rows, hc.mono e3, hd, fun H5 e5 => q H5 ((e2.trans e3).trans e5)⟩⟩
theorem ev_knth {i : Int} (h1 : EvCX K CF CC ta σ H rows) (h2 : EvN K tb σ H w m) (h3 : Ev tc σ H (.int i)) (hd : depMax rows < 5) (hi : fromB (some i) 0 = true) :
    Ev (tCall (spNth K CF CC CL CN) [] E (tCons ta (tCons tb (tCons tc tNil)))) σ H (nthV w m (daysN (w * m) (calDay w m rows)) i) := fun H1 e Q q =>
  h1 H1 e _ fun c H2 e2 hc => h2 H2 (e.trans e2) _ fun l H3 e3 hL => h3 H3 ((e.trans e2).trans e3) _ fun H4 e4 =>
    ⟨c, l, .int i, some (w, m), some i, rfl, hL.mono e4, .int i, (fun h => nomatch h), (fun _ h => by rw [hi] at h; cases h), fun w' m' i' hw hi' _ => by
      cases hw
      cases hi'
      exact ⟨rows, (hc.mono e3).mono e4, hd, fun H5 e5 => q H5 (((e2.trans e3).trans e4).trans e5)⟩⟩
theorem ev_kbetween {i j : Int} (h1 : EvCX K CF CC ta σ H rows) (h2 : EvN K tb σ H w m) (h3 : Ev tc σ H (.int i)) (h4 : Ev td σ H (.int j)) (hd : depMax rows < 5) (hi : (dayB (some i) && dayB (some j)) = true) :
    Ev (tCall (spBetween K CF CC CL CD) [] E (tCons ta (tCons tb (tCons tc (tCons td tNil))))) σ H (.int (betweenN (w * m) (daysN (w * m) (calDay w m rows)) i j)) := fun H1 e Q q =>
  h1 H1 e _ fun c H2 e2 hc => h2 H2 (e.trans e2) _ fun l H3 e3 hL => h3 H3 ((e.trans e2).trans e3) _ fun H4 e4 => h4 H4 (((e.trans e2).trans e3).trans e4) _ fun H5 e5 =>
    ⟨c, l, .int i, .int j, some (w, m), some i, some j, rfl, (hL.mono e4).mono e5, .int i, .int j, (fun h => nomatch h), (fun _ h => by rw [hi] at h; cases h), fun w' m' i' j' hw hi' hj' _ => by
      cases hw
      cases hi'
      cases hj'
      exact ⟨rows, ((hc.mono e3).mono e4).mono e5, hd, fun H6 e6 => q H6 ((((e2.trans e3).trans e4).trans e5).trans e6)⟩⟩
/-! partings, meetings -/
def dWay : Option ((Nat × Nat) × Nat) → PyData
  | none => .none
  | some (l, d) => .tuple [.tuple [.int (l.1 : Int), .int (l.2 : Int)], .int (d : Int)]
def dLd : Option (Nat × Nat) → PyData
  | none => .none
  | some l => .tuple [.int (l.1 : Int), .int (l.2 : Int)]
theorem dp_land {H : Hp} {lp : Addr} {a b : Int} (h : SqT K H lp [.int a, .int b]) : Dp K H (.ref lp) (.tuple [.int a, .int b]) := .tup h (.cons (.int _) (.cons (.int _) .nil))
theorem ed_way {o : Option ((Nat × Nat) × Nat)} (h1 : EvCX K CF CC ta σ H rows) (h2 : EvCX K CF CC tb σ H ss) (d1 : depMax rows < 5) (d2 : depMax ss < 5) (r1 : reachOf rows ≤ 10) (r2 : reachOf ss ≤ 10) (ho : unlikeO rows ss (enoughL (max (reachOf rows) (reachOf ss))) = o) :
    EvD K (tCall (spParting K CF CC) [] E (tCons ta (tCons tb tNil))) σ H (dWay o) := fun H1 e Q q =>
  h1 H1 e _ fun u H2 e2 hu => h2 H2 (e.trans e2) _ fun v H3 e3 hv => ⟨u, v, rows, ss, rfl, hu.mono e3, hv, d1, d2, r1, r2, fun hn H4 e4 => by
    rw [ho] at hn
    subst hn
    exact q _ H4 ((e2.trans e3).trans e4) .non, fun l d hn t lp H4 e4 ht hl => by
    rw [ho] at hn
    subst hn
    exact q _ H4 ((e2.trans e3).trans e4) (.tup (st_of ht) (.cons (dp_land hl) (.cons (.int _) .nil)))⟩
theorem ev_noway (h1 : EvCX K CF CC ta σ H rows) (h2 : EvCX K CF CC tb σ H ss) (d1 : depMax rows < 5) (d2 : depMax ss < 5) (r1 : reachOf rows ≤ 10) (r2 : reachOf ss ≤ 10) (ho : unlikeO rows ss (enoughL (max (reachOf rows) (reachOf ss))) = none) :
    Ev (tCall (spParting K CF CC) [] E (tCons ta (tCons tb tNil))) σ H .non := fun H1 e Q q =>
  ed_way h1 h2 d1 d2 r1 r2 ho H1 e Q fun v H2 e2 hv => by
    cases hv
    exact q H2 e2
theorem ev_kalike (h1 : EvCX K CF CC ta σ H rows) (h2 : EvCX K CF CC tb σ H ss) (d1 : depMax rows < 5) (d2 : depMax ss < 5) (r1 : reachOf rows ≤ 10) (r2 : reachOf ss ≤ 10) :
    Ev (tCall (spAlike K CF CC) [] E (tCons ta (tCons tb tNil))) σ H (.bl (unlikeO rows ss (enoughL (max (reachOf rows) (reachOf ss)))).isNone) := fun H1 e Q q =>
  h1 H1 e _ fun u H2 e2 hu => h2 H2 (e.trans e2) _ fun v H3 e3 hv => ⟨u, v, rows, ss, rfl, hu.mono e3, hv, d1, d2, r1, r2, fun H4 e4 => q H4 ((e2.trans e3).trans e4)⟩
theorem LdAt.dp {H : Hp} {o : Option (Nat × Nat)} {x : V} (h : LdAt K H o x) : Dp K H x (dLd o) := by
  rcases h with ⟨rfl, rfl⟩ | ⟨l, lp, rfl, rfl, hT⟩
  · exact .non
  · exact dp_land hT
theorem ed_meet {o p : Option (Nat × Nat)} (h1 : EvCX K CF CC ta σ H rows) (h2 : EvCX K CF CC tb σ H ss) (d1 : depMax rows < 5) (d2 : depMax ss < 5) (r1 : reachOf rows ≤ 10) (r2 : reachOf ss ≤ 10)
    (ho : meetO rows ss true (enoughL (max (reachOf rows) (reachOf ss))) = o) (hp : meetO rows ss false (enoughL (max (reachOf rows) (reachOf ss))) = p) :
    EvD K (tCall (spMeet K CF CC) [] E (tCons ta (tCons tb tNil))) σ H (.tuple [dLd o, dLd p]) := fun H1 e Q q =>
  h1 H1 e _ fun u H2 e2 hu => h2 H2 (e.trans e2) _ fun v H3 e3 hv => ⟨u, v, rows, ss, rfl, hu.mono e3, hv, d1, d2, r1, r2, fun t x y H4 e4 ht hx hy => by
    rw [ho] at hx
    rw [hp] at hy
    exact q _ H4 ((e2.trans e3).trans e4) (.tup (st_of ht) (.cons hx.dp (.cons hy.dp .nil)))⟩
/-! forms, needless rules, swaps -/
theorem ed_form {a b c : Int} (h : EvCX K CF CC ta σ H rows) (hd : depMax rows < 5) (hr : reachOf rows ≤ 10) (hf : ∀ r ∈ rows, r.1.fit = true) (k : ∀ x y z, FormOk rows x y z → x = a ∧ y = b ∧ z = c) :
    EvD K (tCall (spForm K CF CC) [] E (tCons ta tNil)) σ H (.tuple [.int a, .int b, .int c]) := fun H1 e Q q =>
  h H1 e _ fun u H2 e2 hu => ⟨u, rows, rfl, hu, hd, hr, hf, fun t x y z H3 ok _ _ _ e3 ht => by
    obtain ⟨rfl, rfl, rfl⟩ := k x y z ok
    exact q _ H3 (e2.trans e3) (.tup (st_of ht) (.cons (.int _) (.cons (.int _) (.cons (.int _) .nil))))⟩
theorem dp_nats {H : Hp} : ∀ l : List Nat, DpAll K H (l.map fun (k : Nat) => V.int (k : Int)) (l.map fun (k : Nat) => PyData.int (k : Int))
  | [] => .nil
  | k :: l => .cons (.int _) (dp_nats l)
theorem ed_nats {l r : List Nat} (h : EvL te σ H (l.map fun (k : Nat) => V.int (k : Int))) (hl : l = r) : EvD K te σ H (.list (r.map fun (k : Nat) => PyData.int (k : Int))) := fun H1 e Q q =>
  h H1 e _ fun p H2 _ e2 h2 => q _ H2 e2 (by
    subst hl
    exact .lst (sq_of h2) (dp_nats l))
theorem ed_needless {r : List Nat} (h : EvCX K CF CC ta σ H rows) (hd : depMax rows < 5) (hl : rows.length ≤ 3) (hr : reachOf rows ≤ 10) (hn : needL rows (reachOf rows) rows.length = r) :
    EvD K (tCall (spNeedless K CF CC) [] E (tCons ta tNil)) σ H (.list (r.map fun (k : Nat) => PyData.int (k : Int))) :=
  ed_nats (fun H1 e Q q => h H1 e _ fun u H2 e2 hu => ⟨u, rows, rfl, hu, hd, hl, hr, fun p H3 hp e3 h3 => q p H3 (fresh_back e2 hp) (e2.trans e3) h3⟩) hn
theorem ed_swaps {r : List Nat} (h : EvCX K CF CC ta σ H rows) (hd : depMax rows < 5) (hl : rows.length ≤ 3) (hr : reachOf rows ≤ 10) (hn : swapL rows (reachOf rows) (rows.length - 1) = r) :
    EvD K (tCall (spSwaps K CF CC) [] E (tCons ta tNil)) σ H (.list (r.map fun (k : Nat) => PyData.int (k : Int))) :=
  ed_nats (fun H1 e Q q => h H1 e _ fun u H2 e2 hu => ⟨u, rows, rfl, hu, hd, hl, hr, fun p H3 hp e3 h3 => q p H3 (fresh_back e2 hp) (e2.trans e3) h3⟩) hn
/-! a list of days that hold a test -/
theorem ed_days {t : TT} {n : Nat} {j : Nat} {vs : List Nat} {r : List Nat} (f : Nat → Bool) (hn : n ≤ 40000) (hw : ∀ x, wipe ((wipe σ vs).set j (some x)) vs = wipe σ vs) (hj : ∀ x, ((wipe σ vs).set j (some x))[j]? = some (some x))
    (ht : ∀ (i : Nat) H1, Ex H H1 → i < n → EvT t ((wipe σ vs).set j (some (.int (i : Int)))) H1 (f i)) (hr : (List.range n).filter f = r) :
    EvD K (tLc (iRng1 (tCons (tC (.int (n : Int))) tNil)) (gName j) t (tVar j) vs) σ H (.list (r.map fun (k : Nat) => PyData.int (k : Int))) :=
  ed_nats (l := (List.range n).filter f) (el_is (el_lcR1 (n := (n : Int)) f (fun i => .int (i : Int)) (ea_cons ev_c ea_nil) ⟨by omega, by omega⟩ hw (fun i H1 e hi => ht i H1 e (by omega)) (fun i H1 e hi _ => ev_var (hj _))) rfl) hr
/-! what was seen -/
def EvSn (K : PySem.W.Frag) (tA : TA) (σ : L2.St) (H : Hp) (ss : Seen) : Prop := ∀ H1, Ex H H1 → ∀ Q : List V → Hp → Prop, (∀ vs H2, Ex H1 H2 → SeenL K H2 vs ss → Q vs H2) → tA σ H1 Q
theorem esn_nil : EvSn K tNil σ H [] := fun H1 e Q q => q [] H1 (Ex.refl H1) trivial
theorem esn_cons {i : Int} {b : Bool} {ss : Seen} (h : EvSn K tA σ H ss) : EvSn K (tCons (tTup (tCons (tC (.int i)) (tCons (tC (.bl b)) tNil))) tA) σ H ((i, b) :: ss) := fun H1 e Q q =>
  eu_tup (vs := [.int i, .bl b]) (ea_cons ev_c (ea_cons ev_c ea_nil)) (by show 2 ≤ 100000; decide) H1 e _ fun p H2 _ e2 h2 => h H2 (e.trans e2) _ fun vs H3 e3 h3 => q _ H3 (e2.trans e3) ⟨⟨p, rfl, ex_t e3 (st_of h2)⟩, h3⟩
theorem SeenL.good {H : Hp} {xs : List V} {ss : Seen} (h : SeenL K H xs ss) (hb : ∀ s ∈ ss, seenB (some s.1) = true) : ∀ (i : Nat) (x : V), xs[i]? = some x → SeenV K H x true := fun i x e => by
  obtain ⟨⟨a, rfl, hT⟩, hi⟩ := h.get e
  have hm : ss.getD i (0, false) ∈ ss := by
    rw [List.getD_eq_getElem?_getD, List.getElem?_eq_getElem hi]
    exact List.getElem_mem hi
  have := SeenV.fst (o := some (ss.getD i (0, false)).1) hT (.int _)
  rwa [hb _ hm] at this
def dLands (l : List (Nat × Nat)) : PyData := .list (l.map fun l => .tuple [.int (l.1 : Int), .int (l.2 : Int)])
theorem LandL.dp {H : Hp} : ∀ {xs : List V} {ls : List (Nat × Nat)}, LandL K H xs ls → DpAll K H xs (ls.map fun l => PyData.tuple [.int (l.1 : Int), .int (l.2 : Int)])
  | [], [], _ => .nil
  | _ :: _, l :: _, ⟨⟨lp, h0, hT⟩, hs⟩ => by
    subst h0
    exact .cons (dp_land hT) (LandL.dp hs)
  | [], _ :: _, h => h.elim
  | _ :: _, [], h => h.elim
theorem ed_fit {M : Nat} {sn : Seen} {r : List (Nat × Nat)} (h1 : EvCX K CF CC ta σ H rows) (h2 : EvSn K tA σ H sn) (hM : 2 ≤ M ∧ M ≤ 50) (hd : depMax rows < 5) (hs : sn.length ≤ 1000) (hb : ∀ s ∈ sn, seenB (some s.1) = true) (hr : fitL rows sn M = r) :
    EvD K (tCall (spFit K CF CC CS) [] E (tCons ta (tCons (tLst tA) (tCons (tC (.int (M : Int))) tNil)))) σ H (dLands r) := fun H1 e Q q =>
  h1 H1 e _ fun c H2 e2 hc => h2 H2 (e.trans e2) _ fun xs H3 e3 hx => ⟨Evl.sz_of (by rw [hx.len]; omega), fun a ha =>
    ⟨c, a, M, xs, rows, fun _ => true, rfl, hM.1, hM.2, (hc.mono e3).mono (Ex.new ha), hd, .inl (sq_of upd_same), by rw [hx.len]; exact hs, (hx.kn (KeepN.of (Ex.new ha))).good hb, (fun _ _ _ h => nomatch h), fun _ => ⟨sn, hx.kn (KeepN.of (Ex.new ha)), fun p ys H4 hp e4 h4 hl => by
      rw [hr] at hl
      exact q _ H4 (((e2.trans e3).trans (Ex.new ha)).trans e4) (.lst (sq_of h4) hl.dp)⟩⟩⟩
theorem ev_kask {M : Nat} {sn : Seen} (h1 : EvCX K CF CC ta σ H rows) (h2 : EvSn K tA σ H sn) (hM : 2 ≤ M ∧ M ≤ 50) (hd : depMax rows < 5) (hs : sn.length ≤ 1000) (hb : ∀ s ∈ sn, seenB (some s.1) = true) :
    Ev (tCall (spAsk K CF CC CS) [] E (tCons ta (tCons (tLst tA) (tCons (tC (.int (M : Int))) tNil)))) σ H (askV (askO rows (fitL rows sn M))) := fun H1 e Q q =>
  h1 H1 e _ fun c H2 e2 hc => h2 H2 (e.trans e2) _ fun xs H3 e3 hx => ⟨Evl.sz_of (by rw [hx.len]; omega), fun a ha =>
    ⟨c, a, M, xs, rows, fun _ => true, rfl, hM.1, hM.2, (hc.mono e3).mono (Ex.new ha), hd, .inl (sq_of upd_same), by rw [hx.len]; exact hs, (hx.kn (KeepN.of (Ex.new ha))).good hb, (fun _ _ _ h => nomatch h), fun _ => ⟨sn, hx.kn (KeepN.of (Ex.new ha)), fun H4 e4 => q H4 (((e2.trans e3).trans (Ex.new ha)).trans e4)⟩⟩⟩
/-! a calendar of one feast -/
def spOneR (K : PySem.W.Frag) (CF CC : Addr) : Sp := fun vs H Q _ => ∃ (v : V) (r : Rl), vs = [v] ∧ RlAt K H v r ∧ r.fit = true ∧ r.parts ≤ 5 ∧ r.bys ≤ 4 ∧ ∀ q H2, H q = none → Ex H H2 → CalAt K CF CC H2 (.ref q) [(r, false)] → Q (.ref q) H2
theorem ec_one {r : Rl} (h : EvRl K tu σ H r) (hf : r.fit = true) (hp : r.parts ≤ 5) (hb : r.bys ≤ 4) : EvC K CF CC (tCall (spOneR K CF CC) [] E (tCons tu tNil)) σ H [(r, false)] := fun H1 e Q q =>
  h H1 e _ fun v H2 e2 hr => ⟨v, r, rfl, hr, hf, hp, hb, fun p H3 hp e3 hc => q p H3 (fresh_back e2 hp) (e2.trans e3) hc⟩
theorem ev_rvar {i : Nat} {v : V} {r : Rl} (h : σ[i]? = some (some v)) (hr : RlAt K H v r) : EvRl K (tVar i) σ H r := fun H1 e Q q => ev_var h H1 e _ fun H2 e2 => q _ H2 e2 (hr.mono (e.trans e2))
end
section
variable {P : Program} {w : World} {K : PySem.W.Frag} {mg : Str → Option Value} {base : Heap} {C_BadRule C_BadRules C_BadLand C_BadDay C_BadNumber C_BadSeen C_BadText C_Feast C_Calendar C_Line C_Walk : Addr} {f : Addr} {fd : FuncData}
theorem ok_oneR (F : Fun K "_law_one" "_law_one" s_l_one f fd) (T : Txt P w K mg C_BadRule C_BadRules C_BadLand C_BadDay C_BadNumber C_BadSeen C_BadText C_Feast C_Calendar C_Line C_Walk) (CF : Cls1 K C_Feast ["told", "bys"]) (IF : ClsI K C_Feast) (CC : Cls1 K C_Calendar ["rows", "near"]) : FnOk P w K mg base CX0 11 f fd ["_law_rule"] (spOneR K C_Feast C_Calendar) := by
  have M_Feast : Mn P w K mg base (L2.CX P w) C_Feast 9 ["self", "rule"] (spFeast K C_Feast C_BadRule) := mn_feast T CF
  have M_Calendar : Mn P w K mg base CX0 C_Calendar 2 ["self", "rules"] (spCal K C_Feast C_Calendar) := mn_cal T CF IF CC
  refine F.ok sc_l_one (fun vs H Q E h => ?_) (fun cdv A outer s H vs Q E hr h => ?_)
  · obtain ⟨_, _, rfl, _⟩ := h
    rfl
  · obtain ⟨v, r, rfl, hR, hf, hp, hb, k⟩ := h
    refine ⟨_, (pss_one (ps_ret (pe_mk M_Calendar (hr.mono (by omega)) T.c_Calendar pass0 rfl (pa_cons (pe_tup (pa_cons (pe_tup (pa_cons (pe_mk M_Feast (hr.mono (by omega)) T.c_Feast passL rfl (pa_cons (pv 0) pa_nil)) (pa_cons pe_bl pa_nil))) pa_nil)) pa_nil)))), ?_⟩
    exact s_retR (R := fun p H2 => CalAt K C_Feast C_Calendar H2 (.ref p) [(r, false)]) (ec_rows (ews_cons (ew_row (ef_of (er_feastX (ev_rvar rfl hR) hf hp hb))) ews_nil) (by show 1 ≤ 3; decide) (by show r.bys + 0 ≤ 4; omega)) fun q H2 hq e2 hc => k q H2 hq e2 hc
theorem dn_oneR (T : Txt P w K mg C_BadRule C_BadRules C_BadLand C_BadDay C_BadNumber C_BadSeen C_BadText C_Feast C_Calendar C_Line C_Walk) (CF : Cls1 K C_Feast ["told", "bys"]) (IF : ClsI K C_Feast) (CC : Cls1 K C_Calendar ["rows", "near"]) : Dn P w K mg base CX0 "_law_one" 11 ["_law_rule"] (spOneR K C_Feast C_Calendar) := T.f_l_one.dn fun _ _ F _ _ => ok_oneR F T CF IF CC
/-- a def of known values: no words in, the truth out -/
def spKnown : Sp := fun vs H Q _ => vs = [] ∧ ∀ H1, Q (.bl true) H1
theorem pe_fn0 {X : Cx} {CX : CXT} {x : Str} {k : Nat} {ps : List Str} {sp : Sp} {E : XK} {p pos : Pos} (D : Dn X.prog X.w X.K X.mg X.base CX x k ps sp) (hr : Room k X.A) (hx : Passes CX X E) (hg : Gl X x) (hdb : (x == ("__debug__" : Str)) = false := by decide) : PE X (.Call (.Name x p) [] [] pos) (tCall sp [] E tNil) := by
  obtain ⟨f, fd, h1, h2, h3, h4⟩ := D.ex
  exact pe_call0 h3 hr hg h1 h2 h4 .nil hx hdb
end
end WF

set_option Elab.async false
set_option linter.all false
set_option maxRecDepth 100000
set_option maxHeartbeats 2000000
/-! the known days; the decided -/
namespace WF
open PySem L2 Evl
section
variable {K : PySem.W.Frag} {σ : L2.St} {H : Hp} {ta tb tc te : TE} {tA : TA} {t u : TT} {D : Ends} {tz : TS} {d d2 : PyData} {x : V}
theorem et_neD0 (h1 : EvD K ta σ H d) (h2 : EvD K tb σ H d2) (s1 : SeqAt.shaped d = true) (s2 : SeqAt.shaped d2 = true) (he : PyData.eqv d d2 = true) : EvT (tTest (tOp (rNeD K) ta tb)) σ H false := et_test (ev_is (ev_neDD h1 h2 s1 s2) (by rw [he]; rfl))
theorem ev_eqD1 (h1 : EvD K ta σ H d) (h2 : EvD K tb σ H d2) (s1 : SeqAt.shaped d = true) (s2 : SeqAt.shaped d2 = true) (he : PyData.eqv d d2 = true) : Ev (tOp (rEqD K) ta tb) σ H (.bl true) := ev_is (ev_eqDD h1 h2 s1 s2) (by rw [he])
theorem et_ne0 (h1 : Ev ta σ H x) (h2 : Ev tb σ H x) (s : scal x x = true) : EvT (tTest (tOp rNe ta tb)) σ H false := et_is (et_cmp h1 h2 (rv_ne s)) (by rw [decide_eq_true rfl]; rfl)
theorem et_or00 (h1 : EvT t σ H false) (h2 : EvT u σ H false) : EvT (tOr t u) σ H false := et_is (et_or h1 fun _ => h2) rfl
theorem et_not0 (h : EvT t σ H true) : EvT (tNot t) σ H false := et_is (et_not h) rfl
theorem et_some0 (h : Ev ta σ H .non) : EvT (tTest (tOp (fun x y H Q => y = .non ∧ Q (.bl (!decide (x = .non))) H) ta (tC .non))) σ H false := et_is (et_cmp h ev_c rv_notN) (by rw [decide_eq_true rfl]; rfl)
theorem ev_non1 (h : Ev ta σ H .non) : Ev (tOp (fun x y H Q => y = .non ∧ Q (.bl (decide (x = .non))) H) ta (tC .non)) σ H (.bl true) := ev_is (ev_op h ev_c rv_isN) (by rw [decide_eq_true rfl])
theorem ev_and11 (h1 : Ev ta σ H (.bl true)) (h2 : Ev tb σ H (.bl true)) : Ev (tAndV ta tb) σ H (.bl true) := ev_is (ev_andV h1 fun _ => h2) rfl
theorem dayB_small {i : Int} (h : -1000 ≤ i ∧ i ≤ 1000) : dayB (some i) = true := by
  show (decide (-(10 ^ 30) ≤ i) && decide (i ≤ 10 ^ 30)) = true
  rw [decide_eq_true (by omega), decide_eq_true (by omega)]
  rfl
theorem nth_top : fromB (some (10 ^ 30)) 0 = true := by decide +kernel
theorem ev_e30 : Ev (tOp (rI CPow fun i j => .int (i ^ j.toNat)) (tC (.int 10)) (tC (.int 30))) σ H (.int (10 ^ 30)) := ev_is (ev_op ev_c ev_c (rv_I ⟨by decide, by decide, by decide⟩)) rfl
end
section
variable {P : Program} {w : World} {K : PySem.W.Frag} {mg : Str → Option Value} {base : Heap} {C_BadRule C_BadRules C_BadLand C_BadDay C_BadNumber C_BadSeen C_BadText C_Feast C_Calendar C_Line C_Walk : Addr} {f : Addr} {fd : FuncData}
theorem ok_days_known (F : Fun K "_law_days_known" "_law_days_known" s_l_days_known f fd) (T : Txt P w K mg C_BadRule C_BadRules C_BadLand C_BadDay C_BadNumber C_BadSeen C_BadText C_Feast C_Calendar C_Line C_Walk) (CF : Cls1 K C_Feast ["told", "bys"]) (IF : ClsI K C_Feast) (CC : Cls1 K C_Calendar ["rows", "near"]) : FnOk P w K mg base CX0 13 f fd [] spKnown := by
  have D_l_one : Dn P w K mg base CX0 "_law_one" 11 ["_law_rule"] (spOneR K C_Feast C_Calendar) := dn_oneR T CF IF CC
  have D_is_day : Dn P w K mg base (L2.CX P w) "is_day" 8 ["calendar", "land", "day"] (spIsDay K C_Feast C_Calendar C_BadLand C_BadDay) := dn_is_day T CF CC
  have D_count : Dn P w K mg base (L2.CX P w) "count" 8 ["calendar", "land"] (spCount K C_Feast C_Calendar C_BadLand) := dn_count T CF CC
  have D_nth : Dn P w K mg base (L2.CX P w) "nth" 8 ["calendar", "land", "n"] (spNth K C_Feast C_Calendar C_BadLand C_BadNumber) := dn_nth T CF CC
  have D_between : Dn P w K mg base (L2.CX P w) "between" 8 ["calendar", "land", "low", "high"] (spBetween K C_Feast C_Calendar C_BadLand C_BadDay) := dn_between T CF CC
  have M_Feast : Mn P w K mg base (L2.CX P w) C_Feast 9 ["self", "rule"] (spFeast K C_Feast C_BadRule) := mn_feast T CF
  have M_Calendar : Mn P w K mg base CX0 C_Calendar 2 ["self", "rules"] (spCal K C_Feast C_Calendar) := mn_cal T CF IF CC
  refine F.ok sc_l_days_known (fun vs H Q E h => ?_) (fun cdv A outer s H vs Q E hr h => ?_)
  · obtain ⟨rfl, _⟩ := h
    rfl
  · obtain ⟨rfl, k⟩ := h
    have hr1 : Room 1 _ := hr.mono (by omega)
    have hu := hu_of hr1
    refine ⟨_, (pss_cons (ps_set (i := 0) sc_l_days_known.nd rfl (by first | exact Or.inl rfl | exact Or.inr rfl) (pe_fn D_l_one (hr.mono (by omega)) pass0 rfl (pa_cons (pe_tup (pa_cons pe_str (pa_cons pe_int pa_nil))) pa_nil)))
  (pss_cons (ps_if (PW.pt (pw_or (pt_cmpR (op_neD hr1.units) (pe_lc (own := [("_law_day", 3)]) (g := gName 3) rfl sc_l_days_known.nd (pi_range1 (by rfl) T.range (pa_cons pe_int pa_nil)) (blkOk_by (own := [("_law_day", 3)]) (N := ["_law_first", "_law_both", "_law_last", "_law_day"]) (sc := defScope s_l_days_known) (by decide +kernel)) (fun _ _ _ _ _ => (pg_name (i := 3) sc_l_days_known.nd rfl (by first | exact Or.inl rfl | exact Or.inr rfl))) (fun _ _ _ _ _ => (pts_one (pt_val (pe_fn D_is_day (hr.mono (by omega)) passL rfl (pa_cons (pv 0) (pa_cons (pe_tup (pa_cons pe_int (pa_cons pe_int pa_nil))) (pa_cons (pv 3) pa_nil))))))) (fun _ _ _ _ _ => (pv 3))) (pe_lst (pa_cons pe_int (pa_cons pe_int (pa_cons pe_int (pa_cons pe_int pa_nil))))) (nomark _)) (pw_or1 (pt_cmpR op_ne (pe_fn D_count (hr.mono (by omega)) passL rfl (pa_cons (pv 0) (pa_cons (pe_tup (pa_cons pe_int (pa_cons pe_int pa_nil))) pa_nil))) pe_int (nomark _))))) (pss_one (ps_ret pe_bl))
  pss_nil)
  (pss_cons (ps_set (i := 1) sc_l_days_known.nd rfl (by first | exact Or.inl rfl | exact Or.inr rfl) (pe_mk M_Calendar (hr.mono (by omega)) T.c_Calendar pass0 rfl (pa_cons (pe_tup (pa_cons (pe_tup (pa_cons (pe_mk M_Feast (hr.mono (by omega)) T.c_Feast passL rfl (pa_cons (pe_tup (pa_cons pe_str (pa_cons pe_int pa_nil))) pa_nil)) (pa_cons pe_bl pa_nil))) (pa_cons (pe_tup (pa_cons (pe_mk M_Feast (hr.mono (by omega)) T.c_Feast passL rfl (pa_cons (pe_tup (pa_cons pe_str (pa_cons pe_int pa_nil))) pa_nil)) (pa_cons pe_bl pa_nil))) pa_nil))) pa_nil)))
  (pss_cons (ps_if (PW.pt (pw_or (pt_cmpR op_ne (pe_fn D_nth (hr.mono (by omega)) passL rfl (pa_cons (pv 0) (pa_cons (pe_tup (pa_cons pe_int (pa_cons pe_int pa_nil))) (pa_cons (pe_op op_pow pe_int pe_int) pa_nil)))) (pe_op op_mul pe_int (pe_op op_pow pe_int pe_int)) (nomark _)) (pw_or1 (pt_cmpR op_ne (pe_fn D_between (hr.mono (by omega)) passL rfl (pa_cons (pv 1) (pa_cons (pe_tup (pa_cons pe_int (pa_cons pe_int pa_nil))) (pa_cons pe_int (pa_cons pe_int pa_nil))))) pe_int (nomark _))))) (pss_one (ps_ret pe_bl))
  pss_nil)
  (pss_cons (ps_if (PW.pt (pw_or (pt_cmpR op_ne (pe_fn D_between (hr.mono (by omega)) passL rfl (pa_cons (pv 0) (pa_cons (pe_tup (pa_cons pe_int (pa_cons pe_int pa_nil))) (pa_cons (pe_un un_neg pe_int) (pa_cons pe_int pa_nil))))) pe_int (nomark _)) (pw_or1 (pt_cmpR (op_neD hr1.units) (pe_lc (own := [("_law_day", 3)]) (g := gName 3) rfl sc_l_days_known.nd (pi_range1 (by rfl) T.range (pa_cons pe_int pa_nil)) (blkOk_by (own := [("_law_day", 3)]) (N := ["_law_first", "_law_both", "_law_last", "_law_day"]) (sc := defScope s_l_days_known) (by decide +kernel)) (fun _ _ _ _ _ => (pg_name (i := 3) sc_l_days_known.nd rfl (by first | exact Or.inl rfl | exact Or.inr rfl))) (fun _ _ _ _ _ => (pts_one (pt_not (pt_val (pe_fn D_is_day (hr.mono (by omega)) passL rfl (pa_cons (pv 1) (pa_cons (pe_tup (pa_cons pe_int (pa_cons pe_int pa_nil))) (pa_cons (pv 3) pa_nil)))))))) (fun _ _ _ _ _ => (pv 3))) (pe_lst (pa_cons pe_int pa_nil)) (nomark _))))) (pss_one (ps_ret pe_bl))
  pss_nil)
  (pss_cons (ps_set (i := 2) sc_l_days_known.nd rfl (by first | exact Or.inl rfl | exact Or.inr rfl) (pe_fn D_l_one (hr.mono (by omega)) pass0 rfl (pa_cons (pe_tup (pa_cons pe_str (pa_cons (pe_tup (pa_cons pe_str (pa_cons (pe_un un_neg pe_int) pa_nil))) (pa_cons (pe_tup (pa_cons pe_str (pa_cons (pe_un un_neg pe_int) pa_nil))) pa_nil)))) pa_nil)))
  (pss_one (ps_ret (pe_and (pe_cmpR (op_eqD hr1.units) (pe_lc (own := [("_law_day", 3)]) (g := gName 3) rfl sc_l_days_known.nd (pi_range1 (by rfl) T.range (pa_cons pe_int pa_nil)) (blkOk_by (own := [("_law_day", 3)]) (N := ["_law_first", "_law_both", "_law_last", "_law_day"]) (sc := defScope s_l_days_known) (by decide +kernel)) (fun _ _ _ _ _ => (pg_name (i := 3) sc_l_days_known.nd rfl (by first | exact Or.inl rfl | exact Or.inr rfl))) (fun _ _ _ _ _ => (pts_one (pt_val (pe_fn D_is_day (hr.mono (by omega)) passL rfl (pa_cons (pv 2) (pa_cons (pe_tup (pa_cons pe_int (pa_cons pe_int pa_nil))) (pa_cons (pv 3) pa_nil))))))) (fun _ _ _ _ _ => (pv 3))) (pe_lst (pa_cons pe_int (pa_cons pe_int pa_nil))) (nomark _)) (pe_one (pe_cmpR op_isN (pe_fn D_nth (hr.mono (by omega)) passL rfl (pa_cons (pe_mk M_Calendar (hr.mono (by omega)) T.c_Calendar pass0 rfl (pa_cons (pe_tup pa_nil) pa_nil)) (pa_cons (pe_tup (pa_cons pe_int (pa_cons pe_int pa_nil))) (pa_cons pe_int pa_nil)))) pe_non (nomark _)))))))))))), ?_⟩
    refine q_asgR (ec_one (er_fs ev_c) (by decide +kernel) (by decide +kernel) (by decide +kernel)) fun c1 H1 hc1 e1 hC1 => ?_
    refine q_not (et_or00 (et_neD0 (ed_days (n := 12) (j := 3) (r := [0, 4, 6, 10]) (fun i => calDay ((2 : Nat) : Int) ((3 : Nat) : Int) kFirst (i : Int)) (by decide) (fun _ => rfl) (fun _ => rfl) (fun i H2 e2 hi => et_B (ev_kday (w := 2) (m := 3) (ex_cv (ev_var rfl) (hC1.mono e2)) en_23 (ev_var rfl) (by decide +kernel) (dayB_small (by omega)))) (by decide +kernel)) (ed_lst (eda_cons (ed_int ev_c) (eda_cons (ed_int ev_c) (eda_cons (ed_int ev_c) (eda_cons (ed_int ev_c) eda_nil)))) (by show 4 ≤ 100000; decide)) rfl rfl (by decide +kernel))
      (et_ne0 (x := .int 3) (ev_is (ev_kcount (w := 3) (m := 5) (ex_cv (ev_var rfl) hC1) en_35 (by decide +kernel)) (congrArg (fun n : Nat => V.int (n : Int)) kn_count)) ev_c rfl)) fun H2 e2 => ?_
    have hC2 := hC1.mono e2
    refine q_asgR (ec_rows (ews_cons (ew_row (ef_of (er_feastX (er_wk (k := 0) ev_c) (by decide +kernel) (by decide +kernel) (by decide +kernel)))) (ews_cons (ew_row (ef_of (er_feastX (er_md (k := 0) ev_c) (by decide +kernel) (by decide +kernel) (by decide +kernel)))) ews_nil)) (by decide) (by decide +kernel)) fun c2 H3 hc2 e3 hB3 => ?_
    have hC3 := hC2.mono e3
    refine q_not (et_or00 (et_ne0 (x := .int (3 * 10 ^ 30)) (ev_is (ev_knth (w := 2) (m := 3) (ex_cv (ev_var rfl) hC3) en_23 ev_e30 (by decide +kernel) nth_top) kn_nth) (ev_op ev_c ev_e30 (rv_I (.inl ⟨by decide, by decide⟩))) rfl)
      (et_ne0 (x := .int 5) (ev_is (ev_kbetween (w := 2) (m := 3) (i := 0) (j := 5) (ex_cv (ev_var rfl) hB3) en_23 ev_c ev_c (by decide +kernel) (by rw [dayB_small (by decide), dayB_small (by decide)]; rfl)) (congrArg V.int kn_bet1)) ev_c rfl)) fun H4 e4 => ?_
    have hC4 := hC3.mono e4
    have hB4 := hB3.mono e4
    refine q_not (et_or00 (et_ne0 (x := .int 4) (ev_is (ev_kbetween (w := 2) (m := 3) (i := -6) (j := 5) (ex_cv (ev_var rfl) hC4) en_23 (ev_un ev_c ru_neg) ev_c (by decide +kernel) (by rw [dayB_small (by decide), dayB_small (by decide)]; rfl)) (congrArg V.int kn_bet2)) ev_c rfl)
      (et_neD0 (ed_days (n := 6) (j := 3) (r := [5]) (fun i => !calDay ((2 : Nat) : Int) ((3 : Nat) : Int) kBoth (i : Int)) (by decide) (fun _ => rfl) (fun _ => rfl) (fun i H2 e2 hi => et_not (et_B (ev_kday (w := 2) (m := 3) (ex_cv (ev_var rfl) (hB4.mono e2)) en_23 (ev_var rfl) (by decide +kernel) (dayB_small (by omega))))) (by decide +kernel)) (ed_lst (eda_cons (ed_int ev_c) eda_nil) (by show 1 ≤ 100000; decide)) rfl rfl (by decide +kernel))) fun H5 e5 => ?_
    refine q_asgR (ec_one (er_bo (er_wk (k := -1) (ev_un ev_c ru_neg)) (er_md (k := -1) (ev_un ev_c ru_neg))) (by decide +kernel) (by decide +kernel) (by decide +kernel)) fun c3 H6 hc3 e6 hL6 => ?_
    refine s_ret (ev_and11 (ev_eqD1 (ed_days (n := 24) (j := 3) (r := [11, 23]) (fun i => calDay ((3 : Nat) : Int) ((4 : Nat) : Int) kLast (i : Int)) (by decide) (fun _ => rfl) (fun _ => rfl) (fun i H2 e2 hi => et_B (ev_kday (w := 3) (m := 4) (ex_cv (ev_var rfl) (hL6.mono e2)) en_34 (ev_var rfl) (by decide +kernel) (dayB_small (by omega)))) (by decide +kernel)) (ed_lst (eda_cons (ed_int ev_c) (eda_cons (ed_int ev_c) eda_nil)) (by show 2 ≤ 100000; decide)) rfl rfl (by decide +kernel))
      (ev_non1 (ev_is (ev_knth (w := 2) (m := 3) (i := 0) (ex_c (ec_rows ews_nil (by decide) (by decide +kernel))) en_23 ev_c (by decide +kernel) (by decide +kernel)) kn_nth0))) fun H7 e7 => k H7
theorem dn_days_known (T : Txt P w K mg C_BadRule C_BadRules C_BadLand C_BadDay C_BadNumber C_BadSeen C_BadText C_Feast C_Calendar C_Line C_Walk) (CF : Cls1 K C_Feast ["told", "bys"]) (IF : ClsI K C_Feast) (CC : Cls1 K C_Calendar ["rows", "near"]) : Dn P w K mg base CX0 "_law_days_known" 13 [] spKnown := T.f_l_days_known.dn fun _ _ F _ _ => ok_days_known F T CF IF CC
theorem ok_decided (F : Fun K "_law_decided" "_law_decided" s_l_decided f fd) (T : Txt P w K mg C_BadRule C_BadRules C_BadLand C_BadDay C_BadNumber C_BadSeen C_BadText C_Feast C_Calendar C_Line C_Walk) (CF : Cls1 K C_Feast ["told", "bys"]) (IF : ClsI K C_Feast) (CC : Cls1 K C_Calendar ["rows", "near"]) : FnOk P w K mg base CX0 13 f fd [] spKnown := by
  have D_l_one : Dn P w K mg base CX0 "_law_one" 11 ["_law_rule"] (spOneR K C_Feast C_Calendar) := dn_oneR T CF IF CC
  have D_parting : Dn P w K mg base CX0 "parting" 9 ["one", "other"] (spParting K C_Feast C_Calendar) := dn_parting T CF CC
  have D_meeting : Dn P w K mg base CX0 "meeting" 8 ["one", "other"] (spMeet K C_Feast C_Calendar) := dn_meeting T CF CC
  have D_alike : Dn P w K mg base CX0 "alike" 10 ["one", "other"] (spAlike K C_Feast C_Calendar) := dn_alike T CF CC
  refine F.ok sc_l_decided (fun vs H Q E h => ?_) (fun cdv A outer s H vs Q E hr h => ?_)
  · obtain ⟨rfl, _⟩ := h
    rfl
  · obtain ⟨rfl, k⟩ := h
    have hr1 : Room 1 _ := hr.mono (by omega)
    have hu := hu_of hr1
    refine ⟨_, (pss_cons (ps_par (i := 0) (j := 1) (by rfl) sc_l_decided.nd rfl rfl (by decide) rfl rfl (pa_cons (pe_fn D_l_one (hr.mono (by omega)) pass0 rfl (pa_cons (pe_tup (pa_cons pe_str (pa_cons pe_int pa_nil))) pa_nil)) (pa_cons (pe_fn D_l_one (hr.mono (by omega)) pass0 rfl (pa_cons (pe_tup (pa_cons pe_str (pa_cons pe_int pa_nil))) pa_nil)) pa_nil)) (by first | rfl | exact sw2 rfl rfl rfl rfl (by decide)))
  (pss_cons (ps_if (PW.pt (pw_or (pt_cmpR (op_neD hr1.units) (pe_fn D_parting (hr.mono (by omega)) pass0 rfl (pa_cons (pv 0) (pa_cons (pv 1) pa_nil))) (pe_tup (pa_cons (pe_tup (pa_cons pe_int (pa_cons pe_int pa_nil))) (pa_cons pe_int pa_nil))) (nomark _)) (pw_or1 (pt_cmpR op_notN (pe_fn D_parting (hr.mono (by omega)) pass0 rfl (pa_cons (pv 1) (pa_cons (pv 1) pa_nil))) pe_non (nomark _))))) (pss_one (ps_ret pe_bl))
  pss_nil)
  (pss_cons (ps_par (i := 2) (j := 3) (by rfl) sc_l_decided.nd rfl rfl (by decide) rfl rfl (pa_cons (pe_fn D_l_one (hr.mono (by omega)) pass0 rfl (pa_cons (pe_tup (pa_cons pe_str (pa_cons pe_int pa_nil))) pa_nil)) (pa_cons (pe_fn D_l_one (hr.mono (by omega)) pass0 rfl (pa_cons (pe_tup (pa_cons pe_str (pa_cons (pe_un un_neg pe_int) pa_nil))) pa_nil)) pa_nil)) (by first | rfl | exact sw2 rfl rfl rfl rfl (by decide)))
  (pss_cons (ps_if (PW.pt (pw_or (pt_cmpR (op_neD hr1.units) (pe_fn D_meeting (hr.mono (by omega)) pass0 rfl (pa_cons (pv 2) (pa_cons (pv 3) pa_nil))) (pe_tup (pa_cons (pe_tup (pa_cons pe_int (pa_cons pe_int pa_nil))) (pa_cons (pe_tup (pa_cons pe_int (pa_cons pe_int pa_nil))) pa_nil))) (nomark _)) (pw_or1 (pt_not (pt_val (pe_fn D_alike (hr.mono (by omega)) pass0 rfl (pa_cons (pv 2) (pa_cons (pe_fn D_l_one (hr.mono (by omega)) pass0 rfl (pa_cons (pe_tup (pa_cons pe_str (pa_cons (pe_tup (pa_cons pe_str (pa_cons pe_int pa_nil))) (pa_cons pe_int pa_nil)))) pa_nil)) pa_nil)))))))) (pss_one (ps_ret pe_bl))
  pss_nil)
  (pss_cons (ps_if (PW.pt (pw_or (pt_cmpR (op_neD hr1.units) (pe_fn D_meeting (hr.mono (by omega)) pass0 rfl (pa_cons (pv 0) (pa_cons (pe_fn D_l_one (hr.mono (by omega)) pass0 rfl (pa_cons (pe_tup (pa_cons pe_str (pa_cons (pe_un un_neg pe_int) pa_nil))) pa_nil)) pa_nil))) (pe_tup (pa_cons (pe_tup (pa_cons pe_int (pa_cons pe_int pa_nil))) (pa_cons pe_non pa_nil))) (nomark _)) (pw_or1 (pt_cmpR (op_neD hr1.units) (pe_fn D_meeting (hr.mono (by omega)) pass0 rfl (pa_cons (pv 2) (pa_cons (pv 0) pa_nil))) (pe_tup (pa_cons pe_non (pa_cons (pe_tup (pa_cons pe_int (pa_cons pe_int pa_nil))) pa_nil))) (nomark _))))) (pss_one (ps_ret pe_bl))
  pss_nil)
  (pss_cons (ps_par (i := 4) (j := 5) (by rfl) sc_l_decided.nd rfl rfl (by decide) rfl rfl (pa_cons (pe_fn D_l_one (hr.mono (by omega)) pass0 rfl (pa_cons (pe_tup (pa_cons pe_str (pa_cons pe_int pa_nil))) pa_nil)) (pa_cons (pe_fn D_l_one (hr.mono (by omega)) pass0 rfl (pa_cons (pe_tup (pa_cons pe_str (pa_cons (pe_un un_neg pe_int) pa_nil))) pa_nil)) pa_nil)) (by first | rfl | exact sw2 rfl rfl rfl rfl (by decide)))
  (pss_one (ps_ret (pe_and (pe_cmpR (op_eqD hr1.units) (pe_fn D_parting (hr.mono (by omega)) pass0 rfl (pa_cons (pv 4) (pa_cons (pv 5) pa_nil))) (pe_tup (pa_cons (pe_tup (pa_cons pe_int (pa_cons pe_int pa_nil))) (pa_cons pe_int pa_nil))) (nomark _)) (pe_one (pe_cmpR (op_eqD hr1.units) (pe_fn D_parting (hr.mono (by omega)) pass0 rfl (pa_cons (pv 3) (pa_cons (pv 2) pa_nil))) (pe_tup (pa_cons (pe_tup (pa_cons pe_int (pa_cons pe_int pa_nil))) (pa_cons pe_int pa_nil))) (nomark _)))))))))))), ?_⟩
    have one : ∀ {σ : L2.St} {H : Hp} {tu : TE} {r : Rl}, EvRl K tu σ H r → r.fit = true → r.parts ≤ 5 → r.bys ≤ 4 → EvC K C_Feast C_Calendar (tCall (spOneR K C_Feast C_Calendar) [] E0 (tCons tu tNil)) σ H [(r, false)] := fun h1 h2 h3 h4 => ec_one h1 h2 h3 h4
    refine q_parX (tA_hd (one (er_wk (k := 0) ev_c) (by decide +kernel) (by decide +kernel) (by decide +kernel) _ (Ex.refl _) _ fun c1 H1 hc1 e1 hA1 => tA_lst (one (er_fs (k := 0) ev_c) (by decide +kernel) (by decide +kernel) (by decide +kernel) _ (Ex.refl _) _ fun c2 H2 hc2 e2 hB2 => ⟨_, _, rfl, ?_⟩)))
    have hA2 := hA1.mono e2
    refine q_not (et_or00 (et_neD0 (ed_way (rows := kStart) (ss := kFirst) (ex_cv (ev_var rfl) hA2) (ex_cv (ev_var rfl) hB2) (by decide +kernel) (by decide +kernel) (by decide +kernel) (by decide +kernel) kn_part1) (ed_tup (eda_cons (ed_tup (eda_cons (ed_int ev_c) (eda_cons (ed_int ev_c) eda_nil)) (by show 2 ≤ 100000; decide)) (eda_cons (ed_int ev_c) eda_nil)) (by show 2 ≤ 100000; decide)) rfl rfl (by decide +kernel))
      (et_some0 (ev_noway (rows := kFirst) (ss := kFirst) (ex_cv (ev_var rfl) hB2) (ex_cv (ev_var rfl) hB2) (by decide +kernel) (by decide +kernel) (by decide +kernel) (by decide +kernel) kn_part2))) fun H3 e3 => ?_
    have hA3 := hA2.mono e3
    refine q_parX (tA_hd (one (er_wk (k := 1) ev_c) (by decide +kernel) (by decide +kernel) (by decide +kernel) _ (Ex.refl _) _ fun c3 H4 hc3 e4 hO4 => tA_lst (one (er_wk (k := -1) (ev_un ev_c ru_neg)) (by decide +kernel) (by decide +kernel) (by decide +kernel) _ (Ex.refl _) _ fun c4 H5 hc4 e5 hL5 => ⟨_, _, rfl, ?_⟩)))
    have hO5 := hO4.mono e5
    have hA5 := (hA3.mono e4).mono e5
    have land : ∀ {σ : L2.St} {H : Hp} {a b : Int}, EvD K (tTup (tCons (tC (.int a)) (tCons (tC (.int b)) tNil))) σ H (.tuple [.int a, .int b]) := ed_tup (eda_cons (ed_int ev_c) (eda_cons (ed_int ev_c) eda_nil)) (by show 2 ≤ 100000; decide)
    refine q_not (et_or00 (et_neD0 (ed_meet (rows := kOne) (ss := kLastw) (ex_cv (ev_var rfl) hO5) (ex_cv (ev_var rfl) hL5) (by decide +kernel) (by decide +kernel) (by decide +kernel) (by decide +kernel) kn_meet1 kn_meet2) (ed_tup (eda_cons land (eda_cons land eda_nil)) (by show 2 ≤ 100000; decide)) rfl rfl (by decide +kernel))
      (et_not0 (et_B (ev_is (ev_kalike (rows := kOne) (ss := kBeh) (ex_cv (ev_var rfl) hO5) (ex_c (one (er_bh (er_wk (k := 0) ev_c) fun _ => ev_c) (by decide +kernel) (by decide +kernel) (by decide +kernel))) (by decide +kernel) (by decide +kernel) (by decide +kernel) (by decide +kernel)) (congrArg (fun o => V.bl (Option.isNone o)) kn_alike))))) fun H6 e6 => ?_
    have hO6 := hO5.mono e6
    have hA6 := hA5.mono e6
    have hL6 := hL5.mono e6
    refine q_not (et_or00 (et_neD0 (ed_meet (rows := kStart) (ss := kMon) (ex_cv (ev_var rfl) hA6) (ex_c (one (er_md (k := -1) (ev_un ev_c ru_neg)) (by decide +kernel) (by decide +kernel) (by decide +kernel))) (by decide +kernel) (by decide +kernel) (by decide +kernel) (by decide +kernel) kn_meet3 kn_meet4) (ed_tup (eda_cons land (eda_cons (ed_non ev_c) eda_nil)) (by show 2 ≤ 100000; decide)) rfl rfl (by decide +kernel))
      (et_neD0 (ed_meet (rows := kOne) (ss := kStart) (ex_cv (ev_var rfl) hO6) (ex_cv (ev_var rfl) hA6) (by decide +kernel) (by decide +kernel) (by decide +kernel) (by decide +kernel) kn_meet5 kn_meet6) (ed_tup (eda_cons (ed_non ev_c) (eda_cons land eda_nil)) (by show 2 ≤ 100000; decide)) rfl rfl (by decide +kernel))) fun H7 e7 => ?_
    have hO7 := hO6.mono e7
    have hL7 := hL6.mono e7
    refine q_parX (tA_hd (one (er_md (k := 2) ev_c) (by decide +kernel) (by decide +kernel) (by decide +kernel) _ (Ex.refl _) _ fun c5 H8 hc5 e8 hT8 => tA_lst (one (er_md (k := -1) (ev_un ev_c ru_neg)) (by decide +kernel) (by decide +kernel) (by decide +kernel) _ (Ex.refl _) _ fun c6 H9 hc6 e9 hM9 => ⟨_, _, rfl, ?_⟩)))
    have hT9 := hT8.mono e9
    have hO9 := (hO7.mono e8).mono e9
    have hL9 := (hL7.mono e8).mono e9
    refine s_ret (ev_and11 (ev_eqD1 (ed_way (rows := kTwo) (ss := kMon) (ex_cv (ev_var rfl) hT9) (ex_cv (ev_var rfl) hM9) (by decide +kernel) (by decide +kernel) (by decide +kernel) (by decide +kernel) kn_part3) (ed_tup (eda_cons land (eda_cons (ed_int ev_c) eda_nil)) (by show 2 ≤ 100000; decide)) rfl rfl (by decide +kernel))
      (ev_eqD1 (ed_way (rows := kLastw) (ss := kOne) (ex_cv (ev_var rfl) hL9) (ex_cv (ev_var rfl) hO9) (by decide +kernel) (by decide +kernel) (by decide +kernel) (by decide +kernel) kn_part4) (ed_tup (eda_cons land (eda_cons (ed_int ev_c) eda_nil)) (by show 2 ≤ 100000; decide)) rfl rfl (by decide +kernel))) fun H10 e10 => k H10
theorem dn_decided (T : Txt P w K mg C_BadRule C_BadRules C_BadLand C_BadDay C_BadNumber C_BadSeen C_BadText C_Feast C_Calendar C_Line C_Walk) (CF : Cls1 K C_Feast ["told", "bys"]) (IF : ClsI K C_Feast) (CC : Cls1 K C_Calendar ["rows", "near"]) : Dn P w K mg base CX0 "_law_decided" 13 [] spKnown := T.f_l_decided.dn fun _ _ F _ _ => ok_decided F T CF IF CC
end
end WF

set_option Elab.async false
set_option linter.all false
set_option maxRecDepth 100000
set_option maxHeartbeats 2000000
/-! the known forms; what was seen, a walk, a text -/
namespace WF
open PySem L2 Evl
def kText : Rows := [(.wk 0, false), (.wo (.bh (.fs (-1)) 2) (.md 2), true)]
theorem kText_ok : ∀ r ∈ kText, r.1.fit = true ∧ r.1.parts ≤ 5 := by decide +kernel
theorem kText_dep : ∀ r ∈ kText, r.1.dep ≤ 50 := by decide +kernel
def kPr : Int → Bool := calDay ((2 : Nat) : Int) ((3 : Nat) : Int) kFirst
theorem kn_gone1 : goneL kPr 0 5 = [.int 0, .int 4] := by decide +kernel
theorem kn_gone2 : goneL kPr 5 2 = [.int 6] := by decide +kernel
section
variable {K : PySem.W.Frag} {σ : L2.St} {H : Hp} {ta tb tc te tu : TE} {tA : TA} {t : TT} {D : Ends} {tw tz : TS} {CF CC CW CL CR CT : Addr} {E : XK} {rows : Rows} {w m : Nat}
theorem ite_noB {A B : Prop} (h : B) : if false = true then A else B := h
theorem tOp_raw {r : R2} {Q : VK} (h : ta σ H fun x H1 => tb σ H1 fun y H2 => r x y H2 Q) : tOp r ta tb σ H Q := h
theorem tLst_raw {Q : VK} (h : tA σ H fun xs H1 => xs.length ≤ sizeLine ∧ ∀ p, H1 p = none → Q (.ref p) (upd H1 p (.lst xs))) : tLst tA σ H Q := h
theorem q_ifRaw (h : t σ H fun b H1 => if b = true then tw { D with nx := tz D } σ H1 else tz D σ H1) : tSeq (tIfS t tw tNext) tz D σ H := h
theorem q_parF3 {r1 r2 r3 : Rl} {i j l : Nat} (h1 : EvR ta σ H fun p H2 => FeastAt K CF H2 p r1) (h2 : EvR tb σ H fun p H2 => FeastAt K CF H2 p r2) (h3 : EvR tc σ H fun p H2 => FeastAt K CF H2 p r3)
    (k : ∀ a b c H1, Ex H H1 → FeastAt K CF H1 a r1 → FeastAt K CF H1 b r2 → FeastAt K CF H1 c r3 → tz D (((σ.set i (some (.ref a))).set j (some (.ref b))).set l (some (.ref c))) H1) :
    tSeq (tPar3 i j l (tCons ta (tCons tb (tCons tc tNil)))) tz D σ H :=
  h1 H (Ex.refl H) _ fun a H1 ha e1 k1 => h2 H1 e1 _ fun b H2 hb e2 k2 => h3 H2 (e1.trans e2) _ fun c H3 hc e3 k3 => ⟨_, _, _, rfl, k a b c _ ((e1.trans e2).trans e3) ((k1.mono e2).mono e3) (k2.mono e3) k3⟩
theorem ef_bin {r s : Rl} {mk : Rl → Rl → Rl} (h1 : EvF K CF ta σ H r) (h2 : EvF K CF tb σ H s) (f1 : r.fit = true) (f2 : s.fit = true) (ok : okRl (mk r s) = true) : EvR (tBinS CF (spOp K CF CR mk) (fun _ => E0) ta tb) σ H fun p H2 => FeastAt K CF H2 p (mk r s) := fun H1 e Q q =>
  h1 H1 e _ fun x H2 e2 ⟨a, hx, ha⟩ => h2 H2 (e.trans e2) _ fun y H3 e3 ⟨b, hy, hb⟩ => by
    subst hx hy
    have ha3 := ha.mono e3
    obtain ⟨dx, v, ho, _⟩ := id ha3
    obtain ⟨dy, u, ho2, _⟩ := id hb
    exact ⟨a, b, dx, _, dy, _, rfl, rfl, ho, ho2, a, b, r, s, rfl, ha3, hb, f1, f2, (fun hn => by rw [ok] at hn; cases hn), fun _ p H4 hp e4 hf => ⟨p, rfl, q p H4 (fresh_back (e2.trans e3) hp) ((e2.trans e3).trans e4) hf⟩⟩
theorem ef_moved {r : Rl} {z : Int} (h1 : EvF K CF ta σ H r) (f1 : r.fit = true) (hz : byOk z = true) (ok : okRl (.bh r z) = true) : EvR (tMeth CF "moved" (spMoved K CF CR) [] E ta (tCons (tC (.int z)) tNil)) σ H fun p H2 => FeastAt K CF H2 p (.bh r z) := fun H1 e Q q =>
  h1 H1 e _ fun x H2 e2 ⟨a, hx, ha⟩ => by
    subst hx
    obtain ⟨dx, v, ho, hv⟩ := id ha
    refine ⟨a, dx, _, rfl, ho, feastF_no _ _ (by decide +kernel) (by decide +kernel), a, _, r, some z, rfl, ha, f1, .int z, (fun hn => ?_), fun z' hz' _ _ p' H4 hp' e4 hf => ?_⟩
    · rw [hn z rfl hz] at ok
      cases ok
    · cases hz'
      exact q p' H4 (fresh_back e2 hp') (e2.trans e4) hf
theorem er_kwalk (h1 : EvCX K CF CC ta σ H rows) (h2 : EvN K tb σ H w m) (hd : depMax rows < 5) : EvR (tMake CW (spWalk K CF CC CW CL) [] E (tCons ta (tCons tb tNil))) σ H fun p H2 => ∃ L, WalkAt K CW H2 p L (w * m) (calDay w m rows) [(0, 0)] := fun H1 e Q q =>
  h1 H1 e _ fun c H2 e2 hc => h2 H2 (e.trans e2) _ fun l H3 e3 hl => fun x dx hx hdx hne => by
    have e4 : Ex H3 (upd (upd H3 dx (.own x)) x (.ins CW dx [])) := ex_made hx hdx
    refine ⟨x, dx, c, l, some (w, m), rfl, upd_same, hl.mono e4, (fun h => nomatch h), fun w' m' hw => ?_⟩
    cases hw
    exact ⟨rows, (hc.mono e3).mono e4, hd, fun H' L hL eb hW => ⟨rfl, q x H' (fresh_back (e2.trans e3) hx) ((e2.trans e3).trans (eb.old e4 hx)) ⟨L, hW⟩⟩⟩
theorem ev_kwrite (h : EvCX K CF CC ta σ H rows) (hok : ∀ r ∈ rows, r.1.fit = true ∧ r.1.parts ≤ 5) (hl : rows.length ≤ 3) : Ev (tCall (spWrite K CF CC) [] E (tCons ta tNil)) σ H (.str (textS rows)) := fun H1 e Q q =>
  h H1 e _ fun p H2 e2 hC => ⟨p, rows, rfl, hC, hok, hl, fun H3 e3 => q H3 (e2.trans e3)⟩
theorem ev_sameS {a b : Str} (h1 : Ev ta σ H (.str a)) (h2 : Ev tb σ H (.str b)) (e : a = b) : Ev (tOp rEq ta tb) σ H (.bl true) := by
  subst e
  exact ev_is (ev_op h1 h2 (rv_eq rfl)) (by rw [decide_eq_true rfl])
theorem er_kread {z : Str} (hz : Ev ta σ H (.str z)) (ez : textS rows = z) (hok : ∀ r ∈ rows, r.1.fit = true ∧ r.1.parts ≤ 5) (hl : rows.length ≤ 3) (hb : rowsBys rows ≤ 4) : EvR (tCall (spRead K CF CC CT) [] E (tCons ta tNil)) σ H fun p H2 => CalAt K CF CC H2 (.ref p) rows := by
  subst ez
  exact fun H1 e Q q => hz H1 e _ fun H2 e2 => by
    have h4 := text_len hok hl
    have hr := readT_written hl hok hb
    refine ⟨textS rows, rfl, Nat.le_trans h4 (by decide), fun x hx => Nat.le_trans ((lines_small _).2 x hx) (Nat.le_trans h4 (by decide)), fun i j hbad => ?_, fun rows' hgood p H3 hp e3 hC => ?_⟩
    · rw [hr] at hbad
      cases hbad
    · rw [hr] at hgood
      cases hgood
      exact q p H3 (fresh_back e2 hp) (e2.trans e3) hC
theorem ev_ceqK {b : Addr} {ss : Rows} (h1 : EvR ta σ H fun p H2 => CalAt K CF CC H2 (.ref p) rows) (h2 : Ev tb σ H (.ref b)) (hb : CalAt K CF CC H (.ref b) ss) (d1 : ∀ r ∈ rows, r.1.dep ≤ 50) (d2 : ∀ r ∈ ss, r.1.dep ≤ 50) : Ev (tOp (rEqO K CC (spCEq K CF CC) E) ta tb) σ H (.bl (eqRows rows ss)) := fun H1 e Q q =>
  h1 H1 e _ fun a H2 ha0 e2 hA0 => h2 H2 (e.trans e2) _ fun H3 e3 => by
    have hA := hA0.mono e3
    have hB := hb.mono ((e.trans e2).trans e3)
    obtain ⟨a', dx, v, ea, ho, hv⟩ := id hA
    cases ea
    obtain ⟨p', dy, u, ep, ho2, hu⟩ := id hB
    cases ep
    exact ⟨a, b, dx, _, rfl, rfl, ho, .inl ⟨dy, _, ho2⟩, a, b, rows, rfl, hA, .inl ⟨ss, hB, d1, d2, fun H4 e4 => ⟨_, rfl, q H4 ((e2.trans e3).trans e4)⟩⟩⟩
end
section
variable {P : Program} {w : World} {K : PySem.W.Frag} {mg : Str → Option Value} {base : Heap} {C_BadRule C_BadRules C_BadLand C_BadDay C_BadNumber C_BadSeen C_BadText C_Feast C_Calendar C_Line C_Walk : Addr} {f : Addr} {fd : FuncData}
theorem ok_forms (F : Fun K "_law_forms" "_law_forms" s_l_forms f fd) (T : Txt P w K mg C_BadRule C_BadRules C_BadLand C_BadDay C_BadNumber C_BadSeen C_BadText C_Feast C_Calendar C_Line C_Walk) (CF : Cls1 K C_Feast ["told", "bys"]) (IF : ClsI K C_Feast) (CC : Cls1 K C_Calendar ["rows", "near"]) (hsf : PySem.W.selfFirst K C_Feast = true) : FnOk P w K mg base CX0 13 f fd [] spKnown := by
  have D_form : Dn P w K mg base CX0 "form" 8 ["calendar"] (spForm K C_Feast C_Calendar) := dn_form T CF CC
  have D_needless : Dn P w K mg base CX0 "needless" 9 ["calendar"] (spNeedless K C_Feast C_Calendar) := dn_needless T CF CC
  have D_swaps : Dn P w K mg base CX0 "swaps" 9 ["calendar"] (spSwaps K C_Feast C_Calendar) := dn_swaps T CF CC
  have M_Feast : Mn P w K mg base (L2.CX P w) C_Feast 9 ["self", "rule"] (spFeast K C_Feast C_BadRule) := mn_feast T CF
  have M_Calendar : Mn P w K mg base CX0 C_Calendar 2 ["self", "rules"] (spCal K C_Feast C_Calendar) := mn_cal T CF IF CC
  have N_Feast_and : Mtn P w K mg base (L2.CX P w) C_Feast "__and__" 11 ["self", "other"] (spOp K C_Feast C_BadRule .bo) := mt_and T CF
  have N_Feast_sub : Mtn P w K mg base (L2.CX P w) C_Feast "__sub__" 11 ["self", "other"] (spOp K C_Feast C_BadRule .wo) := mt_sub T CF
  refine F.ok sc_l_forms (fun vs H Q E h => ?_) (fun cdv A outer s H vs Q E hr h => ?_)
  · obtain ⟨rfl, _⟩ := h
    rfl
  · obtain ⟨rfl, k⟩ := h
    have hr1 : Room 1 _ := hr.mono (by omega)
    have hu := hu_of hr1
    refine ⟨_, (pss_cons (ps_par3 (i := 0) (j := 1) (l := 2) (by rfl) sc_l_forms.nd rfl rfl rfl (by decide) (by decide) (by decide) rfl rfl rfl (pa_cons (pe_mk M_Feast (hr.mono (by omega)) T.c_Feast passL rfl (pa_cons (pe_tup (pa_cons pe_str (pa_cons pe_int pa_nil))) pa_nil)) (pa_cons (pe_mk M_Feast (hr.mono (by omega)) T.c_Feast passL rfl (pa_cons (pe_tup (pa_cons pe_str (pa_cons pe_int pa_nil))) pa_nil)) (pa_cons (pe_mk M_Feast (hr.mono (by omega)) T.c_Feast passL rfl (pa_cons (pe_tup (pa_cons pe_str (pa_cons pe_int pa_nil))) pa_nil)) pa_nil))) (by first | rfl | exact sw3 rfl rfl rfl rfl rfl rfl (by decide) (by decide) (by decide)))
  (pss_cons (ps_if (pt_cmpR (op_neD hr1.units) (pe_fn D_form (hr.mono (by omega)) pass0 rfl (pa_cons (pe_mk M_Calendar (hr.mono (by omega)) T.c_Calendar pass0 rfl (pa_cons (pe_tup (pa_cons (pe_tup (pa_cons (pv 0) (pa_cons pe_bl pa_nil))) (pa_cons (pe_tup (pa_cons (pv 1) (pa_cons pe_bl pa_nil))) pa_nil))) pa_nil)) pa_nil)) (pe_tup (pa_cons pe_int (pa_cons pe_int (pa_cons (pe_un un_neg pe_int) pa_nil)))) (nomark _)) (pss_one (ps_ret pe_bl))
  pss_nil)
  (pss_cons (ps_if (pt_cmpR (op_neD hr1.units) (pe_fn D_form (hr.mono (by omega)) pass0 rfl (pa_cons (pe_mk M_Calendar (hr.mono (by omega)) T.c_Calendar pass0 rfl (pa_cons (pe_tup (pa_cons (pe_tup (pa_cons (pv 0) (pa_cons pe_bl pa_nil))) (pa_cons (pe_tup (pa_cons (pv 1) (pa_cons pe_bl pa_nil))) pa_nil))) pa_nil)) pa_nil)) (pe_tup (pa_cons pe_int (pa_cons pe_int (pa_cons pe_int pa_nil)))) (nomark _)) (pss_one (ps_ret pe_bl))
  pss_nil)
  (pss_cons (ps_if (PW.pt (pw_or (pt_cmpR (op_neD hr1.units) (pe_fn D_form (hr.mono (by omega)) pass0 rfl (pa_cons (pe_mk M_Calendar (hr.mono (by omega)) T.c_Calendar pass0 rfl (pa_cons (pe_tup (pa_cons (pe_tup (pa_cons (pe_binS N_Feast_sub hsf (hr.mono (by omega)) (fun σ pins H s e s' I h => passL pins σ H s e s' I h) (pv 0) (pv 2)) (pa_cons pe_bl pa_nil))) pa_nil)) pa_nil)) pa_nil)) (pe_tup (pa_cons pe_int (pa_cons (pe_un un_neg pe_int) (pa_cons pe_int pa_nil)))) (nomark _)) (pw_or1 (pt_cmpR (op_neD hr1.units) (pe_fn D_form (hr.mono (by omega)) pass0 rfl (pa_cons (pe_mk M_Calendar (hr.mono (by omega)) T.c_Calendar pass0 rfl (pa_cons (pe_tup pa_nil) pa_nil)) pa_nil)) (pe_tup (pa_cons pe_int (pa_cons pe_int (pa_cons pe_int pa_nil)))) (nomark _))))) (pss_one (ps_ret pe_bl))
  pss_nil)
  (pss_cons (ps_set (i := 3) sc_l_forms.nd rfl (by first | exact Or.inl rfl | exact Or.inr rfl) (pe_mk M_Calendar (hr.mono (by omega)) T.c_Calendar pass0 rfl (pa_cons (pe_tup (pa_cons (pe_tup (pa_cons (pv 0) (pa_cons pe_bl pa_nil))) (pa_cons (pe_tup (pa_cons (pv 2) (pa_cons pe_bl pa_nil))) pa_nil))) pa_nil)))
  (pss_cons (ps_if (PW.pt (pw_or (pt_cmpR (op_neD hr1.units) (pe_fn D_needless (hr.mono (by omega)) pass0 rfl (pa_cons (pv 3) pa_nil)) (pe_lst (pa_cons pe_int pa_nil)) (nomark _)) (pw_or (pt_cmpR (op_neD hr1.units) (pe_fn D_swaps (hr.mono (by omega)) pass0 rfl (pa_cons (pv 3) pa_nil)) (pe_lst (pa_cons pe_int pa_nil)) (nomark _)) (pw_or1 (pt_cmpR (op_neD hr1.units) (pe_fn D_needless (hr.mono (by omega)) pass0 rfl (pa_cons (pe_mk M_Calendar (hr.mono (by omega)) T.c_Calendar pass0 rfl (pa_cons (pe_tup (pa_cons (pe_tup (pa_cons (pv 0) (pa_cons pe_bl pa_nil))) (pa_cons (pe_tup (pa_cons (pv 2) (pa_cons pe_bl pa_nil))) pa_nil))) pa_nil)) pa_nil)) (pe_lst pa_nil) (nomark _)))))) (pss_one (ps_ret pe_bl))
  pss_nil)
  (pss_cons (ps_if (pt_cmpR (op_neD hr1.units) (pe_fn D_swaps (hr.mono (by omega)) pass0 rfl (pa_cons (pe_mk M_Calendar (hr.mono (by omega)) T.c_Calendar pass0 rfl (pa_cons (pe_tup (pa_cons (pe_tup (pa_cons (pv 0) (pa_cons pe_bl pa_nil))) (pa_cons (pe_tup (pa_cons (pv 1) (pa_cons pe_bl pa_nil))) pa_nil))) pa_nil)) pa_nil)) (pe_lst pa_nil) (nomark _)) (pss_one (ps_ret pe_bl))
  pss_nil)
  (pss_one (ps_ret (pe_cmpR (op_eqD hr1.units) (pe_fn D_form (hr.mono (by omega)) pass0 rfl (pa_cons (pe_mk M_Calendar (hr.mono (by omega)) T.c_Calendar pass0 rfl (pa_cons (pe_tup (pa_cons (pe_tup (pa_cons (pe_binS N_Feast_and hsf (hr.mono (by omega)) (fun σ pins H s e s' I h => passL pins σ H s e s' I h) (pv 0) (pv 1)) (pa_cons pe_bl pa_nil))) pa_nil)) pa_nil)) pa_nil)) (pe_tup (pa_cons pe_int (pa_cons pe_int (pa_cons pe_int pa_nil)))) (nomark _))))))))))), ?_⟩
    refine q_parF3 (er_feastX (er_wk (k := 0) ev_c) (by decide +kernel) (by decide +kernel) (by decide +kernel)) (er_feastX (er_md (k := 0) ev_c) (by decide +kernel) (by decide +kernel) (by decide +kernel)) (er_feastX (er_fs (k := 0) ev_c) (by decide +kernel) (by decide +kernel) (by decide +kernel)) fun a b c H1 e1 hA hB hC => ?_
    have three : ∀ {σ : L2.St} {H : Hp} {a b c : Int} {t1 t2 t3 : TE}, Ev t1 σ H (.int a) → Ev t2 σ H (.int b) → Ev t3 σ H (.int c) → EvD K (tTup (tCons t1 (tCons t2 (tCons t3 tNil)))) σ H (.tuple [.int a, .int b, .int c]) := fun h1 h2 h3 => ed_tup (eda_cons (ed_int h1) (eda_cons (ed_int h2) (eda_cons (ed_int h3) eda_nil))) (by show 3 ≤ 100000; decide)
    refine q_not (et_neD0 (ed_form (rows := kSM) (ex_c (ec_rows (ews_cons (ew_row (ef_var (ev_var rfl) hA)) (ews_cons (ew_row (ef_var (ev_var rfl) hB)) ews_nil)) (by decide) (by decide +kernel))) (by decide +kernel) (by decide +kernel) (by decide +kernel) fun x y z h => kn_form1 h) (three ev_c ev_c (ev_un ev_c ru_neg)) rfl rfl (by decide +kernel)) fun H2 e2 => ?_
    have hA2 := hA.mono e2
    have hB2 := hB.mono e2
    have hC2 := hC.mono e2
    refine q_not (et_neD0 (ed_form (rows := kBoth) (ex_c (ec_rows (ews_cons (ew_row (ef_var (ev_var rfl) hA2)) (ews_cons (ew_row (ef_var (ev_var rfl) hB2)) ews_nil)) (by decide) (by decide +kernel))) (by decide +kernel) (by decide +kernel) (by decide +kernel) fun x y z h => kn_form2 h) (three ev_c ev_c ev_c) rfl rfl (by decide +kernel)) fun H3 e3 => ?_
    have hA3 := hA2.mono e3
    have hB3 := hB2.mono e3
    have hC3 := hC2.mono e3
    refine q_not (et_or00 (et_neD0 (ed_form (rows := kSF) (ex_c (ec_rows (ews_cons (ew_row (ef_of (ef_bin (mk := .wo) (ef_var (ev_var rfl) hA3) (ef_var (ev_var rfl) hC3) (by decide +kernel) (by decide +kernel) (by decide +kernel)))) ews_nil) (by decide) (by decide +kernel))) (by decide +kernel) (by decide +kernel) (by decide +kernel) fun x y z h => kn_form3 h) (three ev_c (ev_un ev_c ru_neg) ev_c) rfl rfl (by decide +kernel))
      (et_neD0 (ed_form (rows := []) (ex_c (ec_rows ews_nil (by decide) (by decide +kernel))) (by decide +kernel) (by decide +kernel) (by decide +kernel) fun x y z h => kn_form4 h) (three ev_c ev_c ev_c) rfl rfl (by decide +kernel))) fun H4 e4 => ?_
    have hA4 := hA3.mono e4
    have hB4 := hB3.mono e4
    have hC4 := hC3.mono e4
    refine q_asgR (ec_rows (rows := kSF2) (ews_cons (ew_row (ef_var (ev_var rfl) hA4)) (ews_cons (ew_row (ef_var (ev_var rfl) hC4)) ews_nil)) (by decide) (by decide +kernel)) fun g H5 hg e5 hG5 => ?_
    have hA5 := hA4.mono e5
    have hB5 := hB4.mono e5
    have hC5 := hC4.mono e5
    refine q_not (et_or00 (et_neD0 (ed_needless (rows := kSF2) (r := [1]) (ex_cv (ev_var rfl) hG5) (by decide +kernel) (by decide) (by decide +kernel) kn_need1) (ed_lst (eda_cons (ed_int ev_c) eda_nil) (by show 1 ≤ 100000; decide)) rfl rfl (by decide +kernel))
      (et_or00 (et_neD0 (ed_swaps (rows := kSF2) (r := [0]) (ex_cv (ev_var rfl) hG5) (by decide +kernel) (by decide) (by decide +kernel) kn_swap1) (ed_lst (eda_cons (ed_int ev_c) eda_nil) (by show 1 ≤ 100000; decide)) rfl rfl (by decide +kernel))
        (et_neD0 (ed_needless (rows := kSFT) (r := []) (ex_c (ec_rows (ews_cons (ew_row (ef_var (ev_var rfl) hA5)) (ews_cons (ew_row (ef_var (ev_var rfl) hC5)) ews_nil)) (by decide) (by decide +kernel))) (by decide +kernel) (by decide) (by decide +kernel) kn_need2) (ed_lst eda_nil (by show 0 ≤ 100000; decide)) rfl rfl (by decide +kernel)))) fun H6 e6 => ?_
    have hA6 := hA5.mono e6
    have hB6 := hB5.mono e6
    refine q_not (et_neD0 (ed_swaps (rows := kBoth) (r := []) (ex_c (ec_rows (ews_cons (ew_row (ef_var (ev_var rfl) hA6)) (ews_cons (ew_row (ef_var (ev_var rfl) hB6)) ews_nil)) (by decide) (by decide +kernel))) (by decide +kernel) (by decide) (by decide +kernel) kn_swap2) (ed_lst eda_nil (by show 0 ≤ 100000; decide)) rfl rfl (by decide +kernel)) fun H7 e7 => ?_
    have hA7 := hA6.mono e7
    have hB7 := hB6.mono e7
    refine s_ret (ev_eqD1 (ed_form (rows := kSaM) (ex_c (ec_rows (ews_cons (ew_row (ef_of (ef_bin (mk := .bo) (ef_var (ev_var rfl) hA7) (ef_var (ev_var rfl) hB7) (by decide +kernel) (by decide +kernel) (by decide +kernel)))) ews_nil) (by decide) (by decide +kernel))) (by decide +kernel) (by decide +kernel) (by decide +kernel) fun x y z h => kn_form5 h) (three ev_c ev_c ev_c) rfl rfl (by decide +kernel)) fun H8 e8 => k H8
theorem dn_forms (T : Txt P w K mg C_BadRule C_BadRules C_BadLand C_BadDay C_BadNumber C_BadSeen C_BadText C_Feast C_Calendar C_Line C_Walk) (CF : Cls1 K C_Feast ["told", "bys"]) (IF : ClsI K C_Feast) (CC : Cls1 K C_Calendar ["rows", "near"]) (hsf : PySem.W.selfFirst K C_Feast = true) : Dn P w K mg base CX0 "_law_forms" 13 [] spKnown := T.f_l_forms.dn fun _ _ F _ _ => ok_forms F T CF IF CC hsf
theorem ok_seen_known (F : Fun K "_law_seen_known" "_law_seen_known" s_l_seen_known f fd) (T : Txt P w K mg C_BadRule C_BadRules C_BadLand C_BadDay C_BadNumber C_BadSeen C_BadText C_Feast C_Calendar C_Line C_Walk) (CF : Cls1 K C_Feast ["told", "bys"]) (IF : ClsI K C_Feast) (CC : Cls1 K C_Calendar ["rows", "near"]) (IC : ClsI K C_Calendar) (CI : Cls1 K C_Line lineFs) (CW : Cls1 K C_Walk ["figure", "round_days", "rows"]) (hsf : PySem.W.selfFirst K C_Feast = true)
    (hkF : PySem.W.kitOne K (.type "tuple") (.ref C_Feast) = some false) (hkC : PySem.W.kitOne K (.type "tuple") (.ref C_Calendar) = some false) : FnOk P w K mg base CX0 16 f fd [] spKnown := by
  have D_l_one : Dn P w K mg base CX0 "_law_one" 11 ["_law_rule"] (spOneR K C_Feast C_Calendar) := dn_oneR T CF IF CC
  have D_fitting : Dn P w K mg base (L2.CX P w) "fitting" 8 ["calendar", "seen", "most"] (spFit K C_Feast C_Calendar C_BadSeen) := dn_fitting T CF CC
  have D_asking : Dn P w K mg base (L2.CX P w) "asking" 9 ["calendar", "seen", "most"] (spAsk K C_Feast C_Calendar C_BadSeen) := dn_asking T CF CC
  have M_Walk : Mn P w K mg base (L2.CX P w) C_Walk 8 ["self", "calendar", "land"] (spWalk K C_Feast C_Calendar C_Walk C_BadLand) := mn_walk T CF CC CW
  have N_Walk_go : Mtn P w K mg base (L2.CX P w) C_Walk "go" 1 ["self", "days"] (spGo K C_Walk C_BadNumber) := mt_go T CW
  have N_Walk_day : Mtn P w K mg base CX0 C_Walk "day" 1 ["self"] (spDayW K C_Walk) := mt_dayW T CW
  have N_Walk_feasts : Mtn P w K mg base CX0 C_Walk "feasts" 1 ["self"] (spFeastsW K C_Walk) := mt_feastsW T CW
  have N_Walk_undo : Mtn P w K mg base CX0 C_Walk "undo" 1 ["self"] (spUndo K C_Walk) := mt_undo T CW
  have M_Feast : Mn P w K mg base (L2.CX P w) C_Feast 9 ["self", "rule"] (spFeast K C_Feast C_BadRule) := mn_feast T CF
  have M_Calendar : Mn P w K mg base CX0 C_Calendar 2 ["self", "rules"] (spCal K C_Feast C_Calendar) := mn_cal T CF IF CC
  have N_Feast_sub : Mtn P w K mg base (L2.CX P w) C_Feast "__sub__" 11 ["self", "other"] (spOp K C_Feast C_BadRule .wo) := mt_sub T CF
  have N_Feast_moved : Mtn P w K mg base (L2.CX P w) C_Feast "moved" 11 ["self", "by"] (spMoved K C_Feast C_BadRule) := mt_moved T CF
  have D_write : Dn P w K mg base CX0 "write" 8 ["calendar"] (spWrite K C_Feast C_Calendar) := dn_write T CF CC
  have D_read : Dn P w K mg base (L2.CX P w) "read" 14 ["text"] (spRead K C_Feast C_Calendar C_BadText) := dn_read T CF IF CC CI
  have N_Calendar_eq : Mtn P w K mg base CX0 C_Calendar "__eq__" 5 ["self", "other"] (spCEq K C_Feast C_Calendar) := mt_ceq T CF IF hkF CC IC hkC
  have R_Calendar_reach : Prn P w K mg base C_Calendar "reach" 1 (spPReach K C_Feast C_Calendar) := pr_reach T CC
  refine F.ok sc_l_seen_known (fun vs H Q E h => ?_) (fun cdv A outer s H vs Q E hr h => ?_)
  · obtain ⟨rfl, _⟩ := h
    rfl
  · obtain ⟨rfl, k⟩ := h
    have hr1 : Room 1 _ := hr.mono (by omega)
    have hu := hu_of hr1
    refine ⟨_, (pss_cons (ps_set (i := 0) sc_l_seen_known.nd rfl (by first | exact Or.inl rfl | exact Or.inr rfl) (pe_fn D_l_one (hr.mono (by omega)) pass0 rfl (pa_cons (pe_tup (pa_cons pe_str (pa_cons pe_int pa_nil))) pa_nil)))
  (pss_cons (ps_if (PW.pt (pw_or (pt_cmpR (op_neD hr1.units) (pe_fn D_fitting (hr.mono (by omega)) passL rfl (pa_cons (pv 0) (pa_cons (pe_lst (pa_cons (pe_tup (pa_cons pe_int (pa_cons pe_bl pa_nil))) (pa_cons (pe_tup (pa_cons pe_int (pa_cons pe_bl pa_nil))) pa_nil))) (pa_cons pe_int pa_nil)))) (pe_lst (pa_cons (pe_tup (pa_cons pe_int (pa_cons pe_int pa_nil))) (pa_cons (pe_tup (pa_cons pe_int (pa_cons pe_int pa_nil))) pa_nil))) (nomark _)) (pw_or1 (pt_cmpR op_ne (pe_fn D_asking (hr.mono (by omega)) passL rfl (pa_cons (pv 0) (pa_cons (pe_lst (pa_cons (pe_tup (pa_cons pe_int (pa_cons pe_bl pa_nil))) pa_nil)) (pa_cons pe_int pa_nil)))) pe_int (nomark _))))) (pss_one (ps_ret pe_bl))
  pss_nil)
  (pss_cons (ps_if (PW.pt (pw_or (pt_cmpR op_notN (pe_fn D_asking (hr.mono (by omega)) passL rfl (pa_cons (pv 0) (pa_cons (pe_lst (pa_cons (pe_tup (pa_cons pe_int (pa_cons pe_bl pa_nil))) pa_nil)) (pa_cons pe_int pa_nil)))) pe_non (nomark _)) (pw_or1 (pt_cmpR (op_neD hr1.units) (pe_fn D_fitting (hr.mono (by omega)) passL rfl (pa_cons (pv 0) (pa_cons (pe_lst pa_nil) (pa_cons pe_int pa_nil)))) (pe_lst (pa_cons (pe_tup (pa_cons pe_int (pa_cons pe_int pa_nil))) (pa_cons (pe_tup (pa_cons pe_int (pa_cons pe_int pa_nil))) pa_nil))) (nomark _))))) (pss_one (ps_ret pe_bl))
  pss_nil)
  (pss_cons (ps_set (i := 1) sc_l_seen_known.nd rfl (by first | exact Or.inl rfl | exact Or.inr rfl) (pe_mk M_Walk (hr.mono (by omega)) T.c_Walk passL rfl (pa_cons (pe_fn D_l_one (hr.mono (by omega)) pass0 rfl (pa_cons (pe_tup (pa_cons pe_str (pa_cons pe_int pa_nil))) pa_nil)) (pa_cons (pe_tup (pa_cons pe_int (pa_cons pe_int pa_nil))) pa_nil))))
  (pss_cons (ps_if (pt_cmpR (op_neD hr1.units) (pe_lst (pa_cons (pe_mt1 N_Walk_go (pv 1) CW.cl (hr.mono (by omega)) passL (pa_cons pe_int pa_nil)) (pa_cons (pe_mt1 N_Walk_go (pv 1) CW.cl (hr.mono (by omega)) passL (pa_cons pe_int pa_nil)) (pa_cons (pe_mt0 N_Walk_feasts (pv 1) CW.cl (hr.mono (by omega)) pass0) (pa_cons (pe_mt0 N_Walk_undo (pv 1) CW.cl (hr.mono (by omega)) pass0) (pa_cons (pe_mt0 N_Walk_day (pv 1) CW.cl (hr.mono (by omega)) pass0) (pa_cons (pe_mt0 N_Walk_feasts (pv 1) CW.cl (hr.mono (by omega)) pass0) pa_nil))))))) (pe_lst (pa_cons (pe_lst (pa_cons pe_int (pa_cons pe_int pa_nil))) (pa_cons (pe_lst (pa_cons pe_int pa_nil)) (pa_cons pe_int (pa_cons pe_bl (pa_cons pe_int (pa_cons pe_int pa_nil))))))) (nomark _)) (pss_one (ps_ret pe_bl))
  pss_nil)
  (pss_cons (ps_set (i := 2) sc_l_seen_known.nd rfl (by first | exact Or.inl rfl | exact Or.inr rfl) (pe_binS N_Feast_sub hsf (hr.mono (by omega)) (fun σ pins H s e s' I h => passL pins σ H s e s' I h) (pe_mt1 N_Feast_moved (pe_mk M_Feast (hr.mono (by omega)) T.c_Feast passL rfl (pa_cons (pe_tup (pa_cons pe_str (pa_cons (pe_un un_neg pe_int) pa_nil))) pa_nil)) CF.cl (hr.mono (by omega)) passL (pa_cons pe_int pa_nil)) (pe_mk M_Feast (hr.mono (by omega)) T.c_Feast passL rfl (pa_cons (pe_tup (pa_cons pe_str (pa_cons pe_int pa_nil))) pa_nil))))
  (pss_cons (ps_set (i := 3) sc_l_seen_known.nd rfl (by first | exact Or.inl rfl | exact Or.inr rfl) (pe_mk M_Calendar (hr.mono (by omega)) T.c_Calendar pass0 rfl (pa_cons (pe_tup (pa_cons (pe_tup (pa_cons (pe_mk M_Feast (hr.mono (by omega)) T.c_Feast passL rfl (pa_cons (pe_tup (pa_cons pe_str (pa_cons pe_int pa_nil))) pa_nil)) (pa_cons pe_bl pa_nil))) (pa_cons (pe_tup (pa_cons (pv 2) (pa_cons pe_bl pa_nil))) pa_nil))) pa_nil)))
  (pss_cons (ps_set (i := 4) sc_l_seen_known.nd rfl (by first | exact Or.inl rfl | exact Or.inr rfl) pe_str)
  (pss_one (ps_ret (pe_and (pe_cmpR op_eq (pe_fn D_write (hr.mono (by omega)) pass0 rfl (pa_cons (pv 3) pa_nil)) (pv 4) (nomark _)) (pe_and (pe_cmpR (op_eqO N_Calendar_eq (hr.mono (by omega)) pass0) (pe_fn D_read (hr.mono (by omega)) passL rfl (pa_cons (pv 4) pa_nil)) (pv 3) (nomark _)) (pe_one (pe_cmpR op_eq (pe_prp R_Calendar_reach (pv 3) CC.cl (hr.mono (by omega)) rfl) pe_int (nomark _))))))))))))))), ?_⟩
    have land : ∀ {σ : L2.St} {H : Hp} {a b : Int}, EvD K (tTup (tCons (tC (.int a)) (tCons (tC (.int b)) tNil))) σ H (.tuple [.int a, .int b]) := ed_tup (eda_cons (ed_int ev_c) (eda_cons (ed_int ev_c) eda_nil)) (by show 2 ≤ 100000; decide)
    refine q_asgR (ec_one (er_wk (k := 0) ev_c) (by decide +kernel) (by decide +kernel) (by decide +kernel)) fun c1 H1 hc1 e1 hA1 => ?_
    refine q_not (et_or00 (et_neD0 (ed_fit (rows := kStart) (M := 5) (sn := [(2, false), (3, true)]) (r := [(3, 4), (3, 5)]) (ex_cv (ev_var rfl) hA1) (esn_cons (esn_cons esn_nil)) ⟨by decide, by decide⟩ (by decide +kernel) (by decide) (by decide +kernel) kn_fit1) (ed_lst (eda_cons land (eda_cons land eda_nil)) (by show 2 ≤ 100000; decide)) rfl rfl (by decide +kernel))
      (et_ne0 (x := .int 2) (ev_is (ev_kask (rows := kStart) (M := 5) (sn := [(1, false)]) (ex_cv (ev_var rfl) hA1) (esn_cons esn_nil) ⟨by decide, by decide⟩ (by decide +kernel) (by decide) (by decide +kernel)) kn_ask1) ev_c rfl)) fun H2 e2 => ?_
    have hA2 := hA1.mono e2
    refine q_not (et_or00 (et_some0 (ev_is (ev_kask (rows := kStart) (M := 5) (sn := [(3, true)]) (ex_cv (ev_var rfl) hA2) (esn_cons esn_nil) ⟨by decide, by decide⟩ (by decide +kernel) (by decide) (by decide +kernel)) kn_ask2))
      (et_neD0 (ed_fit (rows := kStart) (M := 4) (sn := []) (r := [(2, 3), (3, 4)]) (ex_cv (ev_var rfl) hA2) esn_nil ⟨by decide, by decide⟩ (by decide +kernel) (by decide) (by decide +kernel) kn_fit2) (ed_lst (eda_cons land (eda_cons land eda_nil)) (by show 2 ≤ 100000; decide)) rfl rfl (by decide +kernel))) fun H3 e3 => ?_
    refine q_asgR (er_kwalk (rows := kFirst) (w := 2) (m := 3) (ex_c (ec_one (er_fs (k := 0) ev_c) (by decide +kernel) (by decide +kernel) (by decide +kernel))) en_23 (by decide +kernel)) fun p H4 hp e4 ⟨L, hW4⟩ => ?_
    have hper : Per ((2 * 3 : Nat) : Int) kPr := cal_per ((2 : Nat) : Int) ((3 : Nat) : Int) kFirst
    have hW4 : WalkAt K C_Walk H4 p L (2 * 3) kPr ([] ++ [(0, 0)]) := hW4
    obtain ⟨⟨dx, hp4⟩, xs4, hL4, _⟩ := id hW4
    refine q_ifRaw (t := tTest _) (tOp_raw (tLst_raw (tA_hd (tMeth_go (ev_var rfl) hp4 (walkF_no _ _ _ (by decide +kernel) (by decide +kernel) (by decide +kernel)) fun H5 e5 => ⟨p, L, 2 * 3, kPr, [], 0, 0, _, some ((5 : Nat) : Int), rfl, hW4.mono e5, .int 5, by decide, hper, by decide, by decide, (fun h => nomatch h), fun n hn _ _ q1 H6 hq1 eb6 hq1L hW6 => ?_⟩))))
    have hn5 : n = 5 := by injection hn with hn; omega
    subst hn5
    rw [kn_gone1] at hq1L hW6
    have hL5 := e5 _ _ hL4
    have n1 : q1 ≠ L := (ne_of_none hL5 hq1).symm
    obtain ⟨⟨dx6, hp6⟩, xs6, hL6, _⟩ := id hW6
    refine tA_hd (tMeth_go (ev_var rfl) hp6 (walkF_no _ _ _ (by decide +kernel) (by decide +kernel) (by decide +kernel)) fun H7 e7 => ⟨p, L, 2 * 3, kPr, [(0, 0)], 5, 2, _, some ((2 : Nat) : Int), rfl, hW6.mono e7, .int 2, by decide, hper, by decide, by decide, (fun h => nomatch h), fun n hn _ _ q2 H8 hq2 eb8 hq2L hW8 => ?_⟩)
    have hn2 : n = 2 := by injection hn with hn; omega
    subst hn2
    rw [kn_gone2] at hq2L hW8
    have hL7 := e7 _ _ hL6
    have n2 : q2 ≠ L := (ne_of_none hL7 hq2).symm
    have hq18 := eb8 _ _ n1 (e7 _ _ hq1L)
    obtain ⟨⟨dx8, hp8⟩, xs8, hL8, _⟩ := id hW8
    refine tA_hd (tMeth_go (ev_var rfl) hp8 (walkF_no _ _ _ (by decide +kernel) (by decide +kernel) (by decide +kernel)) fun H9 e9 => ⟨p, L, 2 * 3, kPr, [(0, 0), (5, 2)], 7, 3, rfl, hW8.mono e9, fun H10 e10 => ?_⟩)
    have E10 := e9.trans e10
    have hp10 := E10 _ _ hp8
    refine tA_hd (tMeth_go (ev_var rfl) hp10 (walkF_no _ _ _ (by decide +kernel) (by decide +kernel) (by decide +kernel)) fun H11 e11 => ⟨p, L, 2 * 3, kPr, [(0, 0), (5, 2)], (7, 3), rfl, hW8.mono (E10.trans e11), (fun h => nomatch h), fun _ H12 eb12 hW12 => ?_⟩)
    have E11 := E10.trans e11
    have hq112 := eb12 _ _ n1 (E11 _ _ hq18)
    have hq212 := eb12 _ _ n2 (E11 _ _ hq2L)
    obtain ⟨⟨dx12, hp12⟩, _⟩ := id hW12
    refine tA_hd (tMeth_go (ev_var rfl) hp12 (walkF_no _ _ _ (by decide +kernel) (by decide +kernel) (by decide +kernel)) fun H13 e13 => ⟨p, L, 2 * 3, kPr, [(0, 0)], 5, 2, rfl, hW12.mono e13, fun H14 e14 => ?_⟩)
    have E14 := e13.trans e14
    refine tA_lst (tMeth_go (ev_var rfl) (E14 _ _ hp12) (walkF_no _ _ _ (by decide +kernel) (by decide +kernel) (by decide +kernel)) fun H15 e15 => ⟨p, L, 2 * 3, kPr, [(0, 0)], 5, 2, rfl, hW12.mono (E14.trans e15), fun H16 e16 => ⟨by show 6 ≤ sizeLine; decide, fun r hr => ?_⟩⟩)
    have E16 := ((E14.trans e15).trans e16).trans (Ex.new (o := HO.lst [.ref q1, .ref q2, .int 3, .bl true, .int 5, .int 2]) hr)
    refine (ed_lst (K := K) (eda_cons (ed_lst (eda_cons (ed_int ev_c) (eda_cons (ed_int ev_c) eda_nil)) (by show 2 ≤ 100000; decide)) (eda_cons (ed_lst (eda_cons (ed_int ev_c) eda_nil) (by show 1 ≤ 100000; decide)) (eda_cons (ed_int ev_c) (eda_cons (ed_bl ev_c) (eda_cons (ed_int ev_c) (eda_cons (ed_int ev_c) eda_nil)))))) (by show 6 ≤ 100000; decide)) _ (Ex.refl _) _ fun y H17 e17 hy => ?_
    have E17 := E16.trans e17
    refine ⟨.list [.list [.int 0, .int 4], .list [.int 6], .int 3, .bool true, .int 5, .int 2], _, .lst (sq_of (e17 _ _ upd_same)) (.cons (.lst (sq_of (E17 _ _ hq112)) (.cons (.int _) (.cons (.int _) .nil))) (.cons (.lst (sq_of (E17 _ _ hq212)) (.cons (.int _) .nil)) (.cons (.int _) (.cons (.bl _) (.cons (.int _) (.cons (.int _) .nil)))))), hy, rfl, rfl, false, by decide +kernel, ?_⟩
    refine ite_noB ?_
    refine q_asgR (ef_bin (mk := .wo) (ef_of (ef_moved (r := .fs (-1)) (z := 2) (ef_of (er_feastX (er_fs (k := -1) (ev_un ev_c ru_neg)) (by decide +kernel) (by decide +kernel) (by decide +kernel))) (by decide +kernel) (by decide +kernel) (by decide +kernel))) (ef_of (er_feastX (er_md (k := 2) ev_c) (by decide +kernel) (by decide +kernel) (by decide +kernel))) (by decide +kernel) (by decide +kernel) (by decide +kernel)) fun ff H18 hff e18 hF18 => ?_
    refine q_asgR (ec_rows (rows := kText) (ews_cons (ew_row (ef_of (er_feastX (er_wk (k := 0) ev_c) (by decide +kernel) (by decide +kernel) (by decide +kernel)))) (ews_cons (ew_row (ef_var (ev_var rfl) hF18)) ews_nil)) (by decide) (by decide +kernel)) fun cc H19 hcc e19 hC19 => ?_
    refine q_asg ev_c fun H20 e20 => ?_
    have hC20 := hC19.mono e20
    obtain ⟨cc', dxc, rvc, ecc, hoc, _⟩ := id hC20
    cases ecc
    refine s_ret (ev_and11 (ev_sameS (ev_kwrite (rows := kText) (ex_cv (ev_var rfl) hC20) kText_ok (by decide)) (ev_var rfl) (by decide +kernel))
      (ev_and11 (ev_is (ev_ceqK (rows := kText) (ss := kText) (er_kread (rows := kText) (ev_var rfl) (by decide +kernel) kText_ok (by decide) (by decide +kernel)) (ev_var rfl) hC20 kText_dep kText_dep) (by rw [eqRows_self]))
        (ev_is (ev_op (ev_is (ev_prp (z := .int ((reachOf kText : Nat) : Int)) (ev_var rfl) hoc fun H1 e1 Q E q => ⟨_, kText, rfl, hC20.mono e1, q⟩) (show _ = V.int 6 from congrArg (fun n : Nat => V.int (n : Int)) (by decide +kernel : reachOf kText = 6))) ev_c (rv_eq rfl)) (by rw [decide_eq_true rfl])))) fun H21 e21 => k H21
theorem dn_seen_known (T : Txt P w K mg C_BadRule C_BadRules C_BadLand C_BadDay C_BadNumber C_BadSeen C_BadText C_Feast C_Calendar C_Line C_Walk) (CF : Cls1 K C_Feast ["told", "bys"]) (IF : ClsI K C_Feast) (CC : Cls1 K C_Calendar ["rows", "near"]) (IC : ClsI K C_Calendar) (CI : Cls1 K C_Line lineFs) (CW : Cls1 K C_Walk ["figure", "round_days", "rows"]) (hsf : PySem.W.selfFirst K C_Feast = true)
    (hkF : PySem.W.kitOne K (.type "tuple") (.ref C_Feast) = some false) (hkC : PySem.W.kitOne K (.type "tuple") (.ref C_Calendar) = some false) : Dn P w K mg base CX0 "_law_seen_known" 16 [] spKnown := T.f_l_seen_known.dn fun _ _ F _ _ => ok_seen_known F T CF IF CC IC CI CW hsf hkF hkC
end
end WF

set_option Elab.async false
set_option linter.all false
set_option maxRecDepth 100000
set_option maxHeartbeats 4000000
/-! the law itself -/
namespace WF
open PySem L2 Evl
section
variable {P : Program} {w : World} {K : PySem.W.Frag} {mg : Str → Option Value} {base : Heap} {C_BadRule C_BadRules C_BadLand C_BadDay C_BadNumber C_BadSeen C_BadText C_Feast C_Calendar C_Line C_Walk : Addr} {f : Addr} {fd : FuncData}
def spLaw (K : PySem.W.Frag) : Sp := fun vs H Q _ => ∃ (a : Addr) (ns : List Int), vs = [.ref a] ∧ SqL K H a (ns.map V.int) ∧ ns.length ≤ 63 ∧ ∀ H', Q (.bl true) H'
theorem ok_law (F : Fun K "law" "law" s_law f fd) (T : Txt P w K mg C_BadRule C_BadRules C_BadLand C_BadDay C_BadNumber C_BadSeen C_BadText C_Feast C_Calendar C_Line C_Walk) (CF : Cls1 K C_Feast ["told", "bys"]) (IF : ClsI K C_Feast) (CC : Cls1 K C_Calendar ["rows", "near"]) (IC : ClsI K C_Calendar) (CI : Cls1 K C_Line lineFs) (CW : Cls1 K C_Walk ["figure", "round_days", "rows"]) (hsf : PySem.W.selfFirst K C_Feast = true)
    (hkF : PySem.W.kitOne K (.type "tuple") (.ref C_Feast) = some false) (hkC : PySem.W.kitOne K (.type "tuple") (.ref C_Calendar) = some false) : FnOk P w K mg base CX0 17 f fd ["_law_script"] (spLaw K) := by
  have D_l_random : Dn P w K mg base CX0 "_law_random" 1 ["_law_script", "_law_salt"] (spRandom K) := dn_random T
  have D_l_below : Dn P w K mg base CX0 "_law_below" 1 ["_law_d", "_law_size"] spBelow := dn_below T
  have D_l_days_known : Dn P w K mg base CX0 "_law_days_known" 13 [] spKnown := dn_days_known T CF IF CC
  have D_l_decided : Dn P w K mg base CX0 "_law_decided" 13 [] spKnown := dn_decided T CF IF CC
  have D_l_forms : Dn P w K mg base CX0 "_law_forms" 13 [] spKnown := dn_forms T CF IF CC hsf
  have D_l_seen_known : Dn P w K mg base CX0 "_law_seen_known" 16 [] spKnown := dn_seen_known T CF IF CC IC CI CW hsf hkF hkC
  refine F.ok sc_law (fun vs H Q E h => ?_) (fun cdv A outer s H vs Q E hr h => ?_)
  · obtain ⟨_, _, rfl, _⟩ := h
    rfl
  · obtain ⟨a, ns, rfl, hA, hn, k⟩ := h
    refine ⟨_, (pss_cons (ps_set (i := 1) sc_law.nd rfl (by first | exact Or.inl rfl | exact Or.inr rfl) (pe_fn D_l_random (hr.mono (by omega)) pass0 rfl (pa_cons (pv 0) (pa_cons pe_int pa_nil))))
  (pss_cons (ps_set (i := 2) sc_law.nd rfl (by first | exact Or.inl rfl | exact Or.inr rfl) (pe_fn D_l_below (hr.mono (by omega)) pass0 rfl (pa_cons (pv 1) (pa_cons pe_int pa_nil))))
  (pss_cons (ps_if (pt_cmpR op_eq (pv 2) pe_int (nomark _)) (pss_one (ps_ret (pe_fn0 D_l_days_known (hr.mono (by omega)) pass0 rfl)))
  pss_nil)
  (pss_cons (ps_if (pt_cmpR op_eq (pv 2) pe_int (nomark _)) (pss_one (ps_ret (pe_fn0 D_l_decided (hr.mono (by omega)) pass0 rfl)))
  pss_nil)
  (pss_one (ps_ret (pe_ifExp (pt_cmpR op_eq (pv 2) pe_int (nomark _)) (pe_fn0 D_l_forms (hr.mono (by omega)) pass0 rfl) (pe_fn0 D_l_seen_known (hr.mono (by omega)) pass0 rfl)))))))), ?_⟩
    refine q_call (ea_cons (ev_var rfl) (ea_cons ev_c ea_nil)) fun H1 e1 => ⟨a, ns, 615, rfl, ex_l e1 hA, hn, by decide, by decide, fun d H2 xs hg hd0 e2 hd => ?_⟩
    refine q_asgX (below_ev (ev_var rfl) ev_c hd hg (by decide) (by decide) fun r xs1 H3 hr4 hg1 eb1 hd1 => ?_)
    refine q_when (b := decide (V.int (r : Int) = V.int 0)) (et_cmp (ev_var rfl) ev_c (rv_eq rfl)) (fun _ H4 e4 => s_retC ea_nil fun H5 e5 => ⟨rfl, k⟩) fun _ H4 e4 => ?_
    refine q_when (b := decide (V.int (r : Int) = V.int 1)) (et_cmp (ev_var rfl) ev_c (rv_eq rfl)) (fun _ H5 e5 => s_retC ea_nil fun H6 e6 => ⟨rfl, k⟩) fun _ H5 e5 => ?_
    refine s_retX ?_
    have ht : ∀ {σ : L2.St} {H : Hp}, σ[2]? = some (some (.int (r : Int))) → EvT (tTest (tOp rEq (tVar 2) (tC (.int 2)))) σ H (decide (V.int (r : Int) = V.int 2)) := fun h => et_cmp (ev_var h) ev_c (rv_eq rfl)
    refine ht rfl H5 (Ex.refl H5) _ fun H6 e6 => ?_
    cases decide (V.int (r : Int) = V.int 2) with
    | true => exact ⟨rfl, k⟩
    | false => exact ⟨rfl, k⟩
theorem dn_law (T : Txt P w K mg C_BadRule C_BadRules C_BadLand C_BadDay C_BadNumber C_BadSeen C_BadText C_Feast C_Calendar C_Line C_Walk) (CF : Cls1 K C_Feast ["told", "bys"]) (IF : ClsI K C_Feast) (CC : Cls1 K C_Calendar ["rows", "near"]) (IC : ClsI K C_Calendar) (CI : Cls1 K C_Line lineFs) (CW : Cls1 K C_Walk ["figure", "round_days", "rows"]) (hsf : PySem.W.selfFirst K C_Feast = true)
    (hkF : PySem.W.kitOne K (.type "tuple") (.ref C_Feast) = some false) (hkC : PySem.W.kitOne K (.type "tuple") (.ref C_Calendar) = some false) : Dn P w K mg base CX0 "law" 17 ["_law_script"] (spLaw K) := T.f_law.dn fun _ _ F _ _ => ok_law F T CF IF CC IC CI CW hsf hkF hkC
end
end WF

set_option Elab.async false
set_option linter.all false
set_option maxRecDepth 100000
set_option maxHeartbeats 4000000
set_option pp.maxSteps 50
set_option pp.oneline true
namespace WF
open PySem L2 Evl
theorem no5 {K : PySem.W.Frag} {d : Addr} (a : PySem.W.nsIn K d "behind" = some none) (b : PySem.W.nsIn K d "both" = some none) (c : PySem.W.nsIn K d "either" = some none) (e : PySem.W.nsIn K d "without" = some none) (f : PySem.W.nsIn K d "week" = some none) : ∀ z ∈ (["behind", "both", "either", "without", "week"] : List Str), PySem.W.nsIn K d z = some none := by
  intro z hz
  simp only [List.mem_cons, List.not_mem_nil, or_false] at hz
  rcases hz with rfl | rfl | rfl | rfl | rfl <;> assumption
open PySem.W in
theorem all_mk {l : PySem.W.OpenLaw} {w : World} {K : PySem.W.Frag} {h : Heap} {mg : Str → Option Value} {fa : Addr} (X : K.In h) (G : h.Ns mainGlobals mg) (hfa : mg "law" = some (.ref fa))
    {f_BadSeen_init cc_BadSeen_init cda_BadSeen_init N_BadSeen f_BadText_init cc_BadText_init cda_BadText_init N_BadText u_BYS d_ENDS u_W u_M u_PAIRS d_BEGINS C_BadRule C_BadRules C_BadLand C_BadDay C_BadNumber C_BadSeen C_BadText C_Feast C_Calendar C_Line C_Walk f_is_in f_within f_size_of f_is_rule f_Feast_init f_Feast_eq f_Feast_and f_Feast_or f_Feast_sub f_Feast_moved f_is_pair f_Calendar_init f_Calendar_reach pp_Calendar_reach f_Calendar_eq f_divisor f_is_land f_need_land f_every f_turned f_figure_of f_days_of f_listed f_lands_to f_enough f_first_unlike f_parting f_alike f_meeting f_needless f_swaps f_form f_is_from f_need_day f_is_day f_nth f_ahead_of f_between f_count f_is_seen f_fits f_fitting f_asking f_words_of f_write f_Line_init f_Line_take f_Line_take_number f_Line_whole_rule f_Line_end f_read f_Walk_init f_Walk_go f_Walk_day f_Walk_feasts f_Walk_undo f_Walk_len f_l_random f_l_below f_l_one f_l_days_known f_l_decided f_l_forms f_l_seen_known f_law : Addr}
    {oc_BadSeen_init kV_BadSeen_init dc_BadSeen_init pm_BadSeen_init ct_BadSeen_init ccl_BadSeen_init cl_BadSeen_init oc_BadText_init kV_BadText_init dc_BadText_init pm_BadText_init ct_BadText_init ccl_BadText_init cl_BadText_init oc_is_in kV_is_in dc_is_in pm_is_in cd_is_in ct_is_in oc_within kV_within dc_within pm_within cd_within ct_within oc_size_of kV_size_of dc_size_of pm_size_of cd_size_of ct_size_of oc_is_rule kV_is_rule dc_is_rule pm_is_rule cd_is_rule ct_is_rule oc_Feast_init kV_Feast_init dc_Feast_init pm_Feast_init cd_Feast_init ct_Feast_init oc_Feast_eq kV_Feast_eq dc_Feast_eq pm_Feast_eq cd_Feast_eq ct_Feast_eq oc_Feast_and kV_Feast_and dc_Feast_and pm_Feast_and cd_Feast_and ct_Feast_and oc_Feast_or kV_Feast_or dc_Feast_or pm_Feast_or cd_Feast_or ct_Feast_or oc_Feast_sub kV_Feast_sub dc_Feast_sub pm_Feast_sub cd_Feast_sub ct_Feast_sub oc_Feast_moved kV_Feast_moved dc_Feast_moved pm_Feast_moved cd_Feast_moved ct_Feast_moved oc_is_pair kV_is_pair dc_is_pair pm_is_pair cd_is_pair ct_is_pair oc_Calendar_init kV_Calendar_init dc_Calendar_init pm_Calendar_init cd_Calendar_init ct_Calendar_init oc_Calendar_reach kV_Calendar_reach dc_Calendar_reach pm_Calendar_reach cd_Calendar_reach ct_Calendar_reach oc_Calendar_eq kV_Calendar_eq dc_Calendar_eq pm_Calendar_eq cd_Calendar_eq ct_Calendar_eq oc_divisor kV_divisor dc_divisor pm_divisor cd_divisor ct_divisor oc_is_land kV_is_land dc_is_land pm_is_land cd_is_land ct_is_land oc_need_land kV_need_land dc_need_land pm_need_land cd_need_land ct_need_land oc_every kV_every dc_every pm_every cd_every ct_every oc_turned kV_turned dc_turned pm_turned cd_turned ct_turned oc_figure_of kV_figure_of dc_figure_of pm_figure_of cd_figure_of ct_figure_of oc_days_of kV_days_of dc_days_of pm_days_of cd_days_of ct_days_of oc_listed kV_listed dc_listed pm_listed cd_listed ct_listed oc_lands_to kV_lands_to dc_lands_to pm_lands_to cd_lands_to ct_lands_to oc_enough kV_enough dc_enough pm_enough cd_enough ct_enough oc_first_unlike kV_first_unlike dc_first_unlike pm_first_unlike cd_first_unlike ct_first_unlike oc_parting kV_parting dc_parting pm_parting cd_parting ct_parting oc_alike kV_alike dc_alike pm_alike cd_alike ct_alike oc_meeting kV_meeting dc_meeting pm_meeting cd_meeting ct_meeting oc_needless kV_needless dc_needless pm_needless cd_needless ct_needless oc_swaps kV_swaps dc_swaps pm_swaps cd_swaps ct_swaps oc_form kV_form dc_form pm_form cd_form ct_form oc_is_from kV_is_from dc_is_from pm_is_from cd_is_from ct_is_from oc_need_day kV_need_day dc_need_day pm_need_day cd_need_day ct_need_day oc_is_day kV_is_day dc_is_day pm_is_day cd_is_day ct_is_day oc_nth kV_nth dc_nth pm_nth cd_nth ct_nth oc_ahead_of kV_ahead_of dc_ahead_of pm_ahead_of cd_ahead_of ct_ahead_of oc_between kV_between dc_between pm_between cd_between ct_between oc_count kV_count dc_count pm_count cd_count ct_count oc_is_seen kV_is_seen dc_is_seen pm_is_seen cd_is_seen ct_is_seen oc_fits kV_fits dc_fits pm_fits cd_fits ct_fits oc_fitting kV_fitting dc_fitting pm_fitting cd_fitting ct_fitting oc_asking kV_asking dc_asking pm_asking cd_asking ct_asking oc_words_of kV_words_of dc_words_of pm_words_of cd_words_of ct_words_of oc_write kV_write dc_write pm_write cd_write ct_write oc_Line_init kV_Line_init dc_Line_init pm_Line_init cd_Line_init ct_Line_init oc_Line_take kV_Line_take dc_Line_take pm_Line_take cd_Line_take ct_Line_take oc_Line_take_number kV_Line_take_number dc_Line_take_number pm_Line_take_number cd_Line_take_number ct_Line_take_number oc_Line_whole_rule kV_Line_whole_rule dc_Line_whole_rule pm_Line_whole_rule cd_Line_whole_rule ct_Line_whole_rule oc_Line_end kV_Line_end dc_Line_end pm_Line_end cd_Line_end ct_Line_end oc_read kV_read dc_read pm_read cd_read ct_read oc_Walk_init kV_Walk_init dc_Walk_init pm_Walk_init cd_Walk_init ct_Walk_init oc_Walk_go kV_Walk_go dc_Walk_go pm_Walk_go cd_Walk_go ct_Walk_go oc_Walk_day kV_Walk_day dc_Walk_day pm_Walk_day cd_Walk_day ct_Walk_day oc_Walk_feasts kV_Walk_feasts dc_Walk_feasts pm_Walk_feasts cd_Walk_feasts ct_Walk_feasts oc_Walk_undo kV_Walk_undo dc_Walk_undo pm_Walk_undo cd_Walk_undo ct_Walk_undo oc_Walk_len kV_Walk_len dc_Walk_len pm_Walk_len cd_Walk_len ct_Walk_len oc_l_random kV_l_random dc_l_random pm_l_random cd_l_random ct_l_random oc_l_below kV_l_below dc_l_below pm_l_below cd_l_below ct_l_below oc_l_one kV_l_one dc_l_one pm_l_one cd_l_one ct_l_one oc_l_days_known kV_l_days_known dc_l_days_known pm_l_days_known cd_l_days_known ct_l_days_known oc_l_decided kV_l_decided dc_l_decided pm_l_decided cd_l_decided ct_l_decided oc_l_forms kV_l_forms dc_l_forms pm_l_forms cd_l_forms ct_l_forms oc_l_seen_known kV_l_seen_known dc_l_seen_known pm_l_seen_known cd_l_seen_known ct_l_seen_known oc_law kV_law dc_law pm_law cd_law ct_law : Value}
    {od_BadSeen_init an_BadSeen_init cdd_BadSeen_init cld_BadSeen_init dd_BadSeen od_BadText_init an_BadText_init cdd_BadText_init cld_BadText_init dd_BadText od_u_BYS od_u_W od_u_M od_is_in an_is_in od_within an_within od_size_of an_size_of od_is_rule an_is_rule od_Feast_init an_Feast_init od_Feast_eq an_Feast_eq od_Feast_and an_Feast_and od_Feast_or an_Feast_or od_Feast_sub an_Feast_sub od_Feast_moved an_Feast_moved od_is_pair an_is_pair od_Calendar_init an_Calendar_init od_Calendar_reach an_Calendar_reach od_Calendar_eq an_Calendar_eq od_divisor an_divisor od_is_land an_is_land od_need_land an_need_land od_every an_every od_turned an_turned od_figure_of an_figure_of od_days_of an_days_of od_listed an_listed od_lands_to an_lands_to od_enough an_enough od_first_unlike an_first_unlike od_parting an_parting od_alike an_alike od_meeting an_meeting od_needless an_needless od_swaps an_swaps od_form an_form od_is_from an_is_from od_need_day an_need_day od_is_day an_is_day od_nth an_nth od_ahead_of an_ahead_of od_between an_between od_count an_count od_is_seen an_is_seen od_fits an_fits od_fitting an_fitting od_asking an_asking od_words_of an_words_of od_write an_write od_Line_init an_Line_init od_Line_take an_Line_take od_Line_take_number an_Line_take_number od_Line_whole_rule an_Line_whole_rule od_Line_end an_Line_end od_read an_read od_Walk_init an_Walk_init od_Walk_go an_Walk_go od_Walk_day an_Walk_day od_Walk_feasts an_Walk_feasts od_Walk_undo an_Walk_undo od_Walk_len an_Walk_len od_l_random an_l_random od_l_below an_l_below od_l_one an_l_one od_l_days_known an_l_days_known od_l_decided an_l_decided od_l_forms an_l_forms od_l_seen_known an_l_seen_known od_law an_law : Option Addr}
    {sl_BadSeen_init ccs_BadSeen_init csl_BadSeen_init sl_BadText_init ccs_BadText_init csl_BadText_init sl_u_BYS sl_u_W sl_u_M sl_is_in sl_within sl_size_of sl_is_rule sl_Feast_init sl_Feast_eq sl_Feast_and sl_Feast_or sl_Feast_sub sl_Feast_moved sl_is_pair sl_Calendar_init sl_Calendar_reach sl_Calendar_eq sl_divisor sl_is_land sl_need_land sl_every sl_turned sl_figure_of sl_days_of sl_listed sl_lands_to sl_enough sl_first_unlike sl_parting sl_alike sl_meeting sl_needless sl_swaps sl_form sl_is_from sl_need_day sl_is_day sl_nth sl_ahead_of sl_between sl_count sl_is_seen sl_fits sl_fitting sl_asking sl_words_of sl_write sl_Line_init sl_Line_take sl_Line_take_number sl_Line_whole_rule sl_Line_end sl_read sl_Walk_init sl_Walk_go sl_Walk_day sl_Walk_feasts sl_Walk_undo sl_Walk_len sl_l_random sl_l_below sl_l_one sl_l_days_known sl_l_decided sl_l_forms sl_l_seen_known sl_law : Array (Option Value)}
    {tf_BadSeen_init tf_BadText_init t_u_BYS_0 t_u_BYS_1 t_u_BYS_2 t_u_BYS_3 t_u_W_0 t_u_W_1 t_u_W_2 t_u_W_3 t_u_M_0 t_u_M_1 t_u_M_2 t_u_M_3 t_u_M_4 t_u_M_5 t_u_PAIRS_0 t_u_PAIRS_1 t_u_PAIRS_2 t_MOST_PARTS t_MOST_BYS t_MOST_RULES t_LEAST_REACH t_MOST_ROUND t_WEEKS t_MONTHS t_GREATEST t_FARTHEST t_MOST_ASKED t_MOST_DAYS : Tok}
    {nn_u_BYS nE nn_u_W nn_u_M nn_u_PAIRS nB : Nat}
    {es_ENDS es_BEGINS : Array DictEntry}
    {bs_BadSeen bm_BadSeen sub_BadSeen bs_BadText bm_BadText sub_BadText rs_Calendar_reach : List Value}
    {vs_BadSeen_init vs_BadText_init : Array Value}
    {fi_BadSeen_init nm_BadSeen q_BadSeen fi_BadText_init nm_BadText q_BadText : Str}
    {sn_BadSeen sn_BadText : List Str}
    {ab_BadSeen ab_BadText : Bool}
    {col_BadSeen col_BadText : Option Bool}
    {k0_BadSeen k1_BadSeen k2_BadSeen k3_BadSeen k5_BadSeen k0_BadText k1_BadText k2_BadText k3_BadText k5_BadText : Option Value}
    (z_super : PySem.W.nsIn K mainGlobals "super" = some none)
    (tp_super : (l.prog.main.scope.names.lookup ("super" : Str)).isSome = false)
    (an_super : PySem.W.nsIn K cStatics "thirdparty.any" = some none)
    (z_len : PySem.W.nsIn K mainGlobals "len" = some none)
    (z_abs : PySem.W.nsIn K mainGlobals "abs" = some none)
    (z_sum : PySem.W.nsIn K mainGlobals "sum" = some none)
    (z_max : PySem.W.nsIn K mainGlobals "max" = some none)
    (z_isinstance : PySem.W.nsIn K mainGlobals "isinstance" = some none)
    (z_sorted : PySem.W.nsIn K mainGlobals "sorted" = some none)
    (z_all : PySem.W.nsIn K mainGlobals "all" = some none)
    (z_int : PySem.W.nsIn K mainGlobals "int" = some none)
    (z_str : PySem.W.nsIn K mainGlobals "str" = some none)
    (z_list : PySem.W.nsIn K mainGlobals "list" = some none)
    (z_tuple : PySem.W.nsIn K mainGlobals "tuple" = some none)
    (z_bool : PySem.W.nsIn K mainGlobals "bool" = some none)
    (z_range : PySem.W.nsIn K mainGlobals "range" = some none)
    (z_enumerate : PySem.W.nsIn K mainGlobals "enumerate" = some none)
    (g_BYS : PySem.W.nsIn K mainGlobals "BYS" = some (some (.ref u_BYS)))
    (l_u_BYS : K.lookup u_BYS = some ⟨.type "tuple", od_u_BYS, .seq #[.int (-2) t_u_BYS_0, .int (-1) t_u_BYS_1, .int (1) t_u_BYS_2, .int (2) t_u_BYS_3] nn_u_BYS, sl_u_BYS⟩)
    (g_ENDS : PySem.W.nsIn K mainGlobals "ENDS" = some (some (.ref d_ENDS)))
    (l_ENDS : K.lookup d_ENDS = some ⟨.type "dict", none, .dict es_ENDS nE, #[]⟩)
    (e_ENDS : PySem.W.KeysLit w.params es_ENDS.toList)
    (w_ENDS : (d_ENDS == sysModules) = false)
    (x_weekday : PySem.W.nsIn K d_ENDS "weekday" = some (some (.ref u_W)))
    (x_first : PySem.W.nsIn K d_ENDS "first" = some (some (.ref u_W)))
    (x_monthday : PySem.W.nsIn K d_ENDS "monthday" = some (some (.ref u_M)))
    (x_behind : PySem.W.nsIn K d_ENDS "behind" = some none)
    (x_both : PySem.W.nsIn K d_ENDS "both" = some none)
    (x_either : PySem.W.nsIn K d_ENDS "either" = some none)
    (x_without : PySem.W.nsIn K d_ENDS "without" = some none)
    (x_week : PySem.W.nsIn K d_ENDS "week" = some none)
    (l_u_W : K.lookup u_W = some ⟨.type "tuple", od_u_W, .seq #[.int (-2) t_u_W_0, .int (-1) t_u_W_1, .int (0) t_u_W_2, .int (1) t_u_W_3] nn_u_W, sl_u_W⟩)
    (l_u_M : K.lookup u_M = some ⟨.type "tuple", od_u_M, .seq #[.int (-3) t_u_M_0, .int (-2) t_u_M_1, .int (-1) t_u_M_2, .int (0) t_u_M_3, .int (1) t_u_M_4, .int (2) t_u_M_5] nn_u_M, sl_u_M⟩)
    (g_PAIRS : PySem.W.nsIn K mainGlobals "PAIRS" = some (some (.ref u_PAIRS)))
    (l_u_PAIRS : K.lookup u_PAIRS = some ⟨.type "tuple", none, .seq #[.str "both" t_u_PAIRS_0, .str "either" t_u_PAIRS_1, .str "without" t_u_PAIRS_2] nn_u_PAIRS, #[]⟩)
    (g_MOST_PARTS : PySem.W.nsIn K mainGlobals "MOST_PARTS" = some (some (.int 5 t_MOST_PARTS)))
    (g_MOST_BYS : PySem.W.nsIn K mainGlobals "MOST_BYS" = some (some (.int 4 t_MOST_BYS)))
    (g_MOST_RULES : PySem.W.nsIn K mainGlobals "MOST_RULES" = some (some (.int 3 t_MOST_RULES)))
    (g_LEAST_REACH : PySem.W.nsIn K mainGlobals "LEAST_REACH" = some (some (.int 3 t_LEAST_REACH)))
    (g_MOST_ROUND : PySem.W.nsIn K mainGlobals "MOST_ROUND" = some (some (.int 4000 t_MOST_ROUND)))
    (g_WEEKS : PySem.W.nsIn K mainGlobals "WEEKS" = some (some (.int 4 t_WEEKS)))
    (g_MONTHS : PySem.W.nsIn K mainGlobals "MONTHS" = some (some (.int 6 t_MONTHS)))
    (g_GREATEST : PySem.W.nsIn K mainGlobals "GREATEST" = some (some (.int 1000000000000000000000000000000 t_GREATEST)))
    (g_FARTHEST : PySem.W.nsIn K mainGlobals "FARTHEST" = some (some (.int 1000 t_FARTHEST)))
    (g_MOST_ASKED : PySem.W.nsIn K mainGlobals "MOST_ASKED" = some (some (.int 60 t_MOST_ASKED)))
    (g_MOST_DAYS : PySem.W.nsIn K mainGlobals "MOST_DAYS" = some (some (.int 500 t_MOST_DAYS)))
    (kk_ENDS : KeysAre es_ENDS.toList ["weekday", "first", "monthday"])
    (g_BEGINS : PySem.W.nsIn K mainGlobals "BEGINS" = some (some (.ref d_BEGINS)))
    (l_BEGINS : K.lookup d_BEGINS = some ⟨.type "dict", none, .dict es_BEGINS nB, #[]⟩)
    (e_BEGINS : PySem.W.KeysLit w.params es_BEGINS.toList)
    (w_BEGINS : (d_BEGINS == sysModules) = false)
    (kk_BEGINS : KeysAre es_BEGINS.toList ["plain", "yields"])
    (x_plain : PySem.W.nsIn K d_BEGINS "plain" = some (some (.bool false)))
    (x_yields : PySem.W.nsIn K d_BEGINS "yields" = some (some (.bool true)))
    (a_BadRule : PySem.W.nsIn K mainGlobals "BadRule" = some (some (.ref C_BadRule)))
    (x_BadRule : PySem.W.excIn K C_BadRule [.type "ValueError", .type "Exception", .type "BaseException", .type "object"] "ValueError.__new__" = true)
    (k_BadRule : PySem.W.keepIn K (.ref C_BadRule) = true)
    (b_BadRule : PySem.W.subIn K (.ref C_BadRule) (.type "BaseException") = some true)
    (t_BadRule : PySem.W.typeIn K (.ref C_BadRule) = some (.type "type"))
    (i_BadRule : PySem.W.isClsIn K C_BadRule = true)
    (s_BadRule : PySem.W.subIn K (.ref C_BadRule) (.ref C_BadRule) = some true)
    (a_BadRules : PySem.W.nsIn K mainGlobals "BadRules" = some (some (.ref C_BadRules)))
    (a_BadLand : PySem.W.nsIn K mainGlobals "BadLand" = some (some (.ref C_BadLand)))
    (x_BadLand : PySem.W.excIn K C_BadLand [.type "ValueError", .type "Exception", .type "BaseException", .type "object"] "ValueError.__new__" = true)
    (k_BadLand : PySem.W.keepIn K (.ref C_BadLand) = true)
    (b_BadLand : PySem.W.subIn K (.ref C_BadLand) (.type "BaseException") = some true)
    (t_BadLand : PySem.W.typeIn K (.ref C_BadLand) = some (.type "type"))
    (i_BadLand : PySem.W.isClsIn K C_BadLand = true)
    (s_BadLand : PySem.W.subIn K (.ref C_BadLand) (.ref C_BadLand) = some true)
    (a_BadDay : PySem.W.nsIn K mainGlobals "BadDay" = some (some (.ref C_BadDay)))
    (x_BadDay : PySem.W.excIn K C_BadDay [.type "ValueError", .type "Exception", .type "BaseException", .type "object"] "ValueError.__new__" = true)
    (k_BadDay : PySem.W.keepIn K (.ref C_BadDay) = true)
    (b_BadDay : PySem.W.subIn K (.ref C_BadDay) (.type "BaseException") = some true)
    (t_BadDay : PySem.W.typeIn K (.ref C_BadDay) = some (.type "type"))
    (i_BadDay : PySem.W.isClsIn K C_BadDay = true)
    (s_BadDay : PySem.W.subIn K (.ref C_BadDay) (.ref C_BadDay) = some true)
    (a_BadNumber : PySem.W.nsIn K mainGlobals "BadNumber" = some (some (.ref C_BadNumber)))
    (x_BadNumber : PySem.W.excIn K C_BadNumber [.type "ValueError", .type "Exception", .type "BaseException", .type "object"] "ValueError.__new__" = true)
    (k_BadNumber : PySem.W.keepIn K (.ref C_BadNumber) = true)
    (b_BadNumber : PySem.W.subIn K (.ref C_BadNumber) (.type "BaseException") = some true)
    (t_BadNumber : PySem.W.typeIn K (.ref C_BadNumber) = some (.type "type"))
    (i_BadNumber : PySem.W.isClsIn K C_BadNumber = true)
    (s_BadNumber : PySem.W.subIn K (.ref C_BadNumber) (.ref C_BadNumber) = some true)
    (a_BadSeen : PySem.W.nsIn K mainGlobals "BadSeen" = some (some (.ref C_BadSeen)))
    (a_BadText : PySem.W.nsIn K mainGlobals "BadText" = some (some (.ref C_BadText)))
    (a_Feast : PySem.W.nsIn K mainGlobals "Feast" = some (some (.ref C_Feast)))
    (a_Calendar : PySem.W.nsIn K mainGlobals "Calendar" = some (some (.ref C_Calendar)))
    (a_Line : PySem.W.nsIn K mainGlobals "Line" = some (some (.ref C_Line)))
    (a_Walk : PySem.W.nsIn K mainGlobals "Walk" = some (some (.ref C_Walk)))
    (a_is_in : PySem.W.nsIn K mainGlobals "is_in" = some (some (.ref f_is_in)))
    (l_is_in : K.lookup f_is_in = some ⟨oc_is_in, od_is_in, .func (PySem.W.fnOf "is_in" "is_in" (defArgs s_is_in) (defBody s_is_in) (defScope s_is_in) .none kV_is_in dc_is_in pm_is_in an_is_in cd_is_in ct_is_in), sl_is_in⟩)
    (c_is_in : PySem.W.codeIn K cd_is_in "is_in" = true)
    (k_is_in : PySem.W.keepIn K (.ref f_is_in) = true)
    (a_within : PySem.W.nsIn K mainGlobals "within" = some (some (.ref f_within)))
    (l_within : K.lookup f_within = some ⟨oc_within, od_within, .func (PySem.W.fnOf "within" "within" (defArgs s_within) (defBody s_within) (defScope s_within) .none kV_within dc_within pm_within an_within cd_within ct_within), sl_within⟩)
    (c_within : PySem.W.codeIn K cd_within "within" = true)
    (k_within : PySem.W.keepIn K (.ref f_within) = true)
    (a_size_of : PySem.W.nsIn K mainGlobals "size_of" = some (some (.ref f_size_of)))
    (l_size_of : K.lookup f_size_of = some ⟨oc_size_of, od_size_of, .func (PySem.W.fnOf "size_of" "size_of" (defArgs s_size_of) (defBody s_size_of) (defScope s_size_of) .none kV_size_of dc_size_of pm_size_of an_size_of cd_size_of ct_size_of), sl_size_of⟩)
    (c_size_of : PySem.W.codeIn K cd_size_of "size_of" = true)
    (k_size_of : PySem.W.keepIn K (.ref f_size_of) = true)
    (a_is_rule : PySem.W.nsIn K mainGlobals "is_rule" = some (some (.ref f_is_rule)))
    (l_is_rule : K.lookup f_is_rule = some ⟨oc_is_rule, od_is_rule, .func (PySem.W.fnOf "is_rule" "is_rule" (defArgs s_is_rule) (defBody s_is_rule) (defScope s_is_rule) .none kV_is_rule dc_is_rule pm_is_rule an_is_rule cd_is_rule ct_is_rule), sl_is_rule⟩)
    (c_is_rule : PySem.W.codeIn K cd_is_rule "is_rule" = true)
    (k_is_rule : PySem.W.keepIn K (.ref f_is_rule) = true)
    (pg_Feast : PySem.W.plainGet K C_Feast Str.empty = true)
    (hd_Feast : PySem.W.hasDictIn K C_Feast = true)
    (po_Feast : PySem.W.plainOver K C_Feast = true)
    (sa_Feast : PySem.W.findIn K (.ref C_Feast) "__setattr__" = some (some (.builtin "object.__setattr__")))
    (mk_Feast : PySem.W.makesIn K C_Feast = true)
    (kc_Feast : PySem.W.keepIn K (.ref C_Feast) = true)
    (n_Feast_told : PySem.W.findIn K (.ref C_Feast) "told" = some none)
    (n_Feast_bys : PySem.W.findIn K (.ref C_Feast) "bys" = some none)
    (a_Feast_init : PySem.W.findIn K (.ref C_Feast) "__init__" = some (some (.ref f_Feast_init)))
    (i_Feast_init : PySem.W.isFn K (.ref f_Feast_init) = true)
    (l_Feast_init : K.lookup f_Feast_init = some ⟨oc_Feast_init, od_Feast_init, .func (PySem.W.fnOf "__init__" "Feast.__init__" (defArgs s_Feast_init) (defBody s_Feast_init) (defScope s_Feast_init) .none kV_Feast_init dc_Feast_init pm_Feast_init an_Feast_init cd_Feast_init ct_Feast_init), sl_Feast_init⟩)
    (c_Feast_init : PySem.W.codeIn K cd_Feast_init "Feast.__init__" = true)
    (k_Feast_init : PySem.W.keepIn K (.ref f_Feast_init) = true)
    (a_Feast_eq : PySem.W.findIn K (.ref C_Feast) "__eq__" = some (some (.ref f_Feast_eq)))
    (i_Feast_eq : PySem.W.isFn K (.ref f_Feast_eq) = true)
    (l_Feast_eq : K.lookup f_Feast_eq = some ⟨oc_Feast_eq, od_Feast_eq, .func (PySem.W.fnOf "__eq__" "Feast.__eq__" (defArgs s_Feast_eq) (defBody s_Feast_eq) (defScope s_Feast_eq) .none kV_Feast_eq dc_Feast_eq pm_Feast_eq an_Feast_eq cd_Feast_eq ct_Feast_eq), sl_Feast_eq⟩)
    (c_Feast_eq : PySem.W.codeIn K cd_Feast_eq "Feast.__eq__" = true)
    (k_Feast_eq : PySem.W.keepIn K (.ref f_Feast_eq) = true)
    (a_Feast_and : PySem.W.findIn K (.ref C_Feast) "__and__" = some (some (.ref f_Feast_and)))
    (i_Feast_and : PySem.W.isFn K (.ref f_Feast_and) = true)
    (l_Feast_and : K.lookup f_Feast_and = some ⟨oc_Feast_and, od_Feast_and, .func (PySem.W.fnOf "__and__" "Feast.__and__" (defArgs s_Feast_and) (defBody s_Feast_and) (defScope s_Feast_and) .none kV_Feast_and dc_Feast_and pm_Feast_and an_Feast_and cd_Feast_and ct_Feast_and), sl_Feast_and⟩)
    (c_Feast_and : PySem.W.codeIn K cd_Feast_and "Feast.__and__" = true)
    (k_Feast_and : PySem.W.keepIn K (.ref f_Feast_and) = true)
    (a_Feast_or : PySem.W.findIn K (.ref C_Feast) "__or__" = some (some (.ref f_Feast_or)))
    (i_Feast_or : PySem.W.isFn K (.ref f_Feast_or) = true)
    (l_Feast_or : K.lookup f_Feast_or = some ⟨oc_Feast_or, od_Feast_or, .func (PySem.W.fnOf "__or__" "Feast.__or__" (defArgs s_Feast_or) (defBody s_Feast_or) (defScope s_Feast_or) .none kV_Feast_or dc_Feast_or pm_Feast_or an_Feast_or cd_Feast_or ct_Feast_or), sl_Feast_or⟩)
    (c_Feast_or : PySem.W.codeIn K cd_Feast_or "Feast.__or__" = true)
    (k_Feast_or : PySem.W.keepIn K (.ref f_Feast_or) = true)
    (a_Feast_sub : PySem.W.findIn K (.ref C_Feast) "__sub__" = some (some (.ref f_Feast_sub)))
    (i_Feast_sub : PySem.W.isFn K (.ref f_Feast_sub) = true)
    (l_Feast_sub : K.lookup f_Feast_sub = some ⟨oc_Feast_sub, od_Feast_sub, .func (PySem.W.fnOf "__sub__" "Feast.__sub__" (defArgs s_Feast_sub) (defBody s_Feast_sub) (defScope s_Feast_sub) .none kV_Feast_sub dc_Feast_sub pm_Feast_sub an_Feast_sub cd_Feast_sub ct_Feast_sub), sl_Feast_sub⟩)
    (c_Feast_sub : PySem.W.codeIn K cd_Feast_sub "Feast.__sub__" = true)
    (k_Feast_sub : PySem.W.keepIn K (.ref f_Feast_sub) = true)
    (a_Feast_moved : PySem.W.findIn K (.ref C_Feast) "moved" = some (some (.ref f_Feast_moved)))
    (i_Feast_moved : PySem.W.isFn K (.ref f_Feast_moved) = true)
    (l_Feast_moved : K.lookup f_Feast_moved = some ⟨oc_Feast_moved, od_Feast_moved, .func (PySem.W.fnOf "moved" "Feast.moved" (defArgs s_Feast_moved) (defBody s_Feast_moved) (defScope s_Feast_moved) .none kV_Feast_moved dc_Feast_moved pm_Feast_moved an_Feast_moved cd_Feast_moved ct_Feast_moved), sl_Feast_moved⟩)
    (c_Feast_moved : PySem.W.codeIn K cd_Feast_moved "Feast.moved" = true)
    (k_Feast_moved : PySem.W.keepIn K (.ref f_Feast_moved) = true)
    (a_is_pair : PySem.W.nsIn K mainGlobals "is_pair" = some (some (.ref f_is_pair)))
    (l_is_pair : K.lookup f_is_pair = some ⟨oc_is_pair, od_is_pair, .func (PySem.W.fnOf "is_pair" "is_pair" (defArgs s_is_pair) (defBody s_is_pair) (defScope s_is_pair) .none kV_is_pair dc_is_pair pm_is_pair an_is_pair cd_is_pair ct_is_pair), sl_is_pair⟩)
    (c_is_pair : PySem.W.codeIn K cd_is_pair "is_pair" = true)
    (k_is_pair : PySem.W.keepIn K (.ref f_is_pair) = true)
    (pg_Calendar : PySem.W.plainGet K C_Calendar Str.empty = true)
    (hd_Calendar : PySem.W.hasDictIn K C_Calendar = true)
    (po_Calendar : PySem.W.plainOver K C_Calendar = true)
    (sa_Calendar : PySem.W.findIn K (.ref C_Calendar) "__setattr__" = some (some (.builtin "object.__setattr__")))
    (mk_Calendar : PySem.W.makesIn K C_Calendar = true)
    (kc_Calendar : PySem.W.keepIn K (.ref C_Calendar) = true)
    (n_Calendar_rows : PySem.W.findIn K (.ref C_Calendar) "rows" = some none)
    (n_Calendar_near : PySem.W.findIn K (.ref C_Calendar) "near" = some none)
    (a_Calendar_init : PySem.W.findIn K (.ref C_Calendar) "__init__" = some (some (.ref f_Calendar_init)))
    (i_Calendar_init : PySem.W.isFn K (.ref f_Calendar_init) = true)
    (l_Calendar_init : K.lookup f_Calendar_init = some ⟨oc_Calendar_init, od_Calendar_init, .func (PySem.W.fnOf "__init__" "Calendar.__init__" (defArgs s_Calendar_init) (defBody s_Calendar_init) (defScope s_Calendar_init) .none kV_Calendar_init dc_Calendar_init pm_Calendar_init an_Calendar_init cd_Calendar_init ct_Calendar_init), sl_Calendar_init⟩)
    (c_Calendar_init : PySem.W.codeIn K cd_Calendar_init "Calendar.__init__" = true)
    (k_Calendar_init : PySem.W.keepIn K (.ref f_Calendar_init) = true)
    (a_Calendar_reach : PySem.W.findIn K (.ref C_Calendar) "reach" = some (some (.ref pp_Calendar_reach)))
    (i_Calendar_reach : PySem.W.specialIn K (.ref pp_Calendar_reach) "__get__" = some (some (.builtin "property.__get__")))
    (t_Calendar_reach : PySem.W.takesIn K (.ref pp_Calendar_reach) = some true)
    (r_Calendar_reach : PySem.W.recIn K pp_Calendar_reach "property" = some (.ref f_Calendar_reach :: rs_Calendar_reach))
    (l_Calendar_reach : K.lookup f_Calendar_reach = some ⟨oc_Calendar_reach, od_Calendar_reach, .func (PySem.W.fnOf "reach" "Calendar.reach" (defArgs s_Calendar_reach) (defBody s_Calendar_reach) (defScope s_Calendar_reach) .none kV_Calendar_reach dc_Calendar_reach pm_Calendar_reach an_Calendar_reach cd_Calendar_reach ct_Calendar_reach), sl_Calendar_reach⟩)
    (c_Calendar_reach : PySem.W.codeIn K cd_Calendar_reach "Calendar.reach" = true)
    (k_Calendar_reach : PySem.W.keepIn K (.ref f_Calendar_reach) = true)
    (a_Calendar_eq : PySem.W.findIn K (.ref C_Calendar) "__eq__" = some (some (.ref f_Calendar_eq)))
    (i_Calendar_eq : PySem.W.isFn K (.ref f_Calendar_eq) = true)
    (l_Calendar_eq : K.lookup f_Calendar_eq = some ⟨oc_Calendar_eq, od_Calendar_eq, .func (PySem.W.fnOf "__eq__" "Calendar.__eq__" (defArgs s_Calendar_eq) (defBody s_Calendar_eq) (defScope s_Calendar_eq) .none kV_Calendar_eq dc_Calendar_eq pm_Calendar_eq an_Calendar_eq cd_Calendar_eq ct_Calendar_eq), sl_Calendar_eq⟩)
    (c_Calendar_eq : PySem.W.codeIn K cd_Calendar_eq "Calendar.__eq__" = true)
    (k_Calendar_eq : PySem.W.keepIn K (.ref f_Calendar_eq) = true)
    (a_divisor : PySem.W.nsIn K mainGlobals "divisor" = some (some (.ref f_divisor)))
    (l_divisor : K.lookup f_divisor = some ⟨oc_divisor, od_divisor, .func (PySem.W.fnOf "divisor" "divisor" (defArgs s_divisor) (defBody s_divisor) (defScope s_divisor) .none kV_divisor dc_divisor pm_divisor an_divisor cd_divisor ct_divisor), sl_divisor⟩)
    (c_divisor : PySem.W.codeIn K cd_divisor "divisor" = true)
    (k_divisor : PySem.W.keepIn K (.ref f_divisor) = true)
    (a_is_land : PySem.W.nsIn K mainGlobals "is_land" = some (some (.ref f_is_land)))
    (l_is_land : K.lookup f_is_land = some ⟨oc_is_land, od_is_land, .func (PySem.W.fnOf "is_land" "is_land" (defArgs s_is_land) (defBody s_is_land) (defScope s_is_land) .none kV_is_land dc_is_land pm_is_land an_is_land cd_is_land ct_is_land), sl_is_land⟩)
    (c_is_land : PySem.W.codeIn K cd_is_land "is_land" = true)
    (k_is_land : PySem.W.keepIn K (.ref f_is_land) = true)
    (a_need_land : PySem.W.nsIn K mainGlobals "need_land" = some (some (.ref f_need_land)))
    (l_need_land : K.lookup f_need_land = some ⟨oc_need_land, od_need_land, .func (PySem.W.fnOf "need_land" "need_land" (defArgs s_need_land) (defBody s_need_land) (defScope s_need_land) .none kV_need_land dc_need_land pm_need_land an_need_land cd_need_land ct_need_land), sl_need_land⟩)
    (c_need_land : PySem.W.codeIn K cd_need_land "need_land" = true)
    (k_need_land : PySem.W.keepIn K (.ref f_need_land) = true)
    (a_every : PySem.W.nsIn K mainGlobals "every" = some (some (.ref f_every)))
    (l_every : K.lookup f_every = some ⟨oc_every, od_every, .func (PySem.W.fnOf "every" "every" (defArgs s_every) (defBody s_every) (defScope s_every) .none kV_every dc_every pm_every an_every cd_every ct_every), sl_every⟩)
    (c_every : PySem.W.codeIn K cd_every "every" = true)
    (k_every : PySem.W.keepIn K (.ref f_every) = true)
    (a_turned : PySem.W.nsIn K mainGlobals "turned" = some (some (.ref f_turned)))
    (l_turned : K.lookup f_turned = some ⟨oc_turned, od_turned, .func (PySem.W.fnOf "turned" "turned" (defArgs s_turned) (defBody s_turned) (defScope s_turned) .none kV_turned dc_turned pm_turned an_turned cd_turned ct_turned), sl_turned⟩)
    (c_turned : PySem.W.codeIn K cd_turned "turned" = true)
    (k_turned : PySem.W.keepIn K (.ref f_turned) = true)
    (a_figure_of : PySem.W.nsIn K mainGlobals "figure_of" = some (some (.ref f_figure_of)))
    (l_figure_of : K.lookup f_figure_of = some ⟨oc_figure_of, od_figure_of, .func (PySem.W.fnOf "figure_of" "figure_of" (defArgs s_figure_of) (defBody s_figure_of) (defScope s_figure_of) .none kV_figure_of dc_figure_of pm_figure_of an_figure_of cd_figure_of ct_figure_of), sl_figure_of⟩)
    (c_figure_of : PySem.W.codeIn K cd_figure_of "figure_of" = true)
    (k_figure_of : PySem.W.keepIn K (.ref f_figure_of) = true)
    (a_days_of : PySem.W.nsIn K mainGlobals "days_of" = some (some (.ref f_days_of)))
    (l_days_of : K.lookup f_days_of = some ⟨oc_days_of, od_days_of, .func (PySem.W.fnOf "days_of" "days_of" (defArgs s_days_of) (defBody s_days_of) (defScope s_days_of) .none kV_days_of dc_days_of pm_days_of an_days_of cd_days_of ct_days_of), sl_days_of⟩)
    (c_days_of : PySem.W.codeIn K cd_days_of "days_of" = true)
    (k_days_of : PySem.W.keepIn K (.ref f_days_of) = true)
    (a_listed : PySem.W.nsIn K mainGlobals "listed" = some (some (.ref f_listed)))
    (l_listed : K.lookup f_listed = some ⟨oc_listed, od_listed, .func (PySem.W.fnOf "listed" "listed" (defArgs s_listed) (defBody s_listed) (defScope s_listed) .none kV_listed dc_listed pm_listed an_listed cd_listed ct_listed), sl_listed⟩)
    (c_listed : PySem.W.codeIn K cd_listed "listed" = true)
    (k_listed : PySem.W.keepIn K (.ref f_listed) = true)
    (a_lands_to : PySem.W.nsIn K mainGlobals "lands_to" = some (some (.ref f_lands_to)))
    (l_lands_to : K.lookup f_lands_to = some ⟨oc_lands_to, od_lands_to, .func (PySem.W.fnOf "lands_to" "lands_to" (defArgs s_lands_to) (defBody s_lands_to) (defScope s_lands_to) .none kV_lands_to dc_lands_to pm_lands_to an_lands_to cd_lands_to ct_lands_to), sl_lands_to⟩)
    (c_lands_to : PySem.W.codeIn K cd_lands_to "lands_to" = true)
    (k_lands_to : PySem.W.keepIn K (.ref f_lands_to) = true)
    (a_enough : PySem.W.nsIn K mainGlobals "enough" = some (some (.ref f_enough)))
    (l_enough : K.lookup f_enough = some ⟨oc_enough, od_enough, .func (PySem.W.fnOf "enough" "enough" (defArgs s_enough) (defBody s_enough) (defScope s_enough) .none kV_enough dc_enough pm_enough an_enough cd_enough ct_enough), sl_enough⟩)
    (c_enough : PySem.W.codeIn K cd_enough "enough" = true)
    (k_enough : PySem.W.keepIn K (.ref f_enough) = true)
    (a_first_unlike : PySem.W.nsIn K mainGlobals "first_unlike" = some (some (.ref f_first_unlike)))
    (l_first_unlike : K.lookup f_first_unlike = some ⟨oc_first_unlike, od_first_unlike, .func (PySem.W.fnOf "first_unlike" "first_unlike" (defArgs s_first_unlike) (defBody s_first_unlike) (defScope s_first_unlike) .none kV_first_unlike dc_first_unlike pm_first_unlike an_first_unlike cd_first_unlike ct_first_unlike), sl_first_unlike⟩)
    (c_first_unlike : PySem.W.codeIn K cd_first_unlike "first_unlike" = true)
    (k_first_unlike : PySem.W.keepIn K (.ref f_first_unlike) = true)
    (a_parting : PySem.W.nsIn K mainGlobals "parting" = some (some (.ref f_parting)))
    (l_parting : K.lookup f_parting = some ⟨oc_parting, od_parting, .func (PySem.W.fnOf "parting" "parting" (defArgs s_parting) (defBody s_parting) (defScope s_parting) .none kV_parting dc_parting pm_parting an_parting cd_parting ct_parting), sl_parting⟩)
    (c_parting : PySem.W.codeIn K cd_parting "parting" = true)
    (k_parting : PySem.W.keepIn K (.ref f_parting) = true)
    (a_alike : PySem.W.nsIn K mainGlobals "alike" = some (some (.ref f_alike)))
    (l_alike : K.lookup f_alike = some ⟨oc_alike, od_alike, .func (PySem.W.fnOf "alike" "alike" (defArgs s_alike) (defBody s_alike) (defScope s_alike) .none kV_alike dc_alike pm_alike an_alike cd_alike ct_alike), sl_alike⟩)
    (c_alike : PySem.W.codeIn K cd_alike "alike" = true)
    (k_alike : PySem.W.keepIn K (.ref f_alike) = true)
    (a_meeting : PySem.W.nsIn K mainGlobals "meeting" = some (some (.ref f_meeting)))
    (l_meeting : K.lookup f_meeting = some ⟨oc_meeting, od_meeting, .func (PySem.W.fnOf "meeting" "meeting" (defArgs s_meeting) (defBody s_meeting) (defScope s_meeting) .none kV_meeting dc_meeting pm_meeting an_meeting cd_meeting ct_meeting), sl_meeting⟩)
    (c_meeting : PySem.W.codeIn K cd_meeting "meeting" = true)
    (k_meeting : PySem.W.keepIn K (.ref f_meeting) = true)
    (a_needless : PySem.W.nsIn K mainGlobals "needless" = some (some (.ref f_needless)))
    (l_needless : K.lookup f_needless = some ⟨oc_needless, od_needless, .func (PySem.W.fnOf "needless" "needless" (defArgs s_needless) (defBody s_needless) (defScope s_needless) .none kV_needless dc_needless pm_needless an_needless cd_needless ct_needless), sl_needless⟩)
    (c_needless : PySem.W.codeIn K cd_needless "needless" = true)
    (k_needless : PySem.W.keepIn K (.ref f_needless) = true)
    (a_swaps : PySem.W.nsIn K mainGlobals "swaps" = some (some (.ref f_swaps)))
    (l_swaps : K.lookup f_swaps = some ⟨oc_swaps, od_swaps, .func (PySem.W.fnOf "swaps" "swaps" (defArgs s_swaps) (defBody s_swaps) (defScope s_swaps) .none kV_swaps dc_swaps pm_swaps an_swaps cd_swaps ct_swaps), sl_swaps⟩)
    (c_swaps : PySem.W.codeIn K cd_swaps "swaps" = true)
    (k_swaps : PySem.W.keepIn K (.ref f_swaps) = true)
    (a_form : PySem.W.nsIn K mainGlobals "form" = some (some (.ref f_form)))
    (l_form : K.lookup f_form = some ⟨oc_form, od_form, .func (PySem.W.fnOf "form" "form" (defArgs s_form) (defBody s_form) (defScope s_form) .none kV_form dc_form pm_form an_form cd_form ct_form), sl_form⟩)
    (c_form : PySem.W.codeIn K cd_form "form" = true)
    (k_form : PySem.W.keepIn K (.ref f_form) = true)
    (a_is_from : PySem.W.nsIn K mainGlobals "is_from" = some (some (.ref f_is_from)))
    (l_is_from : K.lookup f_is_from = some ⟨oc_is_from, od_is_from, .func (PySem.W.fnOf "is_from" "is_from" (defArgs s_is_from) (defBody s_is_from) (defScope s_is_from) .none kV_is_from dc_is_from pm_is_from an_is_from cd_is_from ct_is_from), sl_is_from⟩)
    (c_is_from : PySem.W.codeIn K cd_is_from "is_from" = true)
    (k_is_from : PySem.W.keepIn K (.ref f_is_from) = true)
    (a_need_day : PySem.W.nsIn K mainGlobals "need_day" = some (some (.ref f_need_day)))
    (l_need_day : K.lookup f_need_day = some ⟨oc_need_day, od_need_day, .func (PySem.W.fnOf "need_day" "need_day" (defArgs s_need_day) (defBody s_need_day) (defScope s_need_day) .none kV_need_day dc_need_day pm_need_day an_need_day cd_need_day ct_need_day), sl_need_day⟩)
    (c_need_day : PySem.W.codeIn K cd_need_day "need_day" = true)
    (k_need_day : PySem.W.keepIn K (.ref f_need_day) = true)
    (a_is_day : PySem.W.nsIn K mainGlobals "is_day" = some (some (.ref f_is_day)))
    (l_is_day : K.lookup f_is_day = some ⟨oc_is_day, od_is_day, .func (PySem.W.fnOf "is_day" "is_day" (defArgs s_is_day) (defBody s_is_day) (defScope s_is_day) .none kV_is_day dc_is_day pm_is_day an_is_day cd_is_day ct_is_day), sl_is_day⟩)
    (c_is_day : PySem.W.codeIn K cd_is_day "is_day" = true)
    (k_is_day : PySem.W.keepIn K (.ref f_is_day) = true)
    (a_nth : PySem.W.nsIn K mainGlobals "nth" = some (some (.ref f_nth)))
    (l_nth : K.lookup f_nth = some ⟨oc_nth, od_nth, .func (PySem.W.fnOf "nth" "nth" (defArgs s_nth) (defBody s_nth) (defScope s_nth) .none kV_nth dc_nth pm_nth an_nth cd_nth ct_nth), sl_nth⟩)
    (c_nth : PySem.W.codeIn K cd_nth "nth" = true)
    (k_nth : PySem.W.keepIn K (.ref f_nth) = true)
    (a_ahead_of : PySem.W.nsIn K mainGlobals "ahead_of" = some (some (.ref f_ahead_of)))
    (l_ahead_of : K.lookup f_ahead_of = some ⟨oc_ahead_of, od_ahead_of, .func (PySem.W.fnOf "ahead_of" "ahead_of" (defArgs s_ahead_of) (defBody s_ahead_of) (defScope s_ahead_of) .none kV_ahead_of dc_ahead_of pm_ahead_of an_ahead_of cd_ahead_of ct_ahead_of), sl_ahead_of⟩)
    (c_ahead_of : PySem.W.codeIn K cd_ahead_of "ahead_of" = true)
    (k_ahead_of : PySem.W.keepIn K (.ref f_ahead_of) = true)
    (a_between : PySem.W.nsIn K mainGlobals "between" = some (some (.ref f_between)))
    (l_between : K.lookup f_between = some ⟨oc_between, od_between, .func (PySem.W.fnOf "between" "between" (defArgs s_between) (defBody s_between) (defScope s_between) .none kV_between dc_between pm_between an_between cd_between ct_between), sl_between⟩)
    (c_between : PySem.W.codeIn K cd_between "between" = true)
    (k_between : PySem.W.keepIn K (.ref f_between) = true)
    (a_count : PySem.W.nsIn K mainGlobals "count" = some (some (.ref f_count)))
    (l_count : K.lookup f_count = some ⟨oc_count, od_count, .func (PySem.W.fnOf "count" "count" (defArgs s_count) (defBody s_count) (defScope s_count) .none kV_count dc_count pm_count an_count cd_count ct_count), sl_count⟩)
    (c_count : PySem.W.codeIn K cd_count "count" = true)
    (k_count : PySem.W.keepIn K (.ref f_count) = true)
    (a_is_seen : PySem.W.nsIn K mainGlobals "is_seen" = some (some (.ref f_is_seen)))
    (l_is_seen : K.lookup f_is_seen = some ⟨oc_is_seen, od_is_seen, .func (PySem.W.fnOf "is_seen" "is_seen" (defArgs s_is_seen) (defBody s_is_seen) (defScope s_is_seen) .none kV_is_seen dc_is_seen pm_is_seen an_is_seen cd_is_seen ct_is_seen), sl_is_seen⟩)
    (c_is_seen : PySem.W.codeIn K cd_is_seen "is_seen" = true)
    (k_is_seen : PySem.W.keepIn K (.ref f_is_seen) = true)
    (a_fits : PySem.W.nsIn K mainGlobals "fits" = some (some (.ref f_fits)))
    (l_fits : K.lookup f_fits = some ⟨oc_fits, od_fits, .func (PySem.W.fnOf "fits" "fits" (defArgs s_fits) (defBody s_fits) (defScope s_fits) .none kV_fits dc_fits pm_fits an_fits cd_fits ct_fits), sl_fits⟩)
    (c_fits : PySem.W.codeIn K cd_fits "fits" = true)
    (k_fits : PySem.W.keepIn K (.ref f_fits) = true)
    (a_fitting : PySem.W.nsIn K mainGlobals "fitting" = some (some (.ref f_fitting)))
    (l_fitting : K.lookup f_fitting = some ⟨oc_fitting, od_fitting, .func (PySem.W.fnOf "fitting" "fitting" (defArgs s_fitting) (defBody s_fitting) (defScope s_fitting) .none kV_fitting dc_fitting pm_fitting an_fitting cd_fitting ct_fitting), sl_fitting⟩)
    (c_fitting : PySem.W.codeIn K cd_fitting "fitting" = true)
    (k_fitting : PySem.W.keepIn K (.ref f_fitting) = true)
    (a_asking : PySem.W.nsIn K mainGlobals "asking" = some (some (.ref f_asking)))
    (l_asking : K.lookup f_asking = some ⟨oc_asking, od_asking, .func (PySem.W.fnOf "asking" "asking" (defArgs s_asking) (defBody s_asking) (defScope s_asking) .none kV_asking dc_asking pm_asking an_asking cd_asking ct_asking), sl_asking⟩)
    (c_asking : PySem.W.codeIn K cd_asking "asking" = true)
    (k_asking : PySem.W.keepIn K (.ref f_asking) = true)
    (a_words_of : PySem.W.nsIn K mainGlobals "words_of" = some (some (.ref f_words_of)))
    (l_words_of : K.lookup f_words_of = some ⟨oc_words_of, od_words_of, .func (PySem.W.fnOf "words_of" "words_of" (defArgs s_words_of) (defBody s_words_of) (defScope s_words_of) .none kV_words_of dc_words_of pm_words_of an_words_of cd_words_of ct_words_of), sl_words_of⟩)
    (c_words_of : PySem.W.codeIn K cd_words_of "words_of" = true)
    (k_words_of : PySem.W.keepIn K (.ref f_words_of) = true)
    (a_write : PySem.W.nsIn K mainGlobals "write" = some (some (.ref f_write)))
    (l_write : K.lookup f_write = some ⟨oc_write, od_write, .func (PySem.W.fnOf "write" "write" (defArgs s_write) (defBody s_write) (defScope s_write) .none kV_write dc_write pm_write an_write cd_write ct_write), sl_write⟩)
    (c_write : PySem.W.codeIn K cd_write "write" = true)
    (k_write : PySem.W.keepIn K (.ref f_write) = true)
    (pg_Line : PySem.W.plainGet K C_Line Str.empty = true)
    (hd_Line : PySem.W.hasDictIn K C_Line = true)
    (po_Line : PySem.W.plainOver K C_Line = true)
    (sa_Line : PySem.W.findIn K (.ref C_Line) "__setattr__" = some (some (.builtin "object.__setattr__")))
    (mk_Line : PySem.W.makesIn K C_Line = true)
    (kc_Line : PySem.W.keepIn K (.ref C_Line) = true)
    (n_Line_number : PySem.W.findIn K (.ref C_Line) "number" = some none)
    (n_Line_row : PySem.W.findIn K (.ref C_Line) "row" = some none)
    (n_Line_spot : PySem.W.findIn K (.ref C_Line) "spot" = some none)
    (n_Line_parts : PySem.W.findIn K (.ref C_Line) "parts" = some none)
    (n_Line_due : PySem.W.findIn K (.ref C_Line) "due" = some none)
    (n_Line_room : PySem.W.findIn K (.ref C_Line) "room" = some none)
    (a_Line_init : PySem.W.findIn K (.ref C_Line) "__init__" = some (some (.ref f_Line_init)))
    (i_Line_init : PySem.W.isFn K (.ref f_Line_init) = true)
    (l_Line_init : K.lookup f_Line_init = some ⟨oc_Line_init, od_Line_init, .func (PySem.W.fnOf "__init__" "Line.__init__" (defArgs s_Line_init) (defBody s_Line_init) (defScope s_Line_init) .none kV_Line_init dc_Line_init pm_Line_init an_Line_init cd_Line_init ct_Line_init), sl_Line_init⟩)
    (c_Line_init : PySem.W.codeIn K cd_Line_init "Line.__init__" = true)
    (k_Line_init : PySem.W.keepIn K (.ref f_Line_init) = true)
    (a_Line_take : PySem.W.findIn K (.ref C_Line) "take" = some (some (.ref f_Line_take)))
    (i_Line_take : PySem.W.isFn K (.ref f_Line_take) = true)
    (l_Line_take : K.lookup f_Line_take = some ⟨oc_Line_take, od_Line_take, .func (PySem.W.fnOf "take" "Line.take" (defArgs s_Line_take) (defBody s_Line_take) (defScope s_Line_take) .none kV_Line_take dc_Line_take pm_Line_take an_Line_take cd_Line_take ct_Line_take), sl_Line_take⟩)
    (c_Line_take : PySem.W.codeIn K cd_Line_take "Line.take" = true)
    (k_Line_take : PySem.W.keepIn K (.ref f_Line_take) = true)
    (a_Line_take_number : PySem.W.findIn K (.ref C_Line) "take_number" = some (some (.ref f_Line_take_number)))
    (i_Line_take_number : PySem.W.isFn K (.ref f_Line_take_number) = true)
    (l_Line_take_number : K.lookup f_Line_take_number = some ⟨oc_Line_take_number, od_Line_take_number, .func (PySem.W.fnOf "take_number" "Line.take_number" (defArgs s_Line_take_number) (defBody s_Line_take_number) (defScope s_Line_take_number) .none kV_Line_take_number dc_Line_take_number pm_Line_take_number an_Line_take_number cd_Line_take_number ct_Line_take_number), sl_Line_take_number⟩)
    (c_Line_take_number : PySem.W.codeIn K cd_Line_take_number "Line.take_number" = true)
    (k_Line_take_number : PySem.W.keepIn K (.ref f_Line_take_number) = true)
    (a_Line_whole_rule : PySem.W.findIn K (.ref C_Line) "whole_rule" = some (some (.ref f_Line_whole_rule)))
    (i_Line_whole_rule : PySem.W.isFn K (.ref f_Line_whole_rule) = true)
    (l_Line_whole_rule : K.lookup f_Line_whole_rule = some ⟨oc_Line_whole_rule, od_Line_whole_rule, .func (PySem.W.fnOf "whole_rule" "Line.whole_rule" (defArgs s_Line_whole_rule) (defBody s_Line_whole_rule) (defScope s_Line_whole_rule) .none kV_Line_whole_rule dc_Line_whole_rule pm_Line_whole_rule an_Line_whole_rule cd_Line_whole_rule ct_Line_whole_rule), sl_Line_whole_rule⟩)
    (c_Line_whole_rule : PySem.W.codeIn K cd_Line_whole_rule "Line.whole_rule" = true)
    (k_Line_whole_rule : PySem.W.keepIn K (.ref f_Line_whole_rule) = true)
    (a_Line_end : PySem.W.findIn K (.ref C_Line) "end" = some (some (.ref f_Line_end)))
    (i_Line_end : PySem.W.isFn K (.ref f_Line_end) = true)
    (l_Line_end : K.lookup f_Line_end = some ⟨oc_Line_end, od_Line_end, .func (PySem.W.fnOf "end" "Line.end" (defArgs s_Line_end) (defBody s_Line_end) (defScope s_Line_end) .none kV_Line_end dc_Line_end pm_Line_end an_Line_end cd_Line_end ct_Line_end), sl_Line_end⟩)
    (c_Line_end : PySem.W.codeIn K cd_Line_end "Line.end" = true)
    (k_Line_end : PySem.W.keepIn K (.ref f_Line_end) = true)
    (a_read : PySem.W.nsIn K mainGlobals "read" = some (some (.ref f_read)))
    (l_read : K.lookup f_read = some ⟨oc_read, od_read, .func (PySem.W.fnOf "read" "read" (defArgs s_read) (defBody s_read) (defScope s_read) .none kV_read dc_read pm_read an_read cd_read ct_read), sl_read⟩)
    (c_read : PySem.W.codeIn K cd_read "read" = true)
    (k_read : PySem.W.keepIn K (.ref f_read) = true)
    (pg_Walk : PySem.W.plainGet K C_Walk Str.empty = true)
    (hd_Walk : PySem.W.hasDictIn K C_Walk = true)
    (po_Walk : PySem.W.plainOver K C_Walk = true)
    (sa_Walk : PySem.W.findIn K (.ref C_Walk) "__setattr__" = some (some (.builtin "object.__setattr__")))
    (mk_Walk : PySem.W.makesIn K C_Walk = true)
    (kc_Walk : PySem.W.keepIn K (.ref C_Walk) = true)
    (n_Walk_figure : PySem.W.findIn K (.ref C_Walk) "figure" = some none)
    (n_Walk_round_days : PySem.W.findIn K (.ref C_Walk) "round_days" = some none)
    (n_Walk_rows : PySem.W.findIn K (.ref C_Walk) "rows" = some none)
    (a_Walk_init : PySem.W.findIn K (.ref C_Walk) "__init__" = some (some (.ref f_Walk_init)))
    (i_Walk_init : PySem.W.isFn K (.ref f_Walk_init) = true)
    (l_Walk_init : K.lookup f_Walk_init = some ⟨oc_Walk_init, od_Walk_init, .func (PySem.W.fnOf "__init__" "Walk.__init__" (defArgs s_Walk_init) (defBody s_Walk_init) (defScope s_Walk_init) .none kV_Walk_init dc_Walk_init pm_Walk_init an_Walk_init cd_Walk_init ct_Walk_init), sl_Walk_init⟩)
    (c_Walk_init : PySem.W.codeIn K cd_Walk_init "Walk.__init__" = true)
    (k_Walk_init : PySem.W.keepIn K (.ref f_Walk_init) = true)
    (a_Walk_go : PySem.W.findIn K (.ref C_Walk) "go" = some (some (.ref f_Walk_go)))
    (i_Walk_go : PySem.W.isFn K (.ref f_Walk_go) = true)
    (l_Walk_go : K.lookup f_Walk_go = some ⟨oc_Walk_go, od_Walk_go, .func (PySem.W.fnOf "go" "Walk.go" (defArgs s_Walk_go) (defBody s_Walk_go) (defScope s_Walk_go) .none kV_Walk_go dc_Walk_go pm_Walk_go an_Walk_go cd_Walk_go ct_Walk_go), sl_Walk_go⟩)
    (c_Walk_go : PySem.W.codeIn K cd_Walk_go "Walk.go" = true)
    (k_Walk_go : PySem.W.keepIn K (.ref f_Walk_go) = true)
    (a_Walk_day : PySem.W.findIn K (.ref C_Walk) "day" = some (some (.ref f_Walk_day)))
    (i_Walk_day : PySem.W.isFn K (.ref f_Walk_day) = true)
    (l_Walk_day : K.lookup f_Walk_day = some ⟨oc_Walk_day, od_Walk_day, .func (PySem.W.fnOf "day" "Walk.day" (defArgs s_Walk_day) (defBody s_Walk_day) (defScope s_Walk_day) .none kV_Walk_day dc_Walk_day pm_Walk_day an_Walk_day cd_Walk_day ct_Walk_day), sl_Walk_day⟩)
    (c_Walk_day : PySem.W.codeIn K cd_Walk_day "Walk.day" = true)
    (k_Walk_day : PySem.W.keepIn K (.ref f_Walk_day) = true)
    (a_Walk_feasts : PySem.W.findIn K (.ref C_Walk) "feasts" = some (some (.ref f_Walk_feasts)))
    (i_Walk_feasts : PySem.W.isFn K (.ref f_Walk_feasts) = true)
    (l_Walk_feasts : K.lookup f_Walk_feasts = some ⟨oc_Walk_feasts, od_Walk_feasts, .func (PySem.W.fnOf "feasts" "Walk.feasts" (defArgs s_Walk_feasts) (defBody s_Walk_feasts) (defScope s_Walk_feasts) .none kV_Walk_feasts dc_Walk_feasts pm_Walk_feasts an_Walk_feasts cd_Walk_feasts ct_Walk_feasts), sl_Walk_feasts⟩)
    (c_Walk_feasts : PySem.W.codeIn K cd_Walk_feasts "Walk.feasts" = true)
    (k_Walk_feasts : PySem.W.keepIn K (.ref f_Walk_feasts) = true)
    (a_Walk_undo : PySem.W.findIn K (.ref C_Walk) "undo" = some (some (.ref f_Walk_undo)))
    (i_Walk_undo : PySem.W.isFn K (.ref f_Walk_undo) = true)
    (l_Walk_undo : K.lookup f_Walk_undo = some ⟨oc_Walk_undo, od_Walk_undo, .func (PySem.W.fnOf "undo" "Walk.undo" (defArgs s_Walk_undo) (defBody s_Walk_undo) (defScope s_Walk_undo) .none kV_Walk_undo dc_Walk_undo pm_Walk_undo an_Walk_undo cd_Walk_undo ct_Walk_undo), sl_Walk_undo⟩)
    (c_Walk_undo : PySem.W.codeIn K cd_Walk_undo "Walk.undo" = true)
    (k_Walk_undo : PySem.W.keepIn K (.ref f_Walk_undo) = true)
    (a_Walk_len : PySem.W.findIn K (.ref C_Walk) "__len__" = some (some (.ref f_Walk_len)))
    (i_Walk_len : PySem.W.isFn K (.ref f_Walk_len) = true)
    (l_Walk_len : K.lookup f_Walk_len = some ⟨oc_Walk_len, od_Walk_len, .func (PySem.W.fnOf "__len__" "Walk.__len__" (defArgs s_Walk_len) (defBody s_Walk_len) (defScope s_Walk_len) .none kV_Walk_len dc_Walk_len pm_Walk_len an_Walk_len cd_Walk_len ct_Walk_len), sl_Walk_len⟩)
    (c_Walk_len : PySem.W.codeIn K cd_Walk_len "Walk.__len__" = true)
    (k_Walk_len : PySem.W.keepIn K (.ref f_Walk_len) = true)
    (a_l_random : PySem.W.nsIn K mainGlobals "_law_random" = some (some (.ref f_l_random)))
    (l_l_random : K.lookup f_l_random = some ⟨oc_l_random, od_l_random, .func (PySem.W.fnOf "_law_random" "_law_random" (defArgs s_l_random) (defBody s_l_random) (defScope s_l_random) .none kV_l_random dc_l_random pm_l_random an_l_random cd_l_random ct_l_random), sl_l_random⟩)
    (c_l_random : PySem.W.codeIn K cd_l_random "_law_random" = true)
    (k_l_random : PySem.W.keepIn K (.ref f_l_random) = true)
    (a_l_below : PySem.W.nsIn K mainGlobals "_law_below" = some (some (.ref f_l_below)))
    (l_l_below : K.lookup f_l_below = some ⟨oc_l_below, od_l_below, .func (PySem.W.fnOf "_law_below" "_law_below" (defArgs s_l_below) (defBody s_l_below) (defScope s_l_below) .none kV_l_below dc_l_below pm_l_below an_l_below cd_l_below ct_l_below), sl_l_below⟩)
    (c_l_below : PySem.W.codeIn K cd_l_below "_law_below" = true)
    (k_l_below : PySem.W.keepIn K (.ref f_l_below) = true)
    (a_l_one : PySem.W.nsIn K mainGlobals "_law_one" = some (some (.ref f_l_one)))
    (l_l_one : K.lookup f_l_one = some ⟨oc_l_one, od_l_one, .func (PySem.W.fnOf "_law_one" "_law_one" (defArgs s_l_one) (defBody s_l_one) (defScope s_l_one) .none kV_l_one dc_l_one pm_l_one an_l_one cd_l_one ct_l_one), sl_l_one⟩)
    (c_l_one : PySem.W.codeIn K cd_l_one "_law_one" = true)
    (k_l_one : PySem.W.keepIn K (.ref f_l_one) = true)
    (a_l_days_known : PySem.W.nsIn K mainGlobals "_law_days_known" = some (some (.ref f_l_days_known)))
    (l_l_days_known : K.lookup f_l_days_known = some ⟨oc_l_days_known, od_l_days_known, .func (PySem.W.fnOf "_law_days_known" "_law_days_known" (defArgs s_l_days_known) (defBody s_l_days_known) (defScope s_l_days_known) .none kV_l_days_known dc_l_days_known pm_l_days_known an_l_days_known cd_l_days_known ct_l_days_known), sl_l_days_known⟩)
    (c_l_days_known : PySem.W.codeIn K cd_l_days_known "_law_days_known" = true)
    (k_l_days_known : PySem.W.keepIn K (.ref f_l_days_known) = true)
    (a_l_decided : PySem.W.nsIn K mainGlobals "_law_decided" = some (some (.ref f_l_decided)))
    (l_l_decided : K.lookup f_l_decided = some ⟨oc_l_decided, od_l_decided, .func (PySem.W.fnOf "_law_decided" "_law_decided" (defArgs s_l_decided) (defBody s_l_decided) (defScope s_l_decided) .none kV_l_decided dc_l_decided pm_l_decided an_l_decided cd_l_decided ct_l_decided), sl_l_decided⟩)
    (c_l_decided : PySem.W.codeIn K cd_l_decided "_law_decided" = true)
    (k_l_decided : PySem.W.keepIn K (.ref f_l_decided) = true)
    (a_l_forms : PySem.W.nsIn K mainGlobals "_law_forms" = some (some (.ref f_l_forms)))
    (l_l_forms : K.lookup f_l_forms = some ⟨oc_l_forms, od_l_forms, .func (PySem.W.fnOf "_law_forms" "_law_forms" (defArgs s_l_forms) (defBody s_l_forms) (defScope s_l_forms) .none kV_l_forms dc_l_forms pm_l_forms an_l_forms cd_l_forms ct_l_forms), sl_l_forms⟩)
    (c_l_forms : PySem.W.codeIn K cd_l_forms "_law_forms" = true)
    (k_l_forms : PySem.W.keepIn K (.ref f_l_forms) = true)
    (a_l_seen_known : PySem.W.nsIn K mainGlobals "_law_seen_known" = some (some (.ref f_l_seen_known)))
    (l_l_seen_known : K.lookup f_l_seen_known = some ⟨oc_l_seen_known, od_l_seen_known, .func (PySem.W.fnOf "_law_seen_known" "_law_seen_known" (defArgs s_l_seen_known) (defBody s_l_seen_known) (defScope s_l_seen_known) .none kV_l_seen_known dc_l_seen_known pm_l_seen_known an_l_seen_known cd_l_seen_known ct_l_seen_known), sl_l_seen_known⟩)
    (c_l_seen_known : PySem.W.codeIn K cd_l_seen_known "_law_seen_known" = true)
    (k_l_seen_known : PySem.W.keepIn K (.ref f_l_seen_known) = true)
    (a_law : PySem.W.nsIn K mainGlobals "law" = some (some (.ref f_law)))
    (l_law : K.lookup f_law = some ⟨oc_law, od_law, .func (PySem.W.fnOf "law" "law" (defArgs s_law) (defBody s_law) (defScope s_law) .none kV_law dc_law pm_law an_law cd_law ct_law), sl_law⟩)
    (c_law : PySem.W.codeIn K cd_law "law" = true)
    (k_law : PySem.W.keepIn K (.ref f_law) = true)
    (a_BadSeen_init : PySem.W.findIn K (.ref C_BadSeen) "__init__" = some (some (.ref f_BadSeen_init)))
    (t_BadSeen_init : PySem.W.typeIn K (.ref f_BadSeen_init) = some (.type "function"))
    (l_BadSeen_init : K.lookup f_BadSeen_init = some ⟨oc_BadSeen_init, od_BadSeen_init, .func (PySem.W.ksFn "__init__" "BadSeen.__init__" (defArgs s_BadSeen_init) (defBody s_BadSeen_init) (defScope s_BadSeen_init) .none kV_BadSeen_init dc_BadSeen_init pm_BadSeen_init an_BadSeen_init (.ref cda_BadSeen_init) ct_BadSeen_init cc_BadSeen_init), sl_BadSeen_init⟩)
    (h_BadSeen_init : PySem.W.codeIn K (.ref cda_BadSeen_init) "BadSeen.__init__" = true)
    (k_BadSeen_init : PySem.W.keepIn K (.ref f_BadSeen_init) = true)
    (d_BadSeen_init : K.lookup cda_BadSeen_init = some ⟨ccl_BadSeen_init, cdd_BadSeen_init, .fields vs_BadSeen_init, ccs_BadSeen_init⟩)
    (v_BadSeen_init : vs_BadSeen_init[2]? = some (.str fi_BadSeen_init tf_BadSeen_init))
    (w_BadSeen_init : ((l.prog.main.file : Str) == fi_BadSeen_init) = true)
    (e_BadSeen_init : K.lookup cc_BadSeen_init = some ⟨cl_BadSeen_init, cld_BadSeen_init, .cell (some (.ref C_BadSeen)), csl_BadSeen_init⟩)
    (mr_BadSeen_init : PySem.W.mroIn K C_BadSeen (.ref C_BadSeen) = some true)
    (su_BadSeen_init : PySem.W.ks_superIn K C_BadSeen C_BadSeen "__init__" = some (some (.builtin "ValueError.__init__")))
    (sv_BadSeen_init : PySem.W.subIn K (.ref C_BadSeen) (.type "ValueError") = some true)
    (o_BadSeen : K.lookup C_BadSeen = some (excClassObj nm_BadSeen q_BadSeen C_BadSeen N_BadSeen bs_BadSeen bm_BadSeen true sn_BadSeen sub_BadSeen ab_BadSeen col_BadSeen dd_BadSeen k0_BadSeen k1_BadSeen k2_BadSeen k3_BadSeen k5_BadSeen "ValueError.__new__"))
    (rv_BadSeen : PySem.HandSPX.refsVE bm_BadSeen = true)
    (sa_BadSeen : PySem.W.findIn K (.ref C_BadSeen) "__setattr__" = some (some (.builtin "object.__setattr__")))
    (be_BadSeen : PySem.W.subIn K (.ref C_BadSeen) (.type "BaseException") = some true)
    (ty_BadSeen : PySem.W.typeIn K (.ref C_BadSeen) = some (.type "type"))
    (kc_BadSeen : PySem.W.keepIn K (.ref C_BadSeen) = true)
    (ga_BadSeen : PySem.W.findIn K (.ref C_BadSeen) "__getattribute__" = some (some (.builtin "BaseException.__getattribute__")))
    (gg_BadSeen : PySem.W.findIn K (.ref C_BadSeen) "__getattr__" = some none)
    (hd_BadSeen : PySem.W.hasDictIn K C_BadSeen = true)
    (ic_BadSeen : PySem.W.isClsIn K C_BadSeen = true)
    (se_BadSeen : PySem.W.subIn K (.ref C_BadSeen) (.ref C_BadSeen) = some true)
    (no_BadSeen_index : PySem.W.findIn K (.ref C_BadSeen) "index" = some none)
    (a_BadText_init : PySem.W.findIn K (.ref C_BadText) "__init__" = some (some (.ref f_BadText_init)))
    (t_BadText_init : PySem.W.typeIn K (.ref f_BadText_init) = some (.type "function"))
    (l_BadText_init : K.lookup f_BadText_init = some ⟨oc_BadText_init, od_BadText_init, .func (PySem.W.ksFn "__init__" "BadText.__init__" (defArgs s_BadText_init) (defBody s_BadText_init) (defScope s_BadText_init) .none kV_BadText_init dc_BadText_init pm_BadText_init an_BadText_init (.ref cda_BadText_init) ct_BadText_init cc_BadText_init), sl_BadText_init⟩)
    (h_BadText_init : PySem.W.codeIn K (.ref cda_BadText_init) "BadText.__init__" = true)
    (k_BadText_init : PySem.W.keepIn K (.ref f_BadText_init) = true)
    (d_BadText_init : K.lookup cda_BadText_init = some ⟨ccl_BadText_init, cdd_BadText_init, .fields vs_BadText_init, ccs_BadText_init⟩)
    (v_BadText_init : vs_BadText_init[2]? = some (.str fi_BadText_init tf_BadText_init))
    (w_BadText_init : ((l.prog.main.file : Str) == fi_BadText_init) = true)
    (e_BadText_init : K.lookup cc_BadText_init = some ⟨cl_BadText_init, cld_BadText_init, .cell (some (.ref C_BadText)), csl_BadText_init⟩)
    (mr_BadText_init : PySem.W.mroIn K C_BadText (.ref C_BadText) = some true)
    (su_BadText_init : PySem.W.ks_superIn K C_BadText C_BadText "__init__" = some (some (.builtin "ValueError.__init__")))
    (sv_BadText_init : PySem.W.subIn K (.ref C_BadText) (.type "ValueError") = some true)
    (o_BadText : K.lookup C_BadText = some (excClassObj nm_BadText q_BadText C_BadText N_BadText bs_BadText bm_BadText true sn_BadText sub_BadText ab_BadText col_BadText dd_BadText k0_BadText k1_BadText k2_BadText k3_BadText k5_BadText "ValueError.__new__"))
    (rv_BadText : PySem.HandSPX.refsVE bm_BadText = true)
    (sa_BadText : PySem.W.findIn K (.ref C_BadText) "__setattr__" = some (some (.builtin "object.__setattr__")))
    (be_BadText : PySem.W.subIn K (.ref C_BadText) (.type "BaseException") = some true)
    (ty_BadText : PySem.W.typeIn K (.ref C_BadText) = some (.type "type"))
    (kc_BadText : PySem.W.keepIn K (.ref C_BadText) = true)
    (ga_BadText : PySem.W.findIn K (.ref C_BadText) "__getattribute__" = some (some (.builtin "BaseException.__getattribute__")))
    (gg_BadText : PySem.W.findIn K (.ref C_BadText) "__getattr__" = some none)
    (hd_BadText : PySem.W.hasDictIn K C_BadText = true)
    (ic_BadText : PySem.W.isClsIn K C_BadText = true)
    (se_BadText : PySem.W.subIn K (.ref C_BadText) (.ref C_BadText) = some true)
    (no_BadText_line : PySem.W.findIn K (.ref C_BadText) "line" = some none)
    (no_BadText_word : PySem.W.findIn K (.ref C_BadText) "word" = some none)
    (ha : PySem.W.findIn K (.ref C_Feast) "__class__" = some (some (.builtin "object.__class__")))
    (hn : PySem.W.specialIn K (.builtin "object.__class__") "__get__" = some (some (.builtin "getset_descriptor.__get__")))
    (htk : PySem.W.takesIn K (.builtin "object.__class__") = some true)
    (hm : PySem.W.mroIn K C_Feast (.type "object") = some true)
    (haC : PySem.W.findIn K (.ref C_Calendar) "__class__" = some (some (.builtin "object.__class__")))
    (hmC : PySem.W.mroIn K C_Calendar (.type "object") = some true)
    (hic : PySem.W.isClsIn K C_Feast = true)
    (hty : PySem.W.typeIn K (.ref C_Feast) = some (.type "type"))
    (hsuT : PySem.W.subIn K (.type "tuple") (.ref C_Feast) = some false)
    (hicC : PySem.W.isClsIn K C_Calendar = true)
    (htyC : PySem.W.typeIn K (.ref C_Calendar) = some (.type "type"))
    (hsuC : PySem.W.subIn K (.type "tuple") (.ref C_Calendar) = some false)
    (hsf : PySem.W.selfFirst K C_Feast = true)
    : ∃ fd : FuncData, (∀ (s : Shared) (v : Value), BindsTo s fd ⟨[v], []⟩ [("_law_script", v)]) ∧ ∀ base : Heap, K.In base → base.Ns mainGlobals mg → FnOk l.prog w K mg base CX0 17 fa fd ["_law_script"] (spLaw K) := by
  have e := hfa.symm.trans (PySem.W.mg_of X G a_law)
  cases e
  have T : Txt l.prog w K mg C_BadRule C_BadRules C_BadLand C_BadDay C_BadNumber C_BadSeen C_BadText C_Feast C_Calendar C_Line C_Walk := by
    constructor
    · exact mg_none_of X G z_super
    · exact ⟨⟨⟨_, _, _, _, _, _, _, _, _, _, _, _, _, _, _, o_BadSeen, rv_BadSeen⟩, sa_BadSeen, be_BadSeen, ty_BadSeen, kc_BadSeen⟩, ⟨_, _, _, _, ⟨⟨_, _, _, _, _, _, _, _, _, rfl, l_BadSeen_init⟩, h_BadSeen_init, k_BadSeen_init, ⟨_, _, _, _, _, _, d_BadSeen_init, v_BadSeen_init, w_BadSeen_init⟩, ⟨_, _, _, e_BadSeen_init⟩, mr_BadSeen_init, z_super, tp_super, an_super, su_BadSeen_init, sv_BadSeen_init⟩, a_BadSeen_init, t_BadSeen_init, Binds.all fun us hl => match us, hl with | [_, _], _ => rfl⟩, ⟨ga_BadSeen, gg_BadSeen, be_BadSeen, hd_BadSeen⟩, fun x hx => by
        simp only [List.mem_cons, List.not_mem_nil, or_false] at hx
        rcases hx with rfl <;> assumption, ic_BadSeen, se_BadSeen⟩
    · exact ⟨⟨⟨_, _, _, _, _, _, _, _, _, _, _, _, _, _, _, o_BadText, rv_BadText⟩, sa_BadText, be_BadText, ty_BadText, kc_BadText⟩, ⟨_, _, _, _, ⟨⟨_, _, _, _, _, _, _, _, _, rfl, l_BadText_init⟩, h_BadText_init, k_BadText_init, ⟨_, _, _, _, _, _, d_BadText_init, v_BadText_init, w_BadText_init⟩, ⟨_, _, _, e_BadText_init⟩, mr_BadText_init, z_super, tp_super, an_super, su_BadText_init, sv_BadText_init⟩, a_BadText_init, t_BadText_init, Binds.all fun us hl => match us, hl with | [_, _, _], _ => rfl⟩, ⟨ga_BadText, gg_BadText, be_BadText, hd_BadText⟩, fun x hx => by
        simp only [List.mem_cons, List.not_mem_nil, or_false] at hx
        rcases hx with rfl | rfl <;> assumption, ic_BadText, se_BadText⟩
    · exact mg_none_of X G z_len
    · exact mg_none_of X G z_abs
    · exact mg_none_of X G z_sum
    · exact mg_none_of X G z_max
    · exact mg_none_of X G z_isinstance
    · exact mg_none_of X G z_sorted
    · exact mg_none_of X G z_all
    · exact mg_none_of X G z_int
    · exact mg_none_of X G z_str
    · exact mg_none_of X G z_list
    · exact mg_none_of X G z_tuple
    · exact mg_none_of X G z_bool
    · exact mg_none_of X G z_range
    · exact mg_none_of X G z_enumerate
    · exact ⟨_, mg_of X G g_BYS, fun H => .inr ⟨_, _, _, l_u_BYS, rfl, rfl, by show 4 ≤ sizeLine; decide, (.cons ⟨t_u_BYS_0, rfl⟩ (.cons ⟨t_u_BYS_1, rfl⟩ (.cons ⟨t_u_BYS_2, rfl⟩ (.cons ⟨t_u_BYS_3, rfl⟩ .nil))))⟩⟩
    · exact ⟨_, _, _, mg_of X G g_ENDS, ⟨⟨_, _, l_ENDS, e_ENDS, w_ENDS⟩, x_weekday, x_first, x_monthday, no5 x_behind x_both x_either x_without x_week, fun H => .inr ⟨_, _, _, l_u_W, rfl, rfl, by show 4 ≤ sizeLine; decide, (.cons ⟨t_u_W_0, rfl⟩ (.cons ⟨t_u_W_1, rfl⟩ (.cons ⟨t_u_W_2, rfl⟩ (.cons ⟨t_u_W_3, rfl⟩ .nil))))⟩, fun H => .inr ⟨_, _, _, l_u_M, rfl, rfl, by show 6 ≤ sizeLine; decide, (.cons ⟨t_u_M_0, rfl⟩ (.cons ⟨t_u_M_1, rfl⟩ (.cons ⟨t_u_M_2, rfl⟩ (.cons ⟨t_u_M_3, rfl⟩ (.cons ⟨t_u_M_4, rfl⟩ (.cons ⟨t_u_M_5, rfl⟩ .nil))))))⟩⟩⟩
    · exact ⟨_, mg_of X G g_PAIRS, fun H => .inr ⟨_, _, _, l_u_PAIRS, rfl, rfl, by show 3 ≤ sizeLine; decide, (.cons ⟨t_u_PAIRS_0, rfl⟩ (.cons ⟨t_u_PAIRS_1, rfl⟩ (.cons ⟨t_u_PAIRS_2, rfl⟩ .nil)))⟩⟩
    · exact ⟨_, mg_of X G g_MOST_PARTS, t_MOST_PARTS, rfl⟩
    · exact ⟨_, mg_of X G g_MOST_BYS, t_MOST_BYS, rfl⟩
    · exact ⟨_, mg_of X G g_MOST_RULES, t_MOST_RULES, rfl⟩
    · exact ⟨_, mg_of X G g_LEAST_REACH, t_LEAST_REACH, rfl⟩
    · exact ⟨_, mg_of X G g_MOST_ROUND, t_MOST_ROUND, rfl⟩
    · exact ⟨_, mg_of X G g_WEEKS, t_WEEKS, rfl⟩
    · exact ⟨_, mg_of X G g_MONTHS, t_MONTHS, rfl⟩
    · exact ⟨_, mg_of X G g_GREATEST, t_GREATEST, congrArg (fun z => Value.int z t_GREATEST) (by decide +kernel)⟩
    · exact ⟨_, mg_of X G g_FARTHEST, t_FARTHEST, rfl⟩
    · exact ⟨_, mg_of X G g_MOST_ASKED, t_MOST_ASKED, rfl⟩
    · exact ⟨_, mg_of X G g_MOST_DAYS, t_MOST_DAYS, rfl⟩
    · exact fun d h => by
        have e := (PySem.W.mg_of X G g_ENDS).symm.trans h
        cases e
        exact ⟨_, _, ⟨l_ENDS, e_ENDS, w_ENDS⟩, kk_ENDS⟩
    · exact ⟨_, mg_of X G g_PAIRS, ⟨_, _, l_u_PAIRS, (.cons ⟨t_u_PAIRS_0, rfl⟩ (.cons ⟨t_u_PAIRS_1, rfl⟩ (.cons ⟨t_u_PAIRS_2, rfl⟩ .nil)))⟩, fun H => .inr ⟨_, _, _, l_u_PAIRS, rfl, rfl, by show 3 ≤ sizeLine; decide, (.cons ⟨t_u_PAIRS_0, rfl⟩ (.cons ⟨t_u_PAIRS_1, rfl⟩ (.cons ⟨t_u_PAIRS_2, rfl⟩ .nil)))⟩⟩
    · exact ⟨_, _, _, mg_of X G g_BEGINS, ⟨l_BEGINS, e_BEGINS, w_BEGINS⟩, kk_BEGINS, x_plain, x_yields⟩
    · exact mg_of X G a_BadRule
    · exact ⟨x_BadRule, k_BadRule, b_BadRule, t_BadRule, i_BadRule, s_BadRule⟩
    · exact mg_of X G a_BadRules
    · exact mg_of X G a_BadLand
    · exact ⟨x_BadLand, k_BadLand, b_BadLand, t_BadLand, i_BadLand, s_BadLand⟩
    · exact mg_of X G a_BadDay
    · exact ⟨x_BadDay, k_BadDay, b_BadDay, t_BadDay, i_BadDay, s_BadDay⟩
    · exact mg_of X G a_BadNumber
    · exact ⟨x_BadNumber, k_BadNumber, b_BadNumber, t_BadNumber, i_BadNumber, s_BadNumber⟩
    · exact mg_of X G a_BadSeen
    · exact mg_of X G a_BadText
    · exact mg_of X G a_Feast
    · exact mg_of X G a_Calendar
    · exact mg_of X G a_Line
    · exact mg_of X G a_Walk
    · exact ⟨⟨_, _, mg_of X G a_is_in, fun_mk (st := s_is_in) l_is_in c_is_in k_is_in, (fun_mk (st := s_is_in) l_is_in c_is_in k_is_in).binds fun _ _ _ _ _ _ us hl => match us, hl with | [_, _], _ => rfl⟩⟩
    · exact ⟨⟨_, _, mg_of X G a_within, fun_mk (st := s_within) l_within c_within k_within, (fun_mk (st := s_within) l_within c_within k_within).binds fun _ _ _ _ _ _ us hl => match us, hl with | [_], _ => rfl⟩⟩
    · exact ⟨⟨_, _, mg_of X G a_size_of, fun_mk (st := s_size_of) l_size_of c_size_of k_size_of, (fun_mk (st := s_size_of) l_size_of c_size_of k_size_of).binds fun _ _ _ _ _ _ us hl => match us, hl with | [_, _], _ => rfl⟩⟩
    · exact ⟨⟨_, _, mg_of X G a_is_rule, fun_mk (st := s_is_rule) l_is_rule c_is_rule k_is_rule, (fun_mk (st := s_is_rule) l_is_rule c_is_rule k_is_rule).binds fun _ _ _ _ _ _ us hl => match us, hl with | [_], _ => rfl⟩⟩
    · exact ⟨⟨_, _, ⟨mk_Feast, a_Feast_init, i_Feast_init, kc_Feast⟩, fun_mk (st := s_Feast_init) l_Feast_init c_Feast_init k_Feast_init, (fun_mk (st := s_Feast_init) l_Feast_init c_Feast_init k_Feast_init).binds fun _ _ _ _ _ _ us hl => match us, hl with | [_, _], _ => rfl⟩⟩
    · exact ⟨⟨_, _, ⟨a_Feast_eq, i_Feast_eq, k_Feast_eq⟩, fun_mk (st := s_Feast_eq) l_Feast_eq c_Feast_eq k_Feast_eq, (fun_mk (st := s_Feast_eq) l_Feast_eq c_Feast_eq k_Feast_eq).binds fun _ _ _ _ _ _ us hl => match us, hl with | [_, _], _ => rfl⟩⟩
    · exact ⟨⟨_, _, ⟨a_Feast_and, i_Feast_and, k_Feast_and⟩, fun_mk (st := s_Feast_and) l_Feast_and c_Feast_and k_Feast_and, (fun_mk (st := s_Feast_and) l_Feast_and c_Feast_and k_Feast_and).binds fun _ _ _ _ _ _ us hl => match us, hl with | [_, _], _ => rfl⟩⟩
    · exact ⟨⟨_, _, ⟨a_Feast_or, i_Feast_or, k_Feast_or⟩, fun_mk (st := s_Feast_or) l_Feast_or c_Feast_or k_Feast_or, (fun_mk (st := s_Feast_or) l_Feast_or c_Feast_or k_Feast_or).binds fun _ _ _ _ _ _ us hl => match us, hl with | [_, _], _ => rfl⟩⟩
    · exact ⟨⟨_, _, ⟨a_Feast_sub, i_Feast_sub, k_Feast_sub⟩, fun_mk (st := s_Feast_sub) l_Feast_sub c_Feast_sub k_Feast_sub, (fun_mk (st := s_Feast_sub) l_Feast_sub c_Feast_sub k_Feast_sub).binds fun _ _ _ _ _ _ us hl => match us, hl with | [_, _], _ => rfl⟩⟩
    · exact ⟨⟨_, _, ⟨a_Feast_moved, i_Feast_moved, k_Feast_moved⟩, fun_mk (st := s_Feast_moved) l_Feast_moved c_Feast_moved k_Feast_moved, (fun_mk (st := s_Feast_moved) l_Feast_moved c_Feast_moved k_Feast_moved).binds fun _ _ _ _ _ _ us hl => match us, hl with | [_, _], _ => rfl⟩⟩
    · exact ⟨⟨_, _, mg_of X G a_is_pair, fun_mk (st := s_is_pair) l_is_pair c_is_pair k_is_pair, (fun_mk (st := s_is_pair) l_is_pair c_is_pair k_is_pair).binds fun _ _ _ _ _ _ us hl => match us, hl with | [_], _ => rfl⟩⟩
    · exact ⟨⟨_, _, ⟨mk_Calendar, a_Calendar_init, i_Calendar_init, kc_Calendar⟩, fun_mk (st := s_Calendar_init) l_Calendar_init c_Calendar_init k_Calendar_init, (fun_mk (st := s_Calendar_init) l_Calendar_init c_Calendar_init k_Calendar_init).binds fun _ _ _ _ _ _ us hl => match us, hl with | [_, _], _ => rfl⟩⟩
    · exact ⟨⟨_, _, _, ⟨a_Calendar_reach, i_Calendar_reach, t_Calendar_reach, ⟨_, r_Calendar_reach⟩⟩, fun_mk (st := s_Calendar_reach) l_Calendar_reach c_Calendar_reach k_Calendar_reach, (fun_mk (st := s_Calendar_reach) l_Calendar_reach c_Calendar_reach k_Calendar_reach).binds fun _ _ _ _ _ _ us hl => match us, hl with | [_], _ => rfl⟩⟩
    · exact ⟨⟨_, _, ⟨a_Calendar_eq, i_Calendar_eq, k_Calendar_eq⟩, fun_mk (st := s_Calendar_eq) l_Calendar_eq c_Calendar_eq k_Calendar_eq, (fun_mk (st := s_Calendar_eq) l_Calendar_eq c_Calendar_eq k_Calendar_eq).binds fun _ _ _ _ _ _ us hl => match us, hl with | [_, _], _ => rfl⟩⟩
    · exact ⟨⟨_, _, mg_of X G a_divisor, fun_mk (st := s_divisor) l_divisor c_divisor k_divisor, (fun_mk (st := s_divisor) l_divisor c_divisor k_divisor).binds fun _ _ _ _ _ _ us hl => match us, hl with | [_, _], _ => rfl⟩⟩
    · exact ⟨⟨_, _, mg_of X G a_is_land, fun_mk (st := s_is_land) l_is_land c_is_land k_is_land, (fun_mk (st := s_is_land) l_is_land c_is_land k_is_land).binds fun _ _ _ _ _ _ us hl => match us, hl with | [_], _ => rfl⟩⟩
    · exact ⟨⟨_, _, mg_of X G a_need_land, fun_mk (st := s_need_land) l_need_land c_need_land k_need_land, (fun_mk (st := s_need_land) l_need_land c_need_land k_need_land).binds fun _ _ _ _ _ _ us hl => match us, hl with | [_], _ => rfl⟩⟩
    · exact ⟨⟨_, _, mg_of X G a_every, fun_mk (st := s_every) l_every c_every k_every, (fun_mk (st := s_every) l_every c_every k_every).binds fun _ _ _ _ _ _ us hl => match us, hl with | [_, _, _], _ => rfl⟩⟩
    · exact ⟨⟨_, _, mg_of X G a_turned, fun_mk (st := s_turned) l_turned c_turned k_turned, (fun_mk (st := s_turned) l_turned c_turned k_turned).binds fun _ _ _ _ _ _ us hl => match us, hl with | [_, _, _], _ => rfl⟩⟩
    · exact ⟨⟨_, _, mg_of X G a_figure_of, fun_mk (st := s_figure_of) l_figure_of c_figure_of k_figure_of, (fun_mk (st := s_figure_of) l_figure_of c_figure_of k_figure_of).binds fun _ _ _ _ _ _ us hl => match us, hl with | [_, _], _ => rfl⟩⟩
    · exact ⟨⟨_, _, mg_of X G a_days_of, fun_mk (st := s_days_of) l_days_of c_days_of k_days_of, (fun_mk (st := s_days_of) l_days_of c_days_of k_days_of).binds fun _ _ _ _ _ _ us hl => match us, hl with | [_, _], _ => rfl⟩⟩
    · exact ⟨⟨_, _, mg_of X G a_listed, fun_mk (st := s_listed) l_listed c_listed k_listed, (fun_mk (st := s_listed) l_listed c_listed k_listed).binds fun _ _ _ _ _ _ us hl => match us, hl with | [_], _ => rfl⟩⟩
    · exact ⟨⟨_, _, mg_of X G a_lands_to, fun_mk (st := s_lands_to) l_lands_to c_lands_to k_lands_to, (fun_mk (st := s_lands_to) l_lands_to c_lands_to k_lands_to).binds fun _ _ _ _ _ _ us hl => match us, hl with | [_, _], _ => rfl⟩⟩
    · exact ⟨⟨_, _, mg_of X G a_enough, fun_mk (st := s_enough) l_enough c_enough k_enough, (fun_mk (st := s_enough) l_enough c_enough k_enough).binds fun _ _ _ _ _ _ us hl => match us, hl with | [_], _ => rfl⟩⟩
    · exact ⟨⟨_, _, mg_of X G a_first_unlike, fun_mk (st := s_first_unlike) l_first_unlike c_first_unlike k_first_unlike, (fun_mk (st := s_first_unlike) l_first_unlike c_first_unlike k_first_unlike).binds fun _ _ _ _ _ _ us hl => match us, hl with | [_, _, _], _ => rfl⟩⟩
    · exact ⟨⟨_, _, mg_of X G a_parting, fun_mk (st := s_parting) l_parting c_parting k_parting, (fun_mk (st := s_parting) l_parting c_parting k_parting).binds fun _ _ _ _ _ _ us hl => match us, hl with | [_, _], _ => rfl⟩⟩
    · exact ⟨⟨_, _, mg_of X G a_alike, fun_mk (st := s_alike) l_alike c_alike k_alike, (fun_mk (st := s_alike) l_alike c_alike k_alike).binds fun _ _ _ _ _ _ us hl => match us, hl with | [_, _], _ => rfl⟩⟩
    · exact ⟨⟨_, _, mg_of X G a_meeting, fun_mk (st := s_meeting) l_meeting c_meeting k_meeting, (fun_mk (st := s_meeting) l_meeting c_meeting k_meeting).binds fun _ _ _ _ _ _ us hl => match us, hl with | [_, _], _ => rfl⟩⟩
    · exact ⟨⟨_, _, mg_of X G a_needless, fun_mk (st := s_needless) l_needless c_needless k_needless, (fun_mk (st := s_needless) l_needless c_needless k_needless).binds fun _ _ _ _ _ _ us hl => match us, hl with | [_], _ => rfl⟩⟩
    · exact ⟨⟨_, _, mg_of X G a_swaps, fun_mk (st := s_swaps) l_swaps c_swaps k_swaps, (fun_mk (st := s_swaps) l_swaps c_swaps k_swaps).binds fun _ _ _ _ _ _ us hl => match us, hl with | [_], _ => rfl⟩⟩
    · exact ⟨⟨_, _, mg_of X G a_form, fun_mk (st := s_form) l_form c_form k_form, (fun_mk (st := s_form) l_form c_form k_form).binds fun _ _ _ _ _ _ us hl => match us, hl with | [_], _ => rfl⟩⟩
    · exact ⟨⟨_, _, mg_of X G a_is_from, fun_mk (st := s_is_from) l_is_from c_is_from k_is_from, (fun_mk (st := s_is_from) l_is_from c_is_from k_is_from).binds fun _ _ _ _ _ _ us hl => match us, hl with | [_, _], _ => rfl⟩⟩
    · exact ⟨⟨_, _, mg_of X G a_need_day, fun_mk (st := s_need_day) l_need_day c_need_day k_need_day, (fun_mk (st := s_need_day) l_need_day c_need_day k_need_day).binds fun _ _ _ _ _ _ us hl => match us, hl with | [_], _ => rfl⟩⟩
    · exact ⟨⟨_, _, mg_of X G a_is_day, fun_mk (st := s_is_day) l_is_day c_is_day k_is_day, (fun_mk (st := s_is_day) l_is_day c_is_day k_is_day).binds fun _ _ _ _ _ _ us hl => match us, hl with | [_, _, _], _ => rfl⟩⟩
    · exact ⟨⟨_, _, mg_of X G a_nth, fun_mk (st := s_nth) l_nth c_nth k_nth, (fun_mk (st := s_nth) l_nth c_nth k_nth).binds fun _ _ _ _ _ _ us hl => match us, hl with | [_, _, _], _ => rfl⟩⟩
    · exact ⟨⟨_, _, mg_of X G a_ahead_of, fun_mk (st := s_ahead_of) l_ahead_of c_ahead_of k_ahead_of, (fun_mk (st := s_ahead_of) l_ahead_of c_ahead_of k_ahead_of).binds fun _ _ _ _ _ _ us hl => match us, hl with | [_, _, _], _ => rfl⟩⟩
    · exact ⟨⟨_, _, mg_of X G a_between, fun_mk (st := s_between) l_between c_between k_between, (fun_mk (st := s_between) l_between c_between k_between).binds fun _ _ _ _ _ _ us hl => match us, hl with | [_, _, _, _], _ => rfl⟩⟩
    · exact ⟨⟨_, _, mg_of X G a_count, fun_mk (st := s_count) l_count c_count k_count, (fun_mk (st := s_count) l_count c_count k_count).binds fun _ _ _ _ _ _ us hl => match us, hl with | [_, _], _ => rfl⟩⟩
    · exact ⟨⟨_, _, mg_of X G a_is_seen, fun_mk (st := s_is_seen) l_is_seen c_is_seen k_is_seen, (fun_mk (st := s_is_seen) l_is_seen c_is_seen k_is_seen).binds fun _ _ _ _ _ _ us hl => match us, hl with | [_], _ => rfl⟩⟩
    · exact ⟨⟨_, _, mg_of X G a_fits, fun_mk (st := s_fits) l_fits c_fits k_fits, (fun_mk (st := s_fits) l_fits c_fits k_fits).binds fun _ _ _ _ _ _ us hl => match us, hl with | [_, _, _], _ => rfl⟩⟩
    · exact ⟨⟨_, _, mg_of X G a_fitting, fun_mk (st := s_fitting) l_fitting c_fitting k_fitting, (fun_mk (st := s_fitting) l_fitting c_fitting k_fitting).binds fun _ _ _ _ _ _ us hl => match us, hl with | [_, _, _], _ => rfl⟩⟩
    · exact ⟨⟨_, _, mg_of X G a_asking, fun_mk (st := s_asking) l_asking c_asking k_asking, (fun_mk (st := s_asking) l_asking c_asking k_asking).binds fun _ _ _ _ _ _ us hl => match us, hl with | [_, _, _], _ => rfl⟩⟩
    · exact ⟨⟨_, _, mg_of X G a_words_of, fun_mk (st := s_words_of) l_words_of c_words_of k_words_of, (fun_mk (st := s_words_of) l_words_of c_words_of k_words_of).binds fun _ _ _ _ _ _ us hl => match us, hl with | [_], _ => rfl⟩⟩
    · exact ⟨⟨_, _, mg_of X G a_write, fun_mk (st := s_write) l_write c_write k_write, (fun_mk (st := s_write) l_write c_write k_write).binds fun _ _ _ _ _ _ us hl => match us, hl with | [_], _ => rfl⟩⟩
    · exact ⟨⟨_, _, ⟨mk_Line, a_Line_init, i_Line_init, kc_Line⟩, fun_mk (st := s_Line_init) l_Line_init c_Line_init k_Line_init, (fun_mk (st := s_Line_init) l_Line_init c_Line_init k_Line_init).binds fun _ _ _ _ _ _ us hl => match us, hl with | [_, _, _, _], _ => rfl⟩⟩
    · exact ⟨⟨_, _, ⟨a_Line_take, i_Line_take, k_Line_take⟩, fun_mk (st := s_Line_take) l_Line_take c_Line_take k_Line_take, (fun_mk (st := s_Line_take) l_Line_take c_Line_take k_Line_take).binds fun _ _ _ _ _ _ us hl => match us, hl with | [_, _], _ => rfl⟩⟩
    · exact ⟨⟨_, _, ⟨a_Line_take_number, i_Line_take_number, k_Line_take_number⟩, fun_mk (st := s_Line_take_number) l_Line_take_number c_Line_take_number k_Line_take_number, (fun_mk (st := s_Line_take_number) l_Line_take_number c_Line_take_number k_Line_take_number).binds fun _ _ _ _ _ _ us hl => match us, hl with | [_, _], _ => rfl⟩⟩
    · exact ⟨⟨_, _, ⟨a_Line_whole_rule, i_Line_whole_rule, k_Line_whole_rule⟩, fun_mk (st := s_Line_whole_rule) l_Line_whole_rule c_Line_whole_rule k_Line_whole_rule, (fun_mk (st := s_Line_whole_rule) l_Line_whole_rule c_Line_whole_rule k_Line_whole_rule).binds fun _ _ _ _ _ _ us hl => match us, hl with | [_], _ => rfl⟩⟩
    · exact ⟨⟨_, _, ⟨a_Line_end, i_Line_end, k_Line_end⟩, fun_mk (st := s_Line_end) l_Line_end c_Line_end k_Line_end, (fun_mk (st := s_Line_end) l_Line_end c_Line_end k_Line_end).binds fun _ _ _ _ _ _ us hl => match us, hl with | [_], _ => rfl⟩⟩
    · exact ⟨⟨_, _, mg_of X G a_read, fun_mk (st := s_read) l_read c_read k_read, (fun_mk (st := s_read) l_read c_read k_read).binds fun _ _ _ _ _ _ us hl => match us, hl with | [_], _ => rfl⟩⟩
    · exact ⟨⟨_, _, ⟨mk_Walk, a_Walk_init, i_Walk_init, kc_Walk⟩, fun_mk (st := s_Walk_init) l_Walk_init c_Walk_init k_Walk_init, (fun_mk (st := s_Walk_init) l_Walk_init c_Walk_init k_Walk_init).binds fun _ _ _ _ _ _ us hl => match us, hl with | [_, _, _], _ => rfl⟩⟩
    · exact ⟨⟨_, _, ⟨a_Walk_go, i_Walk_go, k_Walk_go⟩, fun_mk (st := s_Walk_go) l_Walk_go c_Walk_go k_Walk_go, (fun_mk (st := s_Walk_go) l_Walk_go c_Walk_go k_Walk_go).binds fun _ _ _ _ _ _ us hl => match us, hl with | [_, _], _ => rfl⟩⟩
    · exact ⟨⟨_, _, ⟨a_Walk_day, i_Walk_day, k_Walk_day⟩, fun_mk (st := s_Walk_day) l_Walk_day c_Walk_day k_Walk_day, (fun_mk (st := s_Walk_day) l_Walk_day c_Walk_day k_Walk_day).binds fun _ _ _ _ _ _ us hl => match us, hl with | [_], _ => rfl⟩⟩
    · exact ⟨⟨_, _, ⟨a_Walk_feasts, i_Walk_feasts, k_Walk_feasts⟩, fun_mk (st := s_Walk_feasts) l_Walk_feasts c_Walk_feasts k_Walk_feasts, (fun_mk (st := s_Walk_feasts) l_Walk_feasts c_Walk_feasts k_Walk_feasts).binds fun _ _ _ _ _ _ us hl => match us, hl with | [_], _ => rfl⟩⟩
    · exact ⟨⟨_, _, ⟨a_Walk_undo, i_Walk_undo, k_Walk_undo⟩, fun_mk (st := s_Walk_undo) l_Walk_undo c_Walk_undo k_Walk_undo, (fun_mk (st := s_Walk_undo) l_Walk_undo c_Walk_undo k_Walk_undo).binds fun _ _ _ _ _ _ us hl => match us, hl with | [_], _ => rfl⟩⟩
    · exact ⟨⟨_, _, ⟨a_Walk_len, i_Walk_len, k_Walk_len⟩, fun_mk (st := s_Walk_len) l_Walk_len c_Walk_len k_Walk_len, (fun_mk (st := s_Walk_len) l_Walk_len c_Walk_len k_Walk_len).binds fun _ _ _ _ _ _ us hl => match us, hl with | [_], _ => rfl⟩⟩
    · exact ⟨⟨_, _, mg_of X G a_l_random, fun_mk (st := s_l_random) l_l_random c_l_random k_l_random, (fun_mk (st := s_l_random) l_l_random c_l_random k_l_random).binds fun _ _ _ _ _ _ us hl => match us, hl with | [_, _], _ => rfl⟩⟩
    · exact ⟨⟨_, _, mg_of X G a_l_below, fun_mk (st := s_l_below) l_l_below c_l_below k_l_below, (fun_mk (st := s_l_below) l_l_below c_l_below k_l_below).binds fun _ _ _ _ _ _ us hl => match us, hl with | [_, _], _ => rfl⟩⟩
    · exact ⟨⟨_, _, mg_of X G a_l_one, fun_mk (st := s_l_one) l_l_one c_l_one k_l_one, (fun_mk (st := s_l_one) l_l_one c_l_one k_l_one).binds fun _ _ _ _ _ _ us hl => match us, hl with | [_], _ => rfl⟩⟩
    · exact ⟨⟨_, _, mg_of X G a_l_days_known, fun_mk (st := s_l_days_known) l_l_days_known c_l_days_known k_l_days_known, (fun_mk (st := s_l_days_known) l_l_days_known c_l_days_known k_l_days_known).binds fun _ _ _ _ _ _ us hl => match us, hl with | [], _ => rfl⟩⟩
    · exact ⟨⟨_, _, mg_of X G a_l_decided, fun_mk (st := s_l_decided) l_l_decided c_l_decided k_l_decided, (fun_mk (st := s_l_decided) l_l_decided c_l_decided k_l_decided).binds fun _ _ _ _ _ _ us hl => match us, hl with | [], _ => rfl⟩⟩
    · exact ⟨⟨_, _, mg_of X G a_l_forms, fun_mk (st := s_l_forms) l_l_forms c_l_forms k_l_forms, (fun_mk (st := s_l_forms) l_l_forms c_l_forms k_l_forms).binds fun _ _ _ _ _ _ us hl => match us, hl with | [], _ => rfl⟩⟩
    · exact ⟨⟨_, _, mg_of X G a_l_seen_known, fun_mk (st := s_l_seen_known) l_l_seen_known c_l_seen_known k_l_seen_known, (fun_mk (st := s_l_seen_known) l_l_seen_known c_l_seen_known k_l_seen_known).binds fun _ _ _ _ _ _ us hl => match us, hl with | [], _ => rfl⟩⟩
    · exact ⟨⟨_, _, mg_of X G a_law, fun_mk (st := s_law) l_law c_law k_law, (fun_mk (st := s_law) l_law c_law k_law).binds fun _ _ _ _ _ _ us hl => match us, hl with | [_], _ => rfl⟩⟩
  have K_Feast : Cls1 K C_Feast ["told", "bys"] := ⟨⟨pg_Feast, hd_Feast, po_Feast, sa_Feast⟩, fun x hx => by
    simp only [List.mem_cons, List.not_mem_nil, or_false] at hx
    rcases hx with rfl | rfl <;> assumption⟩
  have K_Calendar : Cls1 K C_Calendar ["rows", "near"] := ⟨⟨pg_Calendar, hd_Calendar, po_Calendar, sa_Calendar⟩, fun x hx => by
    simp only [List.mem_cons, List.not_mem_nil, or_false] at hx
    rcases hx with rfl | rfl <;> assumption⟩
  have K_Line : Cls1 K C_Line ["number", "row", "spot", "parts", "due", "room"] := ⟨⟨pg_Line, hd_Line, po_Line, sa_Line⟩, fun x hx => by
    simp only [List.mem_cons, List.not_mem_nil, or_false] at hx
    rcases hx with rfl | rfl | rfl | rfl | rfl | rfl <;> assumption⟩
  have K_Walk : Cls1 K C_Walk ["figure", "round_days", "rows"] := ⟨⟨pg_Walk, hd_Walk, po_Walk, sa_Walk⟩, fun x hx => by
    simp only [List.mem_cons, List.not_mem_nil, or_false] at hx
    rcases hx with rfl | rfl | rfl <;> assumption⟩
  exact ⟨_, fun s v => .of_eq rfl, fun base _ _ => ok_law (fun_mk (st := s_law) l_law c_law k_law) T K_Feast ⟨K_Feast.cl, ha, hn, htk, hm⟩ K_Calendar ⟨K_Calendar.cl, haC, hn, htk, hmC⟩ K_Line K_Walk hsf (kit_no hic hty hsuT) (kit_no hicC htyC hsuC)⟩
theorem walk {l : PySem.W.OpenLaw} {q : Program} {loose : List Str} {XP : (Str → Option Value) → Heap → Prop} {YP : World → Heap → Prop} {d : DefRec} {K : Params → PySem.W.Frag} (hn : l.most = some 63) (hdf : d.params.defaults = [])
    (hY : ∀ (w : World) (h : Heap), YP w h → (K w.params).In h)
    (F : ∀ (w : World) (mg : Str → Option Value) (fa : Addr) (h : Heap), (K w.params).In h → h.Ns mainGlobals mg → mg d.name = some (.ref fa) →
      ∃ fd : FuncData, (∀ (s : Shared) (u : Value), BindsTo s fd ⟨[u], []⟩ [("_law_script", u)]) ∧ ∀ base : Heap, (K w.params).In base → base.Ns mainGlobals mg → FnOk l.prog w (K w.params) mg base CX0 17 fa fd ["_law_script"] (spLaw (K w.params))) :
    PySem.W.WalkO q loose XP YP l.row.toRowW d [] (fun f vs => PySem.call f vs) :=
  L2.walk_of (n := 63) (k := 17) (x := "_law_script") (CX := fun _ => CX0) (sp := fun w => spLaw (K w.params)) hn (by decide) hdf ⟨rfl, by decide, by decide⟩ hY F (fun _ _ a ns hl _ hS => ⟨a, ns, rfl, hS, hl, fun _ => rfl⟩) fun _ _ _ _ _ z => z
end WF
open PySem PySem.W PyProof.Rows in
set_option maxRecDepth 100000 in
set_option maxHeartbeats 0 in
theorem PySem.Challenge.cw_weekfeasts_k15_known_calendars_holds : PySem.Challenge.rw_weekfeasts_k15_known_calendars.Holds := by
  w_on; o_law; k_head; (case hw => w_witness2)
  k_fill
  refine WF.walk (l := PySem.Challenge.rw_weekfeasts_k15_known_calendars) rfl rfl (fun w h Y => PySem.W.kIn_of Y) ?F
  case F =>
    intro w mg fa h KX G hmg
    refine' WF.all_mk KX G hmg ?z_super ?tp_super ?an_super ?z_len ?z_abs ?z_sum ?z_max ?z_isinstance ?z_sorted ?z_all ?z_int ?z_str ?z_list ?z_tuple ?z_bool ?z_range ?z_enumerate ?g_BYS ?l_u_BYS ?g_ENDS ?l_ENDS ?e_ENDS ?w_ENDS ?x_weekday ?x_first ?x_monthday ?x_behind ?x_both ?x_either ?x_without ?x_week ?l_u_W ?l_u_M ?g_PAIRS ?l_u_PAIRS ?g_MOST_PARTS ?g_MOST_BYS ?g_MOST_RULES ?g_LEAST_REACH ?g_MOST_ROUND ?g_WEEKS ?g_MONTHS ?g_GREATEST ?g_FARTHEST ?g_MOST_ASKED ?g_MOST_DAYS ?kk_ENDS ?g_BEGINS ?l_BEGINS ?e_BEGINS ?w_BEGINS ?kk_BEGINS ?x_plain ?x_yields ?a_BadRule ?x_BadRule ?k_BadRule ?b_BadRule ?t_BadRule ?i_BadRule ?s_BadRule ?a_BadRules ?a_BadLand ?x_BadLand ?k_BadLand ?b_BadLand ?t_BadLand ?i_BadLand ?s_BadLand ?a_BadDay ?x_BadDay ?k_BadDay ?b_BadDay ?t_BadDay ?i_BadDay ?s_BadDay ?a_BadNumber ?x_BadNumber ?k_BadNumber ?b_BadNumber ?t_BadNumber ?i_BadNumber ?s_BadNumber ?a_BadSeen ?a_BadText ?a_Feast ?a_Calendar ?a_Line ?a_Walk ?a_is_in ?l_is_in ?c_is_in ?k_is_in ?a_within ?l_within ?c_within ?k_within ?a_size_of ?l_size_of ?c_size_of ?k_size_of ?a_is_rule ?l_is_rule ?c_is_rule ?k_is_rule ?pg_Feast ?hd_Feast ?po_Feast ?sa_Feast ?mk_Feast ?kc_Feast ?n_Feast_told ?n_Feast_bys ?a_Feast_init ?i_Feast_init ?l_Feast_init ?c_Feast_init ?k_Feast_init ?a_Feast_eq ?i_Feast_eq ?l_Feast_eq ?c_Feast_eq ?k_Feast_eq ?a_Feast_and ?i_Feast_and ?l_Feast_and ?c_Feast_and ?k_Feast_and ?a_Feast_or ?i_Feast_or ?l_Feast_or ?c_Feast_or ?k_Feast_or ?a_Feast_sub ?i_Feast_sub ?l_Feast_sub ?c_Feast_sub ?k_Feast_sub ?a_Feast_moved ?i_Feast_moved ?l_Feast_moved ?c_Feast_moved ?k_Feast_moved ?a_is_pair ?l_is_pair ?c_is_pair ?k_is_pair ?pg_Calendar ?hd_Calendar ?po_Calendar ?sa_Calendar ?mk_Calendar ?kc_Calendar ?n_Calendar_rows ?n_Calendar_near ?a_Calendar_init ?i_Calendar_init ?l_Calendar_init ?c_Calendar_init ?k_Calendar_init ?a_Calendar_reach ?i_Calendar_reach ?t_Calendar_reach ?r_Calendar_reach ?l_Calendar_reach ?c_Calendar_reach ?k_Calendar_reach ?a_Calendar_eq ?i_Calendar_eq ?l_Calendar_eq ?c_Calendar_eq ?k_Calendar_eq ?a_divisor ?l_divisor ?c_divisor ?k_divisor ?a_is_land ?l_is_land ?c_is_land ?k_is_land ?a_need_land ?l_need_land ?c_need_land ?k_need_land ?a_every ?l_every ?c_every ?k_every ?a_turned ?l_turned ?c_turned ?k_turned ?a_figure_of ?l_figure_of ?c_figure_of ?k_figure_of ?a_days_of ?l_days_of ?c_days_of ?k_days_of ?a_listed ?l_listed ?c_listed ?k_listed ?a_lands_to ?l_lands_to ?c_lands_to ?k_lands_to ?a_enough ?l_enough ?c_enough ?k_enough ?a_first_unlike ?l_first_unlike ?c_first_unlike ?k_first_unlike ?a_parting ?l_parting ?c_parting ?k_parting ?a_alike ?l_alike ?c_alike ?k_alike ?a_meeting ?l_meeting ?c_meeting ?k_meeting ?a_needless ?l_needless ?c_needless ?k_needless ?a_swaps ?l_swaps ?c_swaps ?k_swaps ?a_form ?l_form ?c_form ?k_form ?a_is_from ?l_is_from ?c_is_from ?k_is_from ?a_need_day ?l_need_day ?c_need_day ?k_need_day ?a_is_day ?l_is_day ?c_is_day ?k_is_day ?a_nth ?l_nth ?c_nth ?k_nth ?a_ahead_of ?l_ahead_of ?c_ahead_of ?k_ahead_of ?a_between ?l_between ?c_between ?k_between ?a_count ?l_count ?c_count ?k_count ?a_is_seen ?l_is_seen ?c_is_seen ?k_is_seen ?a_fits ?l_fits ?c_fits ?k_fits ?a_fitting ?l_fitting ?c_fitting ?k_fitting ?a_asking ?l_asking ?c_asking ?k_asking ?a_words_of ?l_words_of ?c_words_of ?k_words_of ?a_write ?l_write ?c_write ?k_write ?pg_Line ?hd_Line ?po_Line ?sa_Line ?mk_Line ?kc_Line ?n_Line_number ?n_Line_row ?n_Line_spot ?n_Line_parts ?n_Line_due ?n_Line_room ?a_Line_init ?i_Line_init ?l_Line_init ?c_Line_init ?k_Line_init ?a_Line_take ?i_Line_take ?l_Line_take ?c_Line_take ?k_Line_take ?a_Line_take_number ?i_Line_take_number ?l_Line_take_number ?c_Line_take_number ?k_Line_take_number ?a_Line_whole_rule ?i_Line_whole_rule ?l_Line_whole_rule ?c_Line_whole_rule ?k_Line_whole_rule ?a_Line_end ?i_Line_end ?l_Line_end ?c_Line_end ?k_Line_end ?a_read ?l_read ?c_read ?k_read ?pg_Walk ?hd_Walk ?po_Walk ?sa_Walk ?mk_Walk ?kc_Walk ?n_Walk_figure ?n_Walk_round_days ?n_Walk_rows ?a_Walk_init ?i_Walk_init ?l_Walk_init ?c_Walk_init ?k_Walk_init ?a_Walk_go ?i_Walk_go ?l_Walk_go ?c_Walk_go ?k_Walk_go ?a_Walk_day ?i_Walk_day ?l_Walk_day ?c_Walk_day ?k_Walk_day ?a_Walk_feasts ?i_Walk_feasts ?l_Walk_feasts ?c_Walk_feasts ?k_Walk_feasts ?a_Walk_undo ?i_Walk_undo ?l_Walk_undo ?c_Walk_undo ?k_Walk_undo ?a_Walk_len ?i_Walk_len ?l_Walk_len ?c_Walk_len ?k_Walk_len ?a_l_random ?l_l_random ?c_l_random ?k_l_random ?a_l_below ?l_l_below ?c_l_below ?k_l_below ?a_l_one ?l_l_one ?c_l_one ?k_l_one ?a_l_days_known ?l_l_days_known ?c_l_days_known ?k_l_days_known ?a_l_decided ?l_l_decided ?c_l_decided ?k_l_decided ?a_l_forms ?l_l_forms ?c_l_forms ?k_l_forms ?a_l_seen_known ?l_l_seen_known ?c_l_seen_known ?k_l_seen_known ?a_law ?l_law ?c_law ?k_law ?a_BadSeen_init ?t_BadSeen_init ?l_BadSeen_init ?h_BadSeen_init ?k_BadSeen_init ?d_BadSeen_init ?v_BadSeen_init ?w_BadSeen_init ?e_BadSeen_init ?mr_BadSeen_init ?su_BadSeen_init ?sv_BadSeen_init ?o_BadSeen ?rv_BadSeen ?sa_BadSeen ?be_BadSeen ?ty_BadSeen ?kc_BadSeen ?ga_BadSeen ?gg_BadSeen ?hd_BadSeen ?ic_BadSeen ?se_BadSeen ?no_BadSeen_index ?a_BadText_init ?t_BadText_init ?l_BadText_init ?h_BadText_init ?k_BadText_init ?d_BadText_init ?v_BadText_init ?w_BadText_init ?e_BadText_init ?mr_BadText_init ?su_BadText_init ?sv_BadText_init ?o_BadText ?rv_BadText ?sa_BadText ?be_BadText ?ty_BadText ?kc_BadText ?ga_BadText ?gg_BadText ?hd_BadText ?ic_BadText ?se_BadText ?no_BadText_line ?no_BadText_word ?ha ?hn ?htk ?hm ?haC ?hmC ?hic ?hty ?hsuT ?hicC ?htyC ?hsuC ?hsf
    (case z_super => k_is)
    (case tp_super => first | rfl | decide +kernel)
    (case an_super => k_is)
    (case z_len => k_is)
    (case z_abs => k_is)
    (case z_sum => k_is)
    (case z_max => k_is)
    (case z_isinstance => k_is)
    (case z_sorted => k_is)
    (case z_all => k_is)
    (case z_int => k_is)
    (case z_str => k_is)
    (case z_list => k_is)
    (case z_tuple => k_is)
    (case z_bool => k_is)
    (case z_range => k_is)
    (case z_enumerate => k_is)
    (case g_BYS => k_is)
    (case l_u_BYS => k_is)
    (case g_ENDS => k_is)
    (case l_ENDS => k_is)
    (case e_ENDS => exact ⟨⟨_, _, rfl, rfl⟩, ⟨_, _, rfl, rfl⟩, ⟨_, _, rfl, rfl⟩, trivial⟩)
    (case w_ENDS => first | rfl | decide +kernel | k_is)
    (case x_weekday => k_is)
    (case x_first => k_is)
    (case x_monthday => k_is)
    (case x_behind => k_is)
    (case x_both => k_is)
    (case x_either => k_is)
    (case x_without => k_is)
    (case x_week => k_is)
    (case l_u_W => k_is)
    (case l_u_M => k_is)
    (case g_PAIRS => k_is)
    (case l_u_PAIRS => k_is)
    (case g_MOST_PARTS => k_is)
    (case g_MOST_BYS => k_is)
    (case g_MOST_RULES => k_is)
    (case g_LEAST_REACH => k_is)
    (case g_MOST_ROUND => k_is)
    (case g_WEEKS => k_is)
    (case g_MONTHS => k_is)
    (case g_GREATEST => k_is)
    (case g_FARTHEST => k_is)
    (case g_MOST_ASKED => k_is)
    (case g_MOST_DAYS => k_is)
    (case kk_ENDS => exact ⟨⟨_, rfl⟩, ⟨_, rfl⟩, ⟨_, rfl⟩, trivial⟩)
    (case g_BEGINS => k_is)
    (case l_BEGINS => k_is)
    (case e_BEGINS => exact ⟨⟨_, _, rfl, rfl⟩, ⟨_, _, rfl, rfl⟩, trivial⟩)
    (case w_BEGINS => first | rfl | decide +kernel | k_is)
    (case kk_BEGINS => exact ⟨⟨_, rfl⟩, ⟨_, rfl⟩, trivial⟩)
    (case x_plain => k_is)
    (case x_yields => k_is)
    (case a_BadRule => k_is)
    (case x_BadRule => k_exc)
    (case k_BadRule => k_is)
    (case b_BadRule => k_is)
    (case t_BadRule => k_is)
    (case i_BadRule => k_is)
    (case s_BadRule => first | rfl | k_is)
    (case a_BadRules => k_is)
    (case a_BadLand => k_is)
    (case x_BadLand => k_exc)
    (case k_BadLand => k_is)
    (case b_BadLand => k_is)
    (case t_BadLand => k_is)
    (case i_BadLand => k_is)
    (case s_BadLand => first | rfl | k_is)
    (case a_BadDay => k_is)
    (case x_BadDay => k_exc)
    (case k_BadDay => k_is)
    (case b_BadDay => k_is)
    (case t_BadDay => k_is)
    (case i_BadDay => k_is)
    (case s_BadDay => first | rfl | k_is)
    (case a_BadNumber => k_is)
    (case x_BadNumber => k_exc)
    (case k_BadNumber => k_is)
    (case b_BadNumber => k_is)
    (case t_BadNumber => k_is)
    (case i_BadNumber => k_is)
    (case s_BadNumber => first | rfl | k_is)
    (case a_BadSeen => k_is)
    (case a_BadText => k_is)
    (case a_Feast => k_is)
    (case a_Calendar => k_is)
    (case a_Line => k_is)
    (case a_Walk => k_is)
    (case a_is_in => k_is)
    (case l_is_in => k_is)
    (case c_is_in => k_is)
    (case k_is_in => k_is)
    (case a_within => k_is)
    (case l_within => k_is)
    (case c_within => k_is)
    (case k_within => k_is)
    (case a_size_of => k_is)
    (case l_size_of => k_is)
    (case c_size_of => k_is)
    (case k_size_of => k_is)
    (case a_is_rule => k_is)
    (case l_is_rule => k_is)
    (case c_is_rule => k_is)
    (case k_is_rule => k_is)
    (case pg_Feast => k_is)
    (case hd_Feast => k_is)
    (case po_Feast => k_is)
    (case sa_Feast => k_is)
    (case mk_Feast => k_is)
    (case kc_Feast => k_is)
    (case n_Feast_told => k_is)
    (case n_Feast_bys => k_is)
    (case a_Feast_init => k_is)
    (case i_Feast_init => k_is)
    (case l_Feast_init => k_is)
    (case c_Feast_init => k_is)
    (case k_Feast_init => k_is)
    (case a_Feast_eq => k_is)
    (case i_Feast_eq => k_is)
    (case l_Feast_eq => k_is)
    (case c_Feast_eq => k_is)
    (case k_Feast_eq => k_is)
    (case a_Feast_and => k_is)
    (case i_Feast_and => k_is)
    (case l_Feast_and => k_is)
    (case c_Feast_and => k_is)
    (case k_Feast_and => k_is)
    (case a_Feast_or => k_is)
    (case i_Feast_or => k_is)
    (case l_Feast_or => k_is)
    (case c_Feast_or => k_is)
    (case k_Feast_or => k_is)
    (case a_Feast_sub => k_is)
    (case i_Feast_sub => k_is)
    (case l_Feast_sub => k_is)
    (case c_Feast_sub => k_is)
    (case k_Feast_sub => k_is)
    (case a_Feast_moved => k_is)
    (case i_Feast_moved => k_is)
    (case l_Feast_moved => k_is)
    (case c_Feast_moved => k_is)
    (case k_Feast_moved => k_is)
    (case a_is_pair => k_is)
    (case l_is_pair => k_is)
    (case c_is_pair => k_is)
    (case k_is_pair => k_is)
    (case pg_Calendar => k_is)
    (case hd_Calendar => k_is)
    (case po_Calendar => k_is)
    (case sa_Calendar => k_is)
    (case mk_Calendar => k_is)
    (case kc_Calendar => k_is)
    (case n_Calendar_rows => k_is)
    (case n_Calendar_near => k_is)
    (case a_Calendar_init => k_is)
    (case i_Calendar_init => k_is)
    (case l_Calendar_init => k_is)
    (case c_Calendar_init => k_is)
    (case k_Calendar_init => k_is)
    (case a_Calendar_reach => k_is)
    (case i_Calendar_reach => k_is)
    (case t_Calendar_reach => k_is)
    (case r_Calendar_reach => k_is)
    (case l_Calendar_reach => k_is)
    (case c_Calendar_reach => k_is)
    (case k_Calendar_reach => k_is)
    (case a_Calendar_eq => k_is)
    (case i_Calendar_eq => k_is)
    (case l_Calendar_eq => k_is)
    (case c_Calendar_eq => k_is)
    (case k_Calendar_eq => k_is)
    (case a_divisor => k_is)
    (case l_divisor => k_is)
    (case c_divisor => k_is)
    (case k_divisor => k_is)
    (case a_is_land => k_is)
    (case l_is_land => k_is)
    (case c_is_land => k_is)
    (case k_is_land => k_is)
    (case a_need_land => k_is)
    (case l_need_land => k_is)
    (case c_need_land => k_is)
    (case k_need_land => k_is)
    (case a_every => k_is)
    (case l_every => k_is)
    (case c_every => k_is)
    (case k_every => k_is)
    (case a_turned => k_is)
    (case l_turned => k_is)
    (case c_turned => k_is)
    (case k_turned => k_is)
    (case a_figure_of => k_is)
    (case l_figure_of => k_is)
    (case c_figure_of => k_is)
    (case k_figure_of => k_is)
    (case a_days_of => k_is)
    (case l_days_of => k_is)
    (case c_days_of => k_is)
    (case k_days_of => k_is)
    (case a_listed => k_is)
    (case l_listed => k_is)
    (case c_listed => k_is)
    (case k_listed => k_is)
    (case a_lands_to => k_is)
    (case l_lands_to => k_is)
    (case c_lands_to => k_is)
    (case k_lands_to => k_is)
    (case a_enough => k_is)
    (case l_enough => k_is)
    (case c_enough => k_is)
    (case k_enough => k_is)
    (case a_first_unlike => k_is)
    (case l_first_unlike => k_is)
    (case c_first_unlike => k_is)
    (case k_first_unlike => k_is)
    (case a_parting => k_is)
    (case l_parting => k_is)
    (case c_parting => k_is)
    (case k_parting => k_is)
    (case a_alike => k_is)
    (case l_alike => k_is)
    (case c_alike => k_is)
    (case k_alike => k_is)
    (case a_meeting => k_is)
    (case l_meeting => k_is)
    (case c_meeting => k_is)
    (case k_meeting => k_is)
    (case a_needless => k_is)
    (case l_needless => k_is)
    (case c_needless => k_is)
    (case k_needless => k_is)
    (case a_swaps => k_is)
    (case l_swaps => k_is)
    (case c_swaps => k_is)
    (case k_swaps => k_is)
    (case a_form => k_is)
    (case l_form => k_is)
    (case c_form => k_is)
    (case k_form => k_is)
    (case a_is_from => k_is)
    (case l_is_from => k_is)
    (case c_is_from => k_is)
    (case k_is_from => k_is)
    (case a_need_day => k_is)
    (case l_need_day => k_is)
    (case c_need_day => k_is)
    (case k_need_day => k_is)
    (case a_is_day => k_is)
    (case l_is_day => k_is)
    (case c_is_day => k_is)
    (case k_is_day => k_is)
    (case a_nth => k_is)
    (case l_nth => k_is)
    (case c_nth => k_is)
    (case k_nth => k_is)
    (case a_ahead_of => k_is)
    (case l_ahead_of => k_is)
    (case c_ahead_of => k_is)
    (case k_ahead_of => k_is)
    (case a_between => k_is)
    (case l_between => k_is)
    (case c_between => k_is)
    (case k_between => k_is)
    (case a_count => k_is)
    (case l_count => k_is)
    (case c_count => k_is)
    (case k_count => k_is)
    (case a_is_seen => k_is)
    (case l_is_seen => k_is)
    (case c_is_seen => k_is)
    (case k_is_seen => k_is)
    (case a_fits => k_is)
    (case l_fits => k_is)
    (case c_fits => k_is)
    (case k_fits => k_is)
    (case a_fitting => k_is)
    (case l_fitting => k_is)
    (case c_fitting => k_is)
    (case k_fitting => k_is)
    (case a_asking => k_is)
    (case l_asking => k_is)
    (case c_asking => k_is)
    (case k_asking => k_is)
    (case a_words_of => k_is)
    (case l_words_of => k_is)
    (case c_words_of => k_is)
    (case k_words_of => k_is)
    (case a_write => k_is)
    (case l_write => k_is)
    (case c_write => k_is)
    (case k_write => k_is)
    (case pg_Line => k_is)
    (case hd_Line => k_is)
    (case po_Line => k_is)
    (case sa_Line => k_is)
    (case mk_Line => k_is)
    (case kc_Line => k_is)
    (case n_Line_number => k_is)
    (case n_Line_row => k_is)
    (case n_Line_spot => k_is)
    (case n_Line_parts => k_is)
    (case n_Line_due => k_is)
    (case n_Line_room => k_is)
    (case a_Line_init => k_is)
    (case i_Line_init => k_is)
    (case l_Line_init => k_is)
    (case c_Line_init => k_is)
    (case k_Line_init => k_is)
    (case a_Line_take => k_is)
    (case i_Line_take => k_is)
    (case l_Line_take => k_is)
    (case c_Line_take => k_is)
    (case k_Line_take => k_is)
    (case a_Line_take_number => k_is)
    (case i_Line_take_number => k_is)
    (case l_Line_take_number => k_is)
    (case c_Line_take_number => k_is)
    (case k_Line_take_number => k_is)
    (case a_Line_whole_rule => k_is)
    (case i_Line_whole_rule => k_is)
    (case l_Line_whole_rule => k_is)
    (case c_Line_whole_rule => k_is)
    (case k_Line_whole_rule => k_is)
    (case a_Line_end => k_is)
    (case i_Line_end => k_is)
    (case l_Line_end => k_is)
    (case c_Line_end => k_is)
    (case k_Line_end => k_is)
    (case a_read => k_is)
    (case l_read => k_is)
    (case c_read => k_is)
    (case k_read => k_is)
    (case pg_Walk => k_is)
    (case hd_Walk => k_is)
    (case po_Walk => k_is)
    (case sa_Walk => k_is)
    (case mk_Walk => k_is)
    (case kc_Walk => k_is)
    (case n_Walk_figure => k_is)
    (case n_Walk_round_days => k_is)
    (case n_Walk_rows => k_is)
    (case a_Walk_init => k_is)
    (case i_Walk_init => k_is)
    (case l_Walk_init => k_is)
    (case c_Walk_init => k_is)
    (case k_Walk_init => k_is)
    (case a_Walk_go => k_is)
    (case i_Walk_go => k_is)
    (case l_Walk_go => k_is)
    (case c_Walk_go => k_is)
    (case k_Walk_go => k_is)
    (case a_Walk_day => k_is)
    (case i_Walk_day => k_is)
    (case l_Walk_day => k_is)
    (case c_Walk_day => k_is)
    (case k_Walk_day => k_is)
    (case a_Walk_feasts => k_is)
    (case i_Walk_feasts => k_is)
    (case l_Walk_feasts => k_is)
    (case c_Walk_feasts => k_is)
    (case k_Walk_feasts => k_is)
    (case a_Walk_undo => k_is)
    (case i_Walk_undo => k_is)
    (case l_Walk_undo => k_is)
    (case c_Walk_undo => k_is)
    (case k_Walk_undo => k_is)
    (case a_Walk_len => k_is)
    (case i_Walk_len => k_is)
    (case l_Walk_len => k_is)
    (case c_Walk_len => k_is)
    (case k_Walk_len => k_is)
    (case a_l_random => k_is)
    (case l_l_random => k_is)
    (case c_l_random => k_is)
    (case k_l_random => k_is)
    (case a_l_below => k_is)
    (case l_l_below => k_is)
    (case c_l_below => k_is)
    (case k_l_below => k_is)
    (case a_l_one => k_is)
    (case l_l_one => k_is)
    (case c_l_one => k_is)
    (case k_l_one => k_is)
    (case a_l_days_known => k_is)
    (case l_l_days_known => k_is)
    (case c_l_days_known => k_is)
    (case k_l_days_known => k_is)
    (case a_l_decided => k_is)
    (case l_l_decided => k_is)
    (case c_l_decided => k_is)
    (case k_l_decided => k_is)
    (case a_l_forms => k_is)
    (case l_l_forms => k_is)
    (case c_l_forms => k_is)
    (case k_l_forms => k_is)
    (case a_l_seen_known => k_is)
    (case l_l_seen_known => k_is)
    (case c_l_seen_known => k_is)
    (case k_l_seen_known => k_is)
    (case a_law => k_is)
    (case l_law => k_is)
    (case c_law => k_is)
    (case k_law => k_is)
    (case a_BadSeen_init => k_is)
    (case t_BadSeen_init => k_is)
    (case l_BadSeen_init => k_is)
    (case h_BadSeen_init => k_is)
    (case k_BadSeen_init => k_is)
    (case d_BadSeen_init => k_is)
    (case v_BadSeen_init => rfl)
    (case w_BadSeen_init => first | rfl | decide +kernel)
    (case e_BadSeen_init => k_is)
    (case mr_BadSeen_init => k_is)
    (case su_BadSeen_init => ks_is)
    (case sv_BadSeen_init => k_is)
    (case o_BadSeen => k_is)
    (case rv_BadSeen => rfl)
    (case sa_BadSeen => k_is)
    (case be_BadSeen => k_is)
    (case ty_BadSeen => k_is)
    (case kc_BadSeen => k_is)
    (case ga_BadSeen => k_is)
    (case gg_BadSeen => k_is)
    (case hd_BadSeen => k_is)
    (case ic_BadSeen => k_is)
    (case se_BadSeen => first | rfl | k_is)
    (case no_BadSeen_index => k_is)
    (case a_BadText_init => k_is)
    (case t_BadText_init => k_is)
    (case l_BadText_init => k_is)
    (case h_BadText_init => k_is)
    (case k_BadText_init => k_is)
    (case d_BadText_init => k_is)
    (case v_BadText_init => rfl)
    (case w_BadText_init => first | rfl | decide +kernel)
    (case e_BadText_init => k_is)
    (case mr_BadText_init => k_is)
    (case su_BadText_init => ks_is)
    (case sv_BadText_init => k_is)
    (case o_BadText => k_is)
    (case rv_BadText => rfl)
    (case sa_BadText => k_is)
    (case be_BadText => k_is)
    (case ty_BadText => k_is)
    (case kc_BadText => k_is)
    (case ga_BadText => k_is)
    (case gg_BadText => k_is)
    (case hd_BadText => k_is)
    (case ic_BadText => k_is)
    (case se_BadText => first | rfl | k_is)
    (case no_BadText_line => k_is)
    (case no_BadText_word => k_is)
    (case ha => k_is)
    (case hn => k_is)
    (case htk => k_is)
    (case hm => k_is)
    (case haC => k_is)
    (case hmC => k_is)
    (case hic => k_is)
    (case hty => k_is)
    (case hsuT => k_is)
    (case hicC => k_is)
    (case htyC => k_is)
    (case hsuC => k_is)
    (case hsf => k_is)


