import PyProof.Rows.All
import Wide.All
import OpenK.AllK
import Wide.FinOn
import HandS.ForMost
import HandS.ForExc
import HandS.Evl
import HandS.WideBits
import HandS.IsInst
import HandS.Small
import HandS.More
import HandS.Walk
import KE.GoesEnum
import KE.GoesMore
import HandS.Property
import HandS.Conv
import PyProof.LongRange
import HandS.TryMany
import HandS.TryOnly
import HandS.ExcOwn
import HandS.WordsDict
import HandS.OwnEq
import OpenK.KOps
import HandS.ExcInit
import HandS.ExcField
import HandS.ExcSuper
import KE.KExcSuper
import KE.RegKSuper
import KE.KExcIs
import HandS.Hot
import HandS.HotCalls
import HandS.ExcIs
import PySem.Challenge.RW_weekfeasts_k14_errors_apart
/-! WMath: the plain law. Rules as data, their days, figures as numbers. -/
set_option Elab.async false
set_option linter.all false
namespace WF

/-- a rule, as data -/
inductive Rl where
  | wk (k : Int) | fs (k : Int) | md (k : Int)
  | bh (r : Rl) (b : Int)
  | bo (x y : Rl) | ei (x y : Rl) | wo (x y : Rl)
  deriving DecidableEq, Inhabited

/-- is day d one of the rule, in the land (w, m) -/
def Rl.day (w m : Int) : Rl → Int → Bool
  | .wk k, d => d % w == k % w
  | .fs k, d => d % w == k % w && decide (d % m < w)
  | .md k, d => d % m == k % m
  | .bh r b, d => r.day w m (d - b)
  | .bo x y, d => x.day w m d && y.day w m d
  | .ei x y, d => x.day w m d || y.day w m d
  | .wo x y, d => x.day w m d && !y.day w m d
def Rl.parts : Rl → Nat
  | .wk _ | .fs _ | .md _ => 1
  | .bh r _ => 1 + r.parts
  | .bo x y | .ei x y | .wo x y => 1 + x.parts + y.parts
def Rl.bys : Rl → Nat
  | .wk _ | .fs _ | .md _ => 0
  | .bh r b => b.natAbs + r.bys
  | .bo x y | .ei x y | .wo x y => x.bys + y.bys
/-- the numbers in it are such as may stand -/
def Rl.fit : Rl → Bool
  | .wk k | .fs k => decide (-2 ≤ k ∧ k ≤ 1)
  | .md k => decide (-3 ≤ k ∧ k ≤ 2)
  | .bh r b => decide (b = -2 ∨ b = -1 ∨ b = 1 ∨ b = 2) && r.fit
  | .bo x y | .ei x y | .wo x y => x.fit && y.fit
/-- a calendar's rows -/
abbrev Rows := List (Rl × Bool)
def addRow (w m : Int) (f : Int → Bool) (r : Rl × Bool) : Int → Bool := fun d =>
  f d || (r.1.day w m d && !(r.2 && f d)) || (r.2 && (r.1.day w m (d - 1) && f (d - 1)))
def calDay (w m : Int) (rows : Rows) : Int → Bool := rows.foldl (addRow w m) fun _ => false

/-! ### all goes round -/
def Per (N : Int) (p : Int → Bool) : Prop := ∀ d, p (d + N) = p d
theorem Per.sub {N : Int} {p : Int → Bool} (h : Per N p) (d : Int) : p (d - N) = p d := by
  have := h (d - N)
  rw [Int.sub_add_cancel] at this
  exact this.symm
theorem Per.mulN {N : Int} {p : Int → Bool} (h : Per N p) (d : Int) : ∀ k : Nat, p (d + N * (k : Int)) = p d
  | 0 => by simp
  | k + 1 => by
    have e : d + N * ((k + 1 : Nat) : Int) = (d + N * (k : Int)) + N := by
      rw [Int.natCast_add, Int.mul_add]; simp; omega
    rw [e, h, Per.mulN h d k]
theorem Per.mul {N : Int} {p : Int → Bool} (h : Per N p) (d k : Int) : p (d + N * k) = p d := by
  rcases Int.le_total 0 k with hk | hk
  · obtain ⟨n, rfl⟩ := Int.eq_ofNat_of_zero_le hk
    exact h.mulN d n
  · obtain ⟨n, hn⟩ := Int.eq_ofNat_of_zero_le (show 0 ≤ -k by omega)
    have e : k = -(n : Int) := by omega
    have := h.mulN (d + N * k) n
    have e2 : d + N * k + N * (n : Int) = d := by
      rw [e, Int.mul_neg]; omega
    rw [e2] at this
    exact this.symm
theorem Per.emod {N : Int} {p : Int → Bool} (h : Per N p) (d : Int) : p (d % N) = p d := by
  have e : d % N = d + N * (-(d / N)) := by
    have := Int.emod_add_mul_ediv d N
    rw [Int.mul_neg]; omega
  rw [e, h.mul]
theorem rl_per (w m : Int) : ∀ r : Rl, Per (w * m) (r.day w m)
  | .wk k => fun d => by
    show (((d + w * m) % w == k % w) = (d % w == k % w))
    rw [Int.add_mul_emod_self_left]
  | .fs k => fun d => by
    show (((d + w * m) % w == k % w && decide ((d + w * m) % m < w)) = (d % w == k % w && decide (d % m < w)))
    rw [Int.add_mul_emod_self_left, Int.mul_comm w m, Int.add_mul_emod_self_left]
  | .md k => fun d => by
    show (((d + w * m) % m == k % m) = (d % m == k % m))
    rw [Int.mul_comm w m, Int.add_mul_emod_self_left]
  | .bh r b => fun d => by
    show r.day w m (d + w * m - b) = r.day w m (d - b)
    rw [show d + w * m - b = d - b + w * m by omega]
    exact rl_per w m r _
  | .bo x y => fun d => by
    show (x.day w m (d + w * m) && y.day w m (d + w * m)) = _
    rw [rl_per w m x d, rl_per w m y d]; rfl
  | .ei x y => fun d => by
    show (x.day w m (d + w * m) || y.day w m (d + w * m)) = _
    rw [rl_per w m x d, rl_per w m y d]; rfl
  | .wo x y => fun d => by
    show (x.day w m (d + w * m) && !y.day w m (d + w * m)) = _
    rw [rl_per w m x d, rl_per w m y d]; rfl
theorem add_per {w m : Int} {f : Int → Bool} (h : Per (w * m) f) (r : Rl × Bool) : Per (w * m) (addRow w m f r) := fun d => by
  unfold addRow
  rw [h d, rl_per w m r.1 d, show d + w * m - 1 = d - 1 + w * m by omega, h (d - 1), rl_per w m r.1 (d - 1)]
theorem fold_per {w m : Int} : ∀ (rows : Rows) {f : Int → Bool}, Per (w * m) f → Per (w * m) (rows.foldl (addRow w m) f)
  | [], _, h => h
  | r :: rows, _, h => fold_per rows (add_per h r)
theorem cal_per (w m : Int) (rows : Rows) : Per (w * m) (calDay w m rows) := fold_per rows fun _ => rfl

/-! ### figures -/
/-- the figure of N days: bit d tells p d -/
def figN : Nat → (Int → Bool) → Nat
  | 0, _ => 0
  | n + 1, p => figN n p + (if p (n : Int) then 2 ^ n else 0)
theorem figN_lt : ∀ (n : Nat) (p : Int → Bool), figN n p < 2 ^ n
  | 0, _ => by simp [figN]
  | n + 1, p => by
    have := figN_lt n p
    unfold figN
    rw [Nat.pow_succ]
    split <;> omega
theorem figN_bit : ∀ (n : Nat) (p : Int → Bool) (d : Nat), (figN n p).testBit d = (decide (d < n) && p (d : Int))
  | 0, p, d => by simp [figN]
  | n + 1, p, d => by
    unfold figN
    have hl := figN_lt n p
    have ih := figN_bit n p d
    by_cases hp : p (n : Int) = true
    · rw [if_pos hp, Nat.add_comm]
      rcases Nat.lt_trichotomy d n with h | h | h
      · rw [Nat.testBit_two_pow_add_gt h, ih, decide_eq_true h, decide_eq_true (Nat.lt_succ_of_lt h)]
      · subst h
        rw [Nat.testBit_two_pow_add_eq, Nat.testBit_lt_two_pow hl, hp, decide_eq_true (Nat.lt_succ_self d)]; rfl
      · have hz : 2 ^ n + figN n p < 2 ^ d := by
          have h1 : 2 ^ (n + 1) ≤ 2 ^ d := Nat.pow_le_pow_right (by decide) h
          rw [Nat.pow_succ] at h1
          omega
        rw [Nat.testBit_lt_two_pow hz, decide_eq_false (by omega)]; rfl
    · rw [if_neg hp, Nat.add_zero, ih]
      rcases Nat.lt_trichotomy d n with h | h | h
      · rw [decide_eq_true h, decide_eq_true (Nat.lt_succ_of_lt h)]
      · subst h
        rw [decide_eq_false (Nat.lt_irrefl d)]
        simp at hp
        rw [hp]; simp
      · rw [decide_eq_false (by omega), decide_eq_false (by omega)]
theorem figN_eq {N n : Nat} {p : Int → Bool} (hl : n < 2 ^ N) (h : ∀ d, d < N → n.testBit d = p (d : Int)) : n = figN N p := by
  apply Nat.eq_of_testBit_eq
  intro d
  rw [figN_bit]
  by_cases hd : d < N
  · rw [h d hd, decide_eq_true hd]; rfl
  · rw [decide_eq_false hd, Nat.testBit_lt_two_pow (Nat.lt_of_lt_of_le hl (Nat.pow_le_pow_right (by decide) (by omega)))]; rfl
theorem figN_congr {N : Nat} {p q : Int → Bool} (h : ∀ d : Nat, d < N → p (d : Int) = q (d : Int)) : figN N p = figN N q :=
  figN_eq (figN_lt _ _) fun d hd => by rw [figN_bit, decide_eq_true hd, h d hd]; rfl
theorem figN_and (N : Nat) (p q : Int → Bool) : figN N p &&& figN N q = figN N fun d => p d && q d :=
  figN_eq (Nat.lt_of_le_of_lt Nat.and_le_left (figN_lt _ _)) fun d hd => by rw [Nat.testBit_and, figN_bit, figN_bit, decide_eq_true hd]; rfl
theorem figN_wo : ∀ (N : Nat) (p q : Int → Bool), figN N p = figN N (fun d => p d && !q d) + figN N (fun d => p d && q d)
  | 0, _, _ => rfl
  | n + 1, p, q => by
    unfold figN
    have ih := figN_wo n p q
    cases hp : p (n : Int) <;> cases hq : q (n : Int) <;> simp [hp, hq] <;> omega
theorem figN_orE : ∀ (N : Nat) (p q : Int → Bool), figN N (fun d => p d || q d) + figN N (fun d => p d && q d) = figN N p + figN N q
  | 0, _, _ => rfl
  | n + 1, p, q => by
    unfold figN
    have ih := figN_orE n p q
    cases hp : p (n : Int) <;> cases hq : q (n : Int) <;> simp [hp, hq] <;> omega
theorem figN_xorE : ∀ (N : Nat) (p q : Int → Bool), figN N (fun d => p d ^^ q d) + 2 * figN N (fun d => p d && q d) = figN N p + figN N q
  | 0, _, _ => rfl
  | n + 1, p, q => by
    unfold figN
    have ih := figN_xorE n p q
    cases hp : p (n : Int) <;> cases hq : q (n : Int) <;> simp [hp, hq] <;> omega

/-! ### one that is turned -/
def maskN (N : Nat) : Nat := 2 ^ N - 1
theorem turn_fig {N b : Nat} {p : Int → Bool} (hp : Per (N : Int) p) (hb : b < N) :
    (figN N p * 2 ^ b) % 2 ^ N ||| (figN N p * 2 ^ b) / 2 ^ N = figN N fun d => p (d - (b : Int)) := by
  have h1 : (figN N p * 2 ^ b) / 2 ^ N < 2 ^ N := by
    apply Nat.div_lt_of_lt_mul
    have := figN_lt N p
    have h2 : 2 ^ b < 2 ^ N := Nat.pow_lt_pow_right (by decide) hb
    exact Nat.mul_lt_mul'' this h2
  refine figN_eq (Nat.or_lt_two_pow (Nat.mod_lt _ (Nat.two_pow_pos _)) h1) fun d hd => ?_
  rw [Nat.testBit_or, Nat.testBit_mod_two_pow, ← Nat.shiftLeft_eq, ← Nat.shiftRight_eq_div_pow, Nat.testBit_shiftRight, Nat.testBit_shiftLeft, Nat.testBit_shiftLeft, figN_bit, figN_bit, decide_eq_true hd]
  have e1 : decide (N + d ≥ b) = true := decide_eq_true (by omega)
  rw [e1]
  by_cases hbd : b ≤ d
  · have e2 : decide (d ≥ b) = true := decide_eq_true hbd
    have e3 : decide (d - b < N) = true := decide_eq_true (by omega)
    have e4 : decide (N + d - b < N) = false := decide_eq_false (by omega)
    rw [e2, e3, e4, show ((d - b : Nat) : Int) = (d : Int) - (b : Int) by omega]
    simp
  · have e2 : decide (d ≥ b) = false := decide_eq_false (by omega)
    have e4 : decide (N + d - b < N) = true := decide_eq_true (by omega)
    rw [e2, e4, show ((N + d - b : Nat) : Int) = ((d : Int) - (b : Int)) + (N : Int) by omega, hp]
    simp
/-! ### a sum of powers whose exponents rise -/
theorem fig_step {n e : Nat} {p : Int → Bool} (hb : ∀ d : Nat, d < e → n ≤ d → p (d : Int) = false) (he : p (e : Int) = true) (hn : n ≤ e) : figN n p + 2 ^ e = figN (e + 1) p := by
  have h : ∀ k, n + k ≤ e → figN (n + k) p = figN n p := by
    intro k
    induction k with
    | zero => intro _; rfl
    | succ k ih =>
      intro hk
      show figN (n + k) p + (if p ((n + k : Nat) : Int) then 2 ^ (n + k) else 0) = figN n p
      rw [hb (n + k) (by omega) (by omega), ih (by omega)]
      simp
  have := h (e - n) (by omega)
  rw [show n + (e - n) = e by omega] at this
  show _ = figN e p + (if p (e : Int) then 2 ^ e else 0)
  rw [he, this]; simp
theorem fig_more {n m : Nat} {p : Int → Bool} (h : ∀ d : Nat, n ≤ d → d < m → p (d : Int) = false) (hn : n ≤ m) : figN m p = figN n p := by
  have g : ∀ k, n + k ≤ m → figN (n + k) p = figN n p := by
    intro k
    induction k with
    | zero => intro _; rfl
    | succ k ih =>
      intro hk
      show figN (n + k) p + (if p ((n + k : Nat) : Int) then 2 ^ (n + k) else 0) = figN n p
      rw [h (n + k) (by omega) (by omega), ih (by omega)]
      simp
  have := g (m - n) (by omega)
  rwa [show n + (m - n) = m by omega] at this
/-- a block with just one day -/
theorem fig_block {n e n' : Nat} {p : Int → Bool} (h1 : n ≤ e) (h2 : e < n') (he : p (e : Int) = true) (ho : ∀ d : Nat, n ≤ d → d < n' → d ≠ e → p (d : Int) = false) : figN n p + 2 ^ e = figN n' p := by
  rw [fig_step (fun d hd hn => ho d hn (by omega) (by omega)) he h1]
  exact (fig_more (n := e + 1) (m := n') (fun d h3 h4 => ho d (by omega) h4 (by omega)) (by omega)).symm
theorem fig_blocks {L : Nat} {e : Nat → Nat} {p : Int → Bool} : ∀ T : Nat, (∀ t, t < T → L * t ≤ e t ∧ e t < L * (t + 1) ∧ ∀ d : Nat, L * t ≤ d → d < L * (t + 1) → (p (d : Int) = true ↔ d = e t)) →
    (((List.range T).map fun t => 2 ^ e t).sum = figN (L * T) p)
  | 0, _ => by simp [figN]
  | T + 1, h => by
    obtain ⟨h1, h2, h3⟩ := h T (Nat.lt_succ_self T)
    rw [List.range_succ, List.map_append, List.sum_append, fig_blocks T fun t ht => h t (Nat.lt_succ_of_lt ht)]
    simp only [List.map_cons, List.map_nil, List.sum_cons, List.sum_nil, Nat.add_zero]
    refine fig_block h1 h2 ((h3 (e T) h1 h2).mpr rfl) fun d hd hd' hne => ?_
    cases hp : p (d : Int) with
    | false => rfl
    | true => exact absurd ((h3 d hd hd').mp hp) hne
/-- days that come by a step -/
theorem every_fig {w : Nat} (k : Int) (hw : 0 < w) (T : Nat) : (((List.range T).map fun t => 2 ^ ((k % (w : Int)).toNat + w * t)).sum = figN (w * T) fun d => d % (w : Int) == k % (w : Int)) := by
  have h0 : 0 ≤ k % (w : Int) := Int.emod_nonneg _ (by omega)
  have h1 : k % (w : Int) < (w : Int) := Int.emod_lt_of_pos _ (by omega)
  refine fig_blocks T fun t _ => ⟨by omega, by rw [Nat.mul_add]; omega, fun d hd hd' => ?_⟩
  rw [beq_iff_eq]
  have hd'' : d < w * t + w := by rw [Nat.mul_add, Nat.mul_one] at hd'; exact hd'
  have e : (d : Int) % (w : Int) = (d : Int) - (w : Int) * (t : Int) := by
    have : (d : Int) = ((d : Int) - (w : Int) * (t : Int)) + (w : Int) * (t : Int) := by omega
    rw [this, Int.add_mul_emod_self_left, Int.emod_eq_of_lt]
    · omega
    · have : ((w * t : Nat) : Int) = (w : Int) * (t : Int) := Int.natCast_mul w t
      omega
    · have : ((w * t : Nat) : Int) = (w : Int) * (t : Int) := Int.natCast_mul w t
      omega
  have q : ((w * t : Nat) : Int) = (w : Int) * (t : Int) := Int.natCast_mul w t
  rw [e]
  omega
theorem first_fig {w m : Nat} (k : Int) (hw : 0 < w) (hm : w < m) (T : Nat) :
    (((List.range T).map fun (t : Nat) => 2 ^ (m * t + ((k - (m : Int) * (t : Int)) % (w : Int)).toNat)).sum = figN (m * T) fun d => d % (w : Int) == k % (w : Int) && decide (d % (m : Int) < (w : Int))) := by
  refine fig_blocks T fun t _ => ?_
  have h0 : 0 ≤ (k - (m : Int) * (t : Int)) % (w : Int) := Int.emod_nonneg _ (by omega)
  have h1 : (k - (m : Int) * (t : Int)) % (w : Int) < (w : Int) := Int.emod_lt_of_pos _ (by omega)
  have q : ((m * t : Nat) : Int) = (m : Int) * (t : Int) := Int.natCast_mul m t
  refine ⟨by omega, by rw [Nat.mul_add]; omega, fun d hd hd' => ?_⟩
  have hd'' : d < m * t + m := by rw [Nat.mul_add, Nat.mul_one] at hd'; exact hd'
  have e : (d : Int) % (m : Int) = (d : Int) - (m : Int) * (t : Int) := by
    have : (d : Int) = ((d : Int) - (m : Int) * (t : Int)) + (m : Int) * (t : Int) := by omega
    rw [this, Int.add_mul_emod_self_left, Int.emod_eq_of_lt]
    · omega
    · omega
    · omega
  rw [Bool.and_eq_true, beq_iff_eq, decide_eq_true_iff, e]
  constructor
  · rintro ⟨a, b⟩
    have : (k - (m : Int) * (t : Int)) % (w : Int) = (d : Int) - (m : Int) * (t : Int) := by
      rw [Int.sub_emod, ← a, ← Int.sub_emod, Int.emod_eq_of_lt (by omega) b]
    omega
  · intro hde
    have hx : (d : Int) - (m : Int) * (t : Int) = (k - (m : Int) * (t : Int)) % (w : Int) := by omega
    refine ⟨?_, by omega⟩
    have : (d : Int) = ((k - (m : Int) * (t : Int)) % (w : Int)) + (m : Int) * (t : Int) := by omega
    rw [this, Int.add_emod, Int.emod_emod, ← Int.add_emod, Int.sub_add_cancel]

/-! ### what is counted -/
def daysN (N : Nat) (p : Int → Bool) : List Nat := (List.range N).filter fun (d : Nat) => p (d : Int)
theorem daysN_mem {N d : Nat} {p : Int → Bool} : d ∈ daysN N p ↔ d < N ∧ p (d : Int) = true := by
  unfold daysN
  rw [List.mem_filter, List.mem_range]
theorem daysN_len (N : Nat) (p : Int → Bool) : (daysN N p).length ≤ N := by
  unfold daysN
  have h := List.length_filter_le (fun (d : Nat) => p (d : Int)) (List.range N)
  rwa [List.length_range] at h
theorem daysN_nodup (N : Nat) (p : Int → Bool) : (daysN N p).Nodup := List.Pairwise.filter _ List.nodup_range
theorem nodup_len : ∀ {l1 l2 : List Nat}, l1.Nodup → l2.Nodup → (∀ x, x ∈ l1 ↔ x ∈ l2) → l1.length = l2.length := fun {l1 l2} h1 h2 h =>
  ((List.perm_ext_iff_of_nodup h1 h2).mpr h).length_eq

theorem figN_zero {N : Nat} {q : Int → Bool} (h : ∀ d : Nat, d < N → q (d : Int) = false) : figN N q = 0 := by
  have := fig_more (n := 0) (m := N) (p := q) (fun d _ hd => h d hd) (Nat.zero_le _)
  rw [this]; rfl
theorem least : ∀ (N : Nat) (q : Nat → Bool), (∃ d, d < N ∧ q d = true) → ∃ j, j < N ∧ q j = true ∧ ∀ d, d < j → q d = false
  | 0, _, ⟨_, h, _⟩ => absurd h (Nat.not_lt_zero _)
  | n + 1, q, ⟨d, h, hd⟩ => by
    by_cases h0 : ∃ d, d < n ∧ q d = true
    · obtain ⟨j, h1, h2, h3⟩ := least n q h0
      exact ⟨j, by omega, h2, h3⟩
    · refine ⟨d, h, hd, fun e he => ?_⟩
      cases hq : q e with
      | false => rfl
      | true => exact absurd ⟨e, by omega, hq⟩ h0
theorem fig_one {N j : Nat} (hj : j < N) : 2 ^ j = figN N fun d => d == (j : Int) := by
  have := fig_block (n := 0) (e := j) (n' := N) (p := fun d => d == (j : Int)) (Nat.zero_le _) hj (by simp) (fun d _ _ hne => by
    rw [beq_eq_false_iff_ne]; omega)
  rw [← this]; simp [figN]
theorem fig_low {N : Nat} {q : Int → Bool} (h : 0 < figN N q) : ∃ j a : Nat, j < N ∧ q (j : Int) = true ∧ (∀ d : Nat, d < j → q (d : Int) = false) ∧ figN N q = 2 ^ j * (2 * a + 1) := by
  have hex : ∃ d, d < N ∧ (fun (d : Nat) => q (d : Int)) d = true := by
    apply Classical.byContradiction
    intro hn
    have := figN_zero (N := N) (q := q) fun d hd => by
      cases hq : q (d : Int) with
      | false => rfl
      | true => exact absurd ⟨d, hd, hq⟩ hn
    omega
  obtain ⟨j, h1, h2, h3⟩ := least N (fun (d : Nat) => q (d : Int)) hex
  refine ⟨j, figN N q / 2 ^ (j + 1), h1, h2, h3, ?_⟩
  have hm : figN N q % 2 ^ (j + 1) = 2 ^ j := by
    apply Nat.eq_of_testBit_eq
    intro d
    rw [Nat.testBit_mod_two_pow, figN_bit, Nat.testBit_two_pow]
    by_cases hd : d < j
    · have : q (d : Int) = false := h3 d hd
      rw [this]; simp; omega
    · by_cases hd2 : d = j
      · subst hd2
        have h2' : q (d : Int) = true := h2
        rw [h2']; simp; omega
      · rw [decide_eq_false (show ¬ d < j + 1 by omega)]; simp; omega
  have := Nat.div_add_mod (figN N q) (2 ^ (j + 1))
  rw [hm] at this
  generalize figN N q / 2 ^ (j + 1) = a at this ⊢
  rw [← this, Nat.mul_add, Nat.mul_one, Nat.pow_succ, Nat.mul_assoc]
theorem daysN_succ (n : Nat) (p : Int → Bool) : daysN (n + 1) p = daysN n p ++ (if p (n : Int) then [n] else []) := by
  unfold daysN
  rw [List.range_succ, List.filter_append]
  congr 1
  by_cases h : p (n : Int) = true
  · rw [if_pos h, List.filter_cons, if_pos h]; rfl
  · rw [if_neg h, List.filter_cons, if_neg h]; rfl
theorem daysN_more {i j : Nat} {p : Int → Bool} (h : ∀ d : Nat, i ≤ d → d < j → p (d : Int) = false) (hij : i ≤ j) : daysN j p = daysN i p := by
  have g : ∀ k, i + k ≤ j → daysN (i + k) p = daysN i p := by
    intro k
    induction k with
    | zero => intro _; rfl
    | succ k ih =>
      intro hk
      rw [show i + (k + 1) = (i + k) + 1 by omega, daysN_succ, h (i + k) (by omega) (by omega), ih (by omega)]
      simp
  have := g (j - i) (by omega)
  rwa [show i + (j - i) = j by omega] at this
end WF

set_option Elab.async false
set_option linter.all false
set_option maxRecDepth 100000
set_option maxHeartbeats 2000000
/-! WLayer: further words over the hand layer: a def by its name with its promise (Dn), readings that evaluate (ev_..) -/
namespace WF
open PySem L2 Evl
/-! ### a def of the text, by its name: where it stands, its promise -/
structure Dn (P : Program) (w : World) (K : PySem.W.Frag) (mg : Str → Option Value) (base : Heap) (CX : CXT) (x : Str) (k : Nat) (ps : List Str) (sp : Sp) : Prop where
  ex : ∃ (f : Addr) (fd : FuncData), mg x = some (.ref f) ∧ PySem.W.keepIn K (.ref f) = true ∧ FnOk P w K mg base CX k f fd ps sp ∧ Binds K fd ps []
structure FunAt (K : PySem.W.Frag) (mg : Str → Option Value) (x : Str) (st : Stmt) (ps : List Str) : Prop where
  ex : ∃ (f : Addr) (fd : FuncData), mg x = some (.ref f) ∧ Fun K x x st f fd ∧ Binds K fd ps []
section
variable {P : Program} {w : World} {K : PySem.W.Frag} {mg : Str → Option Value} {base : Heap} {CX : CXT} {x : Str} {k : Nat} {ps : List Str} {sp : Sp} {st : Stmt}
theorem FunAt.dn (F : FunAt K mg x st ps) (h : ∀ f fd, Fun K x x st f fd → mg x = some (.ref f) → Binds K fd ps [] → FnOk P w K mg base CX k f fd ps sp) : Dn P w K mg base CX x k ps sp := by
  obtain ⟨f, fd, h1, h2, h3⟩ := F.ex
  exact ⟨f, fd, h1, h2.kp, h f fd h2 h1 h3, h3⟩
theorem Dn.mono {j : Nat} (D : Dn P w K mg base CX x j ps sp) (h : j ≤ k) : Dn P w K mg base CX x k ps sp := by
  obtain ⟨f, fd, h1, h2, h3, h4⟩ := D.ex
  exact ⟨f, fd, h1, h2, h3.mono h, h4⟩
end
theorem fnok_none {P : Program} {w : World} {K : PySem.W.Frag} {mg : Str → Option Value} {base : Heap} {CX : CXT} {k : Nat} {f : Addr} {fd : FuncData} {ps : List Str} {sp : Sp} (h : ∀ vs H Q E, ¬ sp vs H Q E) : FnOk P w K mg base CX k f fd ps sp :=
  ⟨fun vs H Q E q => (h vs H Q E q).elim, fun _ _ _ _ _ _ _ _ _ _ _ _ _ q => (h _ _ _ _ q).elim⟩
section
variable {X : Cx} {CX : CXT} {x : Str} {k : Nat} {ps : List Str} {sp : Sp} {E : XK} {e : Expr} {es : List Expr} {p pos : Pos} {t : TA}
theorem pe_fn (D : Dn X.prog X.w X.K X.mg X.base CX x k ps sp) (hr : Room k X.A) (hx : Passes CX X E) (hg : Gl X x) (ha : PA X (e :: es) t) (hdb : (x == ("__debug__" : Str)) = false := by decide)
    (he : starEach (e :: es) X.env = (false, eval e X.env) :: starEach es X.env := by rfl) (hpl : (backTo pos (starEach es X.env)).any (·.1) = false := by rfl) : PE X (.Call (.Name x p) (e :: es) [] pos) (tCall sp [] E t) := by
  obtain ⟨f, fd, h1, h2, h3, h4⟩ := D.ex
  exact pe_call h3 hr hg h1 h2 h4 .nil hx ha hdb he hpl
end
/-! ### rules within a comprehension: the written part by its own name -/
section
variable {X : Cx} {K : PySem.W.Frag}
theorem ix_tupK (hK : X.K = K := by rfl) : IxR X (rIxT K) := by
  subst hK
  exact ix_tup
theorem ix_listK (hK : X.K = K := by rfl) : IxR X (rIxL K) := by
  subst hK
  exact ix_list
theorem op_in_seqK (hK : X.K = K := by rfl) : OpR X (compareOp .In) (rIn K false) := by
  subst hK
  exact op_in_seq
theorem op_notIn_seqK (hK : X.K = K := by rfl) : OpR X (compareOp .NotIn) (rIn K true) := by
  subst hK
  exact op_notIn_seq
theorem call_len_seqK (hK : X.K = K := by rfl) : CallR X (.builtin "len") (rLenS K) := by
  subst hK
  exact call_len_seq
theorem call_isiK1 (hK : X.K = K := by rfl) : CallR X (.builtin "isinstance") (rIsi K) := by
  subst hK
  exact call_isi
theorem pe_fldK {e : Expr} {f : Str} {ta : TE} {pos : Pos} (he : PE X e ta) (hb : attributeBase e f X.env (eval e X.env) = eval e X.env) (hK : X.K = K := by rfl) : PE X (.Attribute e f pos) (tFld K ta f) := by
  subst hK
  exact pe_fld he hb
theorem pg_tupK {es : List Expr} {k : Nat} {t : TGs} {n : Nat} {pos : Pos} (hc : X.calm = true) (h : PGs X es t) (hn : (assignEach es X.env).length = n := by rfl) (hst : (assignEach es X.env).findIdx? (·.1) = none := by rfl) (hK : X.K = K := by rfl) :
    PG X (.Tuple es k pos) (gTup K n t) := by
  subst hK
  exact pg_tup hc h hn hst
end
/-! ### readings -/
section
variable {K : PySem.W.Frag} {σ : L2.St} {H H' : Hp} {ta tb tc te : TE} {x y z v : V} {r r' : R2} {t u : TT}
theorem given_all (n : Nat) (v : Nat → V) : given n (fun _ => true) v = (List.range n).map v := by
  unfold given
  rw [List.filter_eq_self.mpr]
  intro _ _; rfl
theorem et_yes : EvT tYes σ H true := fun H1 _ _ q => q H1 (Ex.refl H1)
theorem ev_sum {ta : TE} {ns : List Int} (h : EvL ta σ H (ns.map V.int)) : Ev (tCB (rSum K) (tCons ta tNil)) σ H (.int ns.sum) := fun H1 e Q q =>
  h H1 e _ fun p H2 _ e2 h2 => ⟨p, ns, rfl, sq_of h2, q H2 e2⟩
theorem ev_sumR {ta : TE} {n : Nat} (v : Nat → Int) (h : EvL ta σ H ((List.range n).map fun i => V.int (v i))) : Ev (tCB (rSum K) (tCons ta tNil)) σ H (.int ((List.range n).map v).sum) := by
  refine ev_sum ?_
  rw [List.map_map]
  exact h
/-- the items of a comprehension over range(n) without a test -/
theorem el_rng {ta : TA} {j : Nat} {vs : List Nat} {n : Int} (v : Nat → V) (h : EvA ta σ H [.int n]) (hn : 0 ≤ n ∧ n ≤ 40000) (hw : ∀ x, wipe ((wipe σ vs).set j (some x)) vs = wipe σ vs)
    (he : ∀ (i : Nat) H1, Ex H H1 → (i : Int) < n → Ev te ((wipe σ vs).set j (some (.int (i : Int)))) H1 (v i)) :
    EvL (tLc (iRng1 ta) (gName j) tYes te vs) σ H ((List.range n.toNat).map v) := by
  have := el_lcR1 (fun _ => true) v h hn hw (fun _ _ _ _ => et_yes) (fun i H1 e hi _ => he i H1 e hi)
  rwa [given_all] at this
theorem et_cmp {b : Bool} (ha : Ev ta σ H x) (hb : Ev tb σ H y) (hr : RV r x y H (.bl b)) : EvT (tTest (tOp r ta tb)) σ H b := et_test (ev_op ha hb hr)
/-- a call whose promise is a value -/
theorem spV {sp : Sp} {vs : List V} (h : ∀ H1, Ex H H1 → ∀ (Q : VK) (E : XK), RetV z H1 Q → sp vs H1 Q E) : SpV sp (vs ++ []) H z := fun H1 e Q q E => by
  rw [List.append_nil]
  exact h H1 e Q E q
theorem spL {sp : Sp} {vs xs : List V} (h : ∀ H1, Ex H H1 → ∀ (Q : VK) (E : XK), RetL xs H1 Q → sp vs H1 Q E) : SpL sp (vs ++ []) H xs := fun H1 e Q q E => by
  rw [List.append_nil]
  exact h H1 e Q E q
theorem s_par {D : Ends} {i j : Nat} {ta : TA} (h : EvA ta σ H [x, y]) (k : ∀ H1, Ex H H1 → D.nx ((σ.set i (some x)).set j (some y)) H1) : tPar i j ta D σ H := h H (Ex.refl H) _ fun H1 e => ⟨x, y, rfl, k H1 e⟩
theorem q_par {D : Ends} {i j : Nat} {ta : TA} {tz : TS} (h : EvA ta σ H [x, y]) (k : ∀ H1, Ex H H1 → tz D ((σ.set i (some x)).set j (some y)) H1) : tSeq (tPar i j ta) tz D σ H := s_par (D := { D with nx := tz D }) h k
theorem s_asgT {D : Ends} {i j : Nat} {a : Addr} (h : Ev te σ H (.ref a)) (ht : SqT K H a [x, y]) (k : ∀ H1, Ex H H1 → D.nx ((σ.set i (some x)).set j (some y)) H1) : tAsg te (gTup K 2 (gCons (gName i) (gCons (gName j) gNil))) D σ H :=
  h H (Ex.refl H) _ fun H1 e => ⟨a, [x, y], rfl, ex_t e ht, rfl, _, _, rfl, _, _, rfl, rfl, k H1 e⟩
theorem q_asgT {D : Ends} {i j : Nat} {a : Addr} {tz : TS} (h : Ev te σ H (.ref a)) (ht : SqT K H a [x, y]) (k : ∀ H1, Ex H H1 → tz D ((σ.set i (some x)).set j (some y)) H1) : tSeq (tAsg te (gTup K 2 (gCons (gName i) (gCons (gName j) gNil)))) tz D σ H := s_asgT (D := { D with nx := tz D }) h ht k
theorem q_yes {D : Ends} {tu tw tz : TS} (h : EvT t σ H true) (k : ∀ H1, Ex H H1 → tu { D with nx := tz D } σ H1) : tSeq (tIfS t tu tw) tz D σ H := q_if h (fun _ => k) (fun hb => nomatch hb)
theorem q_no {D : Ends} {tu tw tz : TS} (h : EvT t σ H false) (k : ∀ H1, Ex H H1 → tw { D with nx := tz D } σ H1) : tSeq (tIfS t tu tw) tz D σ H := q_if h (fun hb => nomatch hb) (fun _ => k)
/-- an if without else, not gone into -/
theorem q_not {D : Ends} {tu tz : TS} (h : EvT t σ H false) (k : ∀ H1, Ex H H1 → tz D σ H1) : tSeq (tIfS t tu tNext) tz D σ H := q_no h k
theorem s_yes {D : Ends} {tu tw : TS} (h : EvT t σ H true) (k : ∀ H1, Ex H H1 → tu D σ H1) : tIfS t tu tw D σ H := s_if h (fun _ => k) (fun hb => nomatch hb)
theorem s_no {D : Ends} {tu tw : TS} (h : EvT t σ H false) (k : ∀ H1, Ex H H1 → tw D σ H1) : tIfS t tu tw D σ H := s_if h (fun hb => nomatch hb) (fun _ => k)
theorem et_str {a b : Str} {c : Bool} (h : Ev ta σ H (.str a)) (hc : decide (a = b) = c) : EvT (tTest (tOp rEq ta (tC (.str b)))) σ H c := et_is (et_cmp h ev_c (rv_eq rfl)) (by
  rw [← hc]
  by_cases q : a = b
  · rw [q, decide_eq_true rfl, decide_eq_true rfl]
  · rw [decide_eq_false q, decide_eq_false]
    intro z
    injection z with z
    exact q z)
theorem ev_ifT (h : EvT t σ H true) (h1 : Ev ta σ H v) : Ev (tIf t ta tb) σ H v := ev_if h (fun _ => h1) (fun hb => nomatch hb)
theorem ev_ifF (h : EvT t σ H false) (h1 : Ev tb σ H v) : Ev (tIf t ta tb) σ H v := ev_if h (fun hb => nomatch hb) (fun _ => h1)
theorem ev_ixT {p : Addr} {xs : List V} {i : Int} (h : Ev ta σ H (.ref p)) (hs : SqT K H p xs) (ha : atI xs i = some v) : Ev (tOp (rIxT K) ta (tC (.int i))) σ H v := ev_op h ev_c (rv_ixT hs ha)
theorem ru_inv {i : Int} : RU (rU fun i => .int (Builtin.bitNot i)) (.int i) H (.int (Builtin.bitNot i)) := fun H1 _ _ q => ⟨i, rfl, q H1 (Ex.refl H1)⟩
theorem ev_fld {a C dx : Addr} {fs : List (Str × V)} {f : Str} (h : Ev ta σ H (.ref a)) (ho : H a = some (.ins C dx fs)) (hc : Cls K C) (hn : NoAttr K C f) (hl : fs.lookup f = some v) : Ev (tFld K ta f) σ H v := fun H1 e Q q =>
  h H1 e _ fun H2 e2 => ⟨a, C, dx, fs, v, rfl, e2 _ _ (e _ _ ho), hc, hn, hl, q H2 e2⟩
theorem ev_bits {i : Int} (h : Ev te σ H (.int i)) : Ev (tBits te) σ H (.int (Builtin.Int.intBits i : Nat)) := fun H1 e Q q => h H1 e _ fun H2 e2 => ⟨i, rfl, q H2 e2⟩
theorem el_is {xs ys : List V} (h : EvL te σ H xs) (e : xs = ys) : EvL te σ H ys := e ▸ h
theorem et_or1 (h : EvT t σ H true) : EvT (tOr t u) σ H true := et_or (a := true) (b := true) h fun q => nomatch q
theorem et_and0 (h : EvT t σ H false) : EvT (tAnd t u) σ H false := et_and (a := false) (b := false) h fun q => nomatch q
theorem ev_and0 (h : Ev ta σ H (.bl false)) : Ev (tAndV ta tb) σ H (.bl false) := ev_andV (a := false) (b := false) h fun q => nomatch q
theorem eu_ifT {xs : List V} (h : EvT t σ H true) (h1 : EvU ta σ H xs) : EvU (tIf t ta tb) σ H xs := fun H1 e Q q => h H1 e _ fun H2 e2 => by
  show ta σ H2 Q
  exact h1 H2 (e.trans e2) Q fun p H3 hp e3 h3 => q p H3 (fresh_back e2 hp) (e2.trans e3) h3
theorem eu_ifF {xs : List V} (h : EvT t σ H false) (h1 : EvU tb σ H xs) : EvU (tIf t ta tb) σ H xs := fun H1 e Q q => h H1 e _ fun H2 e2 => by
  show tb σ H2 Q
  exact h1 H2 (e.trans e2) Q fun p H3 hp e3 h3 => q p H3 (fresh_back e2 hp) (e2.trans e3) h3
theorem el_ifT {xs : List V} (h : EvT t σ H true) (h1 : EvL ta σ H xs) : EvL (tIf t ta tb) σ H xs := fun H1 e Q q => h H1 e _ fun H2 e2 => by
  show ta σ H2 Q
  exact h1 H2 (e.trans e2) Q fun p H3 hp e3 h3 => q p H3 (fresh_back e2 hp) (e2.trans e3) h3
theorem el_ifF {xs : List V} (h : EvT t σ H false) (h1 : EvL tb σ H xs) : EvL (tIf t ta tb) σ H xs := fun H1 e Q q => h H1 e _ fun H2 e2 => by
  show tb σ H2 Q
  exact h1 H2 (e.trans e2) Q fun p H3 hp e3 h3 => q p H3 (fresh_back e2 hp) (e2.trans e3) h3
/-- x = f(..), whatever f's promise is -/
theorem s_call {sp : Sp} {E : XK} {ta : TA} {D : Ends} {i : Nat} {vs : List V} (h : EvA ta σ H vs) (k : ∀ H1, Ex H H1 → sp vs H1 (fun x H2 => D.nx (σ.set i (some x)) H2) E) : tAsg (tCall sp [] E ta) (gName i) D σ H :=
  h H (Ex.refl H) _ fun H1 e => by
    rw [List.append_nil]
    exact k H1 e
theorem q_call {sp : Sp} {E : XK} {ta : TA} {tz : TS} {D : Ends} {i : Nat} {vs : List V} (h : EvA ta σ H vs) (k : ∀ H1, Ex H H1 → sp vs H1 (fun x H2 => tz D (σ.set i (some x)) H2) E) : tSeq (tAsg (tCall sp [] E ta) (gName i)) tz D σ H := s_call (D := { D with nx := tz D }) h k
/-- return f(..) -/
theorem s_retC {sp : Sp} {E : XK} {ta : TA} {D : Ends} {vs : List V} (h : EvA ta σ H vs) (k : ∀ H1, Ex H H1 → sp vs H1 D.rt E) : tRet (tCall sp [] E ta) D σ H :=
  h H (Ex.refl H) _ fun H1 e => by
    rw [List.append_nil]
    exact k H1 e
theorem rv_isN : RV (fun x y H Q => y = .non ∧ Q (.bl (decide (x = .non))) H) x .non H (.bl (decide (x = .non))) := fun H1 _ _ q => ⟨rfl, q H1 (Ex.refl H1)⟩
theorem rv_notN : RV (fun x y H Q => y = .non ∧ Q (.bl (!decide (x = .non))) H) x .non H (.bl (!decide (x = .non))) := fun H1 _ _ q => ⟨rfl, q H1 (Ex.refl H1)⟩
theorem cast_sum (l : List Nat) : ((l.map fun (n : Nat) => (n : Int))).sum = ((l.sum : Nat) : Int) := by
  induction l with
  | nil => rfl
  | cons a l ih => rw [List.map_cons, List.sum_cons, List.sum_cons, ih, Int.natCast_add]
theorem cast_sumR (n : Nat) (v : Nat → Nat) : ((List.range n).map fun i => ((v i : Nat) : Int)).sum = (((List.range n).map v).sum : Nat) := by
  rw [← cast_sum, List.map_map]
  rfl
end
end WF

set_option Elab.async false
set_option linter.all false
set_option maxRecDepth 100000
set_option maxHeartbeats 2000000
/-! WBits: the program's bit operators upon figures -/
namespace WF
open PySem L2 Evl PyProof.Rows PySem.W Bits
theorem fig_and (N : Nat) (p q : Int → Bool) : Builtin.bitAnd (figN N p : Int) (figN N q : Int) = (figN N fun d => p d && q d : Nat) := by
  rw [bitAnd_pp (Int.natCast_nonneg _) (Int.natCast_nonneg _), Int.toNat_natCast, Int.toNat_natCast, figN_and]
theorem fig_wo (N : Nat) (p q : Int → Bool) : Builtin.bitAnd (figN N p : Int) (Builtin.bitNot (figN N q : Int)) = (figN N fun d => p d && !q d : Nat) := by
  rw [bitAnd_not, fig_and]
  have := figN_wo N p q
  omega
theorem fig_or (N : Nat) (p q : Int → Bool) : Builtin.bitOr (figN N p : Int) (figN N q : Int) = (figN N fun d => p d || q d : Nat) := by
  rw [bitOr_and, fig_and]
  have := figN_orE N p q
  omega
theorem fig_xor (N : Nat) (p q : Int → Bool) : Builtin.bitXor (figN N p : Int) (figN N q : Int) = (figN N fun d => p d ^^ q d : Nat) := by
  rw [bitXor_and, fig_and]
  have := figN_xorE N p q
  omega
theorem fig_bits (N : Nat) (p : Int → Bool) : Builtin.Int.intBits (figN N p : Int) ≤ N := intBits_le_iff.mpr (by
  show figN N p < 2 ^ N
  exact figN_lt N p)
theorem bits_pow (j : Nat) : Builtin.Int.intBits ((2 ^ j : Nat) : Int) = j + 1 := by
  apply Nat.le_antisymm
  · exact intBits_le_iff.mpr (by
      show 2 ^ j < 2 ^ (j + 1)
      exact Nat.pow_lt_pow_right (by decide) (Nat.lt_succ_self j))
  · apply Classical.byContradiction
    intro h
    have := (intBits_le_iff (m := j) (x := ((2 ^ j : Nat) : Int))).mp (by omega)
    exact Nat.lt_irrefl _ (show 2 ^ j < 2 ^ j from this)
theorem bits_one : Builtin.Int.intBits 1 = 1 := by decide +kernel
theorem fig_turn {N b : Nat} {p : Int → Bool} (hp : Per (N : Int) p) (hb : b < N) :
    Builtin.bitOr (Builtin.bitAnd ((figN N p : Int) * 2 ^ b) (1 * 2 ^ N - 1)) ((figN N p : Int) * 2 ^ b / 2 ^ N) = (figN N fun d => p (d - (b : Int)) : Nat) := by
  rw [Int.one_mul, kbt_mask]
  have e : (figN N p : Int) * 2 ^ b = ((figN N p * 2 ^ b : Nat) : Int) := by rw [Int.natCast_mul, Int.natCast_pow]; rfl
  have e2 : (2 : Int) ^ N = ((2 ^ N : Nat) : Int) := by rw [Int.natCast_pow]; rfl
  rw [e, e2, ← Int.natCast_emod, ← Int.natCast_ediv, bitOr_pp (Int.natCast_nonneg _) (Int.natCast_nonneg _), Int.toNat_natCast, Int.toNat_natCast, turn_fig hp hb]
end WF

set_option Elab.async false
set_option linter.all false
set_option maxRecDepth 100000
set_option maxHeartbeats 2000000
/-! WRule: rules, calendars' rows, lands as they lie in the heap -/
namespace WF
open PySem L2 Evl
/-- at v lies the rule r -/
inductive RlAt (K : PySem.W.Frag) (H : Hp) : V → Rl → Prop where
  | wk {p : Addr} {k : Int} : SqT K H p [.str "weekday", .int k] → RlAt K H (.ref p) (.wk k)
  | fs {p : Addr} {k : Int} : SqT K H p [.str "first", .int k] → RlAt K H (.ref p) (.fs k)
  | md {p : Addr} {k : Int} : SqT K H p [.str "monthday", .int k] → RlAt K H (.ref p) (.md k)
  | bh {p : Addr} {v : V} {r : Rl} {b : Int} : SqT K H p [.str "behind", v, .int b] → RlAt K H v r → RlAt K H (.ref p) (.bh r b)
  | bo {p : Addr} {u v : V} {x y : Rl} : SqT K H p [.str "both", u, v] → RlAt K H u x → RlAt K H v y → RlAt K H (.ref p) (.bo x y)
  | ei {p : Addr} {u v : V} {x y : Rl} : SqT K H p [.str "either", u, v] → RlAt K H u x → RlAt K H v y → RlAt K H (.ref p) (.ei x y)
  | wo {p : Addr} {u v : V} {x y : Rl} : SqT K H p [.str "without", u, v] → RlAt K H u x → RlAt K H v y → RlAt K H (.ref p) (.wo x y)
theorem RlAt.mono {K : PySem.W.Frag} {H H' : Hp} {v : V} {r : Rl} (e : Ex H H') (h : RlAt K H v r) : RlAt K H' v r := by
  induction h with
  | wk h => exact .wk (ex_t e h)
  | fs h => exact .fs (ex_t e h)
  | md h => exact .md (ex_t e h)
  | bh h _ i => exact .bh (ex_t e h) i
  | bo h _ _ i j => exact .bo (ex_t e h) i j
  | ei h _ _ i j => exact .ei (ex_t e h) i j
  | wo h _ _ i j => exact .wo (ex_t e h) i j
def Rl.dep : Rl → Nat
  | .wk _ | .fs _ | .md _ => 0
  | .bh r _ => r.dep + 1
  | .bo x y | .ei x y | .wo x y => max x.dep y.dep + 1
theorem dep_parts : ∀ r : Rl, r.dep + 1 ≤ r.parts
  | .wk _ | .fs _ | .md _ => Nat.le_refl _
  | .bh r _ => by have := dep_parts r; simp only [Rl.dep, Rl.parts]; omega
  | .bo x y | .ei x y | .wo x y => by have := dep_parts x; have := dep_parts y; simp only [Rl.dep, Rl.parts]; omega
/-- a land of which one reckons -/
structure LandOk (w m : Nat) : Prop where
  w2 : 2 ≤ w
  wm : w < m
  m6 : m ≤ 6000
  n5 : w * m ≤ 10000
theorem LandOk.pos {w m : Nat} (h : LandOk w m) : 0 < w * m := Nat.mul_pos (by have := h.w2; omega) (by have := h.wm; omega)
/-! ### objects -/
def feastF (v : V) (n : Int) : List (Str × V) := putF "bys" (.int n) (putF "told" v [])
theorem tb_ne : ¬ (("told" : Str) = "bys") := by decide +kernel
theorem bt_ne : ¬ (("bys" : Str) = "told") := by decide +kernel
theorem feastF_told (v : V) (n : Int) : (feastF v n).lookup ("told" : Str) = some v := by
  unfold feastF
  rw [lookup_putF, if_neg tb_ne, lookup_putF, if_pos rfl]
theorem feastF_bys (v : V) (n : Int) : (feastF v n).lookup ("bys" : Str) = some (.int n) := by
  unfold feastF
  rw [lookup_putF, if_pos rfl]
theorem feastF_no (v : V) (n : Int) {m : Str} (h1 : ¬ m = "told") (h2 : ¬ m = "bys") : (feastF v n).lookup m = none := by
  unfold feastF
  rw [lookup_putF, if_neg h2, lookup_putF, if_neg h1]
  all_goals rfl
/-- at p a feast of the rule r -/
def FeastAt (K : PySem.W.Frag) (CF : Addr) (H : Hp) (p : Addr) (r : Rl) : Prop := ∃ dx v, H p = some (.ins CF dx (feastF v r.bys)) ∧ RlAt K H v r
theorem FeastAt.mono {K : PySem.W.Frag} {CF p : Addr} {H H' : Hp} {r : Rl} (e : Ex H H') (h : FeastAt K CF H p r) : FeastAt K CF H' p r := by
  obtain ⟨dx, v, h1, h2⟩ := h
  exact ⟨dx, v, e _ _ h1, h2.mono e⟩
/-- a row: a pair of a feast and a truth -/
def RowAt (K : PySem.W.Frag) (CF : Addr) (H : Hp) (x : V) (r : Rl × Bool) : Prop := ∃ p q, x = .ref p ∧ SqT K H p [.ref q, .bl r.2] ∧ FeastAt K CF H q r.1
theorem RowAt.mono {K : PySem.W.Frag} {CF : Addr} {H H' : Hp} {x : V} {r : Rl × Bool} (e : Ex H H') (h : RowAt K CF H x r) : RowAt K CF H' x r := by
  obtain ⟨p, q, h0, h1, h2⟩ := h
  exact ⟨p, q, h0, ex_t e h1, h2.mono e⟩
/-- the items xs are rows -/
def RowsL (K : PySem.W.Frag) (CF : Addr) (H : Hp) : List V → Rows → Prop
  | [], [] => True
  | x :: xs, r :: rs => RowAt K CF H x r ∧ RowsL K CF H xs rs
  | _, _ => False
theorem RowsL.mono {K : PySem.W.Frag} {CF : Addr} {H H' : Hp} (e : Ex H H') : ∀ {xs : List V} {rs : Rows}, RowsL K CF H xs rs → RowsL K CF H' xs rs
  | [], [], _ => trivial
  | _ :: _, _ :: _, h => ⟨h.1.mono e, RowsL.mono e h.2⟩
  | [], _ :: _, h => h
  | _ :: _, [], h => h
theorem RowsL.len {K : PySem.W.Frag} {CF : Addr} {H : Hp} : ∀ {xs : List V} {rs : Rows}, RowsL K CF H xs rs → xs.length = rs.length
  | [], [], _ => rfl
  | _ :: _, _ :: _, h => congrArg (· + 1) (RowsL.len h.2)
  | [], _ :: _, h => h.elim
  | _ :: _, [], h => h.elim
theorem RowsL.get {K : PySem.W.Frag} {CF : Addr} {H : Hp} : ∀ {xs : List V} {rs : Rows} {i : Nat} {x : V}, RowsL K CF H xs rs → xs[i]? = some x → ∃ r, rs[i]? = some r ∧ RowAt K CF H x r
  | _ :: _, r :: _, 0, _, h, e => ⟨r, rfl, by cases e; exact h.1⟩
  | _ :: xs, _ :: rs, i + 1, x, h, e => RowsL.get (xs := xs) (rs := rs) (i := i) (x := x) h.2 e
  | [], [], i, x, _, e => by simp at e
  | [], _ :: _, _, _, h, _ => h.elim
  | _ :: _, [], _, _, h, _ => h.elim
/-- at v a tuple of rows -/
def RowsAt (K : PySem.W.Frag) (CF : Addr) (H : Hp) (v : V) (rs : Rows) : Prop := ∃ a xs, v = .ref a ∧ SqT K H a xs ∧ RowsL K CF H xs rs
theorem RowsAt.mono {K : PySem.W.Frag} {CF : Addr} {H H' : Hp} {v : V} {rs : Rows} (e : Ex H H') (h : RowsAt K CF H v rs) : RowsAt K CF H' v rs := by
  obtain ⟨a, xs, h0, h1, h2⟩ := h
  exact ⟨a, xs, h0, ex_t e h1, h2.mono e⟩
theorem take_more {α : Type} : ∀ {l : List α} {i : Nat} {x : α}, l[i]? = some x → l.take (i + 1) = l.take i ++ [x]
  | [], i, x, h => by simp at h
  | a :: l, 0, x, h => by cases h; rfl
  | a :: l, i + 1, x, h => by
    show a :: l.take (i + 1) = a :: l.take i ++ [x]
    rw [take_more (l := l) (i := i) (x := x) h]
    rfl
theorem cal_more (w m : Int) {rows : Rows} {i : Nat} {r : Rl × Bool} (h : rows[i]? = some r) : calDay w m (rows.take (i + 1)) = addRow w m (calDay w m (rows.take i)) r := by
  unfold calDay
  rw [take_more h, List.foldl_append]
  rfl
def depMax (rows : Rows) : Nat := rows.foldr (fun r n => max r.1.dep n) 0
theorem dep_le : ∀ {rows : Rows} {i : Nat} {r : Rl × Bool}, rows[i]? = some r → r.1.dep ≤ depMax rows
  | [], i, r, h => by simp at h
  | a :: rows, 0, r, h => by cases h; exact Nat.le_max_left _ _
  | a :: rows, i + 1, r, h => Nat.le_trans (dep_le (rows := rows) (i := i) (r := r) h) (Nat.le_max_right _ _)
end WF

set_option Elab.async false
set_option linter.all false
set_option maxRecDepth 100000
set_option maxHeartbeats 2000000
/-! WIsi: kinds of values, isinstance, constants of the top, an own error without arguments -/
namespace WF
open PySem L2 Evl
section
variable {K : PySem.W.Frag} {H H' : Hp} {a : Addr} {xs : List V} {x : V} {t : Value}
theorem ty_tup (h : SqT K H a xs) : TyX K H (.ref a) (.type "tuple") := by
  rcases h with (h | ⟨o, h⟩) | ⟨o, its, n, h, c, _⟩
  · exact .base (.tup h)
  · exact .fTuple h
  · exact .kTuple h c
theorem ty_lst (h : SqL K H a xs) : TyX K H (.ref a) (.type "list") := by
  rcases h with (h | ⟨o, h⟩) | ⟨o, its, n, h, c, _⟩
  · exact .base (.lst h)
  · exact .base (.frz h)
  · exact .kList h c
theorem TyOf.mono (e : Ex H H') (h : TyOf K H x t) : TyOf K H' x t := by
  cases h with
  | non => exact .non
  | bl b => exact .bl b
  | int i => exact .int i
  | str z => exact .str z
  | flt z => exact .flt z
  | lst h => exact .lst (e _ _ h)
  | frz h => exact .frz (e _ _ h)
  | tup h => exact .tup (e _ _ h)
  | dK h => exact .dK (e _ _ h)
  | dT h => exact .dT (e _ _ h)
  | ins h cl ha hn htk hm => exact .ins (e _ _ h) cl ha hn htk hm
theorem ty_mono (e : Ex H H') (h : TyX K H x t) : TyX K H' x t := by
  cases h with
  | base h => exact .base (TyOf.mono e h)
  | byt b => exact .byt b
  | set h => exact .set (e _ _ h)
  | kList h c => exact .kList h c
  | kTuple h c => exact .kTuple h c
  | kDict h c => exact .kDict h c
  | fTuple h => exact .fTuple (e _ _ h)
  | fDict h => exact .fDict (e _ _ h)
theorem ty_int (i : Int) : TyX K H (.int i) (.type "int") := .base (.int i)
theorem ty_bl (i : Bool) : TyX K H (.bl i) (.type "bool") := .base (.bl i)
theorem ty_str (i : Str) : TyX K H (.str i) (.type "str") := .base (.str i)
theorem ty_non : TyX K H .non (.type "NoneType") := .base .non
end
section
variable {K : PySem.W.Frag} {σ : L2.St} {H H' : Hp} {ta tb tc te : TE} {x y z v : V} {r r' : R2} {t u : TT}
theorem ev_isi {b : Bool} {T : String} {ty : Value} (h : Ev ta σ H x) (hy : TyX K H x ty) (hb : PySem.W.kitOne K ty (.type T) = some b) : Ev (tCB (rIsi K) (tCons ta (tCons (tC (.ty T)) tNil))) σ H (.bl b) := fun H1 e Q q =>
  h H1 e _ fun H2 e2 => ⟨x, _, _, _, b, rfl, .ty T, ty_mono (e.trans e2) hy, hb, q H2 e2⟩
theorem ev_isiC {b : Bool} {C : Addr} {ty : Value} (h : Ev ta σ H x) (hy : TyX K H x ty) (hb : PySem.W.kitOne K ty (.ref C) = some b) : Ev (tCB (rIsi K) (tCons ta (tCons (tC (.ref C)) tNil))) σ H (.bl b) := fun H1 e Q q =>
  h H1 e _ fun H2 e2 => ⟨x, _, _, _, b, rfl, .own C, ty_mono (e.trans e2) hy, hb, q H2 e2⟩
theorem ev_lenT {p : Addr} {xs : List V} (ha : Ev ta σ H (.ref p)) (h : SqT K H p xs) : Ev (tCB (rLenS K) (tCons ta tNil)) σ H (.int (xs.length : Int)) := fun H1 e Q q =>
  ha H1 e _ fun H2 e2 => ⟨p, xs, rfl, .inr (ex_t (e.trans e2) h), q H2 e2⟩
theorem ev_chain {b1 b2 : Bool} (ha : Ev ta σ H x) (hb : Ev tb σ H y) (hr : RV r x y H (.bl b1)) (hc : b1 = true → Ev tc σ H z) (hr' : b1 = true → RV r' y z H (.bl b2)) : Ev (tChain r r' ta tb tc) σ H (.bl (b1 && b2)) := fun H1 e Q q =>
  ha H1 e _ fun H2 e2 => hb H2 (e.trans e2) _ fun H3 e3 => hr H3 ((e.trans e2).trans e3) _ fun H4 e4 => ⟨b1, rfl, by
    cases b1 with
    | true =>
      show tc σ H4 fun w' H5 => r' y w' H5 Q
      exact hc rfl H4 (((e.trans e2).trans e3).trans e4) _ fun H5 e5 => hr' rfl H5 ((((e.trans e2).trans e3).trans e4).trans e5) Q fun H6 e6 => q H6 ((((e2.trans e3).trans e4).trans e5).trans e6)
    | false =>
      show Q (.bl false) H4
      exact q H4 ((e2.trans e3).trans e4)⟩
theorem ev_all {ta : TE} {bs : List Bool} (h : EvL ta σ H (bs.map V.bl)) : Ev (tCB (rAll K) (tCons ta tNil)) σ H (.bl (bs.all id)) := fun H1 e Q q =>
  h H1 e _ fun p H2 _ e2 h2 => ⟨p, bs, rfl, sq_of h2, q H2 e2⟩
/-- a comprehension over a tuple; over a tuple, a list of pairs -/
theorem el_tupN {a : Addr} {xs : List V} {tl : TE} {j : Nat} {vs : List Nat} (f : Nat → Bool) (v : Nat → V) (h : Ev tl σ H (.ref a)) (hx : SqT K H a xs) (hz : xs.length ≤ 40000) (hw : ∀ x, wipe ((wipe σ vs).set j (some x)) vs = wipe σ vs)
    (ht : ∀ (i : Nat) (x : V) H1, Ex H H1 → xs[i]? = some x → EvT t ((wipe σ vs).set j (some x)) H1 (f i))
    (he : ∀ (i : Nat) (x : V) H1, Ex H H1 → xs[i]? = some x → f i = true → Ev te ((wipe σ vs).set j (some x)) H1 (v i)) : EvL (tLc (iTup K tl) (gName j) t te vs) σ H (given xs.length f v) := by
  intro H0 e Q q
  refine h H0 e _ fun H1 e1 => ⟨a, rfl, ⟨xs, ex_t (e.trans e1) hx⟩, fun Dl hD => ?_⟩
  refine lc_tup (xs := xs) (Cw H1 f v Dl) ⟨hD, Ex.new hD, upd_same⟩ (fun i H' _ p => ex_t ((e.trans e1).trans p.2.1) hx) (fun i x H' hi p => ⟨hw x, ?_⟩) fun H' p => q Dl H' (fresh_back e1 p.1) (e1.trans p.2.1) p.2.2
  have hlt := (List.getElem?_eq_some_iff.mp hi).1
  exact cw_turn p (by omega) (ht i x H1 (e.trans e1) hi) fun hf => he i x H1 (e.trans e1) hi hf
theorem el_tup2 {a : Addr} {xs : List V} {tl : TE} {j k : Nat} {vs : List Nat} (A B : Nat → V) (f : Nat → Bool) (v : Nat → V) (h : Ev tl σ H (.ref a)) (hx : SqT K H a xs) (hz : xs.length ≤ 40000) (hw : ∀ x y, wipe (((wipe σ vs).set j (some x)).set k (some y)) vs = wipe σ vs)
    (hp : ∀ (i : Nat) (x : V), xs[i]? = some x → ∃ p, x = .ref p ∧ SqT K H p [A i, B i])
    (ht : ∀ (i : Nat) H1, Ex H H1 → i < xs.length → EvT t (((wipe σ vs).set j (some (A i))).set k (some (B i))) H1 (f i))
    (he : ∀ (i : Nat) H1, Ex H H1 → i < xs.length → f i = true → Ev te (((wipe σ vs).set j (some (A i))).set k (some (B i))) H1 (v i)) :
    EvL (tLc (iTup K tl) (gTup K 2 (gCons (gName j) (gCons (gName k) gNil))) t te vs) σ H (given xs.length f v) := by
  intro H0 e Q q
  refine h H0 e _ fun H1 e1 => ⟨a, rfl, ⟨xs, ex_t (e.trans e1) hx⟩, fun Dl hD => ?_⟩
  refine lc_tup (xs := xs) (Cw H1 f v Dl) ⟨hD, Ex.new hD, upd_same⟩ (fun i H' _ p => ex_t ((e.trans e1).trans p.2.1) hx) (fun i x H' hi p => ?_) fun H' p => q Dl H' (fresh_back e1 p.1) (e1.trans p.2.1) p.2.2
  have hlt := (List.getElem?_eq_some_iff.mp hi).1
  obtain ⟨r, rfl, hr⟩ := hp i x hi
  exact ⟨_, _, rfl, ex_t ((e.trans e1).trans p.2.1) hr, rfl, _, _, rfl, _, _, rfl, rfl, hw _ _, cw_turn p (by omega) (ht i H1 (e.trans e1) hlt) fun hf => he i H1 (e.trans e1) hlt hf⟩
theorem el_lst2 {a : Addr} {xs : List V} {tl : TE} {j k : Nat} {vs : List Nat} (A B : Nat → V) (f : Nat → Bool) (v : Nat → V) (h : Ev tl σ H (.ref a)) (hx : SqL K H a xs) (hz : xs.length ≤ 40000) (hw : ∀ x y, wipe (((wipe σ vs).set j (some x)).set k (some y)) vs = wipe σ vs)
    (hp : ∀ (i : Nat) (x : V), xs[i]? = some x → ∃ p, x = .ref p ∧ SqT K H p [A i, B i])
    (ht : ∀ (i : Nat) H1, Ex H H1 → i < xs.length → EvT t (((wipe σ vs).set j (some (A i))).set k (some (B i))) H1 (f i))
    (he : ∀ (i : Nat) H1, Ex H H1 → i < xs.length → f i = true → Ev te (((wipe σ vs).set j (some (A i))).set k (some (B i))) H1 (v i)) :
    EvL (tLc (iList K tl) (gTup K 2 (gCons (gName j) (gCons (gName k) gNil))) t te vs) σ H (given xs.length f v) := by
  intro H0 e Q q
  refine h H0 e _ fun H1 e1 => ⟨a, rfl, ⟨xs, ex_l (e.trans e1) hx⟩, fun Dl hD => ?_⟩
  refine lc_list (xs := xs) (Cw H1 f v Dl) ⟨hD, Ex.new hD, upd_same⟩ (fun i H' _ p => ex_l ((e.trans e1).trans p.2.1) hx) (fun i x H' hi p => ?_) fun H' p => q Dl H' (fresh_back e1 p.1) (e1.trans p.2.1) p.2.2
  have hlt := (List.getElem?_eq_some_iff.mp hi).1
  obtain ⟨r, rfl, hr⟩ := hp i x hi
  exact ⟨_, _, rfl, ex_t ((e.trans e1).trans p.2.1) hr, rfl, _, _, rfl, _, _, rfl, rfl, hw _ _, cw_turn p (by omega) (ht i H1 (e.trans e1) hlt) fun hf => he i H1 (e.trans e1) hlt hf⟩
theorem given_allL {α : Type} (xs : List α) (v : Nat → V) : given xs.length (fun _ => true) v = (List.range xs.length).map v := given_all _ _
end
/-! ### a constant of the top; an own error without arguments -/
section
variable {X : Cx}
theorem pe_globE {x : Str} {v : V} {pos : Pos} (hg : Gl X x) (h : ∃ u, X.mg x = some u ∧ RelV v u) (hd : (x == ("__debug__" : Str)) = false := by decide) : PE X (.Name x pos) (tC v) := by
  obtain ⟨u, h1, h2⟩ := h
  exact pe_glob hg h1 h2 hd
theorem pmk_own0 {C : Addr} {bmB : List Value} {B newId initId : String} {x : Str} {p pos : Pos} (F : ExcBaseFacts B newId initId bmB) (q : PySem.W.excIn X.K C bmB newId = true) (gC : X.mg x = some (.ref C))
    (kC : PySem.W.keepIn X.K (.ref C) = true) (r : Raises X (.ref C)) (hg : Gl X x) (hdb : (x == ("__debug__" : Str)) = false := by decide) : PMk X (.Call (.Name x p) [] [] pos) (fun _ H Q => Q (.ref C) none H) := by
  intro pins s σ H Q I h
  refine wpAny_Call_Name_kw (ld_glob I hg gC ?_ hdb)
  refine PySem.W.callWith_K0 I.kIn kC ?_
  obtain ⟨bm, N, nm, qn, bs, hdct, sn, sub, ab, col, dd, k0, k1, k2, k3, k5, mN, hC, hN, hni, T⟩ := exc_obj I.kIn q
  refine wpAny_call_exc_subT F T hC hN hni (fun h' e hm => ?_) (Nat.zero_le _)
  exact mk_of I hm r h (I.hok.gone hm.new)
end
/-- what the top says of an own error class without a method of its own -/
structure Err (K : PySem.W.Frag) (C : Addr) : Prop where
  ex : PySem.W.excIn K C [.type "ValueError", .type "Exception", .type "BaseException", .type "object"] "ValueError.__new__" = true
  kp : PySem.W.keepIn K (.ref C) = true
  be : PySem.W.subIn K (.ref C) (.type "BaseException") = some true
  ty : PySem.W.typeIn K (.ref C) = some (.type "type")
  is : PySem.W.isClsIn K C = true
  se : PySem.W.subIn K (.ref C) (.ref C) = some true
section
variable {X : Cx}
/-- raise C() -/
theorem ps_raise0 {W : WX} {C : Addr} {x : Str} {p pos pos2 : Pos} (hc : X.calm = true) (tk : Takes X W) (h : Err X.K C) (gC : X.mg x = some (.ref C)) (hg : Gl X x) (hdb : (x == ("__debug__" : Str)) = false := by decide) :
    PS X (.Raise (some (.Call (.Name x p) [] [] pos)) none pos2) (fun _ σ H => W (.ref C) none σ H) :=
  ps_raise hc tk (pmk_own0 PySem.F.excBase_ValueError h.ex gC h.kp (raises_own h.be h.ty) hg hdb)
end
/-! ### kinds that the program asks for -/
/-- a kind that is no integer's (a truth's is none) -/
def NotI (K : PySem.W.Frag) (t : Value) : Prop := ∃ b1 b2, PySem.W.kitOne K t (.type "int") = some b1 ∧ PySem.W.kitOne K t (.type "bool") = some b2 ∧ (b1 && !b2) = false
theorem notI_ty {K : PySem.W.Frag} {a : String} {b1 b2 : Bool} (h1 : kitB a "int" = some b1) (h2 : kitB a "bool" = some b2) (h : (b1 && !b2) = false) : NotI K (.type a) := ⟨b1, b2, kit_ty h1, kit_ty h2, h⟩
theorem notI_non {K : PySem.W.Frag} : NotI K (.type "NoneType") := notI_ty (b1 := false) (b2 := false) (by decide +kernel) (by decide +kernel) rfl
theorem notI_bl {K : PySem.W.Frag} : NotI K (.type "bool") := notI_ty (b1 := true) (b2 := true) (by decide +kernel) (by decide +kernel) rfl
theorem notI_str {K : PySem.W.Frag} : NotI K (.type "str") := notI_ty (b1 := false) (b2 := false) (by decide +kernel) (by decide +kernel) rfl
theorem notI_tup {K : PySem.W.Frag} : NotI K (.type "tuple") := notI_ty (b1 := false) (b2 := false) (by decide +kernel) (by decide +kernel) rfl
theorem kit_ii {K : PySem.W.Frag} : PySem.W.kitOne K (.type "int") (.type "int") = some true := kit_ty (by decide +kernel)
theorem kit_ib {K : PySem.W.Frag} : PySem.W.kitOne K (.type "int") (.type "bool") = some false := kit_ty (by decide +kernel)
theorem kit_tt {K : PySem.W.Frag} : PySem.W.kitOne K (.type "tuple") (.type "tuple") = some true := kit_ty (by decide +kernel)
/-- a value that is an integer z (some z) or none -/
inductive NumV (K : PySem.W.Frag) (H : Hp) : V → Option Int → Prop where
  | int (z : Int) : NumV K H (.int z) (some z)
  | odd {v : V} {t : Value} (h : TyX K H v t) (n : NotI K t) : NumV K H v none
theorem NumV.mono {K : PySem.W.Frag} {H H' : Hp} {v : V} {o : Option Int} (e : Ex H H') (h : NumV K H v o) : NumV K H' v o := by
  cases h with
  | int z => exact .int z
  | odd h n => exact .odd (ty_mono e h) n
def landB (w m : Int) : Bool := decide (2 ≤ w) && decide (w < m) && decide (Int.gcd m w = 1)
/-- a value, and whether it is a land -/
inductive LandV (K : PySem.W.Frag) (H : Hp) : V → Bool → Prop where
  | no {v : V} {t : Value} (h : TyX K H v t) (n : PySem.W.kitOne K t (.type "tuple") = some false) : LandV K H v false
  | len {a : Addr} {xs : List V} (h : SqT K H a xs) (n : xs.length ≠ 2) (z : xs.length ≤ 100) : LandV K H (.ref a) false
  | odd {a : Addr} {x y : V} {o p : Option Int} (h : SqT K H a [x, y]) (hx : NumV K H x o) (hy : NumV K H y p) (n : o = none ∨ p = none) : LandV K H (.ref a) false
  | two {a : Addr} {w m : Int} (h : SqT K H a [.int w, .int m]) (z1 : -4294967296 < w ∧ w < 4294967296) (z2 : -4294967296 < m ∧ m < 4294967296) : LandV K H (.ref a) (landB w m)
theorem LandV.mono {K : PySem.W.Frag} {H H' : Hp} {v : V} {b : Bool} (e : Ex H H') (h : LandV K H v b) : LandV K H' v b := by
  cases h with
  | no h n => exact .no (ty_mono e h) n
  | len h n z => exact .len (ex_t e h) n z
  | odd h hx hy n => exact .odd (ex_t e h) (hx.mono e) (hy.mono e) n
  | two h z1 z2 => exact .two (ex_t e h) z1 z2
section
variable {K : PySem.W.Frag} {σ : L2.St} {H H' : Hp} {ta tb tc te : TE} {x y z v : V} {r r' : R2} {t u : TT}
/-- isinstance(x, int) and not isinstance(x, bool) -/
theorem ev_isInt {o : Option Int} (h : ∀ H1, Ex H H1 → Ev ta σ H1 x) (hx : NumV K H x o) : Ev (tAndV (tCB (rIsi K) (tCons ta (tCons (tC (.ty "int")) tNil))) (tNotV (tCB (rIsi K) (tCons ta (tCons (tC (.ty "bool")) tNil))))) σ H (.bl o.isSome) := by
  cases hx with
  | int z => exact ev_is (ev_andV (ev_isi (h H (Ex.refl H)) (ty_int z) kit_ii) fun _ => ev_notV (ev_isi (h H (Ex.refl H)) (ty_int z) kit_ib)) rfl
  | odd hy n =>
    obtain ⟨b1, b2, h1, h2, h3⟩ := n
    exact ev_is (ev_andV (ev_isi (h H (Ex.refl H)) hy h1) fun _ => ev_notV (ev_isi (h H (Ex.refl H)) hy h2)) (by rw [h3]; rfl)
/-- .. and a third test -/
theorem ev_isInt3 {o : Option Int} {b : Bool} (h : Ev ta σ H x) (hx : NumV K H x o) (hb : ∀ z, o = some z → x = .int z → Ev tb σ H (.bl b)) (hn : o = none → b = false) :
    Ev (tAndV (tCB (rIsi K) (tCons ta (tCons (tC (.ty "int")) tNil))) (tAndV (tNotV (tCB (rIsi K) (tCons ta (tCons (tC (.ty "bool")) tNil)))) tb)) σ H (.bl b) := by
  cases hx with
  | int z => exact ev_is (ev_andV (ev_isi h (ty_int z) kit_ii) fun _ => ev_andV (ev_notV (ev_isi h (ty_int z) kit_ib)) fun _ => hb z rfl rfl) (by cases b <;> rfl)
  | odd hy n =>
    obtain ⟨b1, b2, h1, h2, h3⟩ := n
    rw [hn rfl]
    cases b1 with
    | false => exact ev_is (ev_andV (b := false) (ev_isi h hy h1) fun q => nomatch q) rfl
    | true =>
      have hb2 : b2 = true := by cases b2 <;> simp_all
      subst hb2
      exact ev_is (ev_andV (ev_isi h hy h1) fun _ => ev_andV (b := false) (ev_notV (ev_isi h hy h2)) fun q => nomatch q) rfl
theorem q_dropX {sp : Sp} {E : XK} {ta : TA} {tz : TS} {D : Ends} {vs : List V} (h : EvA ta σ H vs) (k : ∀ H1, Ex H H1 → sp vs H1 (fun _ H2 => tz D σ H2) E) : tSeq (tDrop (tCall sp [] E ta)) tz D σ H :=
  h H (Ex.refl H) _ fun H1 e => by
    rw [List.append_nil]
    exact k H1 e
end
/-! ### calendars -/
def calF (v : V) (n : Int) : List (Str × V) := putF "near" (.int n) (putF "rows" v [])
theorem rn_ne : ¬ (("rows" : Str) = "near") := by decide +kernel
theorem calF_rows (v : V) (n : Int) : (calF v n).lookup ("rows" : Str) = some v := by
  unfold calF
  rw [lookup_putF, if_neg rn_ne, lookup_putF, if_pos rfl]
theorem calF_near (v : V) (n : Int) : (calF v n).lookup ("near" : Str) = some (.int n) := by
  unfold calF
  rw [lookup_putF, if_pos rfl]
theorem calF_no (v : V) (n : Int) {m : Str} (h1 : ¬ m = "rows") (h2 : ¬ m = "near") : (calF v n).lookup m = none := by
  unfold calF
  rw [lookup_putF, if_neg h2, lookup_putF, if_neg h1]
  all_goals rfl
def rowsBys (rows : Rows) : Nat := (rows.map fun r => r.1.bys).sum
def reachOf (rows : Rows) : Nat := 3 + rowsBys rows + (rows.filter fun r => r.2).length
/-- at v a calendar -/
def CalAt (K : PySem.W.Frag) (CF CC : Addr) (H : Hp) (v : V) (rows : Rows) : Prop := ∃ c dx rv, v = .ref c ∧ H c = some (.ins CC dx (calF rv (reachOf rows))) ∧ RowsAt K CF H rv rows
theorem CalAt.mono {K : PySem.W.Frag} {CF CC : Addr} {H H' : Hp} {v : V} {rows : Rows} (e : Ex H H') (h : CalAt K CF CC H v rows) : CalAt K CF CC H' v rows := by
  obtain ⟨c, dx, rv, h0, h1, h2⟩ := h
  exact ⟨c, dx, rv, h0, e _ _ h1, h2.mono e⟩
end WF

set_option Elab.async false
set_option linter.all false
set_option maxRecDepth 100000
set_option maxHeartbeats 2000000
/-! WSize: the written tables ENDS, PAIRS, BYS; how a value's size comes -/
namespace WF
open PySem L2 Evl
structure EndsAt (w : World) (K : PySem.W.Frag) (d aW aM : Addr) : Prop where
  kd : ∃ es n, KDict K w d es n
  week : PySem.W.nsIn K d "weekday" = some (some (.ref aW))
  first : PySem.W.nsIn K d "first" = some (some (.ref aW))
  month : PySem.W.nsIn K d "monthday" = some (some (.ref aM))
  no : ∀ z ∈ (["behind", "both", "either", "without", "week"] : List Str), PySem.W.nsIn K d z = some none
  sW : ∀ H, SqT K H aW [.int (-2), .int (-1), .int 0, .int 1]
  sM : ∀ H, SqT K H aM [.int (-3), .int (-2), .int (-1), .int 0, .int 1, .int 2]
def isEnd (s : Str) : Prop := s = "weekday" ∨ s = "first" ∨ s = "monthday"
def isPair (s : Str) : Prop := s = "both" ∨ s = "either" ∨ s = "without"
def endOk (s : Str) (k : Int) : Bool := if s = "monthday" then decide (-3 ≤ k ∧ k ≤ 2) else decide (-2 ≤ k ∧ k ≤ 1)
def byOk (k : Int) : Bool := decide (k = -2 ∨ k = -1 ∨ k = 1 ∨ k = 2)
theorem EndsAt.in {w : World} {K : PySem.W.Frag} {d aW aM : Addr} (h : EndsAt w K d aW aM) {s : Str} (hs : isEnd s) : ∃ a, PySem.W.nsIn K d s = some (some (.ref a)) ∧ ∃ xs, (∀ H, SqT K H a xs) ∧ xs.all flatV = true ∧ ∀ k, inV (.int k) xs = endOk s k := by
  have w1 : ∀ k, inV (.int k) [.int (-2), .int (-1), .int 0, .int 1] = decide (-2 ≤ k ∧ k ≤ 1) := fun k => by
    rw [Bool.eq_iff_iff, decide_eq_true_iff]
    simp [inV, eqV]
    omega
  have m1 : ∀ k, inV (.int k) [.int (-3), .int (-2), .int (-1), .int 0, .int 1, .int 2] = decide (-3 ≤ k ∧ k ≤ 2) := fun k => by
    rw [Bool.eq_iff_iff, decide_eq_true_iff]
    simp [inV, eqV]
    omega
  rcases hs with rfl | rfl | rfl
  · exact ⟨aW, h.week, _, h.sW, rfl, fun k => by rw [w1, endOk, if_neg (by decide +kernel)]⟩
  · exact ⟨aW, h.first, _, h.sW, rfl, fun k => by rw [w1, endOk, if_neg (by decide +kernel)]⟩
  · exact ⟨aM, h.month, _, h.sM, rfl, fun k => by rw [m1, endOk, if_pos rfl]⟩
theorem EndsAt.kdct {w : World} {K : PySem.W.Frag} {d aW aM a : Addr} (h : EndsAt w K d aW aM) {s : Str} (e : PySem.W.nsIn K d s = some (some (.ref a))) : KDct K w d s (.ref a) := by
  obtain ⟨es, n, k⟩ := h.kd
  exact ⟨es, n, _, k.at_, k.lit, e, rfl⟩
def pairsV : List V := [.str "both", .str "either", .str "without"]
def bysV : List V := [.int (-2), .int (-1), .int 1, .int 2]
theorem inV_bys (k : Int) : inV (.int k) bysV = byOk k := by
  unfold byOk
  rw [Bool.eq_iff_iff, decide_eq_true_iff]
  simp [inV, eqV, bysV]
  omega
theorem inV_pairs (s : Str) : inV (.str s) pairsV = decide (s = "both" ∨ s = "either" ∨ s = "without") := by
  rw [Bool.eq_iff_iff, decide_eq_true_iff]
  simp [inV, eqV, pairsV]
  constructor
  · rintro (h | h | h) <;> simp [h]
  · rintro (h | h | h) <;> simp [h]
/-! ### x == () -/
def rEqE (K : PySem.W.Frag) : R2 := fun x y H Q => ∃ p q xs, x = .ref p ∧ y = .ref q ∧ SqT K H p xs ∧ SqT K H q [] ∧ Q (.bl xs.isEmpty) H
theorem op_eqE {X : Cx} (hu : X.A.units + 1 < cLine) : OpR X (compareOp .Eq) (rEqE X.K) := by
  intro pins s σ H x y v u Q I rx ry h
  obtain ⟨p, q, xs, rfl, rfl, h1, h2, hq⟩ := h
  cases rx
  cases ry
  obtain ⟨its, r, pl, hz⟩ := I.tuple h1
  obtain ⟨its2, r2, pl2, hz2⟩ := I.tuple h2
  have e2 : its2 = [] := by
    have := r2.length
    exact List.length_eq_zero_iff.mp (by simpa using this.symm)
  subst e2
  have hk : ((List.range (min its.toArray.size ([] : List Value).toArray.size)).all (fun _ => true) && its.toArray.size == ([] : List Value).toArray.size) = xs.isEmpty := by
    have := r.length
    cases xs with
    | nil =>
      have e : its = [] := List.length_eq_zero_iff.mp (by simpa using this.symm)
      subst e; rfl
    | cons a l =>
      cases its with
      | nil => simp at this
      | cons b l2 => simp
  refine SeqAt.RcAt.tuples (A := X.A) (e := fun _ => true) pl pl2 (by omega) (fun j h1 h2 => absurd h2 (by simp)) _ _ _ _ ?_
  rw [hk]
  exact ⟨.bl _, H, I, rfl, hq⟩
/-! ### the size of a value, of which no more than n parts are wanted -/
inductive SzAt (K : PySem.W.Frag) (H : Hp) : V → Nat → Option (Nat × Nat) → Prop where
  | zero {v : V} : SzAt K H v 0 none
  | kind {v : V} {t : Value} {n : Nat} (h : TyX K H v t) (k : PySem.W.kitOne K t (.type "tuple") = some false) : SzAt K H v (n + 1) none
  | empty {a : Addr} {n : Nat} (h : SqT K H a []) : SzAt K H (.ref a) (n + 1) none
  | head {a : Addr} {x : V} {xs : List V} {t : Value} {n : Nat} (h : SqT K H a (x :: xs)) (ht : TyX K H x t) (k : PySem.W.kitOne K t (.type "str") = some false) : SzAt K H (.ref a) (n + 1) none
  | leaf {a : Addr} {s : Str} {k : Int} {n : Nat} (hs : isEnd s) (h : SqT K H a [.str s, .int k]) (ok : endOk s k = true) : SzAt K H (.ref a) (n + 1) (some (1, 0))
  | leafLen {a : Addr} {s : Str} {xs : List V} {n : Nat} (hs : isEnd s) (h : SqT K H a (.str s :: xs)) (l : xs.length ≠ 1) : SzAt K H (.ref a) (n + 1) none
  | leafNum {a : Addr} {s : Str} {x : V} {o : Option Int} {n : Nat} (hs : isEnd s) (h : SqT K H a [.str s, x]) (hx : NumV K H x o) (no : ∀ z, o = some z → endOk s z = false) : SzAt K H (.ref a) (n + 1) none
  | word {a : Addr} {s : Str} {xs : List V} {n : Nat} (hs : s ∈ (["behind", "both", "either", "without", "week"] : List Str)) (h : SqT K H a (.str s :: xs)) (l : xs.length ≠ 2 ∨ s = "week") : SzAt K H (.ref a) (n + 1) none
  | byBad {a : Addr} {x b : V} {o : Option Int} {n : Nat} (h : SqT K H a [.str "behind", x, b]) (hb : NumV K H b o) (no : ∀ z, o = some z → byOk z = false) : SzAt K H (.ref a) (n + 1) none
  | behind {a : Addr} {x : V} {b : Int} {n : Nat} {o : Option (Nat × Nat)} (h : SqT K H a [.str "behind", x, .int b]) (ok : byOk b = true) (hx : SzAt K H x n o) : SzAt K H (.ref a) (n + 1) (o.map fun p => (1 + p.1, b.natAbs + p.2))
  | pairNo {a : Addr} {s : Str} {x y : V} {n : Nat} (hs : isPair s) (h : SqT K H a [.str s, x, y]) (hx : SzAt K H x n none) : SzAt K H (.ref a) (n + 1) none
  | pair {a : Addr} {s : Str} {x y : V} {n p q : Nat} {o : Option (Nat × Nat)} (hs : isPair s) (h : SqT K H a [.str s, x, y]) (hx : SzAt K H x n (some (p, q))) (hp : p ≤ n) (hy : SzAt K H y (n - p) o) : SzAt K H (.ref a) (n + 1) (o.map fun r => (1 + p + r.1, q + r.2))
theorem SzAt.mono {K : PySem.W.Frag} {H H' : Hp} {v : V} {n : Nat} {o : Option (Nat × Nat)} (e : Ex H H') (h : SzAt K H v n o) : SzAt K H' v n o := by
  induction h with
  | zero => exact .zero
  | kind h k => exact .kind (ty_mono e h) k
  | empty h => exact .empty (ex_t e h)
  | head h ht k => exact .head (ex_t e h) (ty_mono e ht) k
  | leaf hs h ok => exact .leaf hs (ex_t e h) ok
  | leafLen hs h l => exact .leafLen hs (ex_t e h) l
  | leafNum hs h hx no => exact .leafNum hs (ex_t e h) (hx.mono e) no
  | word hs h l => exact .word hs (ex_t e h) l
  | byBad h hb no => exact .byBad (ex_t e h) (hb.mono e) no
  | behind h ok _ i => exact .behind (ex_t e h) ok i
  | pairNo hs h _ i => exact .pairNo hs (ex_t e h) i
  | pair hs h _ hp _ i j => exact .pair hs (ex_t e h) i hp j
def szOf (r : Rl) (n : Nat) : Option (Nat × Nat) := if r.parts ≤ n then some (r.parts, r.bys) else none
theorem parts_pos : ∀ r : Rl, 1 ≤ r.parts
  | .wk _ | .fs _ | .md _ => Nat.le_refl _
  | .bh r _ => by simp only [Rl.parts]; omega
  | .bo x y | .ei x y | .wo x y => by simp only [Rl.parts]; omega
theorem szOf_pair {K : PySem.W.Frag} {H : Hp} {a : Addr} {s : Str} {u v : V} {x y r : Rl} (hp : r.parts = 1 + x.parts + y.parts) (hb : r.bys = x.bys + y.bys) (hs : isPair s) (h : SqT K H a [.str s, u, v])
    (hx : ∀ n, SzAt K H u n (szOf x n)) (hy : ∀ n, SzAt K H v n (szOf y n)) : ∀ n, SzAt K H (.ref a) n (szOf r n)
  | 0 => by
    have := parts_pos x
    unfold szOf
    rw [if_neg (by omega)]
    exact .zero
  | n + 1 => by
    by_cases h1 : x.parts ≤ n
    · have e := SzAt.pair (o := szOf y (n - x.parts)) hs h (by have := hx n; rw [szOf, if_pos h1] at this; exact this) h1 (hy _)
      have e2 : (szOf y (n - x.parts)).map (fun r => (1 + x.parts + r.1, x.bys + r.2)) = szOf r (n + 1) := by
        unfold szOf
        by_cases h2 : y.parts ≤ n - x.parts
        · rw [if_pos h2, if_pos (by omega), hp, hb]; rfl
        · rw [if_neg h2, if_neg (by omega)]; rfl
      rw [← e2]
      exact e
    · unfold szOf
      rw [if_neg (by omega)]
      exact .pairNo hs h (by have := hx n; rw [szOf, if_neg h1] at this; exact this)
/-- a rule of which all numbers may stand -/
theorem sz_of {K : PySem.W.Frag} {H : Hp} {v : V} {r : Rl} (h : RlAt K H v r) (hf : r.fit = true) : ∀ n, SzAt K H v n (szOf r n) := by
  have leaf : ∀ {a : Addr} {s : Str} {k : Int} {r : Rl}, r.parts = 1 → r.bys = 0 → isEnd s → SqT K H a [.str s, .int k] → endOk s k = true → ∀ n, SzAt K H (.ref a) n (szOf r n) := by
    intro a s k r h1 h2 hs hT ok n
    cases n with
    | zero => rw [szOf, if_neg (by omega)]; exact .zero
    | succ n => rw [szOf, if_pos (by omega), h1, h2]; exact .leaf hs hT ok
  induction h with
  | wk h => exact leaf rfl rfl (.inl rfl) h (by rw [endOk, if_neg (by decide +kernel)]; exact hf)
  | fs h => exact leaf rfl rfl (.inr (.inl rfl)) h (by rw [endOk, if_neg (by decide +kernel)]; exact hf)
  | md h => exact leaf rfl rfl (.inr (.inr rfl)) h (by rw [endOk, if_pos rfl]; exact hf)
  | bh h _ i =>
    rename_i p u r b _
    simp only [Rl.fit, Bool.and_eq_true] at hf
    intro n
    cases n with
    | zero => rw [szOf, if_neg (by have := parts_pos (.bh r b); omega)]; exact .zero
    | succ n =>
      have e := SzAt.behind h hf.1 (i hf.2 n)
      have e2 : (szOf r n).map (fun p => (1 + p.1, b.natAbs + p.2)) = szOf (.bh r b) (n + 1) := by
        have hp : (Rl.bh r b).parts = 1 + r.parts := rfl
        unfold szOf
        by_cases h2 : r.parts ≤ n
        · rw [if_pos h2, if_pos (show (Rl.bh r b).parts ≤ n + 1 by omega)]; rfl
        · rw [if_neg h2, if_neg (show ¬ (Rl.bh r b).parts ≤ n + 1 by omega)]; rfl
      rw [← e2]
      exact e
  | bo h _ _ i j =>
    simp only [Rl.fit, Bool.and_eq_true] at hf
    exact szOf_pair rfl rfl (.inl rfl) h (i hf.1) (j hf.2)
  | ei h _ _ i j =>
    simp only [Rl.fit, Bool.and_eq_true] at hf
    exact szOf_pair rfl rfl (.inr (.inl rfl)) h (i hf.1) (j hf.2)
  | wo h _ _ i j =>
    simp only [Rl.fit, Bool.and_eq_true] at hf
    exact szOf_pair rfl rfl (.inr (.inr rfl)) h (i hf.1) (j hf.2)
/-- what a size comes back as -/
def RetO (o : Option (Nat × Nat)) (H : Hp) (Q : VK) : Prop := (o = none → RetV .non H Q) ∧ ∀ p q, o = some (p, q) → ∀ t H2, H t = none → Ex H H2 → H2 t = some (.tup [.int (p : Int), .int (q : Int)]) → Q (.ref t) H2
theorem at0 {x : V} {xs : List V} : atI (x :: xs) 0 = some x := atI_nat (j := 0) rfl
theorem RetO.back {o : Option (Nat × Nat)} {H H' : Hp} {Q : VK} (k : RetO o H Q) (e : Ex H H') : RetO o H' Q :=
  ⟨fun h H2 e2 => k.1 h H2 (e.trans e2), fun p q h t H2 ht e2 h2 => k.2 p q h t H2 (fresh_back e ht) (e.trans e2) h2⟩
end WF

set_option Elab.async false
set_option linter.all false
set_option maxRecDepth 100000
set_option maxHeartbeats 2000000
/-! WEnum: for i, x in enumerate(t), t a tuple -/
namespace WF
open PySem L2 Evl
section
open PySem.Calls PyProof.Rows
open AutoSeq1 (wpAny_loadPart')
theorem new_enumT (t : Addr) (its : Array Value) :
    Meets (Builtin.«enumerate.__new__» ⟨[.type "enumerate", .ref t], []⟩) (fun _ R s => s.heap.IsTuple t its ∧
      R (.ok (.ret (.ref (s.heap.push { cls := .type "tuple_iterator", data := .fields #[.ref t, .int 0 0] }).objs.size)))
        { s with heap := (s.heap.push { cls := .type "tuple_iterator", data := .fields #[.ref t, .int 0 0] }).push { cls := .type "enumerate", data := .fields #[.none, .bool false, .ref s.heap.objs.size, rawInt 0, .none, .none] } }) :=
  .of_wp fun prog w A R s hh => by
    obtain ⟨hp, gg, dd, tk, os⟩ := s
    obtain ⟨hT, hq⟩ := hh
    have hsub := sub_enumerate
    have it0 : ∀ {A' : Around} {E : Value → Shared → Prop} {Q : Value → Shared → Prop}, Q (.ref hp.objs.size) ⟨hp.push { cls := .type "tuple_iterator", data := .fields #[.ref t, .int 0 0] }, gg, dd, tk, os⟩ → wpAny (model prog w) A' (pyIter (.ref t)) Q E ⟨hp, gg, dd, tk, os⟩ :=
      fun q => wpAny_pyIter_tuple hT q
    wp_walk using it0
    refine wpAny_stack_any fun st => wpAny_pure ?_
    split
    · rename_i c _ _ _ _ _
      cases (c == Value.type "enumerate")
      · wp_walk using it0
        exact ⟨_, rfl, hq⟩
      · wp_walk using it0
        exact ⟨_, rfl, hq⟩
    · wp_walk using it0
      exact ⟨_, rfl, hq⟩
section
variable {prog : Program} {w : World} {A : Around} {E : Value → Shared → Prop} {s : Shared}
theorem call_enumT {t : Addr} {its : Array Value} {Q : Value → Shared → Prop} (hT : s.heap.IsTuple t its)
    (h : ∀ h', IsEnum h' (s.heap.objs.size + 1) s.heap.objs.size 0 .none → h'.IsTupleIter s.heap.objs.size t 0 → (∀ b o, s.heap.get? b = some o → h'.get? b = some o) → Q (.ref (s.heap.objs.size + 1)) { s with heap := h' }) :
    wpAny (model prog w) A (call (.type "enumerate") [.ref t]) Q E s := by
  refine callType_new F.called_enumerate (by decide) (F.typeCall_enumerate_1 _) (F.newCall_enumerate_1 _) (fun ob => F.args_object_init_2 ob _) F.entry_enumerate_new (new_enumT t its) ⟨hT, ?_⟩
  have hz : (s.heap.push { cls := .type "tuple_iterator", data := .fields #[.ref t, .int 0 0] }).objs.size = s.heap.objs.size + 1 := Heap.size_push ..
  show _ ∧ _
  rw [hz]
  have he : IsEnum ((s.heap.push { cls := .type "tuple_iterator", data := .fields #[.ref t, .int 0 0] }).push { cls := .type "enumerate", data := .fields #[.none, .bool false, .ref s.heap.objs.size, rawInt 0, .none, .none] }) (s.heap.objs.size + 1) s.heap.objs.size 0 .none := by
    have z := Heap.get?_push_size (s.heap.push { cls := .type "tuple_iterator", data := .fields #[.ref t, .int 0 0] }) (o := { cls := .type "enumerate", data := .fields #[.none, .bool false, .ref s.heap.objs.size, rawInt 0, .none, .none] }) rfl
    rw [hz] at z
    exact z
  exact ⟨⟨_, he, rfl⟩, h _ he ⟨_, Heap.get?_push_of_some _ (Heap.get?_push_size _ rfl), rfl, rfl⟩ fun b o x => Heap.get?_push_of_some _ (Heap.get?_push_of_some _ x)⟩
end
/-- the tuple at a as it stands at each turn, each item in a new pair -/
def Itet (K : PySem.W.Frag) (a : Addr) : It :=
  ⟨fun i H => ∃ (xs : List V) (x : V), SqT K H a xs ∧ xs[i]? = some x, fun i H v H' => ∃ T x, v = .ref T ∧ H T = none ∧ H' = upd H T (.tup [.int (i : Nat), x]) ∧ ∀ xs, SqT K H a xs → xs[i]? = some x, fun i H => ∃ xs : List V, SqT K H a xs ∧ xs.length ≤ i⟩
theorem turn_enumT {P : Program} {w : World} {K : PySem.W.Frag} {elts : List Expr} {kk : Nat} {tpos : Pos} (a e it : Addr) :
    Turn P w K (.Tuple elts kk tpos) (Itet K a) [e, it] e (fun i h => (∃ old, IsEnum h e it ((i : Nat) : Int) old) ∧ h.IsTupleIter it a i ∧ e ≠ it ∧ a ≠ it ∧ e ≠ a) where
  mem := by simp
  obj := fun i h st b hb => by
    obtain ⟨⟨old, he⟩, ⟨o, ho, hc, hd⟩, _⟩ := st
    rcases (show b = e ∨ b = it by simpa using hb) with rfl | rfl
    · exact ⟨_, he, fun v q => nomatch q⟩
    · exact ⟨o, ho, fun v q => by rw [hd] at q; cases q⟩
  keep := fun i h h' st k => by
    obtain ⟨⟨old, he⟩, ⟨o, ho, hc, hd⟩, hne⟩ := st
    exact ⟨⟨old, k e (by simp) _ he⟩, ⟨o, k it (by simp) _ ho, hc, hd⟩, hne⟩
  item := by
    intro X hP hw hK hc i pins s σ H E I hf st hg
    subst hP hw hK
    obtain ⟨⟨old, he⟩, hit, hne, hai, hea⟩ := st
    obtain ⟨xs, x, hq, hx⟩ := hg
    obtain ⟨its, rv, p, hz⟩ := I.tuple hq
    obtain ⟨u, hu, ru⟩ := rv.get hx
    have hlt : i < its.toArray.size := by
      have := (List.getElem?_eq_some_iff.mp hu).1
      simpa using this
    have hel : e < s.heap.objs.size := Heap.lt_size he
    have hil : it < s.heap.objs.size := by obtain ⟨_, q, _⟩ := hit; exact Heap.lt_size q
    refine wpAny_pyNext_enum_itemC (Draws.tuple (prog := X.prog) (w := X.w) (A := X.A.in1) (I.ok.hd hc) it a hai its.toArray) he ⟨hit, p⟩ hlt hne (by simp [hne, hea]) fun y h' tk hy ho hst' hT hsz hk => ?_
    have hyu : y = u := by
      rw [List.getElem?_toArray, hu] at hy
      exact (Option.some.inj hy).symm
    subst hyu
    refine ⟨_, rfl, wpAny_letOwnedTupleGo_enum (s := { s with heap := h', toks := tk + 1 }) ho fun h'' he' sb => ?_⟩
    have hT2 : h''.get? s.heap.objs.size = some { cls := .type "tuple", data := .seq #[.int i tk, y] } := (sb.2 _ (Nat.ne_of_gt hel)).trans hT
    have new : ObjOk X.prog X.w (upd H s.heap.objs.size (.tup [.int (i : Nat), x])) h'' s.heap.objs.size (.tup [.int (i : Nat), x]) :=
      ⟨by show 2 ≤ sizeLine; decide, [.int i tk, y], .cons ⟨_, rfl⟩ (.cons ru .nil), ⟨_, hT2, rfl, _, rfl⟩⟩
    have I1 : Inv X pins σ (upd H s.heap.objs.size (.tup [.int (i : Nat), x])) { s with heap := h'', toks := tk + 1 } :=
      I.turnedNew (ch := [e, it]) (fun b ob hb q => (sb.2 b (fun z => hb (by simp [z]))).trans (hk b ob (fun z => hb (by simp [z])) (fun z => hb (by simp [z])) q)) hf (Nat.le_refl _) new
    obtain ⟨oi, hoi, hci, hdi⟩ := hst'.1
    refine ⟨.ref s.heap.objs.size, _, I1, rfl, ⟨_, x, rfl, I.hok.fresh (Nat.le_refl _), rfl, fun ys hy => by rw [I.tuple_inj hy hq]; exact hx⟩, ⟨⟨y, ?_⟩, ⟨oi, (sb.2 it (Ne.symm hne)).trans hoi, hci, hdi⟩, hne, hai, hea⟩, fun b hb => ?_⟩
    · have e1 : ((i + 1 : Nat) : Int) = (i : Int) + 1 := by omega
      rw [e1]
      exact he'
    · have hb' : b < s.heap.objs.size := by
        rcases (show b = e ∨ b = it by simpa using hb) with rfl | rfl
        · exact hel
        · exact hil
      rw [upd_ne (Nat.ne_of_lt hb')]
      exact (hf b hb).1
  done := by
    intro X hP hw hK hc i pins s σ H E I hf st hg
    subst hP hw hK
    obtain ⟨⟨old, he⟩, hit, hne, hai, hea⟩ := st
    obtain ⟨xs, hq, hx⟩ := hg
    obtain ⟨its, rv, p, hz⟩ := I.tuple hq
    obtain ⟨f0, f1, f2, f3, f4, f5⟩ := hf it (by simp)
    have hl := rv.length
    obtain ⟨oi, hoi, hci, hdi⟩ := id hit
    have D0 := Draws.tuple (prog := X.prog) (w := X.w) (A := X.A.in1) (I.ok.hd hc) it a hai its.toArray
    have D : Draws X.prog X.w X.A.in1 it [it, a] i (fun j v => True) (fun j h => j = i ∧ h.IsTupleIter it a j ∧ h.IsTuple a its.toArray) :=
      ⟨fun j h st' => D0.live j h st'.2, fun j h h' st' k => ⟨st'.1, D0.frame j h h' st'.2 k⟩, fun j s' Q E' hj st' hQ => absurd st'.1 (Nat.ne_of_lt hj),
        fun s' Q E' st' hE => wpAny_nextOf_tuple_end (I.ok.hd hc) st'.2.1 st'.2.2 (by simp; omega) hE⟩
    exact wpAny_pyNext_enum_endD D he ⟨rfl, hit, p⟩ fun h' eb => ⟨rfl, I.turned (t' := s.toks) (fun b o hb q => eb b o hb q) f0 f1 f3 f4 f5⟩
  self := fun A i s Q E st h => let ⟨⟨_, he⟩, _⟩ := st; wpAny_pyIter_enum he h
def iEnumT (K : PySem.W.Frag) (ta : TA) : TI := fun σ H R => ta σ H fun vs H1 => ∃ a xs, vs = [.ref a] ∧ SqT K H1 a xs ∧ R (Itet K a) H1
theorem pi_enumT {X : Cx} {e : Expr} {ta : TA} {p pos tpos : Pos} {elts : List Expr} {kk : Nat} (hg : Gl X "enumerate") (hm : X.mg "enumerate" = none) (ha : PA X [e] ta) (hs : starEach [e] X.env = [(false, eval e X.env)] := by rfl) :
    PI X (.Tuple elts kk tpos) (.Call (.Name "enumerate" p) [e] [] pos) (iEnumT X.K ta) := by
  refine ⟨fun pins s σ H R I hh => ?_⟩
  refine Call_ (ld_blt I hg hm boot_enumerate (callWith_type1 (thn (ha.run pos pins s σ H _ I hh) fun us s1 ⟨vs, H1, I1, r1, q1⟩ => ?_) hs rfl))
  obtain ⟨a, xs, ex, hq, q⟩ := q1
  subst ex
  cases r1 with
  | cons r rr =>
    cases rr
    cases r
    obtain ⟨its, rv, pT, hz⟩ := I1.tuple hq
    have hal : a < s1.heap.objs.size := by
      obtain ⟨oT, hoT, _⟩ := pT
      exact Heap.lt_size hoT
    refine call_enumT pT fun h' he hit hk => wpAny_pyIter_enum he ?_
    have I2 : Inv X pins σ H1 { s1 with heap := h' } := I1.kept (t' := s1.toks) hk
    refine ⟨s1.heap.objs.size + 1, [s1.heap.objs.size + 1, s1.heap.objs.size], _, _, H1, rfl, I2, turn_enumT a (s1.heap.objs.size + 1) s1.heap.objs.size, ⟨⟨.none, he⟩, hit, Nat.succ_ne_self _, Nat.ne_of_lt hal, Nat.ne_of_gt (Nat.lt_succ_of_lt hal)⟩, fun b hb => ?_, q⟩
    have hle : s1.heap.objs.size ≤ b := by
      rcases (show b = s1.heap.objs.size + 1 ∨ b = s1.heap.objs.size by simpa using hb) with z | z
      · rw [z]; exact Nat.le_add_right _ _
      · rw [z]; exact Nat.le_refl _
    exact I1.fpOk hle (I1.hok.fresh hle)
theorem walk_enumT {K : PySem.W.Frag} {a : Addr} {xs : List V} : Walk (Itet K a) xs.length (fun H => SqT K H a xs) (YPair (fun i => some (.int (i : Nat))) (fun i => xs[i]?)) := by
  refine ⟨fun i _ hi q => ⟨xs, xs[i], q, by simp [hi]⟩, fun _ q => ⟨xs, q, Nat.le_refl _⟩, fun i H v H' _ q y => ?_⟩
  obtain ⟨T, x, y1, y2, y3, y4⟩ := y
  exact ⟨T, .int (i : Nat), x, y1, y2, y3, rfl, y4 xs q⟩
/-- for i, x in enumerate(t): Pv by the turn, the slots and the heap -/
theorem q_forEnT {K : PySem.W.Frag} {σ : L2.St} {H : Hp} {a : Addr} {xs : List V} {ta : TE} {j k : Nat} {tu tz : TS} {D : Ends} (h : Ev ta σ H (.ref a)) (hx : SqT K H a xs) (Pv : Nat → L2.St → Hp → Prop) (h0 : ∀ H1, Ex H H1 → Pv 0 σ H1)
    (hl : ∀ i σ' H', i ≤ xs.length → Pv i σ' H' → SqT K H' a xs)
    (hs : ∀ i x σ' H' H2, xs[i]? = some x → Pv i σ' H' → Ex H' H2 → tu { D with nx := Pv (i + 1), ct := Pv (i + 1), bk := tz D } ((σ'.set j (some (.int ((i : Nat) : Int)))).set k (some x)) H2)
    (hd : ∀ σ' H', Pv xs.length σ' H' → tz D σ' H') : tSeq (tFor (iEnumT K (tCons ta tNil)) (gTup K 2 (gCons (gName j) (gCons (gName k) gNil))) tu) tz D σ H := by
  refine h H (Ex.refl H) _ fun H1 e1 => ⟨a, xs, rfl, ex_t e1 hx, ?_⟩
  refine for_it (D := { D with nx := tz D }) walk_enumT Pv (h0 H1 e1) hl (fun i x σ' H' H2 hi p y => ?_) hd
  obtain ⟨T, u, v, rfl, hT, rfl, hu, hv⟩ := y
  cases hu
  exact ⟨T, _, rfl, st_of upd_same, rfl, _, _, rfl, _, _, rfl, rfl, hs i v σ' H' _ hv p (Ex.new hT)⟩
end
end WF

set_option Elab.async false
set_option linter.all false
set_option maxRecDepth 100000
set_option maxHeartbeats 2000000
/-! WObj: objects made and changed -/
namespace WF
open PySem L2 Evl
structure Cls1 (K : PySem.W.Frag) (C : Addr) (fs : List Str) : Prop where
  cl : Cls K C
  no : ∀ x ∈ fs, NoAttr K C x
/-- all but p is kept -/
def ExB (p : Addr) (H H' : Hp) : Prop := ∀ b o, b ≠ p → H b = some o → H' b = some o
theorem ExB.of {p : Addr} {H H' : Hp} (e : Ex H H') : ExB p H H' := fun b o _ h => e b o h
theorem ExB.step {p : Addr} {H H1 H2 : Hp} (a : ExB p H H1) (e : Ex H1 H2) : ExB p H H2 := fun b o h q => e b o (a b o h q)
theorem ExB.upd {p : Addr} {H H' : Hp} {o : HO} (a : ExB p H H') : ExB p H (upd H' p o) := fun b u h q => by
  rw [upd_ne h]
  exact a b u h q
theorem ExB.trans {p : Addr} {H H1 H2 : Hp} (a : ExB p H H1) (b : ExB p H1 H2) : ExB p H H2 := fun c o h q => b c o h (a c o h q)
/-- what stood ahead of p stands -/
theorem ExB.old {p : Addr} {H0 H H' : Hp} (a : ExB p H H') (e : Ex H0 H) (h : H0 p = none) : Ex H0 H' := fun b o q => a b o (ne_of_none q h) (e b o q)
structure MkAt (K : PySem.W.Frag) (C : Addr) (qual : Str) (st : Stmt) (ps : List Str) : Prop where
  ex : ∃ (f : Addr) (fd : FuncData), Mk K C f ∧ Fun K "__init__" qual st f fd ∧ Binds K fd ps []
structure MtAt (K : PySem.W.Frag) (C : Addr) (m qual : Str) (st : Stmt) (ps : List Str) : Prop where
  ex : ∃ (f : Addr) (fd : FuncData), Meth K C m f ∧ Fun K m qual st f fd ∧ Binds K fd ps []
structure Mn (P : Program) (w : World) (K : PySem.W.Frag) (mg : Str → Option Value) (base : Heap) (CX : CXT) (C : Addr) (k : Nat) (ps : List Str) (sp : Sp) : Prop where
  ex : ∃ (f : Addr) (fd : FuncData), Mk K C f ∧ FnOk P w K mg base CX k f fd ps sp ∧ Binds K fd ps []
structure Mtn (P : Program) (w : World) (K : PySem.W.Frag) (mg : Str → Option Value) (base : Heap) (CX : CXT) (C : Addr) (m : Str) (k : Nat) (ps : List Str) (sp : Sp) : Prop where
  ex : ∃ (f : Addr) (fd : FuncData), Meth K C m f ∧ PySem.W.keepIn K (.ref f) = true ∧ FnOk P w K mg base CX k f fd ps sp ∧ Binds K fd ps []
section
variable {P : Program} {w : World} {K : PySem.W.Frag} {mg : Str → Option Value} {base : Heap} {CX : CXT} {C : Addr} {m qual : Str} {k : Nat} {ps : List Str} {sp : Sp} {st : Stmt}
theorem MkAt.mn (F : MkAt K C qual st ps) (h : ∀ f fd, Fun K "__init__" qual st f fd → FnOk P w K mg base CX k f fd ps sp) : Mn P w K mg base CX C k ps sp := by
  obtain ⟨f, fd, h1, h2, h3⟩ := F.ex
  exact ⟨f, fd, h1, h f fd h2, h3⟩
theorem MtAt.mtn (F : MtAt K C m qual st ps) (h : ∀ f fd, Fun K m qual st f fd → FnOk P w K mg base CX k f fd ps sp) : Mtn P w K mg base CX C m k ps sp := by
  obtain ⟨f, fd, h1, h2, h3⟩ := F.ex
  exact ⟨f, fd, h1, h2.kp, h f fd h2, h3⟩
end
section
variable {X : Cx} {CX : CXT} {x m : Str} {C : Addr} {k : Nat} {ps : List Str} {sp : Sp} {E : XK} {e o : Expr} {es : List Expr} {p pos apos : Pos} {t : TA} {ta : TE}
theorem pe_mk (M : Mn X.prog X.w X.K X.mg X.base CX C k ps sp) (hr : Room (k + 1) X.A) (gC : X.mg x = some (.ref C)) (hx : Passes CX X E) (hg : Gl X x) (ha : PA X (e :: es) t) (hdb : (x == ("__debug__" : Str)) = false := by decide)
    (he : starEach (e :: es) X.env = (false, eval e X.env) :: starEach es X.env := by rfl) (hpl : (backTo pos (starEach es X.env)).any (·.1) = false := by rfl) : PE X (.Call (.Name x p) (e :: es) [] pos) (tMake C sp [] E t) := by
  obtain ⟨f, fd, h1, h2, h3⟩ := M.ex
  exact pe_make h1 h2 hr hg gC h3 .nil hx ha hdb he hpl
end
/-- te gives a new object of which R tells -/
def EvR (te : TE) (σ : L2.St) (H : Hp) (R : Addr → Hp → Prop) : Prop := ∀ H1, Ex H H1 → ∀ Q : VK, (∀ p H2, H1 p = none → Ex H1 H2 → R p H2 → Q (.ref p) H2) → te σ H1 Q
section
variable {K : PySem.W.Frag} {σ : L2.St} {H H' : Hp} {ta tb tc te tv : TE} {x y z v : V} {r r' : R2} {t u : TT} {D : Ends} {tz : TS}
theorem s_fld {a C dx : Addr} {fs : List (Str × V)} {f : Str} (hv : Ev tv σ H y) (h : Ev ta σ H (.ref a)) (ho : H a = some (.ins C dx fs)) (hc : Cls K C) (hn : NoAttr K C f) (hz : fs.length < 1000)
    (k : ∀ H1, Ex H H1 → D.nx σ (upd H1 a (.ins C dx (putF f y fs)))) : sFld K ta tv f D σ H :=
  hv H (Ex.refl H) _ fun H1 e1 => h H1 e1 _ fun H2 e2 => ⟨a, C, dx, fs, rfl, e2 _ _ (e1 _ _ ho), hc, hn, hz, k H2 (e1.trans e2)⟩
theorem q_fld {a C dx : Addr} {fs : List (Str × V)} {f : Str} (hv : Ev tv σ H y) (h : Ev ta σ H (.ref a)) (ho : H a = some (.ins C dx fs)) (hc : Cls K C) (hn : NoAttr K C f) (hz : fs.length < 1000)
    (k : ∀ H1, Ex H H1 → tz D σ (upd H1 a (.ins C dx (putF f y fs)))) : tSeq (sFld K ta tv f) tz D σ H := s_fld (D := { D with nx := tz D }) hv h ho hc hn hz k
/-- a new instance by __init__: R tells of the made one -/
theorem er_make {C : Addr} {sp : Sp} {E : XK} {ta : TA} {vs : List V} {R : Addr → Hp → Prop} (h : EvA ta σ H vs)
    (hs : ∀ H1, Ex H H1 → ∀ x dx, H1 x = none → H1 dx = none → dx ≠ x → ∀ Q : VK, (∀ H2, Ex H1 H2 → R x H2 → Q .non H2) → sp (.ref x :: vs) (upd (upd H1 dx (.own x)) x (.ins C dx [])) Q E) : EvR (tMake C sp [] E ta) σ H R :=
  fun H1 e Q q => h H1 e _ fun H2 e2 x dx hx hdx hne => by
    rw [List.append_nil]
    exact hs H2 (e.trans e2) x dx hx hdx hne _ fun H3 e3 hR => ⟨rfl, q x H3 (fresh_back e2 hx) (e2.trans e3) hR⟩
theorem ex_made {H1 : Hp} {x dx C : Addr} (hx : H1 x = none) (hdx : H1 dx = none) : Ex H1 (upd (upd H1 dx (.own x)) x (.ins C dx [])) := fun b o h => by
  rw [upd_ne (ne_of_none h hx), upd_ne (ne_of_none h hdx)]
  exact h
theorem s_asgR {i : Nat} {R : Addr → Hp → Prop} (h : EvR te σ H R) (k : ∀ p H1, H p = none → Ex H H1 → R p H1 → D.nx (σ.set i (some (.ref p))) H1) : tAsg te (gName i) D σ H := h H (Ex.refl H) _ fun p H1 hp e h1 => k p H1 hp e h1
theorem q_asgR {i : Nat} {R : Addr → Hp → Prop} (h : EvR te σ H R) (k : ∀ p H1, H p = none → Ex H H1 → R p H1 → tz D (σ.set i (some (.ref p))) H1) : tSeq (tAsg te (gName i)) tz D σ H := s_asgR (D := { D with nx := tz D }) h k
theorem s_retR {R : Addr → Hp → Prop} (h : EvR te σ H R) (k : ∀ p H1, H p = none → Ex H H1 → R p H1 → D.rt (.ref p) H1) : tRet te D σ H := h H (Ex.refl H) _ fun p H1 hp e h1 => k p H1 hp e h1
theorem el_R {xs : List V} (h : EvL te σ H xs) : EvR te σ H fun p H2 => H2 p = some (.lst xs) := h
theorem eu_R {xs : List V} (h : EvU te σ H xs) : EvR te σ H fun p H2 => H2 p = some (.tup xs) := h
end
/-- what the top says of an own class, further: for isinstance -/
structure ClsI (K : PySem.W.Frag) (C : Addr) : Prop where
  cl : Cls K C
  ha : PySem.W.findIn K (.ref C) "__class__" = some (some (.builtin "object.__class__"))
  hn : PySem.W.specialIn K (.builtin "object.__class__") "__get__" = some (some (.builtin "getset_descriptor.__get__"))
  htk : PySem.W.takesIn K (.builtin "object.__class__") = some true
  hm : PySem.W.mroIn K C (.type "object") = some true
theorem ClsI.ty {K : PySem.W.Frag} {C a dx : Addr} {H : Hp} {fs : List (Str × V)} (h : ClsI K C) (ho : H a = some (.ins C dx fs)) : TyX K H (.ref a) (.ref C) := .base (.ins ho h.cl h.ha h.hn h.htk h.hm)
theorem kit_self {K : PySem.W.Frag} {C : Addr} : PySem.W.kitOne K (.ref C) (.ref C) = some true := by
  unfold PySem.W.kitOne
  rw [if_pos (by simp)]
/-! a store to an instance: tuples, and what is told by them, stand -/
section
variable {K : PySem.W.Frag} {H : Hp} {p C dx : Addr} {fs fs' : List (Str × V)}
theorem sqt_upd {a : Addr} {xs : List V} (hp : H p = some (.ins C dx fs)) (h : SqT K H a xs) : SqT K (upd H p (.ins C dx fs')) a xs := by
  rcases h with (h | ⟨o, h⟩) | h
  · refine .inl (.inl ?_)
    rw [upd_ne (ne_of h hp (by intro q; cases q))]
    exact h
  · refine .inl (.inr ⟨o, ?_⟩)
    rw [upd_ne (ne_of h hp (by intro q; cases q))]
    exact h
  · exact .inr h
theorem ty_upd {x : V} {t : Value} (hp : H p = some (.ins C dx fs)) (h : TyX K H x t) : TyX K (upd H p (.ins C dx fs')) x t := by
  have mv : ∀ {a : Addr} {o : HO}, H a = some o → o ≠ .ins C dx fs → upd H p (.ins C dx fs') a = some o := fun {a o} e n => by
    rw [upd_ne (ne_of e hp n)]
    exact e
  cases h with
  | base h =>
    cases h with
    | non => exact .base .non
    | bl b => exact .base (.bl b)
    | int i => exact .base (.int i)
    | str z => exact .base (.str z)
    | flt z => exact .base (.flt z)
    | lst h => exact .base (.lst (mv h (by intro q; cases q)))
    | frz h => exact .base (.frz (mv h (by intro q; cases q)))
    | tup h => exact .base (.tup (mv h (by intro q; cases q)))
    | dK h => exact .base (.dK (mv h (by intro q; cases q)))
    | dT h => exact .base (.dT (mv h (by intro q; cases q)))
    | @ins a C' dx' fs0 h cl ha hn htk hm =>
      by_cases hap : a = p
      · subst hap
        rw [hp] at h
        injection h with h
        injection h with h1 h2 h3
        subst h1 h2
        exact .base (.ins upd_same cl ha hn htk hm)
      · exact .base (.ins (by rw [upd_ne hap]; exact h) cl ha hn htk hm)
  | byt b => exact .byt b
  | set h => exact .set (mv h (by intro q; cases q))
  | kList h c => exact .kList h c
  | kTuple h c => exact .kTuple h c
  | kDict h c => exact .kDict h c
  | fTuple h => exact .fTuple (mv h (by intro q; cases q))
  | fDict h => exact .fDict (mv h (by intro q; cases q))
theorem num_upd {x : V} {o : Option Int} (hp : H p = some (.ins C dx fs)) (h : NumV K H x o) : NumV K (upd H p (.ins C dx fs')) x o := by
  cases h with
  | int z => exact .int z
  | odd h n => exact .odd (ty_upd hp h) n
theorem sz_upd {x : V} {n : Nat} {o : Option (Nat × Nat)} (hp : H p = some (.ins C dx fs)) (h : SzAt K H x n o) : SzAt K (upd H p (.ins C dx fs')) x n o := by
  induction h with
  | zero => exact .zero
  | kind h k => exact .kind (ty_upd hp h) k
  | empty h => exact .empty (sqt_upd hp h)
  | head h ht k => exact .head (sqt_upd hp h) (ty_upd hp ht) k
  | leaf hs h ok => exact .leaf hs (sqt_upd hp h) ok
  | leafLen hs h l => exact .leafLen hs (sqt_upd hp h) l
  | leafNum hs h hx no => exact .leafNum hs (sqt_upd hp h) (num_upd hp hx) no
  | word hs h l => exact .word hs (sqt_upd hp h) l
  | byBad h hb no => exact .byBad (sqt_upd hp h) (num_upd hp hb) no
  | behind h ok _ i => exact .behind (sqt_upd hp h) ok i
  | pairNo hs h _ i => exact .pairNo hs (sqt_upd hp h) i
  | pair hs h _ hl _ i j => exact .pair hs (sqt_upd hp h) i hl j
end
end WF

set_option Elab.async false
set_option linter.all false
set_option maxRecDepth 100000
set_option maxHeartbeats 400000
/-! WProp: properties of own classes -/
namespace WF
open PySem L2 Evl
structure PropAt (K : PySem.W.Frag) (C : Addr) (f qual : Str) (st : Stmt) : Prop where
  ex : ∃ (p g : Addr) (fd : FuncData), PropOf K C f p g ∧ Fun K f qual st g fd ∧ Binds K fd ["self"] []
structure Prn (P : Program) (w : World) (K : PySem.W.Frag) (mg : Str → Option Value) (base : Heap) (C : Addr) (f : Str) (k : Nat) (sp : Sp) : Prop where
  ex : ∃ (p g : Addr) (fd : FuncData), PropOf K C f p g ∧ FnOk P w K mg base CX0 k g fd ["self"] sp ∧ Binds K fd ["self"] []
theorem PropAt.prn {P : Program} {w : World} {K : PySem.W.Frag} {mg : Str → Option Value} {base : Heap} {C : Addr} {f qual : Str} {k : Nat} {sp : Sp} {st : Stmt} (F : PropAt K C f qual st) (h : ∀ g fd, Fun K f qual st g fd → FnOk P w K mg base CX0 k g fd ["self"] sp) : Prn P w K mg base C f k sp := by
  obtain ⟨p, g, fd, h1, h2, h3⟩ := F.ex
  exact ⟨p, g, fd, h1, h g fd h2, h3⟩
section
variable {X : Cx} {C : Addr} {f : Str} {k : Nat} {sp : Sp} {e : Expr} {pos : Pos} {ta : TE}
theorem pe_prp (R : Prn X.prog X.w X.K X.mg X.base C f k sp) (he : PE X e ta) (c : Cls X.K C) (hr : Room (k + 1) X.A) (hab : attributeBase e f X.env (eval e X.env) = eval e X.env) : PE X (.Attribute e f pos) (tProp C sp [] E0 ta) := by
  obtain ⟨p, g, fd, h1, h2, h3⟩ := R.ex
  exact pe_prop he c h1 h2 hr h3 .nil pass0 hab
end
theorem ev_prp {σ : L2.St} {H : Hp} {ta : TE} {C a dx : Addr} {fs : List (Str × V)} {sp : Sp} {E : XK} {z : V} (h : Ev ta σ H (.ref a)) (ho : H a = some (.ins C dx fs)) (k : ∀ H1, Ex H H1 → ∀ (Q : VK) (E : XK), RetV z H1 Q → sp [.ref a] H1 Q E) : Ev (tProp C sp [] E ta) σ H z := fun H1 e Q q =>
  h H1 e _ fun H2 e2 => ⟨a, dx, fs, rfl, e2 _ _ (e _ _ ho), k H2 (e.trans e2) Q E fun H3 e3 => q H3 (e2.trans e3)⟩
end WF

set_option Elab.async false
set_option linter.all false
set_option maxRecDepth 100000
set_option maxHeartbeats 2000000
/-! WDraw: the drawn numbers' list; what stands when lists change -/
namespace WF
open PySem L2 Evl
/-- the list that numbers are drawn from -/
def Good (xs : List V) : Prop := ∃ (s r : Int) (bs : List Int), xs = .int s :: .int r :: bs.map V.int ∧ 0 ≤ s ∧ s < 2147483647 ∧ 0 ≤ r ∧ (∀ b ∈ bs, 0 ≤ b) ∧ bs.length ≤ 100
theorem Good.len {xs : List V} (h : Good xs) : 2 ≤ xs.length ∧ xs.length ≤ 102 := by
  obtain ⟨s, r, bs, rfl, _, _, _, _, h⟩ := h
  simp
  omega
/-- all that is no list stands -/
def KeepN (H H' : Hp) : Prop := ∀ b o, (∀ xs, o ≠ .lst xs) → H b = some o → H' b = some o
theorem KeepN.refl (H : Hp) : KeepN H H := fun _ _ _ h => h
theorem KeepN.of {H H' : Hp} (e : Ex H H') : KeepN H H' := fun b o _ h => e b o h
theorem KeepN.trans {H H1 H2 : Hp} (a : KeepN H H1) (b : KeepN H1 H2) : KeepN H H2 := fun c o n h => b c o n (a c o n h)
theorem ExB.kn {d : Addr} {H H' : Hp} {xs : List V} (e : ExB d H H') (h : H d = some (.lst xs)) : KeepN H H' := fun b o n q => e b o (fun z => by
  subst z
  rw [h] at q
  exact n xs (Option.some.inj q).symm) q
section
variable {K : PySem.W.Frag} {H H' : Hp} {a l d CF CC : Addr} {xs : List V} {v x : V}
theorem sqt_kn (e : KeepN H H') (h : SqT K H a xs) : SqT K H' a xs := by
  rcases h with (h | ⟨o, h⟩) | h
  · exact .inl (.inl (e _ _ (fun _ q => nomatch q) h))
  · exact .inl (.inr ⟨o, e _ _ (fun _ q => nomatch q) h⟩)
  · exact .inr h
theorem sql_but (e : ExB d H H') (hne : l ≠ d) (h : SqL K H l xs) : SqL K H' l xs := by
  rcases h with (h | ⟨o, h⟩) | h
  · exact .inl (.inl (e _ _ hne h))
  · exact .inl (.inr ⟨o, e _ _ hne h⟩)
  · exact .inr h
theorem RlAt.kn {r : Rl} (e : KeepN H H') (h : RlAt K H v r) : RlAt K H' v r := by
  induction h with
  | wk h => exact .wk (sqt_kn e h)
  | fs h => exact .fs (sqt_kn e h)
  | md h => exact .md (sqt_kn e h)
  | bh h _ i => exact .bh (sqt_kn e h) i
  | bo h _ _ i j => exact .bo (sqt_kn e h) i j
  | ei h _ _ i j => exact .ei (sqt_kn e h) i j
  | wo h _ _ i j => exact .wo (sqt_kn e h) i j
theorem FeastAt.kn {r : Rl} (e : KeepN H H') (h : FeastAt K CF H a r) : FeastAt K CF H' a r := by
  obtain ⟨dx, v, h1, h2⟩ := h
  exact ⟨dx, v, e _ _ (fun _ q => nomatch q) h1, h2.kn e⟩
theorem RowAt.kn {r : Rl × Bool} (e : KeepN H H') (h : RowAt K CF H x r) : RowAt K CF H' x r := by
  obtain ⟨p, q, h0, h1, h2⟩ := h
  exact ⟨p, q, h0, sqt_kn e h1, h2.kn e⟩
theorem RowsL.kn (e : KeepN H H') : ∀ {xs : List V} {rs : Rows}, RowsL K CF H xs rs → RowsL K CF H' xs rs
  | [], [], _ => trivial
  | _ :: _, _ :: _, h => ⟨h.1.kn e, RowsL.kn e h.2⟩
  | [], _ :: _, h => h
  | _ :: _, [], h => h
theorem RowsAt.kn {rs : Rows} (e : KeepN H H') (h : RowsAt K CF H v rs) : RowsAt K CF H' v rs := by
  obtain ⟨a, xs, h0, h1, h2⟩ := h
  exact ⟨a, xs, h0, sqt_kn e h1, h2.kn e⟩
theorem CalAt.kn {rs : Rows} (e : KeepN H H') (h : CalAt K CF CC H v rs) : CalAt K CF CC H' v rs := by
  obtain ⟨c, dx, rv, h0, h1, h2⟩ := h
  exact ⟨c, dx, rv, h0, e _ _ (fun _ q => nomatch q) h1, h2.kn e⟩
end
/-- a raw row: a pair of a rule and a truth -/
def RawAt (K : PySem.W.Frag) (H : Hp) (x : V) (r : Rl × Bool) : Prop := ∃ p v, x = .ref p ∧ SqT K H p [v, .bl r.2] ∧ RlAt K H v r.1
def RawL (K : PySem.W.Frag) (H : Hp) : List V → Rows → Prop
  | [], [] => True
  | x :: xs, r :: rs => RawAt K H x r ∧ RawL K H xs rs
  | _, _ => False
section
variable {K : PySem.W.Frag} {H H' : Hp} {x : V}
theorem RawAt.kn {r : Rl × Bool} (e : KeepN H H') (h : RawAt K H x r) : RawAt K H' x r := by
  obtain ⟨p, v, h0, h1, h2⟩ := h
  exact ⟨p, v, h0, sqt_kn e h1, h2.kn e⟩
theorem RawL.kn (e : KeepN H H') : ∀ {xs : List V} {rs : Rows}, RawL K H xs rs → RawL K H' xs rs
  | [], [], _ => trivial
  | _ :: _, _ :: _, h => ⟨h.1.kn e, RawL.kn e h.2⟩
  | [], _ :: _, h => h
  | _ :: _, [], h => h
theorem RawL.len : ∀ {xs : List V} {rs : Rows}, RawL K H xs rs → xs.length = rs.length
  | [], [], _ => rfl
  | _ :: _, _ :: _, h => congrArg (· + 1) (RawL.len h.2)
  | [], _ :: _, h => h.elim
  | _ :: _, [], h => h.elim
theorem RawL.get : ∀ {xs : List V} {rs : Rows} {i : Nat} {x : V}, RawL K H xs rs → xs[i]? = some x → ∃ r, rs[i]? = some r ∧ RawAt K H x r
  | _ :: _, r :: _, 0, _, h, e => ⟨r, rfl, by cases e; exact h.1⟩
  | _ :: xs, _ :: rs, i + 1, x, h, e => RawL.get (xs := xs) (rs := rs) (i := i) (x := x) h.2 e
  | [], [], i, x, _, e => by simp at e
  | [], _ :: _, _, _, h, _ => h.elim
  | _ :: _, [], _, _, h, _ => h.elim
theorem RawL.snoc : ∀ {xs : List V} {rs : Rows} {x : V} {r : Rl × Bool}, RawL K H xs rs → RawAt K H x r → RawL K H (xs ++ [x]) (rs ++ [r])
  | [], [], _, _, _, h => ⟨h, trivial⟩
  | _ :: _, _ :: _, _, _, h, g => ⟨h.1, RawL.snoc h.2 g⟩
  | [], _ :: _, _, _, h, _ => h.elim
  | _ :: _, [], _, _, h, _ => h.elim
end
section
variable {K : PySem.W.Frag} {σ : L2.St} {H H' : Hp} {ta tb tc te tv : TE} {x y z v : V} {r r' : R2} {t u : TT} {D : Ends} {tz : TS}
theorem ev_int1 {i : Int} (h : Ev ta σ H (.int i)) : Ev (tCB (fun xs H Q => (∃ i, xs = [.int i] ∧ Q (.int i) H) ∨ ∃ k, xs = [.bl k] ∧ Q (.int (if k then 1 else 0)) H) (tCons ta tNil)) σ H (.int i) :=
  ev_cb (ea_cons h ea_nil) fun H1 _ Q q => .inl ⟨i, rfl, q H1 (Ex.refl H1)⟩
theorem ev_abs {i : Int} (h : Ev ta σ H (.int i)) : Ev (tCB (fun xs H Q => ∃ i, xs = [.int i] ∧ Q (.int (if i < 0 then -i else i)) H) (tCons ta tNil)) σ H (.int (if i < 0 then -i else i)) :=
  ev_cb (ea_cons h ea_nil) fun H1 _ Q q => ⟨i, rfl, q H1 (Ex.refl H1)⟩
theorem ev_ixL {p : Addr} {xs : List V} {i : Int} (h : Ev ta σ H (.ref p)) (hs : SqL K H p xs) (ha : atI xs i = some v) : Ev (tOp (rIxL K) ta (tC (.int i))) σ H v := ev_op h ev_c (rv_ixL hs ha)
theorem ev_lenL {p : Addr} {xs : List V} (ha : Ev ta σ H (.ref p)) (h : SqL K H p xs) : Ev (tCB (rLenS K) (tCons ta tNil)) σ H (.int (xs.length : Int)) := fun H1 e Q q =>
  ha H1 e _ fun H2 e2 => ⟨p, xs, rfl, .inl (ex_l (e.trans e2) h), q H2 e2⟩
/-- two new lists, one behind the other -/
theorem el_cat {xs ys : List V} (h1 : EvL ta σ H xs) (h2 : EvL tb σ H ys) (hz : xs.length + ys.length ≤ 100000) : EvL (tOp rCat ta tb) σ H (xs ++ ys) := fun H1 e Q q =>
  h1 H1 e _ fun p H2 hp e2 k1 => h2 H2 (e.trans e2) _ fun p2 H3 hp2 e3 k2 => ⟨p, p2, xs, ys, rfl, rfl, e3 _ _ k1, k2, Evl.sz_of hz, fun p3 hp3 => q p3 _ (fresh_back (e2.trans e3) hp3) ((e2.trans e3).trans (Ex.new hp3)) upd_same⟩
/-- xs[i] = e, a list of the call's own, at a written place -/
theorem s_setI {l : Addr} {xs : List V} {i : Int} {j : Nat} (hl : H l = some (.lst xs)) (h : Ev te σ H v) (ho : Ev ta σ H (.ref l)) (hj : ixN xs.length i = some j) (k : ∀ H1, Ex H H1 → D.nx σ (upd H1 l (.lst (xs.set j v)))) :
    tAsg te (gSub ta (tC (.int i)) rSetL) D σ H := h H (Ex.refl H) _ fun H1 e1 => ho H1 e1 _ fun H2 e2 => ⟨l, xs, i, j, rfl, rfl, (e1.trans e2) _ _ hl, hj, k H2 (e1.trans e2)⟩
theorem q_setI {l : Addr} {xs : List V} {i : Int} {j : Nat} (hl : H l = some (.lst xs)) (h : Ev te σ H v) (ho : Ev ta σ H (.ref l)) (hj : ixN xs.length i = some j) (k : ∀ H1, Ex H H1 → tz D σ (upd H1 l (.lst (xs.set j v)))) :
    tSeq (tAsg te (gSub ta (tC (.int i)) rSetL)) tz D σ H := s_setI (D := { D with nx := tz D }) hl h ho hj k
/-! what is handed on by the readings themselves -/
theorem call_ev {sp : Sp} {E : XK} {ta : TA} {vs : List V} {Q : VK} (h : EvA ta σ H vs) (k : ∀ H1, Ex H H1 → sp vs H1 Q E) : tCall sp [] E ta σ H Q := h H (Ex.refl H) _ fun H1 e => by
  rw [List.append_nil]
  exact k H1 e
theorem q_asgX {i : Nat} (h : te σ H fun x H1 => tz D (σ.set i (some x)) H1) : tSeq (tAsg te (gName i)) tz D σ H := h
theorem s_asgX {i : Nat} (h : te σ H fun x H1 => D.nx (σ.set i (some x)) H1) : tAsg te (gName i) D σ H := h
theorem s_retX (h : te σ H D.rt) : tRet te D σ H := h
theorem q_ifX {tu tw : TS} (h : t σ H fun b H1 => if b = true then tu { D with nx := tz D } σ H1 else tw { D with nx := tz D } σ H1) : tSeq (tIfS t tu tw) tz D σ H := h
/-- a call's answer compared -/
theorem t_cmpX {b : V} {Q : Bool → Hp → Prop} (h : ta σ H fun x H1 => scal x b = true ∧ Q (decide (x = b)) H1) (hmono : ∀ Q1 Q2 : VK, (∀ v H1, Q1 v H1 → Q2 v H1) → ta σ H Q1 → ta σ H Q2) : tTest (tOp rEq ta (tC b)) σ H Q :=
  hmono _ _ (fun v H1 h => ⟨h.1, _, rfl, h.2⟩) h
end
/-- all but d and l is kept -/
def ExB2 (d l : Addr) (H H' : Hp) : Prop := ∀ b o, b ≠ d → b ≠ l → H b = some o → H' b = some o
theorem ExB.two {d l : Addr} {H H' : Hp} (e : ExB d H H') : ExB2 d l H H' := fun b o h _ q => e b o h q
theorem ExB.two' {d l : Addr} {H H' : Hp} (e : ExB l H H') : ExB2 d l H H' := fun b o _ h q => e b o h q
theorem ExB2.of {d l : Addr} {H H' : Hp} (e : Ex H H') : ExB2 d l H H' := fun b o _ _ q => e b o q
theorem ExB2.trans {d l : Addr} {H H1 H2 : Hp} (a : ExB2 d l H H1) (b : ExB2 d l H1 H2) : ExB2 d l H H2 := fun c o h g q => b c o h g (a c o h g q)
theorem ExB2.step {d l : Addr} {H H1 H2 : Hp} (a : ExB2 d l H H1) (e : Ex H1 H2) : ExB2 d l H H2 := a.trans (.of e)
theorem ExB2.updL {d l : Addr} {H H' : Hp} {o : HO} (a : ExB2 d l H H') : ExB2 d l H (upd H' l o) := fun b u h g q => by
  rw [upd_ne g]
  exact a b u h g q
theorem ExB2.kn {d l : Addr} {H H' : Hp} {xs ys : List V} (e : ExB2 d l H H') (h : H d = some (.lst xs)) (g : H l = some (.lst ys)) : KeepN H H' := fun b o n q => e b o (fun z => by
  subst z
  rw [h] at q
  exact n xs (Option.some.inj q).symm) (fun z => by
  subst z
  rw [g] at q
  exact n ys (Option.some.inj q).symm) q
/-- l new: all but d of what stood is kept -/
theorem ExB2.one {d l : Addr} {H0 H H' : Hp} (e : ExB2 d l H H') (e0 : Ex H0 H) (h : H0 l = none) : ExB d H0 H' := fun b o hb q => e b o hb (ne_of_none q h) (e0 b o q)
theorem ExB.mut {d p : Addr} {H H' : Hp} {o : HO} (e : ExB d H H') (h : H p = none) : ExB d H (L2.upd H' p o) := fun b u hb q => by
  rw [upd_ne (ne_of_none q h)]
  exact e b u hb q
theorem KeepN.lst {H H' : Hp} {p : Addr} {xs ys : List V} (e : KeepN H H') (h : H p = some (.lst xs)) : KeepN H (upd H' p (.lst ys)) := fun b o n q => by
  have hb : b ≠ p := fun z => by
    rw [z, h] at q
    exact n xs (Option.some.inj q).symm
  rw [upd_ne hb]
  exact e b o n q
section
variable {K : PySem.W.Frag} {σ : L2.St} {H H' : Hp} {ta tb tc te tv : TE} {x y z v : V} {r r' : R2} {t u : TT} {D : Ends} {tz : TS}
/-- a comprehension over a list of pairs, whose elements are made: R tells of each -/
theorem er_lst2X {a : Addr} {xs : List V} {tl : TE} {j k : Nat} {vs : List Nat} (A B : Nat → V) (R : Nat → V → Hp → Prop) (hR : ∀ i y H1 H2, KeepN H1 H2 → R i y H1 → R i y H2) (h : Ev tl σ H (.ref a)) (hx : SqL K H a xs) (hz : xs.length ≤ 40000)
    (hw : ∀ x y, wipe (((wipe σ vs).set j (some x)).set k (some y)) vs = wipe σ vs) (hp : ∀ (i : Nat) (x : V), xs[i]? = some x → ∃ p, x = .ref p ∧ SqT K H p [A i, B i])
    (he : ∀ (i : Nat) H1, Ex H H1 → i < xs.length → ∀ Q : VK, (∀ y H2, Ex H1 H2 → R i y H2 → Q y H2) → te (((wipe σ vs).set j (some (A i))).set k (some (B i))) H1 Q) :
    EvR (tLc (iList K tl) (gTup K 2 (gCons (gName j) (gCons (gName k) gNil))) tYes te vs) σ H fun p H2 => ∃ ys, H2 p = some (.lst ys) ∧ ys.length = xs.length ∧ ∀ i y, ys[i]? = some y → R i y H2 := by
  intro H0 e Q q
  refine h H0 e _ fun H1 e1 => ⟨a, rfl, ⟨xs, ex_l (e.trans e1) hx⟩, fun Dl hD => ?_⟩
  refine lc_list (xs := xs) (fun i H' => Ex H1 H' ∧ ∃ ys, H' Dl = some (.lst ys) ∧ ys.length = i ∧ ∀ j y, ys[j]? = some y → R j y H') ⟨Ex.new hD, [], upd_same, rfl, fun j y z => by simp at z⟩ (fun i H' _ p => ex_l ((e.trans e1).trans p.1) hx) (fun i x H' hi p => ?_)
    fun H' p => q Dl H' (fresh_back e1 hD) (e1.trans p.1) p.2
  obtain ⟨p1, ys, p2, p3, p4⟩ := p
  have hlt := (List.getElem?_eq_some_iff.mp hi).1
  obtain ⟨r, rfl, hr⟩ := hp i x hi
  refine ⟨_, _, rfl, ex_t ((e.trans e1).trans p1) hr, rfl, _, _, rfl, _, _, rfl, rfl, hw _ _, ?_⟩
  refine he i H' ((e.trans e1).trans p1) hlt _ fun y H4 e4 hy => ⟨ys, e4 _ _ p2, by rw [p3]; exact Evl.sz_lt (by omega), Ex.mut (p1.trans e4) hD, ys ++ [y], upd_same, by rw [List.length_append, p3]; rfl, fun j z hz => ?_⟩
  have kn : KeepN H4 (upd H4 Dl (.lst (ys ++ [y]))) := (KeepN.refl H4).lst (e4 _ _ p2)
  rcases Nat.lt_or_ge j ys.length with hj | hj
  · rw [List.getElem?_append_left hj] at hz
    exact hR j z _ _ ((KeepN.of e4).trans kn) (p4 j z hz)
  · rw [List.getElem?_append_right hj] at hz
    have : j - ys.length = 0 := by
      rcases Nat.eq_zero_or_pos (j - ys.length) with h | h
      · exact h
      · rw [List.getElem?_eq_none (by simp; omega)] at hz
        cases hz
    rw [this] at hz
    cases hz
    have : j = i := by omega
    subst this
    exact hR j y _ _ kn hy
/-- tuple(a new list) -/
theorem er_tuple {S : List V → Hp → Prop} (hS : ∀ ys H1 H2, KeepN H1 H2 → S ys H1 → S ys H2) (h : EvR ta σ H fun p H2 => ∃ ys, H2 p = some (.lst ys) ∧ S ys H2) :
    EvR (tCB (fun xs H Q => ∃ p ys, xs = [.ref p] ∧ ((SqL K H p ys ∧ ∀ l, H l = none → Q (.ref l) (upd H l (.tup ys))) ∨ (SqT K H p ys ∧ Q (.ref p) H))) (tCons ta tNil)) σ H fun p H2 => ∃ ys, H2 p = some (.tup ys) ∧ S ys H2 := fun H1 e Q q =>
  h H1 e _ fun p H2 hp e2 ⟨ys, h2, hs⟩ => ⟨p, ys, rfl, .inl ⟨sq_of h2, fun l hl => q l _ (fresh_back e2 hl) (e2.trans (Ex.new hl)) ⟨ys, upd_same, hS ys _ _ (KeepN.of (Ex.new hl)) hs⟩⟩⟩
theorem RawL.fn {xs : List V} {rows : Rows} (h : RawL K H xs rows) (d : Rl × Bool) : ∃ q : Nat → V, ∀ i x, xs[i]? = some x → ∃ p, x = .ref p ∧ SqT K H p [q i, .bl (rows.getD i d).2] ∧ RlAt K H (q i) (rows.getD i d).1 := by
  have : ∀ i, ∃ q : V, ∀ x, xs[i]? = some x → ∃ p, x = .ref p ∧ SqT K H p [q, .bl (rows.getD i d).2] ∧ RlAt K H q (rows.getD i d).1 := fun i => by
    cases e : xs[i]? with
    | none => exact ⟨.non, fun x hx => nomatch hx⟩
    | some y =>
      obtain ⟨r, hr, p, q, h0, h1, h2⟩ := h.get e
      refine ⟨q, fun x hx => ?_⟩
      cases hx
      have : rows.getD i d = r := by rw [List.getD_eq_getElem?_getD, hr]; rfl
      rw [this]
      exact ⟨p, h0, h1, h2⟩
  exact Classical.axiomOfChoice this
theorem rowsL_of {CF : Addr} (d : Rl × Bool) : ∀ {ys : List V} {rows : Rows}, ys.length = rows.length → (∀ i y, ys[i]? = some y → RowAt K CF H y (rows.getD i d)) → RowsL K CF H ys rows
  | [], [], _, _ => trivial
  | y :: ys, r :: rows, hl, h => ⟨h 0 y rfl, rowsL_of d (by simpa using hl) fun i y hy => h (i + 1) y hy⟩
  | [], _ :: _, hl, _ => by simp at hl
  | _ :: _, [], hl, _ => by simp at hl
end
/-- rows that may stand: bys 4 at most in all, each rule fit and of at most n parts -/
structure RowsOk (n : Nat) (rows : Rows) : Prop where
  bys : rowsBys rows ≤ 4
  fit : ∀ r ∈ rows, r.1.fit = true ∧ r.1.parts ≤ n
theorem bys_le : ∀ {rows : Rows} {r : Rl × Bool}, r ∈ rows → r.1.bys ≤ rowsBys rows
  | a :: rows, r, h => by
    unfold rowsBys
    rw [List.map_cons, List.sum_cons]
    rcases List.mem_cons.mp h with rfl | h
    · omega
    · have := bys_le h
      unfold rowsBys at this
      omega
theorem getD_mem {rows : Rows} {d : Rl × Bool} {i : Nat} (h : i < rows.length) : rows.getD i d ∈ rows := by
  rw [List.getD_eq_getElem?_getD, List.getElem?_eq_getElem h]
  exact List.getElem_mem h
theorem RowsOk.dep {n : Nat} {rows : Rows} (h : RowsOk n rows) (hn : n ≤ 5) : depMax rows < 5 := by
  have : ∀ rows : Rows, (∀ r ∈ rows, r.1.parts ≤ 5) → depMax rows < 5 := by
    intro rows
    induction rows with
    | nil => intro _; exact (by decide : 0 < 5)
    | cons r rows ih =>
      intro h
      have h1 := h r List.mem_cons_self
      have h2 := dep_parts r.1
      have h3 := ih fun r hr => h r (List.mem_cons_of_mem _ hr)
      show max r.1.dep (depMax rows) < 5
      omega
  exact this rows fun r hr => Nat.le_trans (h.fit r hr).2 hn
end WF

set_option Elab.async false
set_option linter.all false
set_option maxRecDepth 100000
set_option maxHeartbeats 2000000
/-! WDict: comprehensions whose elements are made, over anything; dicts whose keys are days -/
namespace WF
open PySem L2 Evl
/-! ### comprehensions, once for all that is walked -/
def Sel (f : Nat → Bool) (R : Nat → V → Hp → Prop) (n : Nat) (ys : List V) (H : Hp) : Prop := ys.length = ((List.range n).filter f).length ∧ ∀ (k i : Nat) (y : V), ((List.range n).filter f)[k]? = some i → ys[k]? = some y → R i y H
theorem sel_yes {f : Nat → Bool} {R : Nat → V → Hp → Prop} {n : Nat} {ys : List V} {H H' : Hp} {y : V} (hR : ∀ i y H1 H2, KeepN H1 H2 → R i y H1 → R i y H2) (h : Sel f R n ys H) (hf : f n = true) (e : KeepN H H') (hy : R n y H') : Sel f R (n + 1) (ys ++ [y]) H' := by
  have hr : (List.range (n + 1)).filter f = (List.range n).filter f ++ [n] := by
    rw [List.range_succ, List.filter_append, List.filter_cons, if_pos hf]
    rfl
  refine ⟨by rw [hr, List.length_append, List.length_append, h.1]; rfl, fun k i z hk hz => ?_⟩
  rw [hr] at hk
  rcases Nat.lt_or_ge k ys.length with hlt | hge
  · rw [List.getElem?_append_left (by rw [← h.1]; exact hlt)] at hk
    rw [List.getElem?_append_left hlt] at hz
    exact hR i z _ _ e (h.2 k i z hk hz)
  · rw [List.getElem?_append_right (by rw [← h.1]; exact hge)] at hk
    rw [List.getElem?_append_right hge] at hz
    rw [← h.1] at hk
    have h0 : k - ys.length = 0 := by
      rcases Nat.eq_zero_or_pos (k - ys.length) with q | q
      · exact q
      · rw [List.getElem?_eq_none (by simp; omega)] at hz
        cases hz
    rw [h0] at hk hz
    cases hk
    cases hz
    exact hy
theorem sel_no {f : Nat → Bool} {R : Nat → V → Hp → Prop} {n : Nat} {ys : List V} {H H' : Hp} (hR : ∀ i y H1 H2, KeepN H1 H2 → R i y H1 → R i y H2) (h : Sel f R n ys H) (hf : f n = false) (e : KeepN H H') : Sel f R (n + 1) ys H' := by
  have hr : (List.range (n + 1)).filter f = (List.range n).filter f := by
    rw [List.range_succ, List.filter_append, List.filter_cons, if_neg (by rw [hf]; exact Bool.false_ne_true)]
    exact List.append_nil _
  unfold Sel
  rw [hr]
  exact ⟨h.1, fun k i z hk hz => hR i z _ _ e (h.2 k i z hk hz)⟩
theorem lcX {J : It} {n : Nat} {G : Hp → Prop} {X : Nat → V} (wk : Walk J n G (YFn X)) {σ : L2.St} {H1 : Hp} {j : Nat} {vs : List Nat} {tt : TT} {te : TE} (f : Nat → Bool) (R : Nat → V → Hp → Prop) (hR : ∀ i y H1 H2, KeepN H1 H2 → R i y H1 → R i y H2) (hG : ∀ H', Ex H1 H' → G H') (hn : n ≤ 40000)
    (hw : ∀ x, wipe ((wipe σ vs).set j (some x)) vs = wipe σ vs) (ht : ∀ (i : Nat) H2, Ex H1 H2 → i < n → EvT tt ((wipe σ vs).set j (some (X i))) H2 (f i))
    (he : ∀ (i : Nat) H2, Ex H1 H2 → i < n → f i = true → ∀ Q : VK, (∀ y H3, Ex H2 H3 → R i y H3 → Q y H3) → te ((wipe σ vs).set j (some (X i))) H2 Q) (Q : VK) (q : ∀ Dl H', H1 Dl = none → Ex H1 H' → (∃ ys, H' Dl = some (.lst ys) ∧ Sel f R n ys H') → Q (.ref Dl) H') :
    ∀ Dl, H1 Dl = none → ∃ W : Nat → Nat → Hp → Prop, (∃ m, W 0 m (upd H1 Dl (.lst []))) ∧ ∀ i m H, W i m H →
      (J.stop i H ∧ Q (.ref Dl) H) ∨ (J.go i H ∧ ∃ Nx : Hp → Prop, (∀ H', Nx H' → ∃ m', m' < m ∧ W (i + 1) m' H') ∧ ∀ x H', J.yld i H x H' → gName j x (wipe σ vs) H' fun σ2 H2 => wipe σ2 vs = wipe σ vs ∧ tt σ2 H2 fun b H3 =>
        if b = true then te σ2 H3 fun y H4 => ∃ acc, H4 Dl = some (.lst acc) ∧ acc.length < sizeLine ∧ Nx (upd H4 Dl (.lst (acc ++ [y]))) else Nx H3) := by
  intro Dl hD
  refine lc_it wk (fun i H' => Ex H1 H' ∧ ∃ ys, H' Dl = some (.lst ys) ∧ Sel f R i ys H') ⟨Ex.new hD, [], upd_same, rfl, fun k i y hk hy => by simp at hk⟩ (fun i H' _ p => hG H' p.1) (fun i x H' H2 hi p y => ?_) fun H' p => q Dl H' hD p.1 p.2
  obtain ⟨rfl, rfl⟩ := y
  obtain ⟨p1, ys, p2, p3⟩ := p
  refine ⟨hw _, ht i _ p1 hi _ (Ex.refl _) _ fun H3 e3 => ?_⟩
  cases hf : f i with
  | true =>
    refine he i H3 (p1.trans e3) hi hf _ fun y H4 e4 hy => ⟨ys, e4 _ _ (e3 _ _ p2), ?_, Ex.mut ((p1.trans e3).trans e4) hD, ys ++ [y], upd_same, ?_⟩
    · have h1 := List.length_filter_le f (List.range i)
      rw [List.length_range] at h1
      have h2 := p3.1
      exact Evl.sz_lt (by omega)
    · have kn : KeepN H4 (upd H4 Dl (.lst (ys ++ [y]))) := (KeepN.refl H4).lst (e4 _ _ (e3 _ _ p2))
      exact sel_yes hR p3 hf ((KeepN.of (e3.trans e4)).trans kn) (hR _ _ _ _ kn hy)
  | false => exact ⟨p1.trans e3, ys, e3 _ _ p2, sel_no hR p3 hf (KeepN.of e3)⟩
/-! ### pairs of a day and True -/
def PairsL (K : PySem.W.Frag) (H : Hp) (ys : List V) (es : List Int) : Prop := ∃ ps : List Addr, ys = ps.map V.ref ∧ Paired (fun p (e : Int) => SqT K H p [.int e, .bl true]) ps es
theorem pairs_of {K : PySem.W.Frag} {H : Hp} : ∀ {ys : List V} {es : List Int}, ys.length = es.length → (∀ (k : Nat) y e, ys[k]? = some y → es[k]? = some e → ∃ p, y = .ref p ∧ SqT K H p [.int e, .bl true]) → PairsL K H ys es
  | [], [], _, _ => ⟨[], rfl, .nil⟩
  | y :: ys, e :: es, hl, h => by
    obtain ⟨p, rfl, hp⟩ := h 0 y e rfl rfl
    obtain ⟨ps, rfl, hps⟩ := pairs_of (ys := ys) (es := es) (by simpa using hl) fun k z c hz hc => h (k + 1) z c hz hc
    exact ⟨p :: ps, rfl, .cons hp hps⟩
  | [], _ :: _, hl, _ => by simp at hl
  | _ :: _, [], hl, _ => by simp at hl
theorem pairs_sel {K : PySem.W.Frag} {H : Hp} {f : Nat → Bool} {n : Nat} {ys : List V} {e : Nat → Int} (h : Sel f (fun i y H => ∃ p, y = .ref p ∧ SqT K H p [.int (e i), .bl true]) n ys H) : PairsL K H ys (((List.range n).filter f).map e) := by
  refine pairs_of (by rw [List.length_map]; exact h.1) fun k y c hy hc => ?_
  rw [List.getElem?_map] at hc
  cases hi : ((List.range n).filter f)[k]? with
  | none => rw [hi] at hc; cases hc
  | some i =>
    rw [hi] at hc
    cases hc
    exact h.2 k i y hi hy
/-- the dict of days ds, in their order -/
def dk (ds : List Nat) : List (Key × V) := ds.map fun (d : Nat) => ((Sum.inl (d : Int) : Key), V.bl true)
def addD (acc : List Nat) (d : Nat) : List Nat := if d ∈ acc then acc else acc ++ [d]
theorem putK_dk (acc : List Nat) (d : Nat) : putK (dk acc) (Sum.inl (d : Int)) (.bl true) = dk (addD acc d) := by
  have hany : ((dk acc).any fun kv => decide (kv.1 = (Sum.inl (d : Int) : Key))) = decide (d ∈ acc) := by
    rw [Bool.eq_iff_iff, List.any_eq_true, decide_eq_true_iff]
    constructor
    · rintro ⟨kv, h1, h2⟩
      have h2 := of_decide_eq_true h2
      unfold dk at h1
      rw [List.mem_map] at h1
      obtain ⟨c, hc, rfl⟩ := h1
      have : (c : Int) = (d : Int) := Sum.inl.inj h2
      have : c = d := by omega
      exact this ▸ hc
    · intro h
      exact ⟨(Sum.inl (d : Int), .bl true), List.mem_map.mpr ⟨d, h, rfl⟩, decide_eq_true rfl⟩
  unfold putK addD
  rw [hany]
  by_cases h : d ∈ acc
  · rw [decide_eq_true h, if_pos rfl, if_pos h]
    unfold dk
    rw [List.map_map]
    apply List.map_congr_left
    intro c _
    show (if (Sum.inl (c : Int) : Key) = Sum.inl (d : Int) then ((Sum.inl (c : Int) : Key), V.bl true) else (Sum.inl (c : Int), V.bl true)) = _
    split <;> rfl
  · rw [decide_eq_false h, if_neg Bool.false_ne_true, if_neg h]
    unfold dk
    rw [List.map_append]
    rfl
theorem addD_mem {acc : List Nat} {d x : Nat} : x ∈ addD acc d ↔ x ∈ acc ∨ x = d := by
  unfold addD
  by_cases h : d ∈ acc
  · rw [if_pos h]
    constructor
    · exact .inl
    · rintro (h' | rfl)
      · exact h'
      · exact h
  · rw [if_neg h]; simp
theorem addD_nodup {acc : List Nat} {d : Nat} (h : acc.Nodup) : (addD acc d).Nodup := by
  unfold addD
  by_cases hd : d ∈ acc
  · rw [if_pos hd]; exact h
  · rw [if_neg hd]
    refine List.nodup_append.mpr ⟨h, by simp, fun a ha b hb => ?_⟩
    simp at hb
    subst hb
    exact fun e => hd (e ▸ ha)
theorem merge_dk : ∀ (es : List Nat) (acc : List Nat), mergeK (dk acc) (dk es) = dk (es.foldl addD acc)
  | [], _ => rfl
  | e :: es, acc => by
    show mergeK (putK (dk acc) (Sum.inl (e : Int)) (.bl true)) (dk es) = _
    rw [putK_dk, merge_dk es]
    rfl
theorem fold_mem : ∀ (es acc : List Nat) (x : Nat), x ∈ es.foldl addD acc ↔ x ∈ acc ∨ x ∈ es
  | [], _, _ => by simp
  | e :: es, acc, x => by
    rw [List.foldl_cons, fold_mem es, addD_mem, List.mem_cons]
    exact or_assoc
theorem fold_nodup : ∀ (es acc : List Nat), acc.Nodup → (es.foldl addD acc).Nodup
  | [], _, h => h
  | e :: es, acc, h => fold_nodup es _ (addD_nodup h)
/-- the days of a round by p, as a dict's keys -/
structure DaysOk (N : Nat) (p : Int → Bool) (ds : List Nat) : Prop where
  nd : ds.Nodup
  mem : ∀ d : Nat, d ∈ ds ↔ d < N ∧ p (d : Int) = true
theorem DaysOk.len {N : Nat} {p : Int → Bool} {ds : List Nat} (h : DaysOk N p ds) : ds.length = (daysN N p).length :=
  nodup_len h.nd (daysN_nodup N p) fun x => by rw [h.mem, daysN_mem]
theorem DaysOk.le {N : Nat} {p : Int → Bool} {ds : List Nat} (h : DaysOk N p ds) : ds.length ≤ N := by
  rw [h.len]
  exact daysN_len N p
theorem dk_get {ds : List Nat} {d : Nat} : (valV (dk ds) (Sum.inl (d : Int))).isSome = decide (d ∈ ds) := by
  rw [← valV_any, Bool.eq_iff_iff, List.any_eq_true, decide_eq_true_iff]
  constructor
  · rintro ⟨kv, h1, h2⟩
    have h2 := of_decide_eq_true h2
    unfold dk at h1
    rw [List.mem_map] at h1
    obtain ⟨c, hc, rfl⟩ := h1
    have : (c : Int) = (d : Int) := Sum.inl.inj h2
    have : c = d := by omega
    exact this ▸ hc
  · intro h
    exact ⟨(Sum.inl (d : Int), .bl true), List.mem_map.mpr ⟨d, h, rfl⟩, decide_eq_true rfl⟩
section
variable {K : PySem.W.Frag} {σ : L2.St} {H H' : Hp} {ta tb tc te tv : TE} {x y z v : V} {r r' : R2} {t u : TT} {D : Ends} {tz : TS}
/-- dict(a new list of such pairs) -/
theorem er_dict {es : List Nat} (h : EvR ta σ H fun p H2 => ∃ ys, H2 p = some (.lst ys) ∧ PairsL K H2 ys (es.map fun (d : Nat) => (d : Int))) :
    EvR (tCB (fun xs H Q => ∃ (a : Addr) (ps : List Addr) (kvs : List (Key × V)), xs = [.ref a] ∧ SqL K H a (ps.map V.ref) ∧ Paired (fun p kv => SqT K H p [kV kv.1, kv.2]) ps kvs ∧ ∀ p, H p = none → Q (.ref p) (upd H p (.dK (mergeK [] kvs)))) (tCons ta tNil)) σ H
      fun p H2 => H2 p = some (.dK (dk (es.foldl addD []))) := fun H1 e Q q =>
  h H1 e _ fun p H2 hp e2 ⟨ys, h2, ps, hy, hps⟩ => by
    subst hy
    have hpk : Paired (fun p (kv : Key × V) => SqT K H2 p [kV kv.1, kv.2]) ps (dk es) := by
      have : ∀ {ps : List Addr} {es : List Nat}, Paired (fun p (e : Int) => SqT K H2 p [.int e, .bl true]) ps (es.map fun (d : Nat) => (d : Int)) → Paired (fun p (kv : Key × V) => SqT K H2 p [kV kv.1, kv.2]) ps (dk es) := by
        intro ps
        induction ps with
        | nil =>
          intro es h
          cases es with
          | nil => exact .nil
          | cons a es => cases h
        | cons p ps ih =>
          intro es h
          cases es with
          | nil => cases h
          | cons a es =>
            cases h with
            | cons h1 h2 => exact .cons h1 (ih h2)
      exact this hps
    refine ⟨p, ps, dk es, rfl, sq_of h2, hpk, fun l hl => q l _ (fresh_back e2 hl) (e2.trans (Ex.new hl)) ?_⟩
    have := merge_dk es []
    rw [show dk [] = [] from rfl] at this
    rw [this]
    exact upd_same
theorem tup_V {Q : VK} (ha : Ev ta σ H x) (k : ∀ t H2, Ex H H2 → H2 t = some (.tup [x, .bl true]) → Q (.ref t) H2) : tTup (tCons ta (tCons (tC (.bl true)) tNil)) σ H Q :=
  ha H (Ex.refl H) _ fun H1 e1 => ⟨by show 2 ≤ sizeLine; decide, fun t ht => k t _ (e1.trans (Ex.new ht)) upd_same⟩
theorem pair_kn (e : Int) (i : Nat) (y : V) (H1 H2 : Hp) (kn : KeepN H1 H2) (h : ∃ p, y = .ref p ∧ SqT K H1 p [.int e, .bl true]) : ∃ p, y = .ref p ∧ SqT K H2 p [.int e, .bl true] := by
  obtain ⟨p, h1, h2⟩ := h
  exact ⟨p, h1, sqt_kn kn h2⟩
/-- [(e, True) for x in range(n)] -/
theorem er_pairsR {tA : TA} {j : Nat} {vs : List Nat} {n : Int} (e : Nat → Int) (h : EvA tA σ H [.int n]) (hn : 0 ≤ n ∧ n ≤ 40000) (hw : ∀ x, wipe ((wipe σ vs).set j (some x)) vs = wipe σ vs)
    (he : ∀ (i : Nat) H1, Ex H H1 → (i : Int) < n → Ev te ((wipe σ vs).set j (some (.int (0 + (i : Int))))) H1 (.int (e i))) :
    EvR (tLc (iRng1 tA) (gName j) tYes (tTup (tCons te (tCons (tC (.bl true)) tNil))) vs) σ H fun p H2 => ∃ ys, H2 p = some (.lst ys) ∧ PairsL K H2 ys ((List.range n.toNat).map e) := fun H0 ee Q q => h H0 ee _ fun H1 e1 => ⟨n, rfl, by omega, by omega,
  lcX (walk_range (lo := 0) (n := n.toNat)) (fun _ => true) (fun i y H => ∃ p, y = .ref p ∧ SqT K H p [.int (e i), .bl true]) (fun i y H1 H2 => pair_kn (e i) i y H1 H2) (fun _ _ => trivial) (by omega) hw (fun i H2 e2 hi => et_yes) (fun i H2 e2 hi _ Q q => tup_V (he i H2 ((ee.trans e1).trans e2) (by omega)) fun t H3 e3 ht => q _ H3 e3 ⟨t, rfl, st_of ht⟩) Q fun Dl H' hD e' ⟨ys, h1, h2⟩ => q Dl H' (fresh_back e1 hD) (e1.trans e') ⟨ys, h1, by
    have := pairs_sel h2
    rwa [List.filter_eq_self.mpr (fun _ _ => rfl)] at this⟩⟩
/-- [(e, True) for x in d if t], d a dict of days that stands locked at a -/
theorem er_pairsK {tl : TE} {a : Addr} {od : Obj} {ds : List Nat} {j : Nat} {vs : List Nat} (f : Nat → Bool) (e : Nat → Int) (h : Ev tl σ H (.ref a)) (hd : H a = some (.frz od (.dK (dk ds)))) (hz : ds.length ≤ 40000) (hw : ∀ x, wipe ((wipe σ vs).set j (some x)) vs = wipe σ vs)
    (ht : ∀ (i : Nat) H1, Ex H H1 → i < ds.length → EvT t ((wipe σ vs).set j (some (.int ((ds.getD i 0 : Nat) : Int)))) H1 (f i))
    (he : ∀ (i : Nat) H1, Ex H H1 → i < ds.length → f i = true → Ev te ((wipe σ vs).set j (some (.int ((ds.getD i 0 : Nat) : Int)))) H1 (.int (e i))) :
    EvR (tLc (iKeys tl) (gName j) t (tTup (tCons te (tCons (tC (.bl true)) tNil))) vs) σ H fun p H2 => ∃ ys, H2 p = some (.lst ys) ∧ PairsL K H2 ys (((List.range ds.length).filter f).map e) := fun H0 ee Q q => h H0 ee _ fun H1 e1 => ⟨a, od, rfl, .inl ⟨dk ds, (ee.trans e1) _ _ hd, by
  have wk : Walk (Itk a od (dk ds)) (dk ds).length (fun H => H a = some (.frz od (.dK (dk ds)))) (YFn fun i => .int ((ds.getD i 0 : Nat) : Int)) := (walk_keys (d := a) (o := od) (kvs := dk ds)).mono (fun _ h => h) fun i H x H' hi _ y => by
    obtain ⟨h1, k, v, hk, hx⟩ := y
    refine ⟨h1, ?_⟩
    show x = V.int ((ds.getD i 0 : Nat) : Int)
    unfold dk at hk
    rw [List.getElem?_map] at hk
    rw [List.getD_eq_getElem?_getD]
    cases hi : ds[i]? with
    | none => rw [hi] at hk; cases hk
    | some d =>
      rw [hi] at hk
      cases hk
      exact hx
  have hl : (dk ds).length = ds.length := List.length_map _
  rw [hl] at wk
  refine lcX wk f (fun i y H => ∃ p, y = .ref p ∧ SqT K H p [.int (e i), .bl true]) (fun i y H1 H2 => pair_kn (e i) i y H1 H2) (fun H' e' => ((ee.trans e1).trans e') _ _ hd) hz hw (fun i H2 e2 hi => ht i H2 ((ee.trans e1).trans e2) hi) (fun i H2 e2 hi hf Q q => tup_V (he i H2 ((ee.trans e1).trans e2) hi hf) fun t H3 e3 ht => q _ H3 e3 ⟨t, rfl, st_of ht⟩) Q fun Dl H' hD e' ⟨ys, h1, h2⟩ => q Dl H' (fresh_back e1 hD) (e1.trans e') ⟨ys, h1, pairs_sel h2⟩⟩⟩
/-- a new thing made while the object at d is walked -/
theorem ex_lock {H1 : Hp} {d : Addr} {u : HO} {od : Obj} (e : Ex H H1) : Ex (upd H d (.frz od u)) (upd H1 d (.frz od u)) := fun b o h => by
  by_cases hb : b = d
  · subst hb
    rw [upd_same] at h ⊢
    exact h
  · rw [upd_ne hb] at h ⊢
    exact e _ _ h
theorem ex_unlock {H1 H2 : Hp} {d : Addr} {u : HO} {od : Obj} (hd : H1 d = some u) (e : Ex (upd H1 d (.frz od u)) H2) : Ex H1 (upd H2 d u) := fun b o h => by
  by_cases hb : b = d
  · subst hb
    rw [upd_same, ← h, hd]
  · rw [upd_ne hb]
    refine e _ _ ?_
    rw [upd_ne hb]
    exact h
theorem er_lock {d : Addr} {u : HO} {R R' : Addr → Hp → Prop} (hd : H d = some u) (mu : Mut (some u)) (h : ∀ od, EvR te σ (upd H d (.frz od u)) R) (hR : ∀ od p H2, p ≠ d → H2 d = some (.frz od u) → R p H2 → R' p (upd H2 d u)) : EvR (tLockE te) σ H R' := fun H1 e Q q =>
  ⟨d, u, e _ _ hd, mu, fun od => h od _ (ex_lock e) _ fun p H2 hp e2 hr => by
    have hpd : p ≠ d := fun z => by
      rw [z, upd_same] at hp
      cases hp
    refine ⟨e2 _ _ upd_same, q p _ ?_ (ex_unlock (e _ _ hd) e2) (hR od p H2 hpd (e2 _ _ upd_same) hr)⟩
    rw [upd_ne hpd] at hp
    exact hp⟩
theorem pairs_unlock {d : Addr} {u : HO} {od : Obj} {H2 : Hp} (hu : ∀ xs, u ≠ .tup xs) (h : H2 d = some (.frz od u)) {ys : List V} {es : List Int} (hp : PairsL K H2 ys es) : PairsL K (upd H2 d u) ys es := by
  obtain ⟨ps, h1, h2⟩ := hp
  refine ⟨ps, h1, Paired.mapP h2 fun p e hq => ?_⟩
  rcases hq with (hq | ⟨o, hq⟩) | hq
  · refine .inl (.inl ?_)
    rw [upd_ne (ne_of hq h (by intro z; cases z))]
    exact hq
  · refine .inl (.inr ⟨o, ?_⟩)
    rw [upd_ne (ne_of hq h (by intro z; injection z with z1 z2; exact hu _ z2.symm))]
    exact hq
  · exact .inr hq
/-- [(e, True) for x in a new list of days] -/
theorem er_pairsL {tl : TE} {ds : List Nat} {j : Nat} {vs : List Nat} (e : Nat → Int) (h : EvL tl σ H (ds.map fun (d : Nat) => V.int (d : Int))) (hz : ds.length ≤ 40000) (hw : ∀ x, wipe ((wipe σ vs).set j (some x)) vs = wipe σ vs)
    (he : ∀ (i : Nat) H1, Ex H H1 → i < ds.length → Ev te ((wipe σ vs).set j (some (.int ((ds.getD i 0 : Nat) : Int)))) H1 (.int (e i))) :
    EvR (tLc (iList K tl) (gName j) tYes (tTup (tCons te (tCons (tC (.bl true)) tNil))) vs) σ H fun p H2 => ∃ ys, H2 p = some (.lst ys) ∧ PairsL K H2 ys ((List.range ds.length).map e) := fun H0 ee Q q => h H0 ee _ fun a H1 ha e1 h1 => ⟨a, rfl, ⟨_, sq_of h1⟩, by
  have wk : Walk (Itl K a) (ds.map fun (d : Nat) => V.int (d : Int)).length (fun H => SqL K H a (ds.map fun (d : Nat) => V.int (d : Int))) (YFn fun i => .int ((ds.getD i 0 : Nat) : Int)) := (walk_list (K := K) (a := a) (xs := ds.map fun (d : Nat) => V.int (d : Int))).mono (fun _ h => h) fun i H x H' hi _ y => by
    obtain ⟨h1, hk⟩ := y
    refine ⟨h1, ?_⟩
    show x = V.int ((ds.getD i 0 : Nat) : Int)
    rw [List.getElem?_map] at hk
    rw [List.getD_eq_getElem?_getD]
    cases hi : ds[i]? with
    | none => rw [hi] at hk; cases hk
    | some d =>
      rw [hi] at hk
      exact (Option.some.inj hk).symm
  rw [List.length_map] at wk
  refine lcX wk (fun _ => true) (fun i y H => ∃ p, y = .ref p ∧ SqT K H p [.int (e i), .bl true]) (fun i y H1 H2 => pair_kn (e i) i y H1 H2) (fun H' e' => sq_of (e' _ _ h1)) hz hw (fun i H2 e2 hi => et_yes) (fun i H2 e2 hi _ Q q => tup_V (he i H2 ((ee.trans e1).trans e2) hi) fun t H3 e3 ht => q _ H3 e3 ⟨t, rfl, st_of ht⟩) Q fun Dl H' hD e' ⟨ys, h1, h2⟩ => q Dl H' (fresh_back e1 hD) (e1.trans e') ⟨ys, h1, by
    have := pairs_sel h2
    rwa [List.filter_eq_self.mpr (fun _ _ => rfl)] at this⟩⟩
theorem el_listD {a : Addr} {ds : List Nat} (h : Ev ta σ H (.ref a)) (hd : H a = some (.dK (dk ds))) : EvL (tCB rListD (tCons ta tNil)) σ H (ds.map fun (d : Nat) => V.int (d : Int)) := fun H1 e Q q => h H1 e _ fun H2 e2 => ⟨a, dk ds, rfl, e2 _ _ (e _ _ hd), fun l hl => q l _ (fresh_back e2 hl) (e2.trans (Ex.new hl)) (by
  unfold dk
  rw [List.map_map]
  exact upd_same)⟩
theorem ev_din {a : Addr} {ds : List Nat} {d : Nat} (h : Ev ta σ H (.int (d : Int))) (h2 : Ev tb σ H (.ref a)) (hd : H a = some (.dK (dk ds))) : Ev (tDIn ta tb) σ H (.bl (decide (d ∈ ds))) := fun H1 e Q q =>
  h H1 e _ fun H2 e2 => h2 H2 (e.trans e2) _ fun H3 e3 => ⟨a, _, rfl, DGet.k (k := Sum.inl (d : Int)) (((e.trans e2).trans e3) _ _ hd), by rw [dk_get]; exact q H3 (e2.trans e3)⟩
theorem ev_dnotin {a : Addr} {ds : List Nat} {d : Nat} (h : Ev ta σ H (.int (d : Int))) (h2 : Ev tb σ H (.ref a)) (hd : H a = some (.dK (dk ds))) : Ev (tDNotIn ta tb) σ H (.bl (!decide (d ∈ ds))) := fun H1 e Q q =>
  h H1 e _ fun H2 e2 => h2 H2 (e.trans e2) _ fun H3 e3 => ⟨a, _, rfl, DGet.k (k := Sum.inl (d : Int)) (((e.trans e2).trans e3) _ _ hd), by rw [dk_get]; exact q H3 (e2.trans e3)⟩
end
section
variable {K : PySem.W.Frag} {σ : L2.St} {H H' : Hp} {ta tb tc te tv td : TE} {x y z v : V} {r r' : R2} {t u : TT} {D : Ends} {tz tu : TS}
theorem sqt_other {a d : Addr} {o o' : HO} {xs : List V} (hd : H d = some o) (h1 : ∀ xs, o ≠ .tup xs) (h2 : ∀ ob xs, o ≠ .frz ob (.tup xs)) (h : SqT K H a xs) : SqT K (upd H d o') a xs := by
  rcases h with (h | ⟨ob, h⟩) | h
  · refine .inl (.inl ?_)
    rw [upd_ne (ne_of h hd (fun z => h1 _ z.symm))]
    exact h
  · refine .inl (.inr ⟨ob, ?_⟩)
    rw [upd_ne (ne_of h hd (fun z => h2 _ _ z.symm))]
    exact h
  · exact .inr h
theorem q_asgD {i : Nat} (k : ∀ p, H p = none → tz D (σ.set i (some (.ref p))) (upd H p (.dK (dk [])))) : tSeq (tAsg tDNewK (gName i)) tz D σ H := fun p hp => k p hp
theorem s_dput {a : Addr} {ds : List Nat} {d : Nat} (hd : H a = some (.dK (dk ds))) (hv : Ev tv σ H (.bl true)) (ho : Ev td σ H (.ref a)) (hk : Ev ta σ H (.int (d : Int))) (hz : ds.length < 100000) (k : ∀ H1, Ex H H1 → D.nx σ (upd H1 a (.dK (dk (addD ds d))))) : sDPut td ta tv D σ H :=
  hv H (Ex.refl H) _ fun H1 e1 => ho H1 e1 _ fun H2 e2 => hk H2 (e1.trans e2) _ fun H3 e3 => ⟨a, _, rfl, DPut.k (k := Sum.inl (d : Int)) (((e1.trans e2).trans e3) _ _ hd) (by
    unfold dk
    rw [List.length_map]
    exact Evl.sz_lt hz), by
    rw [putK_dk]
    exact k H3 ((e1.trans e2).trans e3)⟩
theorem q_forR3 {tA : TA} {j : Nat} {lo hi c : Int} {n : Nat} (h : EvA tA σ H [.int lo, .int hi, .int c]) (hr : RgC lo hi c n) (Pv : Nat → L2.St → Hp → Prop) (h0 : ∀ H1, Ex H H1 → Pv 0 σ H1)
    (hs : ∀ (i : Nat) σ' H', i < n → Pv i σ' H' → tu { D with nx := Pv (i + 1), ct := Pv (i + 1), bk := tz D } (σ'.set j (some (.int (lo + (i : Int) * c)))) H') (hd : ∀ σ' H', Pv n σ' H' → tz D σ' H') : tSeq (tFor (iRng3 tA) (gName j) tu) tz D σ H :=
  h H (Ex.refl H) _ fun H1 e => ⟨lo, hi, c, n, rfl, hr, for_it (D := { D with nx := tz D }) (walk_rangeC (lo := lo) (c := c) (n := n)) Pv (h0 H1 e) (fun _ _ _ _ _ => trivial) (fun i x σ' H' H2 hi p y => by
    obtain ⟨rfl, rfl⟩ := y
    exact hs i σ' H2 hi p) hd⟩
end
/-! ### lands in a list -/
def LandL (K : PySem.W.Frag) (H : Hp) : List V → List (Nat × Nat) → Prop
  | [], [] => True
  | x :: xs, l :: ls => (∃ p, x = .ref p ∧ SqT K H p [.int (l.1 : Int), .int (l.2 : Int)]) ∧ LandL K H xs ls
  | _, _ => False
section
variable {K : PySem.W.Frag} {H H' : Hp}
theorem LandL.kn (e : KeepN H H') : ∀ {xs : List V} {ls : List (Nat × Nat)}, LandL K H xs ls → LandL K H' xs ls
  | [], [], _ => trivial
  | _ :: _, _ :: _, ⟨⟨p, h0, h1⟩, h2⟩ => ⟨⟨p, h0, sqt_kn e h1⟩, LandL.kn e h2⟩
  | [], _ :: _, h => h
  | _ :: _, [], h => h
theorem LandL.len : ∀ {xs : List V} {ls : List (Nat × Nat)}, LandL K H xs ls → xs.length = ls.length
  | [], [], _ => rfl
  | _ :: _, _ :: _, h => congrArg (· + 1) (LandL.len h.2)
  | [], _ :: _, h => h.elim
  | _ :: _, [], h => h.elim
theorem LandL.snoc : ∀ {xs : List V} {ls : List (Nat × Nat)} {p : Addr} {l : Nat × Nat}, LandL K H xs ls → SqT K H p [.int (l.1 : Int), .int (l.2 : Int)] → LandL K H (xs ++ [.ref p]) (ls ++ [l])
  | [], [], p, _, _, h => ⟨⟨p, rfl, h⟩, trivial⟩
  | _ :: _, _ :: _, _, _, h, g => ⟨h.1, LandL.snoc h.2 g⟩
  | [], _ :: _, _, _, h, _ => h.elim
  | _ :: _, [], _, _, h, _ => h.elim
theorem LandL.app : ∀ {xs ys : List V} {ls ms : List (Nat × Nat)}, LandL K H xs ls → LandL K H ys ms → LandL K H (xs ++ ys) (ls ++ ms)
  | [], _, [], _, _, h => h
  | _ :: _, _, _ :: _, _, h, g => ⟨h.1, LandL.app h.2 g⟩
  | [], _, _ :: _, _, h, _ => h.elim
  | _ :: _, _, [], _, h, _ => h.elim
theorem LandL.mem : ∀ {xs : List V} {ls : List (Nat × Nat)} {x : V}, LandL K H xs ls → x ∈ xs → ∃ l ∈ ls, ∃ p, x = .ref p ∧ SqT K H p [.int (l.1 : Int), .int (l.2 : Int)]
  | _ :: _, l :: _, x, h, hm => by
    rcases List.mem_cons.mp hm with rfl | hm
    · exact ⟨l, List.mem_cons_self, h.1⟩
    · obtain ⟨m, h1, h2⟩ := LandL.mem h.2 hm
      exact ⟨m, List.mem_cons_of_mem _ h1, h2⟩
  | [], [], _, _, hm => nomatch hm
  | [], _ :: _, _, h, _ => h.elim
  | _ :: _, [], _, h, _ => h.elim
end
/-- the law's row of lands, by w below a total, then by total -/
def innerL (t M n : Nat) : List (Nat × Nat) := (List.range n).flatMap fun j => if t - (2 + j) ≤ M ∧ Nat.gcd (t - (2 + j)) (2 + j) = 1 then [(2 + j, t - (2 + j))] else []
def landsL (W M n : Nat) : List (Nat × Nat) := (List.range n).flatMap fun i => innerL (5 + i) M (min W ((4 + i) / 2) - 1)
theorem innerL_succ (t M n : Nat) : innerL t M (n + 1) = innerL t M n ++ (if t - (2 + n) ≤ M ∧ Nat.gcd (t - (2 + n)) (2 + n) = 1 then [(2 + n, t - (2 + n))] else []) := by
  unfold innerL
  rw [List.range_succ, List.flatMap_append]
  simp
theorem landsL_succ (W M n : Nat) : landsL W M (n + 1) = landsL W M n ++ innerL (5 + n) M (min W ((4 + n) / 2) - 1) := by
  unfold landsL
  rw [List.range_succ, List.flatMap_append]
  simp
theorem innerL_len (t M : Nat) : ∀ n, (innerL t M n).length ≤ n
  | 0 => Nat.le_refl _
  | n + 1 => by
    rw [innerL_succ, List.length_append]
    have := innerL_len t M n
    split
    · show _ + 1 ≤ _; omega
    · show _ + 0 ≤ _; omega
theorem innerL_mem {t M n : Nat} {l : Nat × Nat} (h : l ∈ innerL t M n) : 2 ≤ l.1 ∧ l.1 < 2 + n ∧ l.2 = t - l.1 ∧ l.2 ≤ M ∧ Nat.gcd l.2 l.1 = 1 := by
  unfold innerL at h
  rw [List.mem_flatMap] at h
  obtain ⟨j, hj, h⟩ := h
  rw [List.mem_range] at hj
  split at h
  · rename_i hc
    rw [List.mem_singleton] at h
    subst h
    exact ⟨by show 2 ≤ 2 + j; omega, by show 2 + j < 2 + n; omega, rfl, hc.1, hc.2⟩
  · cases h
/-- every land of it is one: w within W, m within M -/
theorem landsL_mem {W M n : Nat} {l : Nat × Nat} (h : l ∈ landsL W M n) : 2 ≤ l.1 ∧ l.1 ≤ W ∧ l.1 < l.2 ∧ l.2 ≤ M ∧ Nat.gcd l.2 l.1 = 1 := by
  unfold landsL at h
  rw [List.mem_flatMap] at h
  obtain ⟨i, hi, h⟩ := h
  obtain ⟨h1, h2, h3, h4, h5⟩ := innerL_mem h
  exact ⟨h1, by omega, by omega, h4, h5⟩
theorem rgC_by {i n c : Nat} (hi : i < c) (hn : 0 < n) (hc : c < 100000) (hz : c * n ≤ 1000000) : RgC (i : Int) ((c * n : Nat) : Int) (c : Int) n := by
  have hle : c ≤ c * n := Nat.le_mul_of_pos_right c hn
  have e : Builtin.Range.rangeSize (i : Int) ((c * n : Nat) : Int) (c : Int) = n := by
    unfold Builtin.Range.rangeSize
    rw [if_pos (by omega), if_pos (by omega)]
    have h1 : ((c * n : Nat) : Int) - (i : Int) - 1 = ((c : Int) - 1 - (i : Int)) + (c : Int) * ((n : Int) - 1) := by
      rw [Int.mul_sub, Int.mul_one, Int.natCast_mul]
      omega
    rw [h1, Int.add_mul_ediv_left _ _ (by omega), Int.ediv_eq_zero_of_lt (by omega) (by omega)]
    omega
  refine ⟨by omega, by omega, ?_, e⟩
  unfold Builtin.Range.small
  rw [e]
  simp only [Builtin.Range.rangeFitsLong, Bool.and_eq_true, Bool.or_eq_true, decide_eq_true_eq, beq_iff_eq]
  rw [if_pos (by omega)]
  have hn2 : n ≤ c * n := Nat.le_mul_of_pos_left n (by omega)
  refine ⟨⟨⟨⟨by omega, by omega⟩, by omega⟩, by omega⟩, .inr (by rw [Bool.and_eq_true, decide_eq_true_iff, decide_eq_true_iff]; omega)⟩
end WF

set_option Elab.async false
set_option linter.all false
set_option maxRecDepth 100000
set_option maxHeartbeats 400000
/-! WLong: for i in range(a, b), however far a and b lie -/
namespace WF
open PySem L2 Evl PySem.Spec PyProof.Rows
theorem turn_long {P : Program} {w : World} {K : PySem.W.Frag} {tg : Expr} (it : Addr) (lo : Int) (n : Nat) : Turn P w K tg (Itr lo n) [it] it (fun i h => IsLongIter h it (lo + (i : Nat) * 1) ((n : Int) - (i : Nat)) 1) where
  mem := by simp
  obj := fun i h st b hb => by
    have e : b = it := by simpa using hb
    rw [e]
    exact ⟨_, st, fun v z => nomatch (show Data.fields _ = Data.cell v from z)⟩
  keep := fun i h h' st k => k it (by simp) _ st
  item := fun X hP hw hK hc i pins s σ H E I hf st hg => by
    cases hP
    cases hw
    cases hK
    obtain ⟨f0, f1, f2, f3, f4, f5⟩ := hf it (by simp)
    refine (Walks.longrange (prog := X.prog) (w := X.w) (I.ok.hd hc) it lo 1 n).item i s _ _ hg st fun v h' tk hv st' kk => ?_
    obtain ⟨t, rfl⟩ := hv
    have I1 : Inv X pins σ H { s with heap := h', toks := tk } := I.turned (fun b o hb e => kk b o (by simpa using hb) e) f0 f1 f3 f4 f5
    refine ⟨_, rfl, go_of (n := "longrange_iterator") (s := { s with heap := h', toks := tk }) st' rfl rfl (by decide) ⟨.int (lo + i), H, I1, ⟨t, by rw [Int.mul_one]⟩, ⟨rfl, rfl⟩, st', fun b hb => (hf b hb).1⟩⟩
  done := fun X hP hw hK hc i pins s σ H E I hf st hg => by
    cases hP
    cases hw
    cases hK
    obtain ⟨f0, f1, f2, f3, f4, f5⟩ := hf it (by simp)
    exact wpAny_pyNext_long_end (I.ok.hd hc) st (by have : n ≤ i := hg; omega) fun h' eb => ⟨rfl, I.turned (t' := s.toks) (fun b o hb e => eb b o hb e) f0 f1 f3 f4 f5⟩
  self := fun _ _ _ _ _ st h => wpAny_pyIter_longiter st h
section
variable {X : Cx} {tg : Expr}
theorem range_itA {pins : List (Addr × Obj)} {σ : L2.St} {H : Hp} {s : Shared} {R : It → Hp → Prop} {E : Value → Shared → Prop} {lo hi : Int} {t u v : Tok} {tk : Nat} (I : Inv X pins σ H s)
    (q : R (Itr lo (hi - lo).toNat) H) : wpAny (model X.prog X.w) X.A (pyIter (.ref s.heap.objs.size)) (PIE X pins σ tg R) E { s with heap := s.heap.push { cls := .type "range", data := .fields #[.int lo t, .int hi u, .int 1 v] }, toks := tk } := by
  have I1 : Inv X pins σ H { s with heap := s.heap.push { cls := .type "range", data := .fields #[.int lo t, .int hi u, .int 1 v] }, toks := tk } := I.kept fun b o e => Heap.get?_push_of_some _ e
  have e1 : lo + ((0 : Nat) : Int) * 1 = lo := by simp
  have e2 : (((hi - lo).toNat : Nat) : Int) - ((0 : Nat) : Int) = Builtin.Range.rangeSize lo hi 1 := by rw [rangeSize_one]; split <;> omega
  cases hs : Builtin.Range.small lo hi 1 with
  | true =>
    refine wpAny_pyIter_range (IsRange.new ..) hs ?_
    refine ⟨_, [(s.heap.push { cls := .type "range", data := .fields #[.int lo t, .int hi u, .int 1 v] }).objs.size], _, _, H, rfl, I1.kept (t' := tk) fun b o e => Heap.get?_push_of_some _ e, turn_range _ lo (hi - lo).toNat, ?_, fun b hb => ?_, q⟩
    · show IsRangeIter _ _ (lo + ((0 : Nat) : Int) * 1) ((((hi - lo).toNat : Nat) : Int) - ((0 : Nat) : Int)) 1
      rw [e1, e2]
      exact Heap.get?_push_size _ rfl
    · have eb : b = (s.heap.push { cls := .type "range", data := .fields #[.int lo t, .int hi u, .int 1 v] }).objs.size := by simpa using hb
      cases eb
      exact I1.fpOk (Nat.le_refl _) (I1.hok.fresh (Nat.le_refl _))
  | false =>
    refine wpAny_pyIter_longrange (IsRange.new ..) hs ?_
    refine ⟨_, [(s.heap.push { cls := .type "range", data := .fields #[.int lo t, .int hi u, .int 1 v] }).objs.size], _, _, H, rfl, I1.kept (t' := tk) fun b o e => Heap.get?_push_of_some _ e, turn_long _ lo (hi - lo).toNat, ?_, fun b hb => ?_, q⟩
    · show IsLongIter _ _ (lo + ((0 : Nat) : Int) * 1) ((((hi - lo).toNat : Nat) : Int) - ((0 : Nat) : Int)) 1
      rw [e1, e2]
      exact Heap.get?_push_size _ rfl
    · have eb : b = (s.heap.push { cls := .type "range", data := .fields #[.int lo t, .int hi u, .int 1 v] }).objs.size := by simpa using hb
      cases eb
      exact I1.fpOk (Nat.le_refl _) (I1.hok.fresh (Nat.le_refl _))
def iRngA (ta : TA) : TI := fun σ H R => ta σ H fun vs H1 => ∃ i j : Int, vs = [.int i, .int j] ∧ R (Itr i (j - i).toNat) H1
theorem pi_rangeA {a b : Expr} {ta : TA} {p pos : Pos} (hg : Gl X "range") (hm : X.mg "range" = none) (ha : PA X [a, b] ta) (hs : starEach [a, b] X.env = [(false, eval a X.env), (false, eval b X.env)] := by rfl) (hs2 : starEach [b] X.env = [(false, eval b X.env)] := by rfl) :
    PI X tg (.Call (.Name "range" p) [a, b] [] pos) (iRngA ta) := by
  refine ⟨fun pins s σ H R I w0 => ?_⟩
  refine Call_ (ld_blt I hg hm boot_range (PyProof.Rows.callWith_type1 (thn (ha.run pos pins s σ H _ I w0) fun us s1 ⟨vs, H1, I1, r1, w1⟩ => ?_) (by rw [hs, hs2]) (by rw [hs2]; rfl)))
  obtain ⟨i, j, hv, w2⟩ := w1
  subst hv
  cases r1 with
  | cons ra rest =>
    cases rest with
    | cons rb rest =>
      cases rest
      obtain ⟨t1, rfl⟩ := ra
      obtain ⟨t2, rfl⟩ := rb
      exact call_range_2 (range_itA I1 w2)
end
section
variable {K : PySem.W.Frag} {σ : L2.St} {H H' : Hp} {D : Ends} {tu tz : TS}
theorem s_forRA {ta : TA} {j : Nat} {lo n : Int} (h : EvA ta σ H [.int lo, .int n]) (Pv : Nat → L2.St → Hp → Prop) (h0 : ∀ H1, Ex H H1 → Pv 0 σ H1)
    (hs : ∀ (i : Nat) σ' H', lo + (i : Int) < n → Pv i σ' H' → tu { D with nx := Pv (i + 1), ct := Pv (i + 1), bk := D.nx } (σ'.set j (some (.int (lo + (i : Int))))) H') (hd : ∀ σ' H', Pv (n - lo).toNat σ' H' → D.nx σ' H') : tFor (iRngA ta) (gName j) tu D σ H :=
  h H (Ex.refl H) _ fun H1 e => ⟨lo, n, rfl, for_it (walk_range (lo := lo) (n := (n - lo).toNat)) Pv (h0 H1 e) (fun _ _ _ _ _ => trivial) (fun i x σ' H' H2 hi p y => by
    obtain ⟨rfl, rfl⟩ := y
    exact hs i σ' H2 (by omega) p) hd⟩
theorem q_forRA {ta : TA} {j : Nat} {lo n : Int} (h : EvA ta σ H [.int lo, .int n]) (Pv : Nat → L2.St → Hp → Prop) (h0 : ∀ H1, Ex H H1 → Pv 0 σ H1)
    (hs : ∀ (i : Nat) σ' H', lo + (i : Int) < n → Pv i σ' H' → tu { D with nx := Pv (i + 1), ct := Pv (i + 1), bk := tz D } (σ'.set j (some (.int (lo + (i : Int))))) H') (hd : ∀ σ' H', Pv (n - lo).toNat σ' H' → tz D σ' H') : tSeq (tFor (iRngA ta) (gName j) tu) tz D σ H :=
  s_forRA (D := { D with nx := tz D }) h Pv h0 hs hd
end
end WF

set_option Elab.async false
set_option linter.all false
set_option maxRecDepth 100000
set_option maxHeartbeats 400000
/-! WTry: calls within a try; lists of what one may not land upon -/
namespace WF
open PySem L2 Evl
theorem takes0 {X : Cx} : Takes X (fun _ _ _ _ => False) := fun _ _ h => by
  obtain ⟨_, _, _, _, _, _, _, _, _, _, _, _, _, _, _, _, no⟩ := h
  exact no.elim
section
variable {X : Cx} {K : PySem.W.Frag} {CX : CXT} {x : Str} {k : Nat} {ps : List Str} {sp : Sp} {E : L2.St → XK} {e : Expr} {es : List Expr} {p pos : Pos} {t : TA}
theorem ix_seqK (hK : X.K = K := by rfl) : IxR X (rIx K) := by
  subst hK
  exact ix_seq
theorem pe_fnS (D : Dn X.prog X.w X.K X.mg X.base CX x k ps sp) (hr : Room k X.A) (hx : ∀ σ, PassesAt CX X σ (E σ)) (hg : Gl X x) (ha : PA X (e :: es) t) (hdb : (x == ("__debug__" : Str)) = false := by decide)
    (he : starEach (e :: es) X.env = (false, eval e X.env) :: starEach es X.env := by rfl) (hpl : (backTo pos (starEach es X.env)).any (·.1) = false := by rfl) : PE X (.Call (.Name x p) (e :: es) [] pos) (tCallS sp E t) := by
  obtain ⟨f, fd, h1, h2, h3, h4⟩ := D.ex
  exact pe_callS h3 hr hg h1 h2 h4 hx ha hdb he hpl
end
/-- an error of a class is what except names by that class -/
theorem Err.self {K : PySem.W.Frag} {C : Addr} (h : Err K C) : PySem.W.exmOne K (.ref C) (.ref C) = some true := by
  unfold PySem.W.exmOne
  rw [h.be, if_pos (by rfl)]
  unfold PySem.W.kitCls
  have h2 : (PySem.W.clsIn K C).isSome = true := h.is
  simp only [h2, h.ty, h.se]
  rfl
theorem Err.other {K : PySem.W.Frag} {C B : Addr} (h : Err K C) (hB : Err K B) (hs : PySem.W.subIn K (.ref C) (.ref B) = some false) : PySem.W.exmOne K (.ref C) (.ref B) = some false := by
  unfold PySem.W.exmOne
  rw [hB.be, if_pos (by rfl)]
  unfold PySem.W.kitCls
  have h2 : (PySem.W.clsIn K B).isSome = true := hB.is
  simp only [h2, hB.ty, hs]
  rfl
section
variable {K : PySem.W.Frag} {H H' : Hp} {d : Addr} {xs xs' : List V} {x v : V} {t : Value}
/-! what a changed list leaves -/
theorem ty_but (hd : H d = some (.lst xs)) (hd' : H' d = some (.lst xs')) (e : ExB d H H') (h : TyX K H x t) : TyX K H' x t := by
  have mv : ∀ {a : Addr} {o : HO}, H a = some o → (∀ ys, o ≠ .lst ys) → H' a = some o := fun {a o} q n => e.kn hd _ _ n q
  cases h with
  | base h =>
    cases h with
    | non => exact .base .non
    | bl b => exact .base (.bl b)
    | int i => exact .base (.int i)
    | str z => exact .base (.str z)
    | flt z => exact .base (.flt z)
    | @lst a ys h =>
      by_cases had : a = d
      · subst had
        exact .base (.lst hd')
      · exact .base (.lst (e _ _ had h))
    | frz h => exact .base (.frz (mv h (fun _ q => nomatch q)))
    | tup h => exact .base (.tup (mv h (fun _ q => nomatch q)))
    | dK h => exact .base (.dK (mv h (fun _ q => nomatch q)))
    | dT h => exact .base (.dT (mv h (fun _ q => nomatch q)))
    | ins h cl ha hn htk hm => exact .base (.ins (mv h (fun _ q => nomatch q)) cl ha hn htk hm)
  | byt b => exact .byt b
  | set h => exact .set (mv h (fun _ q => nomatch q))
  | kList h c => exact .kList h c
  | kTuple h c => exact .kTuple h c
  | kDict h c => exact .kDict h c
  | fTuple h => exact .fTuple (mv h (fun _ q => nomatch q))
  | fDict h => exact .fDict (mv h (fun _ q => nomatch q))
theorem num_but {o : Option Int} (hd : H d = some (.lst xs)) (hd' : H' d = some (.lst xs')) (e : ExB d H H') (h : NumV K H x o) : NumV K H' x o := by
  cases h with
  | int z => exact .int z
  | odd h n => exact .odd (ty_but hd hd' e h) n
theorem land_but {b : Bool} (hd : H d = some (.lst xs)) (hd' : H' d = some (.lst xs')) (e : ExB d H H') (h : LandV K H x b) : LandV K H' x b := by
  have kn := e.kn hd
  cases h with
  | no h n => exact .no (ty_but hd hd' e h) n
  | len h n z => exact .len (sqt_kn kn h) n z
  | odd h hx hy n => exact .odd (sqt_kn kn h) (num_but hd hd' e hx) (num_but hd hd' e hy) n
  | two h z1 z2 => exact .two (sqt_kn kn h) z1 z2
end
/-! ### lists whose items are made, told by what holds of each -/
section
variable {K : PySem.W.Frag} {σ : L2.St} {H H' : Hp} {ta tb tc te tl : TE} {tA : TA} {x y z v : V} {S : V → Hp → Prop} {P : List V → Hp → Prop}
def EvX (te : TE) (σ : L2.St) (H : Hp) (S : V → Hp → Prop) : Prop := ∀ H1, Ex H H1 → ∀ Q : VK, (∀ y H2, Ex H1 H2 → S y H2 → Q y H2) → te σ H1 Q
def EvY (ta : TA) (σ : L2.St) (H : Hp) (P : List V → Hp → Prop) : Prop := ∀ H1, Ex H H1 → ∀ Q : List V → Hp → Prop, (∀ ys H2, Ex H1 H2 → P ys H2 → Q ys H2) → ta σ H1 Q
def AllS (S : V → Hp → Prop) (n : Nat) (ys : List V) (H : Hp) : Prop := ys.length = n ∧ ∀ y ∈ ys, S y H
theorem AllS.mono {n : Nat} {ys : List V} (hS : ∀ y H1 H2, Ex H1 H2 → S y H1 → S y H2) (e : Ex H H') (h : AllS S n ys H) : AllS S n ys H' := ⟨h.1, fun y hy => hS y _ _ e (h.2 y hy)⟩
theorem ex_v (h : Ev te σ H v) (hv : ∀ H1, Ex H H1 → S v H1) : EvX te σ H S := fun H1 e Q q => h H1 e Q fun H2 e2 => q v H2 e2 (hv H2 (e.trans e2))
theorem ex_tup {us : List V} (h : EvU te σ H us) (hv : ∀ p H1, Ex H H1 → H1 p = some (.tup us) → S (.ref p) H1) : EvX te σ H S := fun H1 e Q q => h H1 e Q fun p H2 hp e2 h2 => q _ H2 e2 (hv p H2 (e.trans e2) h2)
theorem ex_lst {us : List V} (h : EvL te σ H us) (hv : ∀ p H1, Ex H H1 → H1 p = some (.lst us) → S (.ref p) H1) : EvX te σ H S := fun H1 e Q q => h H1 e Q fun p H2 hp e2 h2 => q _ H2 e2 (hv p H2 (e.trans e2) h2)
theorem ey_nil : EvY tNil σ H (AllS S 0) := fun H1 _ Q q => q [] H1 (Ex.refl H1) ⟨rfl, fun _ h => nomatch h⟩
theorem ey_cons {n : Nat} (hS : ∀ y H1 H2, Ex H1 H2 → S y H1 → S y H2) (h : EvX te σ H S) (hr : EvY tA σ H (AllS S n)) : EvY (tCons te tA) σ H (AllS S (n + 1)) := fun H1 e Q q =>
  h H1 e _ fun y H2 e2 hy => hr H2 (e.trans e2) _ fun ys H3 e3 hys => q (y :: ys) H3 (e2.trans e3) ⟨congrArg (· + 1) hys.1, fun z hz => (List.mem_cons.mp hz).elim (fun h => h ▸ hS _ _ _ e3 hy) (hys.2 z)⟩
/-- pick from a display -/
theorem er_disp {n : Nat} (hS : ∀ y H1 H2, Ex H1 H2 → S y H1 → S y H2) (h : EvY tA σ H (AllS S n)) (hn : n ≤ 1000) : EvR (tLst tA) σ H fun p H2 => ∃ ys, H2 p = some (.lst ys) ∧ AllS S n ys H2 := fun H1 e Q q =>
  h H1 e _ fun ys H2 e2 hys => ⟨Evl.sz_of (by rw [hys.1]; omega), fun p hp => q p _ (fresh_back e2 hp) (e2.trans (Ex.new hp)) ⟨ys, upd_same, hys.mono hS (Ex.new hp)⟩⟩
end
/-! lands of a display -/
section
variable {K : PySem.W.Frag} {σ : L2.St} {H H' : Hp} {ta tb tc te tl : TE} {tA : TA}
theorem ly_nil : EvY tNil σ H (fun ys H2 => LandL K H2 ys []) := fun H1 _ Q q => q [] H1 (Ex.refl H1) trivial
theorem ly_cons {a b : Nat} {ls : List (Nat × Nat)} (hr : EvY tA σ H (fun ys H2 => LandL K H2 ys ls)) : EvY (tCons (tTup (tCons (tC (.int (a : Int))) (tCons (tC (.int (b : Int))) tNil))) tA) σ H (fun ys H2 => LandL K H2 ys ((a, b) :: ls)) := fun H1 e Q q =>
  ⟨by show 2 ≤ sizeLine; decide, fun p hp => hr _ (e.trans (Ex.new hp)) _ fun ys H3 e3 hys => q (.ref p :: ys) H3 ((Ex.new hp).trans e3) ⟨⟨p, rfl, ex_t e3 (st_of upd_same)⟩, hys⟩⟩
theorem er_landsD {ls : List (Nat × Nat)} (h : EvY tA σ H (fun ys H2 => LandL K H2 ys ls)) (hn : ls.length ≤ 1000) : EvR (tLst tA) σ H fun p H2 => ∃ ys, H2 p = some (.lst ys) ∧ LandL K H2 ys ls := fun H1 e Q q =>
  h H1 e _ fun ys H2 e2 hys => ⟨Evl.sz_of (by rw [hys.len]; omega), fun p hp => q p _ (fresh_back e2 hp) (e2.trans (Ex.new hp)) ⟨ys, upd_same, hys.kn (KeepN.of (Ex.new hp))⟩⟩
theorem er_landsC {ls ms : List (Nat × Nat)} (h1 : EvR ta σ H fun p H2 => ∃ ys, H2 p = some (.lst ys) ∧ LandL K H2 ys ls) (h2 : EvR tb σ H fun p H2 => ∃ ys, H2 p = some (.lst ys) ∧ LandL K H2 ys ms) (hn : ls.length + ms.length ≤ 100000) :
    EvR (tOp rCat ta tb) σ H fun p H2 => ∃ ys, H2 p = some (.lst ys) ∧ LandL K H2 ys (ls ++ ms) := fun H1 e Q q =>
  h1 H1 e _ fun p H2 hp e2 ⟨ys, k1, l1⟩ => h2 H2 (e.trans e2) _ fun p2 H3 hp2 e3 ⟨zs, k2, l2⟩ => ⟨p, p2, ys, zs, rfl, rfl, e3 _ _ k1, k2, Evl.sz_of (by rw [l1.len, l2.len]; exact hn), fun p3 hp3 => q p3 _ (fresh_back (e2.trans e3) hp3) ((e2.trans e3).trans (Ex.new hp3)) ⟨ys ++ zs, upd_same, (l1.kn (KeepN.of (e3.trans (Ex.new hp3)))).app (l2.kn (KeepN.of (Ex.new hp3)))⟩⟩
theorem ev_lenD {a : Addr} {ds : List Nat} (h : Ev ta σ H (.ref a)) (hd : H a = some (.dK (dk ds))) : Ev (tCB (fun xs H Q => ∃ a kvs, xs = [V.ref a] ∧ H a = some (.dK kvs) ∧ Q (.int kvs.length) H) (tCons ta tNil)) σ H (.int ((ds.length : Nat) : Int)) := fun H1 e Q q =>
  h H1 e _ fun H2 e2 => ⟨a, dk ds, rfl, e2 _ _ (e _ _ hd), by
    unfold dk
    rw [List.length_map]
    exact q H2 e2⟩
/-- x = f(..) in a try -/
theorem q_asgS {sp : Sp} {W : Ends → WX} {D : Ends} {i : Nat} {tz : TS} {vs : List V} (h : EvA tA σ H vs) (k : ∀ H1, Ex H H1 → sp vs H1 (fun x H2 => tz D (σ.set i (some x)) H2) (fun cls d H2 => W { D with nx := tz D } cls d σ H2)) :
    tSeq (fun D σ H => tAsg (tCallS sp (WE (W D)) tA) (gName i) D σ H) tz D σ H := h H (Ex.refl H) _ fun H1 e => k H1 e
/-- a call with a new tuple among what is handed over -/
theorem ev_callT3 {sp : Sp} {E : XK} {us : List V} {x z v : V} (ha : Ev ta σ H x) (hb : EvU tb σ H us) (hc : Ev tc σ H z) (h : ∀ p H1, Ex H H1 → H1 p = some (.tup us) → ∀ (Q : VK) (E : XK), RetV v H1 Q → sp [x, .ref p, z] H1 Q E) :
    Ev (tCall sp [] E (tCons ta (tCons tb (tCons tc tNil)))) σ H v := fun H1 e Q q => ha H1 e _ fun H2 e2 => hb H2 (e.trans e2) _ fun p H3 hp e3 h3 => hc H3 ((e.trans e2).trans e3) _ fun H4 e4 => h p H4 (((e.trans e2).trans e3).trans e4) (e4 _ _ h3) Q E fun H5 e5 => q H5 (((e2.trans e3).trans e4).trans e5)
theorem ev_callT2 {sp : Sp} {E : XK} {us : List V} {x v : V} (ha : Ev ta σ H x) (hb : EvU tb σ H us) (h : ∀ p H1, Ex H H1 → H1 p = some (.tup us) → ∀ (Q : VK) (E : XK), RetV v H1 Q → sp [x, .ref p] H1 Q E) :
    Ev (tCall sp [] E (tCons ta (tCons tb tNil))) σ H v := fun H1 e Q q => ha H1 e _ fun H2 e2 => hb H2 (e.trans e2) _ fun p H3 hp e3 h3 => h p H3 ((e.trans e2).trans e3) h3 Q E fun H5 e5 => q H5 ((e2.trans e3).trans e5)
end
end WF

set_option Elab.async false
set_option linter.all false
set_option maxRecDepth 100000
set_option maxHeartbeats 400000
/-! WDrawI: whole numbers that are drawn: S tells of each; I stands whatever is drawn -/
namespace WF
open PySem L2 Evl
def DrI (te : TE) (σ : L2.St) (d : Addr) (I : Hp → Prop) (S : Int → Prop) : Prop := ∀ H xs, I H → H d = some (.lst xs) → Good xs → ∀ Q : VK, (∀ i H' xs', S i → I H' → ExB d H H' → H' d = some (.lst xs') → Good xs' → Q (.int i) H') → te σ H Q
def DrA (ta : TA) (σ : L2.St) (d : Addr) (I : Hp → Prop) (n : Nat) (S : Int → Prop) : Prop := ∀ H xs, I H → H d = some (.lst xs) → Good xs → ∀ Q : List V → Hp → Prop, (∀ (is : List Int) H' xs', is.length = n → (∀ i ∈ is, S i) → I H' → ExB d H H' → H' d = some (.lst xs') → Good xs' → Q (is.map V.int) H') → ta σ H Q
section
variable {K : PySem.W.Frag} {σ : L2.St} {H H' : Hp} {ta tb te : TE} {tA : TA} {d : Addr} {I : Hp → Prop} {S A B : Int → Prop} {i : Int} {n : Nat} {D : Ends} {tz : TS}
theorem dr_ev (hI : ∀ H H', I H → ExB d H H' → I H') (h : ∀ H, I H → Ev te σ H (.int i)) (hs : S i) : DrI te σ d I S := fun H xs hi hd hg Q q => h H hi H (Ex.refl H) Q fun H2 e => q i H2 xs hs (hI _ _ hi (ExB.of e)) (ExB.of e) (e _ _ hd) hg
theorem dr_op {g : Int → Int → Int} (ha : DrI ta σ d I A) (hb : DrI tb σ d I B) (hs : ∀ i j, A i → B j → S (g i j)) : DrI (tOp (rI0 fun i j => .int (g i j)) ta tb) σ d I S := fun H xs hi hd hg Q q =>
  ha H xs hi hd hg _ fun i H1 xs1 h1 i1 e1 d1 g1 => hb H1 xs1 i1 d1 g1 _ fun j H2 xs2 h2 i2 e2 d2 g2 => ⟨i, j, rfl, rfl, q _ H2 xs2 (hs i j h1 h2) i2 (e1.trans e2) d2 g2⟩
theorem dr_nil : DrA tNil σ d I 0 S := fun H xs hi hd hg Q q => q [] H xs rfl (fun _ h => nomatch h) hi (ExB.of (Ex.refl H)) hd hg
theorem dr_cons (ha : DrI te σ d I S) (hr : DrA tA σ d I n S) : DrA (tCons te tA) σ d I (n + 1) S := fun H xs hi hd hg Q q =>
  ha H xs hi hd hg _ fun i H1 xs1 h1 i1 e1 d1 g1 => hr H1 xs1 i1 d1 g1 _ fun is H2 xs2 hl h2 i2 e2 d2 g2 => q (i :: is) H2 xs2 (congrArg (· + 1) hl) (fun z hz => (List.mem_cons.mp hz).elim (fun h => h ▸ h1) (h2 z)) i2 (e1.trans e2) d2 g2
theorem q_dr {j : Nat} {xs : List V} (h : DrI te σ d I S) (hi : I H) (hd : H d = some (.lst xs)) (hg : Good xs) (k : ∀ i H' xs', S i → I H' → ExB d H H' → H' d = some (.lst xs') → Good xs' → tz D (σ.set j (some (.int i))) H') : tSeq (tAsg te (gName j)) tz D σ H := h H xs hi hd hg _ k
end
end WF

set_option Elab.async false
set_option linter.all false
set_option maxRecDepth 100000
set_option maxHeartbeats 400000
/-! WLen: len(o) by an own __len__ -/
namespace WF
open PySem L2 Evl
section
variable {X : Cx} {CX : CXT} {C : Addr} {n : Nat} {ps : List Str} {sp : Sp} {E : XK}
def rLenO (C : Addr) (sp : Sp) (E : XK) : List V → Hp → VK → Prop := fun xs H Q => ∃ a dx fs, xs = [.ref a] ∧ H a = some (.ins C dx fs) ∧ sp [.ref a] H (fun v H' => ∃ i, v = .int i ∧ 0 ≤ i ∧ i < 2 ^ 63 ∧ Q (.int i) H') E
theorem call_lenO (M : Mtn X.prog X.w X.K X.mg X.base CX C "__len__" n ps sp) (hr : Room (n + 1) X.A) (hx : Passes CX X E) : CallR X (.builtin "len") (rLenO C sp E) := by
  intro pins s σ H xs us Q I rv hq
  obtain ⟨f, fd, hM, hk, F, hb⟩ := M.ex
  obtain ⟨a, dx, fs, rfl, ha, hsp⟩ := hq
  obtain ⟨u, rfl, ru⟩ := vals1 rv
  cases ru
  have sb0 : L2.Sub X (n + 1) X.A := ⟨hr, rfl⟩
  have sb := sb0.in1
  obtain ⟨mA, J0, _⟩ := ins_get I.hok ha
  obtain ⟨od, J, _⟩ := J0.look
  obtain ⟨m, hF⟩ := I.fr
  refine PySem.W.len_K hF I.ok.mod.kin J hM.at_ hM.fn ?_
  have e0 : Env0 X.prog X.w X.K X.mg X.base X.A.in1 X.stack s H := by
    have e := I.env0
    exact ⟨(sb.fr ▸ e.frames : _), e.mod, e.bs, e.bsz, e.funs, e.frf, e.hok, e.bare⟩
  have hl := F.len _ _ _ _ hsp
  have r2 : Vals [V.ref a] [Value.ref a] := .cons rfl .nil
  refine wpAny_call (codeAny_mono (F.run X.A.in1 X.stack s H ⟨[.ref a], []⟩ [.ref a] [.ref a] _ E sb.room e0 (by
    have := hb s [.ref a] I.kIn (by simpa using hl)
    simpa using this) r2 hsp) fun r s' hq => ?_)
  cases r with
  | error e => exact hx pins σ H s e s' I hq
  | ok fl =>
    cases fl with
    | ret w =>
      obtain ⟨z, H', I', rz, i, ez, h0, h1, q⟩ := I.after hq
      cases ez
      obtain ⟨t, rfl⟩ := rz
      refine ⟨⟨h0, h1⟩, .int i, H', ?_, ⟨_, rfl⟩, q⟩
      exact I'.kept (t' := s'.toks + 1) fun b o e => e
    | next => exact hq.elim
    | brk => exact hq.elim
    | cont => exact hq.elim
/-! methods by their names -/
variable {k : Nat} {m : Str} {o e : Expr} {es : List Expr} {ta : TE} {t : TA} {pos apos : Pos}
theorem pe_mt0 {pl : Sem Bool} (M : Mtn X.prog X.w X.K X.mg X.base CX C m k ps sp) (he : PE X o ta) (c : Cls X.K C) (hr : Room k X.A) (hx : Passes CX X E)
    (ht : eval (.Call (.Attribute o m apos) [] [] pos) X.env = (do
      let ov ← eval o X.env
      standAt apos.atName
      let (f, first) ← holding [ov] (getMethod ov m pl)
      callWith pos f first (backTo pos (starEach [] X.env)) (backToKw pos (keywordEach [] X.env))) := by rfl) : PE X (.Call (.Attribute o m apos) [] [] pos) (tMeth C m sp [] E ta tNil) := by
  obtain ⟨f, fd, h1, h2, h3, h4⟩ := M.ex
  exact pe_meth0 he c h1 h3 hr h4 .nil hx ht
/-- o.m(e, ..) that lets out nothing, or within a try -/
def tMtS (C : Addr) (m : Str) (sp : Sp) (E : L2.St → XK) (ta : TE) (t : TA) : TE := fun σ H Q => ta σ H fun x H1 => ∃ a dx fs, x = .ref a ∧ H1 a = some (.ins C dx fs) ∧ fs.lookup m = none ∧ t σ H1 fun vs H2 => sp (x :: vs) H2 Q (E σ)
theorem pe_mtS {pl : Sem Bool} {E : L2.St → XK} (M : Mtn X.prog X.w X.K X.mg X.base CX C m k ps sp) (he : PE X o ta) (c : Cls X.K C) (hr : Room k X.A) (hx : ∀ σ, PassesAt CX X σ (E σ)) (ha : PA X (e :: es) t)
    (hst : starEach (e :: es) X.env = (false, eval e X.env) :: starEach es X.env := by rfl) (hpl : (backTo pos (starEach es X.env)).any (·.1) = false := by rfl)
    (ht : eval (.Call (.Attribute o m apos) (e :: es) [] pos) X.env = (do
      let ov ← eval o X.env
      standAt apos.atName
      let (f, first) ← holding [ov] (getMethod ov m pl)
      callWith pos f first (backTo pos (starEach (e :: es) X.env)) (backToKw pos (keywordEach [] X.env))) := by rfl) : PE X (.Call (.Attribute o m apos) (e :: es) [] pos) (tMtS C m sp E ta t) := by
  obtain ⟨f, fd, hm, hk, F, hb⟩ := M.ex
  refine ⟨fun pins s σ H Q I h => ?_⟩
  refine PySem.W.methodCall_KW (pl := pl) (thn (he.run pins s σ H _ I h) fun u s1 ⟨x, H1, I1, rx, a, dx, fs, ex, ea, l, q⟩ => ?_) ht
  subst ex
  obtain rfl : u = Value.ref a := rx
  refine getmeth_ok I1 ea c hm l ?_
  refine PySem.W.callWith_K (first := [.ref a]) (h₀ := X.base) I.ok.mod.kin hm.kp (thn (ha.run pos pins s1 σ H1 _ I1 q) fun us s2 ⟨vs, H2, I2, r, q2⟩ => ⟨I2.kIn, ?_⟩) hst hpl
  exact run_fnS (us := .ref a :: us) (vs := .ref a :: vs) F hr hb (hx σ) I2 (.cons rfl r) q2
end
section
variable {X : Cx} {CX : CXT} {C f : Addr} {k : Nat} {fd : FuncData} {ps : List Str} {sp : Sp} {m x : Str} {o e : Expr} {es : List Expr} {ta : TE} {t : TA} {p pos apos : Pos}
theorem pe_mt1 {E : XK} {pl : Sem Bool} (M : Mtn X.prog X.w X.K X.mg X.base CX C m k ps sp) (he : PE X o ta) (c : Cls X.K C) (hr : Room k X.A) (hx : Passes CX X E) (ha : PA X (e :: es) t)
    (hst : starEach (e :: es) X.env = (false, eval e X.env) :: starEach es X.env := by rfl) (hpl : (backTo pos (starEach es X.env)).any (·.1) = false := by rfl)
    (ht : eval (.Call (.Attribute o m apos) (e :: es) [] pos) X.env = (do
      let ov ← eval o X.env
      standAt apos.atName
      let (f, first) ← holding [ov] (getMethod ov m pl)
      callWith pos f first (backTo pos (starEach (e :: es) X.env)) (backToKw pos (keywordEach [] X.env))) := by rfl) : PE X (.Call (.Attribute o m apos) (e :: es) [] pos) (tMeth C m sp [] E ta t) := by
  obtain ⟨f, fd, h1, h2, h3, h4⟩ := M.ex
  exact pe_meth he c h1 h3 hr h4 .nil hx ha hst hpl ht
/-- C(e, ..) within a try -/
def tMakeS (C : Addr) (sp : Sp) (E : L2.St → XK) (t : TA) : TE := fun σ H Q => t σ H fun vs H1 => ∀ x dx, H1 x = none → H1 dx = none → dx ≠ x →
  sp (.ref x :: vs) (upd (upd H1 dx (.own x)) x (.ins C dx [])) (fun v H2 => v = .non ∧ Q (.ref x) H2) (E σ)
theorem run_makeS {E : L2.St → XK} {pins : List (Addr × Obj)} {σ : L2.St} {H : Hp} {s : Shared} {Q : VK} {us : List Value} {vs : List V} (M : Mk X.K C f) (F : FnOk X.prog X.w X.K X.mg X.base CX k f fd ps sp) (hr : Room (k + 1) X.A) (hb : Binds X.K fd ps [])
    (hx : ∀ σ, PassesAt CX X σ (E σ)) (I : Inv X pins σ H s) (r : Vals vs us)
    (h : ∀ x dx, H x = none → H dx = none → dx ≠ x → sp (.ref x :: vs) (upd (upd H dx (.own x)) x (.ins C dx [])) (fun v H2 => v = .non ∧ Q (.ref x) H2) (E σ)) :
    wpAny (model X.prog X.w) X.A (call (.ref C) us) (EP X pins σ Q) X.xe s := by
  have hq := h (s.heap.objs.size + 1) s.heap.objs.size (I.hok.fresh (Nat.le_succ _)) (I.hok.fresh (Nat.le_refl _)) (Nat.ne_of_lt (Nat.lt_succ_self _))
  have I2 := Inv.made (C := C) I
  have r2 : Vals (V.ref (s.heap.objs.size + 1) :: (vs ++ [])) (Value.ref (s.heap.objs.size + 1) :: (us ++ [])) := .cons rfl (r.append .nil)
  have hl : (Value.ref (s.heap.objs.size + 1) :: us ++ []).length = ps.length := by
    have e := r2.length
    rw [List.append_nil, F.len _ _ _ _ hq] at e
    exact e.symm
  rw [← List.append_nil vs] at hq
  have hb2 := hb _ (Value.ref (s.heap.objs.size + 1) :: us) I2.kIn hl
  rw [List.cons_append] at hb2
  refine wpAny_call (make_map (f := f) I.kIn M.makes M.init (beq_iff_eq.mp M.fn) (codeAny_mono (F.run _ X.stack _ _ ⟨Value.ref (s.heap.objs.size + 1) :: us, []⟩ (Value.ref (s.heap.objs.size + 1) :: (us ++ [])) _ _ (E σ) (hr.make C us [])
    (I2.env0.make C us []) hb2 r2 hq) fun r s' hq' => ?_))
  cases r with
  | error e => exact hx σ pins _ _ e s' I2 hq'
  | ok fl =>
    cases fl with
    | ret u =>
      obtain ⟨v, H', I3, rv, ev, q3⟩ := I2.after hq'
      subst ev
      exact ⟨rv, ⟨V.ref (s.heap.objs.size + 1), H', I3, rfl, q3⟩⟩
    | next => exact False.elim hq'
    | brk => exact False.elim hq'
    | cont => exact False.elim hq'
theorem pe_mkS {E : L2.St → XK} (M : Mn X.prog X.w X.K X.mg X.base CX C k ps sp) (hr : Room (k + 1) X.A) (gC : X.mg x = some (.ref C)) (hx : ∀ σ, PassesAt CX X σ (E σ)) (hg : Gl X x) (ha : PA X (e :: es) t) (hdb : (x == ("__debug__" : Str)) = false := by decide)
    (he : starEach (e :: es) X.env = (false, eval e X.env) :: starEach es X.env := by rfl) (hpl : (backTo pos (starEach es X.env)).any (·.1) = false := by rfl) : PE X (.Call (.Name x p) (e :: es) [] pos) (tMakeS C sp E t) := by
  obtain ⟨f, fd, h1, h2, h3⟩ := M.ex
  refine ⟨fun pins s σ H Q I h => ?_⟩
  refine wpAny_Call_Name_kw (ld_glob I hg gC ?_ hdb)
  refine PySem.W.callWith_K (h₀ := X.base) I.ok.mod.kin h1.kp (thn (ha.run pos pins s σ H _ I h) fun us s1 ⟨vs, H1, I1, r, q⟩ => ⟨I1.kIn, ?_⟩) he hpl
  exact run_makeS h1 h2 hr h3 hx I1 r q
end
section
variable {K : PySem.W.Frag} {σ : L2.St} {H H' : Hp} {ta tb tc te tv : TE} {x y z v : V} {t : TT} {D : Ends} {tz : TS}
theorem s_fldR {a C dx : Addr} {fs : List (Str × V)} {f : Str} {R : Addr → Hp → Prop} (hv : EvR tv σ H R) (h : ∀ H1, Ev ta σ H1 (.ref a)) (ho : H a = some (.ins C dx fs)) (hc : Cls K C) (hn : NoAttr K C f) (hz : fs.length < 1000)
    (k : ∀ q H1 H2, H q = none → Ex H H1 → R q H1 → Ex H1 H2 → D.nx σ (upd H2 a (.ins C dx (putF f (.ref q) fs)))) : sFld K ta tv f D σ H :=
  hv H (Ex.refl H) _ fun q H1 hq e1 hR => h H1 H1 (Ex.refl H1) _ fun H2 e2 => ⟨a, C, dx, fs, rfl, e2 _ _ (e1 _ _ ho), hc, hn, hz, k q H1 H2 hq e1 hR e2⟩
theorem el_lcR2 {ta : TA} {j : Nat} {vs : List Nat} {lo : Int} {n : Nat} (f : Nat → Bool) (v : Nat → V) (h : EvA ta σ H [.int lo, .int (lo + (n : Int))]) (hb : -1000000000 ≤ lo ∧ lo ≤ 1000000000) (hn : n ≤ 40000) (hw : ∀ x, wipe ((wipe σ vs).set j (some x)) vs = wipe σ vs)
    (ht : ∀ (i : Nat) H1, Ex H H1 → i < n → EvT t ((wipe σ vs).set j (some (.int (lo + (i : Int))))) H1 (f i)) (he : ∀ (i : Nat) H1, Ex H H1 → i < n → f i = true → Ev te ((wipe σ vs).set j (some (.int (lo + (i : Int))))) H1 (v i)) :
    EvL (tLc (iRng2 ta) (gName j) t te vs) σ H (given n f v) := fun H0 e Q q => h H0 e _ fun H1 e1 => by
  have hN : (lo + (n : Int) - lo).toNat = n := by omega
  refine ⟨lo, lo + (n : Int), rfl, ⟨by omega, by omega, by omega, by omega⟩, ?_⟩
  rw [hN]
  exact fun Dl hD => lc_range (lo := lo) (n := n) (Cw H1 f v Dl) ⟨hD, Ex.new hD, upd_same⟩ (fun i H' hi p => ⟨hw _, cw_turn p (by omega) (ht i H1 (e.trans e1) hi) (fun hf => he i H1 (e.trans e1) hi hf)⟩) (fun H' p => q Dl H' (fresh_back e1 p.1) (e1.trans p.2.1) p.2.2)
theorem et_orInt3 {o : Option Int} {b : Bool} (h : Ev ta σ H x) (hx : NumV K H x o) (hb : ∀ z, o = some z → x = .int z → Ev tb σ H (.bl b)) (hn : o = none → b = false) :
    EvT (tOr (tNot (tB (tCB (rIsi K) (tCons ta (tCons (tC (.ty "int")) tNil))))) (tOr (tB (tCB (rIsi K) (tCons ta (tCons (tC (.ty "bool")) tNil)))) (tNot (tTest tb)))) σ H (!b) := by
  cases hx with
  | int z => exact et_is (et_or (et_not (et_B (ev_isi h (ty_int z) kit_ii))) fun _ => et_or (et_B (ev_isi h (ty_int z) kit_ib)) fun _ => et_not (et_test (hb z rfl rfl))) (by cases b <;> rfl)
  | odd hy n =>
    obtain ⟨b1, b2, h1, h2, h3⟩ := n
    rw [hn rfl]
    cases b1 with
    | false => exact et_is (et_or (b := true) (et_not (et_B (ev_isi h hy h1))) fun q => nomatch q) rfl
    | true =>
      have hb2 : b2 = true := by cases b2 <;> simp_all
      subst hb2
      exact et_is (et_or (et_not (et_B (ev_isi h hy h1))) fun _ => et_or (b := true) (et_B (ev_isi h hy h2)) fun q => nomatch q) rfl
theorem q_pop {l : Addr} {xs : List V} {y : V} (hl : H l = some (.lst (xs ++ [y]))) (ha : Ev ta σ H (.ref l)) (k : ∀ H1, Ex H H1 → tz D σ (upd H1 l (.lst xs))) : tSeq (tDrop (tBM0 K "list" rPop ta)) tz D σ H :=
  ha H (Ex.refl H) _ fun H1 e1 => ⟨Or.inl ⟨rfl, _, sq_of (e1 l _ hl)⟩, l, xs ++ [y], y, rfl, rfl, e1 _ _ hl, by simp, by
    rw [List.dropLast_concat]
    exact k H1 e1⟩
end
section
variable {K : PySem.W.Frag} {H : Hp}
theorem LandL.last : ∀ {ls : List (Nat × Nat)} {l : Nat × Nat} {xs : List V}, LandL K H xs (ls ++ [l]) → ∃ ys q, xs = ys ++ [.ref q] ∧ LandL K H ys ls ∧ SqT K H q [.int (l.1 : Int), .int (l.2 : Int)]
  | [], l, [x], h => by
    obtain ⟨⟨q, rfl, hq⟩, _⟩ := h
    exact ⟨[], q, rfl, trivial, hq⟩
  | [], _, [], h => h.elim
  | [], _, _ :: _ :: _, h => h.2.elim
  | a :: ls, l, [], h => h.elim
  | a :: ls, l, x :: xs, h => by
    obtain ⟨h1, h2⟩ := h
    obtain ⟨ys, q, rfl, h3, h4⟩ := LandL.last (ls := ls) h2
    exact ⟨x :: ys, q, rfl, ⟨h1, h3⟩, h4⟩
theorem cut1 (x : V) (xs : List V) : cutV (x :: xs) (some 1) none = xs := by
  unfold cutV
  have h1 : HT.sIx (x :: xs).length 0 (some 1) = 1 := by
    unfold HT.sIx
    simp
  have h2 : HT.sIx (x :: xs).length (x :: xs).length none = (x :: xs).length := rfl
  rw [h1, h2]
  simp
end
end WF

set_option Elab.async false
set_option linter.all false
set_option maxRecDepth 100000
set_option maxHeartbeats 2000000
/-! WSup: an own error's __init__ that says super().__init__("X") ahead of its stores -/
namespace WF
open PySem L2 Evl PyProof.Rows
open PySem.W (ksEnv ksFn kxs_mw)
structure SupFn (P : Program) (K : PySem.W.Frag) (C : Addr) (qual : Str) (st : Stmt) (f : Addr) (fd : FuncData) (cc cda : Addr) : Prop where
  lk : ∃ oc od osl dV kV doc pm an ct, fd = ksFn "__init__" qual (defArgs st) (defBody st) (defScope st) dV kV doc pm an (.ref cda) ct cc ∧ K.lookup f = some ⟨oc, od, .func fd, osl⟩
  hcd : PySem.W.codeIn K (.ref cda) qual = true
  kp : PySem.W.keepIn K (.ref f) = true
  code : ∃ ccl cdd vs ccs file tf, K.lookup cda = some ⟨ccl, cdd, .fields vs, ccs⟩ ∧ vs[2]? = some (.str file tf) ∧ ((P.main.file : Str) == file) = true
  cell : ∃ cl cld csl, K.lookup cc = some ⟨cl, cld, .cell (some (.ref C)), csl⟩
  mro : PySem.W.mroIn K C (.ref C) = some true
  nsup : PySem.W.nsIn K mainGlobals "super" = some none
  top : (P.main.scope.names.lookup ("super" : Str)).isSome = false
  any : PySem.W.nsIn K cStatics "thirdparty.any" = some none
  sup : PySem.W.ks_superIn K C C "__init__" = some (some (.builtin "ValueError.__init__"))
  subV : PySem.W.subIn K (.ref C) (.type "ValueError") = some true
/-- the context of such an __init__ -/
def cxS (CX : CXT) (P : Program) (w : World) (K : PySem.W.Frag) (mg : Str → Option Value) (base : Heap) (N : List Str) (qual : Str) (scope : Scope) (f cda cc : Addr) (A : Around) (outer : List Env) (s : Shared) (H : Hp) (E : XK) : Cx where
  prog := P
  w := w
  K := K
  mg := mg
  base := base
  A := A.deeper (ksEnv qual scope s.heap.objs.size f (.ref cda) cc)
  N := N
  s_0 := s
  H_0 := H
  env := ksEnv qual scope s.heap.objs.size f (.ref cda) cc
  outer := outer
  stack := ksEnv qual scope s.heap.objs.size f (.ref cda) cc :: outer
  ex := []
  calm := true
  fn := fun x => x != ("__class__" : Str)
  pn := []
  xe := fun e s' => wpAny (model P w) (A.deeper (ksEnv qual scope s.heap.objs.size f (.ref cda) cc)) (leaving (ksEnv qual scope s.heap.objs.size f (.ref cda) cc) e) (fun _ s'' => CX outer H s E e s'') (fun e' s'' => CX outer H s E e' s'') s'
structure ScopeS (ps : List Str) (sc : Scope) : Prop where
  kind : sc.kind = .function
  co : sc.isCoroutine = false
  gen : sc.isGenerator = false
  nd : ps.Nodup
  par : ∀ x ∈ ps, sc.names.lookup x = some .local
  only : ∀ y ∈ sc.names, y.2 ≠ .cell ∧ (y.2 = .free → y.1 = ("__class__" : Str))
  sup : sc.names.lookup ("super" : Str) = some .globalImplicit
  cls : sc.names.lookup ("__class__" : Str) = some .free
theorem look_mem : ∀ {l : List (Str × Value)} {x : Str} {u : Value}, (l.map (·.1)).Nodup → (x, u) ∈ l → l.lookup x = some u
  | (y, v) :: l, x, u, hn, hm => by
    rw [List.map_cons, List.nodup_cons] at hn
    rcases List.mem_cons.mp hm with e | hm
    · cases e
      rw [List.lookup_cons, beq_self_eq_true]
    · have hne : x ≠ y := fun z => hn.1 (List.mem_map.mpr ⟨(x, u), hm, z⟩)
      have hb : (x == y) = false := beq_eq_false_iff_ne.mpr hne
      rw [List.lookup_cons, hb]
      exact look_mem hn.2 hm
theorem zip_look {ps : List Str} {us : List Value} (hn : ps.Nodup) {i : Nat} {x : Str} {u : Value} (h1 : ps[i]? = some x) (h2 : us[i]? = some u) : (ps.zip us).reverse.lookup x = some u := by
  refine look_mem ?_ ?_
  · rw [List.map_reverse]
    have hs : ((ps.zip us).map (·.1)).Sublist ps := by
      clear h1 h2 hn
      induction ps generalizing us with
      | nil => simp
      | cons p ps ih =>
        cases us with
        | nil => simp
        | cons u us => exact List.cons_sublist_cons.mpr ih
    exact List.pairwise_reverse.mpr ((hn.sublist hs).imp fun h => h.symm)
  · rw [List.mem_reverse]
    refine List.mem_of_getElem? (i := i) ?_
    rw [List.getElem?_zip_eq_some]
    exact ⟨h1, h2⟩
theorem inv_startS {CX : CXT} {P : Program} {w : World} {K : PySem.W.Frag} {mg : Str → Option Value} {base : Heap} {ps : List Str} {qual : Str} {scope : Scope} {f cda cc : Addr} {A : Around} {outer : List Env} {s : Shared} {h1 : Heap} {t : Nat} {H : Hp} {E : XK} {us : List Value} {vs : List V} {ocl : Obj} {vcl : Option Value}
    (S : ScopeS ps scope) (hd : A.handled = none) (e0 : Env0 P w K mg base A outer s H) (hl : vs.length = ps.length) (r : Vals vs us) (hcc : K.lookup cc = some ocl) (hcv : ocl.data = .cell vcl)
    (hns : h1.Ns s.heap.objs.size (fun x => (ps.zip us).reverse.lookup x)) (hk : ∀ b o, s.heap.get? b = some o → h1.get? b = some o) :
    Inv (cxS CX P w K mg base ps qual scope f cda cc A outer s H E) [] (L2.start ps vs) H { s with heap := h1, toks := t } := by
  have hb : base.get? cc = some ocl := e0.mod.kin _ _ hcc
  have noA : ∀ b : Addr, b ∉ (cxS CX P w K mg base ps qual scope f cda cc A outer s H E).ex := fun b z => absurd (show b ∈ ([] : List Addr) from z) (by simp)
  have lk : ∀ x c, (cxS CX P w K mg base ps qual scope f cda cc A outer s H E).env.cells.lookup x = some c → x = ("__class__" : Str) ∧ c = cc := fun x c h => by
    have h : ([(("__class__" : Str), cc)] : List (Str × Addr)).lookup x = some c := h
    rw [List.lookup_cons] at h
    split at h
    · rename_i q
      exact ⟨beq_iff_eq.mp q, (Option.some.inj h).symm⟩
    · cases h
  refine ⟨⟨e0.mod, S.kind, rfl, rfl, Nat.le_refl _, fun x y c h1 h2 => (lk x c h1).1.trans (lk y c h2).1.symm, fun x hx => ?_, fun x c hf h => ?_, fun _ => hd, Around.frames_deeper e0.frames, .inr ⟨rfl, rfl⟩, fun b z => absurd z (noA b), e0.bs, e0.bsz, fun b _ _ => noA b, fun b z => absurd z (noA b), e0.funs, e0.frf⟩,
    rfl, e0.bare, Un.kept hk, ⟨_, hns, fun i x v h1 h2 h3 => ?_⟩, fun x c h => ?_, e0.hok.fresh (Nat.le_refl _), fun x c h => ?_, fun p hp => absurd (show p ∈ ([] : List (Addr × Obj)) from hp) (by simp), e0.hok.kept hk, ?_⟩
  · have hx' : scope.names.lookup x = some .cell ∨ scope.names.lookup x = some .free := hx
    rcases hx' with hx' | hx'
    · exact absurd rfl (S.only _ (PySem.mem_of_lookup hx')).1
    · have := (S.only _ (PySem.mem_of_lookup hx')).2 rfl
      have this : x = ("__class__" : Str) := this
      subst this
      exact ⟨cc, by show ([(("__class__" : Str), cc)] : List (Str × Addr)).lookup _ = _; rw [List.lookup_cons, beq_self_eq_true]⟩
  · rw [(lk x c h).1] at hf
    have hf : (("__class__" : Str) != ("__class__" : Str)) = true := hf
    rw [bne_self_eq_false] at hf
    cases hf
  · have hi : i < vs.length := by
      unfold L2.start at h2
      by_cases hi : i < vs.length
      · exact hi
      · rw [List.getElem?_append_right (by simpa using hi)] at h2
        rw [List.getElem?_replicate] at h2
        split at h2 <;> cases h2
    have ha : vs[i]? = some v := by
      unfold L2.start at h2
      rw [List.getElem?_append_left (by simpa using hi), List.getElem?_map] at h2
      cases e : vs[i]? with
      | none => rw [e] at h2; cases h2
      | some a => rw [e] at h2; cases h2; rfl
    obtain ⟨u, hu, rv⟩ := r.get ha
    have h1' : ps[i]? = some x := h1
    exact ⟨u, rv, .inl ⟨S.par x (List.mem_of_getElem? h1'), zip_look S.nd h1' hu⟩⟩
  · rw [(lk x c h).2]
    exact ⟨vcl, ocl, hk _ _ (e0.bs _ _ hb).1, hcv⟩
  · rw [(lk x c h).2]
    exact (e0.bs _ _ hb).2
  · unfold L2.start
    show _ = ps.length
    rw [List.length_append, List.length_map, List.length_replicate]
    omega
section
variable {prog : Program} {w : World} {A : Around} {E : Value → Shared → Prop} {h : Heap} {g : Array GenState} {d : Drawn} {t : Nat} {os : OsState}
variable {nm q : Str} {C N : Addr} {bs bm : List Value} {hdct : Bool} {sn : List Str} {sub : List Value} {ab : Bool} {col : Option Bool} {dd : Option Addr} {k0 k1 k2 k3 k5 : Option Value}
theorem call_bwV {u e t0 : Addr} {rest : List Value} {Q : Value → Shared → Prop}
    (hC : h.get? C = some (excClassObj nm q C N bs bm hdct sn sub ab col dd k0 k1 k2 k3 k5 "ValueError.__new__")) (he : h.get? e = some (PySem.HandSPX.excO C t0)) (hu : h.get? u = some (kxs_mw "ValueError.__init__" e)) (hrest : rest.length ≤ sizeLine)
    (hq : ∀ h' t1, (∀ b o, b ≠ e → h.get? b = some o → h'.get? b = some o) → h'.get? e = some (PySem.HandSPX.excO C t1) → Q .none ⟨h', g, d, t, os⟩) :
    wpAny (model prog w) A (call (.ref u) rest) Q E ⟨h, g, d, t, os⟩ := by
  refine wpAny_call (codeAny_of_tree ?_)
  show wpAny _ A.in1 (callAny (.ref u) ⟨rest, []⟩) _ _ _
  simp only [callAny]
  refine wpAny_bind (wpAny_load hu ?_)
  simp only [kxs_mw, show (Value.type "method-wrapper" == Value.type "method" || Value.type "method-wrapper" == Value.type "builtin_function_or_method" || Value.type "method-wrapper" == Value.type "method-wrapper") = true by decide, if_true]
  refine PySem.W.KFB.if_so (by decide) ?_
  refine wpAny_bind (PySem.ESX.check_bound F.excBase_ValueError hC he rfl ?_)
  refine wpAny_bind (wpAny_pure (wpAny_pure ?_))
  refine ⟨Code.quiet_builtin _ (by decide +kernel), codeAny_builtin F.excBase_ValueError.initEntry ?_⟩
  rw [Around.under_plainId F.excBase_ValueError.init.plain _]
  wp_walk
  refine hq _ h.objs.size (fun b o hb ho => ?_) ?_
  · rw [Heap.get?_update_other _ _ (Ne.symm hb)]
    exact Heap.get?_push_of_some _ ho
  · rw [Heap.get?_update_self _ (Heap.get?_push_of_some _ he) rfl]
    rfl
end

/-- THE RULE: an __init__ that says super().__init__(text), then the rest -/
theorem fn_sup {CX : CXT} {P : Program} {w : World} {K : PySem.W.Frag} {mg : Str → Option Value} {base : Heap} {k : Nat} {C f cc cda : Addr} {fd : FuncData} {qual : Str} {st : Stmt} {ps : List Str} {sp : Sp} {rest : List Stmt} {p0 p1 p2 pos epos cp : Pos} {ktx : Nat} {tx : Str} {ap : Arg}
    (SF : SupFn P K C qual st f fd cc cda) (hsup : mg "super" = none) (S : ScopeS ps (defScope st)) (len : ∀ vs H Q E, sp vs H Q E → vs.length = ps.length)
    (hp : ((defArgs st).posonlyargs ++ (defArgs st).args).head? = some ap) (h0 : ps[0]? = some ap.arg)
    (hbd : defBody st = .Expr (.Call (.Attribute (.Call (.Name "super" p0) [] [] p1) "__init__" p2) [.Constant (.str tx) ktx cp] [] pos) epos :: rest)
    (he : ∀ env : Env, ∃ pl : Sem Bool, eval (.Call (.Attribute (.Call (.Name "super" p0) [] [] p1) "__init__" p2) [.Constant (.str tx) ktx cp] [] pos) env = (do
      let ov ← attributeBase (.Call (.Name "super" p0) [] [] p1) "__init__" env (eval (.Call (.Name "super" p0) [] [] p1) env)
      standAt p2.atName
      let (f, first) ← holding [ov] (getMethod ov "__init__" pl)
      callWith pos f first (backTo pos (starEach [.Constant (.str tx) ktx cp] env)) []))
    (hbody : ∀ (A : Around) (outer : List Env) (s : Shared) (H : Hp) (vs : List V) (Q : VK) (E : XK), Room k (A.deeper (ksEnv qual (defScope st) s.heap.objs.size f (.ref cda) cc)) → sp vs H Q E →
      OexC K C ∧ (∃ a, vs[0]? = some (.ref a) ∧ H a = some (exo a C none)) ∧ ∃ t, PSs (cxS CX P w K mg base ps qual (defScope st) f cda cc A outer s H E) rest t ∧ t { nx := fun _ H' => Q .non H', rt := Q } (L2.start ps vs) H) :
    FnOk P w K mg base CX (k + 1) f fd ps sp := by
  obtain ⟨oc, od, osl, dV, kV, doc, pm, an, ct, rfl, lk⟩ := SF.lk
  obtain ⟨ccl, cdd, vsC, ccs, file, tf, hcode, hvs, hfile⟩ := SF.code
  obtain ⟨cl, cld, csl, hcell⟩ := SF.cell
  refine ⟨len, fun A outer s H args us vs Q E hr e0 hb r hsp => ?_⟩
  have hl := len _ _ _ _ hsp
  have KX : K.In s.heap := e0.mod.kin.keeps fun b o e => (e0.bs b o e).1
  have lim : s.heap.NoLimit := e0.mod.nolimit.keeps fun b o e => (e0.bs b o e).1
  obtain ⟨T, ⟨a, hva, hHa⟩, t, ht, hq⟩ := hbody A outer s H vs Q E (hr.deeper _) hsp
  refine ks_codeAny_call_defAt (fd := ksFn "__init__" qual (defArgs st) (defBody st) (defScope st) dV kV doc pm an (.ref cda) ct cc) (body := defBody st) (binds := ps.zip us) hr.depth (KX _ _ lk) rfl lim (PySem.W.codeRec_of KX SF.hcd) rfl hb (fun x hx => (S.only x hx).1) (fun x hx => S.par _ (List.of_mem_zip hx).1) (fun h1 hns hk1 => ?_) S.co S.gen S.kind
  have I : Inv (cxS CX P w K mg base ps qual (defScope st) f cda cc A outer s H E) [] (L2.start ps vs) H { s with heap := h1, toks := s.toks + (ps.zip us).length } := inv_startS S hr.hd e0 hl r hcell rfl hns hk1
  have X1 : K.In h1 := I.kIn
  obtain ⟨u0, hu0, rv0⟩ := r.get hva
  cases rv0
  rw [hbd]
  obtain ⟨pl, hev⟩ := he (ksEnv qual (defScope st) s.heap.objs.size f (.ref cda) cc)
  refine ks_wpAt_execs_cons (ks_wpAt_Expr_any (ks_wpAt_MethodCall ?_ hev) (show interactive (ksEnv qual (defScope st) s.heap.objs.size f (.ref cda) cc) = false by simp [interactive, Env.blockKind, S.kind]))
  · refine ks_wpAt_super_base (env := ksEnv qual (defScope st) s.heap.objs.size f (.ref cda) cc) S.sup S.cls (by decide) rfl (X1 _ _ lk) rfl hp rfl (X1 _ _ hcode) rfl hvs hfile SF.top ?_
    obtain ⟨mb, hb1, hb2⟩ := I.mod.blt
    refine PySem.W.ks_loadName_global S.kind S.sup (PySem.Calls.loadGlobal_builtin (env := ksEnv qual (defScope st) s.heap.objs.size f (.ref cda) cc) (I.mod.glob.keeps I.bk) hsup (hb1.keeps I.bk) ((hb2 (Str.ofString "super") (by decide)).trans (show bootBuiltins (Str.ofString "super") = some (.type "super") by decide +kernel)) ⟨rfl, ?_⟩)
    refine wpAny_loadName_free S.kind S.cls rfl ⟨_, X1 _ _ hcell, rfl⟩ ?_
    refine wpAny_loadName_local S.kind (S.par _ (List.mem_of_getElem? h0)) hns (zip_look S.nd h0 hu0) ?_
    obtain ⟨nm, q, N, bs, bm, sn, sub, ab, col, dd, k0, k1, k2, k3, k5, hC, hbm⟩ := T.cls
    have hcl : PySem.W.clsIn K C = some { name := nm, bases := bs, mro := .ref C :: bm, ns := N, qualname := q, hasDict := true, slotNames := sn, subclasses := sub, abstract := ab, collection := col, hasDel := false } := by unfold PySem.W.clsIn; rw [hC] <;> rfl
    obtain ⟨t1, ho⟩ := exo_at I.hok hHa
    have hne : a ≠ C := fun z => by
      rw [z] at ho
      have e := X1 _ _ hC
      rw [show h1.get? C = _ from ho] at e
      have e2 := congrArg Obj.data (Option.some.inj e)
      cases e2
    refine ks_wpAny_isType_cls (X1 _ _ hC) rfl ⟨rfl, ?_⟩
    refine ks_wpAny_call_super (X1 _ _ hC) rfl ho rfl (fun c e => nomatch e) (PySem.W.looks_mroIn X1 SF.mro) (fun h2 hso k2' => ?_)
    have X2 : K.In h2 := fun b o q => k2' b o (X1 b o q)
    have I2 := I.kept (t' := s.toks + (ps.zip us).length) k2'
    have hsup2 := SF.sup
    unfold PySem.W.ks_superIn at hsup2
    rw [hcl, Option.bind_some] at hsup2
    refine PySem.W.kxs_getMethod PySem.W.kxs_ValueError hso (PySem.W.looks_opaque X2 SF.any) (l₀ := .ref C :: bm) (fun A Q E s k q => wpAny_bind ((PySem.W.looks_clsIn X2 hcl) A _ E s k (wpAny_pure q))) rfl X2 hsup2 ((PySem.W.InstAt.type (C := C) (od := none) ⟨k2' _ _ ho, rfl, rfl, trivial⟩).andThen (PySem.W.looks_subIn X2 SF.subV)) hne (by decide) ?_
    have hu : (h2.push (kxs_mw "ValueError.__init__" a)).get? h2.objs.size = some (kxs_mw "ValueError.__init__" a) := Heap.get?_push_at rfl rfl
    have k3' : ∀ b o, h2.get? b = some o → (h2.push (kxs_mw "ValueError.__init__" a)).get? b = some o := fun b o e => Heap.get?_push_of_some _ e
    have I3 := I2.kept (t' := s.toks + (ps.zip us).length + 1 + 1) k3'
    refine PySem.W.kxs_callWith (i := "ValueError.__init__") (x := a) rfl (PySem.Calls.evalArgs_plain (PySem.Calls.spliced_cons (PySem.Calls.Constant_str (k := ktx) (pos := cp) (PySem.Calls.spliced_nil ⟨hu, ?_⟩))))
    obtain ⟨t3, ho3⟩ := exo_at I3.hok hHa
    refine call_bwV (k3' _ _ (X2 _ _ hC)) ho3 hu (by show 1 ≤ sizeLine; decide) fun h4 t4 k4 hx4 => ?_
    have I4 := I3.write (t' := s.toks + (ps.zip us).length + 1 + 1) (x := a) (e := a) (o := exo a C none) (by rw [hHa]; exact True.intro) (.inl rfl) k4 ⟨_, hx4⟩ (exo_ok hx4)
    have eu : upd H a (exo a C none) = H := by
      funext b
      by_cases hb : b = a
      · rw [hb, upd_same, hHa]
      · rw [upd_ne hb]
    rw [eu] at I4
    refine wpAt_of_wpAny (wpAny_mono (ht.run [] _ _ H _ I4 hq) (fun fl s' hs => ?_) fun e s' hs => hs)
    have fin : ∀ {σ' : L2.St} {H' : Hp} {v : V} {u : Value}, Inv (cxS CX P w K mg base ps qual (defScope st) f cda cc A outer s H E) [] σ' H' s' → RelV v u → Q v H' → CE outer P w H s Q u s' :=
      fun {σ' H' v u} J rv q => ⟨v, H', J.os, J.bare, J.base, J.hok, rv, q⟩
    cases fl with
    | ret u =>
      obtain ⟨v, σ', H', J, rv, q⟩ := hs
      exact fin J rv q
    | next =>
      obtain ⟨σ', H', J, q⟩ := hs
      exact fin (v := V.non) (u := Value.none) J rfl q
    | brk =>
      obtain ⟨_, _, _, q⟩ := hs
      exact False.elim q
    | cont =>
      obtain ⟨_, _, _, q⟩ := hs
      exact False.elim q
/-! what such an error keeps; raised -/
def spE1 (C : Addr) (f : Str) : Sp := fun vs H Q _ => ∃ a v, vs = [.ref a, v] ∧ H a = some (exo a C none) ∧ ∀ dx, H dx = none → dx ≠ a → Q .non (upd (upd H dx (exd dx [(f, v)])) a (exo a C (some dx)))
def spE2 (C : Addr) (f g : Str) : Sp := fun vs H Q _ => ∃ a u v, vs = [.ref a, u, v] ∧ H a = some (exo a C none) ∧ ∀ dx, H dx = none → dx ≠ a → Q .non (upd (upd (upd H dx (exd dx [(f, u)])) a (exo a C (some dx))) dx (exd dx [(g, v), (f, u)]))
structure MnE (P : Program) (w : World) (K : PySem.W.Frag) (mg : Str → Option Value) (base : Heap) (C : Addr) (k : Nat) (sp : Sp) : Prop where
  ex : ∃ (f : Addr) (fd : FuncData) (ps : List Str), PySem.W.findIn K (.ref C) "__init__" = some (some (.ref f)) ∧ PySem.W.typeIn K (.ref f) = some (.type "function") ∧ FnOk P w K mg base CX0 k f fd ps sp ∧ Binds K fd ps []
  ox : OexC K C
/-- what the top says of such a class -/
structure ErrS (P : Program) (K : PySem.W.Frag) (C : Addr) (qual : Str) (st : Stmt) (ps fs : List Str) : Prop where
  ox : OexC K C
  sup : ∃ f fd cc cda, SupFn P K C qual st f fd cc cda ∧ PySem.W.findIn K (.ref C) "__init__" = some (some (.ref f)) ∧ PySem.W.typeIn K (.ref f) = some (.type "function") ∧ Binds K fd ps []
  xf : XfC K C
  no : ∀ x ∈ fs, PySem.W.findIn K (.ref C) x = some none
  is : PySem.W.isClsIn K C = true
  se : PySem.W.subIn K (.ref C) (.ref C) = some true
theorem ErrS.self {P : Program} {K : PySem.W.Frag} {C : Addr} {qual : Str} {st : Stmt} {ps fs : List Str} (h : ErrS P K C qual st ps fs) : PySem.W.exmOne K (.ref C) (.ref C) = some true := by
  unfold PySem.W.exmOne
  rw [h.ox.exC, if_pos (by rfl)]
  unfold PySem.W.kitCls
  have h2 : (PySem.W.clsIn K C).isSome = true := h.is
  simp only [h2, h.ox.tyC, h.se]
  rfl
section
variable {X : Cx} {C : Addr} {k : Nat} {sp : Sp} {x : Str} {e : Expr} {es : List Expr} {p pos pos2 : Pos} {ta : TA}
theorem ps_raiseS {W : WX} (hc : X.calm = true) (tk : Takes X W) (M : MnE X.prog X.w X.K X.mg X.base C k sp) (hr : Room (k + 1) X.A) (gC : X.mg x = some (.ref C)) (hg : Gl X x) (ha : PA X (e :: es) ta) (hdb : (x == ("__debug__" : Str)) = false := by decide)
    (he : starEach (e :: es) X.env = (false, eval e X.env) :: starEach es X.env := by rfl) (hpl : (backTo pos (starEach es X.env)).any (·.1) = false := by rfl) :
    PS X (.Raise (some (.Call (.Name x p) (e :: es) [] pos)) none pos2) (fun _ σ H => tMkO C sp [] ta σ H fun cls d H' => W cls d σ H') := by
  obtain ⟨f, fd, ps, h1, h2, h3, h4⟩ := M.ex
  exact ps_raise hc tk (pmk_oex M.ox h1 h2 h3 hr h4 .nil (fun _ _ _ _ _ _ _ z => z.elim) hg gC ha hdb he hpl)
end
theorem raise1 {C : Addr} {f : Str} {σ : L2.St} {H : Hp} {ta : TA} {v : V} {W : WX} (h : EvA ta σ H [v]) (k : ∀ d H2, Ex H H2 → H d = none → H2 d = some (.xd [(f, v)]) → W (.ref C) (some d) σ H2) : tMkO C (spE1 C f) [] ta σ H (fun cls d H' => W cls d σ H') :=
  h H (Ex.refl H) _ fun H1 e1 => ⟨by show 1 ≤ 1000; decide, fun a ha => ⟨a, v, rfl, upd_same, fun dx hdx hne => by
    have hdx' : H1 dx = none := by
      rw [upd_ne hne] at hdx
      exact hdx
    refine ⟨rfl, dx, [(f, v)], upd_same, ?_, hdx', k dx _ (fun b o hb => ?_) (fresh_back e1 hdx') upd_same⟩
    · rw [upd_ne hne]
      exact upd_same
    · have hb1 := e1 _ _ hb
      have n1 : b ≠ dx := ne_of_none hb1 hdx'
      have n2 : b ≠ a := ne_of_none hb1 ha
      rw [upd_ne n1, del_ne n2, upd_ne n2, upd_ne n1, upd_ne n2]
      exact hb1⟩⟩
end WF

set_option Elab.async false
set_option linter.all false
set_option maxRecDepth 100000
set_option maxHeartbeats 4000000
/-! WHot: while an exception is handled: the end of a list's walk, all(..), a list comprehension over range(n) -/
namespace WF
open PySem L2 Evl PyProof.Rows PySem.Spec
section
variable {prog : Program} {w : World} {A : Around} {E : Value → Shared → Prop} {s : Shared}
theorem hot_listEnd {I l x1 : Addr} {i : Nat} {its : Array Value} {Q : Option Value → Shared → Prop} (hot : HotX.HotAt A x1 s.heap) (hI : s.heap.IsListIter I l i) (hl : s.heap.IsList l its) (hn : x1 ≠ I) (hx : its[i]? = none)
    (k : ∀ h', (∀ b o, b ≠ I → s.heap.get? b = some o → h'.get? b = some o) → Q none { s with heap := h' }) : wpAny (model prog w) A (pyNext (.ref I)) Q E s := by
  obtain ⟨oI, gI, cI, dI⟩ := id hI
  obtain ⟨oL, gL, _, nL, dL⟩ := hl
  obtain ⟨hh, oX, vX, gX, dX, cX⟩ := hot
  unfold pyNext
  refine wpAny_bind (wpAny_attempt (wpAny_callSpecial?_slot (name := Str.ofString "__next__") hI.typeIs slot_listiter_next (wpAny_call_entry slot_listiter_next hI.typeIs entry_listiter_next ?_ (args_listiter_next _))))
  show wpAny _ _ (field (.ref I) 0 >>= fun _ => _) _ _ s
  refine wpAny_bind (wpAny_field gI dI (x := .ref l) rfl ?_)
  show wpAny _ _ (if (Value.ref l == Value.none) = true then (_ : Sem _) else _) _ _ s
  rw [if_neg (show ¬ (Value.ref l == Value.none) = true from Bool.false_ne_true)]
  show wpAny _ _ (field (.ref I) 1 >>= fun _ => _) _ _ s
  refine wpAny_bind (wpAny_field gI dI (x := .int i 0) rfl ?_)
  show wpAny _ _ (seqItems? (.ref l) >>= fun _ => _) _ _ s
  refine wpAny_bind (wpAny_seqItems gL dL ?_)
  simp only [Int.toNat_natCast, hx]
  refine wpAny_bind (wpAny_rule (wpAny_bind (wpAny_setField gI dI (by simp) ?_)))
  show wpAny _ _ (newExc (.type "StopIteration") [] >>= fun _ => _) _ _ _
  refine wpAny_bind ?_
  simp only [newExc, newTuple]
  refine wpAny_bind (wpAny_newObj_type ?_ (by size_fits))
  refine wpAny_bind (m := firstArgMember _ _) (wpAny_of_eq (a := Value.none) (by first | rfl | (simp only [firstArgMember]; rfl)) (wpAny_newObj_type ?_ (by size_fits)))
  generalize hu : s.heap.update I _ = hU
  have keepU : ∀ b o, b ≠ I → s.heap.get? b = some o → hU.get? b = some o := fun b o hb e => by
    rw [← hu, Heap.get?_update_other _ _ (Ne.symm hb)]
    exact e
  have gX1 := keepU _ _ hn gX
  refine HotX.raiseNew_hot ⟨hh, oX, vX, Heap.get?_push_of_some _ (Heap.get?_push_of_some _ gX1), dX, cX⟩ (Nat.ne_of_lt (Heap.lt_size (Heap.get?_push_of_some _ gX1))) (Heap.get?_push_size _ rfl) rfl (by first | (simp; done) | (simp; omega)) ?_
  refine wpAny_bind (wpAny_isInstance (T := "StopIteration") (b := true) ⟨_, Heap.get?_update_self _ (Heap.get?_push_size _ rfl) rfl, rfl⟩ isSubtype_stop (wpAny_pure (k _ fun b o hb e => ?_)))
  have e1 := keepU b o hb e
  rw [Heap.get?_update_other _ _ (Nat.ne_of_gt (Heap.lt_size (Heap.get?_push_of_some _ e1)))]
  exact Heap.get?_push_of_some _ (Heap.get?_push_of_some _ e1)
theorem hot_walk {x1 : Addr} {oX : Obj} {vX : Array Value} (hh : A.handled = some (.ref x1)) (dX : oX.data = .fields vX) (cX : vX[2]? = some .none) (I ax : Addr) (ne : ax ≠ I) (nx : x1 ≠ I) (its : Array Value) :
    Walks prog w A I [I, ax, x1] [I] its.size (fun i v => its[i]? = some v) (fun i h => (h.IsListIter I ax i ∧ h.IsList ax its) ∧ h.get? x1 = some oX) where
  sub := fun b hb => List.mem_cons.mpr (.inl (by simpa using hb))
  frame := fun _ _ _ st hk => ⟨⟨st.1.1.at fun o e => hk I (by simp) o e, st.1.2.at fun o e => hk ax (by simp) o e⟩, hk x1 (by simp) _ st.2⟩
  item := fun i s Q E hi st hQ => by
    refine wpAny_pyNext_list_item st.1.1 st.1.2 (x := its[i]) (by simp [hi]) fun h' hI' sb => ?_
    have kb : ∀ b o, b ≠ I → s.heap.get? b = some o → h'.get? b = some o := fun b o hb e => sb.extBut b o hb e
    exact hQ _ h' s.toks (by simp [hi]) ⟨⟨hI', st.1.2.extBut sb.extBut ne⟩, kb _ _ nx st.2⟩ fun b o hb e => kb b o (fun z => hb (by simp [z])) e
  done := fun s Q E st hQ => hot_listEnd ⟨hh, oX, vX, st.2, dX, cX⟩ st.1.1 st.1.2 nx (by simp) fun h' k => hQ h' s.toks fun b o hb e => k b o (fun z => hb (by simp [z])) e
  self := fun _ _ _ _ st hQ => wpAny_pyIter_listiter st.1.1 hQ
end
/-- all(..) of a list of truths, an exception handled -/
theorem cr_allH {X : Cx} (hc : L2H.HotC X) : CallR X (.builtin "all") (rAll X.K) := fun pins s σ H vs us Q I r h => by
  obtain ⟨a, bs, rfl, hs, q⟩ := h
  obtain ⟨its, rv, hl, _⟩ := I.list hs
  obtain ⟨p, ⟨hh, vX, dX, cX⟩, hp⟩ := hc
  have gX := (I.pin p (List.mem_append_left _ hp)).1
  rw [Vals.ref1 r]
  have hb := rv.bls
  refine call_all_walk (iter_any hl.isList fun s2 e2 st hne => ?_)
  subst e2
  refine ⟨_, _, _, _, _, _, _, rfl, hot_walk (A := X.A.in1) hh dX cX _ a hne (Nat.ne_of_lt (Heap.lt_size gX)) its.toArray, ⟨st, Heap.get?_push_of_some _ gX⟩, truth_bools hb, fun h' tk hk => ⟨.bl _, H, I.kept fun b o eo => hk b o (fun hm => ?_) (Heap.get?_push_of_some _ eo), ?_, q⟩⟩
  · have e1 : b = s.heap.objs.size := by simpa using hm
    exact absurd (e1 ▸ Heap.lt_size eo) (Nat.lt_irrefl _)
  · show Value.bool _ = Value.bool _
    rw [← L2.all_range, hb, List.size_toArray, List.length_map]
/-! a list comprehension -/
/-- the block's context: it bears the exception's pin -/
abbrev blkH (X : Cx) (p : Addr × Obj) (s : Shared) (H : Hp) (scope : Scope) (ce : Env) (fp : List Addr) : Cx := (X.blk s H scope ce fp).tr [p] (fun _ _ => False)
section
variable {X : Cx} {p : Addr × Obj}
/-- what a rule of the block asks of each of its contexts -/
abbrev InBlk (X : Cx) (p : Addr × Obj) (scope : Scope) (R : Cx → Prop) : Prop := ∀ (s : Shared) (H : Hp) (C : Addr) (cl : List (Str × Addr)) (fp : List Addr), R (blkH X p s H scope (compEnvC scope cl C X.env) fp)
theorem lc_hot {pins : List (Addr × Obj)} {s : Shared} {σ : L2.St} {H : Hp} {Q : VK} {elt tg iter : Expr} {ifs : List Expr} {scope : Scope} {own : List (Str × Nat)} {pos pos' : Pos} {wi : TI} {g : TG} {tt : TT} {te : TE} {use : Option (Value → Sem Unit)} {Qf : Value → Shared → Prop}
    (hp : L2H.Hot1 X.A p ∧ p ∈ X.pn) (hN : X.N.Nodup) (I : Inv X pins σ H s) (hi : L2H.PIH X tg iter wi) (ok : BlkOk X.N X.env.scope scope own) (hg : InBlk X p scope fun Y => PG Y tg g) (ht : InBlk X p scope fun Y => PTs Y ifs tt) (he : InBlk X p scope fun Y => PE Y elt te)
    (hs : ∀ x, foldedSetIterable iter X.env x = pure x) (h : tLc wi g tt te (own.map (·.2)) σ H Q)
    (kk : ∀ D C s' m H', Inv X pins σ H' s' → Q (.ref D) H' → s'.heap.Ns C m → FpOk X pins H' C → compPost (model X.prog X.w) X.A X.xe use Qf (.ref D) C (.ok .next) s') :
    wpAny (model X.prog X.w) X.A (comprehension (.ListComp elt [⟨tg, iter, ifs, 0⟩] scope pos) scope X.env pos' (newList []) false (eval iter X.env) use) Qf X.xe s := by
  have fr : ∀ y ∈ scope.names, y.2 = .free → ∃ c, X.env.cells.lookup y.1 = some c := fun y hy e => (ok.free y hy e).elim (fun z => I.ok.has _ (.inl z)) (fun z => I.ok.has _ (.inr z))
  refine wpAny_comprehension_free (use := use) rfl hs (closure_ok fr) ok.kind (fun y hy e => by rw [ok.uniq y hy, e]) (thn (hi.run pins s σ H _ I h) fun xv s1 hx => thn hx fun itv s2 ⟨it, fp, tn, J, H2, e, I2, T, st2, f2, q⟩ => ?_)
  subst e
  refine wpAny_newObj_type (newEnv_comp ?_) (by show 0 ≤ sizeLine; decide)
  generalize hD : s2.heap.objs.size = D
  have dn : H2 D = none := I2.hok.fresh (Nat.le_of_eq hD)
  obtain ⟨W, ⟨m0, w0⟩, turn⟩ := q D dn
  generalize hu : ({ s2 with heap := s2.heap.push { cls := .type "list", data := .seq ([] : List Value).toArray } } : Shared) = u3
  have hh3 : u3.heap = s2.heap.push { cls := .type "list", data := .seq ([] : List Value).toArray } := by rw [← hu]
  have I3 : Inv X pins σ (upd H2 D (.lst [])) u3 := by
    rw [← hu]
    exact I2.laid (t' := s2.toks) (fun b o e => Heap.get?_push_of_some _ e) (Nat.le_of_eq hD) ⟨Nat.zero_le _, [], 0, .nil, by rw [← hD]; exact Heap.get?_push_size _ rfl⟩
  have f3 : ∀ b ∈ fp, FpOk X pins (upd H2 D (.lst [])) b ∧ b < u3.heap.objs.size := fun b hb => by
    obtain ⟨o, e, _⟩ := T.obj _ _ st2 b hb
    have lt := Heap.lt_size e
    exact ⟨⟨by rw [upd_ne (by rw [← hD]; exact Nat.ne_of_lt lt)]; exact (f2 b hb).1, (f2 b hb).2⟩, by rw [hh3, Heap.size_push]; exact Nat.lt_succ_of_lt lt⟩
  have st3 : tn 0 u3.heap := T.keep _ _ _ st2 fun b _ o e => by rw [hh3]; exact Heap.get?_push_of_some _ e
  have I4' := block_start I3 ok hN f3
  have P3 := I3.pin p (List.mem_append_left _ hp.2)
  generalize hc : compEnvC scope (cellsFrom (u3.heap.objs.size + 1) scope.names (cloFrom X.env.cells scope.names [])) u3.heap.objs.size X.env = ce at I4'
  have cL : ce.locals = u3.heap.objs.size := by subst hc; rfl
  have pg := hg u3 (upd H2 D (.lst [])) u3.heap.objs.size (cellsFrom (u3.heap.objs.size + 1) scope.names (cloFrom X.env.cells scope.names [])) fp
  have pt := ht u3 (upd H2 D (.lst [])) u3.heap.objs.size (cellsFrom (u3.heap.objs.size + 1) scope.names (cloFrom X.env.cells scope.names [])) fp
  have pe := he u3 (upd H2 D (.lst [])) u3.heap.objs.size (cellsFrom (u3.heap.objs.size + 1) scope.names (cloFrom X.env.cells scope.names [])) fp
  show codeAny _ _ (.compStart (.ListComp elt [⟨tg, iter, ifs, 0⟩] scope pos) 0 (.ref it) (.ref D) (compEnvC scope (cellsFrom (u3.heap.objs.size + 1) scope.names (cloFrom X.env.cells scope.names [])) u3.heap.objs.size X.env)) (compPost (model X.prog X.w) X.A X.xe use Qf (.ref D) u3.heap.objs.size) { u3 with heap := pushCells (u3.heap.push { cls := .type "dict", data := .dict #[] }) scope.names }
  rw [hc] at pg pt pe ⊢
  have n3 : ∀ b ∈ fp, (upd H2 D (.lst [])) b = none := fun b hb => (f3 b hb).1.1
  generalize hH3 : upd H2 D (.lst []) = H3 at I3 I4' pg pt pe w0 n3 f3 P3
  have keep4 : ∀ b o, u3.heap.get? b = some o → (pushCells (u3.heap.push { cls := .type "dict", data := .dict #[] }) scope.names).get? b = some o := fun b o e => pushCells_keeps _ _ _ _ (Heap.get?_push_of_some _ e)
  have hHot : L2H.HotC (blkH X p u3 H3 scope ce fp) := ⟨p, hp.1, List.mem_cons_self⟩
  have I4 : Inv (blkH X p u3 H3 scope ce fp) [] (wipe σ (own.map (·.2))) H3 { u3 with heap := pushCells (u3.heap.push { cls := .type "dict", data := .dict #[] }) scope.names } :=
    ⟨I4'.ok.toTry _ _, I4'.os, I4'.bare, I4'.base, I4'.loc, I4'.cell, I4'.free, I4'.freeC, fun q hq => by
      have eq : q = p := by simpa using (show q ∈ [p] ++ ([] : List (Addr × Obj)) from hq)
      subst eq
      refine ⟨keep4 _ _ P3.1, P3.2.1, fun z => ?_, fun z => ?_, P3.2.2.2.2⟩
      · have z : q.1 = ce.locals := z
        rw [cL] at z
        exact absurd (Heap.lt_size P3.1) (by rw [z]; exact Nat.lt_irrefl _)
      · exact (List.mem_cons.mp (I3.stkSub q.1 z)).elim P3.2.2.1 P3.2.2.2.1, I4'.hok, I4'.len⟩
  generalize hs4 : ({ u3 with heap := pushCells (u3.heap.push { cls := .type "dict", data := .dict #[] }) scope.names } : Shared) = u4 at I4 ⊢
  have st4 : tn 0 u4.heap := T.keep _ _ _ st3 fun b _ o e => by rw [← hs4]; exact keep4 _ _ e
  have np : ∀ b ∈ fp, p.1 ≠ b := fun b hb => (f3 b hb).1.2.2.2.2.2 p (List.mem_append_left _ hp.2)
  have stay : ∀ {σ' : L2.St} {H' : Hp} {s' : Shared}, Inv (blkH X p u3 H3 scope ce fp) [] σ' H' s' → (∀ b ∈ fp, H' b = none) → ∀ b ∈ fp, FpOk (blkH X p u3 H3 scope ce fp) [] H' b := fun {σ' H' s'} I' hn b hb =>
    ⟨hn b hb, (I'.ok.exf b hb).1, I'.ok.exfs b hb, .inl hb, fun x c e => (I'.ok.exf b hb).2 x c e, fun q hq => by
      have eq : q = p := by simpa using (show q ∈ [p] ++ ([] : List (Addr × Obj)) from hq)
      rw [eq]
      exact np b hb⟩
  have loop : codeAny (model X.prog X.w) X.A (.compLoop (.ListComp elt [⟨tg, iter, ifs, 0⟩] scope pos) 0 (.ref it) (.ref D) ce) (compPost (model X.prog X.w) X.A X.xe use Qf (.ref D) u3.heap.objs.size) u4 := by
    refine compLoop_any (fun n s' => ∃ i H', Inv (blkH X p u3 H3 scope ce fp) [] (wipe σ (own.map (·.2))) H' s' ∧ tn i s'.heap ∧ (∀ b ∈ fp, H' b = none) ∧ W i n H') ?_ m0 ⟨0, H3, I4, st4, n3, w0⟩
    rintro n s5 ⟨i, H5, I5, st5, n5, w5⟩
    rcases turn i n H5 w5 with ⟨stop, qq⟩ | ⟨go, Nx, hNx, step⟩
    · refine thnF (T.done (blkH X p u3 H3 scope ce fp) rfl rfl rfl hHot i [] s5 _ H5 (fun _ _ => False) I5 (stay I5 n5) st5 stop) fun r s6 ⟨hr, I6⟩ => ?_
      subst hr
      have I7 : Inv X pins σ H5 s6 := I3.call' (ch := fp) I6.os I6.base I6.hok I6.bare fun b hb => ⟨(f3 b hb).1.2.2.2.1, (f3 b hb).1.2.1, (f3 b hb).1.2.2.2.2.1, (f3 b hb).1.2.2.2.2.2⟩
      have nC : H5 u3.heap.objs.size = none := cL ▸ (show H5 ce.locals = none from I6.free)
      obtain ⟨m, hn, _⟩ := I6.loc
      have hn : s6.heap.Ns u3.heap.objs.size m := cL ▸ (show s6.heap.Ns ce.locals m from hn)
      exact kk D u3.heap.objs.size s6 m H5 I7 qq hn (I3.fpOk (Nat.le_refl _) nC)
    · refine thnF (T.item (blkH X p u3 H3 scope ce fp) rfl rfl rfl hHot i [] s5 _ H5 (fun _ _ => False) I5 (stay I5 n5) st5 go) fun r s6 ⟨u, hr, h6⟩ => ?_
      subst hr
      refine thnF h6 fun _ s7 ⟨x, H7, I7, r7, y7, st7, n7⟩ => ?_
      refine thnF (pg.run _ s7 _ H7 x u _ (I7.pinned (stay I7 n7) (T.obj _ _ st7)) r7 (step x H7 y7)) fun _ s8 ⟨σ8, H8, I8, hw8, q8⟩ => ?_
      refine thnF (pt.run _ s8 σ8 H8 _ I8 q8) fun b s9 ⟨H9, I9, q9⟩ => ?_
      have fin : ∀ {s' : Shared} {H' : Hp}, Inv (blkH X p u3 H3 scope ce fp) ([] ++ pinsAt fp s7.heap) σ8 H' s' → Nx H' → ∃ m, m < n ∧ ∃ i H', Inv (blkH X p u3 H3 scope ce fp) [] (wipe σ (own.map (·.2))) H' s' ∧ tn i s'.heap ∧ (∀ b ∈ fp, H' b = none) ∧ W i m H' := fun {s' H'} I' nx => by
        obtain ⟨m', hm, w'⟩ := hNx H' nx
        have pin' : ∀ b ∈ fp, ∀ o, s7.heap.get? b = some o → s'.heap.get? b = some o ∧ H' b = none := fun b hb o e => (fun z => ⟨z.1, z.2.1⟩) (I'.pin (b, o) (List.mem_append_right _ (List.mem_append_right _ (mem_pinsAt hb e))))
        refine ⟨m', hm, i + 1, H', (I'.unpinned (pins := [])).weak (by rw [← hw8, wipe_length]) (fun j v e => by rw [← hw8] at e; exact (wipe_some e).1), T.keep _ _ _ st7 fun b hb o e => (pin' b hb o e).1, fun b hb => ?_, w'⟩
        obtain ⟨o, e, _⟩ := T.obj _ _ st7 b hb
        exact (pin' b hb o e).2
      cases b with
      | false =>
        simp only [Bool.false_eq_true, if_false] at q9 ⊢
        exact fin I9 q9
      | true =>
        simp only [if_true] at q9 ⊢
        exact thnF (pe.run _ s9 σ8 H9 _ I9 q9) fun z s10 ⟨yv, H10, I10, r10, acc, hD10, hz10, nx⟩ => app_ok (X := blkH X p u3 H3 scope ce fp) I10 hD10 hz10 r10 fun s11 I11 => fin I11 nx
  exact codeAny_compStart_list loop (T.self X.A 0 _ _ _ st4 loop)
/-- as a value -/
theorem pe_lcH {elt tg iter : Expr} {ifs : List Expr} {scope : Scope} {own : List (Str × Nat)} {pos : Pos} {wi : TI} {g : TG} {tt : TT} {te : TE} (hp : L2H.Hot1 X.A p ∧ p ∈ X.pn) (hN : X.N.Nodup) (hi : L2H.PIH X tg iter wi) (ok : BlkOk X.N X.env.scope scope own)
    (hg : InBlk X p scope fun Y => PG Y tg g) (ht : InBlk X p scope fun Y => PTs Y ifs tt) (he : InBlk X p scope fun Y => PE Y elt te) (hs : ∀ x, foldedSetIterable iter X.env x = pure x := by intro _; rfl) :
    PE X (.ListComp elt [⟨tg, iter, ifs, 0⟩] scope pos) (tLc wi g tt te (own.map (·.2))) := ⟨fun pins s σ H Q I h => by
  rw [eval_ListComp]
  exact lc_hot hp hN I hi ok hg ht he hs h fun D C s' m H' I' q hn ⟨f0, f1, f2, f3, f4, f5⟩ => ⟨m, hn, fun h'' sb => ⟨.ref D, H', I'.turned (t' := s'.toks) (fun b o hb e => (sb.2 b hb).trans e) f0 f1 f3 f4 f5, rfl, q⟩⟩⟩
end
end WF

set_option Elab.async false
set_option linter.all false
set_option maxRecDepth 100000
set_option maxHeartbeats 4000000
/-! WHotE: an own error with its context told (L2N): raised; handed to a def within the suite that holds it -/
namespace WF
open PySem L2 Evl PyProof.Rows PySem.Spec
/-! ### raised -/
section
variable {X : Cx}
theorem pmkN_own0 {C : Addr} {bmB : List Value} {B newId initId : String} {x : Str} {p pos : Pos} (F : ExcBaseFacts B newId initId bmB) (q : PySem.W.excIn X.K C bmB newId = true) (gC : X.mg x = some (.ref C))
    (kC : PySem.W.keepIn X.K (.ref C) = true) (r : Raises X (.ref C)) (hg : Gl X x) (hdb : (x == ("__debug__" : Str)) = false := by decide) : L2N.PMk X (.Call (.Name x p) [] [] pos) (fun _ H Q => Q (.ref C) none H) := by
  intro pins s σ H Q I h
  refine wpAny_Call_Name_kw (ld_glob I hg gC (PySem.W.callWith_K0 I.kIn kC ?_) hdb)
  obtain ⟨bm, N, nm, qn, bs, hdct, sn, sub, ab, col, dd, k0, k1, k2, k3, k5, mN, hC, hN, hni, T⟩ := exc_obj I.kIn q
  exact wpAny_call_exc_subT F T hC hN hni (fun h' e hm => L2N.mk_of I hm r h (I.hok.gone hm.new)) (Nat.zero_le _)
theorem ps_raise0N {W : WX} {C : Addr} {x : Str} {p pos pos2 : Pos} (hc : X.calm = true) (tk : L2N.Takes X W) (h : Err X.K C) (gC : X.mg x = some (.ref C)) (hg : Gl X x) (hdb : (x == ("__debug__" : Str)) = false := by decide) :
    PS X (.Raise (some (.Call (.Name x p) [] [] pos)) none pos2) (fun _ σ H => W (.ref C) none σ H) :=
  L2N.ps_raise hc tk (pmkN_own0 PySem.F.excBase_ValueError h.ex gC h.kp (raises_own h.be h.ty) hg hdb)
theorem mkN_end {pins : List (Addr × Obj)} {σ : L2.St} {H1 H2 : Hp} {Q : XK} {hp hp2 h2 : Heap} {g1 g2 : Array GenState} {d1 d2 : Drawn} {t1 t2 : Nat} {os1 os2 : OsState} {a C d : Addr} {fs : List (Str × V)} (R : Raises X (.ref C)) (I1 : Inv X pins σ H1 ⟨hp, g1, d1, t1, os1⟩)
    (ha : hp.objs.size ≤ a) (k : ∀ b o, hp.get? b = some o → hp2.get? b = some o) (un : Un (frs X.stack) [] (upd H1 a (exo a C none)) H2 hp2 h2) (hok : HOk X.prog X.w H2 h2) (ho : os2 = os1) (hb : AllBare g2)
    (ea : H2 a = some (exo a C (some d))) (ed : H2 d = some (exd d fs)) (hd1 : H1 d = none) (q : Q (.ref C) (some d) (upd (del H2 a) d (.xd fs))) : L2N.MkP X pins σ Q (.ref a) ⟨h2, g2, d2, t2, os2⟩ := by
  obtain ⟨t0, G, J, kG, ge, hoe, na⟩ := mk_end0 (d2 := d2) (t2 := t2) I1 ha k un hok ho hb ea ed hd1
  exact ⟨a, _, _, ⟨G, g2, d2, t2, os2⟩, _, .ref C, some d, rfl, J, kG, ge, hoe, ⟨rfl, rfl, fun vs e => by cases e; rfl⟩, rfl, rfl, na, rfl, hb, R, q⟩
/-- C(e, ..) by C's own __init__ -/
theorem pmkN_oex {CX : CXT} {x : Str} {C fI : Addr} {k : Nat} {fd : FuncData} {ps : List Str} {sp : Sp} {e : Expr} {es : List Expr} {ta : TA} {p pos : Pos} (T : OexC X.K C) (iC : PySem.W.findIn X.K (.ref C) "__init__" = some (some (.ref fI))) (tI : PySem.W.typeIn X.K (.ref fI) = some (.type "function"))
    (F1 : FnOk X.prog X.w X.K X.mg X.base CX k fI fd ps sp) (hr : Room (k + 1) X.A) (hb : Binds X.K fd ps []) (hx : Passes CX X (fun _ _ _ => False)) (hg : Gl X x) (hm : X.mg x = some (.ref C)) (ha : PA X (e :: es) ta) (hdb : (x == ("__debug__" : Str)) = false := by decide)
    (he : starEach (e :: es) X.env = (false, eval e X.env) :: starEach es X.env := by rfl) (hpl : (backTo pos (starEach es X.env)).any (·.1) = false := by rfl) : L2N.PMk X (.Call (.Name x p) (e :: es) [] pos) (tMkO C sp [] ta) := fun pins s σ H Q I h => by
  obtain ⟨nm, q, N, bs, bm, sn, sub, ab, col, dd, k0, k1, k2, k3, k5, hC, hbm⟩ := T.cls
  refine wpAny_Call_Name_kw (ld_glob I hg hm (PySem.W.callWith_K (h₀ := X.base) I.ok.mod.kin T.kC (thn (ha.run pos pins s σ H _ I h) fun us s1 ⟨vs, H1, I1, r1, hz, q1⟩ => ⟨I1.kIn, ?_⟩) he hpl) hdb)
  show wpAny _ _ (call (.ref C) us) _ _ s1
  obtain ⟨hp, g, dr, tk, os⟩ := s1
  have up1 : hp.objs.size ≤ hp.objs.size + 1 := Nat.le_succ _
  have hq := q1 (hp.objs.size + 1) (I1.hok.fresh up1)
  have kk : ∀ b o, hp.get? b = some o → ((hp.push (PySem.W.kdv_tup us)).push (PySem.HandSPX.excO C hp.objs.size)).get? b = some o := fun b o e => Heap.get?_push_of_some _ (Heap.get?_push_of_some _ e)
  have gE : ((hp.push (PySem.W.kdv_tup us)).push (PySem.HandSPX.excO C hp.objs.size)).get? (hp.objs.size + 1) = some (PySem.HandSPX.excO C hp.objs.size) := by heap_get
  have I2 : Inv X pins σ (upd H1 (hp.objs.size + 1) (exo (hp.objs.size + 1) C none)) ⟨(hp.push (PySem.W.kdv_tup us)).push (PySem.HandSPX.excO C hp.objs.size), g, dr, tk, os⟩ := I1.laid (t' := tk) (a := hp.objs.size + 1) (o := exo (hp.objs.size + 1) C none) kk up1 (exo_ok gE)
  have r2 : Vals (V.ref (hp.objs.size + 1) :: (vs ++ [])) (Value.ref (hp.objs.size + 1) :: us) := .cons rfl (by rw [List.append_nil]; exact r1)
  have b := hb _ (Value.ref (hp.objs.size + 1) :: us) I2.kIn (by rw [List.append_nil]; exact r2.length.symm.trans (F1.len _ _ _ _ hq))
  rw [List.append_nil] at b
  have hus : us.length ≤ sizeLine := by rw [← Paired.length r1]; exact Evl.sz_of (Nat.le_trans hz (by decide))
  refine wpAny_call (PySem.HandSPX.call_own F.excBase_ValueError (fun Y => PySem.HandSPX.refsVE_contains Y bm hbm) (I1.kIn _ _ hC) (PySem.W.looks_findIn I1.kIn iC) (fun self => PySem.W.bind_fn I1.kIn self tI) hus (codeAny_mono (F1.run _ X.stack _ _ ⟨Value.ref (hp.objs.size + 1) :: us, []⟩ (Value.ref (hp.objs.size + 1) :: us) _ _ (fun _ _ _ => False) (hr.make C us []) (I2.env0.make C us []) b r2 hq) fun r s' hq' => ?_))
  cases r with
  | error er => exact hx pins σ _ _ er s' I2 hq'
  | ok fl =>
    cases fl with
    | ret u =>
      obtain ⟨v, H2, os2, bare2, un2, hok2, rv, ev, d, fs, ea, ed, hd1, q2⟩ := hq'
      subst ev
      obtain ⟨h2, g2, d2, t2, os'⟩ := s'
      exact ⟨rv, mkN_end (raises_own T.exC T.tyC) I1 up1 kk un2 hok2 os2 bare2 ea ed hd1 q2⟩
    | next => exact False.elim hq'
    | brk => exact False.elim hq'
    | cont => exact False.elim hq'
theorem ps_raiseSN {C : Addr} {k : Nat} {sp : Sp} {x : Str} {e : Expr} {es : List Expr} {p pos pos2 : Pos} {ta : TA} {W : WX} (hc : X.calm = true) (tk : L2N.Takes X W) (M : MnE X.prog X.w X.K X.mg X.base C k sp) (hr : Room (k + 1) X.A) (gC : X.mg x = some (.ref C)) (hg : Gl X x) (ha : PA X (e :: es) ta)
    (hdb : (x == ("__debug__" : Str)) = false := by decide) (he : starEach (e :: es) X.env = (false, eval e X.env) :: starEach es X.env := by rfl) (hpl : (backTo pos (starEach es X.env)).any (·.1) = false := by rfl) :
    PS X (.Raise (some (.Call (.Name x p) (e :: es) [] pos)) none pos2) (fun _ σ H => tMkO C sp [] ta σ H fun cls d H' => W cls d σ H') := by
  obtain ⟨f, fd, ps, h1, h2, h3, h4⟩ := M.ex
  exact L2N.ps_raise hc tk (pmkN_oex M.ox h1 h2 h3 hr h4 (fun _ _ _ _ _ _ _ z => z.elim) hg gC ha hdb he hpl)
theorem takes0N {X : Cx} : L2N.Takes X (fun _ _ _ _ => False) := fun _ _ x => by
  obtain ⟨_, _, _, _, _, _, _, _, _, _, _, _, _, _, _, _, z⟩ := x
  exact z.elim
end
theorem raise2 {C : Addr} {f g : Str} {σ : L2.St} {H : Hp} {ta : TA} {u v : V} {W : WX} (h : EvA ta σ H [u, v]) (k : ∀ d H2, Ex H H2 → H d = none → H2 d = some (.xd [(g, v), (f, u)]) → W (.ref C) (some d) σ H2) : tMkO C (spE2 C f g) [] ta σ H (fun cls d H' => W cls d σ H') :=
  h H (Ex.refl H) _ fun H1 e1 => ⟨by show 2 ≤ 1000; decide, fun a ha => ⟨a, u, v, rfl, upd_same, fun dx hdx hne => by
    have hdx' : H1 dx = none := by
      rw [upd_ne hne] at hdx
      exact hdx
    refine ⟨rfl, dx, [(g, v), (f, u)], ?_, upd_same, hdx', k dx _ (fun b o hb => ?_) (fresh_back e1 hdx') upd_same⟩
    · rw [upd_ne (Ne.symm hne)]
      exact upd_same
    · have hb1 := e1 _ _ hb
      have n1 : b ≠ dx := ne_of_none hb1 hdx'
      have n2 : b ≠ a := ne_of_none hb1 ha
      rw [upd_ne n1, del_ne n2, upd_ne n1, upd_ne n2, upd_ne n1, upd_ne n2]
      exact hb1⟩⟩
/-! ### a def that is handed the exception: its promise by the exception's place, class, dict -/
abbrev SpE := Addr → Value → Option Addr → Sp
structure FnE (P : Program) (w : World) (K : PySem.W.Frag) (mg : Str → Option Value) (base : Heap) (CX : CXT) (k : Nat) (f : Addr) (fd : FuncData) (ps : List Str) (sp : SpE) : Prop where
  len : ∀ a cls d vs H Q E, sp a cls d vs H Q E → vs.length = ps.length
  run : ∀ (p : Addr × Obj) (cls : Value) (d : Option Addr) (A : Around) (outer : List Env) (s : Shared) (H : Hp) (args : Args) (us : List Value) (vs : List V) (Q : VK) (E : XK), L2H.RoomH k A → L2H.Hot1 A p → Zc cls d p.2 → L2H.PinOk outer H s p → Env0 P w K mg base A outer s H → BindsTo s fd args (ps.zip us) → Vals vs us →
    sp p.1 cls d vs H Q E → codeAny (model P w) A (.call (.ref f) args) (CR CX outer P w H s Q E) s
theorem fn_ofE {CX : CXT} {P : Program} {w : World} {K : PySem.W.Frag} {mg : Str → Option Value} {base : Heap} {k : Nat} {f : Addr} {name qual : Str} {params : Arguments} {body : List Stmt} {scope : Scope} {dV kV doc pm cdv ct oc : Value} {an od : Option Addr} {osl : Array (Option Value)} {N ps : List Str} {sp : SpE}
    (lk : K.lookup f = some ⟨oc, od, .func (PySem.W.fnOf name qual params body scope dV kV doc pm an cdv ct), osl⟩) (hcd : PySem.W.codeIn K cdv qual = true) (S : FnScope N ps scope) (len : ∀ a cls d vs H Q E, sp a cls d vs H Q E → vs.length = ps.length)
    (hbody : ∀ (p : Addr × Obj) (cls : Value) (d : Option Addr) (A : Around) (outer : List Env) (s : Shared) (H : Hp) (vs : List V) (Q : VK) (E : XK), L2H.Hot1 A p → Zc cls d p.2 → L2H.RoomH k (A.deeper (envOfC qual scope s.heap.objs.size f cdv)) → sp p.1 cls d vs H Q E →
      ∃ t, PSs (L2H.cxH CX P w K mg base N qual scope f cdv A outer s H E p) body t ∧ t { nx := fun _ H' => Q .non H', rt := Q } (L2.start N vs) H) : FnE P w K mg base CX (k + 1) f (PySem.W.fnOf name qual params body scope dV kV doc pm an cdv ct) ps sp := by
  refine ⟨len, fun p cls d A outer s H args us vs Q E hr hot hz hpin e0 hb r hsp => ?_⟩
  have kp : ∀ b o, base.get? b = some o → s.heap.get? b = some o := fun b o e => (e0.bs b o e).1
  have lim : s.heap.NoLimit := e0.mod.nolimit.keeps kp
  have KX : K.In s.heap := e0.mod.kin.keeps kp
  refine codeAny_call_function hr.depth (KX _ _ lk) rfl S.co S.gen rfl (PySem.W.codeRec_of KX hcd) (hb _ _ _ _ (wpAny_newFunctionEnv_cells S.kind (fun y hy => (S.par y.1 (List.of_mem_zip hy).1).imp id fun q => ⟨q, PySem.W.cellsFrom_some _ _ _ (.inl q)⟩) fun env he s1 x => ?_))
  subst he
  obtain ⟨t, ht, hq⟩ := hbody p cls d A outer s H vs Q E hot hz (hr.deeper _) hsp
  refine ⟨lim.keeps x.toInCall.keep, codeAny_func (wpAny_mono (ht.run [] s1 (L2.start N vs) H _ (L2H.inv_startH S hpin e0 (len _ _ _ _ _ _ _ hsp) r x) hq) (fun fl s' hs => ?_) fun e s' hs => hs)⟩
  cases fl with
  | ret u =>
    obtain ⟨v, σ', H', J, rv, q⟩ := hs
    exact ⟨v, H', J.os, J.bare, J.base, J.hok, rv, q⟩
  | next =>
    obtain ⟨σ', H', J, q⟩ := hs
    exact ⟨.non, H', J.os, J.bare, J.base, J.hok, rfl, q⟩
  | brk => exact hs.elim fun _ ⟨_, _, q⟩ => False.elim q
  | cont => exact hs.elim fun _ ⟨_, _, q⟩ => False.elim q
structure DnE (P : Program) (w : World) (K : PySem.W.Frag) (mg : Str → Option Value) (base : Heap) (x : Str) (k : Nat) (ps : List Str) (sp : SpE) : Prop where
  ex : ∃ (f : Addr) (fd : FuncData), mg x = some (.ref f) ∧ PySem.W.keepIn K (.ref f) = true ∧ FnE P w K mg base CX0 k f fd ps sp ∧ Binds K fd ps []
structure DnH (P : Program) (w : World) (K : PySem.W.Frag) (mg : Str → Option Value) (base : Heap) (x : Str) (k : Nat) (ps : List Str) (sp : Sp) : Prop where
  ex : ∃ (f : Addr) (fd : FuncData), mg x = some (.ref f) ∧ PySem.W.keepIn K (.ref f) = true ∧ L2H.FnH P w K mg base CX0 k f fd ps sp ∧ Binds K fd ps []
section
variable {P : Program} {w : World} {K : PySem.W.Frag} {mg : Str → Option Value} {base : Heap} {x qual : Str} {st : Stmt} {f : Addr} {fd : FuncData} {N ps : List Str} {k : Nat}
theorem FunAt.dnE {sp : SpE} (F : FunAt K mg x st ps) (h : ∀ f fd, Fun K x x st f fd → FnE P w K mg base CX0 k f fd ps sp) : DnE P w K mg base x k ps sp := by
  obtain ⟨f, fd, h1, h2, h3⟩ := F.ex
  exact ⟨f, fd, h1, h2.kp, h f fd h2, h3⟩
theorem FunAt.dnH {sp : Sp} (F : FunAt K mg x st ps) (h : ∀ f fd, Fun K x x st f fd → mg x = some (.ref f) → Binds K fd ps [] → L2H.FnH P w K mg base CX0 k f fd ps sp) : DnH P w K mg base x k ps sp := by
  obtain ⟨f, fd, h1, h2, h3⟩ := F.ex
  exact ⟨f, fd, h1, h2.kp, h f fd h2 h1 h3, h3⟩
theorem okE {sp : SpE} (F : Fun K x qual st f fd) (S : FnScope N ps (defScope st)) (len : ∀ a cls d vs H Q E, sp a cls d vs H Q E → vs.length = ps.length)
    (hbody : ∀ (cdv : Value) (p : Addr × Obj) (cls : Value) (d : Option Addr) (A : Around) (outer : List Env) (s : Shared) (H : Hp) (vs : List V) (Q : VK) (E : XK), L2H.Hot1 A p → Zc cls d p.2 → L2H.RoomH k (A.deeper (envOfC qual (defScope st) s.heap.objs.size f cdv)) → sp p.1 cls d vs H Q E →
      ∃ t, PSs (L2H.cxH CX0 P w K mg base N qual (defScope st) f cdv A outer s H E p) (defBody st) t ∧ t { nx := fun _ H' => Q .non H', rt := Q } (L2.start N vs) H) : FnE P w K mg base CX0 (k + 1) f fd ps sp := by
  obtain ⟨oc, od, kV, doc, pm, an, cdv, ct, osl, rfl, lk, hcd⟩ := F.ex
  exact fn_ofE lk hcd S len fun p cls d A outer s H vs Q E hot hz hr hsp => hbody cdv p cls d A outer s H vs Q E hot hz hr hsp
theorem okH {sp : Sp} (F : Fun K x qual st f fd) (S : FnScope N ps (defScope st)) (len : ∀ vs H Q E, sp vs H Q E → vs.length = ps.length)
    (hbody : ∀ (cdv : Value) (p : Addr × Obj) (A : Around) (outer : List Env) (s : Shared) (H : Hp) (vs : List V) (Q : VK) (E : XK), L2H.Hot1 A p → L2H.RoomH k (A.deeper (envOfC qual (defScope st) s.heap.objs.size f cdv)) → sp vs H Q E →
      ∃ t, PSs (L2H.cxH CX0 P w K mg base N qual (defScope st) f cdv A outer s H E p) (defBody st) t ∧ t { nx := fun _ H' => Q .non H', rt := Q } (L2.start N vs) H) : L2H.FnH P w K mg base CX0 (k + 1) f fd ps sp := by
  obtain ⟨oc, od, kV, doc, pm, an, cdv, ct, osl, rfl, lk, hcd⟩ := F.ex
  exact L2H.fn_ofH lk hcd S len fun A outer s H vs Q E p hot hr hsp => hbody cdv p A outer s H vs Q E hot hr hsp
/-- a def that raises, the context told -/
theorem okN {sp : Sp} (F : Fun K x qual st f fd) (S : FnScope N ps (defScope st)) (len : ∀ vs H Q E, sp vs H Q E → vs.length = ps.length)
    (hbody : ∀ (cdv : Value) (A : Around) (outer : List Env) (s : Shared) (H : Hp) (vs : List V) (Q : VK) (E : XK), Room k (A.deeper (envOfC qual (defScope st) s.heap.objs.size f cdv)) → sp vs H Q E →
      ∃ t, PSs (cxOf (L2N.CX P w) P w K mg base N qual (defScope st) f cdv A outer s H E) (defBody st) t ∧ t { nx := fun _ H' => Q .non H', rt := Q } (L2.start N vs) H) : FnOk P w K mg base (L2N.CX P w) (k + 1) f fd ps sp := by
  obtain ⟨oc, od, kV, doc, pm, an, cdv, ct, osl, rfl, lk, hcd⟩ := F.ex
  exact L2.fn_of lk hcd S len fun A outer s H vs Q E hr hsp => hbody cdv A outer s H vs Q E hr hsp
theorem fnh_none {f : Addr} {fd : FuncData} {sp : Sp} (h : ∀ vs H Q E, ¬ sp vs H Q E) : L2H.FnH P w K mg base CX0 k f fd ps sp := ⟨fun vs H Q E q => (h vs H Q E q).elim, fun _ _ _ _ _ _ _ _ _ _ _ _ _ _ _ _ q => (h _ _ _ _ q).elim⟩
end
theorem hot_suite {A : Around} {a : Addr} {oe : Obj} {cls : Value} {d : Option Addr} (hz : L2N.Zn cls d oe) (hf : ∃ vs, oe.data = .fields vs) : L2H.Hot1 (A.mark (some (.ref a))) (a, oe) := by
  obtain ⟨vs, hv⟩ := hf
  exact ⟨rfl, vs, hv, hz.2.2 vs hv⟩
theorem rh_mark {k : Nat} {A : Around} {h : Option Value} (r : Room k A) : L2H.RoomH k (A.mark h) := ⟨r.dp, r.un⟩
section
variable {X : Cx} {x : Str} {k : Nat} {ps : List Str} {e : Expr} {es : List Expr} {q pos : Pos} {t : TA} {p : Addr × Obj}
theorem pe_fnE {sp : SpE} {cls : Value} {d : Option Addr} (D : DnE X.prog X.w X.K X.mg X.base x k ps sp) (hr : L2H.RoomH k X.A) (hp : L2H.Hot1 X.A p ∧ p ∈ X.pn) (hz : Zc cls d p.2) (hg : Gl X x) (ha : PA X (e :: es) t) (hdb : (x == ("__debug__" : Str)) = false := by decide)
    (he : starEach (e :: es) X.env = (false, eval e X.env) :: starEach es X.env := by rfl) (hpl : (backTo pos (starEach es X.env)).any (·.1) = false := by rfl) : PE X (.Call (.Name x q) (e :: es) [] pos) (tCall (sp p.1 cls d) [] E0 t) := by
  obtain ⟨f, fd, hm, hk, F, hb⟩ := D.ex
  refine ⟨fun pins s σ H Q I h => wpAny_Call_Name_kw (ld_glob I hg hm (PySem.W.callWith_K (h₀ := X.base) I.ok.mod.kin hk (thn (ha.run pos pins s σ H _ I h) fun us s1 ⟨vs, H1, I1, r, q1⟩ => ⟨I1.kIn, ?_⟩) he hpl) hdb)⟩
  have q1 : sp p.1 cls d (vs ++ []) H1 Q E0 := q1
  rw [List.append_nil] at q1
  have b := hb s1 us I1.kIn (by rw [List.append_nil, ← r.length]; exact F.len _ _ _ _ _ _ _ q1)
  rw [List.append_nil] at b
  have P1 := I1.pin p (List.mem_append_left _ hp.2)
  refine wpAny_call (codeAny_mono (F.run p cls d X.A X.stack s1 H1 ⟨us, []⟩ us vs Q E0 hr hp.1 hz ⟨P1.1, P1.2.1, fun z => (List.mem_cons.mp (I1.stkSub p.1 z)).elim P1.2.2.1 P1.2.2.2.1, P1.2.2.2.2⟩ I1.env0 b r q1) fun r s' hq => ?_)
  cases r with
  | error e => exact hq.elim
  | ok fl =>
    cases fl with
    | ret u => exact I1.after hq
    | next => exact hq.elim
    | brk => exact hq.elim
    | cont => exact hq.elim
theorem pe_fnH {sp : Sp} (D : DnH X.prog X.w X.K X.mg X.base x k ps sp) (hr : L2H.RoomH k X.A) (hp : L2H.Hot1 X.A p ∧ p ∈ X.pn) (hg : Gl X x) (ha : PA X (e :: es) t) (hdb : (x == ("__debug__" : Str)) = false := by decide)
    (he : starEach (e :: es) X.env = (false, eval e X.env) :: starEach es X.env := by rfl) (hpl : (backTo pos (starEach es X.env)).any (·.1) = false := by rfl) : PE X (.Call (.Name x q) (e :: es) [] pos) (tCall sp [] E0 t) := by
  obtain ⟨f, fd, hm, hk, F, hb⟩ := D.ex
  refine ⟨fun pins s σ H Q I h => wpAny_Call_Name_kw (ld_glob I hg hm (PySem.W.callWith_K (h₀ := X.base) I.ok.mod.kin hk (thn (ha.run pos pins s σ H _ I h) fun us s1 ⟨vs, H1, I1, r, q1⟩ => ⟨I1.kIn, ?_⟩) he hpl) hdb)⟩
  have q1 : sp (vs ++ []) H1 Q E0 := q1
  rw [List.append_nil] at q1
  exact L2H.run_fnH (σ := σ) (E := fun _ => E0) F hr ⟨p, hp.1, hp.2⟩ hb (fun _ _ _ _ _ _ z => z.elim) I1 r q1
theorem pe_fnE2 {sp : SpE} {cls : Value} {d : Option Addr} {a : Addr} {oe : Obj} (D : DnE X.prog X.w X.K X.mg X.base x k ps sp) (hr : L2H.RoomH k X.A) (hp : L2H.Hot1 X.A (a, oe) ∧ (a, oe) ∈ X.pn) (hz : Zc cls d oe) (hg : Gl X x) (ha : PA X (e :: es) t) (hdb : (x == ("__debug__" : Str)) = false := by decide)
    (he : starEach (e :: es) X.env = (false, eval e X.env) :: starEach es X.env := by rfl) (hpl : (backTo pos (starEach es X.env)).any (·.1) = false := by rfl) : PE X (.Call (.Name x q) (e :: es) [] pos) (tCall (sp a cls d) [] E0 t) := pe_fnE (p := (a, oe)) D hr hp hz hg ha hdb he hpl
theorem ps_neverS {st : Stmt} : PS X st (fun _ _ _ => False) := ⟨fun _ _ _ _ _ _ h => h.elim⟩
end
/-! ### asked of: its class, its fields -/
/-- the dict d of the exception is told -/
def XdAt (H : Hp) (d : Option Addr) : Prop := d = none ∨ ∃ dd fs, d = some dd ∧ H dd = some (.xd fs)
theorem XdAt.mono {H H' : Hp} {d : Option Addr} (e : Ex H H') (h : XdAt H d) : XdAt H' d := h.imp id fun ⟨dd, fs, h1, h2⟩ => ⟨dd, fs, h1, e _ _ h2⟩
def rIsP (K : PySem.W.Frag) (a : Addr) (cls : Value) (d : Option Addr) : List V → Hp → VK → Prop := fun xs H Q => ∃ (D : Addr) (c : V) (cv : Value) (b : Bool), xs = [.ref a, c] ∧ cls = .ref D ∧ ExcC K D ∧ ClsV c cv ∧ XdAt H d ∧ PySem.W.kitOne K (.ref D) cv = some b ∧ Q (.bl b) H
theorem dict_of {X : Cx} {pins : List (Addr × Obj)} {σ : L2.St} {H : Hp} {s : Shared} {dd : Addr} {fs : List (Str × V)} (I : Inv X pins σ H s) (h : H dd = some (.xd fs)) : ∃ (od : Obj) (mA : Str → Option Value), s.heap.get? dd = some od ∧ (∀ name, PySem.W.lookIn name od = some (mA name)) ∧ ∀ n, RelO (fs.lookup n) (mA n) := by
  have hx : ObjOk X.prog X.w H s.heap dd (.xd fs) := I.hok dd _ h
  obtain ⟨mA, hns, hr⟩ := hx
  obtain ⟨od, ho, hl⟩ := lookIn_ns hns
  exact ⟨od, mA, ho, hl, hr⟩
section
variable {X : Cx} {p : Addr × Obj} {cls : Value} {d : Option Addr}
theorem call_isP (hz : Zc cls d p.2) (hf : ∃ vs, p.2.data = .fields vs) (hp : p ∈ X.pn) : CallR X (.builtin "isinstance") (rIsP X.K p.1 cls d) := by
  intro pins s σ H xs us Q I r h
  obtain ⟨D, c, cv, b, rfl, rfl, C, hcv, hd, e, q⟩ := h
  obtain ⟨u1, u2, rfl, r1, r2⟩ := vals2 r
  cases (show u1 = Value.ref p.1 from r1)
  have ec := hcv.eq r2
  subst ec
  obtain ⟨vs, hv⟩ := hf
  have gp := (I.pin p (List.mem_append_left _ hp)).1
  have no : PySem.W.notCls p.2 = true := by unfold PySem.W.notCls; rw [hv] <;> rfl
  obtain ⟨od, J⟩ : ∃ od, PySem.W.InstAt s.heap p.1 p.2 D od := by
    rcases hd with rfl | ⟨dd, fs, rfl, hx⟩
    · exact ⟨none, gp, hz.1, no, by rw [hz.2]; trivial⟩
    · obtain ⟨od, mA, ho, _, _⟩ := dict_of I hx
      exact ⟨some od, gp, hz.1, no, by rw [hz.2]; exact ho⟩
  have cls : (PySem.W.clsIn X.K D).isSome = true := by
    obtain ⟨cd, hcd, _⟩ := PySem.W.any_some C.hd
    rw [hcd]
    rfl
  exact PySem.W.kia_one (PySem.W.kitx_exc cls C.hg C.hk C.hs C.ha C.hn C.ht C.hm) I.kIn J e (fun z => nomatch z) fun tk => ⟨.bl b, H, I.kept (t' := tk) fun _ _ z => z, rfl, q⟩
theorem call_isP2 {K : PySem.W.Frag} {a : Addr} {oe : Obj} (hz : Zc cls d oe) (hf : ∃ vs, oe.data = .fields vs) (hp : (a, oe) ∈ X.pn) (hK : X.K = K := by rfl) : CallR X (.builtin "isinstance") (rIsP K a cls d) := by
  subst hK
  exact call_isP (p := (a, oe)) hz hf hp
theorem op_eqDK {K : PySem.W.Frag} (hu : X.A.units + 64 < cLine) (hK : X.K = K := by rfl) : OpR X (compareOp .Eq) (rEqD K) := by
  subst hK
  exact op_eqD hu
/-- the reading of a field -/
def tXfP (K : PySem.W.Frag) (a : Addr) (cls : Value) (d : Option Addr) (f : Str) (te : TE) : TE := fun σ H Q => te σ H fun x H1 => x = .ref a ∧ ∃ (D dd : Addr) (fs : List (Str × V)) (v : V), cls = .ref D ∧ XfC K D ∧ PySem.W.findIn K (.ref D) f = some none ∧ d = some dd ∧ H1 dd = some (.xd fs) ∧ fs.lookup f = some v ∧ Q v H1
theorem pe_xfP {e : Expr} {te : TE} {pos : Pos} {n : Str} (hz : Zc cls d p.2) (hf : ∃ vs, p.2.data = .fields vs) (hp : p ∈ X.pn) (he : PE X e te) (hb : attributeBase e n X.env (eval e X.env) = eval e X.env := by rfl) : PE X (.Attribute e n pos) (tXfP X.K p.1 cls d n te) := by
  refine ⟨fun pins s σ H Q I h => attr_of hb (thn (he.run pins s σ H _ I h) fun u s1 ⟨x, H1, I1, rx, ex, D, dd, fs, v, ec, T, hno, ed, ea, l, q⟩ => ?_)⟩
  subst ex ed ec
  obtain rfl : u = Value.ref p.1 := rx
  obtain ⟨vs, hv⟩ := hf
  obtain ⟨od, mA, ho, hl, hr⟩ := dict_of I1 ea
  obtain ⟨u, hu, ru⟩ := RelO.some_of (v := v) (o := mA n) (by rw [← l]; exact hr n)
  have J : PySem.W.InstAt s1.heap p.1 p.2 D (some od) := ⟨(I1.pin p (List.mem_append_left _ hp)).1, hz.1, by unfold PySem.W.notCls; rw [hv] <;> rfl, by rw [hz.2]; exact ho⟩
  exact HandSPX.exc_get I1.kIn J T.ga T.gg T.exC (PySem.W.findObj_own T.hdC hno rfl (by rw [hl, hu])) (handed_of ru) ⟨v, H1, I1.tok _, ru, q⟩
end
section
variable {K : PySem.W.Frag} {σ : L2.St} {H : Hp} {ta : TE}
theorem ev_isP {a D C : Addr} {d : Option Addr} {b : Bool} (h : Ev ta σ H (.ref a)) (hC : ExcC K D) (hx : XdAt H d) (hk : PySem.W.kitOne K (.ref D) (.ref C) = some b) : Ev (tCB (rIsP K a (.ref D) d) (tCons ta (tCons (tC (.ref C)) tNil))) σ H (.bl b) := fun H1 e Q q =>
  h H1 e _ fun H2 e2 => ⟨D, .ref C, .ref C, b, rfl, rfl, hC, .own C, hx.mono (e.trans e2), hk, q H2 e2⟩
theorem ev_isPT {a D : Addr} {T : String} {d : Option Addr} {b : Bool} (h : Ev ta σ H (.ref a)) (hC : ExcC K D) (hx : XdAt H d) (hk : PySem.W.kitOne K (.ref D) (.type T) = some b) : Ev (tCB (rIsP K a (.ref D) d) (tCons ta (tCons (tC (.ty T)) tNil))) σ H (.bl b) := fun H1 e Q q =>
  h H1 e _ fun H2 e2 => ⟨D, .ty T, .type T, b, rfl, rfl, hC, .ty T, hx.mono (e.trans e2), hk, q H2 e2⟩
theorem ev_xfP {a D dd : Addr} {f : Str} {fs : List (Str × V)} {v : V} (h : Ev ta σ H (.ref a)) (T : XfC K D) (hno : PySem.W.findIn K (.ref D) f = some none) (hd : H dd = some (.xd fs)) (hl : fs.lookup f = some v) : Ev (tXfP K a (.ref D) (some dd) f ta) σ H v := fun H1 e Q q =>
  h H1 e _ fun H2 e2 => ⟨rfl, D, dd, fs, v, rfl, T, hno, rfl, e2 _ _ (e _ _ hd), hl, q H2 e2⟩
end
end WF

set_option Elab.async false
set_option linter.all false
set_option maxRecDepth 100000
set_option maxHeartbeats 2000000
/-! the text by its places -/
namespace WF
open PySem L2 Evl
def top (i : Nat) : Stmt := PySem.Challenge.pw_weekfeasts_k14_errors_apart.main.body.getD i (.Pass ⟨0, 0, 0, 0⟩)
abbrev s_l_random : Stmt := top 10
theorem sc_l_random : FnScope ["_law_script", "_law_salt", "_law_seed", "_law_cell"] ["_law_script", "_law_salt"] (defScope s_l_random) := ⟨rfl, rfl, rfl, by decide +kernel, rfl, by decide +kernel, by decide +kernel⟩
abbrev s_l_below : Stmt := top 11
theorem sc_l_below : FnScope ["_law_d", "_law_size", "_law_result"] ["_law_d", "_law_size"] (defScope s_l_below) := ⟨rfl, rfl, rfl, by decide +kernel, rfl, by decide +kernel, by decide +kernel⟩
abbrev s_l_pick : Stmt := top 12
theorem sc_l_pick : FnScope ["_law_d", "_law_items"] ["_law_d", "_law_items"] (defScope s_l_pick) := ⟨rfl, rfl, rfl, by decide +kernel, rfl, by decide +kernel, by decide +kernel⟩
abbrev s_l_equal : Stmt := top 13
theorem sc_l_equal : FnScope ["_law_actual", "_law_expected", "_law_key", "_law_k"] ["_law_actual", "_law_expected"] (defScope s_l_equal) := ⟨rfl, rfl, rfl, by decide +kernel, rfl, by decide +kernel, by decide +kernel⟩
abbrev s_l_thrown : Stmt := top 14
theorem sc_l_thrown : FnScope ["_law_k", "_law_one", "_law_two"] ["_law_k", "_law_one", "_law_two"] (defScope s_l_thrown) := ⟨rfl, rfl, rfl, by decide +kernel, rfl, by decide +kernel, by decide +kernel⟩
abbrev s_l_classes : Stmt := top 15
theorem sc_l_classes : FnScope ["_law_e", "_law_found"] ["_law_e"] (defScope s_l_classes) := ⟨rfl, rfl, rfl, by decide +kernel, rfl, by decide +kernel, by decide +kernel⟩
abbrev s_l_fields : Stmt := top 16
theorem sc_l_fields : FnScope ["_law_k", "_law_e"] ["_law_k", "_law_e"] (defScope s_l_fields) := ⟨rfl, rfl, rfl, by decide +kernel, rfl, by decide +kernel, by decide +kernel⟩
abbrev s_law : Stmt := top 17
theorem sc_law : FnScope ["_law_script", "_law_d", "_law_k", "_law_one", "_law_two", "_law_due", "_law_good", "_law_e", "_law_other"] ["_law_script"] (defScope s_law) := ⟨rfl, rfl, rfl, by decide +kernel, rfl, by decide +kernel, by decide +kernel⟩
abbrev s_BadRules_init : Stmt := inClass (top 3) 0
theorem scs_BadRules_init : ScopeS ["self", "index"] (defScope s_BadRules_init) := ⟨rfl, rfl, rfl, by decide +kernel, by decide +kernel, by decide +kernel, rfl, rfl⟩
abbrev s_BadSeen_init : Stmt := inClass (top 7) 0
theorem scs_BadSeen_init : ScopeS ["self", "index"] (defScope s_BadSeen_init) := ⟨rfl, rfl, rfl, by decide +kernel, by decide +kernel, by decide +kernel, rfl, rfl⟩
abbrev s_BadText_init : Stmt := inClass (top 8) 0
theorem scs_BadText_init : ScopeS ["self", "line", "word"] (defScope s_BadText_init) := ⟨rfl, rfl, rfl, by decide +kernel, by decide +kernel, by decide +kernel, rfl, rfl⟩
structure Txt (P : Program) (w : World) (K : PySem.W.Frag) (mg : Str → Option Value) (C_FeastError C_BadRule C_BadRules C_BadLand C_BadDay C_BadNumber C_BadSeen C_BadText : Addr) : Prop where
  «super» : mg "super" = none
  x_BadRules : ErrS P K C_BadRules "BadRules.__init__" s_BadRules_init ["self", "index"] ["index"]
  x_BadSeen : ErrS P K C_BadSeen "BadSeen.__init__" s_BadSeen_init ["self", "index"] ["index"]
  x_BadText : ErrS P K C_BadText "BadText.__init__" s_BadText_init ["self", "line", "word"] ["line", "word"]
  «ValueError» : mg "ValueError" = none
  «len» : mg "len" = none
  «abs» : mg "abs" = none
  «isinstance» : mg "isinstance" = none
  «sorted» : mg "sorted" = none
  «all» : mg "all" = none
  «int» : mg "int" = none
  «str» : mg "str" = none
  «list» : mg "list" = none
  «tuple» : mg "tuple" = none
  «dict» : mg "dict" = none
  «bool» : mg "bool" = none
  «range» : mg "range" = none
  c_FeastError : mg "FeastError" = some (.ref C_FeastError)
  c_BadRule : mg "BadRule" = some (.ref C_BadRule)
  e_BadRule : Err K C_BadRule
  c_BadRules : mg "BadRules" = some (.ref C_BadRules)
  c_BadLand : mg "BadLand" = some (.ref C_BadLand)
  e_BadLand : Err K C_BadLand
  c_BadDay : mg "BadDay" = some (.ref C_BadDay)
  e_BadDay : Err K C_BadDay
  c_BadNumber : mg "BadNumber" = some (.ref C_BadNumber)
  e_BadNumber : Err K C_BadNumber
  c_BadSeen : mg "BadSeen" = some (.ref C_BadSeen)
  c_BadText : mg "BadText" = some (.ref C_BadText)
  f_l_random : FunAt K mg "_law_random" s_l_random ["_law_script", "_law_salt"]
  f_l_below : FunAt K mg "_law_below" s_l_below ["_law_d", "_law_size"]
  f_l_pick : FunAt K mg "_law_pick" s_l_pick ["_law_d", "_law_items"]
  f_l_equal : FunAt K mg "_law_equal" s_l_equal ["_law_actual", "_law_expected"]
  f_l_thrown : FunAt K mg "_law_thrown" s_l_thrown ["_law_k", "_law_one", "_law_two"]
  f_l_classes : FunAt K mg "_law_classes" s_l_classes ["_law_e"]
  f_l_fields : FunAt K mg "_law_fields" s_l_fields ["_law_k", "_law_e"]
  f_law : FunAt K mg "law" s_law ["_law_script"]

end WF

set_option Elab.async false
set_option linter.all false
set_option maxRecDepth 100000
set_option maxHeartbeats 1000000
/-! the errors' own __init__ -/
namespace WF
open PySem L2 Evl
section
variable {P : Program} {w : World} {K : PySem.W.Frag} {mg : Str → Option Value} {base : Heap} {C_FeastError C_BadRule C_BadRules C_BadLand C_BadDay C_BadNumber C_BadSeen C_BadText : Addr}
theorem me_BadRules (T : Txt P w K mg C_FeastError C_BadRule C_BadRules C_BadLand C_BadDay C_BadNumber C_BadSeen C_BadText) : MnE P w K mg base C_BadRules 2 (spE1 C_BadRules "index") := by
  obtain ⟨f, fd, cc, cda, SF, h1, h2, hb⟩ := T.x_BadRules.sup
  refine ⟨⟨f, fd, _, h1, h2, fn_sup (k := 1) SF T.super scs_BadRules_init (fun vs H Q E h => ?_) rfl rfl rfl (fun env => ⟨_, rfl⟩) (fun A outer s H vs Q E hr h => ?_), hb⟩, T.x_BadRules.ox⟩
  · obtain ⟨_, _, rfl, _⟩ := h
    rfl
  · obtain ⟨a, v, rfl, ha, k⟩ := h
    exact ⟨T.x_BadRules.ox, ⟨a, rfl, ha⟩, _, pss_one (ps_ost (pv 0) (pv 1)), _, rfl, _, rfl, a, C_BadRules, rfl, T.x_BadRules.ox, T.x_BadRules.no _ (by simp), .inl ⟨ha, fun dx h1 h2 => k dx h1 h2⟩⟩
theorem me_BadSeen (T : Txt P w K mg C_FeastError C_BadRule C_BadRules C_BadLand C_BadDay C_BadNumber C_BadSeen C_BadText) : MnE P w K mg base C_BadSeen 2 (spE1 C_BadSeen "index") := by
  obtain ⟨f, fd, cc, cda, SF, h1, h2, hb⟩ := T.x_BadSeen.sup
  refine ⟨⟨f, fd, _, h1, h2, fn_sup (k := 1) SF T.super scs_BadSeen_init (fun vs H Q E h => ?_) rfl rfl rfl (fun env => ⟨_, rfl⟩) (fun A outer s H vs Q E hr h => ?_), hb⟩, T.x_BadSeen.ox⟩
  · obtain ⟨_, _, rfl, _⟩ := h
    rfl
  · obtain ⟨a, v, rfl, ha, k⟩ := h
    exact ⟨T.x_BadSeen.ox, ⟨a, rfl, ha⟩, _, pss_one (ps_ost (pv 0) (pv 1)), _, rfl, _, rfl, a, C_BadSeen, rfl, T.x_BadSeen.ox, T.x_BadSeen.no _ (by simp), .inl ⟨ha, fun dx h1 h2 => k dx h1 h2⟩⟩
theorem me_BadText (T : Txt P w K mg C_FeastError C_BadRule C_BadRules C_BadLand C_BadDay C_BadNumber C_BadSeen C_BadText) : MnE P w K mg base C_BadText 2 (spE2 C_BadText "line" "word") := by
  obtain ⟨f, fd, cc, cda, SF, h1, h2, hb⟩ := T.x_BadText.sup
  refine ⟨⟨f, fd, _, h1, h2, fn_sup (k := 1) SF T.super scs_BadText_init (fun vs H Q E h => ?_) rfl rfl rfl (fun env => ⟨_, rfl⟩) (fun A outer s H vs Q E hr h => ?_), hb⟩, T.x_BadText.ox⟩
  · obtain ⟨_, _, _, rfl, _⟩ := h
    rfl
  · obtain ⟨a, u, v, rfl, ha, k⟩ := h
    refine ⟨T.x_BadText.ox, ⟨a, rfl, ha⟩, _, pss_cons (ps_ost (pv 0) (pv 1)) (pss_one (ps_ost (pv 0) (pv 2))), _, rfl, _, rfl, a, C_BadText, rfl, T.x_BadText.ox, T.x_BadText.no _ (by simp), .inl ⟨ha, fun dx h1 h2 => ?_⟩⟩
    exact ⟨_, rfl, _, rfl, a, C_BadText, rfl, T.x_BadText.ox, T.x_BadText.no _ (by simp), .inr ⟨dx, _, upd_same, (by rw [upd_ne h2]; exact upd_same), (by show 1 ≤ 900; decide), k dx h1 h2⟩⟩

end
end WF

set_option Elab.async false
set_option linter.all false
set_option maxRecDepth 100000
set_option maxHeartbeats 2000000
/-! the law's own defs: what is drawn -/
namespace WF
open PySem L2 Evl
section
variable {P : Program} {w : World} {K : PySem.W.Frag} {mg : Str → Option Value} {base : Heap} {C_FeastError C_BadRule C_BadRules C_BadLand C_BadDay C_BadNumber C_BadSeen C_BadText : Addr} {f : Addr} {fd : FuncData}
def spRandom (K : PySem.W.Frag) : Sp := fun vs H Q _ => ∃ (a : Addr) (ns : List Int) (salt : Int), vs = [.ref a, .int salt] ∧ SqL K H a (ns.map V.int) ∧ ns.length ≤ 63 ∧ 0 ≤ salt ∧ salt < 1000000 ∧ ∀ p H2 xs, Good xs → H p = none → Ex H H2 → H2 p = some (.lst xs) → Q (.ref p) H2
theorem ok_random (F : Fun K "_law_random" "_law_random" s_l_random f fd) (T : Txt P w K mg C_FeastError C_BadRule C_BadRules C_BadLand C_BadDay C_BadNumber C_BadSeen C_BadText) : FnOk P w K mg base CX0 1 f fd ["_law_script", "_law_salt"] (spRandom K) := by
  refine F.ok sc_l_random (fun vs H Q E h => ?_) (fun cdv A outer s H vs Q E hr h => ?_)
  · obtain ⟨_, _, _, rfl, _⟩ := h
    rfl
  · obtain ⟨a, ns, salt, rfl, hA, hn, h0, h1, k⟩ := h
    refine ⟨_, (pss_cons (ps_set (i := 2) sc_l_random.nd rfl (by first | exact Or.inl rfl | exact Or.inr rfl) (pv 1))
  (pss_cons (ps_for PassesOwn.never rfl (pi_list (pv 0)) (pg_name (i := 3) sc_l_random.nd rfl (by first | exact Or.inl rfl | exact Or.inr rfl))
  (pss_one (ps_set (i := 2) sc_l_random.nd rfl (by first | exact Or.inl rfl | exact Or.inr rfl) (pe_op op_mod (pe_callTy call_int1 (by rfl) T.int (by decide +kernel) (pa_cons (pe_op op_add (pe_op op_mul (pv 2) pe_int) (pe_callB call_abs (by rfl) T.abs (by decide +kernel) (pa_cons (pv 3) pa_nil))) pa_nil)) pe_int))))
  (pss_one (ps_ret (pe_op op_cat (pe_lst (pa_cons (pv 2) (pa_cons pe_int pa_nil))) (pe_lc (own := [("_law_cell", 3)]) (g := gName 3) rfl sc_l_random.nd (pi_list (pv 0)) (blkOk_by (own := [("_law_cell", 3)]) (N := ["_law_script", "_law_salt", "_law_seed", "_law_cell"]) (sc := defScope s_l_random) (by decide +kernel)) (fun _ _ _ _ _ => (pg_name (i := 3) sc_l_random.nd rfl (by first | exact Or.inl rfl | exact Or.inr rfl))) (fun _ _ _ _ _ => (pts_one (pt_cmpR op_ge (pv 3) (pe_op op_pow pe_int pe_int) (nomark _)))) (fun _ _ _ _ _ => (pv 3)))))))), ?_⟩
    refine q_asg (ev_var rfl) fun H1 e1 => ?_
    refine q_forLn (ev_var rfl) (ex_l e1 hA) (fun i σ H' => Ex H H' ∧ ∃ z c, 0 ≤ z ∧ z < 2147483647 ∧ σ = [some (.ref a), some (.int salt), some (.int z), c]) (fun H2 e2 => ⟨e1.trans e2, salt, none, h0, by omega, rfl⟩) (fun i σ' H' _ h => ex_l h.1 hA) ?_ ?_
    · rintro i x σ' H' hi ⟨e, z, c, hz0, hz1, rfl⟩
      obtain ⟨n, _, rfl⟩ : ∃ n, ns[i]? = some n ∧ x = .int n := by
        rw [List.getElem?_map] at hi
        cases en : ns[i]? with
        | none => rw [en] at hi; cases hi
        | some n => rw [en] at hi; exact ⟨n, rfl, (Option.some.inj hi).symm⟩
      refine s_asg (ev_op (ev_int1 (ev_op (ev_op (ev_var rfl) ev_c (rv_I (.inl ⟨by omega, by omega⟩))) (ev_abs (ev_var rfl)) rv_I0)) ev_c (rv_I (by decide))) fun H2 e2 => ⟨e.trans e2, _, _, Int.emod_nonneg _ (by decide), Int.emod_lt_of_pos _ (by decide), rfl⟩
    · rintro σ' H' ⟨e, z, c, hz0, hz1, rfl⟩
      refine s_retL (el_cat (el_lst (ea_cons (ev_var rfl) (ea_cons ev_c ea_nil)) (by show 2 ≤ 100000; decide)) (el_lcL (fun i => decide (10 ^ 18 ≤ ns.getD i 0)) (fun i => .int (ns.getD i 0)) (ev_var rfl) (ex_l e hA) (by rw [List.length_map]; omega) (fun _ => rfl) (fun i x H2 e2 hi => ?_) (fun i x H2 e2 hi hf => ?_)) ?_) fun p H2 hp e2 h2 => ?_
      · have hx : x = .int (ns.getD i 0) := by
          rw [List.getElem?_map] at hi
          rw [List.getD_eq_getElem?_getD]
          cases en : ns[i]? with
          | none => rw [en] at hi; cases hi
          | some n => rw [en] at hi; exact (Option.some.inj hi).symm
        subst hx
        exact et_cmp (ev_var rfl) (ev_op ev_c ev_c (rv_I ⟨by decide, by decide, by decide⟩)) rv_I0
      · have hx : x = .int (ns.getD i 0) := by
          rw [List.getElem?_map] at hi
          rw [List.getD_eq_getElem?_getD]
          cases en : ns[i]? with
          | none => rw [en] at hi; cases hi
          | some n => rw [en] at hi; exact (Option.some.inj hi).symm
        subst hx
        exact ev_var rfl
      · have := given_len (ns.map V.int).length (fun i => decide (10 ^ 18 ≤ ns.getD i 0)) (fun i => V.int (ns.getD i 0))
        rw [List.length_map] at this ⊢
        show 2 + _ ≤ 100000
        omega
      · refine k p H2 _ ⟨z, 0, ((List.range ns.length).filter fun i => decide (10 ^ 18 ≤ ns.getD i 0)).map fun i => ns.getD i 0, ?_, hz0, hz1, Int.le_refl _, fun b hb => ?_, ?_⟩ (fresh_back e hp) (e.trans e2) h2
        · rw [List.map_map, List.length_map]
          rfl
        · rw [List.mem_map] at hb
          obtain ⟨i, hi, rfl⟩ := hb
          rw [List.mem_filter] at hi
          have h18 := of_decide_eq_true hi.2
          have : (0 : Int) ≤ 10 ^ 18 := by decide
          omega
        · rw [List.length_map]
          have := List.length_filter_le (fun i => decide (10 ^ 18 ≤ ns.getD i 0)) (List.range ns.length)
          rw [List.length_range] at this
          omega
theorem dn_random (T : Txt P w K mg C_FeastError C_BadRule C_BadRules C_BadLand C_BadDay C_BadNumber C_BadSeen C_BadText) : Dn P w K mg base CX0 "_law_random" 1 ["_law_script", "_law_salt"] (spRandom K) := T.f_l_random.dn fun _ _ F _ _ => ok_random F T
def spBelow : Sp := fun vs H Q _ => ∃ (d : Addr) (xs : List V) (n : Int), vs = [.ref d, .int n] ∧ H d = some (.lst xs) ∧ Good xs ∧ 1 ≤ n ∧ n < 1073741824 ∧ ∀ (r : Nat) xs' H', (r : Int) < n → Good xs' → ExB d H H' → H' d = some (.lst xs') → Q (.int r) H'
theorem at1 {x y : V} {xs : List V} : atI (x :: y :: xs) 1 = some y := atI_nat (j := 1) rfl
theorem ixN0 {n : Nat} (h : 0 < n) : ixN n 0 = some 0 := by
  have := ixN_nat (n := n) (j := 0) h
  exact this
theorem ixN1 {n : Nat} (h : 1 < n) : ixN n 1 = some 1 := ixN_nat (n := n) (j := 1) h
theorem ok_below (F : Fun K "_law_below" "_law_below" s_l_below f fd) (T : Txt P w K mg C_FeastError C_BadRule C_BadRules C_BadLand C_BadDay C_BadNumber C_BadSeen C_BadText) : FnOk P w K mg base CX0 1 f fd ["_law_d", "_law_size"] spBelow := by
  refine F.ok sc_l_below (fun vs H Q E h => ?_) (fun cdv A outer s H vs Q E hr h => ?_)
  · obtain ⟨_, _, _, rfl, _⟩ := h
    rfl
  · obtain ⟨d, xs, n, rfl, hd, hg, h1, h2, k⟩ := h
    refine ⟨_, (Evl.pss_cut (ps_if (PW.pt (pw_and (pt_cmpR op_eq (pe_ix ix_list (pv 0) pe_int (fun _ _ => rfl)) pe_int (nomark _)) (pw_and1 (pt_cmpR op_gt (pe_callB call_len_seq (by rfl) T.len (by decide +kernel) (pa_cons (pv 0) pa_nil)) pe_int (nomark _))))) (pss_one (ps_asg (pe_bm PySem.F.plainAttrs_list PySem.F.slot_list_pop PySem.F.type_list_pop mt_popAt (pv 0) (pa_cons pe_int pa_nil)) (pg_sub (pv 0) pe_int set_list)))
  pss_nil)
  (pss_cons (ps_if (pt_cmpR op_gt (pe_ix ix_list (pv 0) pe_int (fun _ _ => rfl)) pe_int (nomark _)) (pss_cons (ps_set (i := 2) sc_l_below.nd rfl (by first | exact Or.inl rfl | exact Or.inr rfl) (pe_op op_mod (pe_callTy call_int1 (by rfl) T.int (by decide +kernel) (pa_cons (pe_ix ix_list (pv 0) pe_int (fun _ _ => rfl)) pa_nil)) (pv 1)))
  (pss_cons (ps_asg (pe_op op_fdiv (pe_ix ix_list (pv 0) pe_int (fun _ _ => rfl)) (pv 1)) (pg_sub (pv 0) pe_int set_list))
  (pss_one (ps_ret (pv 2)))))
  pss_nil)
  (pss_cons (ps_asg (pe_op op_mod (pe_callTy call_int1 (by rfl) T.int (by decide +kernel) (pa_cons (pe_op op_add (pe_op op_mul (pe_ix ix_list (pv 0) pe_int (fun _ _ => rfl)) pe_int) pe_int) pa_nil)) pe_int) (pg_sub (pv 0) pe_int set_list))
  (pss_one (ps_ret (pe_op op_mod (pe_callTy call_int1 (by rfl) T.int (by decide +kernel) (pa_cons (pe_op op_fdiv (pe_ix ix_list (pv 0) pe_int (fun _ _ => rfl)) pe_int) pa_nil)) (pv 1))))))), ?_⟩
    obtain ⟨z, r, bs, rfl, hz0, hz1, hr0, hbs, hl⟩ := hg
    refine q_cut (M := fun σ' H' => σ' = [some (.ref d), some (.int n), none] ∧ ∃ (z r : Int) (bs : List Int), H' d = some (.lst (.int z :: .int r :: bs.map V.int)) ∧ 0 ≤ z ∧ z < 2147483647 ∧ 0 ≤ r ∧ (∀ b ∈ bs, 0 ≤ b) ∧ bs.length ≤ 100 ∧ ExB d H H') ?_ ?_
    · refine s_when (et_and (et_cmp (ev_ixL (ev_var rfl) (sq_of hd) at1) ev_c (rv_eq rfl)) fun _ => et_cmp (ev_lenL (ev_var rfl) (sq_of hd)) ev_c rv_I0) (fun hb H1 e1 => ?_) (fun hb H1 e1 => ⟨rfl, z, r, bs, e1 _ _ hd, hz0, hz1, hr0, hbs, hl, ExB.of e1⟩)
      rw [Bool.and_eq_true] at hb
      have hlen := of_decide_eq_true hb.2
      cases bs with
      | nil => exact absurd hlen (by simp)
      | cons b bs =>
        refine ⟨_, rfl, .inl ⟨rfl, _, sq_of (e1 _ _ hd)⟩, d, _, 2, 2, .int b, rfl, rfl, e1 _ _ hd, by decide, by decide, ?_, rfl, _, rfl, d, _, 1, 1, rfl, rfl, upd_same, ?_, ?_⟩
        · show (if 0 ≤ (2 : Int) && (2 : Int) < (((V.int z :: V.int r :: (b :: bs).map V.int).length : Nat) : Int) then some (2 : Int).toNat else none) = some 2
          rw [if_pos]
          · rfl
          · simp
            omega
        · exact ixN1 (by simp)
        · refine ⟨rfl, z, b, bs, upd_same, hz0, hz1, hbs b List.mem_cons_self, fun c hc => hbs c (List.mem_cons_of_mem _ hc), ?_, (ExB.of e1).upd.upd⟩
          simp at hl
          omega
    · rintro σ' H' ⟨rfl, z, r, bs, hd', hz0, hz1, hr0, hbs, hl, eb⟩
      refine q_when (et_cmp (ev_ixL (ev_var rfl) (sq_of hd') at1) ev_c rv_I0) (fun hb H1 e1 => ?_) (fun hb H1 e1 => ?_)
      · refine q_asg (ev_op (ev_int1 (ev_ixL (ev_var rfl) (sq_of (e1 _ _ hd')) at1)) (ev_var rfl) (rv_I (by omega))) fun H2 e2 => ?_
        refine q_setI (j := 1) ((e1.trans e2) _ _ hd') (ev_op (ev_ixL (ev_var rfl) (sq_of ((e1.trans e2) _ _ hd')) at1) (ev_var rfl) (rv_I ⟨by omega, h2⟩)) (ev_var rfl) (ixN1 (by simp)) fun H3 e3 => ?_
        refine s_ret (ev_var rfl) fun H4 e4 => ?_
        have hm0 := Int.emod_nonneg r (show n ≠ 0 by omega)
        have hm1 := Int.emod_lt_of_pos r (show 0 < n by omega)
        have hk := k (r % n).toNat _ H4 (by omega) ⟨z, r / n, bs, rfl, hz0, hz1, Int.ediv_nonneg hr0 (by omega), hbs, hl⟩ (((eb.step ((e1.trans e2).trans e3)).upd).step e4) (e4 _ _ upd_same)
        rw [Int.toNat_of_nonneg hm0] at hk
        exact hk
      · refine q_setI (j := 0) (e1 _ _ hd') (ev_op (ev_int1 (ev_op (ev_op (ev_ixL (ev_var rfl) (sq_of (e1 _ _ hd')) at0) ev_c (rv_I (.inl ⟨by omega, by omega⟩))) ev_c rv_I0)) ev_c (rv_I (by decide))) (ev_var rfl) (ixN0 (by simp)) fun H2 e2 => ?_
        refine s_ret (ev_op (ev_int1 (ev_op (ev_ixL (ev_var rfl) (sq_of upd_same) at0) ev_c (rv_I ⟨by decide, by decide⟩))) (ev_var rfl) (rv_I (by omega))) fun H4 e4 => ?_
        have hm0 := Int.emod_nonneg ((z * 48271 + 11) % 2147483647 / 64) (show n ≠ 0 by omega)
        have hm1 := Int.emod_lt_of_pos ((z * 48271 + 11) % 2147483647 / 64) (show 0 < n by omega)
        have hk := k ((z * 48271 + 11) % 2147483647 / 64 % n).toNat _ H4 (by omega) ⟨(z * 48271 + 11) % 2147483647, r, bs, rfl, Int.emod_nonneg _ (by decide), Int.emod_lt_of_pos _ (by decide), hr0, hbs, hl⟩ (((eb.step (e1.trans e2)).upd).step e4) (e4 _ _ upd_same)
        rw [Int.toNat_of_nonneg hm0] at hk
        exact hk
theorem dn_below (T : Txt P w K mg C_FeastError C_BadRule C_BadRules C_BadLand C_BadDay C_BadNumber C_BadSeen C_BadText) : Dn P w K mg base CX0 "_law_below" 1 ["_law_d", "_law_size"] spBelow := T.f_l_below.dn fun _ _ F _ _ => ok_below F T
end
end WF

set_option Elab.async false
set_option linter.all false
set_option maxRecDepth 100000
set_option maxHeartbeats 2000000
/-! pick, leaf, rule -/
namespace WF
open PySem L2 Evl
section
variable {P : Program} {w : World} {K : PySem.W.Frag} {mg : Str → Option Value} {base : Heap} {C_FeastError C_BadRule C_BadRules C_BadLand C_BadDay C_BadNumber C_BadSeen C_BadText : Addr} {f : Addr} {fd : FuncData}
def spPick (K : PySem.W.Frag) : Sp := fun vs H Q _ => ∃ (d l : Addr) (xs ys : List V), vs = [.ref d, .ref l] ∧ H d = some (.lst xs) ∧ Good xs ∧ SqL K H l ys ∧ l ≠ d ∧ 1 ≤ ys.length ∧ ys.length ≤ 1000000 ∧
  ∀ y xs' H', y ∈ ys → Good xs' → ExB d H H' → H' d = some (.lst xs') → Q y H'
theorem ok_pick (F : Fun K "_law_pick" "_law_pick" s_l_pick f fd) (T : Txt P w K mg C_FeastError C_BadRule C_BadRules C_BadLand C_BadDay C_BadNumber C_BadSeen C_BadText) : FnOk P w K mg base CX0 2 f fd ["_law_d", "_law_items"] (spPick K) := by
  have D_l_below : Dn P w K mg base CX0 "_law_below" 1 ["_law_d", "_law_size"] spBelow := dn_below T
  refine F.ok sc_l_pick (fun vs H Q E h => ?_) (fun cdv A outer s H vs Q E hr h => ?_)
  · obtain ⟨_, _, _, _, rfl, _⟩ := h
    rfl
  · obtain ⟨d, l, xs, ys, rfl, hd, hg, hl, hne, h1, h2, k⟩ := h
    refine ⟨_, (pss_one (ps_ret (pe_ix ix_list (pv 1) (pe_fn D_l_below (hr.mono (by omega)) pass0 rfl (pa_cons (pv 0) (pa_cons (pe_callB call_len_seq (by rfl) T.len (by decide +kernel) (pa_cons (pv 1) pa_nil)) pa_nil))) (fun _ _ => rfl)))), ?_⟩
    refine ⟨_, rfl, call_ev (ea_cons (ev_var rfl) (ea_cons (ev_lenL (ev_var rfl) hl) ea_nil)) fun H1 e1 => ⟨d, xs, _, rfl, e1 _ _ hd, hg, by omega, by omega, fun r xs' H' hr' hg' eb hd' => ?_⟩⟩
    have hlt : r < ys.length := by omega
    have eb' : ExB d H H' := fun b o hb q => eb b o hb (e1 b o q)
    exact ⟨l, ys, _, ys[r], rfl, rfl, sql_but eb' hne hl, atI_nat (by simp [hlt]), k _ xs' H' (List.getElem_mem hlt) hg' eb' hd'⟩
theorem dn_pick (T : Txt P w K mg C_FeastError C_BadRule C_BadRules C_BadLand C_BadDay C_BadNumber C_BadSeen C_BadText) : Dn P w K mg base CX0 "_law_pick" 2 ["_law_d", "_law_items"] (spPick K) := T.f_l_pick.dn fun _ _ F _ _ => ok_pick F T
/-- pick of a new list -/
theorem pick_new {σ : L2.St} {H : Hp} {ta tl : TE} {d : Addr} {xs ys : List V} {Q : VK} {E : XK} (h0 : Ev ta σ H (.ref d)) (hl : EvL tl σ H ys) (hd : H d = some (.lst xs)) (hg : Good xs) (h1 : 1 ≤ ys.length) (h2 : ys.length ≤ 1000000)
    (k : ∀ y xs' H', y ∈ ys → Good xs' → ExB d H H' → H' d = some (.lst xs') → Q y H') : tCall (spPick K) [] E (tCons ta (tCons tl tNil)) σ H Q :=
  h0 H (Ex.refl H) _ fun H1 e1 => hl H1 e1 _ fun p H2 hp e2 hp2 => ⟨d, p, xs, ys, rfl, (e1.trans e2) _ _ hd, hg, sq_of hp2, (ne_of_none (e1 _ _ hd) hp).symm, h1, h2, fun y xs' H' hy hg' eb hd' =>
    k y xs' H' hy hg' (fun b o hb q => eb b o hb ((e1.trans e2) b o q)) hd'⟩
theorem below_ev {σ : L2.St} {H : Hp} {ta tb : TE} {d : Addr} {xs : List V} {n : Int} {Q : VK} {E : XK} (h0 : Ev ta σ H (.ref d)) (hl : Ev tb σ H (.int n)) (hd : H d = some (.lst xs)) (hg : Good xs) (h1 : 1 ≤ n) (h2 : n < 1073741824)
    (k : ∀ (r : Nat) xs' H', (r : Int) < n → Good xs' → ExB d H H' → H' d = some (.lst xs') → Q (.int r) H') : tCall spBelow [] E (tCons ta (tCons tb tNil)) σ H Q :=
  call_ev (ea_cons h0 (ea_cons hl ea_nil)) fun H1 e1 => ⟨d, xs, n, rfl, e1 _ _ hd, hg, h1, h2, fun r xs' H' hr hg' eb hd' => k r xs' H' hr hg' (fun b o hb q => eb b o hb (e1 b o q)) hd'⟩
/-- below(..) == c -/
theorem below_eq {σ : L2.St} {H : Hp} {ta tb : TE} {d : Addr} {xs : List V} {n c : Int} {Q : Bool → Hp → Prop} {E : XK} (h0 : Ev ta σ H (.ref d)) (hl : Ev tb σ H (.int n)) (hd : H d = some (.lst xs)) (hg : Good xs) (h1 : 1 ≤ n) (h2 : n < 1073741824)
    (k : ∀ (r : Nat) xs' H', (r : Int) < n → Good xs' → ExB d H H' → H' d = some (.lst xs') → Q (decide (V.int r = V.int c)) H') : tTest (tOp rEq (tCall spBelow [] E (tCons ta (tCons tb tNil))) (tC (.int c))) σ H Q :=
  below_ev h0 hl hd hg h1 h2 fun r xs' H' hr hg' eb hd' => ⟨rfl, _, rfl, k r xs' H' hr hg' eb hd'⟩
def spLeaf (K : PySem.W.Frag) : Sp := fun vs H Q _ => ∃ (d : Addr) (xs : List V), vs = [.ref d] ∧ H d = some (.lst xs) ∧ Good xs ∧
  ∀ v r xs' H', RlAt K H' v r → r.fit = true → r.parts = 1 → r.bys = 0 → Good xs' → ExB d H H' → H' d = some (.lst xs') → Q v H'
def spRule (K : PySem.W.Frag) (n : Nat) : Sp := fun vs H Q _ => ∃ (d l : Addr) (xs : List V) (p b : Nat), vs = [.ref d, .ref l] ∧ H d = some (.lst xs) ∧ Good xs ∧ H l = some (.lst [.int (p : Int), .int (b : Int)]) ∧ d ≠ l ∧ p < n ∧ b ≤ 100 ∧
  ∀ v r xs' (p' b' : Nat) H', RlAt K H' v r → r.fit = true → r.parts + p' = 1 + p → r.bys + b' = b → Good xs' → H' d = some (.lst xs') → H' l = some (.lst [.int (p' : Int), .int (b' : Int)]) → ExB2 d l H H' → Q v H'
end
end WF

set_option Elab.async false
set_option linter.all false
set_option maxRecDepth 100000
set_option maxHeartbeats 1000000
/-! the law's equal, called while an exception is handled -/
namespace WF
open PySem L2 Evl
section
variable {P : Program} {w : World} {K : PySem.W.Frag} {mg : Str → Option Value} {base : Heap} {C_FeastError C_BadRule C_BadRules C_BadLand C_BadDay C_BadNumber C_BadSeen C_BadText : Addr} {f : Addr} {fd : FuncData}
inductive EqB : V → V → Prop where
  | bl (b : Bool) : EqB (.bl b) (.bl b)
  | int (i : Int) : EqB (.int i) (.int i)
  | str (s : Str) : EqB (.str s) (.str s)
  | non : EqB .non .non
/-- both are lists, or both tuples -/
def SameSq (K : PySem.W.Frag) (H : Hp) (a b : Addr) (xs ys : List V) : Prop := (SqL K H a xs ∧ SqL K H b ys) ∨ (SqT K H a xs ∧ SqT K H b ys)
def EqAt (K : PySem.W.Frag) (H : Hp) : Nat → V → V → Prop
  | 0, _, _ => False
  | n + 1, x, y => EqB x y ∨ ∃ a b xs ys, x = .ref a ∧ y = .ref b ∧ SameSq K H a b xs ys ∧ xs.length = ys.length ∧ xs.length ≤ 40000 ∧ ∀ (i : Nat) x y, xs[i]? = some x → ys[i]? = some y → EqAt K H n x y
theorem EqAt.mono {H H' : Hp} (e : Ex H H') : ∀ {n : Nat} {x y : V}, EqAt K H n x y → EqAt K H' n x y
  | 0, _, _, h => h.elim
  | n + 1, x, y, h => by
    rcases h with h | ⟨a, b, xs, ys, h1, h2, h3, h4, h5, h6⟩
    · exact .inl h
    · exact .inr ⟨a, b, xs, ys, h1, h2, h3.imp (fun h => ⟨ex_l e h.1, ex_l e h.2⟩) (fun h => ⟨ex_t e h.1, ex_t e h.2⟩), h4, h5, fun i x y hx hy => EqAt.mono e (h6 i x y hx hy)⟩
def spEqualN (K : PySem.W.Frag) (n : Nat) : Sp := fun vs H Q _ => ∃ x y, vs = [x, y] ∧ EqAt K H n x y ∧ RetV (.bl true) H Q
theorem rv_ixQ {H : Hp} {a : Addr} {xs : List V} {i : Nat} {v : V} (h : SqL K H a xs ∨ SqT K H a xs) (hi : xs[i]? = some v) : RV (rIx K) (.ref a) (.int (i : Int)) H v := fun H1 e Q q =>
  h.elim (fun h => .inl ⟨a, xs, i, v, rfl, rfl, ex_l e h, atI_nat hi, q H1 (Ex.refl H1)⟩) (fun h => .inr (.inl ⟨a, xs, i, v, rfl, rfl, ex_t e h, atI_nat hi, q H1 (Ex.refl H1)⟩))
theorem lequal_turn (F : Fun K "_law_equal" "_law_equal" s_l_equal f fd) (T : Txt P w K mg C_FeastError C_BadRule C_BadRules C_BadLand C_BadDay C_BadNumber C_BadSeen C_BadText) (hm : mg "_law_equal" = some (.ref f)) (hb : Binds K fd ["_law_actual", "_law_expected"] []) (n : Nat) (ih : L2H.FnH P w K mg base CX0 (n + 1) f fd ["_law_actual", "_law_expected"] (spEqualN K n)) : L2H.FnH P w K mg base CX0 (n + 2) f fd ["_law_actual", "_law_expected"] (spEqualN K (n + 1)) := by
  have D_l_equal : DnH P w K mg base "_law_equal" (n + 1) ["_law_actual", "_law_expected"] (spEqualN K n) := ⟨⟨f, fd, hm, F.kp, ih, hb⟩⟩
  refine okH F sc_l_equal (fun vs H Q E h => ?_) (fun cdv p A outer s H vs Q E hot hr h => ?_)
  · obtain ⟨_, _, rfl, _⟩ := h
    rfl
  · obtain ⟨x, y, rfl, hE, k⟩ := h
    refine ⟨_, (pss_cons (ps_if (pt_cmpR op_isN (pv 1) pe_non (nomark _)) (pss_one (ps_ret (pe_cmpR op_isN (pv 0) pe_non (nomark _))))
  pss_nil)
  (pss_cons (ps_if (pt_val (pe_callB call_isi (by rfl) T.isinstance (by decide +kernel) (pa_cons (pv 1) (pa_cons (pe_bltn (v := .ty "bool") (by rfl) T.bool (by decide +kernel) rfl) pa_nil)))) (pss_one (ps_ret (pe_and (pe_callB call_isi (by rfl) T.isinstance (by decide +kernel) (pa_cons (pv 0) (pa_cons (pe_bltn (v := .ty "bool") (by rfl) T.bool (by decide +kernel) rfl) pa_nil))) (pe_one (pe_cmpR op_eq (pv 0) (pv 1) (nomark _))))))
  pss_nil)
  (pss_cons (ps_if (pt_val (pe_callB call_isi (by rfl) T.isinstance (by decide +kernel) (pa_cons (pv 1) (pa_cons (pe_bltn (v := .ty "int") (by rfl) T.int (by decide +kernel) rfl) pa_nil)))) (pss_one (ps_ret (pe_and (pe_callB call_isi (by rfl) T.isinstance (by decide +kernel) (pa_cons (pv 0) (pa_cons (pe_bltn (v := .ty "int") (by rfl) T.int (by decide +kernel) rfl) pa_nil))) (pe_and (pe_not (pe_callB call_isi (by rfl) T.isinstance (by decide +kernel) (pa_cons (pv 0) (pa_cons (pe_bltn (v := .ty "bool") (by rfl) T.bool (by decide +kernel) rfl) pa_nil)))) (pe_one (pe_cmpR op_eq (pv 0) (pv 1) (nomark _)))))))
  pss_nil)
  (pss_cons (ps_if (pt_val (pe_callB call_isi (by rfl) T.isinstance (by decide +kernel) (pa_cons (pv 1) (pa_cons (pe_bltn (v := .ty "str") (by rfl) T.str (by decide +kernel) rfl) pa_nil)))) (pss_one (ps_ret (pe_and (pe_callB call_isi (by rfl) T.isinstance (by decide +kernel) (pa_cons (pv 0) (pa_cons (pe_bltn (v := .ty "str") (by rfl) T.str (by decide +kernel) rfl) pa_nil))) (pe_one (pe_cmpR op_eq (pv 0) (pv 1) (nomark _))))))
  pss_nil)
  (pss_cons (ps_if (pt_val (pe_callB call_isi (by rfl) T.isinstance (by decide +kernel) (pa_cons (pv 1) (pa_cons (pe_bltn (v := .ty "dict") (by rfl) T.dict (by decide +kernel) rfl) pa_nil)))) (pss_cons ps_neverS
  (pss_one ps_neverS))
  pss_nil)
  (pss_cons (ps_if (pt_cmpR op_ne (pe_callB call_isi (by rfl) T.isinstance (by decide +kernel) (pa_cons (pv 1) (pa_cons (pe_bltn (v := .ty "tuple") (by rfl) T.tuple (by decide +kernel) rfl) pa_nil))) (pe_callB call_isi (by rfl) T.isinstance (by decide +kernel) (pa_cons (pv 0) (pa_cons (pe_bltn (v := .ty "tuple") (by rfl) T.tuple (by decide +kernel) rfl) pa_nil))) (nomark _)) (pss_one (ps_ret pe_bl))
  pss_nil)
  (pss_cons (ps_if (pt_cmpR op_ne (pe_callB call_isi (by rfl) T.isinstance (by decide +kernel) (pa_cons (pv 1) (pa_cons (pe_bltn (v := .ty "list") (by rfl) T.list (by decide +kernel) rfl) pa_nil))) (pe_callB call_isi (by rfl) T.isinstance (by decide +kernel) (pa_cons (pv 0) (pa_cons (pe_bltn (v := .ty "list") (by rfl) T.list (by decide +kernel) rfl) pa_nil))) (nomark _)) (pss_one (ps_ret pe_bl))
  pss_nil)
  (pss_cons (ps_if (pt_cmpR op_ne (pe_callB call_len_seq (by rfl) T.len (by decide +kernel) (pa_cons (pv 0) pa_nil)) (pe_callB call_len_seq (by rfl) T.len (by decide +kernel) (pa_cons (pv 1) pa_nil)) (nomark _)) (pss_one (ps_ret pe_bl))
  pss_nil)
  (pss_one (ps_ret (pe_callB (cr_allH ⟨_, hot, List.mem_cons_self⟩) (by rfl) T.all (by decide +kernel) (pa_cons (pe_lcH (own := [("_law_k", 3)]) (g := gName 3) (tt := tYes) ⟨hot, List.mem_cons_self⟩ sc_l_equal.nd (L2H.pi_range1H (by rfl) T.range (pa_cons (pe_callB call_len_seq (by rfl) T.len (by decide +kernel) (pa_cons (pv 1) pa_nil)) pa_nil)) (blkOk_by (own := [("_law_k", 3)]) (N := ["_law_actual", "_law_expected", "_law_key", "_law_k"]) (sc := defScope s_l_equal) (by decide +kernel)) (fun _ _ _ _ _ => (pg_name (i := 3) sc_l_equal.nd rfl (by first | exact Or.inl rfl | exact Or.inr rfl))) (fun _ _ _ _ _ => pts_nil) (fun _ _ _ _ _ => (pe_fnH D_l_equal (hr.mono (by omega)) ⟨hot, List.mem_cons_self⟩ rfl (pa_cons (pe_ix (ix_seqK (K := K)) (pv 0) (pv 3) (fun _ _ => rfl)) (pa_cons (pe_ix (ix_seqK (K := K)) (pv 1) (pv 3) (fun _ _ => rfl)) pa_nil))))) pa_nil)))))))))))), ?_⟩
    rcases hE with hE | ⟨a, b, xs, ys, rfl, rfl, hS, hl, hz, hi⟩
    · cases hE with
      | bl b =>
        refine q_not (et_is (et_test (ev_op (ev_var rfl) ev_c rv_isN)) rfl) fun H1 e1 => ?_
        refine q_yes (et_B (ev_isi (b := true) (ev_var rfl) (ty_bl b) (kit_ty (a := "bool") (by decide +kernel)))) fun H2 e2 => ?_
        refine s_ret (ev_is (ev_andV (ev_isi (b := true) (ev_var rfl) (ty_bl b) (kit_ty (a := "bool") (by decide +kernel))) fun _ => ev_op (ev_var rfl) (ev_var rfl) (rv_eq rfl)) ?_) fun H3 e3 => k H3 ((e1.trans e2).trans e3)
        rw [decide_eq_true rfl]; rfl
      | int i =>
        refine q_not (et_is (et_test (ev_op (ev_var rfl) ev_c rv_isN)) rfl) fun H1 e1 => ?_
        refine q_not (et_B (ev_isi (ev_var rfl) (ty_int i) kit_ib)) fun H2 e2 => ?_
        refine q_yes (et_B (ev_isi (ev_var rfl) (ty_int i) kit_ii)) fun H3 e3 => ?_
        refine s_ret (ev_is (ev_andV (ev_isi (ev_var rfl) (ty_int i) kit_ii) fun _ => ev_andV (ev_notV (ev_isi (ev_var rfl) (ty_int i) kit_ib)) fun _ => ev_op (ev_var rfl) (ev_var rfl) (rv_eq rfl)) ?_) fun H4 e4 => k H4 (((e1.trans e2).trans e3).trans e4)
        rw [decide_eq_true rfl]; rfl
      | str z =>
        refine q_not (et_is (et_test (ev_op (ev_var rfl) ev_c rv_isN)) rfl) fun H1 e1 => ?_
        refine q_not (et_B (ev_isi (b := false) (ev_var rfl) (ty_str z) (kit_ty (a := "str") (by decide +kernel)))) fun H2 e2 => ?_
        refine q_not (et_B (ev_isi (b := false) (ev_var rfl) (ty_str z) (kit_ty (a := "str") (by decide +kernel)))) fun H3 e3 => ?_
        refine q_yes (et_B (ev_isi (b := true) (ev_var rfl) (ty_str z) (kit_ty (a := "str") (by decide +kernel)))) fun H4 e4 => ?_
        refine s_ret (ev_is (ev_andV (ev_isi (b := true) (ev_var rfl) (ty_str z) (kit_ty (a := "str") (by decide +kernel))) fun _ => ev_op (ev_var rfl) (ev_var rfl) (rv_eq rfl)) ?_) fun H5 e5 => k H5 ((((e1.trans e2).trans e3).trans e4).trans e5)
        rw [decide_eq_true rfl]; rfl
      | non =>
        refine q_yes (et_is (et_test (ev_op (ev_var rfl) ev_c rv_isN)) rfl) fun H1 e1 => ?_
        exact s_ret (ev_is (ev_op (ev_var rfl) ev_c rv_isN) rfl) fun H2 e2 => k H2 (e1.trans e2)
    · obtain ⟨t, bt, bl, ha, hb, k1, k2, k3, k4, k5, k6, sa, sb⟩ : ∃ (t : String) (bt bl : Bool), TyX K H (.ref a) (.type t) ∧ TyX K H (.ref b) (.type t) ∧ kitB t "bool" = some false ∧ kitB t "int" = some false ∧ kitB t "str" = some false ∧ kitB t "dict" = some false ∧ kitB t "tuple" = some bt ∧ kitB t "list" = some bl ∧
          (SqL K H a xs ∨ SqT K H a xs) ∧ (SqL K H b ys ∨ SqT K H b ys) := by
        rcases hS with ⟨h1, h2⟩ | ⟨h1, h2⟩
        · exact ⟨"list", false, true, ty_lst h1, ty_lst h2, by decide +kernel, by decide +kernel, by decide +kernel, by decide +kernel, by decide +kernel, by decide +kernel, .inl h1, .inl h2⟩
        · exact ⟨"tuple", true, false, ty_tup h1, ty_tup h2, by decide +kernel, by decide +kernel, by decide +kernel, by decide +kernel, by decide +kernel, by decide +kernel, .inr h1, .inr h2⟩
      refine q_not (et_is (et_test (ev_op (ev_var rfl) ev_c rv_isN)) rfl) fun H1 e1 => ?_
      refine q_not (et_B (ev_isi (ev_var rfl) (ty_mono e1 hb) (kit_ty k1))) fun H2 e2 => ?_
      refine q_not (et_B (ev_isi (ev_var rfl) (ty_mono (e1.trans e2) hb) (kit_ty k2))) fun H3 e3 => ?_
      refine q_not (et_B (ev_isi (ev_var rfl) (ty_mono ((e1.trans e2).trans e3) hb) (kit_ty k3))) fun H4 e4 => ?_
      have E4 := ((e1.trans e2).trans e3).trans e4
      refine q_not (et_B (ev_isi (ev_var rfl) (ty_mono E4 hb) (kit_ty k4))) fun H5 e5 => ?_
      refine q_not (et_is (et_cmp (ev_isi (ev_var rfl) (ty_mono (E4.trans e5) hb) (kit_ty k5)) (ev_isi (ev_var rfl) (ty_mono (E4.trans e5) ha) (kit_ty k5)) (rv_ne rfl)) (by rw [decide_eq_true rfl]; rfl)) fun H6 e6 => ?_
      have E6 := (E4.trans e5).trans e6
      refine q_not (et_is (et_cmp (ev_isi (ev_var rfl) (ty_mono E6 hb) (kit_ty k6)) (ev_isi (ev_var rfl) (ty_mono E6 ha) (kit_ty k6)) (rv_ne rfl)) (by rw [decide_eq_true rfl]; rfl)) fun H7 e7 => ?_
      have E7 := E6.trans e7
      have lenQ : ∀ {σ : L2.St} {H2 : Hp} {tx : TE} {p : Addr} {zs : List V}, Ev tx σ H2 (.ref p) → (SqL K H p zs ∨ SqT K H p zs) → Ex H H2 → Ev (tCB (rLenS K) (tCons tx tNil)) σ H2 (.int (zs.length : Int)) := fun he hs ee => hs.elim (fun h => ev_lenL he (ex_l ee h)) (fun h => ev_lenT he (ex_t ee h))
      refine q_not (et_is (et_cmp (lenQ (ev_var rfl) sa E7) (lenQ (ev_var rfl) sb E7) (rv_ne rfl)) (by rw [hl, decide_eq_true rfl]; rfl)) fun H8 e8 => ?_
      have E8 := E7.trans e8
      refine s_ret (ev_is (ev_all (bs := (List.range ys.length).map fun _ => true) (el_is (el_rng (n := (ys.length : Int)) (fun _ => .bl true) (ea_cons (lenQ (ev_var rfl) sb E8) ea_nil) ⟨by omega, by omega⟩ (fun _ => rfl) fun i H9 e9 hi' => ?_) (by rw [Int.toNat_natCast, List.map_map]; rfl))) ?_) fun H9 e9 => k H9 (E8.trans e9)
      · have hx : i < xs.length := by omega
        have hy : i < ys.length := by omega
        have E9 := E8.trans e9
        refine ev_call (ea_cons (ev_op (ev_var rfl) (ev_var rfl) (rv_ixQ (sa.imp (ex_l E9) (ex_t E9)) (List.getElem?_eq_getElem hx))) (ea_cons (ev_op (ev_var rfl) (ev_var rfl) (rv_ixQ (sb.imp (ex_l E9) (ex_t E9)) (List.getElem?_eq_getElem hy))) ea_nil)) (spV (z := .bl true) fun H10 e10 Q _ q => ⟨_, _, rfl, EqAt.mono (E9.trans e10) (hi i _ _ (List.getElem?_eq_getElem hx) (List.getElem?_eq_getElem hy)), q⟩)
      · have : ((List.range ys.length).map fun _ => true).all id = true := by
          rw [List.all_eq_true]
          intro b hb
          rw [List.mem_map] at hb
          obtain ⟨_, _, rfl⟩ := hb
          rfl
        rw [this]
theorem ok_lequalN (F : Fun K "_law_equal" "_law_equal" s_l_equal f fd) (T : Txt P w K mg C_FeastError C_BadRule C_BadRules C_BadLand C_BadDay C_BadNumber C_BadSeen C_BadText) (hm : mg "_law_equal" = some (.ref f)) (hb : Binds K fd ["_law_actual", "_law_expected"] []) : ∀ n : Nat, L2H.FnH P w K mg base CX0 (n + 1) f fd ["_law_actual", "_law_expected"] (spEqualN K n)
  | 0 => fnh_none fun _ _ _ _ ⟨_, _, _, h, _⟩ => h
  | n + 1 => lequal_turn F T hm hb n (ok_lequalN F T hm hb n)
theorem dh_lequalN (T : Txt P w K mg C_FeastError C_BadRule C_BadRules C_BadLand C_BadDay C_BadNumber C_BadSeen C_BadText) (n : Nat) : DnH P w K mg base "_law_equal" (n + 1) ["_law_actual", "_law_expected"] (spEqualN K n) := FunAt.dnH T.f_l_equal fun _ _ F hm hb => ok_lequalN F T hm hb n
end
end WF

set_option Elab.async false
set_option linter.all false
set_option maxRecDepth 100000
set_option maxHeartbeats 2000000
/-! the law's thrown, classes, fields -/
namespace WF
open PySem L2 Evl
def clsN (a b c d e f g : Addr) : Nat → Addr
  | 0 => a
  | 1 => b
  | 2 => c
  | 3 => d
  | 4 => e
  | 5 => f
  | _ => g
/-- what the top says of the seven classes, one beside the other -/
structure Seven (K : PySem.W.Frag) (cs : Nat → Addr) (FE : Addr) : Prop where
  xc : ∀ k, k < 7 → ExcC K (cs k)
  ve : ∀ k, k < 7 → PySem.W.kitOne K (.ref (cs k)) (.type "ValueError") = some true
  fe : ∀ k, k < 7 → PySem.W.exmOne K (.ref (cs k)) (.ref FE) = some true
  kit : ∀ k j, k < 7 → j < 7 → PySem.W.kitOne K (.ref (cs k)) (.ref (cs j)) = some (decide (j = k))
theorem kit_ve {K : PySem.W.Frag} {C : Addr} (h : PySem.W.subIn K (.ref C) (.type "ValueError") = some true) : PySem.W.kitOne K (.ref C) (.type "ValueError") = some true := by
  unfold PySem.W.kitOne
  rw [if_neg (fun q => by cases beq_iff_eq.mp q)]
  show (if PySem.W.kitMeta "ValueError" = true then _ else none) = _
  rw [if_pos (by decide +kernel)]
  exact h
theorem kit_two {K : PySem.W.Frag} {C D : Addr} (hs : PySem.W.subIn K (.ref C) (.ref C) = some true) (hD : PySem.W.isClsIn K D = true) (tD : PySem.W.typeIn K (.ref D) = some (.type "type")) (h : PySem.W.subIn K (.ref C) (.ref D) = some false) : PySem.W.kitOne K (.ref C) (.ref D) = some false := by
  unfold PySem.W.kitOne
  rw [if_neg (fun q => by cases beq_iff_eq.mp q; rw [hs] at h; cases h)]
  unfold PySem.W.kitCls
  have h2 : (PySem.W.clsIn K D).isSome = true := hD
  simp only [h2, tD, h]
  rfl
/-- the fields of the k-th -/
def fldN (k : Nat) (u v : V) : List (Str × V) := if k < 4 then [] else if k < 6 then [("index", u)] else [("word", v), ("line", u)]
/-- the dict of the k-th -/
def DictN (H : Hp) (k : Nat) (u v : V) (d : Option Addr) : Prop := (k < 4 ∧ d = none) ∨ (4 ≤ k ∧ ∃ dd, d = some dd ∧ H dd = some (.xd (fldN k u v)))
theorem DictN.mono {H H' : Hp} {k : Nat} {u v : V} {d : Option Addr} (e : Ex H H') (h : DictN H k u v d) : DictN H' k u v d := h.imp id fun ⟨h0, dd, h1, h2⟩ => ⟨h0, dd, h1, e _ _ h2⟩
theorem DictN.xd {H : Hp} {k : Nat} {u v : V} {d : Option Addr} (h : DictN H k u v d) : XdAt H d := h.elim (fun h => .inl h.2) fun ⟨_, dd, h1, h2⟩ => .inr ⟨dd, _, h1, h2⟩
/-- the fields as the law lists them -/
def dueN (k : Nat) (u v : V) : List V := if k < 4 then [] else if k < 6 then [u] else [u, v]
section
variable {P : Program} {w : World} {K : PySem.W.Frag} {mg : Str → Option Value} {base : Heap} {C_FeastError C_BadRule C_BadRules C_BadLand C_BadDay C_BadNumber C_BadSeen C_BadText : Addr} {f : Addr} {fd : FuncData}
def spThrown (cs : Nat → Addr) : Sp := fun vs H _ E => ∃ (k : Nat) (u v : V), vs = [.int (k : Int), u, v] ∧ k < 7 ∧ ∀ d H1, Ex H H1 → DictN H1 k u v d → E (.ref (cs k)) d H1
theorem ok_thrown (F : Fun K "_law_thrown" "_law_thrown" s_l_thrown f fd) (T : Txt P w K mg C_FeastError C_BadRule C_BadRules C_BadLand C_BadDay C_BadNumber C_BadSeen C_BadText) : FnOk P w K mg base (L2N.CX P w) 5 f fd ["_law_k", "_law_one", "_law_two"] (spThrown (clsN C_BadDay C_BadLand C_BadNumber C_BadRule C_BadRules C_BadSeen C_BadText)) := by
  have ME_BadRules : MnE P w K mg base C_BadRules 2 (spE1 C_BadRules "index") := me_BadRules T
  have ME_BadSeen : MnE P w K mg base C_BadSeen 2 (spE1 C_BadSeen "index") := me_BadSeen T
  have ME_BadText : MnE P w K mg base C_BadText 2 (spE2 C_BadText "line" "word") := me_BadText T
  refine okN F sc_l_thrown (fun vs H Q E h => ?_) (fun cdv A outer s H vs Q E hr h => ?_)
  · obtain ⟨_, _, _, rfl, _⟩ := h
    rfl
  · obtain ⟨k, u, v, rfl, hk, h⟩ := h
    refine ⟨_, (pss_cons (ps_if (pt_cmpR op_eq (pv 0) pe_int (nomark _)) (pss_one (ps_raise0N rfl (L2N.takes_of rfl rfl rfl rfl) T.e_BadDay T.c_BadDay rfl))
  pss_nil)
  (pss_cons (ps_if (pt_cmpR op_eq (pv 0) pe_int (nomark _)) (pss_one (ps_raise0N rfl (L2N.takes_of rfl rfl rfl rfl) T.e_BadLand T.c_BadLand rfl))
  pss_nil)
  (pss_cons (ps_if (pt_cmpR op_eq (pv 0) pe_int (nomark _)) (pss_one (ps_raise0N rfl (L2N.takes_of rfl rfl rfl rfl) T.e_BadNumber T.c_BadNumber rfl))
  pss_nil)
  (pss_cons (ps_if (pt_cmpR op_eq (pv 0) pe_int (nomark _)) (pss_one (ps_raise0N rfl (L2N.takes_of rfl rfl rfl rfl) T.e_BadRule T.c_BadRule rfl))
  pss_nil)
  (pss_cons (ps_if (pt_cmpR op_eq (pv 0) pe_int (nomark _)) (pss_one (ps_raiseSN rfl (L2N.takes_of rfl rfl rfl rfl) ME_BadRules (hr.mono (by omega)) T.c_BadRules rfl (pa_cons (pv 1) pa_nil)))
  pss_nil)
  (pss_cons (ps_if (pt_cmpR op_eq (pv 0) pe_int (nomark _)) (pss_one (ps_raiseSN rfl (L2N.takes_of rfl rfl rfl rfl) ME_BadSeen (hr.mono (by omega)) T.c_BadSeen rfl (pa_cons (pv 1) pa_nil)))
  pss_nil)
  (pss_one (ps_raiseSN rfl (L2N.takes_of rfl rfl rfl rfl) ME_BadText (hr.mono (by omega)) T.c_BadText rfl (pa_cons (pv 1) (pa_cons (pv 2) pa_nil)))))))))), ?_⟩
    have no : ∀ {σ : L2.St} {H : Hp} {i j : Int}, σ[0]? = some (some (.int i)) → ¬ i = j → EvT (tTest (tOp rEq (tVar 0) (tC (.int j)))) σ H false := fun h n => et_is (et_cmp (ev_var h) ev_c (rv_eq rfl)) (decide_eq_false fun q => n (V.int.inj q))
    have yes : ∀ {σ : L2.St} {H : Hp} {i : Int}, σ[0]? = some (some (.int i)) → EvT (tTest (tOp rEq (tVar 0) (tC (.int i)))) σ H true := fun h => et_is (et_cmp (ev_var h) ev_c (rv_eq rfl)) (decide_eq_true rfl)
    match k, hk with
    | 0, _ => exact q_yes (yes rfl) fun H1 e1 => h none H1 e1 (.inl ⟨by decide, rfl⟩)
    | 1, _ => exact q_not (no rfl (by decide)) fun H1 e1 => q_yes (yes rfl) fun H2 e2 => h none H2 (e1.trans e2) (.inl ⟨by decide, rfl⟩)
    | 2, _ => exact q_not (no rfl (by decide)) fun H1 e1 => q_not (no rfl (by decide)) fun H2 e2 => q_yes (yes rfl) fun H3 e3 => h none H3 ((e1.trans e2).trans e3) (.inl ⟨by decide, rfl⟩)
    | 3, _ => exact q_not (no rfl (by decide)) fun H1 e1 => q_not (no rfl (by decide)) fun H2 e2 => q_not (no rfl (by decide)) fun H3 e3 => q_yes (yes rfl) fun H4 e4 => h none H4 (((e1.trans e2).trans e3).trans e4) (.inl ⟨by decide, rfl⟩)
    | 4, _ => exact q_not (no rfl (by decide)) fun H1 e1 => q_not (no rfl (by decide)) fun H2 e2 => q_not (no rfl (by decide)) fun H3 e3 => q_not (no rfl (by decide)) fun H4 e4 => q_yes (yes rfl) fun H5 e5 => raise1 (W := fun cls d _ H => E cls d H) (ea_cons (ev_var rfl) ea_nil) fun d H6 e6 _ hd => h (some d) H6 (((((e1.trans e2).trans e3).trans e4).trans e5).trans e6) (.inr ⟨by decide, d, rfl, hd⟩)
    | 5, _ => exact q_not (no rfl (by decide)) fun H1 e1 => q_not (no rfl (by decide)) fun H2 e2 => q_not (no rfl (by decide)) fun H3 e3 => q_not (no rfl (by decide)) fun H4 e4 => q_not (no rfl (by decide)) fun H5 e5 => q_yes (yes rfl) fun H6 e6 => raise1 (W := fun cls d _ H => E cls d H) (ea_cons (ev_var rfl) ea_nil) fun d H7 e7 _ hd => h (some d) H7 ((((((e1.trans e2).trans e3).trans e4).trans e5).trans e6).trans e7) (.inr ⟨by decide, d, rfl, hd⟩)
    | 6, _ => exact q_not (no rfl (by decide)) fun H1 e1 => q_not (no rfl (by decide)) fun H2 e2 => q_not (no rfl (by decide)) fun H3 e3 => q_not (no rfl (by decide)) fun H4 e4 => q_not (no rfl (by decide)) fun H5 e5 => q_not (no rfl (by decide)) fun H6 e6 => raise2 (W := fun cls d _ H => E cls d H) (ea_cons (ev_var rfl) (ea_cons (ev_var rfl) ea_nil)) fun d H7 e7 _ hd => h (some d) H7 ((((((e1.trans e2).trans e3).trans e4).trans e5).trans e6).trans e7) (.inr ⟨by decide, d, rfl, hd⟩)
    | n + 7, hk => exact absurd hk (by omega)
theorem dn_thrown (T : Txt P w K mg C_FeastError C_BadRule C_BadRules C_BadLand C_BadDay C_BadNumber C_BadSeen C_BadText) : Dn P w K mg base (L2N.CX P w) "_law_thrown" 5 ["_law_k", "_law_one", "_law_two"] (spThrown (clsN C_BadDay C_BadLand C_BadNumber C_BadRule C_BadRules C_BadSeen C_BadText)) := T.f_l_thrown.dn fun _ _ F _ _ => ok_thrown F T
def spClasses (cs : Nat → Addr) : SpE := fun a cls d vs H Q _ => ∃ k, vs = [.ref a] ∧ cls = .ref (cs k) ∧ k < 7 ∧ XdAt H d ∧ RetL ((List.range 7).map fun j => V.bl (decide (j = k))) H Q
theorem ok_classes {FE : Addr} (F : Fun K "_law_classes" "_law_classes" s_l_classes f fd) (T : Txt P w K mg C_FeastError C_BadRule C_BadRules C_BadLand C_BadDay C_BadNumber C_BadSeen C_BadText) (S : Seven K (clsN C_BadDay C_BadLand C_BadNumber C_BadRule C_BadRules C_BadSeen C_BadText) FE) : FnE P w K mg base CX0 2 f fd ["_law_e"] (spClasses (clsN C_BadDay C_BadLand C_BadNumber C_BadRule C_BadRules C_BadSeen C_BadText)) := by
  refine okE F sc_l_classes (fun a cls d vs H Q E h => ?_) (fun cdv p cls d A outer s H vs Q E hot hz hr h => ?_)
  · obtain ⟨_, rfl, _⟩ := h
    rfl
  · obtain ⟨k, rfl, rfl, hk, hd, h⟩ := h
    obtain ⟨hh, vX, hv, cX⟩ := id hot
    have hf : ∃ vs, p.2.data = .fields vs := ⟨vX, hv⟩
    refine ⟨_, (pss_cons (ps_set (i := 1) sc_l_classes.nd rfl (by first | exact Or.inl rfl | exact Or.inr rfl) (pe_lst (pa_cons (pe_callB (call_isP hz hf List.mem_cons_self) (by rfl) T.isinstance (by decide +kernel) (pa_cons (pv 0) (pa_cons (pe_glob (v := .ref C_BadDay) rfl T.c_BadDay rfl) pa_nil))) (pa_cons (pe_callB (call_isP hz hf List.mem_cons_self) (by rfl) T.isinstance (by decide +kernel) (pa_cons (pv 0) (pa_cons (pe_glob (v := .ref C_BadLand) rfl T.c_BadLand rfl) pa_nil))) (pa_cons (pe_callB (call_isP hz hf List.mem_cons_self) (by rfl) T.isinstance (by decide +kernel) (pa_cons (pv 0) (pa_cons (pe_glob (v := .ref C_BadNumber) rfl T.c_BadNumber rfl) pa_nil))) (pa_cons (pe_callB (call_isP hz hf List.mem_cons_self) (by rfl) T.isinstance (by decide +kernel) (pa_cons (pv 0) (pa_cons (pe_glob (v := .ref C_BadRule) rfl T.c_BadRule rfl) pa_nil))) pa_nil))))))
  (pss_one (ps_ret (pe_op op_cat (pv 1) (pe_lst (pa_cons (pe_callB (call_isP hz hf List.mem_cons_self) (by rfl) T.isinstance (by decide +kernel) (pa_cons (pv 0) (pa_cons (pe_glob (v := .ref C_BadRules) rfl T.c_BadRules rfl) pa_nil))) (pa_cons (pe_callB (call_isP hz hf List.mem_cons_self) (by rfl) T.isinstance (by decide +kernel) (pa_cons (pv 0) (pa_cons (pe_glob (v := .ref C_BadSeen) rfl T.c_BadSeen rfl) pa_nil))) (pa_cons (pe_callB (call_isP hz hf List.mem_cons_self) (by rfl) T.isinstance (by decide +kernel) (pa_cons (pv 0) (pa_cons (pe_glob (v := .ref C_BadText) rfl T.c_BadText rfl) pa_nil))) pa_nil)))))))), ?_⟩
    have is : ∀ {σ : L2.St} {H' : Hp} (j : Nat), Ex H H' → σ[0]? = some (some (.ref p.1)) → j < 7 → Ev (tCB (rIsP K p.1 (.ref (clsN C_BadDay C_BadLand C_BadNumber C_BadRule C_BadRules C_BadSeen C_BadText k)) d) (tCons (tVar 0) (tCons (tC (.ref (clsN C_BadDay C_BadLand C_BadNumber C_BadRule C_BadRules C_BadSeen C_BadText j))) tNil))) σ H' (.bl (decide (j = k))) := fun j e h0 hj => ev_isP (ev_var h0) (S.xc k hk) (hd.mono e) (S.kit k j hk hj)
    refine q_asgL (el_lst (ea_cons (is 0 (Ex.refl H) rfl (by decide)) (ea_cons (is 1 (Ex.refl H) rfl (by decide)) (ea_cons (is 2 (Ex.refl H) rfl (by decide)) (ea_cons (is 3 (Ex.refl H) rfl (by decide)) ea_nil)))) (by show 4 ≤ 100000; decide)) fun L H1 hL e1 hLv => ?_
    refine s_retL (xs := (List.range 7).map fun j => V.bl (decide (j = k))) (fun H2 e2 Q q => ?_) fun q H2 hq e2 h2 => h q H2 (fresh_back e1 hq) (e1.trans e2) h2
    refine ev_var rfl H2 e2 _ fun H3 e3 => (el_lst (ea_cons (is 4 ((e1.trans e2).trans e3) rfl (by decide)) (ea_cons (is 5 ((e1.trans e2).trans e3) rfl (by decide)) (ea_cons (is 6 ((e1.trans e2).trans e3) rfl (by decide)) ea_nil))) (by show 3 ≤ 100000; decide)) H3 (Ex.refl H3) _ fun l H4 hl e4 hlv => ⟨L, l, _, _, rfl, rfl, (e3.trans e4) _ _ (e2 _ _ hLv), hlv, by show 4 + 3 ≤ sizeLine; decide, fun r hr => q r _ (fresh_back (e3.trans e4) hr) ((e3.trans e4).trans (Ex.new hr)) upd_same⟩
theorem de_classes {FE : Addr} (T : Txt P w K mg C_FeastError C_BadRule C_BadRules C_BadLand C_BadDay C_BadNumber C_BadSeen C_BadText) (S : Seven K (clsN C_BadDay C_BadLand C_BadNumber C_BadRule C_BadRules C_BadSeen C_BadText) FE) : DnE P w K mg base "_law_classes" 2 ["_law_e"] (spClasses (clsN C_BadDay C_BadLand C_BadNumber C_BadRule C_BadRules C_BadSeen C_BadText)) := FunAt.dnE T.f_l_classes fun _ _ F => ok_classes F T S
def spFields (cs : Nat → Addr) : SpE := fun a cls d vs H Q _ => ∃ (k : Nat) (u v : V), vs = [.int (k : Int), .ref a] ∧ cls = .ref (cs k) ∧ k < 7 ∧ DictN H k u v d ∧ RetL (dueN k u v) H Q
theorem ok_fields (F : Fun K "_law_fields" "_law_fields" s_l_fields f fd) (T : Txt P w K mg C_FeastError C_BadRule C_BadRules C_BadLand C_BadDay C_BadNumber C_BadSeen C_BadText) : FnE P w K mg base CX0 2 f fd ["_law_k", "_law_e"] (spFields (clsN C_BadDay C_BadLand C_BadNumber C_BadRule C_BadRules C_BadSeen C_BadText)) := by
  refine okE F sc_l_fields (fun a cls d vs H Q E h => ?_) (fun cdv p cls d A outer s H vs Q E hot hz hr h => ?_)
  · obtain ⟨_, _, _, rfl, _⟩ := h
    rfl
  · obtain ⟨k, u, v, rfl, rfl, hk, hd, h⟩ := h
    obtain ⟨hh, vX, hv, cX⟩ := id hot
    have hf : ∃ vs, p.2.data = .fields vs := ⟨vX, hv⟩
    refine ⟨_, (pss_cons (ps_if (pt_cmpR op_lt (pv 0) pe_int (nomark _)) (pss_one (ps_ret (pe_lst pa_nil)))
  pss_nil)
  (pss_one (ps_ret (pe_ifExp (pt_cmpR op_lt (pv 0) pe_int (nomark _)) (pe_lst (pa_cons (pe_xfP hz hf List.mem_cons_self (pv 1)) pa_nil)) (pe_lst (pa_cons (pe_xfP hz hf List.mem_cons_self (pv 1)) (pa_cons (pe_xfP hz hf List.mem_cons_self (pv 1)) pa_nil))))))), ?_⟩
    have lt : ∀ {σ : L2.St} {H : Hp} {j : Int}, σ[0]? = some (some (.int (k : Int))) → EvT (tTest (tOp (rI0 fun i j => V.bl (decide (i < j))) (tVar 0) (tC (.int j)))) σ H (decide ((k : Int) < j)) := fun h0 => et_cmp (ev_var h0) ev_c rv_I0
    rcases hd with ⟨h4, rfl⟩ | ⟨h4, dd, rfl, hx⟩
    · refine q_yes (et_is (lt rfl) (decide_eq_true (by omega))) fun H1 e1 => ?_
      refine s_retL (el_lst ea_nil (by show 0 ≤ 100000; decide)) fun q H2 hq e2 h2 => h q H2 (fresh_back e1 hq) (e1.trans e2) ?_
      rw [h2, dueN, if_pos h4]
    · refine q_not (et_is (lt rfl) (decide_eq_false (by omega))) fun H1 e1 => ?_
      obtain rfl | rfl | rfl : k = 4 ∨ k = 5 ∨ k = 6 := by omega
      · exact s_retL (el_ifT (et_is (lt rfl) (decide_eq_true (by decide))) (el_lst (ea_cons (ev_xfP (f := "index") (v := u) (ev_var rfl) T.x_BadRules.xf (T.x_BadRules.no _ (by simp)) (e1 _ _ hx) rfl) ea_nil) (by show 1 ≤ 100000; decide))) fun q H2 hq e2 h2 => h q H2 (fresh_back e1 hq) (e1.trans e2) h2
      · exact s_retL (el_ifT (et_is (lt rfl) (decide_eq_true (by decide))) (el_lst (ea_cons (ev_xfP (f := "index") (v := u) (ev_var rfl) T.x_BadSeen.xf (T.x_BadSeen.no _ (by simp)) (e1 _ _ hx) rfl) ea_nil) (by show 1 ≤ 100000; decide))) fun q H2 hq e2 h2 => h q H2 (fresh_back e1 hq) (e1.trans e2) h2
      · exact s_retL (el_ifF (et_is (lt rfl) (decide_eq_false (by decide))) (el_lst (ea_cons (ev_xfP (f := "line") (v := u) (ev_var rfl) T.x_BadText.xf (T.x_BadText.no _ (by simp)) (e1 _ _ hx) rfl) (ea_cons (ev_xfP (f := "word") (v := v) (ev_var rfl) T.x_BadText.xf (T.x_BadText.no _ (by simp)) (e1 _ _ hx) rfl) ea_nil)) (by show 2 ≤ 100000; decide))) fun q H2 hq e2 h2 => h q H2 (fresh_back e1 hq) (e1.trans e2) h2
theorem de_fields (T : Txt P w K mg C_FeastError C_BadRule C_BadRules C_BadLand C_BadDay C_BadNumber C_BadSeen C_BadText) : DnE P w K mg base "_law_fields" 2 ["_law_k", "_law_e"] (spFields (clsN C_BadDay C_BadLand C_BadNumber C_BadRule C_BadRules C_BadSeen C_BadText)) := FunAt.dnE T.f_l_fields fun _ _ F => ok_fields F T
end
end WF

set_option Elab.async false
set_option linter.all false
set_option maxRecDepth 100000
set_option maxHeartbeats 4000000
/-! the law itself -/
namespace WF
open PySem L2 Evl
/-- one of what is drawn for a field -/
def OneAt (H : Hp) (y : V) : Prop := EqB y y ∨ ∃ t, y = .ref t ∧ (H t = some (.tup [.int 1]) ∨ H t = some (.lst [.int 2]))
theorem OneAt.mono {H H' : Hp} {y : V} (e : Ex H H') (h : OneAt H y) : OneAt H' y := h.imp id fun ⟨t, h0, h1⟩ => ⟨t, h0, h1.imp (e _ _) (e _ _)⟩
theorem OneAt.but {H H' : Hp} {y : V} {d : Addr} (e : ExB d H H') (n : y ≠ .ref d) (h : OneAt H y) : OneAt H' y := h.imp id fun ⟨t, h0, h1⟩ => by
  have nt : t ≠ d := fun z => n (by rw [h0, z])
  exact ⟨t, h0, h1.imp (e _ _ nt) (e _ _ nt)⟩
theorem OneAt.eq {K : PySem.W.Frag} {H : Hp} {y : V} (h : OneAt H y) : EqAt K H 2 y y := by
  rcases h with h | ⟨t, rfl, h | h⟩
  · exact .inl h
  · exact .inr ⟨t, t, _, _, rfl, rfl, .inr ⟨st_of h, st_of h⟩, rfl, by show 1 ≤ 40000; decide, fun i x y hx hy => by
      rw [hx] at hy
      cases hy
      match i, hx with
      | 0, hx => cases hx; exact .inl (.int 1)⟩
  · exact .inr ⟨t, t, _, _, rfl, rfl, .inl ⟨sq_of h, sq_of h⟩, rfl, by show 1 ≤ 40000; decide, fun i x y hx hy => by
      rw [hx] at hy
      cases hy
      match i, hx with
      | 0, hx => cases hx; exact .inl (.int 2)⟩
theorem due_eq {K : PySem.W.Frag} {H : Hp} {k : Nat} {u v : V} {p q : Addr} (hu : OneAt H u) (hv : OneAt H v) (hp : H p = some (.lst (dueN k u v))) (hq : H q = some (.lst (dueN k u v))) : EqAt K H 3 (.ref p) (.ref q) := by
  refine .inr ⟨p, q, _, _, rfl, rfl, .inl ⟨sq_of hp, sq_of hq⟩, rfl, ?_, fun i x y hx hy => ?_⟩
  · unfold dueN
    split
    · exact Nat.zero_le _
    · split
      · show 1 ≤ 40000
        decide
      · show 2 ≤ 40000
        decide
  · rw [hx] at hy
    cases hy
    have hm := List.mem_of_getElem? hx
    have : x = u ∨ x = v := by
      unfold dueN at hm
      split at hm
      · cases hm
      · split at hm
        · exact .inl (by simpa using hm)
        · simpa using hm
    rcases this with rfl | rfl
    · exact hu.eq
    · exact hv.eq
theorem eqv_bools : ∀ bs : List Bool, PyData.eqv (.list (bs.map PyData.bool)) (.list (bs.map PyData.bool)) = true := fun bs => by
  show PyData.eqvAll _ _ = true
  induction bs with
  | nil => simp [PyData.eqvAll]
  | cons i ns ih => simp [PyData.eqvAll, PyData.eqv, ih]
section
variable {K : PySem.W.Frag} {σ : L2.St} {H : Hp} {ta tb tc te tl tj : TE} {tA : TA} {D : Ends} {tz : TS} {xs : List V} {W : Ends → WX}
theorem tA_hd {Q : List V → Hp → Prop} (h : ta σ H fun x H1 => tA σ H1 fun xs H2 => Q (x :: xs) H2) : tCons ta tA σ H Q := h
theorem tA_c {Q : List V → Hp → Prop} {v : V} (h : tA σ H fun xs H2 => Q (v :: xs) H2) : tCons (tC v) tA σ H Q := h
theorem tA_lst {Q : List V → Hp → Prop} (h : ta σ H fun x H1 => Q [x] H1) : tCons ta tNil σ H Q := h
theorem tOp_raw {r : R2} {Q : VK} (h : ta σ H fun x H1 => tb σ H1 fun y H2 => r x y H2 Q) : tOp r ta tb σ H Q := h
theorem tLst_raw {Q : VK} (h : tA σ H fun xs H1 => xs.length ≤ sizeLine ∧ ∀ p, H1 p = none → Q (.ref p) (upd H1 p (.lst xs))) : tLst tA σ H Q := h
theorem dp_bools : ∀ bs : List Bool, DpAll K H (bs.map V.bl) (bs.map PyData.bool)
  | [] => .nil
  | b :: bs => .cons (.bl b) (dp_bools bs)
theorem ev_eqBs {bs : List Bool} (sh : SeqAt.shaped (.list (bs.map PyData.bool)) = true) (h1 : EvL ta σ H (bs.map V.bl)) (h2 : EvL tb σ H (bs.map V.bl)) : Ev (tOp (rEqD K) ta tb) σ H (.bl true) := fun H1 e Q q => h1 H1 e _ fun p H2 hp e2 k1 => h2 H2 (e.trans e2) _ fun p2 H3 hp2 e3 k2 =>
  ⟨.list (bs.map PyData.bool), .list (bs.map PyData.bool), .lst (sq_of (e3 _ _ k1)) (dp_bools bs), .lst (sq_of k2) (dp_bools bs), sh, sh, by
    rw [eqv_bools]
    exact q H3 (e2.trans e3)⟩
theorem ev_intB {b : Bool} (h : Ev ta σ H (.bl b)) : Ev (tCB (fun xs H Q => (∃ i, xs = [.int i] ∧ Q (.int i) H) ∨ ∃ k, xs = [.bl k] ∧ Q (.int (if k then 1 else 0)) H) (tCons ta tNil)) σ H (.int (if b then 1 else 0)) :=
  ev_cb (ea_cons h ea_nil) fun H1 _ Q q => .inr ⟨b, rfl, q H1 (Ex.refl H1)⟩
theorem pick_E {d : Addr} {Q : VK} {E : XK} {S : List V → Hp → Prop} {n : Nat} (hS : ∀ ys H, S ys H → ys.length = n) (h0 : Ev ta σ H (.ref d)) (hl : EvR tl σ H fun p H2 => ∃ ys, H2 p = some (.lst ys) ∧ S ys H2) (hd : H d = some (.lst xs)) (hg : Good xs) (h1 : 1 ≤ n) (h2 : n ≤ 1000)
    (k : ∀ y ys xs' H2 H', Ex H H2 → S ys H2 → y ∈ ys → ExB d H2 H' → H2 d = some (.lst xs) → H' d = some (.lst xs') → Good xs' → Q y H') : tCall (spPick K) [] E (tCons ta (tCons tl tNil)) σ H Q :=
  h0 H (Ex.refl H) _ fun H1 e1 => hl H1 e1 _ fun p H2 hp e2 ⟨ys, hy, hs⟩ => ⟨d, p, xs, ys, rfl, (e1.trans e2) _ _ hd, hg, sq_of hy, (ne_of_none (e1 _ _ hd) hp).symm, by rw [hS _ _ hs]; exact h1, by rw [hS _ _ hs]; omega, fun y xs' H' hm hg' eb hd' =>
    k y ys xs' H2 H' (e1.trans e2) hs hm eb ((e1.trans e2) _ _ hd) hd' hg'⟩
/-- what is drawn from: four plain ones, a tuple, a list -/
def SixAt (K0 : Hp) (ys : List V) (H : Hp) : Prop := ys.length = 6 ∧ ∀ y ∈ ys, OneAt H y ∧ ∀ d o, K0 d = some o → y ≠ .ref d
theorem er_six {a b : Str} {i : Int} : EvR (tLst (tCons (tC (.str a)) (tCons (tC (.str b)) (tCons (tC (.int i)) (tCons (tC .non) (tCons (tTup (tCons (tC (.int 1)) tNil)) (tCons (tLst (tCons (tC (.int 2)) tNil)) tNil))))))) σ H fun p H2 => ∃ ys, H2 p = some (.lst ys) ∧ SixAt H ys H2 := fun H1 e Q q =>
  tLst_raw (tA_c (tA_c (tA_c (tA_c (tA_hd ((eu_tup (σ := σ) (H := H1) (vs := [.int 1]) (ea_cons ev_c ea_nil) (by show 1 ≤ 100000; decide)) H1 (Ex.refl H1) _ fun t H2 ht e2 k1 => tA_lst ((el_lst (σ := σ) (H := H2) (vs := [.int 2]) (ea_cons ev_c ea_nil) (by show 1 ≤ 100000; decide)) H2 (Ex.refl H2) _ fun l H3 hl e3 k2 => ⟨by show 6 ≤ sizeLine; decide, fun p hp => by
    have e4 : Ex H3 (upd H3 p (.lst [.str a, .str b, .int i, .non, .ref t, .ref l])) := Ex.new hp
    refine q p _ (fresh_back (e2.trans e3) hp) ((e2.trans e3).trans e4) ⟨_, upd_same, rfl, fun y hy => ?_⟩
    simp only [List.mem_cons, List.not_mem_nil, or_false] at hy
    rcases hy with rfl | rfl | rfl | rfl | rfl | rfl
    · exact ⟨.inl (.str a), fun _ _ _ z => nomatch z⟩
    · exact ⟨.inl (.str b), fun _ _ _ z => nomatch z⟩
    · exact ⟨.inl (.int i), fun _ _ _ z => nomatch z⟩
    · exact ⟨.inl .non, fun _ _ _ z => nomatch z⟩
    · refine ⟨.inr ⟨t, rfl, .inl ((e3.trans e4) _ _ k1)⟩, fun d o hd z => ?_⟩
      cases z
      rw [e _ _ hd] at ht
      cases ht
    · refine ⟨.inr ⟨l, rfl, .inr (e4 _ _ k2)⟩, fun d o hd z => ?_⟩
      cases z
      rw [(e.trans e2) _ _ hd] at hl
      cases hl⟩)))))))
theorem ex_due {k : Nat} {u v : V} {i j : Nat} (hu : σ[i]? = some (some u)) (hv : σ[j]? = some (some v)) (hj : Ev tj σ H (.int (if k < 4 then 0 else if k < 6 then 1 else 2))) :
    EvX (tOp (rIxL K) (tLst (tCons (tLst tNil) (tCons (tLst (tCons (tVar i) tNil)) (tCons (tLst (tCons (tVar i) (tCons (tVar j) tNil))) tNil)))) tj) σ H fun w H2 => ∃ q, w = .ref q ∧ H2 q = some (.lst (dueN k u v)) := fun H1 e Q q =>
  tOp_raw (tLst_raw (tA_hd ((el_lst (σ := σ) (H := H1) (vs := []) ea_nil (by show 0 ≤ 100000; decide)) H1 (Ex.refl H1) _ fun p1 H2 _ e2 k1 => tA_hd ((el_lst (σ := σ) (H := H2) (vs := [u]) (ea_cons (ev_var hu) ea_nil) (by show 1 ≤ 100000; decide)) H2 (Ex.refl H2) _ fun p2 H3 _ e3 k2 =>
    tA_lst ((el_lst (σ := σ) (H := H3) (vs := [u, v]) (ea_cons (ev_var hu) (ea_cons (ev_var hv) ea_nil)) (by show 2 ≤ 100000; decide)) H3 (Ex.refl H3) _ fun p3 H4 _ e4 k3 => ⟨by show 3 ≤ sizeLine; decide, fun p hp => by
    have e5 : Ex H4 (upd H4 p (.lst [.ref p1, .ref p2, .ref p3])) := Ex.new hp
    have E5 := ((e2.trans e3).trans e4).trans e5
    refine hj _ (e.trans E5) _ fun H6 e6 => ?_
    have hL : H6 p = some (.lst [.ref p1, .ref p2, .ref p3]) := e6 _ _ upd_same
    by_cases h4 : k < 4
    · rw [if_pos h4]
      exact ⟨p, _, 0, .ref p1, rfl, rfl, sq_of hL, rfl, q _ H6 (E5.trans e6) ⟨p1, rfl, by rw [dueN, if_pos h4]; exact (((e3.trans e4).trans e5).trans e6) _ _ k1⟩⟩
    · rw [if_neg h4]
      by_cases h6 : k < 6
      · rw [if_pos h6]
        exact ⟨p, _, 1, .ref p2, rfl, rfl, sq_of hL, rfl, q _ H6 (E5.trans e6) ⟨p2, rfl, by rw [dueN, if_neg h4, if_pos h6]; exact ((e4.trans e5).trans e6) _ _ k2⟩⟩
      · rw [if_neg h6]
        exact ⟨p, _, 2, .ref p3, rfl, rfl, sq_of hL, rfl, q _ H6 (E5.trans e6) ⟨p3, rfl, by rw [dueN, if_neg h4, if_neg h6]; exact (e5.trans e6) _ _ k3⟩⟩⟩)))))
theorem et_not0' {t : TT} (h : EvT t σ H true) : EvT (tNot t) σ H false := et_is (et_not h) rfl
theorem q_callW {sp : Sp} {vs : List V} (ha : EvA tA σ H vs) (k : ∀ H1, Ex H H1 → sp vs H1 (fun x H2 => tz D σ H2) (fun cls d H2 => W { D with nx := tz D } cls d σ H2)) : tSeq (fun D σ H => tDrop (tCallS sp (WE (W D)) tA) D σ H) tz D σ H := ha H (Ex.refl H) _ fun H1 e1 => k H1 e1
end
section
variable {P : Program} {w : World} {K : PySem.W.Frag} {mg : Str → Option Value} {base : Heap} {C_FeastError C_BadRule C_BadRules C_BadLand C_BadDay C_BadNumber C_BadSeen C_BadText : Addr} {f : Addr} {fd : FuncData}
def spLaw (K : PySem.W.Frag) : Sp := fun vs H Q _ => ∃ (a : Addr) (ns : List Int), vs = [.ref a] ∧ SqL K H a (ns.map V.int) ∧ ns.length ≤ 63 ∧ ∀ H', Q (.bl true) H'
theorem ok_law (F : Fun K "law" "law" s_law f fd) (T : Txt P w K mg C_FeastError C_BadRule C_BadRules C_BadLand C_BadDay C_BadNumber C_BadSeen C_BadText) (S : Seven K (clsN C_BadDay C_BadLand C_BadNumber C_BadRule C_BadRules C_BadSeen C_BadText) C_FeastError) : FnOk P w K mg base CX0 9 f fd ["_law_script"] (spLaw K) := by
  have D_l_random : Dn P w K mg base CX0 "_law_random" 1 ["_law_script", "_law_salt"] (spRandom K) := dn_random T
  have D_l_pick : Dn P w K mg base CX0 "_law_pick" 2 ["_law_d", "_law_items"] (spPick K) := dn_pick T
  have D_l_thrown : Dn P w K mg base (L2N.CX P w) "_law_thrown" 5 ["_law_k", "_law_one", "_law_two"] (spThrown (clsN C_BadDay C_BadLand C_BadNumber C_BadRule C_BadRules C_BadSeen C_BadText)) := dn_thrown T
  have D_l_classes : DnE P w K mg base "_law_classes" 2 ["_law_e"] (spClasses (clsN C_BadDay C_BadLand C_BadNumber C_BadRule C_BadRules C_BadSeen C_BadText)) := de_classes T S
  have D_l_fields : DnE P w K mg base "_law_fields" 2 ["_law_k", "_law_e"] (spFields (clsN C_BadDay C_BadLand C_BadNumber C_BadRule C_BadRules C_BadSeen C_BadText)) := de_fields T
  have D_l_equal : DnH P w K mg base "_law_equal" 4 ["_law_actual", "_law_expected"] (spEqualN K 3) := dh_lequalN T 3
  refine F.ok sc_law (fun vs H Q E h => ?_) (fun cdv A outer s H vs Q E hr h => ?_)
  · obtain ⟨_, _, rfl, _⟩ := h
    rfl
  · obtain ⟨a, ns, rfl, hA, hn, k⟩ := h
    have hr1 : Room 1 _ := hr.mono (by omega)
    refine ⟨_, (pss_cons (ps_set (i := 1) sc_law.nd rfl (by first | exact Or.inl rfl | exact Or.inr rfl) (pe_fn D_l_random (hr.mono (by omega)) pass0 rfl (pa_cons (pv 0) (pa_cons pe_int pa_nil))))
  (pss_cons (ps_for PassesOwn.never rfl (pi_range1 (by rfl) T.range (pa_cons pe_int pa_nil)) (pg_name (i := 2) sc_law.nd rfl (by first | exact Or.inl rfl | exact Or.inr rfl))
  (pss_cons (ps_set (i := 3) sc_law.nd rfl (by first | exact Or.inl rfl | exact Or.inr rfl) (pe_fn D_l_pick (hr.mono (by omega)) pass0 rfl (pa_cons (pv 1) (pa_cons (pe_lst (pa_cons pe_str (pa_cons pe_str (pa_cons pe_int (pa_cons pe_non (pa_cons (pe_tup (pa_cons pe_int pa_nil)) (pa_cons (pe_lst (pa_cons pe_int pa_nil)) pa_nil))))))) pa_nil))))
  (pss_cons (ps_set (i := 4) sc_law.nd rfl (by first | exact Or.inl rfl | exact Or.inr rfl) (pe_fn D_l_pick (hr.mono (by omega)) pass0 rfl (pa_cons (pv 1) (pa_cons (pe_lst (pa_cons pe_int (pa_cons pe_non (pa_cons pe_str (pa_cons (pe_un un_neg pe_int) pa_nil))))) pa_nil))))
  (pss_cons (ps_set (i := 5) sc_law.nd rfl (by first | exact Or.inl rfl | exact Or.inr rfl) (pe_ix ix_list (pe_lst (pa_cons (pe_lst pa_nil) (pa_cons (pe_lst (pa_cons (pv 3) pa_nil)) (pa_cons (pe_lst (pa_cons (pv 3) (pa_cons (pv 4) pa_nil))) pa_nil)))) (pe_op op_add (pe_callTy call_int1 (by rfl) T.int (by decide +kernel) (pa_cons (pe_cmpR op_gt (pv 2) pe_int (nomark _)) pa_nil)) (pe_callTy call_int1 (by rfl) T.int (by decide +kernel) (pa_cons (pe_cmpR op_gt (pv 2) pe_int (nomark _)) pa_nil))) (fun _ _ => rfl)))
  (pss_cons (ps_set (i := 6) sc_law.nd rfl (by first | exact Or.inl rfl | exact Or.inr rfl) pe_bl)
  (pss_cons (L2N.ps_try_as (i := 7) (Wout := fun _ _ _ _ => False) rfl rfl sc_law.nd rfl rfl ⟨rfl, by decide, .inl T.c_FeastError⟩ takes0N (fun W pn xe tk _ => (pss_one (ps_expr (pe_fnS D_l_thrown (hr.mono (by omega)) (fun σ => L2N.passAt tk σ) rfl (pa_cons (pv 2) (pa_cons (pv 3) (pa_cons (pv 4) pa_nil))))))) (fun a oe cls d pn hz hf => (pss_cons (ps_set (i := 6) sc_law.nd rfl (by first | exact Or.inl rfl | exact Or.inr rfl) (pe_and (pe_callB (call_isP2 (K := K) (a := a) hz.zc hf List.mem_cons_self) (by rfl) T.isinstance (by decide +kernel) (pa_cons (pv 7) (pa_cons (pe_bltn (v := .ty "ValueError") (by rfl) T.ValueError (by decide +kernel) rfl) pa_nil))) (pe_one (pe_cmpR (op_eqDK (K := K) hr1.units) (pe_fnE2 (a := a) (oe := oe) D_l_classes (rh_mark (hr.mono (by omega))) ⟨(hot_suite hz hf), List.mem_cons_self⟩ hz.zc rfl (pa_cons (pv 7) pa_nil)) (pe_lcH (own := [("_law_other", 8)]) (g := gName 8) (tt := tYes) ⟨(hot_suite hz hf), List.mem_cons_self⟩ sc_law.nd (L2H.pi_range1H (by rfl) T.range (pa_cons pe_int pa_nil)) (blkOk_by (own := [("_law_other", 8)]) (N := ["_law_script", "_law_d", "_law_k", "_law_one", "_law_two", "_law_due", "_law_good", "_law_e", "_law_other"]) (sc := defScope s_law) (by decide +kernel)) (fun _ _ _ _ _ => (pg_name (i := 8) sc_law.nd rfl (by first | exact Or.inl rfl | exact Or.inr rfl))) (fun _ _ _ _ _ => pts_nil) (fun _ _ _ _ _ => (pe_cmpR op_eq (pv 8) (pv 2) (nomark _)))) (nomark _)))))
  (pss_one (ps_set (i := 6) sc_law.nd rfl (by first | exact Or.inl rfl | exact Or.inr rfl) (pe_and (pv 6) (pe_one (pe_fnH D_l_equal (rh_mark (hr.mono (by omega))) ⟨(hot_suite hz hf), List.mem_cons_self⟩ rfl (pa_cons (pe_fnE2 (a := a) (oe := oe) D_l_fields (rh_mark (hr.mono (by omega))) ⟨(hot_suite hz hf), List.mem_cons_self⟩ hz.zc rfl (pa_cons (pv 2) (pa_cons (pv 7) pa_nil))) (pa_cons (pv 5) pa_nil))))))))))
  (pss_one (ps_if (pt_not (pt_val (pv 6))) (pss_one (ps_ret pe_bl))
  pss_nil))))))))
  (pss_one (ps_ret pe_bl)))), ?_⟩
    refine q_call (ea_cons (ev_var rfl) (ea_cons ev_c ea_nil)) fun H1 e1 => ⟨a, ns, 614, rfl, ex_l e1 hA, hn, by decide, by decide, fun d H2 xs hg hd0 e2 hd => ?_⟩
    refine q_forR1 (n := 7) (ea_cons ev_c ea_nil) ⟨by decide, by decide⟩ (fun _ σ' H' => ∃ xs' a2 a3 a4 a5 a6, σ' = [some (.ref a), some (.ref d), a2, a3, a4, a5, a6, none, none] ∧ H' d = some (.lst xs') ∧ Good xs') (fun H3 e3 => ⟨xs, none, none, none, none, none, rfl, e3 _ _ hd, hg⟩) ?_ ?_
    · rintro i σ' H3 hi ⟨xs3, a2, a3, a4, a5, a6, rfl, hd3, hg3⟩
      have hi7 : i < 7 := by omega
      refine q_asgX (pick_E (S := SixAt H3) (n := 6) (fun ys H h => h.1) (ev_var rfl) er_six hd3 hg3 (by decide) (by decide) fun u us xs4 H4 H5 e4 hS hu eb5 hd4 hd5 hg5 => ?_)
      obtain ⟨hu4, hne⟩ := hS.2 u hu
      have hud : u ≠ .ref d := hne d _ hd3
      have hu5 : OneAt H5 u := hu4.but eb5 hud
      refine q_asgX (pick_new (ev_var rfl) (el_lst (vs := [.int 0, .non, .str "b", .int (-1)]) (ea_cons ev_c (ea_cons ev_c (ea_cons ev_c (ea_cons (ev_un ev_c ru_neg) ea_nil)))) (by show 4 ≤ 100000; decide)) hd5 hg5 (by show 1 ≤ 4; decide) (by show 4 ≤ 1000000; decide) fun v xs6 H6 hv hg6 eb6 hd6 => ?_)
      have hu6 : OneAt H6 u := hu5.but eb6 hud
      have hvB : EqB v v := by
        simp only [List.mem_cons, List.not_mem_nil, or_false] at hv
        rcases hv with rfl | rfl | rfl | rfl
        · exact .int _
        · exact .non
        · exact .str _
        · exact .int _
      refine q_asgX ((ex_due (K := K) (k := i) (u := u) (v := v) rfl rfl (ev_is (ev_op (ev_intB (ev_op (ev_var rfl) ev_c rv_I0)) (ev_intB (ev_op (ev_var rfl) ev_c rv_I0)) rv_I0) ?_)) H6 (Ex.refl H6) _ fun w7 H7 e7 ⟨p5, hw7, hp5⟩ => ?_)
      · refine congrArg V.int ?_
        by_cases h4 : i < 4
        · rw [if_pos h4, decide_eq_false (by omega), decide_eq_false (by omega)]
          rfl
        · rw [if_neg h4, decide_eq_true (by omega)]
          by_cases h6 : i < 6
          · rw [if_pos h6, decide_eq_false (by omega)]
            rfl
          · rw [if_neg h6, decide_eq_true (by omega)]
            rfl
      subst hw7
      refine q_asg ev_c fun H8 e8 => ?_
      refine q_callW (ea_cons (ev_var rfl) (ea_cons (ev_var rfl) (ea_cons (ev_var rfl) ea_nil))) fun H9 e9 => ⟨i, u, v, rfl, hi7, fun dd H10 e10 hD => ⟨true, S.fe i hi7, fun _ ae ha => ?_, fun q => nomatch q⟩⟩
      have E10 := ((e7.trans e8).trans e9).trans e10
      have E10' := (e8.trans e9).trans e10
      refine q_asg (v := .bl true) (ev_is (ev_andV (ev_isPT (ev_var rfl) (S.xc i hi7) hD.xd (S.ve i hi7)) fun _ => ev_eqBs (bs := (List.range 7).map fun j => decide (j = i)) rfl ?_ ?_) rfl) fun H11 e11 => ?_
      · rw [List.map_map]
        exact el_call (ea_cons (ev_var rfl) ea_nil) (spL fun H12 e12 Q _ q => ⟨i, rfl, rfl, hi7, hD.xd.mono e12, q⟩)
      · rw [List.map_map]
        refine el_is (el_rng (n := 7) (fun j => .bl (decide (j = i))) (ea_cons ev_c ea_nil) ⟨by decide, by decide⟩ (fun _ => rfl) fun j H12 e12 hj => ev_is (ev_op (ev_var rfl) (ev_var rfl) (rv_eq rfl)) ?_) rfl
        refine congrArg V.bl (decide_eq_decide.mpr ⟨fun q => ?_, fun q => by rw [q]⟩)
        have := V.int.inj q
        omega
      refine s_asg (v := .bl true) (ev_is (ev_andV (ev_var rfl) fun _ => fun H12 e12 Q q => ?_) rfl) fun H12 e12 => ?_
      · refine (el_call (σ := _) (H := H12) (xs := dueN i u v) (ea_cons (ev_var rfl) (ea_cons (ev_var rfl) ea_nil)) (spL fun H13 e13 Q _ q => ⟨i, u, v, rfl, rfl, hi7, hD.mono ((e11.trans e12).trans e13), q⟩)) H12 (Ex.refl H12) _ fun fl H13 hfl e13 hflv => ev_var rfl H13 (Ex.refl H13) _ fun H14 e14 => ⟨_, _, rfl, due_eq (hu6.mono ((((E10.trans e11).trans e12).trans e13).trans e14)) (.inl hvB) (e14 _ _ hflv) (((((E10'.trans e11).trans e12).trans e13).trans e14) _ _ hp5), fun H15 e15 => q H15 ((e13.trans e14).trans e15)⟩
      · refine s_no (et_not0' (et_B (ev_var rfl))) fun H13 e13 => ⟨xs6, _, _, _, _, _, rfl, (((E10.trans e11).trans e12).trans e13) _ _ hd6, hg6⟩
    · rintro σ' H3 ⟨xs3, a2, a3, a4, a5, a6, rfl, hd3, hg3⟩
      exact s_ret ev_c fun H4 _ => k H4
theorem dn_law (T : Txt P w K mg C_FeastError C_BadRule C_BadRules C_BadLand C_BadDay C_BadNumber C_BadSeen C_BadText) (S : Seven K (clsN C_BadDay C_BadLand C_BadNumber C_BadRule C_BadRules C_BadSeen C_BadText) C_FeastError) : Dn P w K mg base CX0 "law" 9 ["_law_script"] (spLaw K) := T.f_law.dn fun _ _ F _ _ => ok_law F T S
end
end WF

set_option Elab.async false
set_option linter.all false
set_option maxRecDepth 100000
set_option maxHeartbeats 4000000
set_option pp.maxSteps 50
set_option pp.oneline true
namespace WF
open PySem L2 Evl
theorem no5 {K : PySem.W.Frag} {d : Addr} (a : PySem.W.nsIn K d "behind" = some none) (b : PySem.W.nsIn K d "both" = some none) (c : PySem.W.nsIn K d "either" = some none) (e : PySem.W.nsIn K d "without" = some none) (f : PySem.W.nsIn K d "week" = some none) : ∀ z ∈ (["behind", "both", "either", "without", "week"] : List Str), PySem.W.nsIn K d z = some none := by
  intro z hz
  simp only [List.mem_cons, List.not_mem_nil, or_false] at hz
  rcases hz with rfl | rfl | rfl | rfl | rfl <;> assumption
open PySem.W in
theorem all_mk {l : PySem.W.OpenLaw} {w : World} {K : PySem.W.Frag} {h : Heap} {mg : Str → Option Value} {fa : Addr} (X : K.In h) (G : h.Ns mainGlobals mg) (hfa : mg "law" = some (.ref fa))
    {f_BadRules_init cc_BadRules_init cda_BadRules_init N_BadRules f_BadSeen_init cc_BadSeen_init cda_BadSeen_init N_BadSeen f_BadText_init cc_BadText_init cda_BadText_init N_BadText C_FeastError C_BadRule C_BadRules C_BadLand C_BadDay C_BadNumber C_BadSeen C_BadText f_l_random f_l_below f_l_pick f_l_equal f_l_thrown f_l_classes f_l_fields f_law : Addr}
    {oc_BadRules_init kV_BadRules_init dc_BadRules_init pm_BadRules_init ct_BadRules_init ccl_BadRules_init cl_BadRules_init oc_BadSeen_init kV_BadSeen_init dc_BadSeen_init pm_BadSeen_init ct_BadSeen_init ccl_BadSeen_init cl_BadSeen_init oc_BadText_init kV_BadText_init dc_BadText_init pm_BadText_init ct_BadText_init ccl_BadText_init cl_BadText_init oc_l_random kV_l_random dc_l_random pm_l_random cd_l_random ct_l_random oc_l_below kV_l_below dc_l_below pm_l_below cd_l_below ct_l_below oc_l_pick kV_l_pick dc_l_pick pm_l_pick cd_l_pick ct_l_pick oc_l_equal kV_l_equal dc_l_equal pm_l_equal cd_l_equal ct_l_equal oc_l_thrown kV_l_thrown dc_l_thrown pm_l_thrown cd_l_thrown ct_l_thrown oc_l_classes kV_l_classes dc_l_classes pm_l_classes cd_l_classes ct_l_classes oc_l_fields kV_l_fields dc_l_fields pm_l_fields cd_l_fields ct_l_fields oc_law kV_law dc_law pm_law cd_law ct_law : Value}
    {od_BadRules_init an_BadRules_init cdd_BadRules_init cld_BadRules_init dd_BadRules od_BadSeen_init an_BadSeen_init cdd_BadSeen_init cld_BadSeen_init dd_BadSeen od_BadText_init an_BadText_init cdd_BadText_init cld_BadText_init dd_BadText od_l_random an_l_random od_l_below an_l_below od_l_pick an_l_pick od_l_equal an_l_equal od_l_thrown an_l_thrown od_l_classes an_l_classes od_l_fields an_l_fields od_law an_law : Option Addr}
    {sl_BadRules_init ccs_BadRules_init csl_BadRules_init sl_BadSeen_init ccs_BadSeen_init csl_BadSeen_init sl_BadText_init ccs_BadText_init csl_BadText_init sl_l_random sl_l_below sl_l_pick sl_l_equal sl_l_thrown sl_l_classes sl_l_fields sl_law : Array (Option Value)}
    {tf_BadRules_init tf_BadSeen_init tf_BadText_init : Tok}
    {bs_BadRules bm_BadRules sub_BadRules bs_BadSeen bm_BadSeen sub_BadSeen bs_BadText bm_BadText sub_BadText : List Value}
    {vs_BadRules_init vs_BadSeen_init vs_BadText_init : Array Value}
    {fi_BadRules_init nm_BadRules q_BadRules fi_BadSeen_init nm_BadSeen q_BadSeen fi_BadText_init nm_BadText q_BadText : Str}
    {sn_BadRules sn_BadSeen sn_BadText : List Str}
    {ab_BadRules ab_BadSeen ab_BadText : Bool}
    {col_BadRules col_BadSeen col_BadText : Option Bool}
    {k0_BadRules k1_BadRules k2_BadRules k3_BadRules k5_BadRules k0_BadSeen k1_BadSeen k2_BadSeen k3_BadSeen k5_BadSeen k0_BadText k1_BadText k2_BadText k3_BadText k5_BadText : Option Value}
    (z_super : PySem.W.nsIn K mainGlobals "super" = some none)
    (tp_super : (l.prog.main.scope.names.lookup ("super" : Str)).isSome = false)
    (an_super : PySem.W.nsIn K cStatics "thirdparty.any" = some none)
    (z_ValueError : PySem.W.nsIn K mainGlobals "ValueError" = some none)
    (z_len : PySem.W.nsIn K mainGlobals "len" = some none)
    (z_abs : PySem.W.nsIn K mainGlobals "abs" = some none)
    (z_isinstance : PySem.W.nsIn K mainGlobals "isinstance" = some none)
    (z_sorted : PySem.W.nsIn K mainGlobals "sorted" = some none)
    (z_all : PySem.W.nsIn K mainGlobals "all" = some none)
    (z_int : PySem.W.nsIn K mainGlobals "int" = some none)
    (z_str : PySem.W.nsIn K mainGlobals "str" = some none)
    (z_list : PySem.W.nsIn K mainGlobals "list" = some none)
    (z_tuple : PySem.W.nsIn K mainGlobals "tuple" = some none)
    (z_dict : PySem.W.nsIn K mainGlobals "dict" = some none)
    (z_bool : PySem.W.nsIn K mainGlobals "bool" = some none)
    (z_range : PySem.W.nsIn K mainGlobals "range" = some none)
    (a_FeastError : PySem.W.nsIn K mainGlobals "FeastError" = some (some (.ref C_FeastError)))
    (a_BadRule : PySem.W.nsIn K mainGlobals "BadRule" = some (some (.ref C_BadRule)))
    (x_BadRule : PySem.W.excIn K C_BadRule [.type "ValueError", .type "Exception", .type "BaseException", .type "object"] "ValueError.__new__" = true)
    (k_BadRule : PySem.W.keepIn K (.ref C_BadRule) = true)
    (b_BadRule : PySem.W.subIn K (.ref C_BadRule) (.type "BaseException") = some true)
    (t_BadRule : PySem.W.typeIn K (.ref C_BadRule) = some (.type "type"))
    (i_BadRule : PySem.W.isClsIn K C_BadRule = true)
    (s_BadRule : PySem.W.subIn K (.ref C_BadRule) (.ref C_BadRule) = some true)
    (a_BadRules : PySem.W.nsIn K mainGlobals "BadRules" = some (some (.ref C_BadRules)))
    (a_BadLand : PySem.W.nsIn K mainGlobals "BadLand" = some (some (.ref C_BadLand)))
    (x_BadLand : PySem.W.excIn K C_BadLand [.type "ValueError", .type "Exception", .type "BaseException", .type "object"] "ValueError.__new__" = true)
    (k_BadLand : PySem.W.keepIn K (.ref C_BadLand) = true)
    (b_BadLand : PySem.W.subIn K (.ref C_BadLand) (.type "BaseException") = some true)
    (t_BadLand : PySem.W.typeIn K (.ref C_BadLand) = some (.type "type"))
    (i_BadLand : PySem.W.isClsIn K C_BadLand = true)
    (s_BadLand : PySem.W.subIn K (.ref C_BadLand) (.ref C_BadLand) = some true)
    (a_BadDay : PySem.W.nsIn K mainGlobals "BadDay" = some (some (.ref C_BadDay)))
    (x_BadDay : PySem.W.excIn K C_BadDay [.type "ValueError", .type "Exception", .type "BaseException", .type "object"] "ValueError.__new__" = true)
    (k_BadDay : PySem.W.keepIn K (.ref C_BadDay) = true)
    (b_BadDay : PySem.W.subIn K (.ref C_BadDay) (.type "BaseException") = some true)
    (t_BadDay : PySem.W.typeIn K (.ref C_BadDay) = some (.type "type"))
    (i_BadDay : PySem.W.isClsIn K C_BadDay = true)
    (s_BadDay : PySem.W.subIn K (.ref C_BadDay) (.ref C_BadDay) = some true)
    (a_BadNumber : PySem.W.nsIn K mainGlobals "BadNumber" = some (some (.ref C_BadNumber)))
    (x_BadNumber : PySem.W.excIn K C_BadNumber [.type "ValueError", .type "Exception", .type "BaseException", .type "object"] "ValueError.__new__" = true)
    (k_BadNumber : PySem.W.keepIn K (.ref C_BadNumber) = true)
    (b_BadNumber : PySem.W.subIn K (.ref C_BadNumber) (.type "BaseException") = some true)
    (t_BadNumber : PySem.W.typeIn K (.ref C_BadNumber) = some (.type "type"))
    (i_BadNumber : PySem.W.isClsIn K C_BadNumber = true)
    (s_BadNumber : PySem.W.subIn K (.ref C_BadNumber) (.ref C_BadNumber) = some true)
    (a_BadSeen : PySem.W.nsIn K mainGlobals "BadSeen" = some (some (.ref C_BadSeen)))
    (a_BadText : PySem.W.nsIn K mainGlobals "BadText" = some (some (.ref C_BadText)))
    (a_l_random : PySem.W.nsIn K mainGlobals "_law_random" = some (some (.ref f_l_random)))
    (l_l_random : K.lookup f_l_random = some ⟨oc_l_random, od_l_random, .func (PySem.W.fnOf "_law_random" "_law_random" (defArgs s_l_random) (defBody s_l_random) (defScope s_l_random) .none kV_l_random dc_l_random pm_l_random an_l_random cd_l_random ct_l_random), sl_l_random⟩)
    (c_l_random : PySem.W.codeIn K cd_l_random "_law_random" = true)
    (k_l_random : PySem.W.keepIn K (.ref f_l_random) = true)
    (a_l_below : PySem.W.nsIn K mainGlobals "_law_below" = some (some (.ref f_l_below)))
    (l_l_below : K.lookup f_l_below = some ⟨oc_l_below, od_l_below, .func (PySem.W.fnOf "_law_below" "_law_below" (defArgs s_l_below) (defBody s_l_below) (defScope s_l_below) .none kV_l_below dc_l_below pm_l_below an_l_below cd_l_below ct_l_below), sl_l_below⟩)
    (c_l_below : PySem.W.codeIn K cd_l_below "_law_below" = true)
    (k_l_below : PySem.W.keepIn K (.ref f_l_below) = true)
    (a_l_pick : PySem.W.nsIn K mainGlobals "_law_pick" = some (some (.ref f_l_pick)))
    (l_l_pick : K.lookup f_l_pick = some ⟨oc_l_pick, od_l_pick, .func (PySem.W.fnOf "_law_pick" "_law_pick" (defArgs s_l_pick) (defBody s_l_pick) (defScope s_l_pick) .none kV_l_pick dc_l_pick pm_l_pick an_l_pick cd_l_pick ct_l_pick), sl_l_pick⟩)
    (c_l_pick : PySem.W.codeIn K cd_l_pick "_law_pick" = true)
    (k_l_pick : PySem.W.keepIn K (.ref f_l_pick) = true)
    (a_l_equal : PySem.W.nsIn K mainGlobals "_law_equal" = some (some (.ref f_l_equal)))
    (l_l_equal : K.lookup f_l_equal = some ⟨oc_l_equal, od_l_equal, .func (PySem.W.fnOf "_law_equal" "_law_equal" (defArgs s_l_equal) (defBody s_l_equal) (defScope s_l_equal) .none kV_l_equal dc_l_equal pm_l_equal an_l_equal cd_l_equal ct_l_equal), sl_l_equal⟩)
    (c_l_equal : PySem.W.codeIn K cd_l_equal "_law_equal" = true)
    (k_l_equal : PySem.W.keepIn K (.ref f_l_equal) = true)
    (a_l_thrown : PySem.W.nsIn K mainGlobals "_law_thrown" = some (some (.ref f_l_thrown)))
    (l_l_thrown : K.lookup f_l_thrown = some ⟨oc_l_thrown, od_l_thrown, .func (PySem.W.fnOf "_law_thrown" "_law_thrown" (defArgs s_l_thrown) (defBody s_l_thrown) (defScope s_l_thrown) .none kV_l_thrown dc_l_thrown pm_l_thrown an_l_thrown cd_l_thrown ct_l_thrown), sl_l_thrown⟩)
    (c_l_thrown : PySem.W.codeIn K cd_l_thrown "_law_thrown" = true)
    (k_l_thrown : PySem.W.keepIn K (.ref f_l_thrown) = true)
    (a_l_classes : PySem.W.nsIn K mainGlobals "_law_classes" = some (some (.ref f_l_classes)))
    (l_l_classes : K.lookup f_l_classes = some ⟨oc_l_classes, od_l_classes, .func (PySem.W.fnOf "_law_classes" "_law_classes" (defArgs s_l_classes) (defBody s_l_classes) (defScope s_l_classes) .none kV_l_classes dc_l_classes pm_l_classes an_l_classes cd_l_classes ct_l_classes), sl_l_classes⟩)
    (c_l_classes : PySem.W.codeIn K cd_l_classes "_law_classes" = true)
    (k_l_classes : PySem.W.keepIn K (.ref f_l_classes) = true)
    (a_l_fields : PySem.W.nsIn K mainGlobals "_law_fields" = some (some (.ref f_l_fields)))
    (l_l_fields : K.lookup f_l_fields = some ⟨oc_l_fields, od_l_fields, .func (PySem.W.fnOf "_law_fields" "_law_fields" (defArgs s_l_fields) (defBody s_l_fields) (defScope s_l_fields) .none kV_l_fields dc_l_fields pm_l_fields an_l_fields cd_l_fields ct_l_fields), sl_l_fields⟩)
    (c_l_fields : PySem.W.codeIn K cd_l_fields "_law_fields" = true)
    (k_l_fields : PySem.W.keepIn K (.ref f_l_fields) = true)
    (a_law : PySem.W.nsIn K mainGlobals "law" = some (some (.ref f_law)))
    (l_law : K.lookup f_law = some ⟨oc_law, od_law, .func (PySem.W.fnOf "law" "law" (defArgs s_law) (defBody s_law) (defScope s_law) .none kV_law dc_law pm_law an_law cd_law ct_law), sl_law⟩)
    (c_law : PySem.W.codeIn K cd_law "law" = true)
    (k_law : PySem.W.keepIn K (.ref f_law) = true)
    (a_BadRules_init : PySem.W.findIn K (.ref C_BadRules) "__init__" = some (some (.ref f_BadRules_init)))
    (t_BadRules_init : PySem.W.typeIn K (.ref f_BadRules_init) = some (.type "function"))
    (l_BadRules_init : K.lookup f_BadRules_init = some ⟨oc_BadRules_init, od_BadRules_init, .func (PySem.W.ksFn "__init__" "BadRules.__init__" (defArgs s_BadRules_init) (defBody s_BadRules_init) (defScope s_BadRules_init) .none kV_BadRules_init dc_BadRules_init pm_BadRules_init an_BadRules_init (.ref cda_BadRules_init) ct_BadRules_init cc_BadRules_init), sl_BadRules_init⟩)
    (h_BadRules_init : PySem.W.codeIn K (.ref cda_BadRules_init) "BadRules.__init__" = true)
    (k_BadRules_init : PySem.W.keepIn K (.ref f_BadRules_init) = true)
    (d_BadRules_init : K.lookup cda_BadRules_init = some ⟨ccl_BadRules_init, cdd_BadRules_init, .fields vs_BadRules_init, ccs_BadRules_init⟩)
    (v_BadRules_init : vs_BadRules_init[2]? = some (.str fi_BadRules_init tf_BadRules_init))
    (w_BadRules_init : ((l.prog.main.file : Str) == fi_BadRules_init) = true)
    (e_BadRules_init : K.lookup cc_BadRules_init = some ⟨cl_BadRules_init, cld_BadRules_init, .cell (some (.ref C_BadRules)), csl_BadRules_init⟩)
    (mr_BadRules_init : PySem.W.mroIn K C_BadRules (.ref C_BadRules) = some true)
    (su_BadRules_init : PySem.W.ks_superIn K C_BadRules C_BadRules "__init__" = some (some (.builtin "ValueError.__init__")))
    (sv_BadRules_init : PySem.W.subIn K (.ref C_BadRules) (.type "ValueError") = some true)
    (o_BadRules : K.lookup C_BadRules = some (excClassObj nm_BadRules q_BadRules C_BadRules N_BadRules bs_BadRules bm_BadRules true sn_BadRules sub_BadRules ab_BadRules col_BadRules dd_BadRules k0_BadRules k1_BadRules k2_BadRules k3_BadRules k5_BadRules "ValueError.__new__"))
    (rv_BadRules : PySem.HandSPX.refsVE bm_BadRules = true)
    (sa_BadRules : PySem.W.findIn K (.ref C_BadRules) "__setattr__" = some (some (.builtin "object.__setattr__")))
    (be_BadRules : PySem.W.subIn K (.ref C_BadRules) (.type "BaseException") = some true)
    (ty_BadRules : PySem.W.typeIn K (.ref C_BadRules) = some (.type "type"))
    (kc_BadRules : PySem.W.keepIn K (.ref C_BadRules) = true)
    (ga_BadRules : PySem.W.findIn K (.ref C_BadRules) "__getattribute__" = some (some (.builtin "BaseException.__getattribute__")))
    (gg_BadRules : PySem.W.findIn K (.ref C_BadRules) "__getattr__" = some none)
    (hd_BadRules : PySem.W.hasDictIn K C_BadRules = true)
    (ic_BadRules : PySem.W.isClsIn K C_BadRules = true)
    (se_BadRules : PySem.W.subIn K (.ref C_BadRules) (.ref C_BadRules) = some true)
    (no_BadRules_index : PySem.W.findIn K (.ref C_BadRules) "index" = some none)
    (a_BadSeen_init : PySem.W.findIn K (.ref C_BadSeen) "__init__" = some (some (.ref f_BadSeen_init)))
    (t_BadSeen_init : PySem.W.typeIn K (.ref f_BadSeen_init) = some (.type "function"))
    (l_BadSeen_init : K.lookup f_BadSeen_init = some ⟨oc_BadSeen_init, od_BadSeen_init, .func (PySem.W.ksFn "__init__" "BadSeen.__init__" (defArgs s_BadSeen_init) (defBody s_BadSeen_init) (defScope s_BadSeen_init) .none kV_BadSeen_init dc_BadSeen_init pm_BadSeen_init an_BadSeen_init (.ref cda_BadSeen_init) ct_BadSeen_init cc_BadSeen_init), sl_BadSeen_init⟩)
    (h_BadSeen_init : PySem.W.codeIn K (.ref cda_BadSeen_init) "BadSeen.__init__" = true)
    (k_BadSeen_init : PySem.W.keepIn K (.ref f_BadSeen_init) = true)
    (d_BadSeen_init : K.lookup cda_BadSeen_init = some ⟨ccl_BadSeen_init, cdd_BadSeen_init, .fields vs_BadSeen_init, ccs_BadSeen_init⟩)
    (v_BadSeen_init : vs_BadSeen_init[2]? = some (.str fi_BadSeen_init tf_BadSeen_init))
    (w_BadSeen_init : ((l.prog.main.file : Str) == fi_BadSeen_init) = true)
    (e_BadSeen_init : K.lookup cc_BadSeen_init = some ⟨cl_BadSeen_init, cld_BadSeen_init, .cell (some (.ref C_BadSeen)), csl_BadSeen_init⟩)
    (mr_BadSeen_init : PySem.W.mroIn K C_BadSeen (.ref C_BadSeen) = some true)
    (su_BadSeen_init : PySem.W.ks_superIn K C_BadSeen C_BadSeen "__init__" = some (some (.builtin "ValueError.__init__")))
    (sv_BadSeen_init : PySem.W.subIn K (.ref C_BadSeen) (.type "ValueError") = some true)
    (o_BadSeen : K.lookup C_BadSeen = some (excClassObj nm_BadSeen q_BadSeen C_BadSeen N_BadSeen bs_BadSeen bm_BadSeen true sn_BadSeen sub_BadSeen ab_BadSeen col_BadSeen dd_BadSeen k0_BadSeen k1_BadSeen k2_BadSeen k3_BadSeen k5_BadSeen "ValueError.__new__"))
    (rv_BadSeen : PySem.HandSPX.refsVE bm_BadSeen = true)
    (sa_BadSeen : PySem.W.findIn K (.ref C_BadSeen) "__setattr__" = some (some (.builtin "object.__setattr__")))
    (be_BadSeen : PySem.W.subIn K (.ref C_BadSeen) (.type "BaseException") = some true)
    (ty_BadSeen : PySem.W.typeIn K (.ref C_BadSeen) = some (.type "type"))
    (kc_BadSeen : PySem.W.keepIn K (.ref C_BadSeen) = true)
    (ga_BadSeen : PySem.W.findIn K (.ref C_BadSeen) "__getattribute__" = some (some (.builtin "BaseException.__getattribute__")))
    (gg_BadSeen : PySem.W.findIn K (.ref C_BadSeen) "__getattr__" = some none)
    (hd_BadSeen : PySem.W.hasDictIn K C_BadSeen = true)
    (ic_BadSeen : PySem.W.isClsIn K C_BadSeen = true)
    (se_BadSeen : PySem.W.subIn K (.ref C_BadSeen) (.ref C_BadSeen) = some true)
    (no_BadSeen_index : PySem.W.findIn K (.ref C_BadSeen) "index" = some none)
    (a_BadText_init : PySem.W.findIn K (.ref C_BadText) "__init__" = some (some (.ref f_BadText_init)))
    (t_BadText_init : PySem.W.typeIn K (.ref f_BadText_init) = some (.type "function"))
    (l_BadText_init : K.lookup f_BadText_init = some ⟨oc_BadText_init, od_BadText_init, .func (PySem.W.ksFn "__init__" "BadText.__init__" (defArgs s_BadText_init) (defBody s_BadText_init) (defScope s_BadText_init) .none kV_BadText_init dc_BadText_init pm_BadText_init an_BadText_init (.ref cda_BadText_init) ct_BadText_init cc_BadText_init), sl_BadText_init⟩)
    (h_BadText_init : PySem.W.codeIn K (.ref cda_BadText_init) "BadText.__init__" = true)
    (k_BadText_init : PySem.W.keepIn K (.ref f_BadText_init) = true)
    (d_BadText_init : K.lookup cda_BadText_init = some ⟨ccl_BadText_init, cdd_BadText_init, .fields vs_BadText_init, ccs_BadText_init⟩)
    (v_BadText_init : vs_BadText_init[2]? = some (.str fi_BadText_init tf_BadText_init))
    (w_BadText_init : ((l.prog.main.file : Str) == fi_BadText_init) = true)
    (e_BadText_init : K.lookup cc_BadText_init = some ⟨cl_BadText_init, cld_BadText_init, .cell (some (.ref C_BadText)), csl_BadText_init⟩)
    (mr_BadText_init : PySem.W.mroIn K C_BadText (.ref C_BadText) = some true)
    (su_BadText_init : PySem.W.ks_superIn K C_BadText C_BadText "__init__" = some (some (.builtin "ValueError.__init__")))
    (sv_BadText_init : PySem.W.subIn K (.ref C_BadText) (.type "ValueError") = some true)
    (o_BadText : K.lookup C_BadText = some (excClassObj nm_BadText q_BadText C_BadText N_BadText bs_BadText bm_BadText true sn_BadText sub_BadText ab_BadText col_BadText dd_BadText k0_BadText k1_BadText k2_BadText k3_BadText k5_BadText "ValueError.__new__"))
    (rv_BadText : PySem.HandSPX.refsVE bm_BadText = true)
    (sa_BadText : PySem.W.findIn K (.ref C_BadText) "__setattr__" = some (some (.builtin "object.__setattr__")))
    (be_BadText : PySem.W.subIn K (.ref C_BadText) (.type "BaseException") = some true)
    (ty_BadText : PySem.W.typeIn K (.ref C_BadText) = some (.type "type"))
    (kc_BadText : PySem.W.keepIn K (.ref C_BadText) = true)
    (ga_BadText : PySem.W.findIn K (.ref C_BadText) "__getattribute__" = some (some (.builtin "BaseException.__getattribute__")))
    (gg_BadText : PySem.W.findIn K (.ref C_BadText) "__getattr__" = some none)
    (hd_BadText : PySem.W.hasDictIn K C_BadText = true)
    (ic_BadText : PySem.W.isClsIn K C_BadText = true)
    (se_BadText : PySem.W.subIn K (.ref C_BadText) (.ref C_BadText) = some true)
    (no_BadText_line : PySem.W.findIn K (.ref C_BadText) "line" = some none)
    (no_BadText_word : PySem.W.findIn K (.ref C_BadText) "word" = some none)
    (hnX : PySem.W.specialIn K (.builtin "object.__class__") "__get__" = some (some (.builtin "getset_descriptor.__get__")))
    (htX : PySem.W.takesIn K (.builtin "object.__class__") = some true)
    (bF : PySem.W.subIn K (.ref C_FeastError) (.type "BaseException") = some true)
    (dF : PySem.W.hasDictIn K C_FeastError = true)
    (tF : PySem.W.typeIn K (.ref C_FeastError) = some (.type "type"))
    (ga_BadDay : PySem.W.findIn K (.ref C_BadDay) "__getattribute__" = some (some (.builtin "BaseException.__getattribute__")))
    (gg_BadDay : PySem.W.findIn K (.ref C_BadDay) "__getattr__" = some none)
    (hd_BadDay : PySem.W.hasDictIn K C_BadDay = true)
    (fc_BadDay : PySem.W.findIn K (.ref C_BadDay) "__class__" = some (some (.builtin "object.__class__")))
    (mo_BadDay : PySem.W.mroIn K C_BadDay (.type "object") = some true)
    (vx_BadDay : PySem.W.subIn K (.ref C_BadDay) (.type "ValueError") = some true)
    (fe_BadDay : PySem.W.subIn K (.ref C_BadDay) (.ref C_FeastError) = some true)
    (p_BadDay_BadLand : PySem.W.subIn K (.ref C_BadDay) (.ref C_BadLand) = some false)
    (p_BadDay_BadNumber : PySem.W.subIn K (.ref C_BadDay) (.ref C_BadNumber) = some false)
    (p_BadDay_BadRule : PySem.W.subIn K (.ref C_BadDay) (.ref C_BadRule) = some false)
    (p_BadDay_BadRules : PySem.W.subIn K (.ref C_BadDay) (.ref C_BadRules) = some false)
    (p_BadDay_BadSeen : PySem.W.subIn K (.ref C_BadDay) (.ref C_BadSeen) = some false)
    (p_BadDay_BadText : PySem.W.subIn K (.ref C_BadDay) (.ref C_BadText) = some false)
    (ga_BadLand : PySem.W.findIn K (.ref C_BadLand) "__getattribute__" = some (some (.builtin "BaseException.__getattribute__")))
    (gg_BadLand : PySem.W.findIn K (.ref C_BadLand) "__getattr__" = some none)
    (hd_BadLand : PySem.W.hasDictIn K C_BadLand = true)
    (fc_BadLand : PySem.W.findIn K (.ref C_BadLand) "__class__" = some (some (.builtin "object.__class__")))
    (mo_BadLand : PySem.W.mroIn K C_BadLand (.type "object") = some true)
    (vx_BadLand : PySem.W.subIn K (.ref C_BadLand) (.type "ValueError") = some true)
    (fe_BadLand : PySem.W.subIn K (.ref C_BadLand) (.ref C_FeastError) = some true)
    (p_BadLand_BadDay : PySem.W.subIn K (.ref C_BadLand) (.ref C_BadDay) = some false)
    (p_BadLand_BadNumber : PySem.W.subIn K (.ref C_BadLand) (.ref C_BadNumber) = some false)
    (p_BadLand_BadRule : PySem.W.subIn K (.ref C_BadLand) (.ref C_BadRule) = some false)
    (p_BadLand_BadRules : PySem.W.subIn K (.ref C_BadLand) (.ref C_BadRules) = some false)
    (p_BadLand_BadSeen : PySem.W.subIn K (.ref C_BadLand) (.ref C_BadSeen) = some false)
    (p_BadLand_BadText : PySem.W.subIn K (.ref C_BadLand) (.ref C_BadText) = some false)
    (ga_BadNumber : PySem.W.findIn K (.ref C_BadNumber) "__getattribute__" = some (some (.builtin "BaseException.__getattribute__")))
    (gg_BadNumber : PySem.W.findIn K (.ref C_BadNumber) "__getattr__" = some none)
    (hd_BadNumber : PySem.W.hasDictIn K C_BadNumber = true)
    (fc_BadNumber : PySem.W.findIn K (.ref C_BadNumber) "__class__" = some (some (.builtin "object.__class__")))
    (mo_BadNumber : PySem.W.mroIn K C_BadNumber (.type "object") = some true)
    (vx_BadNumber : PySem.W.subIn K (.ref C_BadNumber) (.type "ValueError") = some true)
    (fe_BadNumber : PySem.W.subIn K (.ref C_BadNumber) (.ref C_FeastError) = some true)
    (p_BadNumber_BadDay : PySem.W.subIn K (.ref C_BadNumber) (.ref C_BadDay) = some false)
    (p_BadNumber_BadLand : PySem.W.subIn K (.ref C_BadNumber) (.ref C_BadLand) = some false)
    (p_BadNumber_BadRule : PySem.W.subIn K (.ref C_BadNumber) (.ref C_BadRule) = some false)
    (p_BadNumber_BadRules : PySem.W.subIn K (.ref C_BadNumber) (.ref C_BadRules) = some false)
    (p_BadNumber_BadSeen : PySem.W.subIn K (.ref C_BadNumber) (.ref C_BadSeen) = some false)
    (p_BadNumber_BadText : PySem.W.subIn K (.ref C_BadNumber) (.ref C_BadText) = some false)
    (ga_BadRule : PySem.W.findIn K (.ref C_BadRule) "__getattribute__" = some (some (.builtin "BaseException.__getattribute__")))
    (gg_BadRule : PySem.W.findIn K (.ref C_BadRule) "__getattr__" = some none)
    (hd_BadRule : PySem.W.hasDictIn K C_BadRule = true)
    (fc_BadRule : PySem.W.findIn K (.ref C_BadRule) "__class__" = some (some (.builtin "object.__class__")))
    (mo_BadRule : PySem.W.mroIn K C_BadRule (.type "object") = some true)
    (vx_BadRule : PySem.W.subIn K (.ref C_BadRule) (.type "ValueError") = some true)
    (fe_BadRule : PySem.W.subIn K (.ref C_BadRule) (.ref C_FeastError) = some true)
    (p_BadRule_BadDay : PySem.W.subIn K (.ref C_BadRule) (.ref C_BadDay) = some false)
    (p_BadRule_BadLand : PySem.W.subIn K (.ref C_BadRule) (.ref C_BadLand) = some false)
    (p_BadRule_BadNumber : PySem.W.subIn K (.ref C_BadRule) (.ref C_BadNumber) = some false)
    (p_BadRule_BadRules : PySem.W.subIn K (.ref C_BadRule) (.ref C_BadRules) = some false)
    (p_BadRule_BadSeen : PySem.W.subIn K (.ref C_BadRule) (.ref C_BadSeen) = some false)
    (p_BadRule_BadText : PySem.W.subIn K (.ref C_BadRule) (.ref C_BadText) = some false)
    (fc_BadRules : PySem.W.findIn K (.ref C_BadRules) "__class__" = some (some (.builtin "object.__class__")))
    (mo_BadRules : PySem.W.mroIn K C_BadRules (.type "object") = some true)
    (vx_BadRules : PySem.W.subIn K (.ref C_BadRules) (.type "ValueError") = some true)
    (fe_BadRules : PySem.W.subIn K (.ref C_BadRules) (.ref C_FeastError) = some true)
    (p_BadRules_BadDay : PySem.W.subIn K (.ref C_BadRules) (.ref C_BadDay) = some false)
    (p_BadRules_BadLand : PySem.W.subIn K (.ref C_BadRules) (.ref C_BadLand) = some false)
    (p_BadRules_BadNumber : PySem.W.subIn K (.ref C_BadRules) (.ref C_BadNumber) = some false)
    (p_BadRules_BadRule : PySem.W.subIn K (.ref C_BadRules) (.ref C_BadRule) = some false)
    (p_BadRules_BadSeen : PySem.W.subIn K (.ref C_BadRules) (.ref C_BadSeen) = some false)
    (p_BadRules_BadText : PySem.W.subIn K (.ref C_BadRules) (.ref C_BadText) = some false)
    (fc_BadSeen : PySem.W.findIn K (.ref C_BadSeen) "__class__" = some (some (.builtin "object.__class__")))
    (mo_BadSeen : PySem.W.mroIn K C_BadSeen (.type "object") = some true)
    (vx_BadSeen : PySem.W.subIn K (.ref C_BadSeen) (.type "ValueError") = some true)
    (fe_BadSeen : PySem.W.subIn K (.ref C_BadSeen) (.ref C_FeastError) = some true)
    (p_BadSeen_BadDay : PySem.W.subIn K (.ref C_BadSeen) (.ref C_BadDay) = some false)
    (p_BadSeen_BadLand : PySem.W.subIn K (.ref C_BadSeen) (.ref C_BadLand) = some false)
    (p_BadSeen_BadNumber : PySem.W.subIn K (.ref C_BadSeen) (.ref C_BadNumber) = some false)
    (p_BadSeen_BadRule : PySem.W.subIn K (.ref C_BadSeen) (.ref C_BadRule) = some false)
    (p_BadSeen_BadRules : PySem.W.subIn K (.ref C_BadSeen) (.ref C_BadRules) = some false)
    (p_BadSeen_BadText : PySem.W.subIn K (.ref C_BadSeen) (.ref C_BadText) = some false)
    (fc_BadText : PySem.W.findIn K (.ref C_BadText) "__class__" = some (some (.builtin "object.__class__")))
    (mo_BadText : PySem.W.mroIn K C_BadText (.type "object") = some true)
    (vx_BadText : PySem.W.subIn K (.ref C_BadText) (.type "ValueError") = some true)
    (fe_BadText : PySem.W.subIn K (.ref C_BadText) (.ref C_FeastError) = some true)
    (p_BadText_BadDay : PySem.W.subIn K (.ref C_BadText) (.ref C_BadDay) = some false)
    (p_BadText_BadLand : PySem.W.subIn K (.ref C_BadText) (.ref C_BadLand) = some false)
    (p_BadText_BadNumber : PySem.W.subIn K (.ref C_BadText) (.ref C_BadNumber) = some false)
    (p_BadText_BadRule : PySem.W.subIn K (.ref C_BadText) (.ref C_BadRule) = some false)
    (p_BadText_BadRules : PySem.W.subIn K (.ref C_BadText) (.ref C_BadRules) = some false)
    (p_BadText_BadSeen : PySem.W.subIn K (.ref C_BadText) (.ref C_BadSeen) = some false)
    : ∃ fd : FuncData, (∀ (s : Shared) (v : Value), BindsTo s fd ⟨[v], []⟩ [("_law_script", v)]) ∧ ∀ base : Heap, K.In base → base.Ns mainGlobals mg → FnOk l.prog w K mg base CX0 9 fa fd ["_law_script"] (spLaw K) := by
  have e := hfa.symm.trans (PySem.W.mg_of X G a_law)
  cases e
  have T : Txt l.prog w K mg C_FeastError C_BadRule C_BadRules C_BadLand C_BadDay C_BadNumber C_BadSeen C_BadText := by
    constructor
    · exact mg_none_of X G z_super
    · exact ⟨⟨⟨_, _, _, _, _, _, _, _, _, _, _, _, _, _, _, o_BadRules, rv_BadRules⟩, sa_BadRules, be_BadRules, ty_BadRules, kc_BadRules⟩, ⟨_, _, _, _, ⟨⟨_, _, _, _, _, _, _, _, _, rfl, l_BadRules_init⟩, h_BadRules_init, k_BadRules_init, ⟨_, _, _, _, _, _, d_BadRules_init, v_BadRules_init, w_BadRules_init⟩, ⟨_, _, _, e_BadRules_init⟩, mr_BadRules_init, z_super, tp_super, an_super, su_BadRules_init, sv_BadRules_init⟩, a_BadRules_init, t_BadRules_init, Binds.all fun us hl => match us, hl with | [_, _], _ => rfl⟩, ⟨ga_BadRules, gg_BadRules, be_BadRules, hd_BadRules⟩, fun x hx => by
        simp only [List.mem_cons, List.not_mem_nil, or_false] at hx
        rcases hx with rfl <;> assumption, ic_BadRules, se_BadRules⟩
    · exact ⟨⟨⟨_, _, _, _, _, _, _, _, _, _, _, _, _, _, _, o_BadSeen, rv_BadSeen⟩, sa_BadSeen, be_BadSeen, ty_BadSeen, kc_BadSeen⟩, ⟨_, _, _, _, ⟨⟨_, _, _, _, _, _, _, _, _, rfl, l_BadSeen_init⟩, h_BadSeen_init, k_BadSeen_init, ⟨_, _, _, _, _, _, d_BadSeen_init, v_BadSeen_init, w_BadSeen_init⟩, ⟨_, _, _, e_BadSeen_init⟩, mr_BadSeen_init, z_super, tp_super, an_super, su_BadSeen_init, sv_BadSeen_init⟩, a_BadSeen_init, t_BadSeen_init, Binds.all fun us hl => match us, hl with | [_, _], _ => rfl⟩, ⟨ga_BadSeen, gg_BadSeen, be_BadSeen, hd_BadSeen⟩, fun x hx => by
        simp only [List.mem_cons, List.not_mem_nil, or_false] at hx
        rcases hx with rfl <;> assumption, ic_BadSeen, se_BadSeen⟩
    · exact ⟨⟨⟨_, _, _, _, _, _, _, _, _, _, _, _, _, _, _, o_BadText, rv_BadText⟩, sa_BadText, be_BadText, ty_BadText, kc_BadText⟩, ⟨_, _, _, _, ⟨⟨_, _, _, _, _, _, _, _, _, rfl, l_BadText_init⟩, h_BadText_init, k_BadText_init, ⟨_, _, _, _, _, _, d_BadText_init, v_BadText_init, w_BadText_init⟩, ⟨_, _, _, e_BadText_init⟩, mr_BadText_init, z_super, tp_super, an_super, su_BadText_init, sv_BadText_init⟩, a_BadText_init, t_BadText_init, Binds.all fun us hl => match us, hl with | [_, _, _], _ => rfl⟩, ⟨ga_BadText, gg_BadText, be_BadText, hd_BadText⟩, fun x hx => by
        simp only [List.mem_cons, List.not_mem_nil, or_false] at hx
        rcases hx with rfl | rfl <;> assumption, ic_BadText, se_BadText⟩
    · exact mg_none_of X G z_ValueError
    · exact mg_none_of X G z_len
    · exact mg_none_of X G z_abs
    · exact mg_none_of X G z_isinstance
    · exact mg_none_of X G z_sorted
    · exact mg_none_of X G z_all
    · exact mg_none_of X G z_int
    · exact mg_none_of X G z_str
    · exact mg_none_of X G z_list
    · exact mg_none_of X G z_tuple
    · exact mg_none_of X G z_dict
    · exact mg_none_of X G z_bool
    · exact mg_none_of X G z_range
    · exact mg_of X G a_FeastError
    · exact mg_of X G a_BadRule
    · exact ⟨x_BadRule, k_BadRule, b_BadRule, t_BadRule, i_BadRule, s_BadRule⟩
    · exact mg_of X G a_BadRules
    · exact mg_of X G a_BadLand
    · exact ⟨x_BadLand, k_BadLand, b_BadLand, t_BadLand, i_BadLand, s_BadLand⟩
    · exact mg_of X G a_BadDay
    · exact ⟨x_BadDay, k_BadDay, b_BadDay, t_BadDay, i_BadDay, s_BadDay⟩
    · exact mg_of X G a_BadNumber
    · exact ⟨x_BadNumber, k_BadNumber, b_BadNumber, t_BadNumber, i_BadNumber, s_BadNumber⟩
    · exact mg_of X G a_BadSeen
    · exact mg_of X G a_BadText
    · exact ⟨⟨_, _, mg_of X G a_l_random, fun_mk (st := s_l_random) l_l_random c_l_random k_l_random, (fun_mk (st := s_l_random) l_l_random c_l_random k_l_random).binds fun _ _ _ _ _ _ us hl => match us, hl with | [_, _], _ => rfl⟩⟩
    · exact ⟨⟨_, _, mg_of X G a_l_below, fun_mk (st := s_l_below) l_l_below c_l_below k_l_below, (fun_mk (st := s_l_below) l_l_below c_l_below k_l_below).binds fun _ _ _ _ _ _ us hl => match us, hl with | [_, _], _ => rfl⟩⟩
    · exact ⟨⟨_, _, mg_of X G a_l_pick, fun_mk (st := s_l_pick) l_l_pick c_l_pick k_l_pick, (fun_mk (st := s_l_pick) l_l_pick c_l_pick k_l_pick).binds fun _ _ _ _ _ _ us hl => match us, hl with | [_, _], _ => rfl⟩⟩
    · exact ⟨⟨_, _, mg_of X G a_l_equal, fun_mk (st := s_l_equal) l_l_equal c_l_equal k_l_equal, (fun_mk (st := s_l_equal) l_l_equal c_l_equal k_l_equal).binds fun _ _ _ _ _ _ us hl => match us, hl with | [_, _], _ => rfl⟩⟩
    · exact ⟨⟨_, _, mg_of X G a_l_thrown, fun_mk (st := s_l_thrown) l_l_thrown c_l_thrown k_l_thrown, (fun_mk (st := s_l_thrown) l_l_thrown c_l_thrown k_l_thrown).binds fun _ _ _ _ _ _ us hl => match us, hl with | [_, _, _], _ => rfl⟩⟩
    · exact ⟨⟨_, _, mg_of X G a_l_classes, fun_mk (st := s_l_classes) l_l_classes c_l_classes k_l_classes, (fun_mk (st := s_l_classes) l_l_classes c_l_classes k_l_classes).binds fun _ _ _ _ _ _ us hl => match us, hl with | [_], _ => rfl⟩⟩
    · exact ⟨⟨_, _, mg_of X G a_l_fields, fun_mk (st := s_l_fields) l_l_fields c_l_fields k_l_fields, (fun_mk (st := s_l_fields) l_l_fields c_l_fields k_l_fields).binds fun _ _ _ _ _ _ us hl => match us, hl with | [_, _], _ => rfl⟩⟩
    · exact ⟨⟨_, _, mg_of X G a_law, fun_mk (st := s_law) l_law c_law k_law, (fun_mk (st := s_law) l_law c_law k_law).binds fun _ _ _ _ _ _ us hl => match us, hl with | [_], _ => rfl⟩⟩
  exact ⟨_, fun s v => .of_eq rfl, fun base _ _ => ok_law (fun_mk (st := s_law) l_law c_law k_law) T ⟨fun k hk => match k, hk with | 0, _ => ⟨ga_BadDay, gg_BadDay, b_BadDay, hd_BadDay, fc_BadDay, hnX, htX, mo_BadDay⟩ | 1, _ => ⟨ga_BadLand, gg_BadLand, b_BadLand, hd_BadLand, fc_BadLand, hnX, htX, mo_BadLand⟩ | 2, _ => ⟨ga_BadNumber, gg_BadNumber, b_BadNumber, hd_BadNumber, fc_BadNumber, hnX, htX, mo_BadNumber⟩ | 3, _ => ⟨ga_BadRule, gg_BadRule, b_BadRule, hd_BadRule, fc_BadRule, hnX, htX, mo_BadRule⟩ | 4, _ => ⟨ga_BadRules, gg_BadRules, be_BadRules, hd_BadRules, fc_BadRules, hnX, htX, mo_BadRules⟩ | 5, _ => ⟨ga_BadSeen, gg_BadSeen, be_BadSeen, hd_BadSeen, fc_BadSeen, hnX, htX, mo_BadSeen⟩ | 6, _ => ⟨ga_BadText, gg_BadText, be_BadText, hd_BadText, fc_BadText, hnX, htX, mo_BadText⟩ | n + 7, h => absurd h (by omega), fun k hk => match k, hk with | 0, _ => kit_ve vx_BadDay | 1, _ => kit_ve vx_BadLand | 2, _ => kit_ve vx_BadNumber | 3, _ => kit_ve vx_BadRule | 4, _ => kit_ve vx_BadRules | 5, _ => kit_ve vx_BadSeen | 6, _ => kit_ve vx_BadText | n + 7, h => absurd h (by omega), fun k hk => match k, hk with | 0, _ => PySem.W.exm_ref bF dF tF fe_BadDay | 1, _ => PySem.W.exm_ref bF dF tF fe_BadLand | 2, _ => PySem.W.exm_ref bF dF tF fe_BadNumber | 3, _ => PySem.W.exm_ref bF dF tF fe_BadRule | 4, _ => PySem.W.exm_ref bF dF tF fe_BadRules | 5, _ => PySem.W.exm_ref bF dF tF fe_BadSeen | 6, _ => PySem.W.exm_ref bF dF tF fe_BadText | n + 7, h => absurd h (by omega), fun k j hk hj => match k, hk with | 0, _ => (match j, hj with | 0, _ => kit_self | 1, _ => kit_two s_BadDay i_BadLand t_BadLand p_BadDay_BadLand | 2, _ => kit_two s_BadDay i_BadNumber t_BadNumber p_BadDay_BadNumber | 3, _ => kit_two s_BadDay i_BadRule t_BadRule p_BadDay_BadRule | 4, _ => kit_two s_BadDay ic_BadRules ty_BadRules p_BadDay_BadRules | 5, _ => kit_two s_BadDay ic_BadSeen ty_BadSeen p_BadDay_BadSeen | 6, _ => kit_two s_BadDay ic_BadText ty_BadText p_BadDay_BadText | n + 7, h => absurd h (by omega)) | 1, _ => (match j, hj with | 0, _ => kit_two s_BadLand i_BadDay t_BadDay p_BadLand_BadDay | 1, _ => kit_self | 2, _ => kit_two s_BadLand i_BadNumber t_BadNumber p_BadLand_BadNumber | 3, _ => kit_two s_BadLand i_BadRule t_BadRule p_BadLand_BadRule | 4, _ => kit_two s_BadLand ic_BadRules ty_BadRules p_BadLand_BadRules | 5, _ => kit_two s_BadLand ic_BadSeen ty_BadSeen p_BadLand_BadSeen | 6, _ => kit_two s_BadLand ic_BadText ty_BadText p_BadLand_BadText | n + 7, h => absurd h (by omega)) | 2, _ => (match j, hj with | 0, _ => kit_two s_BadNumber i_BadDay t_BadDay p_BadNumber_BadDay | 1, _ => kit_two s_BadNumber i_BadLand t_BadLand p_BadNumber_BadLand | 2, _ => kit_self | 3, _ => kit_two s_BadNumber i_BadRule t_BadRule p_BadNumber_BadRule | 4, _ => kit_two s_BadNumber ic_BadRules ty_BadRules p_BadNumber_BadRules | 5, _ => kit_two s_BadNumber ic_BadSeen ty_BadSeen p_BadNumber_BadSeen | 6, _ => kit_two s_BadNumber ic_BadText ty_BadText p_BadNumber_BadText | n + 7, h => absurd h (by omega)) | 3, _ => (match j, hj with | 0, _ => kit_two s_BadRule i_BadDay t_BadDay p_BadRule_BadDay | 1, _ => kit_two s_BadRule i_BadLand t_BadLand p_BadRule_BadLand | 2, _ => kit_two s_BadRule i_BadNumber t_BadNumber p_BadRule_BadNumber | 3, _ => kit_self | 4, _ => kit_two s_BadRule ic_BadRules ty_BadRules p_BadRule_BadRules | 5, _ => kit_two s_BadRule ic_BadSeen ty_BadSeen p_BadRule_BadSeen | 6, _ => kit_two s_BadRule ic_BadText ty_BadText p_BadRule_BadText | n + 7, h => absurd h (by omega)) | 4, _ => (match j, hj with | 0, _ => kit_two se_BadRules i_BadDay t_BadDay p_BadRules_BadDay | 1, _ => kit_two se_BadRules i_BadLand t_BadLand p_BadRules_BadLand | 2, _ => kit_two se_BadRules i_BadNumber t_BadNumber p_BadRules_BadNumber | 3, _ => kit_two se_BadRules i_BadRule t_BadRule p_BadRules_BadRule | 4, _ => kit_self | 5, _ => kit_two se_BadRules ic_BadSeen ty_BadSeen p_BadRules_BadSeen | 6, _ => kit_two se_BadRules ic_BadText ty_BadText p_BadRules_BadText | n + 7, h => absurd h (by omega)) | 5, _ => (match j, hj with | 0, _ => kit_two se_BadSeen i_BadDay t_BadDay p_BadSeen_BadDay | 1, _ => kit_two se_BadSeen i_BadLand t_BadLand p_BadSeen_BadLand | 2, _ => kit_two se_BadSeen i_BadNumber t_BadNumber p_BadSeen_BadNumber | 3, _ => kit_two se_BadSeen i_BadRule t_BadRule p_BadSeen_BadRule | 4, _ => kit_two se_BadSeen ic_BadRules ty_BadRules p_BadSeen_BadRules | 5, _ => kit_self | 6, _ => kit_two se_BadSeen ic_BadText ty_BadText p_BadSeen_BadText | n + 7, h => absurd h (by omega)) | 6, _ => (match j, hj with | 0, _ => kit_two se_BadText i_BadDay t_BadDay p_BadText_BadDay | 1, _ => kit_two se_BadText i_BadLand t_BadLand p_BadText_BadLand | 2, _ => kit_two se_BadText i_BadNumber t_BadNumber p_BadText_BadNumber | 3, _ => kit_two se_BadText i_BadRule t_BadRule p_BadText_BadRule | 4, _ => kit_two se_BadText ic_BadRules ty_BadRules p_BadText_BadRules | 5, _ => kit_two se_BadText ic_BadSeen ty_BadSeen p_BadText_BadSeen | 6, _ => kit_self | n + 7, h => absurd h (by omega)) | n + 7, h => absurd h (by omega)⟩⟩
theorem walk {l : PySem.W.OpenLaw} {q : Program} {loose : List Str} {XP : (Str → Option Value) → Heap → Prop} {YP : World → Heap → Prop} {d : DefRec} {K : Params → PySem.W.Frag} (hn : l.most = some 63) (hdf : d.params.defaults = [])
    (hY : ∀ (w : World) (h : Heap), YP w h → (K w.params).In h)
    (F : ∀ (w : World) (mg : Str → Option Value) (fa : Addr) (h : Heap), (K w.params).In h → h.Ns mainGlobals mg → mg d.name = some (.ref fa) →
      ∃ fd : FuncData, (∀ (s : Shared) (u : Value), BindsTo s fd ⟨[u], []⟩ [("_law_script", u)]) ∧ ∀ base : Heap, (K w.params).In base → base.Ns mainGlobals mg → FnOk l.prog w (K w.params) mg base CX0 9 fa fd ["_law_script"] (spLaw (K w.params))) :
    PySem.W.WalkO q loose XP YP l.row.toRowW d [] (fun f vs => PySem.call f vs) :=
  L2.walk_of (n := 63) (k := 9) (x := "_law_script") (CX := fun _ => CX0) (sp := fun w => spLaw (K w.params)) hn (by decide) hdf ⟨rfl, by decide, by decide⟩ hY F (fun _ _ a ns hl _ hS => ⟨a, ns, rfl, hS, hl, fun _ => rfl⟩) fun _ _ _ _ _ z => z
end WF
open PySem PySem.W PyProof.Rows in
set_option maxRecDepth 100000 in
set_option maxHeartbeats 0 in
theorem PySem.Challenge.cw_weekfeasts_k14_errors_apart_holds : PySem.Challenge.rw_weekfeasts_k14_errors_apart.Holds := by
  w_on; o_law; k_head; (case hw => w_witness2)
  k_fill
  refine WF.walk (l := PySem.Challenge.rw_weekfeasts_k14_errors_apart) rfl rfl (fun w h Y => PySem.W.kIn_of Y) ?F
  case F =>
    intro w mg fa h KX G hmg
    refine' WF.all_mk KX G hmg ?z_super ?tp_super ?an_super ?z_ValueError ?z_len ?z_abs ?z_isinstance ?z_sorted ?z_all ?z_int ?z_str ?z_list ?z_tuple ?z_dict ?z_bool ?z_range ?a_FeastError ?a_BadRule ?x_BadRule ?k_BadRule ?b_BadRule ?t_BadRule ?i_BadRule ?s_BadRule ?a_BadRules ?a_BadLand ?x_BadLand ?k_BadLand ?b_BadLand ?t_BadLand ?i_BadLand ?s_BadLand ?a_BadDay ?x_BadDay ?k_BadDay ?b_BadDay ?t_BadDay ?i_BadDay ?s_BadDay ?a_BadNumber ?x_BadNumber ?k_BadNumber ?b_BadNumber ?t_BadNumber ?i_BadNumber ?s_BadNumber ?a_BadSeen ?a_BadText ?a_l_random ?l_l_random ?c_l_random ?k_l_random ?a_l_below ?l_l_below ?c_l_below ?k_l_below ?a_l_pick ?l_l_pick ?c_l_pick ?k_l_pick ?a_l_equal ?l_l_equal ?c_l_equal ?k_l_equal ?a_l_thrown ?l_l_thrown ?c_l_thrown ?k_l_thrown ?a_l_classes ?l_l_classes ?c_l_classes ?k_l_classes ?a_l_fields ?l_l_fields ?c_l_fields ?k_l_fields ?a_law ?l_law ?c_law ?k_law ?a_BadRules_init ?t_BadRules_init ?l_BadRules_init ?h_BadRules_init ?k_BadRules_init ?d_BadRules_init ?v_BadRules_init ?w_BadRules_init ?e_BadRules_init ?mr_BadRules_init ?su_BadRules_init ?sv_BadRules_init ?o_BadRules ?rv_BadRules ?sa_BadRules ?be_BadRules ?ty_BadRules ?kc_BadRules ?ga_BadRules ?gg_BadRules ?hd_BadRules ?ic_BadRules ?se_BadRules ?no_BadRules_index ?a_BadSeen_init ?t_BadSeen_init ?l_BadSeen_init ?h_BadSeen_init ?k_BadSeen_init ?d_BadSeen_init ?v_BadSeen_init ?w_BadSeen_init ?e_BadSeen_init ?mr_BadSeen_init ?su_BadSeen_init ?sv_BadSeen_init ?o_BadSeen ?rv_BadSeen ?sa_BadSeen ?be_BadSeen ?ty_BadSeen ?kc_BadSeen ?ga_BadSeen ?gg_BadSeen ?hd_BadSeen ?ic_BadSeen ?se_BadSeen ?no_BadSeen_index ?a_BadText_init ?t_BadText_init ?l_BadText_init ?h_BadText_init ?k_BadText_init ?d_BadText_init ?v_BadText_init ?w_BadText_init ?e_BadText_init ?mr_BadText_init ?su_BadText_init ?sv_BadText_init ?o_BadText ?rv_BadText ?sa_BadText ?be_BadText ?ty_BadText ?kc_BadText ?ga_BadText ?gg_BadText ?hd_BadText ?ic_BadText ?se_BadText ?no_BadText_line ?no_BadText_word ?hnX ?htX ?bF ?dF ?tF ?ga_BadDay ?gg_BadDay ?hd_BadDay ?fc_BadDay ?mo_BadDay ?vx_BadDay ?fe_BadDay ?p_BadDay_BadLand ?p_BadDay_BadNumber ?p_BadDay_BadRule ?p_BadDay_BadRules ?p_BadDay_BadSeen ?p_BadDay_BadText ?ga_BadLand ?gg_BadLand ?hd_BadLand ?fc_BadLand ?mo_BadLand ?vx_BadLand ?fe_BadLand ?p_BadLand_BadDay ?p_BadLand_BadNumber ?p_BadLand_BadRule ?p_BadLand_BadRules ?p_BadLand_BadSeen ?p_BadLand_BadText ?ga_BadNumber ?gg_BadNumber ?hd_BadNumber ?fc_BadNumber ?mo_BadNumber ?vx_BadNumber ?fe_BadNumber ?p_BadNumber_BadDay ?p_BadNumber_BadLand ?p_BadNumber_BadRule ?p_BadNumber_BadRules ?p_BadNumber_BadSeen ?p_BadNumber_BadText ?ga_BadRule ?gg_BadRule ?hd_BadRule ?fc_BadRule ?mo_BadRule ?vx_BadRule ?fe_BadRule ?p_BadRule_BadDay ?p_BadRule_BadLand ?p_BadRule_BadNumber ?p_BadRule_BadRules ?p_BadRule_BadSeen ?p_BadRule_BadText ?fc_BadRules ?mo_BadRules ?vx_BadRules ?fe_BadRules ?p_BadRules_BadDay ?p_BadRules_BadLand ?p_BadRules_BadNumber ?p_BadRules_BadRule ?p_BadRules_BadSeen ?p_BadRules_BadText ?fc_BadSeen ?mo_BadSeen ?vx_BadSeen ?fe_BadSeen ?p_BadSeen_BadDay ?p_BadSeen_BadLand ?p_BadSeen_BadNumber ?p_BadSeen_BadRule ?p_BadSeen_BadRules ?p_BadSeen_BadText ?fc_BadText ?mo_BadText ?vx_BadText ?fe_BadText ?p_BadText_BadDay ?p_BadText_BadLand ?p_BadText_BadNumber ?p_BadText_BadRule ?p_BadText_BadRules ?p_BadText_BadSeen
    (case z_super => k_is)
    (case tp_super => first | rfl | decide +kernel)
    (case an_super => k_is)
    (case z_ValueError => k_is)
    (case z_len => k_is)
    (case z_abs => k_is)
    (case z_isinstance => k_is)
    (case z_sorted => k_is)
    (case z_all => k_is)
    (case z_int => k_is)
    (case z_str => k_is)
    (case z_list => k_is)
    (case z_tuple => k_is)
    (case z_dict => k_is)
    (case z_bool => k_is)
    (case z_range => k_is)
    (case a_FeastError => k_is)
    (case a_BadRule => k_is)
    (case x_BadRule => k_exc)
    (case k_BadRule => k_is)
    (case b_BadRule => k_is)
    (case t_BadRule => k_is)
    (case i_BadRule => k_is)
    (case s_BadRule => first | rfl | k_is)
    (case a_BadRules => k_is)
    (case a_BadLand => k_is)
    (case x_BadLand => k_exc)
    (case k_BadLand => k_is)
    (case b_BadLand => k_is)
    (case t_BadLand => k_is)
    (case i_BadLand => k_is)
    (case s_BadLand => first | rfl | k_is)
    (case a_BadDay => k_is)
    (case x_BadDay => k_exc)
    (case k_BadDay => k_is)
    (case b_BadDay => k_is)
    (case t_BadDay => k_is)
    (case i_BadDay => k_is)
    (case s_BadDay => first | rfl | k_is)
    (case a_BadNumber => k_is)
    (case x_BadNumber => k_exc)
    (case k_BadNumber => k_is)
    (case b_BadNumber => k_is)
    (case t_BadNumber => k_is)
    (case i_BadNumber => k_is)
    (case s_BadNumber => first | rfl | k_is)
    (case a_BadSeen => k_is)
    (case a_BadText => k_is)
    (case a_l_random => k_is)
    (case l_l_random => k_is)
    (case c_l_random => k_is)
    (case k_l_random => k_is)
    (case a_l_below => k_is)
    (case l_l_below => k_is)
    (case c_l_below => k_is)
    (case k_l_below => k_is)
    (case a_l_pick => k_is)
    (case l_l_pick => k_is)
    (case c_l_pick => k_is)
    (case k_l_pick => k_is)
    (case a_l_equal => k_is)
    (case l_l_equal => k_is)
    (case c_l_equal => k_is)
    (case k_l_equal => k_is)
    (case a_l_thrown => k_is)
    (case l_l_thrown => k_is)
    (case c_l_thrown => k_is)
    (case k_l_thrown => k_is)
    (case a_l_classes => k_is)
    (case l_l_classes => k_is)
    (case c_l_classes => k_is)
    (case k_l_classes => k_is)
    (case a_l_fields => k_is)
    (case l_l_fields => k_is)
    (case c_l_fields => k_is)
    (case k_l_fields => k_is)
    (case a_law => k_is)
    (case l_law => k_is)
    (case c_law => k_is)
    (case k_law => k_is)
    (case a_BadRules_init => k_is)
    (case t_BadRules_init => k_is)
    (case l_BadRules_init => k_is)
    (case h_BadRules_init => k_is)
    (case k_BadRules_init => k_is)
    (case d_BadRules_init => k_is)
    (case v_BadRules_init => rfl)
    (case w_BadRules_init => first | rfl | decide +kernel)
    (case e_BadRules_init => k_is)
    (case mr_BadRules_init => k_is)
    (case su_BadRules_init => ks_is)
    (case sv_BadRules_init => k_is)
    (case o_BadRules => k_is)
    (case rv_BadRules => rfl)
    (case sa_BadRules => k_is)
    (case be_BadRules => k_is)
    (case ty_BadRules => k_is)
    (case kc_BadRules => k_is)
    (case ga_BadRules => k_is)
    (case gg_BadRules => k_is)
    (case hd_BadRules => k_is)
    (case ic_BadRules => k_is)
    (case se_BadRules => first | rfl | k_is)
    (case no_BadRules_index => k_is)
    (case a_BadSeen_init => k_is)
    (case t_BadSeen_init => k_is)
    (case l_BadSeen_init => k_is)
    (case h_BadSeen_init => k_is)
    (case k_BadSeen_init => k_is)
    (case d_BadSeen_init => k_is)
    (case v_BadSeen_init => rfl)
    (case w_BadSeen_init => first | rfl | decide +kernel)
    (case e_BadSeen_init => k_is)
    (case mr_BadSeen_init => k_is)
    (case su_BadSeen_init => ks_is)
    (case sv_BadSeen_init => k_is)
    (case o_BadSeen => k_is)
    (case rv_BadSeen => rfl)
    (case sa_BadSeen => k_is)
    (case be_BadSeen => k_is)
    (case ty_BadSeen => k_is)
    (case kc_BadSeen => k_is)
    (case ga_BadSeen => k_is)
    (case gg_BadSeen => k_is)
    (case hd_BadSeen => k_is)
    (case ic_BadSeen => k_is)
    (case se_BadSeen => first | rfl | k_is)
    (case no_BadSeen_index => k_is)
    (case a_BadText_init => k_is)
    (case t_BadText_init => k_is)
    (case l_BadText_init => k_is)
    (case h_BadText_init => k_is)
    (case k_BadText_init => k_is)
    (case d_BadText_init => k_is)
    (case v_BadText_init => rfl)
    (case w_BadText_init => first | rfl | decide +kernel)
    (case e_BadText_init => k_is)
    (case mr_BadText_init => k_is)
    (case su_BadText_init => ks_is)
    (case sv_BadText_init => k_is)
    (case o_BadText => k_is)
    (case rv_BadText => rfl)
    (case sa_BadText => k_is)
    (case be_BadText => k_is)
    (case ty_BadText => k_is)
    (case kc_BadText => k_is)
    (case ga_BadText => k_is)
    (case gg_BadText => k_is)
    (case hd_BadText => k_is)
    (case ic_BadText => k_is)
    (case se_BadText => first | rfl | k_is)
    (case no_BadText_line => k_is)
    (case no_BadText_word => k_is)
    (case hnX => k_is)
    (case htX => k_is)
    (case bF => k_is)
    (case dF => k_is)
    (case tF => k_is)
    (case ga_BadDay => k_is)
    (case gg_BadDay => k_is)
    (case hd_BadDay => k_is)
    (case fc_BadDay => k_is)
    (case mo_BadDay => k_is)
    (case vx_BadDay => k_is)
    (case fe_BadDay => k_is)
    (case p_BadDay_BadLand => k_is)
    (case p_BadDay_BadNumber => k_is)
    (case p_BadDay_BadRule => k_is)
    (case p_BadDay_BadRules => k_is)
    (case p_BadDay_BadSeen => k_is)
    (case p_BadDay_BadText => k_is)
    (case ga_BadLand => k_is)
    (case gg_BadLand => k_is)
    (case hd_BadLand => k_is)
    (case fc_BadLand => k_is)
    (case mo_BadLand => k_is)
    (case vx_BadLand => k_is)
    (case fe_BadLand => k_is)
    (case p_BadLand_BadDay => k_is)
    (case p_BadLand_BadNumber => k_is)
    (case p_BadLand_BadRule => k_is)
    (case p_BadLand_BadRules => k_is)
    (case p_BadLand_BadSeen => k_is)
    (case p_BadLand_BadText => k_is)
    (case ga_BadNumber => k_is)
    (case gg_BadNumber => k_is)
    (case hd_BadNumber => k_is)
    (case fc_BadNumber => k_is)
    (case mo_BadNumber => k_is)
    (case vx_BadNumber => k_is)
    (case fe_BadNumber => k_is)
    (case p_BadNumber_BadDay => k_is)
    (case p_BadNumber_BadLand => k_is)
    (case p_BadNumber_BadRule => k_is)
    (case p_BadNumber_BadRules => k_is)
    (case p_BadNumber_BadSeen => k_is)
    (case p_BadNumber_BadText => k_is)
    (case ga_BadRule => k_is)
    (case gg_BadRule => k_is)
    (case hd_BadRule => k_is)
    (case fc_BadRule => k_is)
    (case mo_BadRule => k_is)
    (case vx_BadRule => k_is)
    (case fe_BadRule => k_is)
    (case p_BadRule_BadDay => k_is)
    (case p_BadRule_BadLand => k_is)
    (case p_BadRule_BadNumber => k_is)
    (case p_BadRule_BadRules => k_is)
    (case p_BadRule_BadSeen => k_is)
    (case p_BadRule_BadText => k_is)
    (case fc_BadRules => k_is)
    (case mo_BadRules => k_is)
    (case vx_BadRules => k_is)
    (case fe_BadRules => k_is)
    (case p_BadRules_BadDay => k_is)
    (case p_BadRules_BadLand => k_is)
    (case p_BadRules_BadNumber => k_is)
    (case p_BadRules_BadRule => k_is)
    (case p_BadRules_BadSeen => k_is)
    (case p_BadRules_BadText => k_is)
    (case fc_BadSeen => k_is)
    (case mo_BadSeen => k_is)
    (case vx_BadSeen => k_is)
    (case fe_BadSeen => k_is)
    (case p_BadSeen_BadDay => k_is)
    (case p_BadSeen_BadLand => k_is)
    (case p_BadSeen_BadNumber => k_is)
    (case p_BadSeen_BadRule => k_is)
    (case p_BadSeen_BadRules => k_is)
    (case p_BadSeen_BadText => k_is)
    (case fc_BadText => k_is)
    (case mo_BadText => k_is)
    (case vx_BadText => k_is)
    (case fe_BadText => k_is)
    (case p_BadText_BadDay => k_is)
    (case p_BadText_BadLand => k_is)
    (case p_BadText_BadNumber => k_is)
    (case p_BadText_BadRule => k_is)
    (case p_BadText_BadRules => k_is)
    (case p_BadText_BadSeen => k_is)


