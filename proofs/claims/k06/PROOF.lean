import PyProof.Rows.All
import Wide.All
import OpenK.AllK
import Wide.FinOn
import HandS.ForMost
import HandS.ForExc
import HandS.Evl
import HandS.WideBits
import HandS.IsInst
import HandS.Small
import HandS.More
import HandS.Walk
import KE.GoesEnum
import KE.GoesMore
import HandS.Property
import HandS.Conv
import PyProof.LongRange
import HandS.TryMany
import HandS.TryOnly
import HandS.ExcOwn
import HandS.WordsDict
import KE.SortKeyHeap
import KE.SortData
import HandS.Sort
import HandS.SortKw
import PyProof.WalksMore
import PySem.Challenge.RW_weekfeasts_k06_whole_forms
import KE.KEqSeq
/-! WMath: the plain law. Rules as data, their days, figures as numbers. -/
set_option Elab.async false
set_option linter.all false
namespace WF

/-- a rule, as data -/
inductive Rl where
  | wk (k : Int) | fs (k : Int) | md (k : Int)
  | bh (r : Rl) (b : Int)
  | bo (x y : Rl) | ei (x y : Rl) | wo (x y : Rl)
  deriving DecidableEq, Inhabited

/-- is day d one of the rule, in the land (w, m) -/
def Rl.day (w m : Int) : Rl → Int → Bool
  | .wk k, d => d % w == k % w
  | .fs k, d => d % w == k % w && decide (d % m < w)
  | .md k, d => d % m == k % m
  | .bh r b, d => r.day w m (d - b)
  | .bo x y, d => x.day w m d && y.day w m d
  | .ei x y, d => x.day w m d || y.day w m d
  | .wo x y, d => x.day w m d && !y.day w m d
def Rl.parts : Rl → Nat
  | .wk _ | .fs _ | .md _ => 1
  | .bh r _ => 1 + r.parts
  | .bo x y | .ei x y | .wo x y => 1 + x.parts + y.parts
def Rl.bys : Rl → Nat
  | .wk _ | .fs _ | .md _ => 0
  | .bh r b => b.natAbs + r.bys
  | .bo x y | .ei x y | .wo x y => x.bys + y.bys
/-- the numbers in it are such as may stand -/
def Rl.fit : Rl → Bool
  | .wk k | .fs k => decide (-2 ≤ k ∧ k ≤ 1)
  | .md k => decide (-3 ≤ k ∧ k ≤ 2)
  | .bh r b => decide (b = -2 ∨ b = -1 ∨ b = 1 ∨ b = 2) && r.fit
  | .bo x y | .ei x y | .wo x y => x.fit && y.fit
/-- a calendar's rows -/
abbrev Rows := List (Rl × Bool)
def addRow (w m : Int) (f : Int → Bool) (r : Rl × Bool) : Int → Bool := fun d =>
  f d || (r.1.day w m d && !(r.2 && f d)) || (r.2 && (r.1.day w m (d - 1) && f (d - 1)))
def calDay (w m : Int) (rows : Rows) : Int → Bool := rows.foldl (addRow w m) fun _ => false

/-! ### all goes round -/
def Per (N : Int) (p : Int → Bool) : Prop := ∀ d, p (d + N) = p d
theorem Per.sub {N : Int} {p : Int → Bool} (h : Per N p) (d : Int) : p (d - N) = p d := by
  have := h (d - N)
  rw [Int.sub_add_cancel] at this
  exact this.symm
theorem Per.mulN {N : Int} {p : Int → Bool} (h : Per N p) (d : Int) : ∀ k : Nat, p (d + N * (k : Int)) = p d
  | 0 => by simp
  | k + 1 => by
    have e : d + N * ((k + 1 : Nat) : Int) = (d + N * (k : Int)) + N := by
      rw [Int.natCast_add, Int.mul_add]; simp; omega
    rw [e, h, Per.mulN h d k]
theorem Per.mul {N : Int} {p : Int → Bool} (h : Per N p) (d k : Int) : p (d + N * k) = p d := by
  rcases Int.le_total 0 k with hk | hk
  · obtain ⟨n, rfl⟩ := Int.eq_ofNat_of_zero_le hk
    exact h.mulN d n
  · obtain ⟨n, hn⟩ := Int.eq_ofNat_of_zero_le (show 0 ≤ -k by omega)
    have e : k = -(n : Int) := by omega
    have := h.mulN (d + N * k) n
    have e2 : d + N * k + N * (n : Int) = d := by
      rw [e, Int.mul_neg]; omega
    rw [e2] at this
    exact this.symm
theorem Per.emod {N : Int} {p : Int → Bool} (h : Per N p) (d : Int) : p (d % N) = p d := by
  have e : d % N = d + N * (-(d / N)) := by
    have := Int.emod_add_mul_ediv d N
    rw [Int.mul_neg]; omega
  rw [e, h.mul]
theorem rl_per (w m : Int) : ∀ r : Rl, Per (w * m) (r.day w m)
  | .wk k => fun d => by
    show (((d + w * m) % w == k % w) = (d % w == k % w))
    rw [Int.add_mul_emod_self_left]
  | .fs k => fun d => by
    show (((d + w * m) % w == k % w && decide ((d + w * m) % m < w)) = (d % w == k % w && decide (d % m < w)))
    rw [Int.add_mul_emod_self_left, Int.mul_comm w m, Int.add_mul_emod_self_left]
  | .md k => fun d => by
    show (((d + w * m) % m == k % m) = (d % m == k % m))
    rw [Int.mul_comm w m, Int.add_mul_emod_self_left]
  | .bh r b => fun d => by
    show r.day w m (d + w * m - b) = r.day w m (d - b)
    rw [show d + w * m - b = d - b + w * m by omega]
    exact rl_per w m r _
  | .bo x y => fun d => by
    show (x.day w m (d + w * m) && y.day w m (d + w * m)) = _
    rw [rl_per w m x d, rl_per w m y d]; rfl
  | .ei x y => fun d => by
    show (x.day w m (d + w * m) || y.day w m (d + w * m)) = _
    rw [rl_per w m x d, rl_per w m y d]; rfl
  | .wo x y => fun d => by
    show (x.day w m (d + w * m) && !y.day w m (d + w * m)) = _
    rw [rl_per w m x d, rl_per w m y d]; rfl
theorem add_per {w m : Int} {f : Int → Bool} (h : Per (w * m) f) (r : Rl × Bool) : Per (w * m) (addRow w m f r) := fun d => by
  unfold addRow
  rw [h d, rl_per w m r.1 d, show d + w * m - 1 = d - 1 + w * m by omega, h (d - 1), rl_per w m r.1 (d - 1)]
theorem fold_per {w m : Int} : ∀ (rows : Rows) {f : Int → Bool}, Per (w * m) f → Per (w * m) (rows.foldl (addRow w m) f)
  | [], _, h => h
  | r :: rows, _, h => fold_per rows (add_per h r)
theorem cal_per (w m : Int) (rows : Rows) : Per (w * m) (calDay w m rows) := fold_per rows fun _ => rfl

/-! ### figures -/
/-- the figure of N days: bit d tells p d -/
def figN : Nat → (Int → Bool) → Nat
  | 0, _ => 0
  | n + 1, p => figN n p + (if p (n : Int) then 2 ^ n else 0)
theorem figN_lt : ∀ (n : Nat) (p : Int → Bool), figN n p < 2 ^ n
  | 0, _ => by simp [figN]
  | n + 1, p => by
    have := figN_lt n p
    unfold figN
    rw [Nat.pow_succ]
    split <;> omega
theorem figN_bit : ∀ (n : Nat) (p : Int → Bool) (d : Nat), (figN n p).testBit d = (decide (d < n) && p (d : Int))
  | 0, p, d => by simp [figN]
  | n + 1, p, d => by
    unfold figN
    have hl := figN_lt n p
    have ih := figN_bit n p d
    by_cases hp : p (n : Int) = true
    · rw [if_pos hp, Nat.add_comm]
      rcases Nat.lt_trichotomy d n with h | h | h
      · rw [Nat.testBit_two_pow_add_gt h, ih, decide_eq_true h, decide_eq_true (Nat.lt_succ_of_lt h)]
      · subst h
        rw [Nat.testBit_two_pow_add_eq, Nat.testBit_lt_two_pow hl, hp, decide_eq_true (Nat.lt_succ_self d)]; rfl
      · have hz : 2 ^ n + figN n p < 2 ^ d := by
          have h1 : 2 ^ (n + 1) ≤ 2 ^ d := Nat.pow_le_pow_right (by decide) h
          rw [Nat.pow_succ] at h1
          omega
        rw [Nat.testBit_lt_two_pow hz, decide_eq_false (by omega)]; rfl
    · rw [if_neg hp, Nat.add_zero, ih]
      rcases Nat.lt_trichotomy d n with h | h | h
      · rw [decide_eq_true h, decide_eq_true (Nat.lt_succ_of_lt h)]
      · subst h
        rw [decide_eq_false (Nat.lt_irrefl d)]
        simp at hp
        rw [hp]; simp
      · rw [decide_eq_false (by omega), decide_eq_false (by omega)]
theorem figN_eq {N n : Nat} {p : Int → Bool} (hl : n < 2 ^ N) (h : ∀ d, d < N → n.testBit d = p (d : Int)) : n = figN N p := by
  apply Nat.eq_of_testBit_eq
  intro d
  rw [figN_bit]
  by_cases hd : d < N
  · rw [h d hd, decide_eq_true hd]; rfl
  · rw [decide_eq_false hd, Nat.testBit_lt_two_pow (Nat.lt_of_lt_of_le hl (Nat.pow_le_pow_right (by decide) (by omega)))]; rfl
theorem figN_congr {N : Nat} {p q : Int → Bool} (h : ∀ d : Nat, d < N → p (d : Int) = q (d : Int)) : figN N p = figN N q :=
  figN_eq (figN_lt _ _) fun d hd => by rw [figN_bit, decide_eq_true hd, h d hd]; rfl
theorem figN_and (N : Nat) (p q : Int → Bool) : figN N p &&& figN N q = figN N fun d => p d && q d :=
  figN_eq (Nat.lt_of_le_of_lt Nat.and_le_left (figN_lt _ _)) fun d hd => by rw [Nat.testBit_and, figN_bit, figN_bit, decide_eq_true hd]; rfl
theorem figN_wo : ∀ (N : Nat) (p q : Int → Bool), figN N p = figN N (fun d => p d && !q d) + figN N (fun d => p d && q d)
  | 0, _, _ => rfl
  | n + 1, p, q => by
    unfold figN
    have ih := figN_wo n p q
    cases hp : p (n : Int) <;> cases hq : q (n : Int) <;> simp [hp, hq] <;> omega
theorem figN_orE : ∀ (N : Nat) (p q : Int → Bool), figN N (fun d => p d || q d) + figN N (fun d => p d && q d) = figN N p + figN N q
  | 0, _, _ => rfl
  | n + 1, p, q => by
    unfold figN
    have ih := figN_orE n p q
    cases hp : p (n : Int) <;> cases hq : q (n : Int) <;> simp [hp, hq] <;> omega
theorem figN_xorE : ∀ (N : Nat) (p q : Int → Bool), figN N (fun d => p d ^^ q d) + 2 * figN N (fun d => p d && q d) = figN N p + figN N q
  | 0, _, _ => rfl
  | n + 1, p, q => by
    unfold figN
    have ih := figN_xorE n p q
    cases hp : p (n : Int) <;> cases hq : q (n : Int) <;> simp [hp, hq] <;> omega

/-! ### one that is turned -/
def maskN (N : Nat) : Nat := 2 ^ N - 1
theorem turn_fig {N b : Nat} {p : Int → Bool} (hp : Per (N : Int) p) (hb : b < N) :
    (figN N p * 2 ^ b) % 2 ^ N ||| (figN N p * 2 ^ b) / 2 ^ N = figN N fun d => p (d - (b : Int)) := by
  have h1 : (figN N p * 2 ^ b) / 2 ^ N < 2 ^ N := by
    apply Nat.div_lt_of_lt_mul
    have := figN_lt N p
    have h2 : 2 ^ b < 2 ^ N := Nat.pow_lt_pow_right (by decide) hb
    exact Nat.mul_lt_mul'' this h2
  refine figN_eq (Nat.or_lt_two_pow (Nat.mod_lt _ (Nat.two_pow_pos _)) h1) fun d hd => ?_
  rw [Nat.testBit_or, Nat.testBit_mod_two_pow, ← Nat.shiftLeft_eq, ← Nat.shiftRight_eq_div_pow, Nat.testBit_shiftRight, Nat.testBit_shiftLeft, Nat.testBit_shiftLeft, figN_bit, figN_bit, decide_eq_true hd]
  have e1 : decide (N + d ≥ b) = true := decide_eq_true (by omega)
  rw [e1]
  by_cases hbd : b ≤ d
  · have e2 : decide (d ≥ b) = true := decide_eq_true hbd
    have e3 : decide (d - b < N) = true := decide_eq_true (by omega)
    have e4 : decide (N + d - b < N) = false := decide_eq_false (by omega)
    rw [e2, e3, e4, show ((d - b : Nat) : Int) = (d : Int) - (b : Int) by omega]
    simp
  · have e2 : decide (d ≥ b) = false := decide_eq_false (by omega)
    have e4 : decide (N + d - b < N) = true := decide_eq_true (by omega)
    rw [e2, e4, show ((N + d - b : Nat) : Int) = ((d : Int) - (b : Int)) + (N : Int) by omega, hp]
    simp
/-! ### a sum of powers whose exponents rise -/
theorem fig_step {n e : Nat} {p : Int → Bool} (hb : ∀ d : Nat, d < e → n ≤ d → p (d : Int) = false) (he : p (e : Int) = true) (hn : n ≤ e) : figN n p + 2 ^ e = figN (e + 1) p := by
  have h : ∀ k, n + k ≤ e → figN (n + k) p = figN n p := by
    intro k
    induction k with
    | zero => intro _; rfl
    | succ k ih =>
      intro hk
      show figN (n + k) p + (if p ((n + k : Nat) : Int) then 2 ^ (n + k) else 0) = figN n p
      rw [hb (n + k) (by omega) (by omega), ih (by omega)]
      simp
  have := h (e - n) (by omega)
  rw [show n + (e - n) = e by omega] at this
  show _ = figN e p + (if p (e : Int) then 2 ^ e else 0)
  rw [he, this]; simp
theorem fig_more {n m : Nat} {p : Int → Bool} (h : ∀ d : Nat, n ≤ d → d < m → p (d : Int) = false) (hn : n ≤ m) : figN m p = figN n p := by
  have g : ∀ k, n + k ≤ m → figN (n + k) p = figN n p := by
    intro k
    induction k with
    | zero => intro _; rfl
    | succ k ih =>
      intro hk
      show figN (n + k) p + (if p ((n + k : Nat) : Int) then 2 ^ (n + k) else 0) = figN n p
      rw [h (n + k) (by omega) (by omega), ih (by omega)]
      simp
  have := g (m - n) (by omega)
  rwa [show n + (m - n) = m by omega] at this
/-- a block with just one day -/
theorem fig_block {n e n' : Nat} {p : Int → Bool} (h1 : n ≤ e) (h2 : e < n') (he : p (e : Int) = true) (ho : ∀ d : Nat, n ≤ d → d < n' → d ≠ e → p (d : Int) = false) : figN n p + 2 ^ e = figN n' p := by
  rw [fig_step (fun d hd hn => ho d hn (by omega) (by omega)) he h1]
  exact (fig_more (n := e + 1) (m := n') (fun d h3 h4 => ho d (by omega) h4 (by omega)) (by omega)).symm
theorem fig_blocks {L : Nat} {e : Nat → Nat} {p : Int → Bool} : ∀ T : Nat, (∀ t, t < T → L * t ≤ e t ∧ e t < L * (t + 1) ∧ ∀ d : Nat, L * t ≤ d → d < L * (t + 1) → (p (d : Int) = true ↔ d = e t)) →
    (((List.range T).map fun t => 2 ^ e t).sum = figN (L * T) p)
  | 0, _ => by simp [figN]
  | T + 1, h => by
    obtain ⟨h1, h2, h3⟩ := h T (Nat.lt_succ_self T)
    rw [List.range_succ, List.map_append, List.sum_append, fig_blocks T fun t ht => h t (Nat.lt_succ_of_lt ht)]
    simp only [List.map_cons, List.map_nil, List.sum_cons, List.sum_nil, Nat.add_zero]
    refine fig_block h1 h2 ((h3 (e T) h1 h2).mpr rfl) fun d hd hd' hne => ?_
    cases hp : p (d : Int) with
    | false => rfl
    | true => exact absurd ((h3 d hd hd').mp hp) hne
/-- days that come by a step -/
theorem every_fig {w : Nat} (k : Int) (hw : 0 < w) (T : Nat) : (((List.range T).map fun t => 2 ^ ((k % (w : Int)).toNat + w * t)).sum = figN (w * T) fun d => d % (w : Int) == k % (w : Int)) := by
  have h0 : 0 ≤ k % (w : Int) := Int.emod_nonneg _ (by omega)
  have h1 : k % (w : Int) < (w : Int) := Int.emod_lt_of_pos _ (by omega)
  refine fig_blocks T fun t _ => ⟨by omega, by rw [Nat.mul_add]; omega, fun d hd hd' => ?_⟩
  rw [beq_iff_eq]
  have hd'' : d < w * t + w := by rw [Nat.mul_add, Nat.mul_one] at hd'; exact hd'
  have e : (d : Int) % (w : Int) = (d : Int) - (w : Int) * (t : Int) := by
    have : (d : Int) = ((d : Int) - (w : Int) * (t : Int)) + (w : Int) * (t : Int) := by omega
    rw [this, Int.add_mul_emod_self_left, Int.emod_eq_of_lt]
    · omega
    · have : ((w * t : Nat) : Int) = (w : Int) * (t : Int) := Int.natCast_mul w t
      omega
    · have : ((w * t : Nat) : Int) = (w : Int) * (t : Int) := Int.natCast_mul w t
      omega
  have q : ((w * t : Nat) : Int) = (w : Int) * (t : Int) := Int.natCast_mul w t
  rw [e]
  omega
theorem first_fig {w m : Nat} (k : Int) (hw : 0 < w) (hm : w < m) (T : Nat) :
    (((List.range T).map fun (t : Nat) => 2 ^ (m * t + ((k - (m : Int) * (t : Int)) % (w : Int)).toNat)).sum = figN (m * T) fun d => d % (w : Int) == k % (w : Int) && decide (d % (m : Int) < (w : Int))) := by
  refine fig_blocks T fun t _ => ?_
  have h0 : 0 ≤ (k - (m : Int) * (t : Int)) % (w : Int) := Int.emod_nonneg _ (by omega)
  have h1 : (k - (m : Int) * (t : Int)) % (w : Int) < (w : Int) := Int.emod_lt_of_pos _ (by omega)
  have q : ((m * t : Nat) : Int) = (m : Int) * (t : Int) := Int.natCast_mul m t
  refine ⟨by omega, by rw [Nat.mul_add]; omega, fun d hd hd' => ?_⟩
  have hd'' : d < m * t + m := by rw [Nat.mul_add, Nat.mul_one] at hd'; exact hd'
  have e : (d : Int) % (m : Int) = (d : Int) - (m : Int) * (t : Int) := by
    have : (d : Int) = ((d : Int) - (m : Int) * (t : Int)) + (m : Int) * (t : Int) := by omega
    rw [this, Int.add_mul_emod_self_left, Int.emod_eq_of_lt]
    · omega
    · omega
    · omega
  rw [Bool.and_eq_true, beq_iff_eq, decide_eq_true_iff, e]
  constructor
  · rintro ⟨a, b⟩
    have : (k - (m : Int) * (t : Int)) % (w : Int) = (d : Int) - (m : Int) * (t : Int) := by
      rw [Int.sub_emod, ← a, ← Int.sub_emod, Int.emod_eq_of_lt (by omega) b]
    omega
  · intro hde
    have hx : (d : Int) - (m : Int) * (t : Int) = (k - (m : Int) * (t : Int)) % (w : Int) := by omega
    refine ⟨?_, by omega⟩
    have : (d : Int) = ((k - (m : Int) * (t : Int)) % (w : Int)) + (m : Int) * (t : Int) := by omega
    rw [this, Int.add_emod, Int.emod_emod, ← Int.add_emod, Int.sub_add_cancel]

/-! ### what is counted -/
def daysN (N : Nat) (p : Int → Bool) : List Nat := (List.range N).filter fun (d : Nat) => p (d : Int)
theorem daysN_mem {N d : Nat} {p : Int → Bool} : d ∈ daysN N p ↔ d < N ∧ p (d : Int) = true := by
  unfold daysN
  rw [List.mem_filter, List.mem_range]
theorem daysN_len (N : Nat) (p : Int → Bool) : (daysN N p).length ≤ N := by
  unfold daysN
  have h := List.length_filter_le (fun (d : Nat) => p (d : Int)) (List.range N)
  rwa [List.length_range] at h
theorem daysN_nodup (N : Nat) (p : Int → Bool) : (daysN N p).Nodup := List.Pairwise.filter _ List.nodup_range
theorem nodup_len : ∀ {l1 l2 : List Nat}, l1.Nodup → l2.Nodup → (∀ x, x ∈ l1 ↔ x ∈ l2) → l1.length = l2.length := fun {l1 l2} h1 h2 h =>
  ((List.perm_ext_iff_of_nodup h1 h2).mpr h).length_eq

theorem figN_zero {N : Nat} {q : Int → Bool} (h : ∀ d : Nat, d < N → q (d : Int) = false) : figN N q = 0 := by
  have := fig_more (n := 0) (m := N) (p := q) (fun d _ hd => h d hd) (Nat.zero_le _)
  rw [this]; rfl
theorem least : ∀ (N : Nat) (q : Nat → Bool), (∃ d, d < N ∧ q d = true) → ∃ j, j < N ∧ q j = true ∧ ∀ d, d < j → q d = false
  | 0, _, ⟨_, h, _⟩ => absurd h (Nat.not_lt_zero _)
  | n + 1, q, ⟨d, h, hd⟩ => by
    by_cases h0 : ∃ d, d < n ∧ q d = true
    · obtain ⟨j, h1, h2, h3⟩ := least n q h0
      exact ⟨j, by omega, h2, h3⟩
    · refine ⟨d, h, hd, fun e he => ?_⟩
      cases hq : q e with
      | false => rfl
      | true => exact absurd ⟨e, by omega, hq⟩ h0
theorem fig_one {N j : Nat} (hj : j < N) : 2 ^ j = figN N fun d => d == (j : Int) := by
  have := fig_block (n := 0) (e := j) (n' := N) (p := fun d => d == (j : Int)) (Nat.zero_le _) hj (by simp) (fun d _ _ hne => by
    rw [beq_eq_false_iff_ne]; omega)
  rw [← this]; simp [figN]
theorem fig_low {N : Nat} {q : Int → Bool} (h : 0 < figN N q) : ∃ j a : Nat, j < N ∧ q (j : Int) = true ∧ (∀ d : Nat, d < j → q (d : Int) = false) ∧ figN N q = 2 ^ j * (2 * a + 1) := by
  have hex : ∃ d, d < N ∧ (fun (d : Nat) => q (d : Int)) d = true := by
    apply Classical.byContradiction
    intro hn
    have := figN_zero (N := N) (q := q) fun d hd => by
      cases hq : q (d : Int) with
      | false => rfl
      | true => exact absurd ⟨d, hd, hq⟩ hn
    omega
  obtain ⟨j, h1, h2, h3⟩ := least N (fun (d : Nat) => q (d : Int)) hex
  refine ⟨j, figN N q / 2 ^ (j + 1), h1, h2, h3, ?_⟩
  have hm : figN N q % 2 ^ (j + 1) = 2 ^ j := by
    apply Nat.eq_of_testBit_eq
    intro d
    rw [Nat.testBit_mod_two_pow, figN_bit, Nat.testBit_two_pow]
    by_cases hd : d < j
    · have : q (d : Int) = false := h3 d hd
      rw [this]; simp; omega
    · by_cases hd2 : d = j
      · subst hd2
        have h2' : q (d : Int) = true := h2
        rw [h2']; simp; omega
      · rw [decide_eq_false (show ¬ d < j + 1 by omega)]; simp; omega
  have := Nat.div_add_mod (figN N q) (2 ^ (j + 1))
  rw [hm] at this
  generalize figN N q / 2 ^ (j + 1) = a at this ⊢
  rw [← this, Nat.mul_add, Nat.mul_one, Nat.pow_succ, Nat.mul_assoc]
theorem daysN_succ (n : Nat) (p : Int → Bool) : daysN (n + 1) p = daysN n p ++ (if p (n : Int) then [n] else []) := by
  unfold daysN
  rw [List.range_succ, List.filter_append]
  congr 1
  by_cases h : p (n : Int) = true
  · rw [if_pos h, List.filter_cons, if_pos h]; rfl
  · rw [if_neg h, List.filter_cons, if_neg h]; rfl
theorem daysN_more {i j : Nat} {p : Int → Bool} (h : ∀ d : Nat, i ≤ d → d < j → p (d : Int) = false) (hij : i ≤ j) : daysN j p = daysN i p := by
  have g : ∀ k, i + k ≤ j → daysN (i + k) p = daysN i p := by
    intro k
    induction k with
    | zero => intro _; rfl
    | succ k ih =>
      intro hk
      rw [show i + (k + 1) = (i + k) + 1 by omega, daysN_succ, h (i + k) (by omega) (by omega), ih (by omega)]
      simp
  have := g (j - i) (by omega)
  rwa [show i + (j - i) = j by omega] at this
end WF

set_option Elab.async false
set_option linter.all false
set_option maxRecDepth 100000
set_option maxHeartbeats 2000000
/-! WLayer: further words over the hand layer: a def by its name with its promise (Dn), readings that evaluate (ev_..) -/
namespace WF
open PySem L2 Evl
/-! ### a def of the text, by its name: where it stands, its promise -/
structure Dn (P : Program) (w : World) (K : PySem.W.Frag) (mg : Str → Option Value) (base : Heap) (CX : CXT) (x : Str) (k : Nat) (ps : List Str) (sp : Sp) : Prop where
  ex : ∃ (f : Addr) (fd : FuncData), mg x = some (.ref f) ∧ PySem.W.keepIn K (.ref f) = true ∧ FnOk P w K mg base CX k f fd ps sp ∧ Binds K fd ps []
structure FunAt (K : PySem.W.Frag) (mg : Str → Option Value) (x : Str) (st : Stmt) (ps : List Str) : Prop where
  ex : ∃ (f : Addr) (fd : FuncData), mg x = some (.ref f) ∧ Fun K x x st f fd ∧ Binds K fd ps []
section
variable {P : Program} {w : World} {K : PySem.W.Frag} {mg : Str → Option Value} {base : Heap} {CX : CXT} {x : Str} {k : Nat} {ps : List Str} {sp : Sp} {st : Stmt}
theorem FunAt.dn (F : FunAt K mg x st ps) (h : ∀ f fd, Fun K x x st f fd → mg x = some (.ref f) → Binds K fd ps [] → FnOk P w K mg base CX k f fd ps sp) : Dn P w K mg base CX x k ps sp := by
  obtain ⟨f, fd, h1, h2, h3⟩ := F.ex
  exact ⟨f, fd, h1, h2.kp, h f fd h2 h1 h3, h3⟩
theorem Dn.mono {j : Nat} (D : Dn P w K mg base CX x j ps sp) (h : j ≤ k) : Dn P w K mg base CX x k ps sp := by
  obtain ⟨f, fd, h1, h2, h3, h4⟩ := D.ex
  exact ⟨f, fd, h1, h2, h3.mono h, h4⟩
end
theorem fnok_none {P : Program} {w : World} {K : PySem.W.Frag} {mg : Str → Option Value} {base : Heap} {CX : CXT} {k : Nat} {f : Addr} {fd : FuncData} {ps : List Str} {sp : Sp} (h : ∀ vs H Q E, ¬ sp vs H Q E) : FnOk P w K mg base CX k f fd ps sp :=
  ⟨fun vs H Q E q => (h vs H Q E q).elim, fun _ _ _ _ _ _ _ _ _ _ _ _ _ q => (h _ _ _ _ q).elim⟩
section
variable {X : Cx} {CX : CXT} {x : Str} {k : Nat} {ps : List Str} {sp : Sp} {E : XK} {e : Expr} {es : List Expr} {p pos : Pos} {t : TA}
theorem pe_fn (D : Dn X.prog X.w X.K X.mg X.base CX x k ps sp) (hr : Room k X.A) (hx : Passes CX X E) (hg : Gl X x) (ha : PA X (e :: es) t) (hdb : (x == ("__debug__" : Str)) = false := by decide)
    (he : starEach (e :: es) X.env = (false, eval e X.env) :: starEach es X.env := by rfl) (hpl : (backTo pos (starEach es X.env)).any (·.1) = false := by rfl) : PE X (.Call (.Name x p) (e :: es) [] pos) (tCall sp [] E t) := by
  obtain ⟨f, fd, h1, h2, h3, h4⟩ := D.ex
  exact pe_call h3 hr hg h1 h2 h4 .nil hx ha hdb he hpl
end
/-! ### rules within a comprehension: the written part by its own name -/
section
variable {X : Cx} {K : PySem.W.Frag}
theorem ix_tupK (hK : X.K = K := by rfl) : IxR X (rIxT K) := by
  subst hK
  exact ix_tup
theorem ix_listK (hK : X.K = K := by rfl) : IxR X (rIxL K) := by
  subst hK
  exact ix_list
theorem op_in_seqK (hK : X.K = K := by rfl) : OpR X (compareOp .In) (rIn K false) := by
  subst hK
  exact op_in_seq
theorem op_notIn_seqK (hK : X.K = K := by rfl) : OpR X (compareOp .NotIn) (rIn K true) := by
  subst hK
  exact op_notIn_seq
theorem call_len_seqK (hK : X.K = K := by rfl) : CallR X (.builtin "len") (rLenS K) := by
  subst hK
  exact call_len_seq
theorem call_isiK1 (hK : X.K = K := by rfl) : CallR X (.builtin "isinstance") (rIsi K) := by
  subst hK
  exact call_isi
theorem pe_fldK {e : Expr} {f : Str} {ta : TE} {pos : Pos} (he : PE X e ta) (hb : attributeBase e f X.env (eval e X.env) = eval e X.env) (hK : X.K = K := by rfl) : PE X (.Attribute e f pos) (tFld K ta f) := by
  subst hK
  exact pe_fld he hb
theorem pg_tupK {es : List Expr} {k : Nat} {t : TGs} {n : Nat} {pos : Pos} (hc : X.calm = true) (h : PGs X es t) (hn : (assignEach es X.env).length = n := by rfl) (hst : (assignEach es X.env).findIdx? (·.1) = none := by rfl) (hK : X.K = K := by rfl) :
    PG X (.Tuple es k pos) (gTup K n t) := by
  subst hK
  exact pg_tup hc h hn hst
end
/-! ### readings -/
section
variable {K : PySem.W.Frag} {σ : L2.St} {H H' : Hp} {ta tb tc te : TE} {x y z v : V} {r r' : R2} {t u : TT}
theorem given_all (n : Nat) (v : Nat → V) : given n (fun _ => true) v = (List.range n).map v := by
  unfold given
  rw [List.filter_eq_self.mpr]
  intro _ _; rfl
theorem et_yes : EvT tYes σ H true := fun H1 _ _ q => q H1 (Ex.refl H1)
theorem ev_sum {ta : TE} {ns : List Int} (h : EvL ta σ H (ns.map V.int)) : Ev (tCB (rSum K) (tCons ta tNil)) σ H (.int ns.sum) := fun H1 e Q q =>
  h H1 e _ fun p H2 _ e2 h2 => ⟨p, ns, rfl, sq_of h2, q H2 e2⟩
theorem ev_sumR {ta : TE} {n : Nat} (v : Nat → Int) (h : EvL ta σ H ((List.range n).map fun i => V.int (v i))) : Ev (tCB (rSum K) (tCons ta tNil)) σ H (.int ((List.range n).map v).sum) := by
  refine ev_sum ?_
  rw [List.map_map]
  exact h
/-- the items of a comprehension over range(n) without a test -/
theorem el_rng {ta : TA} {j : Nat} {vs : List Nat} {n : Int} (v : Nat → V) (h : EvA ta σ H [.int n]) (hn : 0 ≤ n ∧ n ≤ 40000) (hw : ∀ x, wipe ((wipe σ vs).set j (some x)) vs = wipe σ vs)
    (he : ∀ (i : Nat) H1, Ex H H1 → (i : Int) < n → Ev te ((wipe σ vs).set j (some (.int (i : Int)))) H1 (v i)) :
    EvL (tLc (iRng1 ta) (gName j) tYes te vs) σ H ((List.range n.toNat).map v) := by
  have := el_lcR1 (fun _ => true) v h hn hw (fun _ _ _ _ => et_yes) (fun i H1 e hi _ => he i H1 e hi)
  rwa [given_all] at this
theorem et_cmp {b : Bool} (ha : Ev ta σ H x) (hb : Ev tb σ H y) (hr : RV r x y H (.bl b)) : EvT (tTest (tOp r ta tb)) σ H b := et_test (ev_op ha hb hr)
/-- a call whose promise is a value -/
theorem spV {sp : Sp} {vs : List V} (h : ∀ H1, Ex H H1 → ∀ (Q : VK) (E : XK), RetV z H1 Q → sp vs H1 Q E) : SpV sp (vs ++ []) H z := fun H1 e Q q E => by
  rw [List.append_nil]
  exact h H1 e Q E q
theorem spL {sp : Sp} {vs xs : List V} (h : ∀ H1, Ex H H1 → ∀ (Q : VK) (E : XK), RetL xs H1 Q → sp vs H1 Q E) : SpL sp (vs ++ []) H xs := fun H1 e Q q E => by
  rw [List.append_nil]
  exact h H1 e Q E q
theorem s_par {D : Ends} {i j : Nat} {ta : TA} (h : EvA ta σ H [x, y]) (k : ∀ H1, Ex H H1 → D.nx ((σ.set i (some x)).set j (some y)) H1) : tPar i j ta D σ H := h H (Ex.refl H) _ fun H1 e => ⟨x, y, rfl, k H1 e⟩
theorem q_par {D : Ends} {i j : Nat} {ta : TA} {tz : TS} (h : EvA ta σ H [x, y]) (k : ∀ H1, Ex H H1 → tz D ((σ.set i (some x)).set j (some y)) H1) : tSeq (tPar i j ta) tz D σ H := s_par (D := { D with nx := tz D }) h k
theorem s_asgT {D : Ends} {i j : Nat} {a : Addr} (h : Ev te σ H (.ref a)) (ht : SqT K H a [x, y]) (k : ∀ H1, Ex H H1 → D.nx ((σ.set i (some x)).set j (some y)) H1) : tAsg te (gTup K 2 (gCons (gName i) (gCons (gName j) gNil))) D σ H :=
  h H (Ex.refl H) _ fun H1 e => ⟨a, [x, y], rfl, ex_t e ht, rfl, _, _, rfl, _, _, rfl, rfl, k H1 e⟩
theorem q_asgT {D : Ends} {i j : Nat} {a : Addr} {tz : TS} (h : Ev te σ H (.ref a)) (ht : SqT K H a [x, y]) (k : ∀ H1, Ex H H1 → tz D ((σ.set i (some x)).set j (some y)) H1) : tSeq (tAsg te (gTup K 2 (gCons (gName i) (gCons (gName j) gNil)))) tz D σ H := s_asgT (D := { D with nx := tz D }) h ht k
theorem q_yes {D : Ends} {tu tw tz : TS} (h : EvT t σ H true) (k : ∀ H1, Ex H H1 → tu { D with nx := tz D } σ H1) : tSeq (tIfS t tu tw) tz D σ H := q_if h (fun _ => k) (fun hb => nomatch hb)
theorem q_no {D : Ends} {tu tw tz : TS} (h : EvT t σ H false) (k : ∀ H1, Ex H H1 → tw { D with nx := tz D } σ H1) : tSeq (tIfS t tu tw) tz D σ H := q_if h (fun hb => nomatch hb) (fun _ => k)
/-- an if without else, not gone into -/
theorem q_not {D : Ends} {tu tz : TS} (h : EvT t σ H false) (k : ∀ H1, Ex H H1 → tz D σ H1) : tSeq (tIfS t tu tNext) tz D σ H := q_no h k
theorem s_yes {D : Ends} {tu tw : TS} (h : EvT t σ H true) (k : ∀ H1, Ex H H1 → tu D σ H1) : tIfS t tu tw D σ H := s_if h (fun _ => k) (fun hb => nomatch hb)
theorem s_no {D : Ends} {tu tw : TS} (h : EvT t σ H false) (k : ∀ H1, Ex H H1 → tw D σ H1) : tIfS t tu tw D σ H := s_if h (fun hb => nomatch hb) (fun _ => k)
theorem et_str {a b : Str} {c : Bool} (h : Ev ta σ H (.str a)) (hc : decide (a = b) = c) : EvT (tTest (tOp rEq ta (tC (.str b)))) σ H c := et_is (et_cmp h ev_c (rv_eq rfl)) (by
  rw [← hc]
  by_cases q : a = b
  · rw [q, decide_eq_true rfl, decide_eq_true rfl]
  · rw [decide_eq_false q, decide_eq_false]
    intro z
    injection z with z
    exact q z)
theorem ev_ifT (h : EvT t σ H true) (h1 : Ev ta σ H v) : Ev (tIf t ta tb) σ H v := ev_if h (fun _ => h1) (fun hb => nomatch hb)
theorem ev_ifF (h : EvT t σ H false) (h1 : Ev tb σ H v) : Ev (tIf t ta tb) σ H v := ev_if h (fun hb => nomatch hb) (fun _ => h1)
theorem ev_ixT {p : Addr} {xs : List V} {i : Int} (h : Ev ta σ H (.ref p)) (hs : SqT K H p xs) (ha : atI xs i = some v) : Ev (tOp (rIxT K) ta (tC (.int i))) σ H v := ev_op h ev_c (rv_ixT hs ha)
theorem ru_inv {i : Int} : RU (rU fun i => .int (Builtin.bitNot i)) (.int i) H (.int (Builtin.bitNot i)) := fun H1 _ _ q => ⟨i, rfl, q H1 (Ex.refl H1)⟩
theorem ev_fld {a C dx : Addr} {fs : List (Str × V)} {f : Str} (h : Ev ta σ H (.ref a)) (ho : H a = some (.ins C dx fs)) (hc : Cls K C) (hn : NoAttr K C f) (hl : fs.lookup f = some v) : Ev (tFld K ta f) σ H v := fun H1 e Q q =>
  h H1 e _ fun H2 e2 => ⟨a, C, dx, fs, v, rfl, e2 _ _ (e _ _ ho), hc, hn, hl, q H2 e2⟩
theorem ev_bits {i : Int} (h : Ev te σ H (.int i)) : Ev (tBits te) σ H (.int (Builtin.Int.intBits i : Nat)) := fun H1 e Q q => h H1 e _ fun H2 e2 => ⟨i, rfl, q H2 e2⟩
theorem el_is {xs ys : List V} (h : EvL te σ H xs) (e : xs = ys) : EvL te σ H ys := e ▸ h
theorem et_or1 (h : EvT t σ H true) : EvT (tOr t u) σ H true := et_or (a := true) (b := true) h fun q => nomatch q
theorem et_and0 (h : EvT t σ H false) : EvT (tAnd t u) σ H false := et_and (a := false) (b := false) h fun q => nomatch q
theorem ev_and0 (h : Ev ta σ H (.bl false)) : Ev (tAndV ta tb) σ H (.bl false) := ev_andV (a := false) (b := false) h fun q => nomatch q
theorem eu_ifT {xs : List V} (h : EvT t σ H true) (h1 : EvU ta σ H xs) : EvU (tIf t ta tb) σ H xs := fun H1 e Q q => h H1 e _ fun H2 e2 => by
  show ta σ H2 Q
  exact h1 H2 (e.trans e2) Q fun p H3 hp e3 h3 => q p H3 (fresh_back e2 hp) (e2.trans e3) h3
theorem eu_ifF {xs : List V} (h : EvT t σ H false) (h1 : EvU tb σ H xs) : EvU (tIf t ta tb) σ H xs := fun H1 e Q q => h H1 e _ fun H2 e2 => by
  show tb σ H2 Q
  exact h1 H2 (e.trans e2) Q fun p H3 hp e3 h3 => q p H3 (fresh_back e2 hp) (e2.trans e3) h3
theorem el_ifT {xs : List V} (h : EvT t σ H true) (h1 : EvL ta σ H xs) : EvL (tIf t ta tb) σ H xs := fun H1 e Q q => h H1 e _ fun H2 e2 => by
  show ta σ H2 Q
  exact h1 H2 (e.trans e2) Q fun p H3 hp e3 h3 => q p H3 (fresh_back e2 hp) (e2.trans e3) h3
theorem el_ifF {xs : List V} (h : EvT t σ H false) (h1 : EvL tb σ H xs) : EvL (tIf t ta tb) σ H xs := fun H1 e Q q => h H1 e _ fun H2 e2 => by
  show tb σ H2 Q
  exact h1 H2 (e.trans e2) Q fun p H3 hp e3 h3 => q p H3 (fresh_back e2 hp) (e2.trans e3) h3
/-- x = f(..), whatever f's promise is -/
theorem s_call {sp : Sp} {E : XK} {ta : TA} {D : Ends} {i : Nat} {vs : List V} (h : EvA ta σ H vs) (k : ∀ H1, Ex H H1 → sp vs H1 (fun x H2 => D.nx (σ.set i (some x)) H2) E) : tAsg (tCall sp [] E ta) (gName i) D σ H :=
  h H (Ex.refl H) _ fun H1 e => by
    rw [List.append_nil]
    exact k H1 e
theorem q_call {sp : Sp} {E : XK} {ta : TA} {tz : TS} {D : Ends} {i : Nat} {vs : List V} (h : EvA ta σ H vs) (k : ∀ H1, Ex H H1 → sp vs H1 (fun x H2 => tz D (σ.set i (some x)) H2) E) : tSeq (tAsg (tCall sp [] E ta) (gName i)) tz D σ H := s_call (D := { D with nx := tz D }) h k
/-- return f(..) -/
theorem s_retC {sp : Sp} {E : XK} {ta : TA} {D : Ends} {vs : List V} (h : EvA ta σ H vs) (k : ∀ H1, Ex H H1 → sp vs H1 D.rt E) : tRet (tCall sp [] E ta) D σ H :=
  h H (Ex.refl H) _ fun H1 e => by
    rw [List.append_nil]
    exact k H1 e
theorem rv_isN : RV (fun x y H Q => y = .non ∧ Q (.bl (decide (x = .non))) H) x .non H (.bl (decide (x = .non))) := fun H1 _ _ q => ⟨rfl, q H1 (Ex.refl H1)⟩
theorem rv_notN : RV (fun x y H Q => y = .non ∧ Q (.bl (!decide (x = .non))) H) x .non H (.bl (!decide (x = .non))) := fun H1 _ _ q => ⟨rfl, q H1 (Ex.refl H1)⟩
theorem cast_sum (l : List Nat) : ((l.map fun (n : Nat) => (n : Int))).sum = ((l.sum : Nat) : Int) := by
  induction l with
  | nil => rfl
  | cons a l ih => rw [List.map_cons, List.sum_cons, List.sum_cons, ih, Int.natCast_add]
theorem cast_sumR (n : Nat) (v : Nat → Nat) : ((List.range n).map fun i => ((v i : Nat) : Int)).sum = (((List.range n).map v).sum : Nat) := by
  rw [← cast_sum, List.map_map]
  rfl
end
end WF

set_option Elab.async false
set_option linter.all false
set_option maxRecDepth 100000
set_option maxHeartbeats 2000000
/-! WBits: the program's bit operators upon figures -/
namespace WF
open PySem L2 Evl PyProof.Rows PySem.W Bits
theorem fig_and (N : Nat) (p q : Int → Bool) : Builtin.bitAnd (figN N p : Int) (figN N q : Int) = (figN N fun d => p d && q d : Nat) := by
  rw [bitAnd_pp (Int.natCast_nonneg _) (Int.natCast_nonneg _), Int.toNat_natCast, Int.toNat_natCast, figN_and]
theorem fig_wo (N : Nat) (p q : Int → Bool) : Builtin.bitAnd (figN N p : Int) (Builtin.bitNot (figN N q : Int)) = (figN N fun d => p d && !q d : Nat) := by
  rw [bitAnd_not, fig_and]
  have := figN_wo N p q
  omega
theorem fig_or (N : Nat) (p q : Int → Bool) : Builtin.bitOr (figN N p : Int) (figN N q : Int) = (figN N fun d => p d || q d : Nat) := by
  rw [bitOr_and, fig_and]
  have := figN_orE N p q
  omega
theorem fig_xor (N : Nat) (p q : Int → Bool) : Builtin.bitXor (figN N p : Int) (figN N q : Int) = (figN N fun d => p d ^^ q d : Nat) := by
  rw [bitXor_and, fig_and]
  have := figN_xorE N p q
  omega
theorem fig_bits (N : Nat) (p : Int → Bool) : Builtin.Int.intBits (figN N p : Int) ≤ N := intBits_le_iff.mpr (by
  show figN N p < 2 ^ N
  exact figN_lt N p)
theorem bits_pow (j : Nat) : Builtin.Int.intBits ((2 ^ j : Nat) : Int) = j + 1 := by
  apply Nat.le_antisymm
  · exact intBits_le_iff.mpr (by
      show 2 ^ j < 2 ^ (j + 1)
      exact Nat.pow_lt_pow_right (by decide) (Nat.lt_succ_self j))
  · apply Classical.byContradiction
    intro h
    have := (intBits_le_iff (m := j) (x := ((2 ^ j : Nat) : Int))).mp (by omega)
    exact Nat.lt_irrefl _ (show 2 ^ j < 2 ^ j from this)
theorem bits_one : Builtin.Int.intBits 1 = 1 := by decide +kernel
theorem fig_turn {N b : Nat} {p : Int → Bool} (hp : Per (N : Int) p) (hb : b < N) :
    Builtin.bitOr (Builtin.bitAnd ((figN N p : Int) * 2 ^ b) (1 * 2 ^ N - 1)) ((figN N p : Int) * 2 ^ b / 2 ^ N) = (figN N fun d => p (d - (b : Int)) : Nat) := by
  rw [Int.one_mul, kbt_mask]
  have e : (figN N p : Int) * 2 ^ b = ((figN N p * 2 ^ b : Nat) : Int) := by rw [Int.natCast_mul, Int.natCast_pow]; rfl
  have e2 : (2 : Int) ^ N = ((2 ^ N : Nat) : Int) := by rw [Int.natCast_pow]; rfl
  rw [e, e2, ← Int.natCast_emod, ← Int.natCast_ediv, bitOr_pp (Int.natCast_nonneg _) (Int.natCast_nonneg _), Int.toNat_natCast, Int.toNat_natCast, turn_fig hp hb]
end WF

set_option Elab.async false
set_option linter.all false
set_option maxRecDepth 100000
set_option maxHeartbeats 2000000
/-! WRule: rules, calendars' rows, lands as they lie in the heap -/
namespace WF
open PySem L2 Evl
/-- at v lies the rule r -/
inductive RlAt (K : PySem.W.Frag) (H : Hp) : V → Rl → Prop where
  | wk {p : Addr} {k : Int} : SqT K H p [.str "weekday", .int k] → RlAt K H (.ref p) (.wk k)
  | fs {p : Addr} {k : Int} : SqT K H p [.str "first", .int k] → RlAt K H (.ref p) (.fs k)
  | md {p : Addr} {k : Int} : SqT K H p [.str "monthday", .int k] → RlAt K H (.ref p) (.md k)
  | bh {p : Addr} {v : V} {r : Rl} {b : Int} : SqT K H p [.str "behind", v, .int b] → RlAt K H v r → RlAt K H (.ref p) (.bh r b)
  | bo {p : Addr} {u v : V} {x y : Rl} : SqT K H p [.str "both", u, v] → RlAt K H u x → RlAt K H v y → RlAt K H (.ref p) (.bo x y)
  | ei {p : Addr} {u v : V} {x y : Rl} : SqT K H p [.str "either", u, v] → RlAt K H u x → RlAt K H v y → RlAt K H (.ref p) (.ei x y)
  | wo {p : Addr} {u v : V} {x y : Rl} : SqT K H p [.str "without", u, v] → RlAt K H u x → RlAt K H v y → RlAt K H (.ref p) (.wo x y)
theorem RlAt.mono {K : PySem.W.Frag} {H H' : Hp} {v : V} {r : Rl} (e : Ex H H') (h : RlAt K H v r) : RlAt K H' v r := by
  induction h with
  | wk h => exact .wk (ex_t e h)
  | fs h => exact .fs (ex_t e h)
  | md h => exact .md (ex_t e h)
  | bh h _ i => exact .bh (ex_t e h) i
  | bo h _ _ i j => exact .bo (ex_t e h) i j
  | ei h _ _ i j => exact .ei (ex_t e h) i j
  | wo h _ _ i j => exact .wo (ex_t e h) i j
def Rl.dep : Rl → Nat
  | .wk _ | .fs _ | .md _ => 0
  | .bh r _ => r.dep + 1
  | .bo x y | .ei x y | .wo x y => max x.dep y.dep + 1
theorem dep_parts : ∀ r : Rl, r.dep + 1 ≤ r.parts
  | .wk _ | .fs _ | .md _ => Nat.le_refl _
  | .bh r _ => by have := dep_parts r; simp only [Rl.dep, Rl.parts]; omega
  | .bo x y | .ei x y | .wo x y => by have := dep_parts x; have := dep_parts y; simp only [Rl.dep, Rl.parts]; omega
/-- a land of which one reckons -/
structure LandOk (w m : Nat) : Prop where
  w2 : 2 ≤ w
  wm : w < m
  m6 : m ≤ 6000
  n5 : w * m ≤ 10000
theorem LandOk.pos {w m : Nat} (h : LandOk w m) : 0 < w * m := Nat.mul_pos (by have := h.w2; omega) (by have := h.wm; omega)
/-! ### objects -/
def feastF (v : V) (n : Int) : List (Str × V) := putF "bys" (.int n) (putF "told" v [])
theorem tb_ne : ¬ (("told" : Str) = "bys") := by decide +kernel
theorem bt_ne : ¬ (("bys" : Str) = "told") := by decide +kernel
theorem feastF_told (v : V) (n : Int) : (feastF v n).lookup ("told" : Str) = some v := by
  unfold feastF
  rw [lookup_putF, if_neg tb_ne, lookup_putF, if_pos rfl]
theorem feastF_bys (v : V) (n : Int) : (feastF v n).lookup ("bys" : Str) = some (.int n) := by
  unfold feastF
  rw [lookup_putF, if_pos rfl]
theorem feastF_no (v : V) (n : Int) {m : Str} (h1 : ¬ m = "told") (h2 : ¬ m = "bys") : (feastF v n).lookup m = none := by
  unfold feastF
  rw [lookup_putF, if_neg h2, lookup_putF, if_neg h1]
  all_goals rfl
/-- at p a feast of the rule r -/
def FeastAt (K : PySem.W.Frag) (CF : Addr) (H : Hp) (p : Addr) (r : Rl) : Prop := ∃ dx v, H p = some (.ins CF dx (feastF v r.bys)) ∧ RlAt K H v r
theorem FeastAt.mono {K : PySem.W.Frag} {CF p : Addr} {H H' : Hp} {r : Rl} (e : Ex H H') (h : FeastAt K CF H p r) : FeastAt K CF H' p r := by
  obtain ⟨dx, v, h1, h2⟩ := h
  exact ⟨dx, v, e _ _ h1, h2.mono e⟩
/-- a row: a pair of a feast and a truth -/
def RowAt (K : PySem.W.Frag) (CF : Addr) (H : Hp) (x : V) (r : Rl × Bool) : Prop := ∃ p q, x = .ref p ∧ SqT K H p [.ref q, .bl r.2] ∧ FeastAt K CF H q r.1
theorem RowAt.mono {K : PySem.W.Frag} {CF : Addr} {H H' : Hp} {x : V} {r : Rl × Bool} (e : Ex H H') (h : RowAt K CF H x r) : RowAt K CF H' x r := by
  obtain ⟨p, q, h0, h1, h2⟩ := h
  exact ⟨p, q, h0, ex_t e h1, h2.mono e⟩
/-- the items xs are rows -/
def RowsL (K : PySem.W.Frag) (CF : Addr) (H : Hp) : List V → Rows → Prop
  | [], [] => True
  | x :: xs, r :: rs => RowAt K CF H x r ∧ RowsL K CF H xs rs
  | _, _ => False
theorem RowsL.mono {K : PySem.W.Frag} {CF : Addr} {H H' : Hp} (e : Ex H H') : ∀ {xs : List V} {rs : Rows}, RowsL K CF H xs rs → RowsL K CF H' xs rs
  | [], [], _ => trivial
  | _ :: _, _ :: _, h => ⟨h.1.mono e, RowsL.mono e h.2⟩
  | [], _ :: _, h => h
  | _ :: _, [], h => h
theorem RowsL.len {K : PySem.W.Frag} {CF : Addr} {H : Hp} : ∀ {xs : List V} {rs : Rows}, RowsL K CF H xs rs → xs.length = rs.length
  | [], [], _ => rfl
  | _ :: _, _ :: _, h => congrArg (· + 1) (RowsL.len h.2)
  | [], _ :: _, h => h.elim
  | _ :: _, [], h => h.elim
theorem RowsL.get {K : PySem.W.Frag} {CF : Addr} {H : Hp} : ∀ {xs : List V} {rs : Rows} {i : Nat} {x : V}, RowsL K CF H xs rs → xs[i]? = some x → ∃ r, rs[i]? = some r ∧ RowAt K CF H x r
  | _ :: _, r :: _, 0, _, h, e => ⟨r, rfl, by cases e; exact h.1⟩
  | _ :: xs, _ :: rs, i + 1, x, h, e => RowsL.get (xs := xs) (rs := rs) (i := i) (x := x) h.2 e
  | [], [], i, x, _, e => by simp at e
  | [], _ :: _, _, _, h, _ => h.elim
  | _ :: _, [], _, _, h, _ => h.elim
/-- at v a tuple of rows -/
def RowsAt (K : PySem.W.Frag) (CF : Addr) (H : Hp) (v : V) (rs : Rows) : Prop := ∃ a xs, v = .ref a ∧ SqT K H a xs ∧ RowsL K CF H xs rs
theorem RowsAt.mono {K : PySem.W.Frag} {CF : Addr} {H H' : Hp} {v : V} {rs : Rows} (e : Ex H H') (h : RowsAt K CF H v rs) : RowsAt K CF H' v rs := by
  obtain ⟨a, xs, h0, h1, h2⟩ := h
  exact ⟨a, xs, h0, ex_t e h1, h2.mono e⟩
theorem take_more {α : Type} : ∀ {l : List α} {i : Nat} {x : α}, l[i]? = some x → l.take (i + 1) = l.take i ++ [x]
  | [], i, x, h => by simp at h
  | a :: l, 0, x, h => by cases h; rfl
  | a :: l, i + 1, x, h => by
    show a :: l.take (i + 1) = a :: l.take i ++ [x]
    rw [take_more (l := l) (i := i) (x := x) h]
    rfl
theorem cal_more (w m : Int) {rows : Rows} {i : Nat} {r : Rl × Bool} (h : rows[i]? = some r) : calDay w m (rows.take (i + 1)) = addRow w m (calDay w m (rows.take i)) r := by
  unfold calDay
  rw [take_more h, List.foldl_append]
  rfl
def depMax (rows : Rows) : Nat := rows.foldr (fun r n => max r.1.dep n) 0
theorem dep_le : ∀ {rows : Rows} {i : Nat} {r : Rl × Bool}, rows[i]? = some r → r.1.dep ≤ depMax rows
  | [], i, r, h => by simp at h
  | a :: rows, 0, r, h => by cases h; exact Nat.le_max_left _ _
  | a :: rows, i + 1, r, h => Nat.le_trans (dep_le (rows := rows) (i := i) (r := r) h) (Nat.le_max_right _ _)
end WF

set_option Elab.async false
set_option linter.all false
set_option maxRecDepth 100000
set_option maxHeartbeats 2000000
/-! WIsi: kinds of values, isinstance, constants of the top, an own error without arguments -/
namespace WF
open PySem L2 Evl
section
variable {K : PySem.W.Frag} {H H' : Hp} {a : Addr} {xs : List V} {x : V} {t : Value}
theorem ty_tup (h : SqT K H a xs) : TyX K H (.ref a) (.type "tuple") := by
  rcases h with (h | ⟨o, h⟩) | ⟨o, its, n, h, c, _⟩
  · exact .base (.tup h)
  · exact .fTuple h
  · exact .kTuple h c
theorem ty_lst (h : SqL K H a xs) : TyX K H (.ref a) (.type "list") := by
  rcases h with (h | ⟨o, h⟩) | ⟨o, its, n, h, c, _⟩
  · exact .base (.lst h)
  · exact .base (.frz h)
  · exact .kList h c
theorem TyOf.mono (e : Ex H H') (h : TyOf K H x t) : TyOf K H' x t := by
  cases h with
  | non => exact .non
  | bl b => exact .bl b
  | int i => exact .int i
  | str z => exact .str z
  | flt z => exact .flt z
  | lst h => exact .lst (e _ _ h)
  | frz h => exact .frz (e _ _ h)
  | tup h => exact .tup (e _ _ h)
  | dK h => exact .dK (e _ _ h)
  | dT h => exact .dT (e _ _ h)
  | ins h cl ha hn htk hm => exact .ins (e _ _ h) cl ha hn htk hm
theorem ty_mono (e : Ex H H') (h : TyX K H x t) : TyX K H' x t := by
  cases h with
  | base h => exact .base (TyOf.mono e h)
  | byt b => exact .byt b
  | set h => exact .set (e _ _ h)
  | kList h c => exact .kList h c
  | kTuple h c => exact .kTuple h c
  | kDict h c => exact .kDict h c
  | fTuple h => exact .fTuple (e _ _ h)
  | fDict h => exact .fDict (e _ _ h)
theorem ty_int (i : Int) : TyX K H (.int i) (.type "int") := .base (.int i)
theorem ty_bl (i : Bool) : TyX K H (.bl i) (.type "bool") := .base (.bl i)
theorem ty_str (i : Str) : TyX K H (.str i) (.type "str") := .base (.str i)
theorem ty_non : TyX K H .non (.type "NoneType") := .base .non
end
section
variable {K : PySem.W.Frag} {σ : L2.St} {H H' : Hp} {ta tb tc te : TE} {x y z v : V} {r r' : R2} {t u : TT}
theorem ev_isi {b : Bool} {T : String} {ty : Value} (h : Ev ta σ H x) (hy : TyX K H x ty) (hb : PySem.W.kitOne K ty (.type T) = some b) : Ev (tCB (rIsi K) (tCons ta (tCons (tC (.ty T)) tNil))) σ H (.bl b) := fun H1 e Q q =>
  h H1 e _ fun H2 e2 => ⟨x, _, _, _, b, rfl, .ty T, ty_mono (e.trans e2) hy, hb, q H2 e2⟩
theorem ev_isiC {b : Bool} {C : Addr} {ty : Value} (h : Ev ta σ H x) (hy : TyX K H x ty) (hb : PySem.W.kitOne K ty (.ref C) = some b) : Ev (tCB (rIsi K) (tCons ta (tCons (tC (.ref C)) tNil))) σ H (.bl b) := fun H1 e Q q =>
  h H1 e _ fun H2 e2 => ⟨x, _, _, _, b, rfl, .own C, ty_mono (e.trans e2) hy, hb, q H2 e2⟩
theorem ev_lenT {p : Addr} {xs : List V} (ha : Ev ta σ H (.ref p)) (h : SqT K H p xs) : Ev (tCB (rLenS K) (tCons ta tNil)) σ H (.int (xs.length : Int)) := fun H1 e Q q =>
  ha H1 e _ fun H2 e2 => ⟨p, xs, rfl, .inr (ex_t (e.trans e2) h), q H2 e2⟩
theorem ev_chain {b1 b2 : Bool} (ha : Ev ta σ H x) (hb : Ev tb σ H y) (hr : RV r x y H (.bl b1)) (hc : b1 = true → Ev tc σ H z) (hr' : b1 = true → RV r' y z H (.bl b2)) : Ev (tChain r r' ta tb tc) σ H (.bl (b1 && b2)) := fun H1 e Q q =>
  ha H1 e _ fun H2 e2 => hb H2 (e.trans e2) _ fun H3 e3 => hr H3 ((e.trans e2).trans e3) _ fun H4 e4 => ⟨b1, rfl, by
    cases b1 with
    | true =>
      show tc σ H4 fun w' H5 => r' y w' H5 Q
      exact hc rfl H4 (((e.trans e2).trans e3).trans e4) _ fun H5 e5 => hr' rfl H5 ((((e.trans e2).trans e3).trans e4).trans e5) Q fun H6 e6 => q H6 ((((e2.trans e3).trans e4).trans e5).trans e6)
    | false =>
      show Q (.bl false) H4
      exact q H4 ((e2.trans e3).trans e4)⟩
theorem ev_all {ta : TE} {bs : List Bool} (h : EvL ta σ H (bs.map V.bl)) : Ev (tCB (rAll K) (tCons ta tNil)) σ H (.bl (bs.all id)) := fun H1 e Q q =>
  h H1 e _ fun p H2 _ e2 h2 => ⟨p, bs, rfl, sq_of h2, q H2 e2⟩
/-- a comprehension over a tuple; over a tuple, a list of pairs -/
theorem el_tupN {a : Addr} {xs : List V} {tl : TE} {j : Nat} {vs : List Nat} (f : Nat → Bool) (v : Nat → V) (h : Ev tl σ H (.ref a)) (hx : SqT K H a xs) (hz : xs.length ≤ 40000) (hw : ∀ x, wipe ((wipe σ vs).set j (some x)) vs = wipe σ vs)
    (ht : ∀ (i : Nat) (x : V) H1, Ex H H1 → xs[i]? = some x → EvT t ((wipe σ vs).set j (some x)) H1 (f i))
    (he : ∀ (i : Nat) (x : V) H1, Ex H H1 → xs[i]? = some x → f i = true → Ev te ((wipe σ vs).set j (some x)) H1 (v i)) : EvL (tLc (iTup K tl) (gName j) t te vs) σ H (given xs.length f v) := by
  intro H0 e Q q
  refine h H0 e _ fun H1 e1 => ⟨a, rfl, ⟨xs, ex_t (e.trans e1) hx⟩, fun Dl hD => ?_⟩
  refine lc_tup (xs := xs) (Cw H1 f v Dl) ⟨hD, Ex.new hD, upd_same⟩ (fun i H' _ p => ex_t ((e.trans e1).trans p.2.1) hx) (fun i x H' hi p => ⟨hw x, ?_⟩) fun H' p => q Dl H' (fresh_back e1 p.1) (e1.trans p.2.1) p.2.2
  have hlt := (List.getElem?_eq_some_iff.mp hi).1
  exact cw_turn p (by omega) (ht i x H1 (e.trans e1) hi) fun hf => he i x H1 (e.trans e1) hi hf
theorem el_tup2 {a : Addr} {xs : List V} {tl : TE} {j k : Nat} {vs : List Nat} (A B : Nat → V) (f : Nat → Bool) (v : Nat → V) (h : Ev tl σ H (.ref a)) (hx : SqT K H a xs) (hz : xs.length ≤ 40000) (hw : ∀ x y, wipe (((wipe σ vs).set j (some x)).set k (some y)) vs = wipe σ vs)
    (hp : ∀ (i : Nat) (x : V), xs[i]? = some x → ∃ p, x = .ref p ∧ SqT K H p [A i, B i])
    (ht : ∀ (i : Nat) H1, Ex H H1 → i < xs.length → EvT t (((wipe σ vs).set j (some (A i))).set k (some (B i))) H1 (f i))
    (he : ∀ (i : Nat) H1, Ex H H1 → i < xs.length → f i = true → Ev te (((wipe σ vs).set j (some (A i))).set k (some (B i))) H1 (v i)) :
    EvL (tLc (iTup K tl) (gTup K 2 (gCons (gName j) (gCons (gName k) gNil))) t te vs) σ H (given xs.length f v) := by
  intro H0 e Q q
  refine h H0 e _ fun H1 e1 => ⟨a, rfl, ⟨xs, ex_t (e.trans e1) hx⟩, fun Dl hD => ?_⟩
  refine lc_tup (xs := xs) (Cw H1 f v Dl) ⟨hD, Ex.new hD, upd_same⟩ (fun i H' _ p => ex_t ((e.trans e1).trans p.2.1) hx) (fun i x H' hi p => ?_) fun H' p => q Dl H' (fresh_back e1 p.1) (e1.trans p.2.1) p.2.2
  have hlt := (List.getElem?_eq_some_iff.mp hi).1
  obtain ⟨r, rfl, hr⟩ := hp i x hi
  exact ⟨_, _, rfl, ex_t ((e.trans e1).trans p.2.1) hr, rfl, _, _, rfl, _, _, rfl, rfl, hw _ _, cw_turn p (by omega) (ht i H1 (e.trans e1) hlt) fun hf => he i H1 (e.trans e1) hlt hf⟩
theorem el_lst2 {a : Addr} {xs : List V} {tl : TE} {j k : Nat} {vs : List Nat} (A B : Nat → V) (f : Nat → Bool) (v : Nat → V) (h : Ev tl σ H (.ref a)) (hx : SqL K H a xs) (hz : xs.length ≤ 40000) (hw : ∀ x y, wipe (((wipe σ vs).set j (some x)).set k (some y)) vs = wipe σ vs)
    (hp : ∀ (i : Nat) (x : V), xs[i]? = some x → ∃ p, x = .ref p ∧ SqT K H p [A i, B i])
    (ht : ∀ (i : Nat) H1, Ex H H1 → i < xs.length → EvT t (((wipe σ vs).set j (some (A i))).set k (some (B i))) H1 (f i))
    (he : ∀ (i : Nat) H1, Ex H H1 → i < xs.length → f i = true → Ev te (((wipe σ vs).set j (some (A i))).set k (some (B i))) H1 (v i)) :
    EvL (tLc (iList K tl) (gTup K 2 (gCons (gName j) (gCons (gName k) gNil))) t te vs) σ H (given xs.length f v) := by
  intro H0 e Q q
  refine h H0 e _ fun H1 e1 => ⟨a, rfl, ⟨xs, ex_l (e.trans e1) hx⟩, fun Dl hD => ?_⟩
  refine lc_list (xs := xs) (Cw H1 f v Dl) ⟨hD, Ex.new hD, upd_same⟩ (fun i H' _ p => ex_l ((e.trans e1).trans p.2.1) hx) (fun i x H' hi p => ?_) fun H' p => q Dl H' (fresh_back e1 p.1) (e1.trans p.2.1) p.2.2
  have hlt := (List.getElem?_eq_some_iff.mp hi).1
  obtain ⟨r, rfl, hr⟩ := hp i x hi
  exact ⟨_, _, rfl, ex_t ((e.trans e1).trans p.2.1) hr, rfl, _, _, rfl, _, _, rfl, rfl, hw _ _, cw_turn p (by omega) (ht i H1 (e.trans e1) hlt) fun hf => he i H1 (e.trans e1) hlt hf⟩
theorem given_allL {α : Type} (xs : List α) (v : Nat → V) : given xs.length (fun _ => true) v = (List.range xs.length).map v := given_all _ _
end
/-! ### a constant of the top; an own error without arguments -/
section
variable {X : Cx}
theorem pe_globE {x : Str} {v : V} {pos : Pos} (hg : Gl X x) (h : ∃ u, X.mg x = some u ∧ RelV v u) (hd : (x == ("__debug__" : Str)) = false := by decide) : PE X (.Name x pos) (tC v) := by
  obtain ⟨u, h1, h2⟩ := h
  exact pe_glob hg h1 h2 hd
theorem pmk_own0 {C : Addr} {bmB : List Value} {B newId initId : String} {x : Str} {p pos : Pos} (F : ExcBaseFacts B newId initId bmB) (q : PySem.W.excIn X.K C bmB newId = true) (gC : X.mg x = some (.ref C))
    (kC : PySem.W.keepIn X.K (.ref C) = true) (r : Raises X (.ref C)) (hg : Gl X x) (hdb : (x == ("__debug__" : Str)) = false := by decide) : PMk X (.Call (.Name x p) [] [] pos) (fun _ H Q => Q (.ref C) none H) := by
  intro pins s σ H Q I h
  refine wpAny_Call_Name_kw (ld_glob I hg gC ?_ hdb)
  refine PySem.W.callWith_K0 I.kIn kC ?_
  obtain ⟨bm, N, nm, qn, bs, hdct, sn, sub, ab, col, dd, k0, k1, k2, k3, k5, mN, hC, hN, hni, T⟩ := exc_obj I.kIn q
  refine wpAny_call_exc_subT F T hC hN hni (fun h' e hm => ?_) (Nat.zero_le _)
  exact mk_of I hm r h (I.hok.gone hm.new)
end
/-- what the top says of an own error class without a method of its own -/
structure Err (K : PySem.W.Frag) (C : Addr) : Prop where
  ex : PySem.W.excIn K C [.type "ValueError", .type "Exception", .type "BaseException", .type "object"] "ValueError.__new__" = true
  kp : PySem.W.keepIn K (.ref C) = true
  be : PySem.W.subIn K (.ref C) (.type "BaseException") = some true
  ty : PySem.W.typeIn K (.ref C) = some (.type "type")
  is : PySem.W.isClsIn K C = true
  se : PySem.W.subIn K (.ref C) (.ref C) = some true
section
variable {X : Cx}
/-- raise C() -/
theorem ps_raise0 {W : WX} {C : Addr} {x : Str} {p pos pos2 : Pos} (hc : X.calm = true) (tk : Takes X W) (h : Err X.K C) (gC : X.mg x = some (.ref C)) (hg : Gl X x) (hdb : (x == ("__debug__" : Str)) = false := by decide) :
    PS X (.Raise (some (.Call (.Name x p) [] [] pos)) none pos2) (fun _ σ H => W (.ref C) none σ H) :=
  ps_raise hc tk (pmk_own0 PySem.F.excBase_ValueError h.ex gC h.kp (raises_own h.be h.ty) hg hdb)
end
/-! ### kinds that the program asks for -/
/-- a kind that is no integer's (a truth's is none) -/
def NotI (K : PySem.W.Frag) (t : Value) : Prop := ∃ b1 b2, PySem.W.kitOne K t (.type "int") = some b1 ∧ PySem.W.kitOne K t (.type "bool") = some b2 ∧ (b1 && !b2) = false
theorem notI_ty {K : PySem.W.Frag} {a : String} {b1 b2 : Bool} (h1 : kitB a "int" = some b1) (h2 : kitB a "bool" = some b2) (h : (b1 && !b2) = false) : NotI K (.type a) := ⟨b1, b2, kit_ty h1, kit_ty h2, h⟩
theorem notI_non {K : PySem.W.Frag} : NotI K (.type "NoneType") := notI_ty (b1 := false) (b2 := false) (by decide +kernel) (by decide +kernel) rfl
theorem notI_bl {K : PySem.W.Frag} : NotI K (.type "bool") := notI_ty (b1 := true) (b2 := true) (by decide +kernel) (by decide +kernel) rfl
theorem notI_str {K : PySem.W.Frag} : NotI K (.type "str") := notI_ty (b1 := false) (b2 := false) (by decide +kernel) (by decide +kernel) rfl
theorem notI_tup {K : PySem.W.Frag} : NotI K (.type "tuple") := notI_ty (b1 := false) (b2 := false) (by decide +kernel) (by decide +kernel) rfl
theorem kit_ii {K : PySem.W.Frag} : PySem.W.kitOne K (.type "int") (.type "int") = some true := kit_ty (by decide +kernel)
theorem kit_ib {K : PySem.W.Frag} : PySem.W.kitOne K (.type "int") (.type "bool") = some false := kit_ty (by decide +kernel)
theorem kit_tt {K : PySem.W.Frag} : PySem.W.kitOne K (.type "tuple") (.type "tuple") = some true := kit_ty (by decide +kernel)
/-- a value that is an integer z (some z) or none -/
inductive NumV (K : PySem.W.Frag) (H : Hp) : V → Option Int → Prop where
  | int (z : Int) : NumV K H (.int z) (some z)
  | odd {v : V} {t : Value} (h : TyX K H v t) (n : NotI K t) : NumV K H v none
theorem NumV.mono {K : PySem.W.Frag} {H H' : Hp} {v : V} {o : Option Int} (e : Ex H H') (h : NumV K H v o) : NumV K H' v o := by
  cases h with
  | int z => exact .int z
  | odd h n => exact .odd (ty_mono e h) n
def landB (w m : Int) : Bool := decide (2 ≤ w) && decide (w < m) && decide (Int.gcd m w = 1)
/-- a value, and whether it is a land -/
inductive LandV (K : PySem.W.Frag) (H : Hp) : V → Bool → Prop where
  | no {v : V} {t : Value} (h : TyX K H v t) (n : PySem.W.kitOne K t (.type "tuple") = some false) : LandV K H v false
  | len {a : Addr} {xs : List V} (h : SqT K H a xs) (n : xs.length ≠ 2) (z : xs.length ≤ 100) : LandV K H (.ref a) false
  | odd {a : Addr} {x y : V} {o p : Option Int} (h : SqT K H a [x, y]) (hx : NumV K H x o) (hy : NumV K H y p) (n : o = none ∨ p = none) : LandV K H (.ref a) false
  | two {a : Addr} {w m : Int} (h : SqT K H a [.int w, .int m]) (z1 : -4294967296 < w ∧ w < 4294967296) (z2 : -4294967296 < m ∧ m < 4294967296) : LandV K H (.ref a) (landB w m)
theorem LandV.mono {K : PySem.W.Frag} {H H' : Hp} {v : V} {b : Bool} (e : Ex H H') (h : LandV K H v b) : LandV K H' v b := by
  cases h with
  | no h n => exact .no (ty_mono e h) n
  | len h n z => exact .len (ex_t e h) n z
  | odd h hx hy n => exact .odd (ex_t e h) (hx.mono e) (hy.mono e) n
  | two h z1 z2 => exact .two (ex_t e h) z1 z2
section
variable {K : PySem.W.Frag} {σ : L2.St} {H H' : Hp} {ta tb tc te : TE} {x y z v : V} {r r' : R2} {t u : TT}
/-- isinstance(x, int) and not isinstance(x, bool) -/
theorem ev_isInt {o : Option Int} (h : ∀ H1, Ex H H1 → Ev ta σ H1 x) (hx : NumV K H x o) : Ev (tAndV (tCB (rIsi K) (tCons ta (tCons (tC (.ty "int")) tNil))) (tNotV (tCB (rIsi K) (tCons ta (tCons (tC (.ty "bool")) tNil))))) σ H (.bl o.isSome) := by
  cases hx with
  | int z => exact ev_is (ev_andV (ev_isi (h H (Ex.refl H)) (ty_int z) kit_ii) fun _ => ev_notV (ev_isi (h H (Ex.refl H)) (ty_int z) kit_ib)) rfl
  | odd hy n =>
    obtain ⟨b1, b2, h1, h2, h3⟩ := n
    exact ev_is (ev_andV (ev_isi (h H (Ex.refl H)) hy h1) fun _ => ev_notV (ev_isi (h H (Ex.refl H)) hy h2)) (by rw [h3]; rfl)
/-- .. and a third test -/
theorem ev_isInt3 {o : Option Int} {b : Bool} (h : Ev ta σ H x) (hx : NumV K H x o) (hb : ∀ z, o = some z → x = .int z → Ev tb σ H (.bl b)) (hn : o = none → b = false) :
    Ev (tAndV (tCB (rIsi K) (tCons ta (tCons (tC (.ty "int")) tNil))) (tAndV (tNotV (tCB (rIsi K) (tCons ta (tCons (tC (.ty "bool")) tNil)))) tb)) σ H (.bl b) := by
  cases hx with
  | int z => exact ev_is (ev_andV (ev_isi h (ty_int z) kit_ii) fun _ => ev_andV (ev_notV (ev_isi h (ty_int z) kit_ib)) fun _ => hb z rfl rfl) (by cases b <;> rfl)
  | odd hy n =>
    obtain ⟨b1, b2, h1, h2, h3⟩ := n
    rw [hn rfl]
    cases b1 with
    | false => exact ev_is (ev_andV (b := false) (ev_isi h hy h1) fun q => nomatch q) rfl
    | true =>
      have hb2 : b2 = true := by cases b2 <;> simp_all
      subst hb2
      exact ev_is (ev_andV (ev_isi h hy h1) fun _ => ev_andV (b := false) (ev_notV (ev_isi h hy h2)) fun q => nomatch q) rfl
theorem q_dropX {sp : Sp} {E : XK} {ta : TA} {tz : TS} {D : Ends} {vs : List V} (h : EvA ta σ H vs) (k : ∀ H1, Ex H H1 → sp vs H1 (fun _ H2 => tz D σ H2) E) : tSeq (tDrop (tCall sp [] E ta)) tz D σ H :=
  h H (Ex.refl H) _ fun H1 e => by
    rw [List.append_nil]
    exact k H1 e
end
/-! ### calendars -/
def calF (v : V) (n : Int) : List (Str × V) := putF "near" (.int n) (putF "rows" v [])
theorem rn_ne : ¬ (("rows" : Str) = "near") := by decide +kernel
theorem calF_rows (v : V) (n : Int) : (calF v n).lookup ("rows" : Str) = some v := by
  unfold calF
  rw [lookup_putF, if_neg rn_ne, lookup_putF, if_pos rfl]
theorem calF_near (v : V) (n : Int) : (calF v n).lookup ("near" : Str) = some (.int n) := by
  unfold calF
  rw [lookup_putF, if_pos rfl]
theorem calF_no (v : V) (n : Int) {m : Str} (h1 : ¬ m = "rows") (h2 : ¬ m = "near") : (calF v n).lookup m = none := by
  unfold calF
  rw [lookup_putF, if_neg h2, lookup_putF, if_neg h1]
  all_goals rfl
def rowsBys (rows : Rows) : Nat := (rows.map fun r => r.1.bys).sum
def reachOf (rows : Rows) : Nat := 3 + rowsBys rows + (rows.filter fun r => r.2).length
/-- at v a calendar -/
def CalAt (K : PySem.W.Frag) (CF CC : Addr) (H : Hp) (v : V) (rows : Rows) : Prop := ∃ c dx rv, v = .ref c ∧ H c = some (.ins CC dx (calF rv (reachOf rows))) ∧ RowsAt K CF H rv rows
theorem CalAt.mono {K : PySem.W.Frag} {CF CC : Addr} {H H' : Hp} {v : V} {rows : Rows} (e : Ex H H') (h : CalAt K CF CC H v rows) : CalAt K CF CC H' v rows := by
  obtain ⟨c, dx, rv, h0, h1, h2⟩ := h
  exact ⟨c, dx, rv, h0, e _ _ h1, h2.mono e⟩
end WF

set_option Elab.async false
set_option linter.all false
set_option maxRecDepth 100000
set_option maxHeartbeats 2000000
/-! WSize: the written tables ENDS, PAIRS, BYS; how a value's size comes -/
namespace WF
open PySem L2 Evl
structure EndsAt (w : World) (K : PySem.W.Frag) (d aW aM : Addr) : Prop where
  kd : ∃ es n, KDict K w d es n
  week : PySem.W.nsIn K d "weekday" = some (some (.ref aW))
  first : PySem.W.nsIn K d "first" = some (some (.ref aW))
  month : PySem.W.nsIn K d "monthday" = some (some (.ref aM))
  no : ∀ z ∈ (["behind", "both", "either", "without", "week"] : List Str), PySem.W.nsIn K d z = some none
  sW : ∀ H, SqT K H aW [.int (-2), .int (-1), .int 0, .int 1]
  sM : ∀ H, SqT K H aM [.int (-3), .int (-2), .int (-1), .int 0, .int 1, .int 2]
def isEnd (s : Str) : Prop := s = "weekday" ∨ s = "first" ∨ s = "monthday"
def isPair (s : Str) : Prop := s = "both" ∨ s = "either" ∨ s = "without"
def endOk (s : Str) (k : Int) : Bool := if s = "monthday" then decide (-3 ≤ k ∧ k ≤ 2) else decide (-2 ≤ k ∧ k ≤ 1)
def byOk (k : Int) : Bool := decide (k = -2 ∨ k = -1 ∨ k = 1 ∨ k = 2)
theorem EndsAt.in {w : World} {K : PySem.W.Frag} {d aW aM : Addr} (h : EndsAt w K d aW aM) {s : Str} (hs : isEnd s) : ∃ a, PySem.W.nsIn K d s = some (some (.ref a)) ∧ ∃ xs, (∀ H, SqT K H a xs) ∧ xs.all flatV = true ∧ ∀ k, inV (.int k) xs = endOk s k := by
  have w1 : ∀ k, inV (.int k) [.int (-2), .int (-1), .int 0, .int 1] = decide (-2 ≤ k ∧ k ≤ 1) := fun k => by
    rw [Bool.eq_iff_iff, decide_eq_true_iff]
    simp [inV, eqV]
    omega
  have m1 : ∀ k, inV (.int k) [.int (-3), .int (-2), .int (-1), .int 0, .int 1, .int 2] = decide (-3 ≤ k ∧ k ≤ 2) := fun k => by
    rw [Bool.eq_iff_iff, decide_eq_true_iff]
    simp [inV, eqV]
    omega
  rcases hs with rfl | rfl | rfl
  · exact ⟨aW, h.week, _, h.sW, rfl, fun k => by rw [w1, endOk, if_neg (by decide +kernel)]⟩
  · exact ⟨aW, h.first, _, h.sW, rfl, fun k => by rw [w1, endOk, if_neg (by decide +kernel)]⟩
  · exact ⟨aM, h.month, _, h.sM, rfl, fun k => by rw [m1, endOk, if_pos rfl]⟩
theorem EndsAt.kdct {w : World} {K : PySem.W.Frag} {d aW aM a : Addr} (h : EndsAt w K d aW aM) {s : Str} (e : PySem.W.nsIn K d s = some (some (.ref a))) : KDct K w d s (.ref a) := by
  obtain ⟨es, n, k⟩ := h.kd
  exact ⟨es, n, _, k.at_, k.lit, e, rfl⟩
def pairsV : List V := [.str "both", .str "either", .str "without"]
def bysV : List V := [.int (-2), .int (-1), .int 1, .int 2]
theorem inV_bys (k : Int) : inV (.int k) bysV = byOk k := by
  unfold byOk
  rw [Bool.eq_iff_iff, decide_eq_true_iff]
  simp [inV, eqV, bysV]
  omega
theorem inV_pairs (s : Str) : inV (.str s) pairsV = decide (s = "both" ∨ s = "either" ∨ s = "without") := by
  rw [Bool.eq_iff_iff, decide_eq_true_iff]
  simp [inV, eqV, pairsV]
  constructor
  · rintro (h | h | h) <;> simp [h]
  · rintro (h | h | h) <;> simp [h]
/-! ### x == () -/
def rEqE (K : PySem.W.Frag) : R2 := fun x y H Q => ∃ p q xs, x = .ref p ∧ y = .ref q ∧ SqT K H p xs ∧ SqT K H q [] ∧ Q (.bl xs.isEmpty) H
theorem op_eqE {X : Cx} (hu : X.A.units + 1 < cLine) : OpR X (compareOp .Eq) (rEqE X.K) := by
  intro pins s σ H x y v u Q I rx ry h
  obtain ⟨p, q, xs, rfl, rfl, h1, h2, hq⟩ := h
  cases rx
  cases ry
  obtain ⟨its, r, pl, hz⟩ := I.tuple h1
  obtain ⟨its2, r2, pl2, hz2⟩ := I.tuple h2
  have e2 : its2 = [] := by
    have := r2.length
    exact List.length_eq_zero_iff.mp (by simpa using this.symm)
  subst e2
  have hk : ((List.range (min its.toArray.size ([] : List Value).toArray.size)).all (fun _ => true) && its.toArray.size == ([] : List Value).toArray.size) = xs.isEmpty := by
    have := r.length
    cases xs with
    | nil =>
      have e : its = [] := List.length_eq_zero_iff.mp (by simpa using this.symm)
      subst e; rfl
    | cons a l =>
      cases its with
      | nil => simp at this
      | cons b l2 => simp
  refine SeqAt.RcAt.tuples (A := X.A) (e := fun _ => true) pl pl2 (by omega) (fun j h1 h2 => absurd h2 (by simp)) _ _ _ _ ?_
  rw [hk]
  exact ⟨.bl _, H, I, rfl, hq⟩
/-! ### the size of a value, of which no more than n parts are wanted -/
inductive SzAt (K : PySem.W.Frag) (H : Hp) : V → Nat → Option (Nat × Nat) → Prop where
  | zero {v : V} : SzAt K H v 0 none
  | kind {v : V} {t : Value} {n : Nat} (h : TyX K H v t) (k : PySem.W.kitOne K t (.type "tuple") = some false) : SzAt K H v (n + 1) none
  | empty {a : Addr} {n : Nat} (h : SqT K H a []) : SzAt K H (.ref a) (n + 1) none
  | head {a : Addr} {x : V} {xs : List V} {t : Value} {n : Nat} (h : SqT K H a (x :: xs)) (ht : TyX K H x t) (k : PySem.W.kitOne K t (.type "str") = some false) : SzAt K H (.ref a) (n + 1) none
  | leaf {a : Addr} {s : Str} {k : Int} {n : Nat} (hs : isEnd s) (h : SqT K H a [.str s, .int k]) (ok : endOk s k = true) : SzAt K H (.ref a) (n + 1) (some (1, 0))
  | leafLen {a : Addr} {s : Str} {xs : List V} {n : Nat} (hs : isEnd s) (h : SqT K H a (.str s :: xs)) (l : xs.length ≠ 1) : SzAt K H (.ref a) (n + 1) none
  | leafNum {a : Addr} {s : Str} {x : V} {o : Option Int} {n : Nat} (hs : isEnd s) (h : SqT K H a [.str s, x]) (hx : NumV K H x o) (no : ∀ z, o = some z → endOk s z = false) : SzAt K H (.ref a) (n + 1) none
  | word {a : Addr} {s : Str} {xs : List V} {n : Nat} (hs : s ∈ (["behind", "both", "either", "without", "week"] : List Str)) (h : SqT K H a (.str s :: xs)) (l : xs.length ≠ 2 ∨ s = "week") : SzAt K H (.ref a) (n + 1) none
  | byBad {a : Addr} {x b : V} {o : Option Int} {n : Nat} (h : SqT K H a [.str "behind", x, b]) (hb : NumV K H b o) (no : ∀ z, o = some z → byOk z = false) : SzAt K H (.ref a) (n + 1) none
  | behind {a : Addr} {x : V} {b : Int} {n : Nat} {o : Option (Nat × Nat)} (h : SqT K H a [.str "behind", x, .int b]) (ok : byOk b = true) (hx : SzAt K H x n o) : SzAt K H (.ref a) (n + 1) (o.map fun p => (1 + p.1, b.natAbs + p.2))
  | pairNo {a : Addr} {s : Str} {x y : V} {n : Nat} (hs : isPair s) (h : SqT K H a [.str s, x, y]) (hx : SzAt K H x n none) : SzAt K H (.ref a) (n + 1) none
  | pair {a : Addr} {s : Str} {x y : V} {n p q : Nat} {o : Option (Nat × Nat)} (hs : isPair s) (h : SqT K H a [.str s, x, y]) (hx : SzAt K H x n (some (p, q))) (hp : p ≤ n) (hy : SzAt K H y (n - p) o) : SzAt K H (.ref a) (n + 1) (o.map fun r => (1 + p + r.1, q + r.2))
theorem SzAt.mono {K : PySem.W.Frag} {H H' : Hp} {v : V} {n : Nat} {o : Option (Nat × Nat)} (e : Ex H H') (h : SzAt K H v n o) : SzAt K H' v n o := by
  induction h with
  | zero => exact .zero
  | kind h k => exact .kind (ty_mono e h) k
  | empty h => exact .empty (ex_t e h)
  | head h ht k => exact .head (ex_t e h) (ty_mono e ht) k
  | leaf hs h ok => exact .leaf hs (ex_t e h) ok
  | leafLen hs h l => exact .leafLen hs (ex_t e h) l
  | leafNum hs h hx no => exact .leafNum hs (ex_t e h) (hx.mono e) no
  | word hs h l => exact .word hs (ex_t e h) l
  | byBad h hb no => exact .byBad (ex_t e h) (hb.mono e) no
  | behind h ok _ i => exact .behind (ex_t e h) ok i
  | pairNo hs h _ i => exact .pairNo hs (ex_t e h) i
  | pair hs h _ hp _ i j => exact .pair hs (ex_t e h) i hp j
def szOf (r : Rl) (n : Nat) : Option (Nat × Nat) := if r.parts ≤ n then some (r.parts, r.bys) else none
theorem parts_pos : ∀ r : Rl, 1 ≤ r.parts
  | .wk _ | .fs _ | .md _ => Nat.le_refl _
  | .bh r _ => by simp only [Rl.parts]; omega
  | .bo x y | .ei x y | .wo x y => by simp only [Rl.parts]; omega
theorem szOf_pair {K : PySem.W.Frag} {H : Hp} {a : Addr} {s : Str} {u v : V} {x y r : Rl} (hp : r.parts = 1 + x.parts + y.parts) (hb : r.bys = x.bys + y.bys) (hs : isPair s) (h : SqT K H a [.str s, u, v])
    (hx : ∀ n, SzAt K H u n (szOf x n)) (hy : ∀ n, SzAt K H v n (szOf y n)) : ∀ n, SzAt K H (.ref a) n (szOf r n)
  | 0 => by
    have := parts_pos x
    unfold szOf
    rw [if_neg (by omega)]
    exact .zero
  | n + 1 => by
    by_cases h1 : x.parts ≤ n
    · have e := SzAt.pair (o := szOf y (n - x.parts)) hs h (by have := hx n; rw [szOf, if_pos h1] at this; exact this) h1 (hy _)
      have e2 : (szOf y (n - x.parts)).map (fun r => (1 + x.parts + r.1, x.bys + r.2)) = szOf r (n + 1) := by
        unfold szOf
        by_cases h2 : y.parts ≤ n - x.parts
        · rw [if_pos h2, if_pos (by omega), hp, hb]; rfl
        · rw [if_neg h2, if_neg (by omega)]; rfl
      rw [← e2]
      exact e
    · unfold szOf
      rw [if_neg (by omega)]
      exact .pairNo hs h (by have := hx n; rw [szOf, if_neg h1] at this; exact this)
/-- a rule of which all numbers may stand -/
theorem sz_of {K : PySem.W.Frag} {H : Hp} {v : V} {r : Rl} (h : RlAt K H v r) (hf : r.fit = true) : ∀ n, SzAt K H v n (szOf r n) := by
  have leaf : ∀ {a : Addr} {s : Str} {k : Int} {r : Rl}, r.parts = 1 → r.bys = 0 → isEnd s → SqT K H a [.str s, .int k] → endOk s k = true → ∀ n, SzAt K H (.ref a) n (szOf r n) := by
    intro a s k r h1 h2 hs hT ok n
    cases n with
    | zero => rw [szOf, if_neg (by omega)]; exact .zero
    | succ n => rw [szOf, if_pos (by omega), h1, h2]; exact .leaf hs hT ok
  induction h with
  | wk h => exact leaf rfl rfl (.inl rfl) h (by rw [endOk, if_neg (by decide +kernel)]; exact hf)
  | fs h => exact leaf rfl rfl (.inr (.inl rfl)) h (by rw [endOk, if_neg (by decide +kernel)]; exact hf)
  | md h => exact leaf rfl rfl (.inr (.inr rfl)) h (by rw [endOk, if_pos rfl]; exact hf)
  | bh h _ i =>
    rename_i p u r b _
    simp only [Rl.fit, Bool.and_eq_true] at hf
    intro n
    cases n with
    | zero => rw [szOf, if_neg (by have := parts_pos (.bh r b); omega)]; exact .zero
    | succ n =>
      have e := SzAt.behind h hf.1 (i hf.2 n)
      have e2 : (szOf r n).map (fun p => (1 + p.1, b.natAbs + p.2)) = szOf (.bh r b) (n + 1) := by
        have hp : (Rl.bh r b).parts = 1 + r.parts := rfl
        unfold szOf
        by_cases h2 : r.parts ≤ n
        · rw [if_pos h2, if_pos (show (Rl.bh r b).parts ≤ n + 1 by omega)]; rfl
        · rw [if_neg h2, if_neg (show ¬ (Rl.bh r b).parts ≤ n + 1 by omega)]; rfl
      rw [← e2]
      exact e
  | bo h _ _ i j =>
    simp only [Rl.fit, Bool.and_eq_true] at hf
    exact szOf_pair rfl rfl (.inl rfl) h (i hf.1) (j hf.2)
  | ei h _ _ i j =>
    simp only [Rl.fit, Bool.and_eq_true] at hf
    exact szOf_pair rfl rfl (.inr (.inl rfl)) h (i hf.1) (j hf.2)
  | wo h _ _ i j =>
    simp only [Rl.fit, Bool.and_eq_true] at hf
    exact szOf_pair rfl rfl (.inr (.inr rfl)) h (i hf.1) (j hf.2)
/-- what a size comes back as -/
def RetO (o : Option (Nat × Nat)) (H : Hp) (Q : VK) : Prop := (o = none → RetV .non H Q) ∧ ∀ p q, o = some (p, q) → ∀ t H2, H t = none → Ex H H2 → H2 t = some (.tup [.int (p : Int), .int (q : Int)]) → Q (.ref t) H2
theorem at0 {x : V} {xs : List V} : atI (x :: xs) 0 = some x := atI_nat (j := 0) rfl
theorem RetO.back {o : Option (Nat × Nat)} {H H' : Hp} {Q : VK} (k : RetO o H Q) (e : Ex H H') : RetO o H' Q :=
  ⟨fun h H2 e2 => k.1 h H2 (e.trans e2), fun p q h t H2 ht e2 h2 => k.2 p q h t H2 (fresh_back e ht) (e.trans e2) h2⟩
end WF

set_option Elab.async false
set_option linter.all false
set_option maxRecDepth 100000
set_option maxHeartbeats 2000000
/-! WEnum: for i, x in enumerate(t), t a tuple -/
namespace WF
open PySem L2 Evl
section
open PySem.Calls PyProof.Rows
open AutoSeq1 (wpAny_loadPart')
theorem new_enumT (t : Addr) (its : Array Value) :
    Meets (Builtin.«enumerate.__new__» ⟨[.type "enumerate", .ref t], []⟩) (fun _ R s => s.heap.IsTuple t its ∧
      R (.ok (.ret (.ref (s.heap.push { cls := .type "tuple_iterator", data := .fields #[.ref t, .int 0 0] }).objs.size)))
        { s with heap := (s.heap.push { cls := .type "tuple_iterator", data := .fields #[.ref t, .int 0 0] }).push { cls := .type "enumerate", data := .fields #[.none, .bool false, .ref s.heap.objs.size, rawInt 0, .none, .none] } }) :=
  .of_wp fun prog w A R s hh => by
    obtain ⟨hp, gg, dd, tk, os⟩ := s
    obtain ⟨hT, hq⟩ := hh
    have hsub := sub_enumerate
    have it0 : ∀ {A' : Around} {E : Value → Shared → Prop} {Q : Value → Shared → Prop}, Q (.ref hp.objs.size) ⟨hp.push { cls := .type "tuple_iterator", data := .fields #[.ref t, .int 0 0] }, gg, dd, tk, os⟩ → wpAny (model prog w) A' (pyIter (.ref t)) Q E ⟨hp, gg, dd, tk, os⟩ :=
      fun q => wpAny_pyIter_tuple hT q
    wp_walk using it0
    refine wpAny_stack_any fun st => wpAny_pure ?_
    split
    · rename_i c _ _ _ _ _
      cases (c == Value.type "enumerate")
      · wp_walk using it0
        exact ⟨_, rfl, hq⟩
      · wp_walk using it0
        exact ⟨_, rfl, hq⟩
    · wp_walk using it0
      exact ⟨_, rfl, hq⟩
section
variable {prog : Program} {w : World} {A : Around} {E : Value → Shared → Prop} {s : Shared}
theorem call_enumT {t : Addr} {its : Array Value} {Q : Value → Shared → Prop} (hT : s.heap.IsTuple t its)
    (h : ∀ h', IsEnum h' (s.heap.objs.size + 1) s.heap.objs.size 0 .none → h'.IsTupleIter s.heap.objs.size t 0 → (∀ b o, s.heap.get? b = some o → h'.get? b = some o) → Q (.ref (s.heap.objs.size + 1)) { s with heap := h' }) :
    wpAny (model prog w) A (call (.type "enumerate") [.ref t]) Q E s := by
  refine callType_new F.called_enumerate (by decide) (F.typeCall_enumerate_1 _) (F.newCall_enumerate_1 _) (fun ob => F.args_object_init_2 ob _) F.entry_enumerate_new (new_enumT t its) ⟨hT, ?_⟩
  have hz : (s.heap.push { cls := .type "tuple_iterator", data := .fields #[.ref t, .int 0 0] }).objs.size = s.heap.objs.size + 1 := Heap.size_push ..
  show _ ∧ _
  rw [hz]
  have he : IsEnum ((s.heap.push { cls := .type "tuple_iterator", data := .fields #[.ref t, .int 0 0] }).push { cls := .type "enumerate", data := .fields #[.none, .bool false, .ref s.heap.objs.size, rawInt 0, .none, .none] }) (s.heap.objs.size + 1) s.heap.objs.size 0 .none := by
    have z := Heap.get?_push_size (s.heap.push { cls := .type "tuple_iterator", data := .fields #[.ref t, .int 0 0] }) (o := { cls := .type "enumerate", data := .fields #[.none, .bool false, .ref s.heap.objs.size, rawInt 0, .none, .none] }) rfl
    rw [hz] at z
    exact z
  exact ⟨⟨_, he, rfl⟩, h _ he ⟨_, Heap.get?_push_of_some _ (Heap.get?_push_size _ rfl), rfl, rfl⟩ fun b o x => Heap.get?_push_of_some _ (Heap.get?_push_of_some _ x)⟩
end
/-- the tuple at a as it stands at each turn, each item in a new pair -/
def Itet (K : PySem.W.Frag) (a : Addr) : It :=
  ⟨fun i H => ∃ (xs : List V) (x : V), SqT K H a xs ∧ xs[i]? = some x, fun i H v H' => ∃ T x, v = .ref T ∧ H T = none ∧ H' = upd H T (.tup [.int (i : Nat), x]) ∧ ∀ xs, SqT K H a xs → xs[i]? = some x, fun i H => ∃ xs : List V, SqT K H a xs ∧ xs.length ≤ i⟩
theorem turn_enumT {P : Program} {w : World} {K : PySem.W.Frag} {elts : List Expr} {kk : Nat} {tpos : Pos} (a e it : Addr) :
    Turn P w K (.Tuple elts kk tpos) (Itet K a) [e, it] e (fun i h => (∃ old, IsEnum h e it ((i : Nat) : Int) old) ∧ h.IsTupleIter it a i ∧ e ≠ it ∧ a ≠ it ∧ e ≠ a) where
  mem := by simp
  obj := fun i h st b hb => by
    obtain ⟨⟨old, he⟩, ⟨o, ho, hc, hd⟩, _⟩ := st
    rcases (show b = e ∨ b = it by simpa using hb) with rfl | rfl
    · exact ⟨_, he, fun v q => nomatch q⟩
    · exact ⟨o, ho, fun v q => by rw [hd] at q; cases q⟩
  keep := fun i h h' st k => by
    obtain ⟨⟨old, he⟩, ⟨o, ho, hc, hd⟩, hne⟩ := st
    exact ⟨⟨old, k e (by simp) _ he⟩, ⟨o, k it (by simp) _ ho, hc, hd⟩, hne⟩
  item := by
    intro X hP hw hK hc i pins s σ H E I hf st hg
    subst hP hw hK
    obtain ⟨⟨old, he⟩, hit, hne, hai, hea⟩ := st
    obtain ⟨xs, x, hq, hx⟩ := hg
    obtain ⟨its, rv, p, hz⟩ := I.tuple hq
    obtain ⟨u, hu, ru⟩ := rv.get hx
    have hlt : i < its.toArray.size := by
      have := (List.getElem?_eq_some_iff.mp hu).1
      simpa using this
    have hel : e < s.heap.objs.size := Heap.lt_size he
    have hil : it < s.heap.objs.size := by obtain ⟨_, q, _⟩ := hit; exact Heap.lt_size q
    refine wpAny_pyNext_enum_itemC (Draws.tuple (prog := X.prog) (w := X.w) (A := X.A.in1) (I.ok.hd hc) it a hai its.toArray) he ⟨hit, p⟩ hlt hne (by simp [hne, hea]) fun y h' tk hy ho hst' hT hsz hk => ?_
    have hyu : y = u := by
      rw [List.getElem?_toArray, hu] at hy
      exact (Option.some.inj hy).symm
    subst hyu
    refine ⟨_, rfl, wpAny_letOwnedTupleGo_enum (s := { s with heap := h', toks := tk + 1 }) ho fun h'' he' sb => ?_⟩
    have hT2 : h''.get? s.heap.objs.size = some { cls := .type "tuple", data := .seq #[.int i tk, y] } := (sb.2 _ (Nat.ne_of_gt hel)).trans hT
    have new : ObjOk X.prog X.w (upd H s.heap.objs.size (.tup [.int (i : Nat), x])) h'' s.heap.objs.size (.tup [.int (i : Nat), x]) :=
      ⟨by show 2 ≤ sizeLine; decide, [.int i tk, y], .cons ⟨_, rfl⟩ (.cons ru .nil), ⟨_, hT2, rfl, _, rfl⟩⟩
    have I1 : Inv X pins σ (upd H s.heap.objs.size (.tup [.int (i : Nat), x])) { s with heap := h'', toks := tk + 1 } :=
      I.turnedNew (ch := [e, it]) (fun b ob hb q => (sb.2 b (fun z => hb (by simp [z]))).trans (hk b ob (fun z => hb (by simp [z])) (fun z => hb (by simp [z])) q)) hf (Nat.le_refl _) new
    obtain ⟨oi, hoi, hci, hdi⟩ := hst'.1
    refine ⟨.ref s.heap.objs.size, _, I1, rfl, ⟨_, x, rfl, I.hok.fresh (Nat.le_refl _), rfl, fun ys hy => by rw [I.tuple_inj hy hq]; exact hx⟩, ⟨⟨y, ?_⟩, ⟨oi, (sb.2 it (Ne.symm hne)).trans hoi, hci, hdi⟩, hne, hai, hea⟩, fun b hb => ?_⟩
    · have e1 : ((i + 1 : Nat) : Int) = (i : Int) + 1 := by omega
      rw [e1]
      exact he'
    · have hb' : b < s.heap.objs.size := by
        rcases (show b = e ∨ b = it by simpa using hb) with rfl | rfl
        · exact hel
        · exact hil
      rw [upd_ne (Nat.ne_of_lt hb')]
      exact (hf b hb).1
  done := by
    intro X hP hw hK hc i pins s σ H E I hf st hg
    subst hP hw hK
    obtain ⟨⟨old, he⟩, hit, hne, hai, hea⟩ := st
    obtain ⟨xs, hq, hx⟩ := hg
    obtain ⟨its, rv, p, hz⟩ := I.tuple hq
    obtain ⟨f0, f1, f2, f3, f4, f5⟩ := hf it (by simp)
    have hl := rv.length
    obtain ⟨oi, hoi, hci, hdi⟩ := id hit
    have D0 := Draws.tuple (prog := X.prog) (w := X.w) (A := X.A.in1) (I.ok.hd hc) it a hai its.toArray
    have D : Draws X.prog X.w X.A.in1 it [it, a] i (fun j v => True) (fun j h => j = i ∧ h.IsTupleIter it a j ∧ h.IsTuple a its.toArray) :=
      ⟨fun j h st' => D0.live j h st'.2, fun j h h' st' k => ⟨st'.1, D0.frame j h h' st'.2 k⟩, fun j s' Q E' hj st' hQ => absurd st'.1 (Nat.ne_of_lt hj),
        fun s' Q E' st' hE => wpAny_nextOf_tuple_end (I.ok.hd hc) st'.2.1 st'.2.2 (by simp; omega) hE⟩
    exact wpAny_pyNext_enum_endD D he ⟨rfl, hit, p⟩ fun h' eb => ⟨rfl, I.turned (t' := s.toks) (fun b o hb q => eb b o hb q) f0 f1 f3 f4 f5⟩
  self := fun A i s Q E st h => let ⟨⟨_, he⟩, _⟩ := st; wpAny_pyIter_enum he h
def iEnumT (K : PySem.W.Frag) (ta : TA) : TI := fun σ H R => ta σ H fun vs H1 => ∃ a xs, vs = [.ref a] ∧ SqT K H1 a xs ∧ R (Itet K a) H1
theorem pi_enumT {X : Cx} {e : Expr} {ta : TA} {p pos tpos : Pos} {elts : List Expr} {kk : Nat} (hg : Gl X "enumerate") (hm : X.mg "enumerate" = none) (ha : PA X [e] ta) (hs : starEach [e] X.env = [(false, eval e X.env)] := by rfl) :
    PI X (.Tuple elts kk tpos) (.Call (.Name "enumerate" p) [e] [] pos) (iEnumT X.K ta) := by
  refine ⟨fun pins s σ H R I hh => ?_⟩
  refine Call_ (ld_blt I hg hm boot_enumerate (callWith_type1 (thn (ha.run pos pins s σ H _ I hh) fun us s1 ⟨vs, H1, I1, r1, q1⟩ => ?_) hs rfl))
  obtain ⟨a, xs, ex, hq, q⟩ := q1
  subst ex
  cases r1 with
  | cons r rr =>
    cases rr
    cases r
    obtain ⟨its, rv, pT, hz⟩ := I1.tuple hq
    have hal : a < s1.heap.objs.size := by
      obtain ⟨oT, hoT, _⟩ := pT
      exact Heap.lt_size hoT
    refine call_enumT pT fun h' he hit hk => wpAny_pyIter_enum he ?_
    have I2 : Inv X pins σ H1 { s1 with heap := h' } := I1.kept (t' := s1.toks) hk
    refine ⟨s1.heap.objs.size + 1, [s1.heap.objs.size + 1, s1.heap.objs.size], _, _, H1, rfl, I2, turn_enumT a (s1.heap.objs.size + 1) s1.heap.objs.size, ⟨⟨.none, he⟩, hit, Nat.succ_ne_self _, Nat.ne_of_lt hal, Nat.ne_of_gt (Nat.lt_succ_of_lt hal)⟩, fun b hb => ?_, q⟩
    have hle : s1.heap.objs.size ≤ b := by
      rcases (show b = s1.heap.objs.size + 1 ∨ b = s1.heap.objs.size by simpa using hb) with z | z
      · rw [z]; exact Nat.le_add_right _ _
      · rw [z]; exact Nat.le_refl _
    exact I1.fpOk hle (I1.hok.fresh hle)
theorem walk_enumT {K : PySem.W.Frag} {a : Addr} {xs : List V} : Walk (Itet K a) xs.length (fun H => SqT K H a xs) (YPair (fun i => some (.int (i : Nat))) (fun i => xs[i]?)) := by
  refine ⟨fun i _ hi q => ⟨xs, xs[i], q, by simp [hi]⟩, fun _ q => ⟨xs, q, Nat.le_refl _⟩, fun i H v H' _ q y => ?_⟩
  obtain ⟨T, x, y1, y2, y3, y4⟩ := y
  exact ⟨T, .int (i : Nat), x, y1, y2, y3, rfl, y4 xs q⟩
/-- for i, x in enumerate(t): Pv by the turn, the slots and the heap -/
theorem q_forEnT {K : PySem.W.Frag} {σ : L2.St} {H : Hp} {a : Addr} {xs : List V} {ta : TE} {j k : Nat} {tu tz : TS} {D : Ends} (h : Ev ta σ H (.ref a)) (hx : SqT K H a xs) (Pv : Nat → L2.St → Hp → Prop) (h0 : ∀ H1, Ex H H1 → Pv 0 σ H1)
    (hl : ∀ i σ' H', i ≤ xs.length → Pv i σ' H' → SqT K H' a xs)
    (hs : ∀ i x σ' H' H2, xs[i]? = some x → Pv i σ' H' → Ex H' H2 → tu { D with nx := Pv (i + 1), ct := Pv (i + 1), bk := tz D } ((σ'.set j (some (.int ((i : Nat) : Int)))).set k (some x)) H2)
    (hd : ∀ σ' H', Pv xs.length σ' H' → tz D σ' H') : tSeq (tFor (iEnumT K (tCons ta tNil)) (gTup K 2 (gCons (gName j) (gCons (gName k) gNil))) tu) tz D σ H := by
  refine h H (Ex.refl H) _ fun H1 e1 => ⟨a, xs, rfl, ex_t e1 hx, ?_⟩
  refine for_it (D := { D with nx := tz D }) walk_enumT Pv (h0 H1 e1) hl (fun i x σ' H' H2 hi p y => ?_) hd
  obtain ⟨T, u, v, rfl, hT, rfl, hu, hv⟩ := y
  cases hu
  exact ⟨T, _, rfl, st_of upd_same, rfl, _, _, rfl, _, _, rfl, rfl, hs i v σ' H' _ hv p (Ex.new hT)⟩
end
end WF

set_option Elab.async false
set_option linter.all false
set_option maxRecDepth 100000
set_option maxHeartbeats 2000000
/-! WObj: objects made and changed -/
namespace WF
open PySem L2 Evl
structure Cls1 (K : PySem.W.Frag) (C : Addr) (fs : List Str) : Prop where
  cl : Cls K C
  no : ∀ x ∈ fs, NoAttr K C x
/-- all but p is kept -/
def ExB (p : Addr) (H H' : Hp) : Prop := ∀ b o, b ≠ p → H b = some o → H' b = some o
theorem ExB.of {p : Addr} {H H' : Hp} (e : Ex H H') : ExB p H H' := fun b o _ h => e b o h
theorem ExB.step {p : Addr} {H H1 H2 : Hp} (a : ExB p H H1) (e : Ex H1 H2) : ExB p H H2 := fun b o h q => e b o (a b o h q)
theorem ExB.upd {p : Addr} {H H' : Hp} {o : HO} (a : ExB p H H') : ExB p H (upd H' p o) := fun b u h q => by
  rw [upd_ne h]
  exact a b u h q
theorem ExB.trans {p : Addr} {H H1 H2 : Hp} (a : ExB p H H1) (b : ExB p H1 H2) : ExB p H H2 := fun c o h q => b c o h (a c o h q)
/-- what stood ahead of p stands -/
theorem ExB.old {p : Addr} {H0 H H' : Hp} (a : ExB p H H') (e : Ex H0 H) (h : H0 p = none) : Ex H0 H' := fun b o q => a b o (ne_of_none q h) (e b o q)
structure MkAt (K : PySem.W.Frag) (C : Addr) (qual : Str) (st : Stmt) (ps : List Str) : Prop where
  ex : ∃ (f : Addr) (fd : FuncData), Mk K C f ∧ Fun K "__init__" qual st f fd ∧ Binds K fd ps []
structure MtAt (K : PySem.W.Frag) (C : Addr) (m qual : Str) (st : Stmt) (ps : List Str) : Prop where
  ex : ∃ (f : Addr) (fd : FuncData), Meth K C m f ∧ Fun K m qual st f fd ∧ Binds K fd ps []
structure Mn (P : Program) (w : World) (K : PySem.W.Frag) (mg : Str → Option Value) (base : Heap) (CX : CXT) (C : Addr) (k : Nat) (ps : List Str) (sp : Sp) : Prop where
  ex : ∃ (f : Addr) (fd : FuncData), Mk K C f ∧ FnOk P w K mg base CX k f fd ps sp ∧ Binds K fd ps []
structure Mtn (P : Program) (w : World) (K : PySem.W.Frag) (mg : Str → Option Value) (base : Heap) (CX : CXT) (C : Addr) (m : Str) (k : Nat) (ps : List Str) (sp : Sp) : Prop where
  ex : ∃ (f : Addr) (fd : FuncData), Meth K C m f ∧ PySem.W.keepIn K (.ref f) = true ∧ FnOk P w K mg base CX k f fd ps sp ∧ Binds K fd ps []
section
variable {P : Program} {w : World} {K : PySem.W.Frag} {mg : Str → Option Value} {base : Heap} {CX : CXT} {C : Addr} {m qual : Str} {k : Nat} {ps : List Str} {sp : Sp} {st : Stmt}
theorem MkAt.mn (F : MkAt K C qual st ps) (h : ∀ f fd, Fun K "__init__" qual st f fd → FnOk P w K mg base CX k f fd ps sp) : Mn P w K mg base CX C k ps sp := by
  obtain ⟨f, fd, h1, h2, h3⟩ := F.ex
  exact ⟨f, fd, h1, h f fd h2, h3⟩
theorem MtAt.mtn (F : MtAt K C m qual st ps) (h : ∀ f fd, Fun K m qual st f fd → FnOk P w K mg base CX k f fd ps sp) : Mtn P w K mg base CX C m k ps sp := by
  obtain ⟨f, fd, h1, h2, h3⟩ := F.ex
  exact ⟨f, fd, h1, h2.kp, h f fd h2, h3⟩
end
section
variable {X : Cx} {CX : CXT} {x m : Str} {C : Addr} {k : Nat} {ps : List Str} {sp : Sp} {E : XK} {e o : Expr} {es : List Expr} {p pos apos : Pos} {t : TA} {ta : TE}
theorem pe_mk (M : Mn X.prog X.w X.K X.mg X.base CX C k ps sp) (hr : Room (k + 1) X.A) (gC : X.mg x = some (.ref C)) (hx : Passes CX X E) (hg : Gl X x) (ha : PA X (e :: es) t) (hdb : (x == ("__debug__" : Str)) = false := by decide)
    (he : starEach (e :: es) X.env = (false, eval e X.env) :: starEach es X.env := by rfl) (hpl : (backTo pos (starEach es X.env)).any (·.1) = false := by rfl) : PE X (.Call (.Name x p) (e :: es) [] pos) (tMake C sp [] E t) := by
  obtain ⟨f, fd, h1, h2, h3⟩ := M.ex
  exact pe_make h1 h2 hr hg gC h3 .nil hx ha hdb he hpl
end
/-- te gives a new object of which R tells -/
def EvR (te : TE) (σ : L2.St) (H : Hp) (R : Addr → Hp → Prop) : Prop := ∀ H1, Ex H H1 → ∀ Q : VK, (∀ p H2, H1 p = none → Ex H1 H2 → R p H2 → Q (.ref p) H2) → te σ H1 Q
section
variable {K : PySem.W.Frag} {σ : L2.St} {H H' : Hp} {ta tb tc te tv : TE} {x y z v : V} {r r' : R2} {t u : TT} {D : Ends} {tz : TS}
theorem s_fld {a C dx : Addr} {fs : List (Str × V)} {f : Str} (hv : Ev tv σ H y) (h : Ev ta σ H (.ref a)) (ho : H a = some (.ins C dx fs)) (hc : Cls K C) (hn : NoAttr K C f) (hz : fs.length < 1000)
    (k : ∀ H1, Ex H H1 → D.nx σ (upd H1 a (.ins C dx (putF f y fs)))) : sFld K ta tv f D σ H :=
  hv H (Ex.refl H) _ fun H1 e1 => h H1 e1 _ fun H2 e2 => ⟨a, C, dx, fs, rfl, e2 _ _ (e1 _ _ ho), hc, hn, hz, k H2 (e1.trans e2)⟩
theorem q_fld {a C dx : Addr} {fs : List (Str × V)} {f : Str} (hv : Ev tv σ H y) (h : Ev ta σ H (.ref a)) (ho : H a = some (.ins C dx fs)) (hc : Cls K C) (hn : NoAttr K C f) (hz : fs.length < 1000)
    (k : ∀ H1, Ex H H1 → tz D σ (upd H1 a (.ins C dx (putF f y fs)))) : tSeq (sFld K ta tv f) tz D σ H := s_fld (D := { D with nx := tz D }) hv h ho hc hn hz k
/-- a new instance by __init__: R tells of the made one -/
theorem er_make {C : Addr} {sp : Sp} {E : XK} {ta : TA} {vs : List V} {R : Addr → Hp → Prop} (h : EvA ta σ H vs)
    (hs : ∀ H1, Ex H H1 → ∀ x dx, H1 x = none → H1 dx = none → dx ≠ x → ∀ Q : VK, (∀ H2, Ex H1 H2 → R x H2 → Q .non H2) → sp (.ref x :: vs) (upd (upd H1 dx (.own x)) x (.ins C dx [])) Q E) : EvR (tMake C sp [] E ta) σ H R :=
  fun H1 e Q q => h H1 e _ fun H2 e2 x dx hx hdx hne => by
    rw [List.append_nil]
    exact hs H2 (e.trans e2) x dx hx hdx hne _ fun H3 e3 hR => ⟨rfl, q x H3 (fresh_back e2 hx) (e2.trans e3) hR⟩
theorem ex_made {H1 : Hp} {x dx C : Addr} (hx : H1 x = none) (hdx : H1 dx = none) : Ex H1 (upd (upd H1 dx (.own x)) x (.ins C dx [])) := fun b o h => by
  rw [upd_ne (ne_of_none h hx), upd_ne (ne_of_none h hdx)]
  exact h
theorem s_asgR {i : Nat} {R : Addr → Hp → Prop} (h : EvR te σ H R) (k : ∀ p H1, H p = none → Ex H H1 → R p H1 → D.nx (σ.set i (some (.ref p))) H1) : tAsg te (gName i) D σ H := h H (Ex.refl H) _ fun p H1 hp e h1 => k p H1 hp e h1
theorem q_asgR {i : Nat} {R : Addr → Hp → Prop} (h : EvR te σ H R) (k : ∀ p H1, H p = none → Ex H H1 → R p H1 → tz D (σ.set i (some (.ref p))) H1) : tSeq (tAsg te (gName i)) tz D σ H := s_asgR (D := { D with nx := tz D }) h k
theorem s_retR {R : Addr → Hp → Prop} (h : EvR te σ H R) (k : ∀ p H1, H p = none → Ex H H1 → R p H1 → D.rt (.ref p) H1) : tRet te D σ H := h H (Ex.refl H) _ fun p H1 hp e h1 => k p H1 hp e h1
theorem el_R {xs : List V} (h : EvL te σ H xs) : EvR te σ H fun p H2 => H2 p = some (.lst xs) := h
theorem eu_R {xs : List V} (h : EvU te σ H xs) : EvR te σ H fun p H2 => H2 p = some (.tup xs) := h
end
/-- what the top says of an own class, further: for isinstance -/
structure ClsI (K : PySem.W.Frag) (C : Addr) : Prop where
  cl : Cls K C
  ha : PySem.W.findIn K (.ref C) "__class__" = some (some (.builtin "object.__class__"))
  hn : PySem.W.specialIn K (.builtin "object.__class__") "__get__" = some (some (.builtin "getset_descriptor.__get__"))
  htk : PySem.W.takesIn K (.builtin "object.__class__") = some true
  hm : PySem.W.mroIn K C (.type "object") = some true
theorem ClsI.ty {K : PySem.W.Frag} {C a dx : Addr} {H : Hp} {fs : List (Str × V)} (h : ClsI K C) (ho : H a = some (.ins C dx fs)) : TyX K H (.ref a) (.ref C) := .base (.ins ho h.cl h.ha h.hn h.htk h.hm)
theorem kit_self {K : PySem.W.Frag} {C : Addr} : PySem.W.kitOne K (.ref C) (.ref C) = some true := by
  unfold PySem.W.kitOne
  rw [if_pos (by simp)]
/-! a store to an instance: tuples, and what is told by them, stand -/
section
variable {K : PySem.W.Frag} {H : Hp} {p C dx : Addr} {fs fs' : List (Str × V)}
theorem sqt_upd {a : Addr} {xs : List V} (hp : H p = some (.ins C dx fs)) (h : SqT K H a xs) : SqT K (upd H p (.ins C dx fs')) a xs := by
  rcases h with (h | ⟨o, h⟩) | h
  · refine .inl (.inl ?_)
    rw [upd_ne (ne_of h hp (by intro q; cases q))]
    exact h
  · refine .inl (.inr ⟨o, ?_⟩)
    rw [upd_ne (ne_of h hp (by intro q; cases q))]
    exact h
  · exact .inr h
theorem ty_upd {x : V} {t : Value} (hp : H p = some (.ins C dx fs)) (h : TyX K H x t) : TyX K (upd H p (.ins C dx fs')) x t := by
  have mv : ∀ {a : Addr} {o : HO}, H a = some o → o ≠ .ins C dx fs → upd H p (.ins C dx fs') a = some o := fun {a o} e n => by
    rw [upd_ne (ne_of e hp n)]
    exact e
  cases h with
  | base h =>
    cases h with
    | non => exact .base .non
    | bl b => exact .base (.bl b)
    | int i => exact .base (.int i)
    | str z => exact .base (.str z)
    | flt z => exact .base (.flt z)
    | lst h => exact .base (.lst (mv h (by intro q; cases q)))
    | frz h => exact .base (.frz (mv h (by intro q; cases q)))
    | tup h => exact .base (.tup (mv h (by intro q; cases q)))
    | dK h => exact .base (.dK (mv h (by intro q; cases q)))
    | dT h => exact .base (.dT (mv h (by intro q; cases q)))
    | @ins a C' dx' fs0 h cl ha hn htk hm =>
      by_cases hap : a = p
      · subst hap
        rw [hp] at h
        injection h with h
        injection h with h1 h2 h3
        subst h1 h2
        exact .base (.ins upd_same cl ha hn htk hm)
      · exact .base (.ins (by rw [upd_ne hap]; exact h) cl ha hn htk hm)
  | byt b => exact .byt b
  | set h => exact .set (mv h (by intro q; cases q))
  | kList h c => exact .kList h c
  | kTuple h c => exact .kTuple h c
  | kDict h c => exact .kDict h c
  | fTuple h => exact .fTuple (mv h (by intro q; cases q))
  | fDict h => exact .fDict (mv h (by intro q; cases q))
theorem num_upd {x : V} {o : Option Int} (hp : H p = some (.ins C dx fs)) (h : NumV K H x o) : NumV K (upd H p (.ins C dx fs')) x o := by
  cases h with
  | int z => exact .int z
  | odd h n => exact .odd (ty_upd hp h) n
theorem sz_upd {x : V} {n : Nat} {o : Option (Nat × Nat)} (hp : H p = some (.ins C dx fs)) (h : SzAt K H x n o) : SzAt K (upd H p (.ins C dx fs')) x n o := by
  induction h with
  | zero => exact .zero
  | kind h k => exact .kind (ty_upd hp h) k
  | empty h => exact .empty (sqt_upd hp h)
  | head h ht k => exact .head (sqt_upd hp h) (ty_upd hp ht) k
  | leaf hs h ok => exact .leaf hs (sqt_upd hp h) ok
  | leafLen hs h l => exact .leafLen hs (sqt_upd hp h) l
  | leafNum hs h hx no => exact .leafNum hs (sqt_upd hp h) (num_upd hp hx) no
  | word hs h l => exact .word hs (sqt_upd hp h) l
  | byBad h hb no => exact .byBad (sqt_upd hp h) (num_upd hp hb) no
  | behind h ok _ i => exact .behind (sqt_upd hp h) ok i
  | pairNo hs h _ i => exact .pairNo hs (sqt_upd hp h) i
  | pair hs h _ hl _ i j => exact .pair hs (sqt_upd hp h) i hl j
end
end WF

set_option Elab.async false
set_option linter.all false
set_option maxRecDepth 100000
set_option maxHeartbeats 400000
/-! WProp: properties of own classes -/
namespace WF
open PySem L2 Evl
structure PropAt (K : PySem.W.Frag) (C : Addr) (f qual : Str) (st : Stmt) : Prop where
  ex : ∃ (p g : Addr) (fd : FuncData), PropOf K C f p g ∧ Fun K f qual st g fd ∧ Binds K fd ["self"] []
structure Prn (P : Program) (w : World) (K : PySem.W.Frag) (mg : Str → Option Value) (base : Heap) (C : Addr) (f : Str) (k : Nat) (sp : Sp) : Prop where
  ex : ∃ (p g : Addr) (fd : FuncData), PropOf K C f p g ∧ FnOk P w K mg base CX0 k g fd ["self"] sp ∧ Binds K fd ["self"] []
theorem PropAt.prn {P : Program} {w : World} {K : PySem.W.Frag} {mg : Str → Option Value} {base : Heap} {C : Addr} {f qual : Str} {k : Nat} {sp : Sp} {st : Stmt} (F : PropAt K C f qual st) (h : ∀ g fd, Fun K f qual st g fd → FnOk P w K mg base CX0 k g fd ["self"] sp) : Prn P w K mg base C f k sp := by
  obtain ⟨p, g, fd, h1, h2, h3⟩ := F.ex
  exact ⟨p, g, fd, h1, h g fd h2, h3⟩
section
variable {X : Cx} {C : Addr} {f : Str} {k : Nat} {sp : Sp} {e : Expr} {pos : Pos} {ta : TE}
theorem pe_prp (R : Prn X.prog X.w X.K X.mg X.base C f k sp) (he : PE X e ta) (c : Cls X.K C) (hr : Room (k + 1) X.A) (hab : attributeBase e f X.env (eval e X.env) = eval e X.env) : PE X (.Attribute e f pos) (tProp C sp [] E0 ta) := by
  obtain ⟨p, g, fd, h1, h2, h3⟩ := R.ex
  exact pe_prop he c h1 h2 hr h3 .nil pass0 hab
end
theorem ev_prp {σ : L2.St} {H : Hp} {ta : TE} {C a dx : Addr} {fs : List (Str × V)} {sp : Sp} {E : XK} {z : V} (h : Ev ta σ H (.ref a)) (ho : H a = some (.ins C dx fs)) (k : ∀ H1, Ex H H1 → ∀ (Q : VK) (E : XK), RetV z H1 Q → sp [.ref a] H1 Q E) : Ev (tProp C sp [] E ta) σ H z := fun H1 e Q q =>
  h H1 e _ fun H2 e2 => ⟨a, dx, fs, rfl, e2 _ _ (e _ _ ho), k H2 (e.trans e2) Q E fun H3 e3 => q H3 (e2.trans e3)⟩
end WF

set_option Elab.async false
set_option linter.all false
set_option maxRecDepth 100000
set_option maxHeartbeats 2000000
/-! WDraw: the drawn numbers' list; what stands when lists change -/
namespace WF
open PySem L2 Evl
/-- the list that numbers are drawn from -/
def Good (xs : List V) : Prop := ∃ (s r : Int) (bs : List Int), xs = .int s :: .int r :: bs.map V.int ∧ 0 ≤ s ∧ s < 2147483647 ∧ 0 ≤ r ∧ (∀ b ∈ bs, 0 ≤ b) ∧ bs.length ≤ 100
theorem Good.len {xs : List V} (h : Good xs) : 2 ≤ xs.length ∧ xs.length ≤ 102 := by
  obtain ⟨s, r, bs, rfl, _, _, _, _, h⟩ := h
  simp
  omega
/-- all that is no list stands -/
def KeepN (H H' : Hp) : Prop := ∀ b o, (∀ xs, o ≠ .lst xs) → H b = some o → H' b = some o
theorem KeepN.refl (H : Hp) : KeepN H H := fun _ _ _ h => h
theorem KeepN.of {H H' : Hp} (e : Ex H H') : KeepN H H' := fun b o _ h => e b o h
theorem KeepN.trans {H H1 H2 : Hp} (a : KeepN H H1) (b : KeepN H1 H2) : KeepN H H2 := fun c o n h => b c o n (a c o n h)
theorem ExB.kn {d : Addr} {H H' : Hp} {xs : List V} (e : ExB d H H') (h : H d = some (.lst xs)) : KeepN H H' := fun b o n q => e b o (fun z => by
  subst z
  rw [h] at q
  exact n xs (Option.some.inj q).symm) q
section
variable {K : PySem.W.Frag} {H H' : Hp} {a l d CF CC : Addr} {xs : List V} {v x : V}
theorem sqt_kn (e : KeepN H H') (h : SqT K H a xs) : SqT K H' a xs := by
  rcases h with (h | ⟨o, h⟩) | h
  · exact .inl (.inl (e _ _ (fun _ q => nomatch q) h))
  · exact .inl (.inr ⟨o, e _ _ (fun _ q => nomatch q) h⟩)
  · exact .inr h
theorem sql_but (e : ExB d H H') (hne : l ≠ d) (h : SqL K H l xs) : SqL K H' l xs := by
  rcases h with (h | ⟨o, h⟩) | h
  · exact .inl (.inl (e _ _ hne h))
  · exact .inl (.inr ⟨o, e _ _ hne h⟩)
  · exact .inr h
theorem RlAt.kn {r : Rl} (e : KeepN H H') (h : RlAt K H v r) : RlAt K H' v r := by
  induction h with
  | wk h => exact .wk (sqt_kn e h)
  | fs h => exact .fs (sqt_kn e h)
  | md h => exact .md (sqt_kn e h)
  | bh h _ i => exact .bh (sqt_kn e h) i
  | bo h _ _ i j => exact .bo (sqt_kn e h) i j
  | ei h _ _ i j => exact .ei (sqt_kn e h) i j
  | wo h _ _ i j => exact .wo (sqt_kn e h) i j
theorem FeastAt.kn {r : Rl} (e : KeepN H H') (h : FeastAt K CF H a r) : FeastAt K CF H' a r := by
  obtain ⟨dx, v, h1, h2⟩ := h
  exact ⟨dx, v, e _ _ (fun _ q => nomatch q) h1, h2.kn e⟩
theorem RowAt.kn {r : Rl × Bool} (e : KeepN H H') (h : RowAt K CF H x r) : RowAt K CF H' x r := by
  obtain ⟨p, q, h0, h1, h2⟩ := h
  exact ⟨p, q, h0, sqt_kn e h1, h2.kn e⟩
theorem RowsL.kn (e : KeepN H H') : ∀ {xs : List V} {rs : Rows}, RowsL K CF H xs rs → RowsL K CF H' xs rs
  | [], [], _ => trivial
  | _ :: _, _ :: _, h => ⟨h.1.kn e, RowsL.kn e h.2⟩
  | [], _ :: _, h => h
  | _ :: _, [], h => h
theorem RowsAt.kn {rs : Rows} (e : KeepN H H') (h : RowsAt K CF H v rs) : RowsAt K CF H' v rs := by
  obtain ⟨a, xs, h0, h1, h2⟩ := h
  exact ⟨a, xs, h0, sqt_kn e h1, h2.kn e⟩
theorem CalAt.kn {rs : Rows} (e : KeepN H H') (h : CalAt K CF CC H v rs) : CalAt K CF CC H' v rs := by
  obtain ⟨c, dx, rv, h0, h1, h2⟩ := h
  exact ⟨c, dx, rv, h0, e _ _ (fun _ q => nomatch q) h1, h2.kn e⟩
end
/-- a raw row: a pair of a rule and a truth -/
def RawAt (K : PySem.W.Frag) (H : Hp) (x : V) (r : Rl × Bool) : Prop := ∃ p v, x = .ref p ∧ SqT K H p [v, .bl r.2] ∧ RlAt K H v r.1
def RawL (K : PySem.W.Frag) (H : Hp) : List V → Rows → Prop
  | [], [] => True
  | x :: xs, r :: rs => RawAt K H x r ∧ RawL K H xs rs
  | _, _ => False
section
variable {K : PySem.W.Frag} {H H' : Hp} {x : V}
theorem RawAt.kn {r : Rl × Bool} (e : KeepN H H') (h : RawAt K H x r) : RawAt K H' x r := by
  obtain ⟨p, v, h0, h1, h2⟩ := h
  exact ⟨p, v, h0, sqt_kn e h1, h2.kn e⟩
theorem RawL.kn (e : KeepN H H') : ∀ {xs : List V} {rs : Rows}, RawL K H xs rs → RawL K H' xs rs
  | [], [], _ => trivial
  | _ :: _, _ :: _, h => ⟨h.1.kn e, RawL.kn e h.2⟩
  | [], _ :: _, h => h
  | _ :: _, [], h => h
theorem RawL.len : ∀ {xs : List V} {rs : Rows}, RawL K H xs rs → xs.length = rs.length
  | [], [], _ => rfl
  | _ :: _, _ :: _, h => congrArg (· + 1) (RawL.len h.2)
  | [], _ :: _, h => h.elim
  | _ :: _, [], h => h.elim
theorem RawL.get : ∀ {xs : List V} {rs : Rows} {i : Nat} {x : V}, RawL K H xs rs → xs[i]? = some x → ∃ r, rs[i]? = some r ∧ RawAt K H x r
  | _ :: _, r :: _, 0, _, h, e => ⟨r, rfl, by cases e; exact h.1⟩
  | _ :: xs, _ :: rs, i + 1, x, h, e => RawL.get (xs := xs) (rs := rs) (i := i) (x := x) h.2 e
  | [], [], i, x, _, e => by simp at e
  | [], _ :: _, _, _, h, _ => h.elim
  | _ :: _, [], _, _, h, _ => h.elim
theorem RawL.snoc : ∀ {xs : List V} {rs : Rows} {x : V} {r : Rl × Bool}, RawL K H xs rs → RawAt K H x r → RawL K H (xs ++ [x]) (rs ++ [r])
  | [], [], _, _, _, h => ⟨h, trivial⟩
  | _ :: _, _ :: _, _, _, h, g => ⟨h.1, RawL.snoc h.2 g⟩
  | [], _ :: _, _, _, h, _ => h.elim
  | _ :: _, [], _, _, h, _ => h.elim
end
section
variable {K : PySem.W.Frag} {σ : L2.St} {H H' : Hp} {ta tb tc te tv : TE} {x y z v : V} {r r' : R2} {t u : TT} {D : Ends} {tz : TS}
theorem ev_int1 {i : Int} (h : Ev ta σ H (.int i)) : Ev (tCB (fun xs H Q => (∃ i, xs = [.int i] ∧ Q (.int i) H) ∨ ∃ k, xs = [.bl k] ∧ Q (.int (if k then 1 else 0)) H) (tCons ta tNil)) σ H (.int i) :=
  ev_cb (ea_cons h ea_nil) fun H1 _ Q q => .inl ⟨i, rfl, q H1 (Ex.refl H1)⟩
theorem ev_abs {i : Int} (h : Ev ta σ H (.int i)) : Ev (tCB (fun xs H Q => ∃ i, xs = [.int i] ∧ Q (.int (if i < 0 then -i else i)) H) (tCons ta tNil)) σ H (.int (if i < 0 then -i else i)) :=
  ev_cb (ea_cons h ea_nil) fun H1 _ Q q => ⟨i, rfl, q H1 (Ex.refl H1)⟩
theorem ev_ixL {p : Addr} {xs : List V} {i : Int} (h : Ev ta σ H (.ref p)) (hs : SqL K H p xs) (ha : atI xs i = some v) : Ev (tOp (rIxL K) ta (tC (.int i))) σ H v := ev_op h ev_c (rv_ixL hs ha)
theorem ev_lenL {p : Addr} {xs : List V} (ha : Ev ta σ H (.ref p)) (h : SqL K H p xs) : Ev (tCB (rLenS K) (tCons ta tNil)) σ H (.int (xs.length : Int)) := fun H1 e Q q =>
  ha H1 e _ fun H2 e2 => ⟨p, xs, rfl, .inl (ex_l (e.trans e2) h), q H2 e2⟩
/-- two new lists, one behind the other -/
theorem el_cat {xs ys : List V} (h1 : EvL ta σ H xs) (h2 : EvL tb σ H ys) (hz : xs.length + ys.length ≤ 100000) : EvL (tOp rCat ta tb) σ H (xs ++ ys) := fun H1 e Q q =>
  h1 H1 e _ fun p H2 hp e2 k1 => h2 H2 (e.trans e2) _ fun p2 H3 hp2 e3 k2 => ⟨p, p2, xs, ys, rfl, rfl, e3 _ _ k1, k2, Evl.sz_of hz, fun p3 hp3 => q p3 _ (fresh_back (e2.trans e3) hp3) ((e2.trans e3).trans (Ex.new hp3)) upd_same⟩
/-- xs[i] = e, a list of the call's own, at a written place -/
theorem s_setI {l : Addr} {xs : List V} {i : Int} {j : Nat} (hl : H l = some (.lst xs)) (h : Ev te σ H v) (ho : Ev ta σ H (.ref l)) (hj : ixN xs.length i = some j) (k : ∀ H1, Ex H H1 → D.nx σ (upd H1 l (.lst (xs.set j v)))) :
    tAsg te (gSub ta (tC (.int i)) rSetL) D σ H := h H (Ex.refl H) _ fun H1 e1 => ho H1 e1 _ fun H2 e2 => ⟨l, xs, i, j, rfl, rfl, (e1.trans e2) _ _ hl, hj, k H2 (e1.trans e2)⟩
theorem q_setI {l : Addr} {xs : List V} {i : Int} {j : Nat} (hl : H l = some (.lst xs)) (h : Ev te σ H v) (ho : Ev ta σ H (.ref l)) (hj : ixN xs.length i = some j) (k : ∀ H1, Ex H H1 → tz D σ (upd H1 l (.lst (xs.set j v)))) :
    tSeq (tAsg te (gSub ta (tC (.int i)) rSetL)) tz D σ H := s_setI (D := { D with nx := tz D }) hl h ho hj k
/-! what is handed on by the readings themselves -/
theorem call_ev {sp : Sp} {E : XK} {ta : TA} {vs : List V} {Q : VK} (h : EvA ta σ H vs) (k : ∀ H1, Ex H H1 → sp vs H1 Q E) : tCall sp [] E ta σ H Q := h H (Ex.refl H) _ fun H1 e => by
  rw [List.append_nil]
  exact k H1 e
theorem q_asgX {i : Nat} (h : te σ H fun x H1 => tz D (σ.set i (some x)) H1) : tSeq (tAsg te (gName i)) tz D σ H := h
theorem s_asgX {i : Nat} (h : te σ H fun x H1 => D.nx (σ.set i (some x)) H1) : tAsg te (gName i) D σ H := h
theorem s_retX (h : te σ H D.rt) : tRet te D σ H := h
theorem q_ifX {tu tw : TS} (h : t σ H fun b H1 => if b = true then tu { D with nx := tz D } σ H1 else tw { D with nx := tz D } σ H1) : tSeq (tIfS t tu tw) tz D σ H := h
/-- a call's answer compared -/
theorem t_cmpX {b : V} {Q : Bool → Hp → Prop} (h : ta σ H fun x H1 => scal x b = true ∧ Q (decide (x = b)) H1) (hmono : ∀ Q1 Q2 : VK, (∀ v H1, Q1 v H1 → Q2 v H1) → ta σ H Q1 → ta σ H Q2) : tTest (tOp rEq ta (tC b)) σ H Q :=
  hmono _ _ (fun v H1 h => ⟨h.1, _, rfl, h.2⟩) h
end
/-- all but d and l is kept -/
def ExB2 (d l : Addr) (H H' : Hp) : Prop := ∀ b o, b ≠ d → b ≠ l → H b = some o → H' b = some o
theorem ExB.two {d l : Addr} {H H' : Hp} (e : ExB d H H') : ExB2 d l H H' := fun b o h _ q => e b o h q
theorem ExB.two' {d l : Addr} {H H' : Hp} (e : ExB l H H') : ExB2 d l H H' := fun b o _ h q => e b o h q
theorem ExB2.of {d l : Addr} {H H' : Hp} (e : Ex H H') : ExB2 d l H H' := fun b o _ _ q => e b o q
theorem ExB2.trans {d l : Addr} {H H1 H2 : Hp} (a : ExB2 d l H H1) (b : ExB2 d l H1 H2) : ExB2 d l H H2 := fun c o h g q => b c o h g (a c o h g q)
theorem ExB2.step {d l : Addr} {H H1 H2 : Hp} (a : ExB2 d l H H1) (e : Ex H1 H2) : ExB2 d l H H2 := a.trans (.of e)
theorem ExB2.updL {d l : Addr} {H H' : Hp} {o : HO} (a : ExB2 d l H H') : ExB2 d l H (upd H' l o) := fun b u h g q => by
  rw [upd_ne g]
  exact a b u h g q
theorem ExB2.kn {d l : Addr} {H H' : Hp} {xs ys : List V} (e : ExB2 d l H H') (h : H d = some (.lst xs)) (g : H l = some (.lst ys)) : KeepN H H' := fun b o n q => e b o (fun z => by
  subst z
  rw [h] at q
  exact n xs (Option.some.inj q).symm) (fun z => by
  subst z
  rw [g] at q
  exact n ys (Option.some.inj q).symm) q
/-- l new: all but d of what stood is kept -/
theorem ExB2.one {d l : Addr} {H0 H H' : Hp} (e : ExB2 d l H H') (e0 : Ex H0 H) (h : H0 l = none) : ExB d H0 H' := fun b o hb q => e b o hb (ne_of_none q h) (e0 b o q)
theorem ExB.mut {d p : Addr} {H H' : Hp} {o : HO} (e : ExB d H H') (h : H p = none) : ExB d H (L2.upd H' p o) := fun b u hb q => by
  rw [upd_ne (ne_of_none q h)]
  exact e b u hb q
theorem KeepN.lst {H H' : Hp} {p : Addr} {xs ys : List V} (e : KeepN H H') (h : H p = some (.lst xs)) : KeepN H (upd H' p (.lst ys)) := fun b o n q => by
  have hb : b ≠ p := fun z => by
    rw [z, h] at q
    exact n xs (Option.some.inj q).symm
  rw [upd_ne hb]
  exact e b o n q
section
variable {K : PySem.W.Frag} {σ : L2.St} {H H' : Hp} {ta tb tc te tv : TE} {x y z v : V} {r r' : R2} {t u : TT} {D : Ends} {tz : TS}
/-- a comprehension over a list of pairs, whose elements are made: R tells of each -/
theorem er_lst2X {a : Addr} {xs : List V} {tl : TE} {j k : Nat} {vs : List Nat} (A B : Nat → V) (R : Nat → V → Hp → Prop) (hR : ∀ i y H1 H2, KeepN H1 H2 → R i y H1 → R i y H2) (h : Ev tl σ H (.ref a)) (hx : SqL K H a xs) (hz : xs.length ≤ 40000)
    (hw : ∀ x y, wipe (((wipe σ vs).set j (some x)).set k (some y)) vs = wipe σ vs) (hp : ∀ (i : Nat) (x : V), xs[i]? = some x → ∃ p, x = .ref p ∧ SqT K H p [A i, B i])
    (he : ∀ (i : Nat) H1, Ex H H1 → i < xs.length → ∀ Q : VK, (∀ y H2, Ex H1 H2 → R i y H2 → Q y H2) → te (((wipe σ vs).set j (some (A i))).set k (some (B i))) H1 Q) :
    EvR (tLc (iList K tl) (gTup K 2 (gCons (gName j) (gCons (gName k) gNil))) tYes te vs) σ H fun p H2 => ∃ ys, H2 p = some (.lst ys) ∧ ys.length = xs.length ∧ ∀ i y, ys[i]? = some y → R i y H2 := by
  intro H0 e Q q
  refine h H0 e _ fun H1 e1 => ⟨a, rfl, ⟨xs, ex_l (e.trans e1) hx⟩, fun Dl hD => ?_⟩
  refine lc_list (xs := xs) (fun i H' => Ex H1 H' ∧ ∃ ys, H' Dl = some (.lst ys) ∧ ys.length = i ∧ ∀ j y, ys[j]? = some y → R j y H') ⟨Ex.new hD, [], upd_same, rfl, fun j y z => by simp at z⟩ (fun i H' _ p => ex_l ((e.trans e1).trans p.1) hx) (fun i x H' hi p => ?_)
    fun H' p => q Dl H' (fresh_back e1 hD) (e1.trans p.1) p.2
  obtain ⟨p1, ys, p2, p3, p4⟩ := p
  have hlt := (List.getElem?_eq_some_iff.mp hi).1
  obtain ⟨r, rfl, hr⟩ := hp i x hi
  refine ⟨_, _, rfl, ex_t ((e.trans e1).trans p1) hr, rfl, _, _, rfl, _, _, rfl, rfl, hw _ _, ?_⟩
  refine he i H' ((e.trans e1).trans p1) hlt _ fun y H4 e4 hy => ⟨ys, e4 _ _ p2, by rw [p3]; exact Evl.sz_lt (by omega), Ex.mut (p1.trans e4) hD, ys ++ [y], upd_same, by rw [List.length_append, p3]; rfl, fun j z hz => ?_⟩
  have kn : KeepN H4 (upd H4 Dl (.lst (ys ++ [y]))) := (KeepN.refl H4).lst (e4 _ _ p2)
  rcases Nat.lt_or_ge j ys.length with hj | hj
  · rw [List.getElem?_append_left hj] at hz
    exact hR j z _ _ ((KeepN.of e4).trans kn) (p4 j z hz)
  · rw [List.getElem?_append_right hj] at hz
    have : j - ys.length = 0 := by
      rcases Nat.eq_zero_or_pos (j - ys.length) with h | h
      · exact h
      · rw [List.getElem?_eq_none (by simp; omega)] at hz
        cases hz
    rw [this] at hz
    cases hz
    have : j = i := by omega
    subst this
    exact hR j y _ _ kn hy
/-- tuple(a new list) -/
theorem er_tuple {S : List V → Hp → Prop} (hS : ∀ ys H1 H2, KeepN H1 H2 → S ys H1 → S ys H2) (h : EvR ta σ H fun p H2 => ∃ ys, H2 p = some (.lst ys) ∧ S ys H2) :
    EvR (tCB (fun xs H Q => ∃ p ys, xs = [.ref p] ∧ ((SqL K H p ys ∧ ∀ l, H l = none → Q (.ref l) (upd H l (.tup ys))) ∨ (SqT K H p ys ∧ Q (.ref p) H))) (tCons ta tNil)) σ H fun p H2 => ∃ ys, H2 p = some (.tup ys) ∧ S ys H2 := fun H1 e Q q =>
  h H1 e _ fun p H2 hp e2 ⟨ys, h2, hs⟩ => ⟨p, ys, rfl, .inl ⟨sq_of h2, fun l hl => q l _ (fresh_back e2 hl) (e2.trans (Ex.new hl)) ⟨ys, upd_same, hS ys _ _ (KeepN.of (Ex.new hl)) hs⟩⟩⟩
theorem RawL.fn {xs : List V} {rows : Rows} (h : RawL K H xs rows) (d : Rl × Bool) : ∃ q : Nat → V, ∀ i x, xs[i]? = some x → ∃ p, x = .ref p ∧ SqT K H p [q i, .bl (rows.getD i d).2] ∧ RlAt K H (q i) (rows.getD i d).1 := by
  have : ∀ i, ∃ q : V, ∀ x, xs[i]? = some x → ∃ p, x = .ref p ∧ SqT K H p [q, .bl (rows.getD i d).2] ∧ RlAt K H q (rows.getD i d).1 := fun i => by
    cases e : xs[i]? with
    | none => exact ⟨.non, fun x hx => nomatch hx⟩
    | some y =>
      obtain ⟨r, hr, p, q, h0, h1, h2⟩ := h.get e
      refine ⟨q, fun x hx => ?_⟩
      cases hx
      have : rows.getD i d = r := by rw [List.getD_eq_getElem?_getD, hr]; rfl
      rw [this]
      exact ⟨p, h0, h1, h2⟩
  exact Classical.axiomOfChoice this
theorem rowsL_of {CF : Addr} (d : Rl × Bool) : ∀ {ys : List V} {rows : Rows}, ys.length = rows.length → (∀ i y, ys[i]? = some y → RowAt K CF H y (rows.getD i d)) → RowsL K CF H ys rows
  | [], [], _, _ => trivial
  | y :: ys, r :: rows, hl, h => ⟨h 0 y rfl, rowsL_of d (by simpa using hl) fun i y hy => h (i + 1) y hy⟩
  | [], _ :: _, hl, _ => by simp at hl
  | _ :: _, [], hl, _ => by simp at hl
end
/-- rows that may stand: bys 4 at most in all, each rule fit and of at most n parts -/
structure RowsOk (n : Nat) (rows : Rows) : Prop where
  bys : rowsBys rows ≤ 4
  fit : ∀ r ∈ rows, r.1.fit = true ∧ r.1.parts ≤ n
theorem bys_le : ∀ {rows : Rows} {r : Rl × Bool}, r ∈ rows → r.1.bys ≤ rowsBys rows
  | a :: rows, r, h => by
    unfold rowsBys
    rw [List.map_cons, List.sum_cons]
    rcases List.mem_cons.mp h with rfl | h
    · omega
    · have := bys_le h
      unfold rowsBys at this
      omega
theorem getD_mem {rows : Rows} {d : Rl × Bool} {i : Nat} (h : i < rows.length) : rows.getD i d ∈ rows := by
  rw [List.getD_eq_getElem?_getD, List.getElem?_eq_getElem h]
  exact List.getElem_mem h
theorem RowsOk.dep {n : Nat} {rows : Rows} (h : RowsOk n rows) (hn : n ≤ 5) : depMax rows < 5 := by
  have : ∀ rows : Rows, (∀ r ∈ rows, r.1.parts ≤ 5) → depMax rows < 5 := by
    intro rows
    induction rows with
    | nil => intro _; exact (by decide : 0 < 5)
    | cons r rows ih =>
      intro h
      have h1 := h r List.mem_cons_self
      have h2 := dep_parts r.1
      have h3 := ih fun r hr => h r (List.mem_cons_of_mem _ hr)
      show max r.1.dep (depMax rows) < 5
      omega
  exact this rows fun r hr => Nat.le_trans (h.fit r hr).2 hn
end WF

set_option Elab.async false
set_option linter.all false
set_option maxRecDepth 100000
/-! WForm: the plain law: how many days a round has. A day is seen by what lies near it. -/
namespace WF

/-! ### a rule told by what lies near a day: a: days that begin a week, u: a month; l: in a month's first days -/
def Rl.ev (a u l : Int → Bool) : Rl → Int → Bool
  | .wk k, j => a (j - k)
  | .fs k, j => a (j - k) && l j
  | .md k, j => u (j - k)
  | .bh r b, j => r.ev a u l (j - b)
  | .bo x y, j => x.ev a u l j && y.ev a u l j
  | .ei x y, j => x.ev a u l j || y.ev a u l j
  | .wo x y, j => x.ev a u l j && !y.ev a u l j
def addE (a u l : Int → Bool) (f : Int → Bool) (r : Rl × Bool) : Int → Bool := fun d =>
  f d || (r.1.ev a u l d && !(r.2 && f d)) || (r.2 && (r.1.ev a u l (d - 1) && f (d - 1)))
def calE (a u l : Int → Bool) (rows : Rows) : Int → Bool := rows.foldl (addE a u l) fun _ => false
def atZ (n d : Int) : Int → Bool := fun i => (d + i) % n == 0
def inW (w m d : Int) : Int → Bool := fun i => decide ((d + i) % m < w)
theorem mod_sub (n d k : Int) : (d % n == k % n) = ((d - k) % n == 0) := by
  rw [Bool.eq_iff_iff, beq_iff_eq, beq_iff_eq]
  exact Int.emod_eq_emod_iff_emod_sub_eq_zero
theorem ev_day (w m d : Int) : ∀ (r : Rl) (j : Int), r.day w m (d + j) = r.ev (atZ w d) (atZ m d) (inW w m d) j
  | .wk k, j => by
    show ((d + j) % w == k % w) = ((d + (j - k)) % w == 0)
    rw [mod_sub, show d + j - k = d + (j - k) by omega]
  | .fs k, j => by
    show ((d + j) % w == k % w && decide ((d + j) % m < w)) = ((d + (j - k)) % w == 0 && decide ((d + j) % m < w))
    rw [mod_sub, show d + j - k = d + (j - k) by omega]
  | .md k, j => by
    show ((d + j) % m == k % m) = ((d + (j - k)) % m == 0)
    rw [mod_sub, show d + j - k = d + (j - k) by omega]
  | .bh r b, j => by
    show r.day w m (d + j - b) = r.ev _ _ _ (j - b)
    rw [show d + j - b = d + (j - b) by omega]
    exact ev_day w m d r _
  | .bo x y, j => by
    show (x.day w m (d + j) && y.day w m (d + j)) = _
    rw [ev_day w m d x, ev_day w m d y]; rfl
  | .ei x y, j => by
    show (x.day w m (d + j) || y.day w m (d + j)) = _
    rw [ev_day w m d x, ev_day w m d y]; rfl
  | .wo x y, j => by
    show (x.day w m (d + j) && !y.day w m (d + j)) = _
    rw [ev_day w m d x, ev_day w m d y]; rfl
theorem fold_ev (w m d : Int) : ∀ (rows : Rows) (f g : Int → Bool), (∀ j, f (d + j) = g j) → ∀ j, rows.foldl (addRow w m) f (d + j) = rows.foldl (addE (atZ w d) (atZ m d) (inW w m d)) g j
  | [], _, _, h, j => h j
  | r :: rows, f, g, h, j => fold_ev w m d rows _ _ (fun j => by
      show (f (d + j) || (r.1.day w m (d + j) && !(r.2 && f (d + j))) || (r.2 && (r.1.day w m (d + j - 1) && f (d + j - 1)))) = (g j || (r.1.ev _ _ _ j && !(r.2 && g j)) || (r.2 && (r.1.ev _ _ _ (j - 1) && g (j - 1))))
      rw [show d + j - 1 = d + (j - 1) by omega, h j, h (j - 1), ev_day, ev_day]) j
theorem cal_ev (w m d : Int) (rows : Rows) : calDay w m rows d = calE (atZ w d) (atZ m d) (inW w m d) rows 0 := by
  have := fold_ev w m d rows (fun _ => false) (fun _ => false) (fun _ => rfl) 0
  rw [Int.add_zero] at this
  exact this

/-! ### what lies near is all that tells -/
def Ag (n : Nat) (a a' : Int → Bool) : Prop := ∀ j : Int, -(n : Int) ≤ j → j ≤ (n : Int) → a j = a' j
theorem ev_ag {a a' u u' l l' : Int → Bool} {n : Nat} (ha : Ag n a a') (hu : Ag n u u') (hl : Ag n l l') : ∀ (r : Rl) (k : Nat) (j : Int), r.fit = true → -(k : Int) ≤ j → j ≤ (k : Int) → k + 3 + r.bys ≤ n → r.ev a u l j = r.ev a' u' l' j
  | .wk c, k, j, hf, h1, h2, h3 => by
    have hc := of_decide_eq_true hf
    exact ha _ (by simp only [Rl.bys] at h3; omega) (by simp only [Rl.bys] at h3; omega)
  | .fs c, k, j, hf, h1, h2, h3 => by
    have hc := of_decide_eq_true hf
    simp only [Rl.bys] at h3
    show (a (j - c) && l j) = (a' (j - c) && l' j)
    rw [ha _ (by omega) (by omega), hl _ (by omega) (by omega)]
  | .md c, k, j, hf, h1, h2, h3 => by
    have hc := of_decide_eq_true hf
    exact hu _ (by simp only [Rl.bys] at h3; omega) (by simp only [Rl.bys] at h3; omega)
  | .bh r b, k, j, hf, h1, h2, h3 => by
    simp only [Rl.fit, Bool.and_eq_true] at hf
    simp only [Rl.bys] at h3
    exact ev_ag ha hu hl r (k + b.natAbs) (j - b) hf.2 (by omega) (by omega) (by omega)
  | .bo x y, k, j, hf, h1, h2, h3 => by
    simp only [Rl.fit, Bool.and_eq_true] at hf
    simp only [Rl.bys] at h3
    show (x.ev a u l j && y.ev a u l j) = (x.ev a' u' l' j && y.ev a' u' l' j)
    rw [ev_ag ha hu hl x k j hf.1 h1 h2 (by omega), ev_ag ha hu hl y k j hf.2 h1 h2 (by omega)]
  | .ei x y, k, j, hf, h1, h2, h3 => by
    simp only [Rl.fit, Bool.and_eq_true] at hf
    simp only [Rl.bys] at h3
    show (x.ev a u l j || y.ev a u l j) = (x.ev a' u' l' j || y.ev a' u' l' j)
    rw [ev_ag ha hu hl x k j hf.1 h1 h2 (by omega), ev_ag ha hu hl y k j hf.2 h1 h2 (by omega)]
  | .wo x y, k, j, hf, h1, h2, h3 => by
    simp only [Rl.fit, Bool.and_eq_true] at hf
    simp only [Rl.bys] at h3
    show (x.ev a u l j && !y.ev a u l j) = (x.ev a' u' l' j && !y.ev a' u' l' j)
    rw [ev_ag ha hu hl x k j hf.1 h1 h2 (by omega), ev_ag ha hu hl y k j hf.2 h1 h2 (by omega)]
def ysOf (rows : Rows) : Nat := (rows.filter fun r => r.2).length
theorem fold_ag {a a' u u' l l' : Int → Bool} {n : Nat} (ha : Ag n a a') (hu : Ag n u u') (hl : Ag n l l') : ∀ (rows : Rows) (f g : Int → Bool) (k : Nat), (∀ r ∈ rows, r.1.fit = true) → k + 3 + rowsBys rows + ysOf rows ≤ n →
    (∀ j : Int, -((k + ysOf rows : Nat) : Int) ≤ j → j ≤ ((k + ysOf rows : Nat) : Int) → f j = g j) → ∀ j : Int, -(k : Int) ≤ j → j ≤ (k : Int) → rows.foldl (addE a u l) f j = rows.foldl (addE a' u' l') g j
  | [], f, g, k, _, _, h, j, h1, h2 => h j (by show -((k + 0 : Nat) : Int) ≤ j; omega) (by show j ≤ ((k + 0 : Nat) : Int); omega)
  | r :: rows, f, g, k, hf, hn, h, j, h1, h2 => by
    have hb : rowsBys (r :: rows) = r.1.bys + rowsBys rows := by unfold rowsBys; rw [List.map_cons, List.sum_cons]
    have hy : ysOf (r :: rows) = (if r.2 = true then 1 else 0) + ysOf rows := by
      unfold ysOf
      rw [List.filter_cons]
      split
      · rw [List.length_cons, Nat.add_comm]
      · rw [Nat.zero_add]
    rw [hb, hy] at hn
    rw [hy] at h
    refine fold_ag ha hu hl rows _ _ k (fun q hq => hf q (List.mem_cons_of_mem _ hq)) (by omega) (fun i g1 g2 => ?_) j h1 h2
    have e1 := ev_ag ha hu hl r.1 (k + ysOf rows) i (hf r List.mem_cons_self) g1 g2 (by omega)
    show (f i || (r.1.ev a u l i && !(r.2 && f i)) || (r.2 && (r.1.ev a u l (i - 1) && f (i - 1)))) = (g i || (r.1.ev a' u' l' i && !(r.2 && g i)) || (r.2 && (r.1.ev a' u' l' (i - 1) && g (i - 1))))
    rw [e1, h i (by omega) (by omega)]
    by_cases hr : r.2 = true
    · rw [if_pos hr] at hn h
      rw [ev_ag ha hu hl r.1 (k + ysOf rows + 1) (i - 1) (hf r List.mem_cons_self) (by omega) (by omega) (by omega), h (i - 1) (by omega) (by omega)]
    · have hr' : r.2 = false := by simpa using hr
      rw [hr']; rfl
theorem cal_ag {a a' u u' l l' : Int → Bool} {rows : Rows} (hf : ∀ r ∈ rows, r.1.fit = true) (ha : Ag (reachOf rows) a a') (hu : Ag (reachOf rows) u u') (hl : Ag (reachOf rows) l l') : calE a u l rows 0 = calE a' u' l' rows 0 :=
  fold_ag ha hu hl rows _ _ 0 hf (by unfold reachOf ysOf; omega) (fun _ _ _ => rfl) 0 (by omega) (by omega)
/-- far from the begin of a week and of a month there is no day -/
theorem ev_far (l : Int → Bool) : ∀ (r : Rl) (j : Int), r.ev (fun _ => false) (fun _ => false) l j = false
  | .wk _, _ => rfl
  | .fs _, _ => rfl
  | .md _, _ => rfl
  | .bh r b, j => ev_far l r _
  | .bo x y, j => by show (x.ev _ _ l j && y.ev _ _ l j) = _; rw [ev_far l x]; rfl
  | .ei x y, j => by show (x.ev _ _ l j || y.ev _ _ l j) = _; rw [ev_far l x, ev_far l y]; rfl
  | .wo x y, j => by show (x.ev _ _ l j && !y.ev _ _ l j) = _; rw [ev_far l x]; rfl
theorem fold_far (l : Int → Bool) : ∀ (rows : Rows) (f : Int → Bool), (∀ j, f j = false) → ∀ j, rows.foldl (addE (fun _ => false) (fun _ => false) l) f j = false
  | [], _, h, j => h j
  | r :: rows, f, h, j => fold_far l rows _ (fun j => by
      show (f j || (r.1.ev _ _ l j && !(r.2 && f j)) || (r.2 && (r.1.ev _ _ l (j - 1) && f (j - 1)))) = false
      rw [ev_far, ev_far, h]; simp) j
theorem cal_far (l : Int → Bool) (rows : Rows) : calE (fun _ => false) (fun _ => false) l rows 0 = false := fold_far l rows _ (fun _ => rfl) 0

/-! ### sums -/
def sm : Nat → (Int → Nat) → Nat
  | 0, _ => 0
  | n + 1, f => sm n f + f (n : Int)
theorem sm_congr : ∀ (n : Nat) {f g : Int → Nat}, (∀ i : Nat, i < n → f (i : Int) = g (i : Int)) → sm n f = sm n g
  | 0, _, _, _ => rfl
  | n + 1, f, g, h => by
    show sm n f + f n = sm n g + g n
    rw [sm_congr n fun i hi => h i (Nat.lt_succ_of_lt hi), h n (Nat.lt_succ_self n)]
theorem sm_plus : ∀ (n : Nat) (f g : Int → Nat), sm n (fun i => f i + g i) = sm n f + sm n g
  | 0, _, _ => rfl
  | n + 1, f, g => by
    show sm n (fun i => f i + g i) + (f n + g n) = sm n f + f n + (sm n g + g n)
    rw [sm_plus n f g]; omega
theorem sm_mulc : ∀ (n c : Nat) (f : Int → Nat), sm n (fun i => c * f i) = c * sm n f
  | 0, _, _ => rfl
  | n + 1, c, f => by
    show sm n (fun i => c * f i) + c * f n = c * (sm n f + f n)
    rw [sm_mulc n c f, Nat.mul_add]
theorem sm_const : ∀ (n c : Nat) {f : Int → Nat}, (∀ i : Nat, i < n → f (i : Int) = c) → sm n f = n * c
  | 0, c, _, _ => by rw [Nat.zero_mul]; rfl
  | n + 1, c, f, h => by
    show sm n f + f n = (n + 1) * c
    rw [sm_const n c fun i hi => h i (Nat.lt_succ_of_lt hi), h n (Nat.lt_succ_self n), Nat.add_mul, Nat.one_mul]
theorem sm_add (n : Nat) (f : Int → Nat) : ∀ k : Nat, sm (n + k) f = sm n f + sm k fun i => f ((n : Int) + i)
  | 0 => rfl
  | k + 1 => by
    show sm (n + k) f + f ((n + k : Nat) : Int) = sm n f + (sm k (fun i => f ((n : Int) + i)) + f ((n : Int) + (k : Int)))
    rw [sm_add n f k, Int.natCast_add]; omega
theorem sm_mul (m : Nat) (f : Int → Nat) : ∀ n : Nat, sm (m * n) f = sm n fun t => sm m fun b => f ((m : Int) * t + b)
  | 0 => rfl
  | n + 1 => by
    rw [Nat.mul_add, Nat.mul_one, sm_add, sm_mul m f n]
    show _ = sm n _ + sm m _
    rw [Int.natCast_mul]
theorem sm_comm (m : Nat) (f : Int → Int → Nat) : ∀ n : Nat, sm n (fun t => sm m (f t)) = sm m fun b => sm n fun t => f t b
  | 0 => by
    have : sm m (fun b => sm 0 fun t => f t b) = m * 0 := sm_const m 0 fun _ _ => rfl
    rw [this]; rfl
  | n + 1 => by
    show sm n (fun t => sm m (f t)) + sm m (f n) = sm m fun b => sm n (fun t => f t b) + f n b
    rw [sm_comm m f n, sm_plus]
theorem sm_turn1 {n : Nat} {f : Int → Nat} (h : f (n : Int) = f 0) : sm n (fun i => f (i + 1)) = sm n f := by
  have h1 : sm (1 + n) f = sm 1 f + sm n fun i => f (((1 : Nat) : Int) + i) := sm_add 1 f n
  have h2 : sm (n + 1) f = sm n f + f n := rfl
  rw [Nat.add_comm, h2] at h1
  have h3 : sm 1 f = f 0 := by show 0 + f ((0 : Nat) : Int) = f 0; rw [Nat.zero_add]; rfl
  rw [h3, h] at h1
  have h4 : (fun i => f (((1 : Nat) : Int) + i)) = fun i => f (i + 1) := by
    funext i
    rw [Int.add_comm]; rfl
  rw [h4] at h1
  omega
theorem sm_turn {n : Nat} : ∀ (k : Nat) {f : Int → Nat}, (∀ i, f (i + n) = f i) → sm n (fun i => f (i - k)) = sm n f
  | 0, f, _ => by simp
  | k + 1, f, h => by
    have h1 := sm_turn1 (n := n) (f := fun i => f (i - ((k + 1 : Nat) : Int))) (by
      show f ((n : Int) - ((k + 1 : Nat) : Int)) = f (0 - ((k + 1 : Nat) : Int))
      rw [show (n : Int) - ((k + 1 : Nat) : Int) = (0 - ((k + 1 : Nat) : Int)) + (n : Int) by omega, h])
    rw [← h1, ← sm_turn k h]
    refine sm_congr n fun i _ => ?_
    show f ((i : Int) + 1 - ((k + 1 : Nat) : Int)) = f ((i : Int) - (k : Int))
    rw [show (i : Int) + 1 - ((k + 1 : Nat) : Int) = (i : Int) - (k : Int) by omega]
theorem sm_list (n : Nat) (f : Int → Nat) : sm n f = ((List.range n).map fun (i : Nat) => f (i : Int)).sum := by
  induction n with
  | zero => rfl
  | succ n ih => rw [List.range_succ, List.map_append, List.sum_append, ← ih]; rfl
theorem nodup_le : ∀ {l l' : List Nat}, l.Nodup → (∀ x, x ∈ l → x ∈ l') → l.length ≤ l'.length
  | [], _, _, _ => Nat.zero_le _
  | a :: l, l', h, hs => by
    have hn := List.nodup_cons.mp h
    have h1 := nodup_le (l' := l'.erase a) hn.2 fun x hx => (List.mem_erase_of_ne (fun q => hn.1 (by rw [← q]; exact hx))).mpr (hs x (List.mem_cons_of_mem _ hx))
    have h2 := List.length_erase_of_mem (hs a List.mem_cons_self)
    have h3 := List.length_pos_of_mem (hs a List.mem_cons_self)
    rw [List.length_cons]; omega
theorem nodup_all {l : List Nat} {n : Nat} (h : l.Nodup) (hs : ∀ x, x ∈ l → x < n) (hl : l.length = n) (x : Nat) (hx : x < n) : x ∈ l := by
  apply Classical.byContradiction
  intro hn
  have := nodup_le (l := x :: l) (l' := List.range n) (List.nodup_cons.mpr ⟨hn, h⟩) fun y hy => by
    rcases List.mem_cons.mp hy with rfl | hy
    · exact List.mem_range.mpr hx
    · exact List.mem_range.mpr (hs y hy)
  rw [List.length_cons, List.length_range] at this
  omega
def bi (b : Bool) : Nat := if b then 1 else 0
theorem days_sm (p : Int → Bool) : ∀ n : Nat, (daysN n p).length = sm n fun d => bi (p d)
  | 0 => rfl
  | n + 1 => by
    rw [daysN_succ, List.length_append, days_sm p n]
    show _ = _ + bi (p n)
    unfold bi
    split <;> rfl
/-- the days of the months that begin a week: each once -/
theorem step_perm {w m : Nat} (hw : 0 < w) (hg : Nat.gcd m w = 1) (b : Int) (g : Int → Nat) : sm w (fun t => g (((m : Int) * t + b) % (w : Int))) = sm w g := by
  rw [sm_list, sm_list]
  have hr : ∀ t : Nat, ((((((m : Int) * (t : Int) + b) % (w : Int)).toNat : Nat)) : Int) = ((m : Int) * (t : Int) + b) % (w : Int) := fun t => Int.toNat_of_nonneg (Int.emod_nonneg _ (by omega))
  have e : ((List.range w).map fun (t : Nat) => g (((m : Int) * (t : Int) + b) % (w : Int))) = ((List.range w).map fun (t : Nat) => (((m : Int) * (t : Int) + b) % (w : Int)).toNat).map fun (i : Nat) => g (i : Int) := by
    rw [List.map_map]
    refine List.map_congr_left fun t _ => ?_
    show _ = g _
    rw [hr]
  have inj : ∀ s t : Nat, s < t → t < w → (((m : Int) * (s : Int) + b) % (w : Int)).toNat ≠ (((m : Int) * (t : Int) + b) % (w : Int)).toNat := fun s t h1 h2 q => by
    have q2 : ((m : Int) * (s : Int) + b) % (w : Int) = ((m : Int) * (t : Int) + b) % (w : Int) := by
      have z1 := hr s
      have z2 := hr t
      rw [q] at z1
      exact z1.symm.trans z2
    have q4 : ((m : Int) * (t : Int) + b - ((m : Int) * (s : Int) + b)) % (w : Int) = 0 := Int.emod_eq_emod_iff_emod_sub_eq_zero.mp q2.symm
    have q5 : (m : Int) * (t : Int) + b - ((m : Int) * (s : Int) + b) = ((m * (t - s) : Nat) : Int) := by
      rw [Int.natCast_mul, Int.natCast_sub (Nat.le_of_lt h1), Int.mul_sub]; omega
    rw [q5, ← Int.natCast_emod] at q4
    have q6 : w ∣ m * (t - s) := Nat.dvd_of_mod_eq_zero (by omega)
    have q7 : w ∣ t - s := Nat.Coprime.dvd_of_dvd_mul_left (by rw [Nat.coprime_iff_gcd_eq_one, Nat.gcd_comm]; exact hg) q6
    have := Nat.le_of_dvd (by omega) q7
    omega
  have nd : ((List.range w).map fun (t : Nat) => (((m : Int) * (t : Int) + b) % (w : Int)).toNat).Nodup := by
    show List.Pairwise _ _
    rw [List.pairwise_map]
    refine List.Pairwise.imp_of_mem (fun {s t} hs ht hst => inj s t hst (List.mem_range.mp ht)) List.pairwise_lt_range
  have sub : ∀ x, x ∈ ((List.range w).map fun (t : Nat) => (((m : Int) * (t : Int) + b) % (w : Int)).toNat) → x ∈ List.range w := fun x hx => by
    obtain ⟨t, _, rfl⟩ := List.mem_map.mp hx
    have := Int.emod_lt_of_pos ((m : Int) * (t : Int) + b) (show (0 : Int) < (w : Int) by omega)
    have := hr t
    rw [List.mem_range]; omega
  have perm : ((List.range w).map fun (t : Nat) => (((m : Int) * (t : Int) + b) % (w : Int)).toNat).Perm (List.range w) := by
    refine (List.perm_ext_iff_of_nodup nd List.nodup_range).mpr fun x => ⟨sub x, fun hx => ?_⟩
    exact nodup_all nd (fun y hy => List.mem_range.mp (sub y hy)) (by rw [List.length_map, List.length_range]) x (List.mem_range.mp hx)
  rw [e]
  exact (perm.map _).sum_nat
/-- a round's days, as pairs -/
theorem round_sm {w m : Nat} (hw : 0 < w) (hm : 0 < m) (hg : Nat.gcd m w = 1) (P : Int → Int → Nat) : sm (w * m) (fun d => P (d % (w : Int)) (d % (m : Int))) = sm w fun a => sm m fun b => P a b := by
  rw [Nat.mul_comm, sm_mul, sm_comm]
  have : ∀ b : Nat, b < m → sm w (fun t => P (((m : Int) * t + (b : Int)) % (w : Int)) (((m : Int) * t + (b : Int)) % (m : Int))) = sm w fun a => P a (b : Int) := fun b hb => by
    rw [← step_perm hw hg (b : Int) fun a => P a (b : Int)]
    refine sm_congr w fun t _ => ?_
    have e : ((m : Int) * (t : Int) + (b : Int)) % (m : Int) = (b : Int) := by
      rw [Int.add_comm, Int.add_mul_emod_self_left, Int.emod_eq_of_lt (by omega) (by omega)]
    rw [e]
  rw [sm_congr m (g := fun b => sm w fun a => P a b) this, sm_comm]

/-! ### the number of days of a great land's round -/
def pAt (rows : Rows) (w m : Int) (a b : Int) : Nat := bi (calE (atZ w a) (atZ m b) (inW w m b) rows 0)
theorem atZ_mod (n d : Int) : atZ n (d % n) = atZ n d := by
  funext i
  show ((d % n + i) % n == 0) = ((d + i) % n == 0)
  rw [Int.emod_add_emod]
theorem inW_mod (w n d : Int) : inW w n (d % n) = inW w n d := by
  funext i
  show decide ((d % n + i) % n < w) = decide ((d + i) % n < w)
  rw [Int.emod_add_emod]
theorem atZ_per (n d : Int) : atZ n (d + n) = atZ n d := by rw [← atZ_mod, Int.add_emod_right, atZ_mod]
theorem inW_per (w n d : Int) : inW w n (d + n) = inW w n d := by rw [← inW_mod, Int.add_emod_right, inW_mod]
theorem mod_in {n x : Int} (h : 0 < n) (h1 : -n < x) (h2 : x < n) : (x % n == 0) = (x == 0) := by
  rw [Bool.eq_iff_iff, beq_iff_eq, beq_iff_eq]
  refine ⟨fun h3 => ?_, fun h3 => by rw [h3]; exact Int.zero_emod n⟩
  have := Int.emod_add_mul_ediv x n
  rw [h3] at this
  rcases Int.lt_trichotomy (x / n) 0 with q | q | q
  · have : n * (x / n) ≤ n * (-1) := Int.mul_le_mul_of_nonneg_left (by omega) (by omega)
    omega
  · rw [q, Int.mul_zero] at this; omega
  · have : n * 1 ≤ n * (x / n) := Int.mul_le_mul_of_nonneg_left (by omega) (by omega)
    omega
theorem mod_low {n x : Int} (h1 : 0 ≤ x) (h2 : x < n) : x % n = x := Int.emod_eq_of_lt h1 h2
theorem mod_up {n x : Int} (h1 : -n ≤ x) (h2 : x < 0) : x % n = x + n := by
  rw [← Int.add_emod_right, Int.emod_eq_of_lt (by omega) (by omega)]
/-- how many days: three numbers tell of all great lands -/
theorem count_form (rows : Rows) (hf : ∀ r ∈ rows, r.1.fit = true) : ∃ C X Y : Nat, ∀ u v w m : Nat, w = 2 * reachOf rows + 1 + u → m = w + (2 * reachOf rows + 1) + v → Nat.gcd m w = 1 →
    (daysN (w * m) (calDay (w : Int) (m : Int) rows)).length = C + u * X + v * Y := by
  generalize hR : reachOf rows = R
  let z : Nat → Int → Bool := fun i x => (i : Int) - (R : Int) + x == 0
  let lo : Nat → Int → Bool := fun j x => decide (0 ≤ (j : Int) - (R : Int) + x)
  let hi : Nat → Int → Bool := fun j x => decide ((j : Int) - (R : Int) + x < 0)
  let no : Int → Bool := fun _ => false
  let ye : Int → Bool := fun _ => true
  let S0 : Int → Nat := fun i => sm (2 * R + 1) fun j => bi (calE (z i.toNat) (z j.toNat) (lo j.toNat) rows 0)
  let SL : Int → Nat := fun i => bi (calE (z i.toNat) no ye rows 0)
  let SW : Int → Nat := fun i => sm (2 * R + 1) fun j => bi (calE (z i.toNat) no (hi j.toNat) rows 0)
  let SH : Int → Nat := fun i => bi (calE (z i.toNat) no no rows 0)
  let SF : Nat := sm (2 * R + 1) fun j => bi (calE no (z j.toNat) (lo j.toNat) rows 0)
  refine ⟨sm (2 * R + 1) S0 + sm (2 * R + 1) SW, sm (2 * R + 1) SL + SF, sm (2 * R + 1) SH, fun u v w m hw hm hg => ?_⟩
  have hag : ∀ {a a' u u' l l' : Int → Bool}, Ag R a a' → Ag R u u' → Ag R l l' → bi (calE a u l rows 0) = bi (calE a' u' l' rows 0) := fun h1 h2 h3 => by
    rw [cal_ag hf (by rw [hR]; exact h1) (by rw [hR]; exact h2) (by rw [hR]; exact h3)]
  have hw0 : 0 < w := by omega
  have hm0 : 0 < m := by omega
  -- weeks
  have aN : ∀ i : Nat, i < 2 * R + 1 → Ag R (atZ w ((i : Int) - (R : Int))) (z i) := fun i hi j h1 h2 => by
    show (((i : Int) - (R : Int) + j) % (w : Int) == 0) = ((i : Int) - (R : Int) + j == 0)
    exact mod_in (by omega) (by omega) (by omega)
  have aF : ∀ i : Nat, i < u → Ag R (atZ w (((2 * R + 1 : Nat) : Int) + (i : Int) - (R : Int))) no := fun i hi j h1 h2 => by
    show ((((2 * R + 1 : Nat) : Int) + (i : Int) - (R : Int) + j) % (w : Int) == 0) = false
    rw [mod_low (by omega) (by omega), beq_eq_false_iff_ne]; omega
  -- months
  have uN : ∀ i : Nat, i < 2 * R + 1 → Ag R (atZ m ((i : Int) - (R : Int))) (z i) := fun i hi j h1 h2 => by
    show (((i : Int) - (R : Int) + j) % (m : Int) == 0) = ((i : Int) - (R : Int) + j == 0)
    exact mod_in (by omega) (by omega) (by omega)
  have uF : ∀ i : Nat, 2 * R + 1 ≤ i → i < m → Ag R (atZ m ((i : Int) - (R : Int))) no := fun i hi hi2 j h1 h2 => by
    show (((i : Int) - (R : Int) + j) % (m : Int) == 0) = false
    rw [mod_low (by omega) (by omega), beq_eq_false_iff_ne]; omega
  have lN : ∀ i : Nat, i < 2 * R + 1 → Ag R (inW w m ((i : Int) - (R : Int))) (lo i) := fun i hi j h1 h2 => by
    show decide (((i : Int) - (R : Int) + j) % (m : Int) < (w : Int)) = decide (0 ≤ (i : Int) - (R : Int) + j)
    by_cases h : 0 ≤ (i : Int) - (R : Int) + j
    · rw [decide_eq_true h, mod_low h (by omega), decide_eq_true (by omega)]
    · rw [decide_eq_false h, mod_up (by omega) (by omega), decide_eq_false (by omega)]
  have lL : ∀ i : Nat, i < u → Ag R (inW w m (((2 * R + 1 + i : Nat) : Int) - (R : Int))) ye := fun i hi j h1 h2 => by
    show decide ((((2 * R + 1 + i : Nat) : Int) - (R : Int) + j) % (m : Int) < (w : Int)) = true
    rw [mod_low (by omega) (by omega), decide_eq_true (by omega)]
  have lW : ∀ i : Nat, i < 2 * R + 1 → Ag R (inW w m (((2 * R + 1 + u + i : Nat) : Int) - (R : Int))) (hi i) := fun i hi j h1 h2 => by
    show decide ((((2 * R + 1 + u + i : Nat) : Int) - (R : Int) + j) % (m : Int) < (w : Int)) = decide ((i : Int) - (R : Int) + j < 0)
    rw [mod_low (by omega) (by omega), decide_eq_decide]; omega
  have lH : ∀ i : Nat, i < v → Ag R (inW w m (((2 * R + 1 + u + (2 * R + 1) + i : Nat) : Int) - (R : Int))) no := fun i hi j h1 h2 => by
    show decide ((((2 * R + 1 + u + (2 * R + 1) + i : Nat) : Int) - (R : Int) + j) % (m : Int) < (w : Int)) = false
    rw [mod_low (by omega) (by omega), decide_eq_false (by omega)]
  -- the round
  have e1 : (daysN (w * m) (calDay (w : Int) (m : Int) rows)).length = sm w fun a => sm m fun b => pAt rows w m (a - (R : Int)) (b - (R : Int)) := by
    rw [days_sm, sm_congr (w * m) (g := fun d => pAt rows w m (d % (w : Int)) (d % (m : Int))) fun d _ => by
      show bi (calDay (w : Int) (m : Int) rows (d : Int)) = bi (calE (atZ w ((d : Int) % (w : Int))) (atZ m ((d : Int) % (m : Int))) (inW w m ((d : Int) % (m : Int))) rows 0)
      rw [cal_ev, atZ_mod, atZ_mod, inW_mod]]
    rw [round_sm hw0 hm0 hg]
    rw [← sm_turn (n := w) R (f := fun a => sm m fun b => pAt rows w m a b) fun a => by
      refine sm_congr m fun b _ => ?_
      show bi (calE (atZ w (a + w)) _ _ rows 0) = bi (calE (atZ w a) _ _ rows 0)
      rw [atZ_per]]
    refine sm_congr w fun a _ => ?_
    rw [← sm_turn (n := m) R (f := fun b => pAt rows w m ((a : Int) - (R : Int)) b) fun b => by
      show bi (calE _ (atZ m (b + m)) (inW w m (b + m)) rows 0) = bi (calE _ (atZ m b) (inW w m b) rows 0)
      rw [atZ_per, inW_per]]
  -- a month
  have e2 : ∀ (M : Nat) (A : Int) (a : Int → Bool), M = m → Ag R (atZ w A) a → sm M (fun b => pAt rows w m A (b - (R : Int))) =
      sm (2 * R + 1) (fun j => bi (calE a (z j.toNat) (lo j.toNat) rows 0)) + u * bi (calE a no ye rows 0) + sm (2 * R + 1) (fun j => bi (calE a no (hi j.toNat) rows 0)) + v * bi (calE a no no rows 0) := fun M A a hM hA => by
    have hm' : M = (2 * R + 1) + u + (2 * R + 1) + v := by omega
    rw [hm', sm_add, sm_add, sm_add]
    congr 1
    · congr 1
      · congr 1
        · exact sm_congr _ fun j hj => hag hA (uN j hj) (lN j hj)
        · refine sm_const _ _ fun j hj => ?_
          have := hag hA (uF (2 * R + 1 + j) (by omega) (by omega)) (lL j hj)
          rw [Int.natCast_add] at this
          exact this
      · refine sm_congr _ fun j hj => ?_
        have := hag hA (uF (2 * R + 1 + u + j) (by omega) (by omega)) (lW j hj)
        rw [Int.natCast_add] at this
        exact this
    · refine sm_const _ _ fun j hj => ?_
      have := hag hA (uF (2 * R + 1 + u + (2 * R + 1) + j) (by omega) (by omega)) (lH j hj)
      rw [Int.natCast_add] at this
      exact this
  have far : ∀ l, bi (calE no no l rows 0) = 0 := fun l => by rw [show calE no no l rows 0 = false from cal_far l rows]; rfl
  have e3 : sm (2 * R + 1) (fun a => sm m fun b => pAt rows w m (a - (R : Int)) (b - (R : Int))) = sm (2 * R + 1) S0 + u * sm (2 * R + 1) SL + sm (2 * R + 1) SW + v * sm (2 * R + 1) SH := by
    rw [← sm_mulc, ← sm_mulc, ← sm_plus, ← sm_plus, ← sm_plus]
    exact sm_congr _ fun i hi => e2 _ _ _ rfl (aN i hi)
  have e4 : sm u (fun a => sm m fun b => pAt rows w m (((2 * R + 1 : Nat) : Int) + a - (R : Int)) (b - (R : Int))) = u * SF := by
    refine sm_const _ _ fun i hiu => ?_
    have z0 : sm (2 * R + 1) (fun j => bi (calE no no (hi j.toNat) rows 0)) = 0 := (sm_const (2 * R + 1) 0 fun _ _ => far _).trans (Nat.mul_zero _)
    rw [e2 _ _ _ rfl (aF i hiu), far, far, z0, Nat.mul_zero, Nat.mul_zero]
    rfl
  have e5 : ∀ W : Nat, W = w → sm W (fun a => sm m fun b => pAt rows w m (a - (R : Int)) (b - (R : Int))) = sm (2 * R + 1) S0 + u * sm (2 * R + 1) SL + sm (2 * R + 1) SW + v * sm (2 * R + 1) SH + u * SF := fun W hW => by
    rw [show W = 2 * R + 1 + u by omega, sm_add, e3, e4]
  rw [e1, e5 w rfl, Nat.mul_add]
  omega
/-! ### the three numbers -/
def lenN (rows : Rows) (w m : Nat) : Nat := (daysN (w * m) (calDay (w : Int) (m : Int) rows)).length
def FormOk (rows : Rows) (a b c : Int) : Prop := ∀ w m : Nat, 2 * reachOf rows + 1 ≤ w → w + (2 * reachOf rows + 1) ≤ m → Nat.gcd m w = 1 → ((lenN rows w m : Nat) : Int) = a * (m : Int) + b * (w : Int) + c
theorem gcd_k1 (k w : Nat) : Nat.gcd (k * w + 1) w = 1 := by
  have h1 := Nat.gcd_dvd_left (k * w + 1) w
  have h2 := Nat.gcd_dvd_right (k * w + 1) w
  have h3 : Nat.gcd (k * w + 1) w ∣ k * w := Nat.dvd_trans h2 (Nat.dvd_mul_left w k)
  exact Nat.dvd_one.mp ((Nat.dvd_add_right h3).mp h1)
theorem form_ok {rows : Rows} {r : Nat} (hf : ∀ q ∈ rows, q.1.fit = true) (hr : reachOf rows = r) : ∃ a b : Int,
    ((lenN rows (4 * r + 1) (3 * (4 * r + 1) + 1) : Nat) : Int) - ((lenN rows (4 * r + 1) (2 * (4 * r + 1) + 1) : Nat) : Int) = ((4 * r + 1 : Nat) : Int) * a ∧
    ((lenN rows (4 * r + 1 + 1) (2 * (4 * r + 1) + 3) : Nat) : Int) - ((lenN rows (4 * r + 1) (2 * (4 * r + 1) + 1) : Nat) : Int) - 2 * a = b ∧
    FormOk rows a b (((lenN rows (4 * r + 1) (2 * (4 * r + 1) + 1) : Nat) : Int) - a * (2 * ((4 * r + 1 : Nat) : Int) + 1) - b * ((4 * r + 1 : Nat) : Int)) := by
  obtain ⟨C, X, Y, h⟩ := count_form rows hf
  rw [hr] at h
  have h0 : lenN rows (4 * r + 1) (2 * (4 * r + 1) + 1) = _ := h (2 * r) (2 * r + 1) _ _ (by omega) (by omega) (gcd_k1 2 _)
  have h1 : lenN rows (4 * r + 1) (3 * (4 * r + 1) + 1) = _ := h (2 * r) (6 * r + 2) _ _ (by omega) (by omega) (gcd_k1 3 _)
  have h2 : lenN rows (4 * r + 1 + 1) (2 * (4 * r + 1) + 3) = _ := h (2 * r + 1) (2 * r + 2) _ _ (by omega) (by omega) (by
    have := gcd_k1 2 (4 * r + 1 + 1)
    rw [show 2 * (4 * r + 1) + 3 = 2 * (4 * r + 1 + 1) + 1 by omega]
    exact this)
  rw [h0, h1, h2]
  refine ⟨(Y : Int), (X : Int) - (Y : Int), ?_, ?_, fun w m hw hm hg => ?_⟩
  · simp only [Int.natCast_add, Int.natCast_mul]
    grind
  · simp only [Int.natCast_add, Int.natCast_mul]
    grind
  · obtain ⟨u, rfl⟩ : ∃ u, w = 2 * r + 1 + u := ⟨w - (2 * r + 1), by rw [hr] at hw; omega⟩
    obtain ⟨v, rfl⟩ : ∃ v, m = 2 * r + 1 + u + (2 * r + 1) + v := ⟨m - (2 * r + 1 + u + (2 * r + 1)), by rw [hr] at hm; omega⟩
    have h3 : lenN rows (2 * r + 1 + u) (2 * r + 1 + u + (2 * r + 1) + v) = _ := h u v _ _ rfl rfl hg
    rw [h3]
    simp only [Int.natCast_add, Int.natCast_mul, Int.add_mul, Int.mul_add, Int.sub_mul, Nat.add_mul, Nat.mul_assoc]
    have e1 : (Y : Int) * (r : Int) = (r : Int) * (Y : Int) := Int.mul_comm _ _
    have e2 : (X : Int) * (r : Int) = (r : Int) * (X : Int) := Int.mul_comm _ _
    have e3 : (Y : Int) * (u : Int) = (u : Int) * (Y : Int) := Int.mul_comm _ _
    have e4 : (X : Int) * (u : Int) = (u : Int) * (X : Int) := Int.mul_comm _ _
    have e5 : (Y : Int) * (v : Int) = (v : Int) * (Y : Int) := Int.mul_comm _ _
    grind
end WF

set_option Elab.async false
set_option linter.all false
set_option maxRecDepth 100000
set_option maxHeartbeats 2000000
/-! WDict: comprehensions whose elements are made, over anything; dicts whose keys are days -/
namespace WF
open PySem L2 Evl
/-! ### comprehensions, once for all that is walked -/
def Sel (f : Nat → Bool) (R : Nat → V → Hp → Prop) (n : Nat) (ys : List V) (H : Hp) : Prop := ys.length = ((List.range n).filter f).length ∧ ∀ (k i : Nat) (y : V), ((List.range n).filter f)[k]? = some i → ys[k]? = some y → R i y H
theorem sel_yes {f : Nat → Bool} {R : Nat → V → Hp → Prop} {n : Nat} {ys : List V} {H H' : Hp} {y : V} (hR : ∀ i y H1 H2, KeepN H1 H2 → R i y H1 → R i y H2) (h : Sel f R n ys H) (hf : f n = true) (e : KeepN H H') (hy : R n y H') : Sel f R (n + 1) (ys ++ [y]) H' := by
  have hr : (List.range (n + 1)).filter f = (List.range n).filter f ++ [n] := by
    rw [List.range_succ, List.filter_append, List.filter_cons, if_pos hf]
    rfl
  refine ⟨by rw [hr, List.length_append, List.length_append, h.1]; rfl, fun k i z hk hz => ?_⟩
  rw [hr] at hk
  rcases Nat.lt_or_ge k ys.length with hlt | hge
  · rw [List.getElem?_append_left (by rw [← h.1]; exact hlt)] at hk
    rw [List.getElem?_append_left hlt] at hz
    exact hR i z _ _ e (h.2 k i z hk hz)
  · rw [List.getElem?_append_right (by rw [← h.1]; exact hge)] at hk
    rw [List.getElem?_append_right hge] at hz
    rw [← h.1] at hk
    have h0 : k - ys.length = 0 := by
      rcases Nat.eq_zero_or_pos (k - ys.length) with q | q
      · exact q
      · rw [List.getElem?_eq_none (by simp; omega)] at hz
        cases hz
    rw [h0] at hk hz
    cases hk
    cases hz
    exact hy
theorem sel_no {f : Nat → Bool} {R : Nat → V → Hp → Prop} {n : Nat} {ys : List V} {H H' : Hp} (hR : ∀ i y H1 H2, KeepN H1 H2 → R i y H1 → R i y H2) (h : Sel f R n ys H) (hf : f n = false) (e : KeepN H H') : Sel f R (n + 1) ys H' := by
  have hr : (List.range (n + 1)).filter f = (List.range n).filter f := by
    rw [List.range_succ, List.filter_append, List.filter_cons, if_neg (by rw [hf]; exact Bool.false_ne_true)]
    exact List.append_nil _
  unfold Sel
  rw [hr]
  exact ⟨h.1, fun k i z hk hz => hR i z _ _ e (h.2 k i z hk hz)⟩
theorem lcX {J : It} {n : Nat} {G : Hp → Prop} {X : Nat → V} (wk : Walk J n G (YFn X)) {σ : L2.St} {H1 : Hp} {j : Nat} {vs : List Nat} {tt : TT} {te : TE} (f : Nat → Bool) (R : Nat → V → Hp → Prop) (hR : ∀ i y H1 H2, KeepN H1 H2 → R i y H1 → R i y H2) (hG : ∀ H', Ex H1 H' → G H') (hn : n ≤ 40000)
    (hw : ∀ x, wipe ((wipe σ vs).set j (some x)) vs = wipe σ vs) (ht : ∀ (i : Nat) H2, Ex H1 H2 → i < n → EvT tt ((wipe σ vs).set j (some (X i))) H2 (f i))
    (he : ∀ (i : Nat) H2, Ex H1 H2 → i < n → f i = true → ∀ Q : VK, (∀ y H3, Ex H2 H3 → R i y H3 → Q y H3) → te ((wipe σ vs).set j (some (X i))) H2 Q) (Q : VK) (q : ∀ Dl H', H1 Dl = none → Ex H1 H' → (∃ ys, H' Dl = some (.lst ys) ∧ Sel f R n ys H') → Q (.ref Dl) H') :
    ∀ Dl, H1 Dl = none → ∃ W : Nat → Nat → Hp → Prop, (∃ m, W 0 m (upd H1 Dl (.lst []))) ∧ ∀ i m H, W i m H →
      (J.stop i H ∧ Q (.ref Dl) H) ∨ (J.go i H ∧ ∃ Nx : Hp → Prop, (∀ H', Nx H' → ∃ m', m' < m ∧ W (i + 1) m' H') ∧ ∀ x H', J.yld i H x H' → gName j x (wipe σ vs) H' fun σ2 H2 => wipe σ2 vs = wipe σ vs ∧ tt σ2 H2 fun b H3 =>
        if b = true then te σ2 H3 fun y H4 => ∃ acc, H4 Dl = some (.lst acc) ∧ acc.length < sizeLine ∧ Nx (upd H4 Dl (.lst (acc ++ [y]))) else Nx H3) := by
  intro Dl hD
  refine lc_it wk (fun i H' => Ex H1 H' ∧ ∃ ys, H' Dl = some (.lst ys) ∧ Sel f R i ys H') ⟨Ex.new hD, [], upd_same, rfl, fun k i y hk hy => by simp at hk⟩ (fun i H' _ p => hG H' p.1) (fun i x H' H2 hi p y => ?_) fun H' p => q Dl H' hD p.1 p.2
  obtain ⟨rfl, rfl⟩ := y
  obtain ⟨p1, ys, p2, p3⟩ := p
  refine ⟨hw _, ht i _ p1 hi _ (Ex.refl _) _ fun H3 e3 => ?_⟩
  cases hf : f i with
  | true =>
    refine he i H3 (p1.trans e3) hi hf _ fun y H4 e4 hy => ⟨ys, e4 _ _ (e3 _ _ p2), ?_, Ex.mut ((p1.trans e3).trans e4) hD, ys ++ [y], upd_same, ?_⟩
    · have h1 := List.length_filter_le f (List.range i)
      rw [List.length_range] at h1
      have h2 := p3.1
      exact Evl.sz_lt (by omega)
    · have kn : KeepN H4 (upd H4 Dl (.lst (ys ++ [y]))) := (KeepN.refl H4).lst (e4 _ _ (e3 _ _ p2))
      exact sel_yes hR p3 hf ((KeepN.of (e3.trans e4)).trans kn) (hR _ _ _ _ kn hy)
  | false => exact ⟨p1.trans e3, ys, e3 _ _ p2, sel_no hR p3 hf (KeepN.of e3)⟩
/-! ### pairs of a day and True -/
def PairsL (K : PySem.W.Frag) (H : Hp) (ys : List V) (es : List Int) : Prop := ∃ ps : List Addr, ys = ps.map V.ref ∧ Paired (fun p (e : Int) => SqT K H p [.int e, .bl true]) ps es
theorem pairs_of {K : PySem.W.Frag} {H : Hp} : ∀ {ys : List V} {es : List Int}, ys.length = es.length → (∀ (k : Nat) y e, ys[k]? = some y → es[k]? = some e → ∃ p, y = .ref p ∧ SqT K H p [.int e, .bl true]) → PairsL K H ys es
  | [], [], _, _ => ⟨[], rfl, .nil⟩
  | y :: ys, e :: es, hl, h => by
    obtain ⟨p, rfl, hp⟩ := h 0 y e rfl rfl
    obtain ⟨ps, rfl, hps⟩ := pairs_of (ys := ys) (es := es) (by simpa using hl) fun k z c hz hc => h (k + 1) z c hz hc
    exact ⟨p :: ps, rfl, .cons hp hps⟩
  | [], _ :: _, hl, _ => by simp at hl
  | _ :: _, [], hl, _ => by simp at hl
theorem pairs_sel {K : PySem.W.Frag} {H : Hp} {f : Nat → Bool} {n : Nat} {ys : List V} {e : Nat → Int} (h : Sel f (fun i y H => ∃ p, y = .ref p ∧ SqT K H p [.int (e i), .bl true]) n ys H) : PairsL K H ys (((List.range n).filter f).map e) := by
  refine pairs_of (by rw [List.length_map]; exact h.1) fun k y c hy hc => ?_
  rw [List.getElem?_map] at hc
  cases hi : ((List.range n).filter f)[k]? with
  | none => rw [hi] at hc; cases hc
  | some i =>
    rw [hi] at hc
    cases hc
    exact h.2 k i y hi hy
/-- the dict of days ds, in their order -/
def dk (ds : List Nat) : List (Key × V) := ds.map fun (d : Nat) => ((Sum.inl (d : Int) : Key), V.bl true)
def addD (acc : List Nat) (d : Nat) : List Nat := if d ∈ acc then acc else acc ++ [d]
theorem putK_dk (acc : List Nat) (d : Nat) : putK (dk acc) (Sum.inl (d : Int)) (.bl true) = dk (addD acc d) := by
  have hany : ((dk acc).any fun kv => decide (kv.1 = (Sum.inl (d : Int) : Key))) = decide (d ∈ acc) := by
    rw [Bool.eq_iff_iff, List.any_eq_true, decide_eq_true_iff]
    constructor
    · rintro ⟨kv, h1, h2⟩
      have h2 := of_decide_eq_true h2
      unfold dk at h1
      rw [List.mem_map] at h1
      obtain ⟨c, hc, rfl⟩ := h1
      have : (c : Int) = (d : Int) := Sum.inl.inj h2
      have : c = d := by omega
      exact this ▸ hc
    · intro h
      exact ⟨(Sum.inl (d : Int), .bl true), List.mem_map.mpr ⟨d, h, rfl⟩, decide_eq_true rfl⟩
  unfold putK addD
  rw [hany]
  by_cases h : d ∈ acc
  · rw [decide_eq_true h, if_pos rfl, if_pos h]
    unfold dk
    rw [List.map_map]
    apply List.map_congr_left
    intro c _
    show (if (Sum.inl (c : Int) : Key) = Sum.inl (d : Int) then ((Sum.inl (c : Int) : Key), V.bl true) else (Sum.inl (c : Int), V.bl true)) = _
    split <;> rfl
  · rw [decide_eq_false h, if_neg Bool.false_ne_true, if_neg h]
    unfold dk
    rw [List.map_append]
    rfl
theorem addD_mem {acc : List Nat} {d x : Nat} : x ∈ addD acc d ↔ x ∈ acc ∨ x = d := by
  unfold addD
  by_cases h : d ∈ acc
  · rw [if_pos h]
    constructor
    · exact .inl
    · rintro (h' | rfl)
      · exact h'
      · exact h
  · rw [if_neg h]; simp
theorem addD_nodup {acc : List Nat} {d : Nat} (h : acc.Nodup) : (addD acc d).Nodup := by
  unfold addD
  by_cases hd : d ∈ acc
  · rw [if_pos hd]; exact h
  · rw [if_neg hd]
    refine List.nodup_append.mpr ⟨h, by simp, fun a ha b hb => ?_⟩
    simp at hb
    subst hb
    exact fun e => hd (e ▸ ha)
theorem merge_dk : ∀ (es : List Nat) (acc : List Nat), mergeK (dk acc) (dk es) = dk (es.foldl addD acc)
  | [], _ => rfl
  | e :: es, acc => by
    show mergeK (putK (dk acc) (Sum.inl (e : Int)) (.bl true)) (dk es) = _
    rw [putK_dk, merge_dk es]
    rfl
theorem fold_mem : ∀ (es acc : List Nat) (x : Nat), x ∈ es.foldl addD acc ↔ x ∈ acc ∨ x ∈ es
  | [], _, _ => by simp
  | e :: es, acc, x => by
    rw [List.foldl_cons, fold_mem es, addD_mem, List.mem_cons]
    exact or_assoc
theorem fold_nodup : ∀ (es acc : List Nat), acc.Nodup → (es.foldl addD acc).Nodup
  | [], _, h => h
  | e :: es, acc, h => fold_nodup es _ (addD_nodup h)
/-- the days of a round by p, as a dict's keys -/
structure DaysOk (N : Nat) (p : Int → Bool) (ds : List Nat) : Prop where
  nd : ds.Nodup
  mem : ∀ d : Nat, d ∈ ds ↔ d < N ∧ p (d : Int) = true
theorem DaysOk.len {N : Nat} {p : Int → Bool} {ds : List Nat} (h : DaysOk N p ds) : ds.length = (daysN N p).length :=
  nodup_len h.nd (daysN_nodup N p) fun x => by rw [h.mem, daysN_mem]
theorem DaysOk.le {N : Nat} {p : Int → Bool} {ds : List Nat} (h : DaysOk N p ds) : ds.length ≤ N := by
  rw [h.len]
  exact daysN_len N p
theorem dk_get {ds : List Nat} {d : Nat} : (valV (dk ds) (Sum.inl (d : Int))).isSome = decide (d ∈ ds) := by
  rw [← valV_any, Bool.eq_iff_iff, List.any_eq_true, decide_eq_true_iff]
  constructor
  · rintro ⟨kv, h1, h2⟩
    have h2 := of_decide_eq_true h2
    unfold dk at h1
    rw [List.mem_map] at h1
    obtain ⟨c, hc, rfl⟩ := h1
    have : (c : Int) = (d : Int) := Sum.inl.inj h2
    have : c = d := by omega
    exact this ▸ hc
  · intro h
    exact ⟨(Sum.inl (d : Int), .bl true), List.mem_map.mpr ⟨d, h, rfl⟩, decide_eq_true rfl⟩
section
variable {K : PySem.W.Frag} {σ : L2.St} {H H' : Hp} {ta tb tc te tv : TE} {x y z v : V} {r r' : R2} {t u : TT} {D : Ends} {tz : TS}
/-- dict(a new list of such pairs) -/
theorem er_dict {es : List Nat} (h : EvR ta σ H fun p H2 => ∃ ys, H2 p = some (.lst ys) ∧ PairsL K H2 ys (es.map fun (d : Nat) => (d : Int))) :
    EvR (tCB (fun xs H Q => ∃ (a : Addr) (ps : List Addr) (kvs : List (Key × V)), xs = [.ref a] ∧ SqL K H a (ps.map V.ref) ∧ Paired (fun p kv => SqT K H p [kV kv.1, kv.2]) ps kvs ∧ ∀ p, H p = none → Q (.ref p) (upd H p (.dK (mergeK [] kvs)))) (tCons ta tNil)) σ H
      fun p H2 => H2 p = some (.dK (dk (es.foldl addD []))) := fun H1 e Q q =>
  h H1 e _ fun p H2 hp e2 ⟨ys, h2, ps, hy, hps⟩ => by
    subst hy
    have hpk : Paired (fun p (kv : Key × V) => SqT K H2 p [kV kv.1, kv.2]) ps (dk es) := by
      have : ∀ {ps : List Addr} {es : List Nat}, Paired (fun p (e : Int) => SqT K H2 p [.int e, .bl true]) ps (es.map fun (d : Nat) => (d : Int)) → Paired (fun p (kv : Key × V) => SqT K H2 p [kV kv.1, kv.2]) ps (dk es) := by
        intro ps
        induction ps with
        | nil =>
          intro es h
          cases es with
          | nil => exact .nil
          | cons a es => cases h
        | cons p ps ih =>
          intro es h
          cases es with
          | nil => cases h
          | cons a es =>
            cases h with
            | cons h1 h2 => exact .cons h1 (ih h2)
      exact this hps
    refine ⟨p, ps, dk es, rfl, sq_of h2, hpk, fun l hl => q l _ (fresh_back e2 hl) (e2.trans (Ex.new hl)) ?_⟩
    have := merge_dk es []
    rw [show dk [] = [] from rfl] at this
    rw [this]
    exact upd_same
theorem tup_V {Q : VK} (ha : Ev ta σ H x) (k : ∀ t H2, Ex H H2 → H2 t = some (.tup [x, .bl true]) → Q (.ref t) H2) : tTup (tCons ta (tCons (tC (.bl true)) tNil)) σ H Q :=
  ha H (Ex.refl H) _ fun H1 e1 => ⟨by show 2 ≤ sizeLine; decide, fun t ht => k t _ (e1.trans (Ex.new ht)) upd_same⟩
theorem pair_kn (e : Int) (i : Nat) (y : V) (H1 H2 : Hp) (kn : KeepN H1 H2) (h : ∃ p, y = .ref p ∧ SqT K H1 p [.int e, .bl true]) : ∃ p, y = .ref p ∧ SqT K H2 p [.int e, .bl true] := by
  obtain ⟨p, h1, h2⟩ := h
  exact ⟨p, h1, sqt_kn kn h2⟩
/-- [(e, True) for x in range(n)] -/
theorem er_pairsR {tA : TA} {j : Nat} {vs : List Nat} {n : Int} (e : Nat → Int) (h : EvA tA σ H [.int n]) (hn : 0 ≤ n ∧ n ≤ 40000) (hw : ∀ x, wipe ((wipe σ vs).set j (some x)) vs = wipe σ vs)
    (he : ∀ (i : Nat) H1, Ex H H1 → (i : Int) < n → Ev te ((wipe σ vs).set j (some (.int (0 + (i : Int))))) H1 (.int (e i))) :
    EvR (tLc (iRng1 tA) (gName j) tYes (tTup (tCons te (tCons (tC (.bl true)) tNil))) vs) σ H fun p H2 => ∃ ys, H2 p = some (.lst ys) ∧ PairsL K H2 ys ((List.range n.toNat).map e) := fun H0 ee Q q => h H0 ee _ fun H1 e1 => ⟨n, rfl, by omega, by omega,
  lcX (walk_range (lo := 0) (n := n.toNat)) (fun _ => true) (fun i y H => ∃ p, y = .ref p ∧ SqT K H p [.int (e i), .bl true]) (fun i y H1 H2 => pair_kn (e i) i y H1 H2) (fun _ _ => trivial) (by omega) hw (fun i H2 e2 hi => et_yes) (fun i H2 e2 hi _ Q q => tup_V (he i H2 ((ee.trans e1).trans e2) (by omega)) fun t H3 e3 ht => q _ H3 e3 ⟨t, rfl, st_of ht⟩) Q fun Dl H' hD e' ⟨ys, h1, h2⟩ => q Dl H' (fresh_back e1 hD) (e1.trans e') ⟨ys, h1, by
    have := pairs_sel h2
    rwa [List.filter_eq_self.mpr (fun _ _ => rfl)] at this⟩⟩
/-- [(e, True) for x in d if t], d a dict of days that stands locked at a -/
theorem er_pairsK {tl : TE} {a : Addr} {od : Obj} {ds : List Nat} {j : Nat} {vs : List Nat} (f : Nat → Bool) (e : Nat → Int) (h : Ev tl σ H (.ref a)) (hd : H a = some (.frz od (.dK (dk ds)))) (hz : ds.length ≤ 40000) (hw : ∀ x, wipe ((wipe σ vs).set j (some x)) vs = wipe σ vs)
    (ht : ∀ (i : Nat) H1, Ex H H1 → i < ds.length → EvT t ((wipe σ vs).set j (some (.int ((ds.getD i 0 : Nat) : Int)))) H1 (f i))
    (he : ∀ (i : Nat) H1, Ex H H1 → i < ds.length → f i = true → Ev te ((wipe σ vs).set j (some (.int ((ds.getD i 0 : Nat) : Int)))) H1 (.int (e i))) :
    EvR (tLc (iKeys tl) (gName j) t (tTup (tCons te (tCons (tC (.bl true)) tNil))) vs) σ H fun p H2 => ∃ ys, H2 p = some (.lst ys) ∧ PairsL K H2 ys (((List.range ds.length).filter f).map e) := fun H0 ee Q q => h H0 ee _ fun H1 e1 => ⟨a, od, rfl, .inl ⟨dk ds, (ee.trans e1) _ _ hd, by
  have wk : Walk (Itk a od (dk ds)) (dk ds).length (fun H => H a = some (.frz od (.dK (dk ds)))) (YFn fun i => .int ((ds.getD i 0 : Nat) : Int)) := (walk_keys (d := a) (o := od) (kvs := dk ds)).mono (fun _ h => h) fun i H x H' hi _ y => by
    obtain ⟨h1, k, v, hk, hx⟩ := y
    refine ⟨h1, ?_⟩
    show x = V.int ((ds.getD i 0 : Nat) : Int)
    unfold dk at hk
    rw [List.getElem?_map] at hk
    rw [List.getD_eq_getElem?_getD]
    cases hi : ds[i]? with
    | none => rw [hi] at hk; cases hk
    | some d =>
      rw [hi] at hk
      cases hk
      exact hx
  have hl : (dk ds).length = ds.length := List.length_map _
  rw [hl] at wk
  refine lcX wk f (fun i y H => ∃ p, y = .ref p ∧ SqT K H p [.int (e i), .bl true]) (fun i y H1 H2 => pair_kn (e i) i y H1 H2) (fun H' e' => ((ee.trans e1).trans e') _ _ hd) hz hw (fun i H2 e2 hi => ht i H2 ((ee.trans e1).trans e2) hi) (fun i H2 e2 hi hf Q q => tup_V (he i H2 ((ee.trans e1).trans e2) hi hf) fun t H3 e3 ht => q _ H3 e3 ⟨t, rfl, st_of ht⟩) Q fun Dl H' hD e' ⟨ys, h1, h2⟩ => q Dl H' (fresh_back e1 hD) (e1.trans e') ⟨ys, h1, pairs_sel h2⟩⟩⟩
/-- a new thing made while the object at d is walked -/
theorem ex_lock {H1 : Hp} {d : Addr} {u : HO} {od : Obj} (e : Ex H H1) : Ex (upd H d (.frz od u)) (upd H1 d (.frz od u)) := fun b o h => by
  by_cases hb : b = d
  · subst hb
    rw [upd_same] at h ⊢
    exact h
  · rw [upd_ne hb] at h ⊢
    exact e _ _ h
theorem ex_unlock {H1 H2 : Hp} {d : Addr} {u : HO} {od : Obj} (hd : H1 d = some u) (e : Ex (upd H1 d (.frz od u)) H2) : Ex H1 (upd H2 d u) := fun b o h => by
  by_cases hb : b = d
  · subst hb
    rw [upd_same, ← h, hd]
  · rw [upd_ne hb]
    refine e _ _ ?_
    rw [upd_ne hb]
    exact h
theorem er_lock {d : Addr} {u : HO} {R R' : Addr → Hp → Prop} (hd : H d = some u) (mu : Mut (some u)) (h : ∀ od, EvR te σ (upd H d (.frz od u)) R) (hR : ∀ od p H2, p ≠ d → H2 d = some (.frz od u) → R p H2 → R' p (upd H2 d u)) : EvR (tLockE te) σ H R' := fun H1 e Q q =>
  ⟨d, u, e _ _ hd, mu, fun od => h od _ (ex_lock e) _ fun p H2 hp e2 hr => by
    have hpd : p ≠ d := fun z => by
      rw [z, upd_same] at hp
      cases hp
    refine ⟨e2 _ _ upd_same, q p _ ?_ (ex_unlock (e _ _ hd) e2) (hR od p H2 hpd (e2 _ _ upd_same) hr)⟩
    rw [upd_ne hpd] at hp
    exact hp⟩
theorem pairs_unlock {d : Addr} {u : HO} {od : Obj} {H2 : Hp} (hu : ∀ xs, u ≠ .tup xs) (h : H2 d = some (.frz od u)) {ys : List V} {es : List Int} (hp : PairsL K H2 ys es) : PairsL K (upd H2 d u) ys es := by
  obtain ⟨ps, h1, h2⟩ := hp
  refine ⟨ps, h1, Paired.mapP h2 fun p e hq => ?_⟩
  rcases hq with (hq | ⟨o, hq⟩) | hq
  · refine .inl (.inl ?_)
    rw [upd_ne (ne_of hq h (by intro z; cases z))]
    exact hq
  · refine .inl (.inr ⟨o, ?_⟩)
    rw [upd_ne (ne_of hq h (by intro z; injection z with z1 z2; exact hu _ z2.symm))]
    exact hq
  · exact .inr hq
/-- [(e, True) for x in a new list of days] -/
theorem er_pairsL {tl : TE} {ds : List Nat} {j : Nat} {vs : List Nat} (e : Nat → Int) (h : EvL tl σ H (ds.map fun (d : Nat) => V.int (d : Int))) (hz : ds.length ≤ 40000) (hw : ∀ x, wipe ((wipe σ vs).set j (some x)) vs = wipe σ vs)
    (he : ∀ (i : Nat) H1, Ex H H1 → i < ds.length → Ev te ((wipe σ vs).set j (some (.int ((ds.getD i 0 : Nat) : Int)))) H1 (.int (e i))) :
    EvR (tLc (iList K tl) (gName j) tYes (tTup (tCons te (tCons (tC (.bl true)) tNil))) vs) σ H fun p H2 => ∃ ys, H2 p = some (.lst ys) ∧ PairsL K H2 ys ((List.range ds.length).map e) := fun H0 ee Q q => h H0 ee _ fun a H1 ha e1 h1 => ⟨a, rfl, ⟨_, sq_of h1⟩, by
  have wk : Walk (Itl K a) (ds.map fun (d : Nat) => V.int (d : Int)).length (fun H => SqL K H a (ds.map fun (d : Nat) => V.int (d : Int))) (YFn fun i => .int ((ds.getD i 0 : Nat) : Int)) := (walk_list (K := K) (a := a) (xs := ds.map fun (d : Nat) => V.int (d : Int))).mono (fun _ h => h) fun i H x H' hi _ y => by
    obtain ⟨h1, hk⟩ := y
    refine ⟨h1, ?_⟩
    show x = V.int ((ds.getD i 0 : Nat) : Int)
    rw [List.getElem?_map] at hk
    rw [List.getD_eq_getElem?_getD]
    cases hi : ds[i]? with
    | none => rw [hi] at hk; cases hk
    | some d =>
      rw [hi] at hk
      exact (Option.some.inj hk).symm
  rw [List.length_map] at wk
  refine lcX wk (fun _ => true) (fun i y H => ∃ p, y = .ref p ∧ SqT K H p [.int (e i), .bl true]) (fun i y H1 H2 => pair_kn (e i) i y H1 H2) (fun H' e' => sq_of (e' _ _ h1)) hz hw (fun i H2 e2 hi => et_yes) (fun i H2 e2 hi _ Q q => tup_V (he i H2 ((ee.trans e1).trans e2) hi) fun t H3 e3 ht => q _ H3 e3 ⟨t, rfl, st_of ht⟩) Q fun Dl H' hD e' ⟨ys, h1, h2⟩ => q Dl H' (fresh_back e1 hD) (e1.trans e') ⟨ys, h1, by
    have := pairs_sel h2
    rwa [List.filter_eq_self.mpr (fun _ _ => rfl)] at this⟩⟩
theorem el_listD {a : Addr} {ds : List Nat} (h : Ev ta σ H (.ref a)) (hd : H a = some (.dK (dk ds))) : EvL (tCB rListD (tCons ta tNil)) σ H (ds.map fun (d : Nat) => V.int (d : Int)) := fun H1 e Q q => h H1 e _ fun H2 e2 => ⟨a, dk ds, rfl, e2 _ _ (e _ _ hd), fun l hl => q l _ (fresh_back e2 hl) (e2.trans (Ex.new hl)) (by
  unfold dk
  rw [List.map_map]
  exact upd_same)⟩
theorem ev_din {a : Addr} {ds : List Nat} {d : Nat} (h : Ev ta σ H (.int (d : Int))) (h2 : Ev tb σ H (.ref a)) (hd : H a = some (.dK (dk ds))) : Ev (tDIn ta tb) σ H (.bl (decide (d ∈ ds))) := fun H1 e Q q =>
  h H1 e _ fun H2 e2 => h2 H2 (e.trans e2) _ fun H3 e3 => ⟨a, _, rfl, DGet.k (k := Sum.inl (d : Int)) (((e.trans e2).trans e3) _ _ hd), by rw [dk_get]; exact q H3 (e2.trans e3)⟩
theorem ev_dnotin {a : Addr} {ds : List Nat} {d : Nat} (h : Ev ta σ H (.int (d : Int))) (h2 : Ev tb σ H (.ref a)) (hd : H a = some (.dK (dk ds))) : Ev (tDNotIn ta tb) σ H (.bl (!decide (d ∈ ds))) := fun H1 e Q q =>
  h H1 e _ fun H2 e2 => h2 H2 (e.trans e2) _ fun H3 e3 => ⟨a, _, rfl, DGet.k (k := Sum.inl (d : Int)) (((e.trans e2).trans e3) _ _ hd), by rw [dk_get]; exact q H3 (e2.trans e3)⟩
end
section
variable {K : PySem.W.Frag} {σ : L2.St} {H H' : Hp} {ta tb tc te tv td : TE} {x y z v : V} {r r' : R2} {t u : TT} {D : Ends} {tz tu : TS}
theorem sqt_other {a d : Addr} {o o' : HO} {xs : List V} (hd : H d = some o) (h1 : ∀ xs, o ≠ .tup xs) (h2 : ∀ ob xs, o ≠ .frz ob (.tup xs)) (h : SqT K H a xs) : SqT K (upd H d o') a xs := by
  rcases h with (h | ⟨ob, h⟩) | h
  · refine .inl (.inl ?_)
    rw [upd_ne (ne_of h hd (fun z => h1 _ z.symm))]
    exact h
  · refine .inl (.inr ⟨ob, ?_⟩)
    rw [upd_ne (ne_of h hd (fun z => h2 _ _ z.symm))]
    exact h
  · exact .inr h
theorem q_asgD {i : Nat} (k : ∀ p, H p = none → tz D (σ.set i (some (.ref p))) (upd H p (.dK (dk [])))) : tSeq (tAsg tDNewK (gName i)) tz D σ H := fun p hp => k p hp
theorem s_dput {a : Addr} {ds : List Nat} {d : Nat} (hd : H a = some (.dK (dk ds))) (hv : Ev tv σ H (.bl true)) (ho : Ev td σ H (.ref a)) (hk : Ev ta σ H (.int (d : Int))) (hz : ds.length < 100000) (k : ∀ H1, Ex H H1 → D.nx σ (upd H1 a (.dK (dk (addD ds d))))) : sDPut td ta tv D σ H :=
  hv H (Ex.refl H) _ fun H1 e1 => ho H1 e1 _ fun H2 e2 => hk H2 (e1.trans e2) _ fun H3 e3 => ⟨a, _, rfl, DPut.k (k := Sum.inl (d : Int)) (((e1.trans e2).trans e3) _ _ hd) (by
    unfold dk
    rw [List.length_map]
    exact Evl.sz_lt hz), by
    rw [putK_dk]
    exact k H3 ((e1.trans e2).trans e3)⟩
theorem q_forR3 {tA : TA} {j : Nat} {lo hi c : Int} {n : Nat} (h : EvA tA σ H [.int lo, .int hi, .int c]) (hr : RgC lo hi c n) (Pv : Nat → L2.St → Hp → Prop) (h0 : ∀ H1, Ex H H1 → Pv 0 σ H1)
    (hs : ∀ (i : Nat) σ' H', i < n → Pv i σ' H' → tu { D with nx := Pv (i + 1), ct := Pv (i + 1), bk := tz D } (σ'.set j (some (.int (lo + (i : Int) * c)))) H') (hd : ∀ σ' H', Pv n σ' H' → tz D σ' H') : tSeq (tFor (iRng3 tA) (gName j) tu) tz D σ H :=
  h H (Ex.refl H) _ fun H1 e => ⟨lo, hi, c, n, rfl, hr, for_it (D := { D with nx := tz D }) (walk_rangeC (lo := lo) (c := c) (n := n)) Pv (h0 H1 e) (fun _ _ _ _ _ => trivial) (fun i x σ' H' H2 hi p y => by
    obtain ⟨rfl, rfl⟩ := y
    exact hs i σ' H2 hi p) hd⟩
end
/-! ### lands in a list -/
def LandL (K : PySem.W.Frag) (H : Hp) : List V → List (Nat × Nat) → Prop
  | [], [] => True
  | x :: xs, l :: ls => (∃ p, x = .ref p ∧ SqT K H p [.int (l.1 : Int), .int (l.2 : Int)]) ∧ LandL K H xs ls
  | _, _ => False
section
variable {K : PySem.W.Frag} {H H' : Hp}
theorem LandL.kn (e : KeepN H H') : ∀ {xs : List V} {ls : List (Nat × Nat)}, LandL K H xs ls → LandL K H' xs ls
  | [], [], _ => trivial
  | _ :: _, _ :: _, ⟨⟨p, h0, h1⟩, h2⟩ => ⟨⟨p, h0, sqt_kn e h1⟩, LandL.kn e h2⟩
  | [], _ :: _, h => h
  | _ :: _, [], h => h
theorem LandL.len : ∀ {xs : List V} {ls : List (Nat × Nat)}, LandL K H xs ls → xs.length = ls.length
  | [], [], _ => rfl
  | _ :: _, _ :: _, h => congrArg (· + 1) (LandL.len h.2)
  | [], _ :: _, h => h.elim
  | _ :: _, [], h => h.elim
theorem LandL.snoc : ∀ {xs : List V} {ls : List (Nat × Nat)} {p : Addr} {l : Nat × Nat}, LandL K H xs ls → SqT K H p [.int (l.1 : Int), .int (l.2 : Int)] → LandL K H (xs ++ [.ref p]) (ls ++ [l])
  | [], [], p, _, _, h => ⟨⟨p, rfl, h⟩, trivial⟩
  | _ :: _, _ :: _, _, _, h, g => ⟨h.1, LandL.snoc h.2 g⟩
  | [], _ :: _, _, _, h, _ => h.elim
  | _ :: _, [], _, _, h, _ => h.elim
theorem LandL.app : ∀ {xs ys : List V} {ls ms : List (Nat × Nat)}, LandL K H xs ls → LandL K H ys ms → LandL K H (xs ++ ys) (ls ++ ms)
  | [], _, [], _, _, h => h
  | _ :: _, _, _ :: _, _, h, g => ⟨h.1, LandL.app h.2 g⟩
  | [], _, _ :: _, _, h, _ => h.elim
  | _ :: _, _, [], _, h, _ => h.elim
theorem LandL.mem : ∀ {xs : List V} {ls : List (Nat × Nat)} {x : V}, LandL K H xs ls → x ∈ xs → ∃ l ∈ ls, ∃ p, x = .ref p ∧ SqT K H p [.int (l.1 : Int), .int (l.2 : Int)]
  | _ :: _, l :: _, x, h, hm => by
    rcases List.mem_cons.mp hm with rfl | hm
    · exact ⟨l, List.mem_cons_self, h.1⟩
    · obtain ⟨m, h1, h2⟩ := LandL.mem h.2 hm
      exact ⟨m, List.mem_cons_of_mem _ h1, h2⟩
  | [], [], _, _, hm => nomatch hm
  | [], _ :: _, _, h, _ => h.elim
  | _ :: _, [], _, h, _ => h.elim
end
/-- the law's row of lands, by w below a total, then by total -/
def innerL (t M n : Nat) : List (Nat × Nat) := (List.range n).flatMap fun j => if t - (2 + j) ≤ M ∧ Nat.gcd (t - (2 + j)) (2 + j) = 1 then [(2 + j, t - (2 + j))] else []
def landsL (W M n : Nat) : List (Nat × Nat) := (List.range n).flatMap fun i => innerL (5 + i) M (min W ((4 + i) / 2) - 1)
theorem innerL_succ (t M n : Nat) : innerL t M (n + 1) = innerL t M n ++ (if t - (2 + n) ≤ M ∧ Nat.gcd (t - (2 + n)) (2 + n) = 1 then [(2 + n, t - (2 + n))] else []) := by
  unfold innerL
  rw [List.range_succ, List.flatMap_append]
  simp
theorem landsL_succ (W M n : Nat) : landsL W M (n + 1) = landsL W M n ++ innerL (5 + n) M (min W ((4 + n) / 2) - 1) := by
  unfold landsL
  rw [List.range_succ, List.flatMap_append]
  simp
theorem innerL_len (t M : Nat) : ∀ n, (innerL t M n).length ≤ n
  | 0 => Nat.le_refl _
  | n + 1 => by
    rw [innerL_succ, List.length_append]
    have := innerL_len t M n
    split
    · show _ + 1 ≤ _; omega
    · show _ + 0 ≤ _; omega
theorem innerL_mem {t M n : Nat} {l : Nat × Nat} (h : l ∈ innerL t M n) : 2 ≤ l.1 ∧ l.1 < 2 + n ∧ l.2 = t - l.1 ∧ l.2 ≤ M ∧ Nat.gcd l.2 l.1 = 1 := by
  unfold innerL at h
  rw [List.mem_flatMap] at h
  obtain ⟨j, hj, h⟩ := h
  rw [List.mem_range] at hj
  split at h
  · rename_i hc
    rw [List.mem_singleton] at h
    subst h
    exact ⟨by show 2 ≤ 2 + j; omega, by show 2 + j < 2 + n; omega, rfl, hc.1, hc.2⟩
  · cases h
/-- every land of it is one: w within W, m within M -/
theorem landsL_mem {W M n : Nat} {l : Nat × Nat} (h : l ∈ landsL W M n) : 2 ≤ l.1 ∧ l.1 ≤ W ∧ l.1 < l.2 ∧ l.2 ≤ M ∧ Nat.gcd l.2 l.1 = 1 := by
  unfold landsL at h
  rw [List.mem_flatMap] at h
  obtain ⟨i, hi, h⟩ := h
  obtain ⟨h1, h2, h3, h4, h5⟩ := innerL_mem h
  exact ⟨h1, by omega, by omega, h4, h5⟩
theorem rgC_by {i n c : Nat} (hi : i < c) (hn : 0 < n) (hc : c < 100000) (hz : c * n ≤ 1000000) : RgC (i : Int) ((c * n : Nat) : Int) (c : Int) n := by
  have hle : c ≤ c * n := Nat.le_mul_of_pos_right c hn
  have e : Builtin.Range.rangeSize (i : Int) ((c * n : Nat) : Int) (c : Int) = n := by
    unfold Builtin.Range.rangeSize
    rw [if_pos (by omega), if_pos (by omega)]
    have h1 : ((c * n : Nat) : Int) - (i : Int) - 1 = ((c : Int) - 1 - (i : Int)) + (c : Int) * ((n : Int) - 1) := by
      rw [Int.mul_sub, Int.mul_one, Int.natCast_mul]
      omega
    rw [h1, Int.add_mul_ediv_left _ _ (by omega), Int.ediv_eq_zero_of_lt (by omega) (by omega)]
    omega
  refine ⟨by omega, by omega, ?_, e⟩
  unfold Builtin.Range.small
  rw [e]
  simp only [Builtin.Range.rangeFitsLong, Bool.and_eq_true, Bool.or_eq_true, decide_eq_true_eq, beq_iff_eq]
  rw [if_pos (by omega)]
  have hn2 : n ≤ c * n := Nat.le_mul_of_pos_left n (by omega)
  refine ⟨⟨⟨⟨by omega, by omega⟩, by omega⟩, by omega⟩, .inr (by rw [Bool.and_eq_true, decide_eq_true_iff, decide_eq_true_iff]; omega)⟩
end WF

set_option Elab.async false
set_option linter.all false
set_option maxRecDepth 100000
set_option maxHeartbeats 400000
/-! WLong: for i in range(a, b), however far a and b lie -/
namespace WF
open PySem L2 Evl PySem.Spec PyProof.Rows
theorem turn_long {P : Program} {w : World} {K : PySem.W.Frag} {tg : Expr} (it : Addr) (lo : Int) (n : Nat) : Turn P w K tg (Itr lo n) [it] it (fun i h => IsLongIter h it (lo + (i : Nat) * 1) ((n : Int) - (i : Nat)) 1) where
  mem := by simp
  obj := fun i h st b hb => by
    have e : b = it := by simpa using hb
    rw [e]
    exact ⟨_, st, fun v z => nomatch (show Data.fields _ = Data.cell v from z)⟩
  keep := fun i h h' st k => k it (by simp) _ st
  item := fun X hP hw hK hc i pins s σ H E I hf st hg => by
    cases hP
    cases hw
    cases hK
    obtain ⟨f0, f1, f2, f3, f4, f5⟩ := hf it (by simp)
    refine (Walks.longrange (prog := X.prog) (w := X.w) (I.ok.hd hc) it lo 1 n).item i s _ _ hg st fun v h' tk hv st' kk => ?_
    obtain ⟨t, rfl⟩ := hv
    have I1 : Inv X pins σ H { s with heap := h', toks := tk } := I.turned (fun b o hb e => kk b o (by simpa using hb) e) f0 f1 f3 f4 f5
    refine ⟨_, rfl, go_of (n := "longrange_iterator") (s := { s with heap := h', toks := tk }) st' rfl rfl (by decide) ⟨.int (lo + i), H, I1, ⟨t, by rw [Int.mul_one]⟩, ⟨rfl, rfl⟩, st', fun b hb => (hf b hb).1⟩⟩
  done := fun X hP hw hK hc i pins s σ H E I hf st hg => by
    cases hP
    cases hw
    cases hK
    obtain ⟨f0, f1, f2, f3, f4, f5⟩ := hf it (by simp)
    exact wpAny_pyNext_long_end (I.ok.hd hc) st (by have : n ≤ i := hg; omega) fun h' eb => ⟨rfl, I.turned (t' := s.toks) (fun b o hb e => eb b o hb e) f0 f1 f3 f4 f5⟩
  self := fun _ _ _ _ _ st h => wpAny_pyIter_longiter st h
section
variable {X : Cx} {tg : Expr}
theorem range_itA {pins : List (Addr × Obj)} {σ : L2.St} {H : Hp} {s : Shared} {R : It → Hp → Prop} {E : Value → Shared → Prop} {lo hi : Int} {t u v : Tok} {tk : Nat} (I : Inv X pins σ H s)
    (q : R (Itr lo (hi - lo).toNat) H) : wpAny (model X.prog X.w) X.A (pyIter (.ref s.heap.objs.size)) (PIE X pins σ tg R) E { s with heap := s.heap.push { cls := .type "range", data := .fields #[.int lo t, .int hi u, .int 1 v] }, toks := tk } := by
  have I1 : Inv X pins σ H { s with heap := s.heap.push { cls := .type "range", data := .fields #[.int lo t, .int hi u, .int 1 v] }, toks := tk } := I.kept fun b o e => Heap.get?_push_of_some _ e
  have e1 : lo + ((0 : Nat) : Int) * 1 = lo := by simp
  have e2 : (((hi - lo).toNat : Nat) : Int) - ((0 : Nat) : Int) = Builtin.Range.rangeSize lo hi 1 := by rw [rangeSize_one]; split <;> omega
  cases hs : Builtin.Range.small lo hi 1 with
  | true =>
    refine wpAny_pyIter_range (IsRange.new ..) hs ?_
    refine ⟨_, [(s.heap.push { cls := .type "range", data := .fields #[.int lo t, .int hi u, .int 1 v] }).objs.size], _, _, H, rfl, I1.kept (t' := tk) fun b o e => Heap.get?_push_of_some _ e, turn_range _ lo (hi - lo).toNat, ?_, fun b hb => ?_, q⟩
    · show IsRangeIter _ _ (lo + ((0 : Nat) : Int) * 1) ((((hi - lo).toNat : Nat) : Int) - ((0 : Nat) : Int)) 1
      rw [e1, e2]
      exact Heap.get?_push_size _ rfl
    · have eb : b = (s.heap.push { cls := .type "range", data := .fields #[.int lo t, .int hi u, .int 1 v] }).objs.size := by simpa using hb
      cases eb
      exact I1.fpOk (Nat.le_refl _) (I1.hok.fresh (Nat.le_refl _))
  | false =>
    refine wpAny_pyIter_longrange (IsRange.new ..) hs ?_
    refine ⟨_, [(s.heap.push { cls := .type "range", data := .fields #[.int lo t, .int hi u, .int 1 v] }).objs.size], _, _, H, rfl, I1.kept (t' := tk) fun b o e => Heap.get?_push_of_some _ e, turn_long _ lo (hi - lo).toNat, ?_, fun b hb => ?_, q⟩
    · show IsLongIter _ _ (lo + ((0 : Nat) : Int) * 1) ((((hi - lo).toNat : Nat) : Int) - ((0 : Nat) : Int)) 1
      rw [e1, e2]
      exact Heap.get?_push_size _ rfl
    · have eb : b = (s.heap.push { cls := .type "range", data := .fields #[.int lo t, .int hi u, .int 1 v] }).objs.size := by simpa using hb
      cases eb
      exact I1.fpOk (Nat.le_refl _) (I1.hok.fresh (Nat.le_refl _))
def iRngA (ta : TA) : TI := fun σ H R => ta σ H fun vs H1 => ∃ i j : Int, vs = [.int i, .int j] ∧ R (Itr i (j - i).toNat) H1
theorem pi_rangeA {a b : Expr} {ta : TA} {p pos : Pos} (hg : Gl X "range") (hm : X.mg "range" = none) (ha : PA X [a, b] ta) (hs : starEach [a, b] X.env = [(false, eval a X.env), (false, eval b X.env)] := by rfl) (hs2 : starEach [b] X.env = [(false, eval b X.env)] := by rfl) :
    PI X tg (.Call (.Name "range" p) [a, b] [] pos) (iRngA ta) := by
  refine ⟨fun pins s σ H R I w0 => ?_⟩
  refine Call_ (ld_blt I hg hm boot_range (PyProof.Rows.callWith_type1 (thn (ha.run pos pins s σ H _ I w0) fun us s1 ⟨vs, H1, I1, r1, w1⟩ => ?_) (by rw [hs, hs2]) (by rw [hs2]; rfl)))
  obtain ⟨i, j, hv, w2⟩ := w1
  subst hv
  cases r1 with
  | cons ra rest =>
    cases rest with
    | cons rb rest =>
      cases rest
      obtain ⟨t1, rfl⟩ := ra
      obtain ⟨t2, rfl⟩ := rb
      exact call_range_2 (range_itA I1 w2)
end
section
variable {K : PySem.W.Frag} {σ : L2.St} {H H' : Hp} {D : Ends} {tu tz : TS}
theorem s_forRA {ta : TA} {j : Nat} {lo n : Int} (h : EvA ta σ H [.int lo, .int n]) (Pv : Nat → L2.St → Hp → Prop) (h0 : ∀ H1, Ex H H1 → Pv 0 σ H1)
    (hs : ∀ (i : Nat) σ' H', lo + (i : Int) < n → Pv i σ' H' → tu { D with nx := Pv (i + 1), ct := Pv (i + 1), bk := D.nx } (σ'.set j (some (.int (lo + (i : Int))))) H') (hd : ∀ σ' H', Pv (n - lo).toNat σ' H' → D.nx σ' H') : tFor (iRngA ta) (gName j) tu D σ H :=
  h H (Ex.refl H) _ fun H1 e => ⟨lo, n, rfl, for_it (walk_range (lo := lo) (n := (n - lo).toNat)) Pv (h0 H1 e) (fun _ _ _ _ _ => trivial) (fun i x σ' H' H2 hi p y => by
    obtain ⟨rfl, rfl⟩ := y
    exact hs i σ' H2 (by omega) p) hd⟩
theorem q_forRA {ta : TA} {j : Nat} {lo n : Int} (h : EvA ta σ H [.int lo, .int n]) (Pv : Nat → L2.St → Hp → Prop) (h0 : ∀ H1, Ex H H1 → Pv 0 σ H1)
    (hs : ∀ (i : Nat) σ' H', lo + (i : Int) < n → Pv i σ' H' → tu { D with nx := Pv (i + 1), ct := Pv (i + 1), bk := tz D } (σ'.set j (some (.int (lo + (i : Int))))) H') (hd : ∀ σ' H', Pv (n - lo).toNat σ' H' → tz D σ' H') : tSeq (tFor (iRngA ta) (gName j) tu) tz D σ H :=
  s_forRA (D := { D with nx := tz D }) h Pv h0 hs hd
end
end WF

set_option Elab.async false
set_option linter.all false
set_option maxRecDepth 100000
set_option maxHeartbeats 400000
/-! WTry: calls within a try; lists of what one may not land upon -/
namespace WF
open PySem L2 Evl
theorem takes0 {X : Cx} : Takes X (fun _ _ _ _ => False) := fun _ _ h => by
  obtain ⟨_, _, _, _, _, _, _, _, _, _, _, _, _, _, _, _, no⟩ := h
  exact no.elim
section
variable {X : Cx} {K : PySem.W.Frag} {CX : CXT} {x : Str} {k : Nat} {ps : List Str} {sp : Sp} {E : L2.St → XK} {e : Expr} {es : List Expr} {p pos : Pos} {t : TA}
theorem ix_seqK (hK : X.K = K := by rfl) : IxR X (rIx K) := by
  subst hK
  exact ix_seq
theorem pe_fnS (D : Dn X.prog X.w X.K X.mg X.base CX x k ps sp) (hr : Room k X.A) (hx : ∀ σ, PassesAt CX X σ (E σ)) (hg : Gl X x) (ha : PA X (e :: es) t) (hdb : (x == ("__debug__" : Str)) = false := by decide)
    (he : starEach (e :: es) X.env = (false, eval e X.env) :: starEach es X.env := by rfl) (hpl : (backTo pos (starEach es X.env)).any (·.1) = false := by rfl) : PE X (.Call (.Name x p) (e :: es) [] pos) (tCallS sp E t) := by
  obtain ⟨f, fd, h1, h2, h3, h4⟩ := D.ex
  exact pe_callS h3 hr hg h1 h2 h4 hx ha hdb he hpl
end
/-- an error of a class is what except names by that class -/
theorem Err.self {K : PySem.W.Frag} {C : Addr} (h : Err K C) : PySem.W.exmOne K (.ref C) (.ref C) = some true := by
  unfold PySem.W.exmOne
  rw [h.be, if_pos (by rfl)]
  unfold PySem.W.kitCls
  have h2 : (PySem.W.clsIn K C).isSome = true := h.is
  simp only [h2, h.ty, h.se]
  rfl
theorem Err.other {K : PySem.W.Frag} {C B : Addr} (h : Err K C) (hB : Err K B) (hs : PySem.W.subIn K (.ref C) (.ref B) = some false) : PySem.W.exmOne K (.ref C) (.ref B) = some false := by
  unfold PySem.W.exmOne
  rw [hB.be, if_pos (by rfl)]
  unfold PySem.W.kitCls
  have h2 : (PySem.W.clsIn K B).isSome = true := hB.is
  simp only [h2, hB.ty, hs]
  rfl
section
variable {K : PySem.W.Frag} {H H' : Hp} {d : Addr} {xs xs' : List V} {x v : V} {t : Value}
/-! what a changed list leaves -/
theorem ty_but (hd : H d = some (.lst xs)) (hd' : H' d = some (.lst xs')) (e : ExB d H H') (h : TyX K H x t) : TyX K H' x t := by
  have mv : ∀ {a : Addr} {o : HO}, H a = some o → (∀ ys, o ≠ .lst ys) → H' a = some o := fun {a o} q n => e.kn hd _ _ n q
  cases h with
  | base h =>
    cases h with
    | non => exact .base .non
    | bl b => exact .base (.bl b)
    | int i => exact .base (.int i)
    | str z => exact .base (.str z)
    | flt z => exact .base (.flt z)
    | @lst a ys h =>
      by_cases had : a = d
      · subst had
        exact .base (.lst hd')
      · exact .base (.lst (e _ _ had h))
    | frz h => exact .base (.frz (mv h (fun _ q => nomatch q)))
    | tup h => exact .base (.tup (mv h (fun _ q => nomatch q)))
    | dK h => exact .base (.dK (mv h (fun _ q => nomatch q)))
    | dT h => exact .base (.dT (mv h (fun _ q => nomatch q)))
    | ins h cl ha hn htk hm => exact .base (.ins (mv h (fun _ q => nomatch q)) cl ha hn htk hm)
  | byt b => exact .byt b
  | set h => exact .set (mv h (fun _ q => nomatch q))
  | kList h c => exact .kList h c
  | kTuple h c => exact .kTuple h c
  | kDict h c => exact .kDict h c
  | fTuple h => exact .fTuple (mv h (fun _ q => nomatch q))
  | fDict h => exact .fDict (mv h (fun _ q => nomatch q))
theorem num_but {o : Option Int} (hd : H d = some (.lst xs)) (hd' : H' d = some (.lst xs')) (e : ExB d H H') (h : NumV K H x o) : NumV K H' x o := by
  cases h with
  | int z => exact .int z
  | odd h n => exact .odd (ty_but hd hd' e h) n
theorem land_but {b : Bool} (hd : H d = some (.lst xs)) (hd' : H' d = some (.lst xs')) (e : ExB d H H') (h : LandV K H x b) : LandV K H' x b := by
  have kn := e.kn hd
  cases h with
  | no h n => exact .no (ty_but hd hd' e h) n
  | len h n z => exact .len (sqt_kn kn h) n z
  | odd h hx hy n => exact .odd (sqt_kn kn h) (num_but hd hd' e hx) (num_but hd hd' e hy) n
  | two h z1 z2 => exact .two (sqt_kn kn h) z1 z2
end
/-! ### lists whose items are made, told by what holds of each -/
section
variable {K : PySem.W.Frag} {σ : L2.St} {H H' : Hp} {ta tb tc te tl : TE} {tA : TA} {x y z v : V} {S : V → Hp → Prop} {P : List V → Hp → Prop}
def EvX (te : TE) (σ : L2.St) (H : Hp) (S : V → Hp → Prop) : Prop := ∀ H1, Ex H H1 → ∀ Q : VK, (∀ y H2, Ex H1 H2 → S y H2 → Q y H2) → te σ H1 Q
def EvY (ta : TA) (σ : L2.St) (H : Hp) (P : List V → Hp → Prop) : Prop := ∀ H1, Ex H H1 → ∀ Q : List V → Hp → Prop, (∀ ys H2, Ex H1 H2 → P ys H2 → Q ys H2) → ta σ H1 Q
def AllS (S : V → Hp → Prop) (n : Nat) (ys : List V) (H : Hp) : Prop := ys.length = n ∧ ∀ y ∈ ys, S y H
theorem AllS.mono {n : Nat} {ys : List V} (hS : ∀ y H1 H2, Ex H1 H2 → S y H1 → S y H2) (e : Ex H H') (h : AllS S n ys H) : AllS S n ys H' := ⟨h.1, fun y hy => hS y _ _ e (h.2 y hy)⟩
theorem ex_v (h : Ev te σ H v) (hv : ∀ H1, Ex H H1 → S v H1) : EvX te σ H S := fun H1 e Q q => h H1 e Q fun H2 e2 => q v H2 e2 (hv H2 (e.trans e2))
theorem ex_tup {us : List V} (h : EvU te σ H us) (hv : ∀ p H1, Ex H H1 → H1 p = some (.tup us) → S (.ref p) H1) : EvX te σ H S := fun H1 e Q q => h H1 e Q fun p H2 hp e2 h2 => q _ H2 e2 (hv p H2 (e.trans e2) h2)
theorem ex_lst {us : List V} (h : EvL te σ H us) (hv : ∀ p H1, Ex H H1 → H1 p = some (.lst us) → S (.ref p) H1) : EvX te σ H S := fun H1 e Q q => h H1 e Q fun p H2 hp e2 h2 => q _ H2 e2 (hv p H2 (e.trans e2) h2)
theorem ey_nil : EvY tNil σ H (AllS S 0) := fun H1 _ Q q => q [] H1 (Ex.refl H1) ⟨rfl, fun _ h => nomatch h⟩
theorem ey_cons {n : Nat} (hS : ∀ y H1 H2, Ex H1 H2 → S y H1 → S y H2) (h : EvX te σ H S) (hr : EvY tA σ H (AllS S n)) : EvY (tCons te tA) σ H (AllS S (n + 1)) := fun H1 e Q q =>
  h H1 e _ fun y H2 e2 hy => hr H2 (e.trans e2) _ fun ys H3 e3 hys => q (y :: ys) H3 (e2.trans e3) ⟨congrArg (· + 1) hys.1, fun z hz => (List.mem_cons.mp hz).elim (fun h => h ▸ hS _ _ _ e3 hy) (hys.2 z)⟩
/-- pick from a display -/
theorem er_disp {n : Nat} (hS : ∀ y H1 H2, Ex H1 H2 → S y H1 → S y H2) (h : EvY tA σ H (AllS S n)) (hn : n ≤ 1000) : EvR (tLst tA) σ H fun p H2 => ∃ ys, H2 p = some (.lst ys) ∧ AllS S n ys H2 := fun H1 e Q q =>
  h H1 e _ fun ys H2 e2 hys => ⟨Evl.sz_of (by rw [hys.1]; omega), fun p hp => q p _ (fresh_back e2 hp) (e2.trans (Ex.new hp)) ⟨ys, upd_same, hys.mono hS (Ex.new hp)⟩⟩
end
/-! lands of a display -/
section
variable {K : PySem.W.Frag} {σ : L2.St} {H H' : Hp} {ta tb tc te tl : TE} {tA : TA}
theorem ly_nil : EvY tNil σ H (fun ys H2 => LandL K H2 ys []) := fun H1 _ Q q => q [] H1 (Ex.refl H1) trivial
theorem ly_cons {a b : Nat} {ls : List (Nat × Nat)} (hr : EvY tA σ H (fun ys H2 => LandL K H2 ys ls)) : EvY (tCons (tTup (tCons (tC (.int (a : Int))) (tCons (tC (.int (b : Int))) tNil))) tA) σ H (fun ys H2 => LandL K H2 ys ((a, b) :: ls)) := fun H1 e Q q =>
  ⟨by show 2 ≤ sizeLine; decide, fun p hp => hr _ (e.trans (Ex.new hp)) _ fun ys H3 e3 hys => q (.ref p :: ys) H3 ((Ex.new hp).trans e3) ⟨⟨p, rfl, ex_t e3 (st_of upd_same)⟩, hys⟩⟩
theorem er_landsD {ls : List (Nat × Nat)} (h : EvY tA σ H (fun ys H2 => LandL K H2 ys ls)) (hn : ls.length ≤ 1000) : EvR (tLst tA) σ H fun p H2 => ∃ ys, H2 p = some (.lst ys) ∧ LandL K H2 ys ls := fun H1 e Q q =>
  h H1 e _ fun ys H2 e2 hys => ⟨Evl.sz_of (by rw [hys.len]; omega), fun p hp => q p _ (fresh_back e2 hp) (e2.trans (Ex.new hp)) ⟨ys, upd_same, hys.kn (KeepN.of (Ex.new hp))⟩⟩
theorem er_landsC {ls ms : List (Nat × Nat)} (h1 : EvR ta σ H fun p H2 => ∃ ys, H2 p = some (.lst ys) ∧ LandL K H2 ys ls) (h2 : EvR tb σ H fun p H2 => ∃ ys, H2 p = some (.lst ys) ∧ LandL K H2 ys ms) (hn : ls.length + ms.length ≤ 100000) :
    EvR (tOp rCat ta tb) σ H fun p H2 => ∃ ys, H2 p = some (.lst ys) ∧ LandL K H2 ys (ls ++ ms) := fun H1 e Q q =>
  h1 H1 e _ fun p H2 hp e2 ⟨ys, k1, l1⟩ => h2 H2 (e.trans e2) _ fun p2 H3 hp2 e3 ⟨zs, k2, l2⟩ => ⟨p, p2, ys, zs, rfl, rfl, e3 _ _ k1, k2, Evl.sz_of (by rw [l1.len, l2.len]; exact hn), fun p3 hp3 => q p3 _ (fresh_back (e2.trans e3) hp3) ((e2.trans e3).trans (Ex.new hp3)) ⟨ys ++ zs, upd_same, (l1.kn (KeepN.of (e3.trans (Ex.new hp3)))).app (l2.kn (KeepN.of (Ex.new hp3)))⟩⟩
theorem ev_lenD {a : Addr} {ds : List Nat} (h : Ev ta σ H (.ref a)) (hd : H a = some (.dK (dk ds))) : Ev (tCB (fun xs H Q => ∃ a kvs, xs = [V.ref a] ∧ H a = some (.dK kvs) ∧ Q (.int kvs.length) H) (tCons ta tNil)) σ H (.int ((ds.length : Nat) : Int)) := fun H1 e Q q =>
  h H1 e _ fun H2 e2 => ⟨a, dk ds, rfl, e2 _ _ (e _ _ hd), by
    unfold dk
    rw [List.length_map]
    exact q H2 e2⟩
/-- x = f(..) in a try -/
theorem q_asgS {sp : Sp} {W : Ends → WX} {D : Ends} {i : Nat} {tz : TS} {vs : List V} (h : EvA tA σ H vs) (k : ∀ H1, Ex H H1 → sp vs H1 (fun x H2 => tz D (σ.set i (some x)) H2) (fun cls d H2 => W { D with nx := tz D } cls d σ H2)) :
    tSeq (fun D σ H => tAsg (tCallS sp (WE (W D)) tA) (gName i) D σ H) tz D σ H := h H (Ex.refl H) _ fun H1 e => k H1 e
/-- a call with a new tuple among what is handed over -/
theorem ev_callT3 {sp : Sp} {E : XK} {us : List V} {x z v : V} (ha : Ev ta σ H x) (hb : EvU tb σ H us) (hc : Ev tc σ H z) (h : ∀ p H1, Ex H H1 → H1 p = some (.tup us) → ∀ (Q : VK) (E : XK), RetV v H1 Q → sp [x, .ref p, z] H1 Q E) :
    Ev (tCall sp [] E (tCons ta (tCons tb (tCons tc tNil)))) σ H v := fun H1 e Q q => ha H1 e _ fun H2 e2 => hb H2 (e.trans e2) _ fun p H3 hp e3 h3 => hc H3 ((e.trans e2).trans e3) _ fun H4 e4 => h p H4 (((e.trans e2).trans e3).trans e4) (e4 _ _ h3) Q E fun H5 e5 => q H5 (((e2.trans e3).trans e4).trans e5)
theorem ev_callT2 {sp : Sp} {E : XK} {us : List V} {x v : V} (ha : Ev ta σ H x) (hb : EvU tb σ H us) (h : ∀ p H1, Ex H H1 → H1 p = some (.tup us) → ∀ (Q : VK) (E : XK), RetV v H1 Q → sp [x, .ref p] H1 Q E) :
    Ev (tCall sp [] E (tCons ta (tCons tb tNil))) σ H v := fun H1 e Q q => ha H1 e _ fun H2 e2 => hb H2 (e.trans e2) _ fun p H3 hp e3 h3 => h p H3 ((e.trans e2).trans e3) h3 Q E fun H5 e5 => q H5 ((e2.trans e3).trans e5)
end
end WF

set_option Elab.async false
set_option linter.all false
set_option maxRecDepth 100000
set_option maxHeartbeats 400000
/-! WDrawI: whole numbers that are drawn: S tells of each; I stands whatever is drawn -/
namespace WF
open PySem L2 Evl
def DrI (te : TE) (σ : L2.St) (d : Addr) (I : Hp → Prop) (S : Int → Prop) : Prop := ∀ H xs, I H → H d = some (.lst xs) → Good xs → ∀ Q : VK, (∀ i H' xs', S i → I H' → ExB d H H' → H' d = some (.lst xs') → Good xs' → Q (.int i) H') → te σ H Q
def DrA (ta : TA) (σ : L2.St) (d : Addr) (I : Hp → Prop) (n : Nat) (S : Int → Prop) : Prop := ∀ H xs, I H → H d = some (.lst xs) → Good xs → ∀ Q : List V → Hp → Prop, (∀ (is : List Int) H' xs', is.length = n → (∀ i ∈ is, S i) → I H' → ExB d H H' → H' d = some (.lst xs') → Good xs' → Q (is.map V.int) H') → ta σ H Q
section
variable {K : PySem.W.Frag} {σ : L2.St} {H H' : Hp} {ta tb te : TE} {tA : TA} {d : Addr} {I : Hp → Prop} {S A B : Int → Prop} {i : Int} {n : Nat} {D : Ends} {tz : TS}
theorem dr_ev (hI : ∀ H H', I H → ExB d H H' → I H') (h : ∀ H, I H → Ev te σ H (.int i)) (hs : S i) : DrI te σ d I S := fun H xs hi hd hg Q q => h H hi H (Ex.refl H) Q fun H2 e => q i H2 xs hs (hI _ _ hi (ExB.of e)) (ExB.of e) (e _ _ hd) hg
theorem dr_op {g : Int → Int → Int} (ha : DrI ta σ d I A) (hb : DrI tb σ d I B) (hs : ∀ i j, A i → B j → S (g i j)) : DrI (tOp (rI0 fun i j => .int (g i j)) ta tb) σ d I S := fun H xs hi hd hg Q q =>
  ha H xs hi hd hg _ fun i H1 xs1 h1 i1 e1 d1 g1 => hb H1 xs1 i1 d1 g1 _ fun j H2 xs2 h2 i2 e2 d2 g2 => ⟨i, j, rfl, rfl, q _ H2 xs2 (hs i j h1 h2) i2 (e1.trans e2) d2 g2⟩
theorem dr_nil : DrA tNil σ d I 0 S := fun H xs hi hd hg Q q => q [] H xs rfl (fun _ h => nomatch h) hi (ExB.of (Ex.refl H)) hd hg
theorem dr_cons (ha : DrI te σ d I S) (hr : DrA tA σ d I n S) : DrA (tCons te tA) σ d I (n + 1) S := fun H xs hi hd hg Q q =>
  ha H xs hi hd hg _ fun i H1 xs1 h1 i1 e1 d1 g1 => hr H1 xs1 i1 d1 g1 _ fun is H2 xs2 hl h2 i2 e2 d2 g2 => q (i :: is) H2 xs2 (congrArg (· + 1) hl) (fun z hz => (List.mem_cons.mp hz).elim (fun h => h ▸ h1) (h2 z)) i2 (e1.trans e2) d2 g2
theorem q_dr {j : Nat} {xs : List V} (h : DrI te σ d I S) (hi : I H) (hd : H d = some (.lst xs)) (hg : Good xs) (k : ∀ i H' xs', S i → I H' → ExB d H H' → H' d = some (.lst xs') → Good xs' → tz D (σ.set j (some (.int i))) H') : tSeq (tAsg te (gName j)) tz D σ H := h H xs hi hd hg _ k
end
end WF

set_option Elab.async false
set_option linter.all false
set_option maxRecDepth 100000
set_option maxHeartbeats 200000
/-! WSort: sorted(pairs, key=sum) -/
namespace WF
open PySem L2 Evl PyProof.Rows
theorem kept_push {h h' : Heap} {o0 : Obj} (hk : ∀ b o, b ∉ [h.objs.size] → (h.push o0).get? b = some o → h'.get? b = some o) : ∀ b o, h.get? b = some o → h'.get? b = some o := fun b o q =>
  hk b o (fun hm => Nat.lt_irrefl _ (Nat.lt_of_lt_of_eq (Heap.lt_size q) (List.mem_singleton.mp hm).symm)) (Heap.get?_push_of_some _ q)
/-- sum of a pair of whole numbers -/
theorem sum_pair {prog : Program} {w : World} {A : Around} {E : Value → Shared → Prop} {s : Shared} {Q : Value → Shared → Prop} {a : Addr} {i j : Int} {t1 t2 : Tok} (hh : A.handled = none) (ht : s.heap.IsTuple a #[.int i t1, .int j t2])
    (h : ∀ h' tk t', (∀ b o, s.heap.get? b = some o → h'.get? b = some o) → Q (.int (i + j) t') { s with heap := h', toks := tk }) : wpAny (model prog w) A (call (.builtin "sum") [.ref a]) Q E s := by
  have hlt : a < s.heap.objs.size := by obtain ⟨o, e, _⟩ := ht; exact Heap.lt_size e
  have W := Walks.tuple (prog := prog) (w := w) (A := A.in1) hh s.heap.objs.size a (Nat.ne_of_lt hlt) #[.int i t1, .int j t2]
  refine PySem.call_sum_walkG (PySem.wpAny_pyIter_tuple ht ?_)
  refine ⟨s.heap.objs.size, [s.heap.objs.size, a], [s.heap.objs.size], 2, _, _, fun k => if k = 0 then i else j, rfl, W, ⟨⟨_, Heap.get?_push_size _ rfl, rfl, rfl⟩, ?_⟩, fun b hb => ?_, fun k v hk => ?_, fun h' tk t' hk => ?_⟩
  · obtain ⟨o, e, r⟩ := ht
    exact ⟨o, Heap.get?_push_of_some _ e, r⟩
  · show b < (s.heap.push _).objs.size
    rw [Heap.size_push]
    rcases List.mem_cons.mp hb with rfl | hb
    · exact Nat.lt_succ_self _
    · rcases List.mem_cons.mp hb with rfl | hb
      · exact Nat.lt_succ_of_lt hlt
      · cases hb
  · match k, hk with
    | 0, hk => simp at hk; exact ⟨t1, hk.symm⟩
    | 1, hk => simp at hk; exact ⟨t2, hk.symm⟩
    | n + 2, hk => simp at hk
  · have e : preSum (fun k => if k = 0 then i else j) 2 = i + j := by
      simp [preSum]
    rw [e]
    exact h h' tk t' (kept_push hk)
def sumLe (a b : Nat × Nat) : Bool := decide (((a.1 : Int) + (a.2 : Int)) ≤ ((b.1 : Int) + (b.2 : Int)))
/-- at v a pair, in the model's heap too -/
def PrAt (K : PySem.W.Frag) (H : Hp) (h : Heap) (v : Value) (l : Nat × Nat) : Prop := ∃ t t1 t2, v = .ref t ∧ SqT K H t [.int (l.1 : Int), .int (l.2 : Int)] ∧ h.IsTuple t #[.int (l.1 : Int) t1, .int (l.2 : Int) t2]
theorem land_each {X : Cx} {pins : List (Addr × Obj)} {σ : L2.St} {H : Hp} {s : Shared} (I : Inv X pins σ H s) {xs : List V} {its : List Value} (r : Vals xs its) : ∀ {ls : List (Nat × Nat)}, LandL X.K H xs ls → PySem.W.EachIs (PrAt X.K H s.heap) its ls := by
  induction r with
  | nil =>
    intro ls h
    cases ls with
    | nil => exact .nil
    | cons l ls => exact h.elim
  | cons r t ih =>
    intro ls h
    cases ls with
    | nil => exact h.elim
    | cons l ls =>
      obtain ⟨⟨p, h0, h1⟩, h2⟩ := h
      subst h0
      have r' := r
      cases r'
      refine .cons ?_ (ih h2)
      obtain ⟨its, r2, ht, _⟩ := I.tuple h1
      obtain ⟨u1, u2, rfl, r3, r4⟩ := vals2 r2
      obtain ⟨t1, rfl⟩ := r3
      obtain ⟨t2, rfl⟩ := r4
      exact ⟨p, t1, t2, rfl, h1, ht⟩
theorem each_land {K : PySem.W.Frag} {H : Hp} {h : Heap} : ∀ {out : List Value} {ls : List (Nat × Nat)}, PySem.W.EachIs (PrAt K H h) out ls → ∃ ys, Vals ys out ∧ LandL K H ys ls
  | _, _, .nil => ⟨[], .nil, trivial⟩
  | _, _, .cons h t => by
    obtain ⟨ys, h1, h2⟩ := each_land t
    obtain ⟨p, t1, t2, rfl, h3, _⟩ := h
    exact ⟨.ref p :: ys, .cons rfl h1, ⟨p, rfl, h3⟩, h2⟩
def rSortSum (K : PySem.W.Frag) : List V → Hp → VK → Prop := fun vs H1 Q => ∃ a xs ls, vs = [.ref a] ∧ SqL K H1 a xs ∧ LandL K H1 xs ls ∧ ∀ ys p, LandL K H1 ys (ls.mergeSort sumLe) → H1 p = none → Q (.ref p) (upd H1 p (.lst ys))
theorem sortSum_run {X : Cx} {pins : List (Addr × Obj)} {σ : L2.St} {H1 : Hp} {s1 : Shared} {Q : VK} {a : Addr} {xs : List V} {ls : List (Nat × Nat)} (hc : X.calm = true) (hu : X.A.units + 64 < cLine) (I1 : Inv X pins σ H1 s1) (hs : SqL X.K H1 a xs) (hl : LandL X.K H1 xs ls)
    (q : ∀ ys p, LandL X.K H1 ys (ls.mergeSort sumLe) → H1 p = none → Q (.ref p) (upd H1 p (.lst ys))) : wpAny (model X.prog X.w) X.A (call (.builtin "sorted") [.ref a] [(Str.ofString "key", .builtin "sum")]) (EP X pins σ Q) X.xe s1 := by
  obtain ⟨its, rv, hL, hz⟩ := I1.list hs
  have each := land_each I1 rv hl
  have hh : X.A.handled = none := I1.ok.hd hc
  have hlen : ls.length ≤ sizeLine := by rw [← each.length, ← rv.length]; exact hz
  refine PySem.W.sorted_key_data (b := false) (fun l : Nat × Nat => .int ((l.1 : Int) + (l.2 : Int))) hL.isList each ?_ ?_ hlen ?_ (PyProof.Rows.ksk_s1 _ _) (fun _ => PyProof.Rows.ksk_l1 _ _) (fun _ => PyProof.Rows.ksk_t4 _ _) ?_ ?_
  · exact PySem.W.AllAlike.of fun _ _ => rfl
  · exact PySem.W.Sortable.others fun _ => ⟨(fun h => nomatch h), (fun _ h => nomatch h)⟩
  · intro l _
    have : (PyData.int ((l.1 : Int) + (l.2 : Int))).depth = 0 := rfl
    rw [this]
    omega
  · intro v l hv _ h tk kp
    obtain ⟨t, t1, t2, rfl, _, o, ho, hr⟩ := hv
    exact sum_pair hh ⟨o, kp _ _ ho, hr⟩ fun h2 tk2 t' kp2 => ⟨h2, tk2, rfl, kp2, .int _ _⟩
  · intro out c h' tk kp hn hD hlen eo
    rw [PySem.W.dataLe_int] at eo
    obtain ⟨ys, hv, hY⟩ := each_land eo
    have hfr : H1 (s1.heap.objs.size + 1) = none := I1.hok.fresh (Nat.le_succ _)
    refine ⟨.ref _, upd H1 (s1.heap.objs.size + 1) (.lst ys), I1.laid kp (Nat.le_succ _) ⟨?_, out, c, hv, hD⟩, rfl, q ys _ hY hfr⟩
    rw [hv.length, hlen, ← each.length, ← rv.length]
    exact hz
theorem pe_sortSum {X : Cx} {e : Expr} {t : TA} {p p2 pos kp : Pos} (hc : X.calm = true) (hu : X.A.units + 64 < cLine) (hg : Gl X "sorted") (hm : X.mg "sorted" = none) (hg2 : Gl X "sum") (hm2 : X.mg "sum" = none) (ha : PA X [e] t)
    (h1 : backTo pos (starEach [e] X.env) = (false, eval e X.env) :: backTo pos (starEach [] X.env) := by rfl) (h2 : (backTo pos (starEach [e] X.env)).any (·.1) = false := by rfl)
    (hall : (backToKw pos (keywordEach [⟨some "key", .Name "sum" p2, kp⟩] X.env)).all (·.1.isSome) = true := by rfl) (hnone : (backToKw pos (keywordEach [⟨some "key", .Name "sum" p2, kp⟩] X.env)).any (·.1.isNone) = false := by rfl)
    (hks : (backToKw pos (keywordEach [⟨some "key", .Name "sum" p2, kp⟩] X.env)).filterMap (·.1) = [Str.ofString "key"] := by rfl) : PE X (.Call (.Name "sorted" p) [e] [⟨some "key", .Name "sum" p2, kp⟩] pos) (tCB (rSortSum X.K) t) := by
  refine ⟨fun pins s σ H Q I h => ?_⟩
  refine wpAny_Call_Name_kw (ld_blt I hg hm (by decide +kernel : bootBuiltins "sorted" = some (.builtin "sorted")) ?_)
  refine PyProof.Rows.callWith_kw (thn (ha.run pos pins s σ H (fun vs H1 => ∃ a xs ls, vs = [.ref a] ∧ SqL X.K H1 a xs ∧ LandL X.K H1 xs ls ∧ ∀ ys p, LandL X.K H1 ys (ls.mergeSort sumLe) → H1 p = none → Q (.ref p) (upd H1 p (.lst ys))) I h) fun us s1 ⟨vs, H1, I1, r1, q1⟩ => ?_) h1 h2 hall hnone
  obtain ⟨a, xs, ls, rfl, hs, hl, q⟩ := q1
  obtain rfl := Vals.ref1 r1
  show wpAny _ _ (evalAll ((do let v ← eval (.Name "sum" p2) X.env; standAt pos; pure v) :: [])) _ _ s1
  refine wpAny_evalAll_cons (wpAny_bind (ld_blt I1 hg2 hm2 (by decide +kernel : bootBuiltins "sum" = some (.builtin "sum")) (wpAny_bind (wpAny_standAt (wpAny_pure (wpAny_evalAll_nil ?_))))))
  rw [hks]
  exact sortSum_run hc hu I1 hs hl q
end WF

set_option Elab.async false
set_option linter.all false
set_option maxRecDepth 100000
set_option maxHeartbeats 400000
/-! WLandsM: the lands by their sums, two ways -/
namespace WF
open List
/-- w from 2 on, n of them; m from w + 1 to M -/
def mL (M w n : Nat) : List (Nat × Nat) := (List.range n).flatMap fun j => if Nat.gcd (w + 1 + j) w = 1 then [(w, w + 1 + j)] else []
def rawL (M n : Nat) : List (Nat × Nat) := (List.range n).flatMap fun i => mL M (2 + i) (M - (2 + i))
theorem mL_succ (M w n : Nat) : mL M w (n + 1) = mL M w n ++ (if Nat.gcd (w + 1 + n) w = 1 then [(w, w + 1 + n)] else []) := by
  unfold mL
  rw [List.range_succ, List.flatMap_append]
  simp
theorem rawL_succ (M n : Nat) : rawL M (n + 1) = rawL M n ++ mL M (2 + n) (M - (2 + n)) := by
  unfold rawL
  rw [List.range_succ, List.flatMap_append]
  simp
theorem mL_len (M w : Nat) : ∀ n, (mL M w n).length ≤ n
  | 0 => Nat.le_refl 0
  | n + 1 => by
    rw [mL_succ, List.length_append]
    have := mL_len M w n
    split
    · show _ + 1 ≤ _; omega
    · show _ + 0 ≤ _; omega
theorem rawL_len (M : Nat) : ∀ n, (rawL M n).length ≤ n * M
  | 0 => Nat.zero_le _
  | n + 1 => by
    rw [rawL_succ, List.length_append, Nat.succ_mul]
    have := rawL_len M n
    have := mL_len M (2 + n) (M - (2 + n))
    omega
theorem mL_mem {M w n : Nat} {l : Nat × Nat} : l ∈ mL M w n ↔ l.1 = w ∧ w < l.2 ∧ l.2 ≤ w + n ∧ Nat.gcd l.2 l.1 = 1 := by
  unfold mL
  rw [List.mem_flatMap]
  constructor
  · rintro ⟨j, hj, h⟩
    rw [List.mem_range] at hj
    split at h
    · rename_i hc
      rw [List.mem_singleton] at h
      subst h
      exact ⟨rfl, by show w < w + 1 + j; omega, by show w + 1 + j ≤ w + n; omega, hc⟩
    · cases h
  · rintro ⟨h1, h2, h3, h4⟩
    obtain ⟨a, b⟩ := l
    simp only at h1 h2 h3 h4
    subst h1
    refine ⟨b - (a + 1), List.mem_range.mpr (by omega), ?_⟩
    have e : a + 1 + (b - (a + 1)) = b := by omega
    rw [e, if_pos h4]
    exact List.mem_singleton.mpr rfl
theorem rawL_mem {M n : Nat} {l : Nat × Nat} : l ∈ rawL M n ↔ 2 ≤ l.1 ∧ l.1 < 2 + n ∧ l.1 < l.2 ∧ l.2 ≤ M ∧ Nat.gcd l.2 l.1 = 1 := by
  unfold rawL
  rw [List.mem_flatMap]
  constructor
  · rintro ⟨i, hi, h⟩
    rw [List.mem_range] at hi
    obtain ⟨h1, h2, h3, h4⟩ := mL_mem.mp h
    exact ⟨by omega, by omega, by omega, by omega, h4⟩
  · rintro ⟨h1, h2, h3, h4, h5⟩
    exact ⟨l.1 - 2, List.mem_range.mpr (by omega), mL_mem.mpr ⟨by omega, by omega, by omega, h5⟩⟩
theorem landsL_memI {W M : Nat} {l : Nat × Nat} (h : 2 ≤ l.1 ∧ l.1 ≤ W ∧ l.1 < l.2 ∧ l.2 ≤ M ∧ Nat.gcd l.2 l.1 = 1) : l ∈ landsL W M (W + M - 4) := by
  obtain ⟨h1, h2, h3, h4, h5⟩ := h
  obtain ⟨a, b⟩ := l
  simp only at h1 h2 h3 h4 h5
  unfold landsL
  rw [List.mem_flatMap]
  refine ⟨a + b - 5, List.mem_range.mpr (by omega), ?_⟩
  unfold innerL
  rw [List.mem_flatMap]
  refine ⟨a - 2, List.mem_range.mpr (by omega), ?_⟩
  have e1 : 2 + (a - 2) = a := by omega
  have e2 : 5 + (a + b - 5) - a = b := by omega
  rw [e1, e2, if_pos ⟨h4, h5⟩]
  exact List.mem_singleton.mpr rfl
/-- by the sum, then by w -/
def SumLt (a b : Nat × Nat) : Prop := a.1 + a.2 < b.1 + b.2 ∨ (a.1 + a.2 = b.1 + b.2 ∧ a.1 < b.1)
theorem SumLt.irr {a : Nat × Nat} (h : SumLt a a) : False := by
  rcases h with h | ⟨_, h⟩ <;> exact Nat.lt_irrefl _ h
theorem innerL_lt (t M : Nat) : ∀ n, 2 + n ≤ t → (innerL t M n).Pairwise SumLt := by
  intro n hn
  unfold innerL
  rw [List.pairwise_flatMap]
  refine ⟨fun j _ => ?_, ?_⟩
  · split
    · exact List.pairwise_singleton _ _
    · exact List.Pairwise.nil
  · refine (List.pairwise_lt_range (n := n)).imp_of_mem fun {i j} hi hj hij x hx y hy => ?_
    rw [List.mem_range] at hi hj
    split at hx
    · split at hy
      · rw [List.mem_singleton] at hx hy
        subst hx hy
        exact .inr ⟨by show 2 + i + (t - (2 + i)) = 2 + j + (t - (2 + j)); omega, by show 2 + i < 2 + j; omega⟩
      · cases hy
    · cases hx
theorem landsL_lt (W M n : Nat) : (landsL W M n).Pairwise SumLt := by
  unfold landsL
  rw [List.pairwise_flatMap]
  refine ⟨fun i _ => innerL_lt _ _ _ (by omega), ?_⟩
  refine (List.pairwise_lt_range (n := n)).imp_of_mem fun {i j} hi hj hij x hx y hy => ?_
  obtain ⟨h1, h2, h3, h4, h5⟩ := innerL_mem hx
  obtain ⟨g1, g2, g3, g4, g5⟩ := innerL_mem hy
  exact .inl (by omega)
theorem rawL_lx (M n : Nat) : (rawL M n).Pairwise fun a b => a.1 < b.1 ∨ (a.1 = b.1 ∧ a.2 < b.2) := by
  unfold rawL
  rw [List.pairwise_flatMap]
  refine ⟨fun i _ => ?_, ?_⟩
  · unfold mL
    rw [List.pairwise_flatMap]
    refine ⟨fun j _ => ?_, ?_⟩
    · split
      · exact List.pairwise_singleton _ _
      · exact List.Pairwise.nil
    · refine (List.pairwise_lt_range).imp_of_mem fun {a b} ha hb hab x hx y hy => ?_
      split at hx
      · split at hy
        · rw [List.mem_singleton] at hx hy
          subst hx hy
          exact .inr ⟨rfl, by show _ + a < _ + b; omega⟩
        · cases hy
      · cases hx
  · refine (List.pairwise_lt_range).imp_of_mem fun {i j} hi hj hij x hx y hy => ?_
    have h1 := (mL_mem.mp hx).1
    have h2 := (mL_mem.mp hy).1
    exact .inl (by omega)
theorem two_or {α : Type} {a b : α} : ∀ {l : List α}, a ∈ l → b ∈ l → a ≠ b → [a, b] <+ l ∨ [b, a] <+ l
  | c :: l, ha, hb, hne => by
    rcases List.mem_cons.mp ha with rfl | ha'
    · rcases List.mem_cons.mp hb with rfl | hb'
      · exact absurd rfl hne
      · exact .inl (List.cons_sublist_cons.mpr (List.singleton_sublist.mpr hb'))
    · rcases List.mem_cons.mp hb with rfl | hb'
      · exact .inr (List.cons_sublist_cons.mpr (List.singleton_sublist.mpr ha'))
      · rcases two_or ha' hb' hne with h | h
        · exact .inl (h.cons _)
        · exact .inr (h.cons _)
theorem two_not {α : Type} {a b : α} : ∀ {l : List α}, l.Nodup → [a, b] <+ l → [b, a] <+ l → False
  | [], _, h, _ => by simp at h
  | c :: l, hn, h1, h2 => by
    have hn' := List.nodup_cons.mp hn
    rcases List.sublist_cons_iff.mp h1 with h1 | ⟨r, e1, h1⟩
    · rcases List.sublist_cons_iff.mp h2 with h2 | ⟨r2, e2, h2⟩
      · exact two_not hn'.2 h1 h2
      · injection e2 with e2 e3
        have hb : b ∈ l := h1.subset (by simp)
        exact hn'.1 (e2 ▸ hb)
    · injection e1 with e1 e3
      rcases List.sublist_cons_iff.mp h2 with h2 | ⟨r2, e2, h2⟩
      · have ha : a ∈ l := h2.subset (by simp)
        exact hn'.1 (e1 ▸ ha)
      · injection e2 with e2 e4
        have hb : b ∈ l := h1.subset (by rw [← e3]; exact List.mem_singleton.mpr rfl)
        exact hn'.1 (e2 ▸ hb)
theorem lands_eq (W M : Nat) (hW : 1 ≤ W) : (rawL M (W - 1)).mergeSort sumLe = landsL W M (W + M - 4) := by
  have hp := List.mergeSort_perm (rawL M (W - 1)) sumLe
  have tr : ∀ a b c : Nat × Nat, sumLe a b = true → sumLe b c = true → sumLe a c = true := fun a b c h1 h2 => by
    unfold sumLe at *
    rw [decide_eq_true_iff] at *
    omega
  have to : ∀ a b : Nat × Nat, (sumLe a b || sumLe b a) = true := fun a b => by
    unfold sumLe
    rw [Bool.or_eq_true, decide_eq_true_iff, decide_eq_true_iff]
    omega
  have hlx := rawL_lx M (W - 1)
  have hnr : (rawL M (W - 1)).Nodup := hlx.imp fun {a b} h e => by
    subst e
    rcases h with h | ⟨_, h⟩ <;> exact Nat.lt_irrefl _ h
  have hns : ((rawL M (W - 1)).mergeSort sumLe).Nodup := hp.nodup_iff.mpr hnr
  have hle := List.pairwise_mergeSort tr to (rawL M (W - 1))
  have hS : ((rawL M (W - 1)).mergeSort sumLe).Pairwise SumLt := by
    rw [List.pairwise_iff_forall_sublist] at hle ⊢
    intro a b hab
    have h1 := hle hab
    have hne : a ≠ b := (List.pairwise_iff_forall_sublist.mp hns) hab
    unfold sumLe at h1
    rw [decide_eq_true_iff] at h1
    rcases Nat.lt_or_ge (a.1 + a.2) (b.1 + b.2) with h | h
    · exact .inl h
    · have he : a.1 + a.2 = b.1 + b.2 := by omega
      have ha : a ∈ rawL M (W - 1) := hp.mem_iff.mp (hab.subset (by simp))
      have hb : b ∈ rawL M (W - 1) := hp.mem_iff.mp (hab.subset (by simp))
      rcases two_or ha hb hne with h2 | h2
      · rcases (List.pairwise_iff_forall_sublist.mp hlx) h2 with h3 | ⟨h3, h4⟩
        · exact .inr ⟨he, h3⟩
        · omega
      · exfalso
        have : sumLe b a = true := by
          unfold sumLe
          rw [decide_eq_true_iff]
          omega
        exact two_not hns hab (List.pair_sublist_mergeSort tr to this h2)
  have hL := landsL_lt W M (W + M - 4)
  have hnl : (landsL W M (W + M - 4)).Nodup := hL.imp fun {a b} h e => by
    subst e
    exact h.irr
  refine List.Perm.eq_of_pairwise (le := SumLt) (fun a b _ _ h1 h2 => ?_) hS hL (hp.trans ((List.perm_ext_iff_of_nodup hnr hnl).mpr fun l => ?_))
  · exfalso
    rcases h1 with h1 | ⟨h1, h3⟩ <;> rcases h2 with h2 | ⟨h2, h4⟩ <;> omega
  · rw [rawL_mem]
    exact ⟨fun ⟨h1, h2, h3, h4, h5⟩ => landsL_memI ⟨h1, by omega, h3, h4, h5⟩, fun h => by
      obtain ⟨h1, h2, h3, h4, h5⟩ := landsL_mem h
      exact ⟨h1, by omega, h3, h4, h5⟩⟩
end WF

set_option Elab.async false
set_option linter.all false
set_option maxRecDepth 100000
set_option maxHeartbeats 400000
/-! WComp2: comprehensions of two loops over ranges; loops over a list of which S tells -/
namespace WF
open PySem L2 Evl
theorem lc2_out {lo : Int} {n : Nat} {g g1 : TG} {tt tt1 : TT} {te : TE} {wi1 : TI} {vs vs1 : List Nat} {σ : L2.St} {H1 : Hp} {Dl : Addr} {Qd : Hp → Prop} (Pv : Nat → Hp → Prop) (h0 : Pv 0 (upd H1 Dl (.lst [])))
    (hs : ∀ i H, i < n → Pv i H → g (.int (lo + i)) (wipe σ vs) H fun σ2 H2 => wipe σ2 vs = wipe σ vs ∧ tt σ2 H2 fun b H3 =>
      if b = true then wi1 σ2 H3 fun J1 H4 => ∃ W1 : Nat → Nat → Hp → Prop, (∃ m, W1 0 m H4) ∧ ∀ j k H, W1 j k H →
        (J1.stop j H ∧ Pv (i + 1) H) ∨ (J1.go j H ∧ ∃ Nx1 : Hp → Prop, (∀ H', Nx1 H' → ∃ k', k' < k ∧ W1 (j + 1) k' H') ∧ ∀ x H', J1.yld j H x H' → g1 x (wipe σ2 vs1) H' fun σ3 H5 => wipe σ3 vs1 = wipe σ2 vs1 ∧ tt1 σ3 H5 fun b H6 =>
          if b = true then te σ3 H6 fun y H7 => ∃ acc, H7 Dl = some (.lst acc) ∧ acc.length < sizeLine ∧ Nx1 (upd H7 Dl (.lst (acc ++ [y]))) else Nx1 H6)
      else Pv (i + 1) H3) (hd : ∀ H, Pv n H → Qd H) :
    ∃ W : Nat → Nat → Hp → Prop, (∃ m, W 0 m (upd H1 Dl (.lst []))) ∧ ∀ i m H, W i m H →
      ((Itr lo n).stop i H ∧ Qd H) ∨ ((Itr lo n).go i H ∧ ∃ Nx : Hp → Prop, (∀ H', Nx H' → ∃ m', m' < m ∧ W (i + 1) m' H') ∧ ∀ x H', (Itr lo n).yld i H x H' → g x (wipe σ vs) H' fun σ2 H2 => wipe σ2 vs = wipe σ vs ∧ tt σ2 H2 fun b H3 =>
        if b = true then wi1 σ2 H3 fun J1 H4 => ∃ W1 : Nat → Nat → Hp → Prop, (∃ m, W1 0 m H4) ∧ ∀ j k H, W1 j k H →
          (J1.stop j H ∧ Nx H) ∨ (J1.go j H ∧ ∃ Nx1 : Hp → Prop, (∀ H', Nx1 H' → ∃ k', k' < k ∧ W1 (j + 1) k' H') ∧ ∀ x H', J1.yld j H x H' → g1 x (wipe σ2 vs1) H' fun σ3 H5 => wipe σ3 vs1 = wipe σ2 vs1 ∧ tt1 σ3 H5 fun b H6 =>
            if b = true then te σ3 H6 fun y H7 => ∃ acc, H7 Dl = some (.lst acc) ∧ acc.length < sizeLine ∧ Nx1 (upd H7 Dl (.lst (acc ++ [y]))) else Nx1 H6)
        else Nx H3) := by
  refine ⟨fun i m H => m = n - i ∧ i ≤ n ∧ Pv i H, ⟨n, rfl, Nat.zero_le _, h0⟩, ?_⟩
  rintro i m H ⟨rfl, hi, hp⟩
  rcases Nat.lt_or_ge i n with hlt | hge
  · refine .inr ⟨hlt, Pv (i + 1), fun H' p' => ⟨n - (i + 1), by omega, rfl, hlt, p'⟩, fun x H' y => ?_⟩
    obtain ⟨e1, e2⟩ := y
    subst e1 e2
    exact hs i _ hlt hp
  · have e : i = n := Nat.le_antisymm hi hge
    subst e
    exact .inl ⟨Nat.le_refl _, hd H hp⟩
theorem lc2_in {lo : Int} {n : Nat} {g1 : TG} {tt1 : TT} {te : TE} {vs1 : List Nat} {σ2 : L2.St} {H4 : Hp} {Dl : Addr} {Nx : Hp → Prop} (Pv : Nat → Hp → Prop) (h0 : Pv 0 H4)
    (hs : ∀ j H, j < n → Pv j H → g1 (.int (lo + j)) (wipe σ2 vs1) H fun σ3 H5 => wipe σ3 vs1 = wipe σ2 vs1 ∧ tt1 σ3 H5 fun b H6 =>
      if b = true then te σ3 H6 fun y H7 => ∃ acc, H7 Dl = some (.lst acc) ∧ acc.length < sizeLine ∧ Pv (j + 1) (upd H7 Dl (.lst (acc ++ [y]))) else Pv (j + 1) H6) (hd : ∀ H, Pv n H → Nx H) :
    ∃ W1 : Nat → Nat → Hp → Prop, (∃ m, W1 0 m H4) ∧ ∀ j k H, W1 j k H →
      ((Itr lo n).stop j H ∧ Nx H) ∨ ((Itr lo n).go j H ∧ ∃ Nx1 : Hp → Prop, (∀ H', Nx1 H' → ∃ k', k' < k ∧ W1 (j + 1) k' H') ∧ ∀ x H', (Itr lo n).yld j H x H' → g1 x (wipe σ2 vs1) H' fun σ3 H5 => wipe σ3 vs1 = wipe σ2 vs1 ∧ tt1 σ3 H5 fun b H6 =>
        if b = true then te σ3 H6 fun y H7 => ∃ acc, H7 Dl = some (.lst acc) ∧ acc.length < sizeLine ∧ Nx1 (upd H7 Dl (.lst (acc ++ [y]))) else Nx1 H6) := by
  refine ⟨fun i m H => m = n - i ∧ i ≤ n ∧ Pv i H, ⟨n, rfl, Nat.zero_le _, h0⟩, ?_⟩
  rintro i m H ⟨rfl, hi, hp⟩
  rcases Nat.lt_or_ge i n with hlt | hge
  · refine .inr ⟨hlt, Pv (i + 1), fun H' p' => ⟨n - (i + 1), by omega, rfl, hlt, p'⟩, fun x H' y => ?_⟩
    obtain ⟨e1, e2⟩ := y
    subst e1 e2
    exact hs i _ hlt hp
  · have e : i = n := Nat.le_antisymm hi hge
    subst e
    exact .inl ⟨Nat.le_refl _, hd H hp⟩
theorem iRng2_ev {ta : TA} {σ : L2.St} {H : Hp} {lo hi : Int} {R : It → Hp → Prop} {n : Nat} (h : EvA ta σ H [.int lo, .int hi]) (hb : -1000000000 ≤ lo ∧ lo ≤ 1000000000 ∧ -1000000000 ≤ hi ∧ hi ≤ 1000000000) (hn : (hi - lo).toNat = n) (k : ∀ H1, Ex H H1 → R (Itr lo n) H1) : iRng2 ta σ H R :=
  h H (Ex.refl H) _ fun H1 e => ⟨lo, hi, rfl, ⟨by omega, by omega, by omega, by omega⟩, by
    rw [hn]
    exact k H1 e⟩
section
variable {K : PySem.W.Frag} {σ : L2.St} {H H' : Hp} {tl : TE} {D : Ends} {tu tz : TS} {S : List V → Hp → Prop}
theorem s_forER {j : Nat} (h : EvR tl σ H fun p H2 => ∃ xs, H2 p = some (.lst xs) ∧ S xs H2) (Pv : Addr → List V → Nat → L2.St → Hp → Prop) (h0 : ∀ p xs H1, H p = none → Ex H H1 → H1 p = some (.lst xs) → S xs H1 → Pv p xs 0 σ H1)
    (hl : ∀ p xs i σ' H', i ≤ xs.length → Pv p xs i σ' H' → SqL K H' p xs) (hs : ∀ p xs i x σ' H', xs[i]? = some x → Pv p xs i σ' H' → tu { D with nx := Pv p xs (i + 1), ct := Pv p xs (i + 1), bk := D.nx } (σ'.set j (some x)) H')
    (hd : ∀ p xs σ' H', Pv p xs xs.length σ' H' → D.nx σ' H') : tFor (iList K tl) (gName j) tu D σ H :=
  h H (Ex.refl H) _ fun p H1 hp e ⟨xs, h1, hS⟩ => ⟨p, rfl, ⟨xs, sq_of h1⟩, for_list (Pv p xs) (h0 p xs H1 hp e h1 hS) (hl p xs) (hs p xs) (hd p xs)⟩
theorem q_forER {j : Nat} (h : EvR tl σ H fun p H2 => ∃ xs, H2 p = some (.lst xs) ∧ S xs H2) (Pv : Addr → List V → Nat → L2.St → Hp → Prop) (h0 : ∀ p xs H1, H p = none → Ex H H1 → H1 p = some (.lst xs) → S xs H1 → Pv p xs 0 σ H1)
    (hl : ∀ p xs i σ' H', i ≤ xs.length → Pv p xs i σ' H' → SqL K H' p xs) (hs : ∀ p xs i x σ' H', xs[i]? = some x → Pv p xs i σ' H' → tu { D with nx := Pv p xs (i + 1), ct := Pv p xs (i + 1), bk := tz D } (σ'.set j (some x)) H')
    (hd : ∀ p xs σ' H', Pv p xs xs.length σ' H' → tz D σ' H') : tSeq (tFor (iList K tl) (gName j) tu) tz D σ H := s_forER (D := { D with nx := tz D }) h Pv h0 hl hs hd
theorem LandL.get : ∀ {xs : List V} {ls : List (Nat × Nat)} {i : Nat} {x : V}, LandL K H xs ls → xs[i]? = some x → ∃ l p, ls[i]? = some l ∧ x = .ref p ∧ SqT K H p [.int (l.1 : Int), .int (l.2 : Int)]
  | _ :: _, l :: _, 0, _, h, e => by
    cases e
    obtain ⟨⟨p, h0, h1⟩, _⟩ := h
    exact ⟨l, p, rfl, h0, h1⟩
  | _ :: xs, _ :: ls, i + 1, x, h, e => LandL.get (xs := xs) (ls := ls) (i := i) (x := x) h.2 e
  | [], [], i, x, _, e => by simp at e
  | [], _ :: _, _, _, h, _ => h.elim
  | _ :: _, [], _, _, h, _ => h.elim
end
section
variable {σ : L2.St} {H : Hp} {D : Ends} {tu tz : TS}
theorem s_forR1N {ta : TA} {j : Nat} {n : Int} (h : EvA ta σ H [.int n]) (hn : -100000 ≤ n ∧ n ≤ 100000) (Pv : Nat → L2.St → Hp → Prop) (h0 : ∀ H1, Ex H H1 → Pv 0 σ H1)
    (hs : ∀ (i : Nat) σ' H', (i : Int) < n → Pv i σ' H' → tu { D with nx := Pv (i + 1), ct := Pv (i + 1), bk := D.nx } (σ'.set j (some (.int (i : Int)))) H') (hd : ∀ σ' H', Pv n.toNat σ' H' → D.nx σ' H') : tFor (iRng1 ta) (gName j) tu D σ H :=
  h H (Ex.refl H) _ fun H1 e => ⟨n, rfl, by omega, by omega, for_range (lo := 0) (n := n.toNat) Pv (h0 H1 e) (fun i σ' H' hi p => by
    have e0 : (0 : Int) + (i : Int) = (i : Int) := Int.zero_add _
    show tu { D with nx := Pv (i + 1), ct := Pv (i + 1), bk := D.nx } (σ'.set j (some (.int ((0 : Int) + (i : Int))))) H'
    rw [e0]
    exact hs i σ' H' (by omega) p) hd⟩
theorem q_forR1N {ta : TA} {j : Nat} {n : Int} (h : EvA ta σ H [.int n]) (hn : -100000 ≤ n ∧ n ≤ 100000) (Pv : Nat → L2.St → Hp → Prop) (h0 : ∀ H1, Ex H H1 → Pv 0 σ H1)
    (hs : ∀ (i : Nat) σ' H', (i : Int) < n → Pv i σ' H' → tu { D with nx := Pv (i + 1), ct := Pv (i + 1), bk := tz D } (σ'.set j (some (.int (i : Int)))) H') (hd : ∀ σ' H', Pv n.toNat σ' H' → tz D σ' H') : tSeq (tFor (iRng1 ta) (gName j) tu) tz D σ H := s_forR1N (D := { D with nx := tz D }) h hn Pv h0 hs hd
end
/-! the first land in which two calendars are unlike -/
def unlikeB (one other : Rows) (l : Nat × Nat) : Int → Bool := fun d => calDay l.1 l.2 one d ^^ calDay l.1 l.2 other d
def unlikeAt (one other : Rows) (l : Nat × Nat) : Option ((Nat × Nat) × Nat) := (daysN (l.1 * l.2) (unlikeB one other l)).head?.map fun d => (l, d)
def unlikeO (one other : Rows) (ls : List (Nat × Nat)) : Option ((Nat × Nat) × Nat) := ls.findSome? (unlikeAt one other)
theorem find_more {α β : Type} {f : α → Option β} : ∀ {l : List α} {i : Nat} {x : α}, l[i]? = some x → (l.take i).findSome? f = none → f x = none → (l.take (i + 1)).findSome? f = none := fun {l i x} h h1 h2 => by
  rw [take_more h, List.findSome?_append, h1]
  simp [h2]
theorem find_hit {α β : Type} {f : α → Option β} {l : List α} {i : Nat} {x : α} {y : β} (h : l[i]? = some x) (h1 : (l.take i).findSome? f = none) (h2 : f x = some y) : l.findSome? f = some y := by
  have hs : l = l.take (i + 1) ++ l.drop (i + 1) := (List.take_append_drop _ _).symm
  rw [hs, take_more h, List.findSome?_append, List.findSome?_append, h1]
  simp [h2]
theorem figN_pos {N : Nat} {q : Int → Bool} (h : daysN N q ≠ []) : figN N q ≠ 0 := fun z => by
  obtain ⟨d, l, e⟩ := List.exists_cons_of_ne_nil h
  have hm : d ∈ daysN N q := by rw [e]; exact List.mem_cons_self
  obtain ⟨h1, h2⟩ := daysN_mem.mp hm
  have := figN_bit N q d
  rw [z, Nat.zero_testBit, h2, decide_eq_true h1] at this
  cases this
theorem figN_nil {N : Nat} {q : Int → Bool} (h : daysN N q = []) : figN N q = 0 := figN_zero fun d hd => by
  cases hq : q (d : Int) with
  | false => rfl
  | true =>
    have : d ∈ daysN N q := daysN_mem.mpr ⟨hd, hq⟩
    rw [h] at this
    cases this
theorem reach_le {rows : Rows} (hl : rows.length ≤ 3) (hb : rowsBys rows ≤ 4) : 3 ≤ reachOf rows ∧ reachOf rows ≤ 10 := by
  unfold reachOf
  have := List.length_filter_le (fun r : Rl × Bool => r.2) rows
  omega
def enoughL (r : Nat) : List (Nat × Nat) := landsL (4 * r + 1) (6 * r + 1) (4 * r + 1 + (6 * r + 1) - 4)
theorem enoughL_ok {r : Nat} (hr : r ≤ 10) {l : Nat × Nat} (h : l ∈ enoughL r) : LandOk l.1 l.2 := by
  obtain ⟨h1, h2, h3, h4, h5⟩ := landsL_mem h
  have : l.1 * l.2 ≤ 41 * 61 := Nat.mul_le_mul (by omega) (by omega)
  exact ⟨h1, h3, by omega, by omega⟩
/-- the answer: None, or a new pair of a land and a day -/
def RetW (K : PySem.W.Frag) (o : Option ((Nat × Nat) × Nat)) (H : Hp) (Q : VK) : Prop := (o = none → RetV .non H Q) ∧ ∀ l d, o = some (l, d) → ∀ t lp H2, Ex H H2 → H2 t = some (.tup [.ref lp, .int (d : Int)]) → SqT K H2 lp [.int (l.1 : Int), .int (l.2 : Int)] → Q (.ref t) H2
theorem RetW.back {K : PySem.W.Frag} {o : Option ((Nat × Nat) × Nat)} {H H' : Hp} {Q : VK} (k : RetW K o H Q) (e : Ex H H') : RetW K o H' Q := ⟨fun h H2 e2 => k.1 h H2 (e.trans e2), fun l d h t lp H2 e2 h1 h2 => k.2 l d h t lp H2 (e.trans e2) h1 h2⟩
end WF


set_option Elab.async false
set_option linter.all false
set_option maxRecDepth 100000
set_option maxHeartbeats 2000000
/-! the text by its places -/
namespace WF
open PySem L2 Evl
def top (i : Nat) : Stmt := PySem.Challenge.pw_weekfeasts_k06_whole_forms.main.body.getD i (.Pass ⟨0, 0, 0, 0⟩)
abbrev s_is_in : Stmt := top 13
theorem sc_is_in : FnScope ["value", "some"] ["value", "some"] (defScope s_is_in) := ⟨rfl, rfl, rfl, by decide +kernel, rfl, by decide +kernel, by decide +kernel⟩
abbrev s_within : Stmt := top 14
theorem sc_within : FnScope ["rule"] ["rule"] (defScope s_within) := ⟨rfl, rfl, rfl, by decide +kernel, rfl, by decide +kernel, by decide +kernel⟩
abbrev s_size_of : Stmt := top 15
theorem sc_size_of : FnScope ["value", "room", "parts", "bys", "rule", "found"] ["value", "room"] (defScope s_size_of) := ⟨rfl, rfl, rfl, by decide +kernel, rfl, by decide +kernel, by decide +kernel⟩
abbrev s_is_rule : Stmt := top 16
theorem sc_is_rule : FnScope ["value", "size"] ["value"] (defScope s_is_rule) := ⟨rfl, rfl, rfl, by decide +kernel, rfl, by decide +kernel, by decide +kernel⟩
abbrev s_Feast_init : Stmt := inClass (top 17) 0
theorem sc_Feast_init : FnScope ["self", "rule"] ["self", "rule"] (defScope s_Feast_init) := ⟨rfl, rfl, rfl, by decide +kernel, rfl, by decide +kernel, by decide +kernel⟩
abbrev s_Feast_rule : Stmt := inClass (top 17) 1
theorem sc_Feast_rule : FnScope ["self"] ["self"] (defScope s_Feast_rule) := ⟨rfl, rfl, rfl, by decide +kernel, rfl, by decide +kernel, by decide +kernel⟩
abbrev s_Feast_eq : Stmt := inClass (top 17) 2
theorem sc_Feast_eq : FnScope ["self", "other"] ["self", "other"] (defScope s_Feast_eq) := ⟨rfl, rfl, rfl, by decide +kernel, rfl, by decide +kernel, by decide +kernel⟩
abbrev s_Feast_and : Stmt := inClass (top 17) 3
theorem sc_Feast_and : FnScope ["self", "other"] ["self", "other"] (defScope s_Feast_and) := ⟨rfl, rfl, rfl, by decide +kernel, rfl, by decide +kernel, by decide +kernel⟩
abbrev s_Feast_or : Stmt := inClass (top 17) 4
theorem sc_Feast_or : FnScope ["self", "other"] ["self", "other"] (defScope s_Feast_or) := ⟨rfl, rfl, rfl, by decide +kernel, rfl, by decide +kernel, by decide +kernel⟩
abbrev s_Feast_sub : Stmt := inClass (top 17) 5
theorem sc_Feast_sub : FnScope ["self", "other"] ["self", "other"] (defScope s_Feast_sub) := ⟨rfl, rfl, rfl, by decide +kernel, rfl, by decide +kernel, by decide +kernel⟩
abbrev s_Feast_moved : Stmt := inClass (top 17) 6
theorem sc_Feast_moved : FnScope ["self", "by"] ["self", "by"] (defScope s_Feast_moved) := ⟨rfl, rfl, rfl, by decide +kernel, rfl, by decide +kernel, by decide +kernel⟩
abbrev s_is_pair : Stmt := top 21
theorem sc_is_pair : FnScope ["value"] ["value"] (defScope s_is_pair) := ⟨rfl, rfl, rfl, by decide +kernel, rfl, by decide +kernel, by decide +kernel⟩
abbrev s_Calendar_init : Stmt := inClass (top 22) 0
theorem sc_Calendar_init : FnScope ["self", "rules", "index", "rule", "bys", "feast", "yields"] ["self", "rules"] (defScope s_Calendar_init) := ⟨rfl, rfl, rfl, by decide +kernel, rfl, by decide +kernel, by decide +kernel⟩
abbrev s_Calendar_rules : Stmt := inClass (top 22) 1
theorem sc_Calendar_rules : FnScope ["self"] ["self"] (defScope s_Calendar_rules) := ⟨rfl, rfl, rfl, by decide +kernel, rfl, by decide +kernel, by decide +kernel⟩
abbrev s_Calendar_reach : Stmt := inClass (top 22) 2
theorem sc_Calendar_reach : FnScope ["self"] ["self"] (defScope s_Calendar_reach) := ⟨rfl, rfl, rfl, by decide +kernel, rfl, by decide +kernel, by decide +kernel⟩
abbrev s_Calendar_eq : Stmt := inClass (top 22) 3
theorem sc_Calendar_eq : FnScope ["self", "other"] ["self", "other"] (defScope s_Calendar_eq) := ⟨rfl, rfl, rfl, by decide +kernel, rfl, by decide +kernel, by decide +kernel⟩
abbrev s_every : Stmt := top 23
theorem sc_every : FnScope ["step", "begin", "many", "turn"] ["step", "begin", "many"] (defScope s_every) := ⟨rfl, rfl, rfl, by decide +kernel, rfl, by decide +kernel, by decide +kernel⟩
abbrev s_turned : Stmt := top 24
theorem sc_turned : FnScope ["figure", "by", "round_days", "whole"] ["figure", "by", "round_days"] (defScope s_turned) := ⟨rfl, rfl, rfl, by decide +kernel, rfl, by decide +kernel, by decide +kernel⟩
abbrev s_figure_of : Stmt := top 25
theorem sc_figure_of : FnScope ["rule", "land", "w", "m", "word", "one", "other", "month"] ["rule", "land"] (defScope s_figure_of) := ⟨rfl, rfl, rfl, by decide +kernel, rfl, by decide +kernel, by decide +kernel⟩
abbrev s_days_of : Stmt := top 26
theorem sc_days_of : FnScope ["rows", "land", "found", "feast", "yields", "figure", "met"] ["rows", "land"] (defScope s_days_of) := ⟨rfl, rfl, rfl, by decide +kernel, rfl, by decide +kernel, by decide +kernel⟩
abbrev s_listed : Stmt := top 27
theorem sc_listed : FnScope ["figure", "found", "lowest"] ["figure"] (defScope s_listed) := ⟨rfl, rfl, rfl, by decide +kernel, rfl, by decide +kernel, by decide +kernel⟩
abbrev s_form : Stmt := top 29
theorem sc_form : FnScope ["calendar", "w", "lands", "counts", "a", "b", "land"] ["calendar"] (defScope s_form) := ⟨rfl, rfl, rfl, by decide +kernel, rfl, by decide +kernel, by decide +kernel⟩
abbrev s_l_random : Stmt := top 31
theorem sc_l_random : FnScope ["_law_script", "_law_salt", "_law_seed", "_law_cell"] ["_law_script", "_law_salt"] (defScope s_l_random) := ⟨rfl, rfl, rfl, by decide +kernel, rfl, by decide +kernel, by decide +kernel⟩
abbrev s_l_below : Stmt := top 32
theorem sc_l_below : FnScope ["_law_d", "_law_size", "_law_result"] ["_law_d", "_law_size"] (defScope s_l_below) := ⟨rfl, rfl, rfl, by decide +kernel, rfl, by decide +kernel, by decide +kernel⟩
abbrev s_l_pick : Stmt := top 33
theorem sc_l_pick : FnScope ["_law_d", "_law_items"] ["_law_d", "_law_items"] (defScope s_l_pick) := ⟨rfl, rfl, rfl, by decide +kernel, rfl, by decide +kernel, by decide +kernel⟩
abbrev s_l_leaf : Stmt := top 34
theorem sc_l_leaf : FnScope ["_law_d"] ["_law_d"] (defScope s_l_leaf) := ⟨rfl, rfl, rfl, by decide +kernel, rfl, by decide +kernel, by decide +kernel⟩
abbrev s_l_rule : Stmt := top 35
theorem sc_l_rule : FnScope ["_law_d", "_law_left", "_law_pick_here", "_law_by", "_law_word", "_law_one"] ["_law_d", "_law_left"] (defScope s_l_rule) := ⟨rfl, rfl, rfl, by decide +kernel, rfl, by decide +kernel, by decide +kernel⟩
abbrev s_l_rows : Stmt := top 36
theorem sc_l_rows : FnScope ["_law_d", "_law_many", "_law_parts", "_law_bys_here", "_law_found", "_law_k", "_law_left", "_law_rule_here"] ["_law_d", "_law_many", "_law_parts"] (defScope s_l_rows) := ⟨rfl, rfl, rfl, by decide +kernel, rfl, by decide +kernel, by decide +kernel⟩
abbrev s_l_made : Stmt := top 37
theorem sc_l_made : FnScope ["_law_rows_here", "_law_rule_here", "_law_yields"] ["_law_rows_here"] (defScope s_l_made) := ⟨rfl, rfl, rfl, by decide +kernel, rfl, by decide +kernel, by decide +kernel⟩
abbrev s_l_bys : Stmt := top 38
theorem sc_l_bys : FnScope ["_law_rule_here"] ["_law_rule_here"] (defScope s_l_bys) := ⟨rfl, rfl, rfl, by decide +kernel, rfl, by decide +kernel, by decide +kernel⟩
abbrev s_l_reach : Stmt := top 39
theorem sc_l_reach : FnScope ["_law_rows_here", "_law_rule_here", "_law_yields"] ["_law_rows_here"] (defScope s_l_reach) := ⟨rfl, rfl, rfl, by decide +kernel, rfl, by decide +kernel, by decide +kernel⟩
abbrev s_l_part : Stmt := top 40
theorem sc_l_part : FnScope ["_law_one", "_law_other"] ["_law_one", "_law_other"] (defScope s_l_part) := ⟨rfl, rfl, rfl, by decide +kernel, rfl, by decide +kernel, by decide +kernel⟩
abbrev s_l_days : Stmt := top 41
theorem sc_l_days : FnScope ["_law_rule_here", "_law_land", "_law_w", "_law_m", "_law_whole", "_law_found", "_law_day", "_law_one", "_law_other", "_law_k"] ["_law_rule_here", "_law_land"] (defScope s_l_days) := ⟨rfl, rfl, rfl, by decide +kernel, rfl, by decide +kernel, by decide +kernel⟩
abbrev s_l_all : Stmt := top 42
theorem sc_l_all : FnScope ["_law_rows_here", "_law_land", "_law_whole", "_law_found", "_law_rule_here", "_law_yields", "_law_own", "_law_met", "_law_kept", "_law_day"] ["_law_rows_here", "_law_land"] (defScope s_l_all) := ⟨rfl, rfl, rfl, by decide +kernel, rfl, by decide +kernel, by decide +kernel⟩
abbrev s_law : Stmt := top 43
theorem sc_law : FnScope ["_law_script", "_law_d", "_law_rows_here", "_law_told", "_law_a", "_law_b", "_law_c", "_law_low", "_law_k", "_law_w", "_law_more", "_law_one"] ["_law_script"] (defScope s_law) := ⟨rfl, rfl, rfl, by decide +kernel, rfl, by decide +kernel, by decide +kernel⟩
structure Txt (w : World) (K : PySem.W.Frag) (mg : Str → Option Value) (C_BadRule C_BadRules C_Feast C_Calendar : Addr) : Prop where
  «len» : mg "len" = none
  «abs» : mg "abs" = none
  «sum» : mg "sum" = none
  «isinstance» : mg "isinstance" = none
  «all» : mg "all" = none
  «int» : mg "int" = none
  «str» : mg "str" = none
  «list» : mg "list" = none
  «tuple» : mg "tuple" = none
  «dict» : mg "dict" = none
  «bool» : mg "bool" = none
  «range» : mg "range" = none
  «enumerate» : mg "enumerate" = none
  g_BYS : ∃ a, mg "BYS" = some (.ref a) ∧ ∀ H, SqT K H a bysV
  g_ENDS : ∃ d aW aM, mg "ENDS" = some (.ref d) ∧ EndsAt w K d aW aM
  g_PAIRS : ∃ a, mg "PAIRS" = some (.ref a) ∧ ∀ H, SqT K H a pairsV
  g_MOST_PARTS : ∃ u, mg "MOST_PARTS" = some u ∧ RelV (.int 5) u
  g_MOST_BYS : ∃ u, mg "MOST_BYS" = some u ∧ RelV (.int 4) u
  g_MOST_RULES : ∃ u, mg "MOST_RULES" = some u ∧ RelV (.int 3) u
  g_LEAST_REACH : ∃ u, mg "LEAST_REACH" = some u ∧ RelV (.int 3) u
  c_BadRule : mg "BadRule" = some (.ref C_BadRule)
  e_BadRule : Err K C_BadRule
  c_BadRules : mg "BadRules" = some (.ref C_BadRules)
  c_Feast : mg "Feast" = some (.ref C_Feast)
  c_Calendar : mg "Calendar" = some (.ref C_Calendar)
  f_is_in : FunAt K mg "is_in" s_is_in ["value", "some"]
  f_within : FunAt K mg "within" s_within ["rule"]
  f_size_of : FunAt K mg "size_of" s_size_of ["value", "room"]
  f_is_rule : FunAt K mg "is_rule" s_is_rule ["value"]
  m_Feast_init : MkAt K C_Feast "Feast.__init__" s_Feast_init ["self", "rule"]
  m_Feast_eq : MtAt K C_Feast "__eq__" "Feast.__eq__" s_Feast_eq ["self", "other"]
  m_Feast_and : MtAt K C_Feast "__and__" "Feast.__and__" s_Feast_and ["self", "other"]
  m_Feast_or : MtAt K C_Feast "__or__" "Feast.__or__" s_Feast_or ["self", "other"]
  m_Feast_sub : MtAt K C_Feast "__sub__" "Feast.__sub__" s_Feast_sub ["self", "other"]
  m_Feast_moved : MtAt K C_Feast "moved" "Feast.moved" s_Feast_moved ["self", "by"]
  f_is_pair : FunAt K mg "is_pair" s_is_pair ["value"]
  m_Calendar_init : MkAt K C_Calendar "Calendar.__init__" s_Calendar_init ["self", "rules"]
  m_Calendar_eq : MtAt K C_Calendar "__eq__" "Calendar.__eq__" s_Calendar_eq ["self", "other"]
  f_every : FunAt K mg "every" s_every ["step", "begin", "many"]
  f_turned : FunAt K mg "turned" s_turned ["figure", "by", "round_days"]
  f_figure_of : FunAt K mg "figure_of" s_figure_of ["rule", "land"]
  f_days_of : FunAt K mg "days_of" s_days_of ["rows", "land"]
  f_listed : FunAt K mg "listed" s_listed ["figure"]
  f_form : FunAt K mg "form" s_form ["calendar"]
  f_l_random : FunAt K mg "_law_random" s_l_random ["_law_script", "_law_salt"]
  f_l_below : FunAt K mg "_law_below" s_l_below ["_law_d", "_law_size"]
  f_l_pick : FunAt K mg "_law_pick" s_l_pick ["_law_d", "_law_items"]
  f_l_leaf : FunAt K mg "_law_leaf" s_l_leaf ["_law_d"]
  f_l_rule : FunAt K mg "_law_rule" s_l_rule ["_law_d", "_law_left"]
  f_l_rows : FunAt K mg "_law_rows" s_l_rows ["_law_d", "_law_many", "_law_parts"]
  f_l_made : FunAt K mg "_law_made" s_l_made ["_law_rows_here"]
  f_l_bys : FunAt K mg "_law_bys" s_l_bys ["_law_rule_here"]
  f_l_reach : FunAt K mg "_law_reach" s_l_reach ["_law_rows_here"]
  f_l_part : FunAt K mg "_law_part" s_l_part ["_law_one", "_law_other"]
  f_l_days : FunAt K mg "_law_days" s_l_days ["_law_rule_here", "_law_land"]
  f_l_all : FunAt K mg "_law_all" s_l_all ["_law_rows_here", "_law_land"]
  f_law : FunAt K mg "law" s_law ["_law_script"]

end WF

set_option Elab.async false
set_option linter.all false
set_option maxRecDepth 100000
set_option maxHeartbeats 2000000
/-! every, turned, divisor -/
namespace WF
open PySem L2 Evl
section
variable {P : Program} {w : World} {K : PySem.W.Frag} {mg : Str → Option Value} {base : Heap} {C_BadRule C_BadRules C_Feast C_Calendar : Addr} {f : Addr} {fd : FuncData}
def spEvery : Sp := fun vs H Q _ => ∃ (s b T : Nat), vs = [.int s, .int b, .int T] ∧ s ≤ 6000 ∧ b ≤ 6000 ∧ T ≤ 6000 ∧ RetV (.int (((List.range T).map fun t => 2 ^ (b + s * t)).sum : Nat)) H Q
theorem ok_every (F : Fun K "every" "every" s_every f fd) (T : Txt w K mg C_BadRule C_BadRules C_Feast C_Calendar) : FnOk P w K mg base CX0 1 f fd ["step", "begin", "many"] spEvery := by
  refine F.ok sc_every (fun vs H Q E h => ?_) (fun cdv A outer s H vs Q E hr h => ?_)
  · obtain ⟨_, _, _, rfl, _⟩ := h
    rfl
  · obtain ⟨s, b, n, rfl, hs, hb, hn, k⟩ := h
    refine ⟨_, (pss_one (ps_ret (pe_callB (cr_sum rfl) (by rfl) T.sum (by decide +kernel) (pa_cons (pe_lc (own := [("turn", 3)]) (g := gName 3) (tt := tYes) rfl sc_every.nd (pi_range1 (by rfl) T.range (pa_cons (pv 2) pa_nil)) (blkOk_by (own := [("turn", 3)]) (N := ["step", "begin", "many", "turn"]) (sc := defScope s_every) (by decide +kernel)) (fun _ _ _ _ _ => (pg_name (i := 3) sc_every.nd rfl (by first | exact Or.inl rfl | exact Or.inr rfl))) (fun _ _ _ _ _ => pts_nil) (fun _ _ _ _ _ => (pe_op op_shlW pe_int (pe_op op_add (pv 1) (pe_op op_mul (pv 0) (pv 3)))))) pa_nil)))), ?_⟩
    refine s_ret (ev_is (ev_sumR (fun t => (((2 ^ (b + s * t) : Nat)) : Int)) (el_rng _ (ea_cons (ev_var rfl) ea_nil) ⟨by omega, by omega⟩ (fun _ => rfl) fun i H1 e1 hi => ?_)) (by rw [cast_sumR]; rfl)) k
    have hm : s * i ≤ 6000 * 6000 := Nat.mul_le_mul hs (by omega)
    have hv : (b : Int) + (s : Int) * (i : Int) = ((b + s * i : Nat) : Int) := by rw [Int.natCast_add, Int.natCast_mul]
    refine ev_is (ev_op ev_c (ev_op (ev_var rfl) (ev_op (ev_var rfl) (ev_var rfl) (rv_I (.inl ⟨by omega, by omega⟩))) rv_I0) (rv_I ⟨?_, ?_⟩)) ?_
    · rw [hv]; exact Int.natCast_nonneg _
    · rw [hv]
      show ((Builtin.Int.intBits 1 : Nat) : Int) + ((b + s * i : Nat) : Int) ≤ 2 ^ 27
      have : Builtin.Int.intBits 1 = 1 := by decide +kernel
      rw [this]
      omega
    · rw [hv, Int.toNat_natCast, Int.one_mul, Int.natCast_pow]
      rfl
theorem dn_every (T : Txt w K mg C_BadRule C_BadRules C_Feast C_Calendar) : Dn P w K mg base CX0 "every" 1 ["step", "begin", "many"] spEvery := T.f_every.dn fun _ _ F _ _ => ok_every F T

def sp_l_part : Sp := fun vs H Q _ => ∃ (a b : Nat), vs = [.int a, .int b] ∧ RetV (.int (Nat.gcd a b : Nat)) H Q
theorem ok_l_part (F : Fun K "_law_part" "_law_part" s_l_part f fd) (T : Txt w K mg C_BadRule C_BadRules C_Feast C_Calendar) : FnOk P w K mg base CX0 1 f fd ["_law_one", "_law_other"] sp_l_part := by
  refine F.ok sc_l_part (fun vs H Q E h => ?_) (fun cdv A outer s H vs Q E hr h => ?_)
  · obtain ⟨_, _, rfl, _⟩ := h
    rfl
  · obtain ⟨a, b, rfl, k⟩ := h
    refine ⟨_, (pss_cons (ps_while PassesOwn.never (pt_cmpR op_ne (pv 1) pe_int (nomark _))
  (pss_one (ps_par (i := 0) (j := 1) (by rfl) sc_l_part.nd rfl rfl (by decide) rfl rfl (pa_cons (pv 1) (pa_cons (pe_op op_mod (pv 0) (pv 1)) pa_nil)) (by first | rfl | exact sw2 rfl rfl rfl rfl (by decide)))))
  (pss_one (ps_ret (pv 0)))), ?_⟩
    refine q_while (fun m σ H1 => ∃ x y : Nat, σ = [some (.int x), some (.int y)] ∧ Nat.gcd x y = Nat.gcd a b ∧ m = y ∧ Ex H H1) b ⟨a, b, rfl, rfl, rfl, Ex.refl H⟩ ?_
    rintro m σ' H' ⟨x, y, rfl, hg, rfl, e⟩
    refine ⟨!decide (V.int m = V.int 0), et_cmp (ev_var rfl) ev_c (rv_ne rfl), fun hb H1 e1 => ?_, fun hb H1 e1 => ?_⟩
    · have hy : 0 < m := by
        rcases Nat.eq_zero_or_pos m with h | h
        · subst h; simp at hb
        · exact h
      refine ⟨fun σ2 H2 => σ2 = [some (.int m), some (.int (x % m : Nat))] ∧ Ex H' H2, fun σ2 H2 ⟨h1, h2⟩ => ⟨x % m, Nat.mod_lt _ hy, m, x % m, h1, ?_, rfl, e.trans h2⟩, ?_⟩
      · rw [← hg, Nat.gcd_comm x m, Nat.gcd_rec m x, Nat.gcd_comm]
      · refine s_par (ea_cons (ev_var rfl) (ea_cons (ev_is (ev_op (ev_var rfl) (ev_var rfl) (rv_I (by omega))) rfl) ea_nil)) fun H2 e2 => ⟨rfl, e1.trans e2⟩
    · have hy : m = 0 := by
        rcases Nat.eq_zero_or_pos m with h | h
        · exact h
        · exfalso
          have : ¬ (V.int (m : Int) = V.int 0) := fun q => by
            injection q with q
            omega
          rw [decide_eq_false this] at hb
          cases hb
      subst hy
      rw [Nat.gcd_zero_right] at hg
      refine s_ret (ev_var rfl) fun H2 e2 => ?_
      rw [hg]
      exact k H2 ((e.trans e1).trans e2)
theorem dn_l_part (T : Txt w K mg C_BadRule C_BadRules C_Feast C_Calendar) : Dn P w K mg base CX0 "_law_part" 1 ["_law_one", "_law_other"] sp_l_part := T.f_l_part.dn fun _ _ F _ _ => ok_l_part F T
def spTurned : Sp := fun vs H Q _ => ∃ (N : Nat) (b : Int) (p : Int → Bool), vs = [.int (figN N p : Nat), .int b, .int N] ∧ 0 < N ∧ N ≤ 100000 ∧ Per (N : Int) p ∧ RetV (.int (figN N fun d => p (d - b) : Nat)) H Q
theorem ok_turned (F : Fun K "turned" "turned" s_turned f fd) (T : Txt w K mg C_BadRule C_BadRules C_Feast C_Calendar) : FnOk P w K mg base CX0 1 f fd ["figure", "by", "round_days"] spTurned := by
  refine F.ok sc_turned (fun vs H Q E h => ?_) (fun cdv A outer s H vs Q E hr h => ?_)
  · obtain ⟨_, _, _, rfl, _⟩ := h
    rfl
  · obtain ⟨N, b, p, rfl, hN, hN2, hp, k⟩ := h
    have h0 : 0 ≤ b % (N : Int) := Int.emod_nonneg _ (by omega)
    have h1 : b % (N : Int) < (N : Int) := Int.emod_lt_of_pos _ (by omega)
    obtain ⟨c, hc⟩ : ∃ c : Nat, b % (N : Int) = (c : Int) := ⟨(b % (N : Int)).toNat, by omega⟩
    have hcN : c < N := by omega
    have hpc : ∀ d, p (d - b) = p (d - (c : Int)) := fun d => by
      have : b = (c : Int) + (N : Int) * (b / (N : Int)) := by rw [← hc]; exact (Int.emod_add_mul_ediv b N).symm
      rw [this, show d - ((c : Int) + (N : Int) * (b / (N : Int))) = (d - (c : Int)) + (N : Int) * (-(b / (N : Int))) by rw [Int.mul_neg]; omega, hp.mul]
    refine ⟨_, (pss_cons (ps_set (i := 1) sc_turned.nd rfl (by first | exact Or.inl rfl | exact Or.inr rfl) (pe_op op_mod (pv 1) (pv 2)))
  (pss_cons (ps_set (i := 3) sc_turned.nd rfl (by first | exact Or.inl rfl | exact Or.inr rfl) (pe_op op_shlW (pv 0) (pv 1)))
  (pss_one (ps_ret (pe_op op_or (pe_op op_and (pv 3) (pe_op op_sub (pe_op op_shlW pe_int (pv 2)) pe_int)) (pe_op op_shr (pv 3) (pv 2))))))), ?_⟩
    refine q_asg (ev_is (ev_op (ev_var rfl) (ev_var rfl) (rv_I (by omega))) (by rw [hc])) fun H1 e1 => ?_
    refine q_asg (ev_is (ev_op (ev_var rfl) (ev_var rfl) (rv_I ⟨Int.natCast_nonneg _, ?_⟩)) rfl) fun H2 e2 => ?_
    · have := fig_bits N p
      omega
    refine s_ret (v := .int (figN N fun d => p (d - b) : Nat)) (ev_is (ev_op (ev_op (ev_var rfl) (ev_op (ev_op ev_c (ev_var rfl) (rv_I ⟨Int.natCast_nonneg _, ?_⟩)) ev_c rv_I0) rv_I0) (ev_op (ev_var rfl) (ev_var rfl) (rv_I (Int.natCast_nonneg _))) rv_I0) ?_) fun H3 e3 => ?_
    · rw [bits_one]
      omega
    · rw [Int.toNat_natCast, Int.toNat_natCast, fig_turn hp hcN, figN_congr (q := fun d => p (d - b)) fun d _ => (hpc d).symm]
    · exact k H3 ((e1.trans e2).trans e3)
theorem dn_turned (T : Txt w K mg C_BadRule C_BadRules C_Feast C_Calendar) : Dn P w K mg base CX0 "turned" 1 ["figure", "by", "round_days"] spTurned := T.f_turned.dn fun _ _ F _ _ => ok_turned F T
end
end WF

set_option Elab.async false
set_option linter.all false
set_option maxRecDepth 100000
set_option maxHeartbeats 4000000
/-! feasts' rules: is_in, within, size_of, is_rule -/
namespace WF
open PySem L2 Evl
section
variable {P : Program} {w : World} {K : PySem.W.Frag} {mg : Str → Option Value} {base : Heap} {C_BadRule C_BadRules C_Feast C_Calendar : Addr} {f : Addr} {fd : FuncData}
def inB (o : Option Int) (xs : List V) : Bool := match o with
  | some z => inV (.int z) xs
  | none => false
def spIsIn (K : PySem.W.Frag) : Sp := fun vs H Q _ => ∃ v o a xs, vs = [v, .ref a] ∧ NumV K H v o ∧ SqT K H a xs ∧ xs.all flatV = true ∧ RetV (.bl (inB o xs)) H Q
theorem ok_is_in (F : Fun K "is_in" "is_in" s_is_in f fd) (T : Txt w K mg C_BadRule C_BadRules C_Feast C_Calendar) : FnOk P w K mg base CX0 1 f fd ["value", "some"] (spIsIn K) := by
  refine F.ok sc_is_in (fun vs H Q E h => ?_) (fun cdv A outer s H vs Q E hr h => ?_)
  · obtain ⟨_, _, _, _, rfl, _⟩ := h
    rfl
  · obtain ⟨v, o, a, xs, rfl, hV, hA, hf, k⟩ := h
    refine ⟨_, (pss_one (ps_ret (pe_and (pe_callB call_isi (by rfl) T.isinstance (by decide +kernel) (pa_cons (pv 0) (pa_cons (pe_bltn (v := .ty "int") (by rfl) T.int (by decide +kernel) rfl) pa_nil))) (pe_and (pe_not (pe_callB call_isi (by rfl) T.isinstance (by decide +kernel) (pa_cons (pv 0) (pa_cons (pe_bltn (v := .ty "bool") (by rfl) T.bool (by decide +kernel) rfl) pa_nil)))) (pe_one (pe_cmpR op_in_seq (pv 0) (pv 1) (by rfl))))))), ?_⟩
    refine s_ret (ev_isInt3 (ev_var rfl) hV (fun z ho hz => ?_) (fun ho => by rw [ho]; rfl)) k
    subst ho hz
    exact ev_op (ev_var rfl) (ev_var rfl) (rv_isT hA rfl hf)
theorem dn_is_in (T : Txt w K mg C_BadRule C_BadRules C_Feast C_Calendar) : Dn P w K mg base CX0 "is_in" 1 ["value", "some"] (spIsIn K) := T.f_is_in.dn fun _ _ F _ _ => ok_is_in F T
theorem spv_is_in {H : Hp} {v : V} {o : Option Int} {a : Addr} {xs : List V} {b : Bool} (h : NumV K H v o) (ha : SqT K H a xs) (hf : xs.all flatV = true) (hb : inB o xs = b) : SpV (spIsIn K) ([v, .ref a] ++ []) H (.bl b) :=
  spV fun H1 e Q _ q => ⟨v, o, a, xs, rfl, h.mono e, ex_t e ha, hf, by rw [hb]; exact q⟩
def spWithin (K : PySem.W.Frag) : Sp := fun vs H Q _ => ∃ a, vs = [.ref a] ∧ ((∃ s x y, isPair s ∧ SqT K H a [.str s, x, y] ∧ RetL [x, y] H Q) ∨ ∃ x y, SqT K H a [.str "behind", x, y] ∧ RetL [x] H Q)
theorem pair_not {s : Str} (h : isPair s) : decide (s = "both" ∨ s = "either" ∨ s = "without") = true := decide_eq_true h
theorem ok_within (F : Fun K "within" "within" s_within f fd) (T : Txt w K mg C_BadRule C_BadRules C_Feast C_Calendar) : FnOk P w K mg base CX0 1 f fd ["rule"] (spWithin K) := by
  obtain ⟨aP, gPAIRS, sP⟩ := T.g_PAIRS
  refine F.ok sc_within (fun vs H Q E h => ?_) (fun cdv A outer s H vs Q E hr h => ?_)
  · obtain ⟨_, rfl, _⟩ := h
    rfl
  · obtain ⟨a, rfl, h⟩ := h
    refine ⟨_, (pss_cons (ps_if (pt_cmpR op_in_seq (pe_ix ix_tup (pv 0) pe_int (fun _ _ => rfl)) (pe_glob (v := .ref aP) rfl gPAIRS rfl) (by rfl)) (pss_one (ps_ret (pe_lst (pa_cons (pe_ix ix_tup (pv 0) pe_int (fun _ _ => rfl)) (pa_cons (pe_ix ix_tup (pv 0) pe_int (fun _ _ => rfl)) pa_nil)))))
  pss_nil)
  (pss_one (ps_ret (pe_ifExp (pt_cmpR op_eq (pe_ix ix_tup (pv 0) pe_int (fun _ _ => rfl)) pe_str (nomark _)) (pe_lst (pa_cons (pe_ix ix_tup (pv 0) pe_int (fun _ _ => rfl)) pa_nil)) (pe_lst pa_nil))))), ?_⟩
    rcases h with ⟨s, x, y, hs, hT, k⟩ | ⟨x, y, hT, k⟩
    · refine q_yes (et_is (et_cmp (ev_ixT (ev_var rfl) hT rfl) ev_c (rv_isT (sP _) rfl rfl)) ?_) fun H1 e1 => ?_
      · rw [inV_pairs]; exact pair_not hs
      · exact s_retL (el_lst (ea_cons (ev_ixT (ev_var rfl) (ex_t e1 hT) rfl) (ea_cons (ev_ixT (ev_var rfl) (ex_t e1 hT) rfl) ea_nil)) (by show 2 ≤ 100000; decide)) fun p H2 hp e2 h2 => k p H2 (fresh_back e1 hp) (e1.trans e2) h2
    · refine q_not (et_is (et_cmp (ev_ixT (ev_var rfl) hT rfl) ev_c (rv_isT (sP _) rfl rfl)) ?_) fun H1 e1 => ?_
      · rw [inV_pairs]; decide +kernel
      · exact s_retL (el_ifT (et_str (ev_ixT (ev_var rfl) (ex_t e1 hT) rfl) (by decide +kernel)) (el_lst (ea_cons (ev_ixT (ev_var rfl) (ex_t e1 hT) rfl) ea_nil) (by show 1 ≤ 100000; decide))) fun p H2 hp e2 h2 => k p H2 (fresh_back e1 hp) (e1.trans e2) h2
theorem dn_within (T : Txt w K mg C_BadRule C_BadRules C_Feast C_Calendar) : Dn P w K mg base CX0 "within" 1 ["rule"] (spWithin K) := T.f_within.dn fun _ _ F _ _ => ok_within F T
def spSize (K : PySem.W.Frag) (n : Nat) : Sp := fun vs H Q _ => ∃ (v : V) (m : Nat) (o : Option (Nat × Nat)), vs = [v, .int m] ∧ m < n ∧ SzAt K H v m o ∧ RetO o H Q
theorem RetO.no {o : Option (Nat × Nat)} {H : Hp} {Q : VK} (k : RetO o H Q) (h : o = none) {H' : Hp} (e : Ex H H') : Q .non H' := k.1 h H' e
theorem et_eqU {σ : L2.St} {H : Hp} {te : TE} {p : Addr} {xs : List V} (h : Ev te σ H (.ref p)) (hT : SqT K H p xs) : EvT (tTest (tOp (rEqE K) te (tTup tNil))) σ H xs.isEmpty :=
  et_test (ev_opU (xs := []) h (eu_tup ea_nil (Nat.zero_le _)) fun q H1 hq e1 H2 e2 Q k => ⟨p, q, xs, rfl, rfl, ex_t (e1.trans e2) hT, st_of (e2 _ _ hq), k H2 (Ex.refl H2)⟩)
theorem kit_ss {K : PySem.W.Frag} : PySem.W.kitOne K (.type "str") (.type "str") = some true := kit_ty (by decide +kernel)
theorem et_inK {σ : L2.St} {H : Hp} {te : TE} {d : Addr} {s : Str} {r : Option Value} (h : Ev te σ H (.str s)) (e : PySem.W.nsIn K d s = some r) : EvT (tTest (tOp (fun x y H Q => ∃ (z : Str) (r : Option Value), x = .str z ∧ y = .ref d ∧ PySem.W.nsIn K d z = some r ∧ Q (.bl r.isSome) H) te (tC (.ref d)))) σ H r.isSome :=
  et_test (ev_op h ev_c fun H1 _ Q k => ⟨s, r, rfl, rfl, e, k H1 (Ex.refl H1)⟩)
/-- a turn of size_of's loop: the part within, its parts and bys added -/
theorem size_step {n m P0 Q0 : Nat} {va x : V} {R : Int} {v5 : Option V} {o : Option (Nat × Nat)} {D : Ends} {H1 : Hp} (hz : SzAt K H1 x m o) (hm : m < n) (hR : R - (P0 : Int) = (m : Int)) (kN : o = none → ∀ H2, Ex H1 H2 → D.rt .non H2)
    (kS : ∀ p q, o = some (p, q) → ∀ H2 z, Ex H1 H2 → D.nx [some va, some (.int R), some (.int ((P0 + p : Nat) : Int)), some (.int ((Q0 + q : Nat) : Int)), some x, z] H2) :
    tSeq (tAsg (tCall (spSize K n) [] E0 (tCons (tVar 4) (tCons (tOp (rI0 fun i j => .int (i - j)) (tVar 1) (tVar 2)) tNil))) (gName 5)) (tSeq (tIfS (tTest (tOp (fun x y H Q => y = .non ∧ Q (.bl (decide (x = .non))) H) (tVar 5) (tC .non))) (tRet (tC .non)) tNext)
      (tPar 2 3 (tCons (tOp (rI0 fun i j => .int (i + j)) (tVar 2) (tOp (rIxT K) (tVar 5) (tC (.int 0)))) (tCons (tOp (rI0 fun i j => .int (i + j)) (tVar 3) (tOp (rIxT K) (tVar 5) (tC (.int 1)))) tNil)))) D
      [some va, some (.int R), some (.int (P0 : Int)), some (.int (Q0 : Int)), some x, v5] H1 := by
  refine q_call (vs := [x, .int (m : Int)]) (ea_cons (ev_var rfl) (ea_cons (ev_is (ev_op (ev_var rfl) (ev_var rfl) rv_I0) (by rw [hR])) ea_nil)) fun H2 e2 => ⟨x, m, o, rfl, hm, hz.mono e2, fun ho H3 e3 => ?_, fun p q ho t H3 ht e3 h3 => ?_⟩
  · refine q_yes (et_is (et_cmp (ev_var rfl) ev_c rv_isN) rfl) fun H4 e4 => ?_
    exact s_ret ev_c fun H5 e5 => kN ho H5 (((e2.trans e3).trans e4).trans e5)
  · refine q_not (et_is (et_cmp (ev_var rfl) ev_c rv_isN) rfl) fun H4 e4 => ?_
    refine s_par (ea_cons (ev_is (ev_op (ev_var rfl) (ev_ixT (ev_var rfl) (st_of (e4 _ _ h3)) rfl) rv_I0) rfl) (ea_cons (ev_is (ev_op (ev_var rfl) (ev_ixT (ev_var rfl) (st_of (e4 _ _ h3)) rfl) rv_I0) rfl) ea_nil)) fun H5 e5 => ?_
    have := kS p q ho H5 (some (.ref t)) (((e2.trans e3).trans e4).trans e5)
    rw [Int.natCast_add, Int.natCast_add] at this
    exact this
theorem abs_val (b : Int) : (if b < 0 then -b else b) = ((b.natAbs : Nat) : Int) := by
  split <;> omega
theorem size_turn (F : Fun K "size_of" "size_of" s_size_of f fd) (T : Txt w K mg C_BadRule C_BadRules C_Feast C_Calendar) (hm : mg "size_of" = some (.ref f)) (hb : Binds K fd ["value", "room"] []) (n : Nat) (ih : FnOk P w K mg base CX0 (n + 1) f fd ["value", "room"] (spSize K n)) : FnOk P w K mg base CX0 (n + 2) f fd ["value", "room"] (spSize K (n + 1)) := by
  obtain ⟨aP, gPAIRS, sP⟩ := T.g_PAIRS
  obtain ⟨aB, gBYS, sB⟩ := T.g_BYS
  obtain ⟨dE, aW, aM, gENDS, tE⟩ := T.g_ENDS
  obtain ⟨esE, nE, kdENDS⟩ := tE.kd
  have D_is_in : Dn P w K mg base CX0 "is_in" 1 ["value", "some"] (spIsIn K) := dn_is_in T
  have D_within : Dn P w K mg base CX0 "within" 1 ["rule"] (spWithin K) := dn_within T
  have D_size_of : Dn P w K mg base CX0 "size_of" (n + 1) ["value", "room"] (spSize K n) := ⟨f, fd, hm, F.kp, ih, hb⟩
  refine F.ok sc_size_of (fun vs H Q E h => ?_) (fun cdv A outer s H vs Q E hr h => ?_)
  · obtain ⟨_, _, _, rfl, _⟩ := h
    rfl
  · obtain ⟨v, m, o, rfl, hmn, hZ, k⟩ := h
    have hr1 : Room 1 _ := hr.mono (by omega)
    refine ⟨_, (pss_cons (ps_if (PW.pt (pw_or (pt_cmpR op_eq (pv 1) pe_int (nomark _)) (pw_or (pt_not (pt_val (pe_callB call_isi (by rfl) T.isinstance (by decide +kernel) (pa_cons (pv 0) (pa_cons (pe_bltn (v := .ty "tuple") (by rfl) T.tuple (by decide +kernel) rfl) pa_nil))))) (pw_or (pt_cmpR (op_eqE (hu_of hr1)) (pv 0) (pe_tup pa_nil) (nomark _)) (pw_or1 (pt_not (pt_val (pe_callB call_isi (by rfl) T.isinstance (by decide +kernel) (pa_cons (pe_ix ix_tup (pv 0) pe_int (fun _ _ => rfl)) (pa_cons (pe_bltn (v := .ty "str") (by rfl) T.str (by decide +kernel) rfl) pa_nil)))))))))) (pss_one (ps_ret pe_non))
  pss_nil)
  (pss_cons (ps_if (pt_cmpR (op_in_kd kdENDS) (pe_ix ix_tup (pv 0) pe_int (fun _ _ => rfl)) (pe_glob (v := .ref dE) rfl gENDS rfl) (by rfl)) (pss_one (ps_ret (pe_ifExp (PW.pt (pw_and (pt_cmpR op_eq (pe_callB call_len_seq (by rfl) T.len (by decide +kernel) (pa_cons (pv 0) pa_nil)) pe_int (nomark _)) (pw_and1 (pt_val (pe_fn D_is_in (hr.mono (by omega)) pass0 rfl (pa_cons (pe_ix ix_tup (pv 0) pe_int (fun _ _ => rfl)) (pa_cons (pe_ix ix_kdict (pe_glob (v := .ref dE) rfl gENDS rfl) (pe_ix ix_tup (pv 0) pe_int (fun _ _ => rfl)) (fun _ _ => rfl)) pa_nil))))))) (pe_tup (pa_cons pe_int (pa_cons pe_int pa_nil))) pe_non)))
  pss_nil)
  (pss_cons (ps_if (PW.pt (pw_or (pt_cmpR op_ne (pe_callB call_len_seq (by rfl) T.len (by decide +kernel) (pa_cons (pv 0) pa_nil)) pe_int (nomark _)) (pw_or1 (PW.pt (pw_and (pt_cmpR op_ne (pe_ix ix_tup (pv 0) pe_int (fun _ _ => rfl)) pe_str (nomark _)) (pw_and1 (pt_cmpR op_notIn_seq (pe_ix ix_tup (pv 0) pe_int (fun _ _ => rfl)) (pe_glob (v := .ref aP) rfl gPAIRS rfl) (by rfl)))))))) (pss_one (ps_ret pe_non))
  pss_nil)
  (pss_cons (ps_if (PW.pt (pw_and (pt_cmpR op_eq (pe_ix ix_tup (pv 0) pe_int (fun _ _ => rfl)) pe_str (nomark _)) (pw_and1 (pt_not (pt_val (pe_fn D_is_in (hr.mono (by omega)) pass0 rfl (pa_cons (pe_ix ix_tup (pv 0) pe_int (fun _ _ => rfl)) (pa_cons (pe_glob (v := .ref aB) rfl gBYS rfl) pa_nil)))))))) (pss_one (ps_ret pe_non))
  pss_nil)
  (pss_cons (ps_par (i := 2) (j := 3) (by rfl) sc_size_of.nd rfl rfl (by decide) rfl rfl (pa_cons pe_int (pa_cons (pe_ifExp (pt_cmpR op_eq (pe_ix ix_tup (pv 0) pe_int (fun _ _ => rfl)) pe_str (nomark _)) (pe_callB call_abs (by rfl) T.abs (by decide +kernel) (pa_cons (pe_ix ix_tup (pv 0) pe_int (fun _ _ => rfl)) pa_nil)) pe_int) pa_nil)) (by first | rfl | exact sw2 rfl rfl rfl rfl (by decide)))
  (pss_cons (ps_for PassesOwn.never rfl (pi_list (pe_fn D_within (hr.mono (by omega)) pass0 rfl (pa_cons (pv 0) pa_nil))) (pg_name (i := 4) sc_size_of.nd rfl (by first | exact Or.inl rfl | exact Or.inr rfl))
  (pss_cons (ps_set (i := 5) sc_size_of.nd rfl (by first | exact Or.inl rfl | exact Or.inr rfl) (pe_fn D_size_of (hr.mono (by omega)) pass0 rfl (pa_cons (pv 4) (pa_cons (pe_op op_sub (pv 1) (pv 2)) pa_nil))))
  (pss_cons (ps_if (pt_cmpR op_isN (pv 5) pe_non (nomark _)) (pss_one (ps_ret pe_non))
  pss_nil)
  (pss_one (ps_par (i := 2) (j := 3) (by rfl) sc_size_of.nd rfl rfl (by decide) rfl rfl (pa_cons (pe_op op_add (pv 2) (pe_ix ix_tup (pv 5) pe_int (fun _ _ => rfl))) (pa_cons (pe_op op_add (pv 3) (pe_ix ix_tup (pv 5) pe_int (fun _ _ => rfl))) pa_nil)) (by first | rfl | exact sw2 rfl rfl rfl rfl (by decide)))))))
  (pss_one (ps_ret (pe_tup (pa_cons (pv 2) (pa_cons (pv 3) pa_nil))))))))))), ?_⟩
    -- the first test: not none
    have gate : ∀ {a : Addr} {s : Str} {xs : List V} {m : Nat}, SqT K H a (.str s :: xs) → EvT (tOr (tTest (tOp rEq (tVar 1) (tC (.int 0)))) (tOr (tNot (tB (tCB (rIsi K) (tCons (tVar 0) (tCons (tC (.ty "tuple")) tNil))))) (tOr (tTest (tOp (rEqE K) (tVar 0) (tTup tNil))) (tNot (tB (tCB (rIsi K) (tCons (tOp (rIxT K) (tVar 0) (tC (.int 0))) (tCons (tC (.ty "str")) tNil)))))))) (start ["value", "room", "parts", "bys", "rule", "found"] [.ref a, .int ((m + 1 : Nat) : Int)]) H false := fun {a s xs m} hT =>
      et_is (et_or (et_cmp (ev_var rfl) ev_c (rv_eq rfl)) fun _ => et_or (et_not (et_B (ev_isi (ev_var rfl) (ty_tup hT) kit_tt))) fun _ => et_or (et_eqU (ev_var rfl) hT) fun _ => et_not (et_B (ev_isi (ev_ixT (ev_var rfl) hT at0) (ty_str s) kit_ss))) (by
        have : ¬ (V.int ((m + 1 : Nat) : Int) = V.int 0) := fun q => by injection q with q; omega
        rw [decide_eq_false this]
        rfl)
    have notEnd : ∀ {s : Str}, s ∈ (["behind", "both", "either", "without", "week"] : List Str) → PySem.W.nsIn K dE s = some none := fun h => tE.no _ h
    have pos : ∀ {m : Nat}, ¬ (V.int ((m + 1 : Nat) : Int) = V.int 0) := fun q => by
      injection q with q
      omega
    -- a word of ENDS; none
    have inE : ∀ {a : Addr} {s : Str} {xs : List V} {σ : L2.St} {H1 : Hp}, SqT K H1 a (.str s :: xs) → σ[0]? = some (some (V.ref a)) → isEnd s → EvT (tTest (tOp (fun x y H Q => ∃ (z : Str) (r : Option Value), x = .str z ∧ y = .ref dE ∧ PySem.W.nsIn K dE z = some r ∧ Q (.bl r.isSome) H) (tOp (rIxT K) (tVar 0) (tC (.int 0))) (tC (.ref dE)))) σ H1 true := fun {a s xs σ H1} hT h0 hs => by
      obtain ⟨a1, h1, _⟩ := tE.in hs
      exact et_is (et_inK (ev_ixT (ev_var h0) hT at0) h1) rfl
    have outE : ∀ {a : Addr} {s : Str} {xs : List V} {σ : L2.St} {H1 : Hp}, SqT K H1 a (.str s :: xs) → σ[0]? = some (some (V.ref a)) → s ∈ (["behind", "both", "either", "without", "week"] : List Str) → EvT (tTest (tOp (fun x y H Q => ∃ (z : Str) (r : Option Value), x = .str z ∧ y = .ref dE ∧ PySem.W.nsIn K dE z = some r ∧ Q (.bl r.isSome) H) (tOp (rIxT K) (tVar 0) (tC (.int 0))) (tC (.ref dE)))) σ H1 false := fun {a s xs σ H1} hT h0 hs => et_is (et_inK (ev_ixT (ev_var h0) hT at0) (notEnd hs)) rfl
    have len2 : ∀ {a : Addr} {xs : List V} {σ : L2.St} {H1 : Hp} {c : Int}, SqT K H1 a xs → σ[0]? = some (some (V.ref a)) → Ev (tCB (rLenS K) (tCons (tVar 0) tNil)) σ H1 (.int (xs.length : Int)) := fun hT h0 => ev_lenT (ev_var h0) hT
    have wordT : ∀ {a : Addr} {s : Str} {xs : List V} {σ : L2.St} {H1 : Hp}, SqT K H1 a (.str s :: xs) → σ[0]? = some (some (V.ref a)) → EvT (tOr (tTest (tOp rNe (tCB (rLenS K) (tCons (tVar 0) tNil)) (tC (.int 3)))) (tAnd (tTest (tOp rNe (tOp (rIxT K) (tVar 0) (tC (.int 0))) (tC (.str "behind")))) (tTest (tOp (rIn K true) (tOp (rIxT K) (tVar 0) (tC (.int 0))) (tC (.ref aP)))))) σ H1
        (!decide (xs.length = 2) || (!decide (s = "behind") && !decide (s = "both" ∨ s = "either" ∨ s = "without"))) := fun {a s xs σ H1} hT h0 =>
      et_or (et_is (et_cmp (ev_lenT (ev_var h0) hT) ev_c (rv_ne rfl)) (by
        show (!decide (V.int (((xs.length + 1 : Nat)) : Int) = V.int 3)) = !decide (xs.length = 2)
        by_cases h : xs.length = 2
        · rw [h]; rfl
        · rw [decide_eq_false h, decide_eq_false]
          intro q
          injection q with q
          omega)) fun _ => et_and (et_is (et_cmp (ev_ixT (ev_var h0) hT at0) ev_c (rv_ne rfl)) (by
        show (!decide (V.str s = V.str "behind")) = !decide (s = "behind")
        by_cases h : s = "behind"
        · rw [h]; rfl
        · rw [decide_eq_false h, decide_eq_false]
          intro q
          injection q with q
          exact h q)) fun _ => et_is (et_cmp (ev_ixT (ev_var h0) hT at0) ev_c (rv_niT (sP _) rfl rfl)) (by rw [inV_pairs])
    cases hZ with
    | zero =>
      refine q_yes (et_or1 (et_is (et_cmp (ev_var rfl) ev_c (rv_eq rfl)) rfl)) fun H1 e1 => ?_
      exact s_ret ev_c fun H2 e2 => k.1 rfl H2 (e1.trans e2)
    | kind hy hk =>
      refine q_yes (et_is (et_or (et_cmp (ev_var rfl) ev_c (rv_eq rfl)) fun _ => et_or1 (et_not (et_B (ev_isi (ev_var rfl) hy hk)))) (by rw [decide_eq_false pos]; rfl)) fun H1 e1 => ?_
      exact s_ret ev_c fun H2 e2 => k.1 rfl H2 (e1.trans e2)
    | empty hT =>
      refine q_yes (et_is (et_or (et_cmp (ev_var rfl) ev_c (rv_eq rfl)) fun _ => et_or (et_not (et_B (ev_isi (ev_var rfl) (ty_tup hT) kit_tt))) fun _ => et_or1 (et_eqU (ev_var rfl) hT)) (by rw [decide_eq_false pos]; rfl)) fun H1 e1 => ?_
      exact s_ret ev_c fun H2 e2 => k.1 rfl H2 (e1.trans e2)
    | head hT hy hk =>
      refine q_yes (et_is (et_or (et_cmp (ev_var rfl) ev_c (rv_eq rfl)) fun _ => et_or (et_not (et_B (ev_isi (ev_var rfl) (ty_tup hT) kit_tt))) fun _ => et_or (et_eqU (ev_var rfl) hT) fun _ => et_not (et_B (ev_isi (ev_ixT (ev_var rfl) hT at0) hy hk))) (by rw [decide_eq_false pos]; rfl)) fun H1 e1 => ?_
      exact s_ret ev_c fun H2 e2 => k.1 rfl H2 (e1.trans e2)
    | leaf hs hT ok =>
      rename_i a s kk m
      obtain ⟨aE, h1, xsE, hxs, hfl, hin⟩ := tE.in hs
      refine q_not (gate hT) fun H1 e1 => ?_
      refine q_yes (inE (ex_t e1 hT) rfl hs) fun H2 e2 => ?_
      have hT2 := ex_t (e1.trans e2) hT
      refine s_retU (eu_ifT (et_and (et_is (et_cmp (ev_lenT (ev_var rfl) hT2) ev_c (rv_eq rfl)) rfl) fun _ => et_B (ev_call (ea_cons (ev_ixT (ev_var rfl) hT2 rfl) (ea_cons (ev_op (ev_c) (ev_ixT (ev_var rfl) hT2 at0) fun H3 _ Q q => ⟨dE, s, .ref aE, rfl, rfl, tE.kdct h1, q H3 (Ex.refl H3)⟩) ea_nil)) (spv_is_in (b := true) (.int kk) (hxs _) hfl (by show inV (.int kk) xsE = true; rw [hin, ok])))) (eu_tup (ea_cons ev_c (ea_cons ev_c ea_nil)) (by show 2 ≤ 100000; decide))) fun t H3 ht e3 h3 => k.2 1 0 rfl t H3 (fresh_back (e1.trans e2) ht) ((e1.trans e2).trans e3) h3
    | leafLen hs hT hl =>
      rename_i a s xs m
      refine q_not (gate hT) fun H1 e1 => ?_
      refine q_yes (inE (ex_t e1 hT) rfl hs) fun H2 e2 => ?_
      have hT2 := ex_t (e1.trans e2) hT
      refine s_ret (ev_ifF (et_and0 (et_is (et_cmp (ev_lenT (ev_var rfl) hT2) ev_c (rv_eq rfl)) (decide_eq_false fun q => ?_))) ev_c) fun H3 e3 => k.1 rfl H3 ((e1.trans e2).trans e3)
      injection q with q
      have : ((V.str s :: xs).length : Int) = (xs.length : Int) + 1 := by simp
      omega
    | leafNum hs hT hx no =>
      rename_i a s x o m
      obtain ⟨aE, h1, xsE, hxs, hfl, hin⟩ := tE.in hs
      refine q_not (gate hT) fun H1 e1 => ?_
      refine q_yes (inE (ex_t e1 hT) rfl hs) fun H2 e2 => ?_
      have hT2 := ex_t (e1.trans e2) hT
      refine s_ret (ev_ifF (et_is (et_and (et_is (et_cmp (ev_lenT (ev_var rfl) hT2) ev_c (rv_eq rfl)) rfl) fun _ => et_B (ev_call (ea_cons (ev_ixT (ev_var rfl) hT2 rfl) (ea_cons (ev_op (ev_c) (ev_ixT (ev_var rfl) hT2 at0) fun H3 _ Q q => ⟨dE, s, .ref aE, rfl, rfl, tE.kdct h1, q H3 (Ex.refl H3)⟩) ea_nil)) (spv_is_in (b := false) (hx.mono (e1.trans e2)) (hxs _) hfl (by
        cases o with
        | none => rfl
        | some z => show inV (.int z) xsE = false; rw [hin, no z rfl])))) rfl) ev_c) fun H3 e3 => k.1 rfl H3 ((e1.trans e2).trans e3)
    | word hs hT hl =>
      rename_i a s xs m
      refine q_not (gate hT) fun H1 e1 => ?_
      refine q_not (outE (ex_t e1 hT) rfl hs) fun H2 e2 => ?_
      refine q_yes (et_is (wordT (ex_t (e1.trans e2) hT) rfl) ?_) fun H3 e3 => ?_
      · rcases hl with hl | rfl
        · rw [decide_eq_false hl]; rfl
        · rw [show decide (("week" : Str) = "behind") = false by decide +kernel, show decide (("week" : Str) = "both" ∨ ("week" : Str) = "either" ∨ ("week" : Str) = "without") = false by decide +kernel]
          cases decide (xs.length = 2) <;> rfl
      · exact s_ret ev_c fun H4 e4 => k.1 rfl H4 (((e1.trans e2).trans e3).trans e4)
    | byBad hT hb no =>
      rename_i a x b o m
      refine q_not (gate hT) fun H1 e1 => ?_
      refine q_not (outE (ex_t e1 hT) rfl (by simp)) fun H2 e2 => ?_
      refine q_not (et_is (wordT (ex_t (e1.trans e2) hT) rfl) (by simp)) fun H3 e3 => ?_
      have E3 := (e1.trans e2).trans e3
      refine q_yes (et_is (et_and (et_str (c := true) (ev_ixT (ev_var rfl) (ex_t E3 hT) rfl) (by decide +kernel)) fun _ => et_not (et_B (ev_call (ea_cons (ev_ixT (ev_var rfl) (ex_t E3 hT) rfl) (ea_cons ev_c ea_nil)) (spv_is_in (b := false) (hb.mono E3) (sB _) rfl (by
        cases o with
        | none => rfl
        | some z => show inV (.int z) bysV = false; rw [inV_bys, no z rfl]))))) rfl) fun H4 e4 => ?_
      exact s_ret ev_c fun H5 e5 => k.1 rfl H5 ((E3.trans e4).trans e5)
    | behind hT ok hx =>
      rename_i a x b m o
      refine q_not (gate hT) fun H1 e1 => ?_
      refine q_not (outE (ex_t e1 hT) rfl (by simp)) fun H2 e2 => ?_
      refine q_not (et_is (wordT (ex_t (e1.trans e2) hT) rfl) (by simp)) fun H3 e3 => ?_
      have E3 := (e1.trans e2).trans e3
      refine q_not (et_is (et_and (et_str (c := true) (ev_ixT (ev_var rfl) (ex_t E3 hT) rfl) (by decide +kernel)) fun _ => et_not (et_B (ev_call (ea_cons (ev_ixT (ev_var rfl) (ex_t E3 hT) rfl) (ea_cons ev_c ea_nil)) (spv_is_in (b := true) (.int b) (sB _) rfl (by
        show inV (.int b) bysV = true; rw [inV_bys, ok]))))) rfl) fun H4 e4 => ?_
      have E4 := E3.trans e4
      refine q_par (y := .int ((b.natAbs : Nat) : Int)) (ea_cons ev_c (ea_cons (ev_ifT (et_str (ev_ixT (ev_var rfl) (ex_t E4 hT) rfl) (by decide +kernel)) (ev_cb (ea_cons (ev_ixT (ev_var rfl) (ex_t E4 hT) rfl) ea_nil) fun H5 _ Q q => ⟨b, rfl, by rw [abs_val]; exact q H5 (Ex.refl H5)⟩)) ea_nil)) fun H5 e5 => ?_
      have E5 := E4.trans e5
      refine q_forNLn (xs := [x]) (el_call (ea_cons (ev_var rfl) ea_nil) (spL fun H6 e6 Q _ q => ⟨a, rfl, .inr ⟨x, _, ex_t (E5.trans e6) hT, q⟩⟩))
        (fun l i σ H' => Ex H H' ∧ H' l = some (.lst [x]) ∧ ∃ p q z4 z5, σ = [some (.ref a), some (.int ((m + 1 : Nat) : Int)), some (.int ((p : Nat) : Int)), some (.int ((q : Nat) : Int)), z4, z5] ∧ ((i = 0 ∧ p = 1 ∧ q = b.natAbs) ∨ (i = 1 ∧ ∃ p1 q1, o = some (p1, q1) ∧ p = 1 + p1 ∧ q = b.natAbs + q1)))
        (fun l H6 _ e6 h6 => ⟨E5.trans e6, h6, 1, b.natAbs, _, _, rfl, .inl ⟨rfl, rfl, rfl⟩⟩) (fun l i σ' H' _ h => sq_of h.2.1) ?_ ?_
      · rintro l i y σ' H' hi ⟨e, hl, p, q, z4, z5, rfl, hc⟩
        rcases hc with ⟨rfl, rfl, rfl⟩ | ⟨rfl, _⟩
        · cases hi
          refine size_step (hx.mono e) (by omega) (by omega) (fun ho H6 e6 => k.1 (by rw [ho]; rfl) H6 (e.trans e6)) fun p q ho H6 z e6 => ⟨e.trans e6, e6 _ _ hl, _, _, _, _, rfl, .inr ⟨rfl, p, q, ho, rfl, rfl⟩⟩
        · simp at hi
      · rintro l σ' H' ⟨e, hl, p, q, z4, z5, rfl, hc⟩
        rcases hc with ⟨h0, _⟩ | ⟨_, p1, q1, ho, rfl, rfl⟩
        · cases h0
        · exact s_retU (eu_tup (ea_cons (ev_var rfl) (ea_cons (ev_var rfl) ea_nil)) (by show 2 ≤ 100000; decide)) fun t H6 ht e6 h6 => k.2 _ _ (by rw [ho]; rfl) t H6 (fresh_back e ht) (e.trans e6) h6
    | pairNo hs hT hx =>
      rename_i a s x y m
      have hsM : s ∈ (["behind", "both", "either", "without", "week"] : List Str) := by rcases hs with rfl | rfl | rfl <;> simp
      have hsB : decide (s = "behind") = false := by rcases hs with rfl | rfl | rfl <;> decide +kernel
      refine q_not (gate hT) fun H1 e1 => ?_
      refine q_not (outE (ex_t e1 hT) rfl hsM) fun H2 e2 => ?_
      refine q_not (et_is (wordT (ex_t (e1.trans e2) hT) rfl) (by rw [pair_not hs]; simp)) fun H3 e3 => ?_
      have E3 := (e1.trans e2).trans e3
      refine q_not (et_and0 (et_str (ev_ixT (ev_var rfl) (ex_t E3 hT) rfl) hsB)) fun H4 e4 => ?_
      have E4 := E3.trans e4
      refine q_par (y := .int ((0 : Nat) : Int)) (ea_cons ev_c (ea_cons (ev_ifF (et_str (ev_ixT (ev_var rfl) (ex_t E4 hT) rfl) hsB) ev_c) ea_nil)) fun H5 e5 => ?_
      have E5 := E4.trans e5
      refine q_forNLn (xs := [x, y]) (el_call (ea_cons (ev_var rfl) ea_nil) (spL fun H6 e6 Q _ q => ⟨a, rfl, .inl ⟨s, x, y, hs, ex_t (E5.trans e6) hT, q⟩⟩))
        (fun l i σ H' => Ex H H' ∧ H' l = some (.lst [x, y]) ∧ ∃ z4 z5, σ = [some (.ref a), some (.int ((m + 1 : Nat) : Int)), some (.int ((1 : Nat) : Int)), some (.int ((0 : Nat) : Int)), z4, z5] ∧ i = 0)
        (fun l H6 _ e6 h6 => ⟨E5.trans e6, h6, _, _, rfl, rfl⟩) (fun l i σ' H' _ h => sq_of h.2.1) ?_ ?_
      · rintro l i y σ' H' hi ⟨e, hl, z4, z5, rfl, rfl⟩
        cases hi
        exact size_step (hx.mono e) (by omega) (by omega) (fun ho H6 e6 => k.1 rfl H6 (e.trans e6)) fun p q ho => nomatch ho
      · rintro l σ' H' ⟨e, hl, z4, z5, rfl, h0⟩
        cases h0
    | pair hs hT hx hp hy =>
      rename_i a s x y m p1 q1 o
      have hsM : s ∈ (["behind", "both", "either", "without", "week"] : List Str) := by rcases hs with rfl | rfl | rfl <;> simp
      have hsB : decide (s = "behind") = false := by rcases hs with rfl | rfl | rfl <;> decide +kernel
      refine q_not (gate hT) fun H1 e1 => ?_
      refine q_not (outE (ex_t e1 hT) rfl hsM) fun H2 e2 => ?_
      refine q_not (et_is (wordT (ex_t (e1.trans e2) hT) rfl) (by rw [pair_not hs]; simp)) fun H3 e3 => ?_
      have E3 := (e1.trans e2).trans e3
      refine q_not (et_and0 (et_str (ev_ixT (ev_var rfl) (ex_t E3 hT) rfl) hsB)) fun H4 e4 => ?_
      have E4 := E3.trans e4
      refine q_par (y := .int ((0 : Nat) : Int)) (ea_cons ev_c (ea_cons (ev_ifF (et_str (ev_ixT (ev_var rfl) (ex_t E4 hT) rfl) hsB) ev_c) ea_nil)) fun H5 e5 => ?_
      have E5 := E4.trans e5
      refine q_forNLn (xs := [x, y]) (el_call (ea_cons (ev_var rfl) ea_nil) (spL fun H6 e6 Q _ q => ⟨a, rfl, .inl ⟨s, x, y, hs, ex_t (E5.trans e6) hT, q⟩⟩))
        (fun l i σ H' => Ex H H' ∧ H' l = some (.lst [x, y]) ∧ ∃ p q z4 z5, σ = [some (.ref a), some (.int ((m + 1 : Nat) : Int)), some (.int ((p : Nat) : Int)), some (.int ((q : Nat) : Int)), z4, z5] ∧ ((i = 0 ∧ p = 1 ∧ q = 0) ∨ (i = 1 ∧ p = 1 + p1 ∧ q = q1) ∨ (i = 2 ∧ ∃ p2 q2, o = some (p2, q2) ∧ p = 1 + p1 + p2 ∧ q = q1 + q2)))
        (fun l H6 _ e6 h6 => ⟨E5.trans e6, h6, 1, 0, _, _, rfl, .inl ⟨rfl, rfl, rfl⟩⟩) (fun l i σ' H' _ h => sq_of h.2.1) ?_ ?_
      · rintro l i z σ' H' hi ⟨e, hl, p, q, z4, z5, rfl, hc⟩
        rcases hc with ⟨rfl, rfl, rfl⟩ | ⟨rfl, rfl, rfl⟩ | ⟨rfl, _⟩
        · cases hi
          refine size_step (hx.mono e) (by omega) (by omega) (fun ho => nomatch ho) fun p q ho H6 z e6 => ⟨e.trans e6, e6 _ _ hl, _, _, _, _, rfl, .inr (.inl ⟨rfl, ?_, ?_⟩)⟩
          · injection ho with ho; injection ho with h1 h2; omega
          · injection ho with ho; injection ho with h1 h2; omega
        · cases hi
          exact size_step (hy.mono e) (by omega) (by omega) (fun ho H6 e6 => k.1 (by rw [ho]; rfl) H6 (e.trans e6)) fun p q ho H6 z e6 => ⟨e.trans e6, e6 _ _ hl, _, _, _, _, rfl, .inr (.inr ⟨rfl, p, q, ho, rfl, rfl⟩)⟩
        · simp at hi
      · rintro l σ' H' ⟨e, hl, p, q, z4, z5, rfl, hc⟩
        rcases hc with ⟨h0, _⟩ | ⟨h0, _⟩ | ⟨_, p2, q2, ho, rfl, rfl⟩
        · cases h0
        · cases h0
        · exact s_retU (eu_tup (ea_cons (ev_var rfl) (ea_cons (ev_var rfl) ea_nil)) (by show 2 ≤ 100000; decide)) fun t H6 ht e6 h6 => k.2 _ _ (by rw [ho]; rfl) t H6 (fresh_back e ht) (e.trans e6) h6
theorem ok_size (F : Fun K "size_of" "size_of" s_size_of f fd) (T : Txt w K mg C_BadRule C_BadRules C_Feast C_Calendar) (hm : mg "size_of" = some (.ref f)) (hb : Binds K fd ["value", "room"] []) : ∀ n : Nat, FnOk P w K mg base CX0 (n + 1) f fd ["value", "room"] (spSize K n)
  | 0 => fnok_none fun _ _ _ _ ⟨_, _, _, _, h, _⟩ => absurd h (Nat.not_lt_zero _)
  | n + 1 => size_turn F T hm hb n (ok_size F T hm hb n)
theorem dn_size (T : Txt w K mg C_BadRule C_BadRules C_Feast C_Calendar) : Dn P w K mg base CX0 "size_of" 7 ["value", "room"] (spSize K 6) := T.f_size_of.dn fun _ _ F hm hb => ok_size F T hm hb 6
/-- is a rule: at most five parts, bys of at most four -/
def isRuleB (o : Option (Nat × Nat)) : Bool := match o with
  | some (_, q) => decide (q ≤ 4)
  | none => false
def spIsRule (K : PySem.W.Frag) : Sp := fun vs H Q _ => ∃ v o, vs = [v] ∧ SzAt K H v 5 o ∧ RetV (.bl (isRuleB o)) H Q
theorem ok_is_rule (F : Fun K "is_rule" "is_rule" s_is_rule f fd) (T : Txt w K mg C_BadRule C_BadRules C_Feast C_Calendar) : FnOk P w K mg base CX0 8 f fd ["value"] (spIsRule K) := by
  have D_size_of : Dn P w K mg base CX0 "size_of" 7 ["value", "room"] (spSize K 6) := dn_size T
  refine F.ok sc_is_rule (fun vs H Q E h => ?_) (fun cdv A outer s H vs Q E hr h => ?_)
  · obtain ⟨_, _, rfl, _⟩ := h
    rfl
  · obtain ⟨v, o, rfl, hZ, k⟩ := h
    refine ⟨_, (pss_cons (ps_set (i := 1) sc_is_rule.nd rfl (by first | exact Or.inl rfl | exact Or.inr rfl) (pe_fn D_size_of (hr.mono (by omega)) pass0 rfl (pa_cons (pv 0) (pa_cons (pe_globE rfl T.g_MOST_PARTS) pa_nil))))
  (pss_one (ps_ret (pe_and (pe_cmpR op_notN (pv 1) pe_non (nomark _)) (pe_one (pe_cmpR op_le (pe_ix ix_tup (pv 1) pe_int (fun _ _ => rfl)) (pe_globE rfl T.g_MOST_BYS) (nomark _))))))), ?_⟩
    refine q_call (vs := [v, .int ((5 : Nat) : Int)]) (ea_cons (ev_var rfl) (ea_cons ev_c ea_nil)) fun H2 e2 => ⟨v, 5, o, rfl, by decide, hZ.mono e2, fun ho H3 e3 => ?_, fun p q ho t H3 ht e3 h3 => ?_⟩
    · subst ho
      exact s_ret (ev_and0 (ev_is (ev_op (ev_var rfl) ev_c rv_notN) rfl)) fun H4 e4 => k H4 ((e2.trans e3).trans e4)
    · subst ho
      refine s_ret (v := .bl (isRuleB (some (p, q)))) (ev_is (ev_andV (ev_is (ev_op (ev_var rfl) ev_c rv_notN) rfl) fun _ => ev_op (ev_ixT (ev_var rfl) (st_of h3) rfl) ev_c rv_I0) ?_) fun H4 e4 => k H4 ((e2.trans e3).trans e4)
      show V.bl (true && decide ((q : Int) ≤ 4)) = V.bl (decide (q ≤ 4))
      rw [Bool.true_and]
      by_cases h : q ≤ 4
      · rw [decide_eq_true h, decide_eq_true (by omega)]
      · rw [decide_eq_false h, decide_eq_false (by omega)]
theorem dn_is_rule (T : Txt w K mg C_BadRule C_BadRules C_Feast C_Calendar) : Dn P w K mg base CX0 "is_rule" 8 ["value"] (spIsRule K) := T.f_is_rule.dn fun _ _ F _ _ => ok_is_rule F T
end
end WF

set_option Elab.async false
set_option linter.all false
set_option maxRecDepth 100000
set_option maxHeartbeats 2000000
/-! Feast's __init__ -/
namespace WF
open PySem L2 Evl
section
variable {P : Program} {w : World} {K : PySem.W.Frag} {mg : Str → Option Value} {base : Heap} {C_BadRule C_BadRules C_Feast C_Calendar : Addr} {f : Addr} {fd : FuncData}
def spFeast (K : PySem.W.Frag) (CF CR : Addr) : Sp := fun vs H Q E => ∃ (p dx : Addr) (v : V) (o : Option (Nat × Nat)), vs = [.ref p, v] ∧ H p = some (.ins CF dx []) ∧ SzAt K H v 5 o ∧
  (isRuleB o = false → ∀ H1, Ex H H1 → E (.ref CR) none H1) ∧ (∀ a q, o = some (a, q) → q ≤ 4 → ∀ H', ExB p H H' → H' p = some (.ins CF dx (feastF v q)) → Q .non H')
theorem ev_sizeAt {σ : L2.St} {H : Hp} {v : V} {ta : TA} {a q n m : Nat} (h : EvA ta σ H [v, .int (m : Int)]) (hm : m < n) (hz : SzAt K H v m (some (a, q))) : Ev (tOp (rIxT K) (tCall (spSize K n) [] E0 ta) (tC (.int 1))) σ H (.int (q : Int)) := fun H1 e Q k =>
  h H1 e _ fun H2 e2 => ⟨v, m, some (a, q), rfl, hm, hz.mono (e.trans e2), ⟨fun ho => (by cases ho), fun a' q' ho t H3 ht e3 h3 => by
    cases ho
    exact ⟨t, _, 1, .int (q : Int), rfl, rfl, st_of h3, rfl, k H3 (e2.trans e3)⟩⟩⟩
theorem ok_feast (F : Fun K "__init__" "Feast.__init__" s_Feast_init f fd) (T : Txt w K mg C_BadRule C_BadRules C_Feast C_Calendar) (CF : Cls1 K C_Feast ["told", "bys"]) : FnOk P w K mg base (L2.CX P w) 9 f fd ["self", "rule"] (spFeast K C_Feast C_BadRule) := by
  have D_size_of : Dn P w K mg base CX0 "size_of" 7 ["value", "room"] (spSize K 6) := dn_size T
  have D_is_rule : Dn P w K mg base CX0 "is_rule" 8 ["value"] (spIsRule K) := dn_is_rule T
  refine F.okX sc_Feast_init (fun vs H Q E h => ?_) (fun cdv A outer s H vs Q E hr h => ?_)
  · obtain ⟨_, _, _, _, rfl, _⟩ := h
    rfl
  · obtain ⟨p, dx, v, o, rfl, hp, hZ, kE, kG⟩ := h
    refine ⟨_, (pss_cons (ps_if (pt_not (pt_val (pe_fn D_is_rule (hr.mono (by omega)) pass0 rfl (pa_cons (pv 1) pa_nil)))) (pss_one (ps_raise0 rfl (takes_of rfl rfl rfl rfl) T.e_BadRule T.c_BadRule rfl))
  pss_nil)
  (pss_cons (ps_fld (pv 0) (pv 1) rfl)
  (pss_one (ps_fld (pv 0) (pe_ix ix_tup (pe_fn D_size_of (hr.mono (by omega)) pass0 rfl (pa_cons (pv 1) (pa_cons (pe_globE rfl T.g_MOST_PARTS) pa_nil))) pe_int (fun _ _ => rfl)) rfl)))), ?_⟩
    have hev : EvT (tNot (tB (tCall (spIsRule K) [] E0 (tCons (tVar 1) tNil)))) (start ["self", "rule"] [.ref p, v]) H (!isRuleB o) := et_not (et_B (ev_call (ea_cons (ev_var rfl) ea_nil) (spV (z := .bl (isRuleB o)) fun H1 e Q _ q => ⟨v, o, rfl, hZ.mono e, q⟩)))
    cases hb : isRuleB o with
    | false =>
      rw [hb] at hev
      exact q_yes hev fun H1 e1 => kE hb H1 e1
    | true =>
      rw [hb] at hev
      refine q_not hev fun H1 e1 => ?_
      obtain ⟨a, q, rfl, hq⟩ : ∃ a q, o = some (a, q) ∧ q ≤ 4 := by
        cases o with
        | none => cases hb
        | some z => exact ⟨z.1, z.2, rfl, of_decide_eq_true hb⟩
      refine q_fld (ev_var rfl) (ev_var rfl) (e1 _ _ hp) CF.cl (CF.no _ (by simp)) (by show 0 < 1000; decide) fun H2 e2 => ?_
      have hZ2 : SzAt K (upd H2 p (.ins C_Feast dx (putF "told" v []))) v 5 (some (a, q)) := sz_upd ((e1.trans e2) _ _ hp) (hZ.mono (e1.trans e2))
      refine s_fld (y := .int (q : Int)) (ev_sizeAt (m := 5) (ea_cons (ev_var rfl) (ea_cons ev_c ea_nil)) (by decide) hZ2) (ev_var rfl) upd_same CF.cl (CF.no _ (by simp)) (by show 1 < 1000; decide) fun H3 e3 => ?_
      exact kG a q rfl hq _ (((ExB.of (e1.trans e2)).upd.step e3).upd) upd_same
theorem mn_feast (T : Txt w K mg C_BadRule C_BadRules C_Feast C_Calendar) (CF : Cls1 K C_Feast ["told", "bys"]) : Mn P w K mg base (L2.CX P w) C_Feast 9 ["self", "rule"] (spFeast K C_Feast C_BadRule) := T.m_Feast_init.mn fun _ _ F => ok_feast F T CF
/-- Feast(rule), of a rule that may be one -/
theorem er_feast {CF CR : Addr} {σ : L2.St} {H : Hp} {v : V} {r : Rl} {ta : TA} {E : XK} (h : EvA ta σ H [v]) (hr : RlAt K H v r) (hf : r.fit = true) (hp : r.parts ≤ 5) (hb : r.bys ≤ 4) : EvR (tMake CF (spFeast K CF CR) [] E ta) σ H fun p H2 => FeastAt K CF H2 p r :=
  er_make h fun H1 e1 x dx hx hdx hne Q k => by
    have e2 : Ex H1 (upd (upd H1 dx (.own x)) x (.ins CF dx [])) := ex_made hx hdx
    have hz := sz_of (hr.mono (e1.trans e2)) hf 5
    rw [szOf, if_pos hp] at hz
    refine ⟨x, dx, v, _, rfl, upd_same, hz, fun hn => ?_, fun a q ho hq H' eb h' => ?_⟩
    · have : isRuleB (some (r.parts, r.bys)) = true := decide_eq_true hb
      rw [this] at hn
      cases hn
    · cases ho
      have ee : Ex H1 H' := eb.old e2 hx
      exact k H' ee ⟨dx, v, h', hr.mono (e1.trans ee)⟩
end
end WF

set_option Elab.async false
set_option linter.all false
set_option maxRecDepth 100000
set_option maxHeartbeats 2000000
/-! is_pair and Calendar's __init__, of right rows -/
namespace WF
open PySem L2 Evl
section
variable {P : Program} {w : World} {K : PySem.W.Frag} {mg : Str → Option Value} {base : Heap} {C_BadRule C_BadRules C_Feast C_Calendar : Addr} {f : Addr} {fd : FuncData}
theorem kit_bb {K : PySem.W.Frag} : PySem.W.kitOne K (.type "bool") (.type "bool") = some true := kit_ty (by decide +kernel)
def spIsPair (K : PySem.W.Frag) (CF : Addr) : Sp := fun vs H Q _ => ∃ v r, vs = [v] ∧ RowAt K CF H v r ∧ RetV (.bl true) H Q
theorem ok_is_pair (F : Fun K "is_pair" "is_pair" s_is_pair f fd) (T : Txt w K mg C_BadRule C_BadRules C_Feast C_Calendar) (IF : ClsI K C_Feast) : FnOk P w K mg base CX0 1 f fd ["value"] (spIsPair K C_Feast) := by
  refine F.ok sc_is_pair (fun vs H Q E h => ?_) (fun cdv A outer s H vs Q E hr h => ?_)
  · obtain ⟨_, _, rfl, _⟩ := h
    rfl
  · obtain ⟨v, r, rfl, ⟨p, q, rfl, hT, dx, tv, hq, _⟩, k⟩ := h
    refine ⟨_, (pss_cons (ps_if (PW.pt (pw_or (pt_not (pt_val (pe_callB call_isi (by rfl) T.isinstance (by decide +kernel) (pa_cons (pv 0) (pa_cons (pe_bltn (v := .ty "tuple") (by rfl) T.tuple (by decide +kernel) rfl) pa_nil))))) (pw_or1 (pt_cmpR op_ne (pe_callB call_len_seq (by rfl) T.len (by decide +kernel) (pa_cons (pv 0) pa_nil)) pe_int (nomark _))))) (pss_one (ps_ret pe_bl))
  pss_nil)
  (pss_one (ps_ret (pe_and (pe_callB call_isi (by rfl) T.isinstance (by decide +kernel) (pa_cons (pe_ix ix_tup (pv 0) pe_int (fun _ _ => rfl)) (pa_cons (pe_glob (v := .ref C_Feast) rfl T.c_Feast rfl) pa_nil))) (pe_one (pe_callB call_isi (by rfl) T.isinstance (by decide +kernel) (pa_cons (pe_ix ix_tup (pv 0) pe_int (fun _ _ => rfl)) (pa_cons (pe_bltn (v := .ty "bool") (by rfl) T.bool (by decide +kernel) rfl) pa_nil)))))))), ?_⟩
    refine q_not (et_is (et_or (et_not (et_B (ev_isi (ev_var rfl) (ty_tup hT) kit_tt))) fun _ => et_cmp (ev_lenT (ev_var rfl) hT) ev_c (rv_ne rfl)) rfl) fun H1 e1 => ?_
    exact s_ret (ev_is (ev_andV (ev_isiC (ev_ixT (ev_var rfl) (ex_t e1 hT) rfl) (IF.ty (e1 _ _ hq)) kit_self) fun _ => ev_isi (ev_ixT (ev_var rfl) (ex_t e1 hT) rfl) (ty_bl _) kit_bb) rfl) fun H2 e2 => k H2 (e1.trans e2)
theorem dn_is_pair (T : Txt w K mg C_BadRule C_BadRules C_Feast C_Calendar) (IF : ClsI K C_Feast) : Dn P w K mg base CX0 "is_pair" 1 ["value"] (spIsPair K C_Feast) := T.f_is_pair.dn fun _ _ F _ _ => ok_is_pair F T IF
theorem rows_eq (d : Rl × Bool) : ∀ rows : Rows, (List.range rows.length).map (fun i => rows.getD i d) = rows
  | [] => rfl
  | r :: rows => by
    rw [List.length_cons, List.range_succ_eq_map, List.map_cons, List.map_map]
    exact congrArg (List.cons r) (rows_eq d rows)
/-- the rows' feasts, by their place -/
theorem RowsL.fn {CF : Addr} {H : Hp} {xs : List V} {rows : Rows} (h : RowsL K CF H xs rows) (d : Rl × Bool) : ∃ q : Nat → Addr, ∀ i x, xs[i]? = some x → ∃ p, x = .ref p ∧ SqT K H p [.ref (q i), .bl (rows.getD i d).2] ∧ FeastAt K CF H (q i) (rows.getD i d).1 := by
  have : ∀ i, ∃ q : Addr, ∀ x, xs[i]? = some x → ∃ p, x = .ref p ∧ SqT K H p [.ref q, .bl (rows.getD i d).2] ∧ FeastAt K CF H q (rows.getD i d).1 := fun i => by
    cases e : xs[i]? with
    | none => exact ⟨0, fun x hx => nomatch hx⟩
    | some y =>
      obtain ⟨r, hr, p, q, h0, h1, h2⟩ := h.get e
      refine ⟨q, fun x hx => ?_⟩
      cases hx
      have : rows.getD i d = r := by rw [List.getD_eq_getElem?_getD, hr]; rfl
      rw [this]
      exact ⟨p, h0, h1, h2⟩
  exact Classical.axiomOfChoice this
def spCal (K : PySem.W.Frag) (CF CC : Addr) : Sp := fun vs H Q E => ∃ (p dx : Addr) (v : V) (rows : Rows), vs = [.ref p, v] ∧ H p = some (.ins CC dx []) ∧ RowsAt K CF H v rows ∧ rows.length ≤ 3 ∧ rowsBys rows ≤ 4 ∧
  (∀ H', ExB p H H' → H' p = some (.ins CC dx (calF v (reachOf rows))) → Q .non H')
theorem ok_cal (F : Fun K "__init__" "Calendar.__init__" s_Calendar_init f fd) (T : Txt w K mg C_BadRule C_BadRules C_Feast C_Calendar) (CF : Cls1 K C_Feast ["told", "bys"]) (IF : ClsI K C_Feast) (CC : Cls1 K C_Calendar ["rows", "near"]) : FnOk P w K mg base CX0 2 f fd ["self", "rules"] (spCal K C_Feast C_Calendar) := by
  have D_is_pair : Dn P w K mg base CX0 "is_pair" 1 ["value"] (spIsPair K C_Feast) := dn_is_pair T IF
  refine F.ok sc_Calendar_init (fun vs H Q E h => ?_) (fun cdv A outer s H vs Q E hr h => ?_)
  · obtain ⟨_, _, _, _, rfl, _⟩ := h
    rfl
  · obtain ⟨p, dx, v, rows, rfl, hp, ⟨a, xs, rfl, hX, hRs⟩, hlen, hbys, k⟩ := h
    obtain ⟨qf, hqf⟩ := hRs.fn (.wk 0, false)
    have hxl := hRs.len
    refine ⟨_, (pss_cons (ps_if (PW.pt (pw_or (pt_not (pt_val (pe_callB call_isi (by rfl) T.isinstance (by decide +kernel) (pa_cons (pv 1) (pa_cons (pe_bltn (v := .ty "tuple") (by rfl) T.tuple (by decide +kernel) rfl) pa_nil))))) (pw_or1 (pt_cmpR op_gt (pe_callB call_len_seq (by rfl) T.len (by decide +kernel) (pa_cons (pv 1) pa_nil)) (pe_globE rfl T.g_MOST_RULES) (nomark _))))) (pss_one ps_never)
  pss_nil)
  (pss_cons (ps_for PassesOwn.never rfl (pi_enumT (by rfl) T.enumerate (pa_cons (pv 1) pa_nil)) (pg_tup rfl (pgs_cons (pg_name (i := 2) sc_Calendar_init.nd rfl (by first | exact Or.inl rfl | exact Or.inr rfl)) (pgs_cons (pg_name (i := 3) sc_Calendar_init.nd rfl (by first | exact Or.inl rfl | exact Or.inr rfl)) pgs_nil)))
  (pss_one (ps_if (pt_not (pt_val (pe_fn D_is_pair (hr.mono (by omega)) pass0 rfl (pa_cons (pv 3) pa_nil)))) (pss_one ps_never)
  pss_nil)))
  (pss_cons (ps_set (i := 4) sc_Calendar_init.nd rfl (by first | exact Or.inl rfl | exact Or.inr rfl) (pe_callB (cr_sum rfl) (by rfl) T.sum (by decide +kernel) (pa_cons (pe_lc (own := [("feast", 5), ("yields", 6)]) (tt := tYes) rfl sc_Calendar_init.nd (pi_tup (pv 1)) (blkOk_by (own := [("feast", 5), ("yields", 6)]) (N := ["self", "rules", "index", "rule", "bys", "feast", "yields"]) (sc := defScope s_Calendar_init) (by decide +kernel)) (fun _ _ _ _ _ => (pg_tupK (K := K) (n := 2) rfl (pgs_cons (pg_name (i := 5) sc_Calendar_init.nd rfl (by first | exact Or.inl rfl | exact Or.inr rfl)) (pgs_cons (pg_name (i := 6) sc_Calendar_init.nd rfl (by first | exact Or.inl rfl | exact Or.inr rfl)) pgs_nil)))) (fun _ _ _ _ _ => pts_nil) (fun _ _ _ _ _ => (pe_fldK (K := K) (pv 5) rfl))) pa_nil)))
  (pss_cons (ps_if (pt_cmpR op_gt (pv 4) (pe_globE rfl T.g_MOST_BYS) (nomark _)) (pss_one ps_never)
  pss_nil)
  (pss_cons (ps_fld (pv 0) (pv 1) rfl)
  (pss_one (ps_fld (pv 0) (pe_op op_add (pe_op op_add (pe_globE rfl T.g_LEAST_REACH) (pv 4)) (pe_callB call_len_seq (by rfl) T.len (by decide +kernel) (pa_cons (pe_lc (own := [("feast", 5), ("yields", 6)]) rfl sc_Calendar_init.nd (pi_tup (pv 1)) (blkOk_by (own := [("feast", 5), ("yields", 6)]) (N := ["self", "rules", "index", "rule", "bys", "feast", "yields"]) (sc := defScope s_Calendar_init) (by decide +kernel)) (fun _ _ _ _ _ => (pg_tupK (K := K) (n := 2) rfl (pgs_cons (pg_name (i := 5) sc_Calendar_init.nd rfl (by first | exact Or.inl rfl | exact Or.inr rfl)) (pgs_cons (pg_name (i := 6) sc_Calendar_init.nd rfl (by first | exact Or.inl rfl | exact Or.inr rfl)) pgs_nil)))) (fun _ _ _ _ _ => (pts_one (pt_val (pv 6)))) (fun _ _ _ _ _ => (pv 5))) pa_nil))) rfl))))))), ?_⟩
    refine q_not (et_is (et_or (et_not (et_B (ev_isi (ev_var rfl) (ty_tup hX) kit_tt))) fun _ => et_cmp (ev_lenT (ev_var rfl) hX) ev_c rv_I0) ?_) fun H1 e1 => ?_
    · show (false || decide ((3 : Int) < ((xs.length : Nat) : Int))) = false
      rw [decide_eq_false (by omega)]
      rfl
    refine q_forEnT (ev_var rfl) (ex_t e1 hX) (fun i σ H' => Ex H H' ∧ ∃ a2 a3, σ = [some (.ref p), some (.ref a), a2, a3, none, none, none]) (fun H2 e2 => ⟨e1.trans e2, _, _, rfl⟩) (fun i σ' H' _ h => ex_t h.1 hX) ?_ ?_
    · rintro i x σ' H' H2 hi ⟨e, a2, a3, rfl⟩ e2
      obtain ⟨r, hr', hrow⟩ := hRs.get hi
      refine s_no (et_is (et_not (et_B (ev_call (ea_cons (ev_var rfl) ea_nil) (spV (z := .bl true) fun H3 e3 Q _ q => ⟨x, r, rfl, hrow.mono ((e.trans e2).trans e3), q⟩)))) rfl) fun H3 e3 => ⟨(e.trans e2).trans e3, _, _, rfl⟩
    rintro σ' H' ⟨e, a2, a3, rfl⟩
    have hsum : (((List.range xs.length).map fun i => (((rows.getD i (.wk 0, false)).1.bys : Nat) : Int)).sum) = ((rowsBys rows : Nat) : Int) := by
      rw [cast_sumR, hxl]
      have := rows_eq (.wk 0, false) rows
      unfold rowsBys
      conv => rhs; rw [← this]
      rw [List.map_map]
      rfl
    refine q_asg (v := .int ((rowsBys rows : Nat) : Int)) (ev_is (ev_sumR (n := xs.length) (fun i => (((rows.getD i (.wk 0, false)).1.bys : Nat) : Int)) (el_is (el_tup2 (fun i => .ref (qf i)) (fun i => .bl (rows.getD i (.wk 0, false)).2) (fun _ => true) _ (ev_var rfl) (ex_t e hX) (by omega) (fun _ _ => rfl) (fun i x hi => ?_) (fun _ _ _ _ => et_yes) (fun i H2 e2 hi _ => ?_)) (given_allL xs _))) (by rw [hsum])) fun H2 e2 => ?_
    · obtain ⟨p', h0, h1, _⟩ := hqf i x hi
      exact ⟨p', h0, ex_t e h1⟩
    · obtain ⟨x, hx⟩ : ∃ x, xs[i]? = some x := ⟨xs[i], by simp [hi]⟩
      obtain ⟨p', h0, h1, dx', tv, hq', _⟩ := hqf i x hx
      exact ev_fld (ev_var rfl) ((e.trans e2) _ _ hq') CF.cl (CF.no _ (by simp)) (feastF_bys _ _)
    refine q_not (et_is (et_cmp (ev_var rfl) ev_c rv_I0) (decide_eq_false (by omega))) fun H3 e3 => ?_
    have E3 := (e.trans e2).trans e3
    refine q_fld (ev_var rfl) (ev_var rfl) (E3 _ _ hp) CC.cl (CC.no _ (by simp)) (by show 0 < 1000; decide) fun H4 e4 => ?_
    have E4 := E3.trans e4
    have hp4 := E4 _ _ hp
    refine s_fld (y := .int ((reachOf rows : Nat) : Int)) (ev_is (ev_op (ev_op ev_c (ev_var rfl) rv_I0) (ev_lenN (el_tup2 (fun i => .ref (qf i)) (fun i => .bl (rows.getD i (.wk 0, false)).2) (fun i => (rows.getD i (.wk 0, false)).2) (fun i => .ref (qf i)) (ev_var rfl) (sqt_upd hp4 (ex_t E4 hX)) (by omega) (fun _ _ => rfl) (fun i x hi => ?_) (fun i H5 e5 hi => et_B (ev_var rfl)) (fun i H5 e5 hi _ => ev_var rfl))) rv_I0) ?_) (ev_var rfl) upd_same CC.cl (CC.no _ (by simp)) (by show 1 < 1000; decide) fun H5 e5 => k _ (((ExB.of E4).upd.step e5).upd) upd_same
    · obtain ⟨p', h0, h1, _⟩ := hqf i x hi
      exact ⟨p', h0, sqt_upd hp4 (ex_t E4 h1)⟩
    · have hl : (given xs.length (fun i => (rows.getD i (.wk 0, false)).2) (fun i => V.ref (qf i))).length = (rows.filter fun r => r.2).length := by
        unfold given
        rw [List.length_map, hxl]
        have := rows_eq (.wk 0, false) rows
        conv => rhs; rw [← this]
        rw [List.filter_map, List.length_map]
        rfl
      rw [hl]
      show V.int (3 + ((rowsBys rows : Nat) : Int) + _) = _
      unfold reachOf
      rw [Int.natCast_add, Int.natCast_add]
      rfl
theorem mn_cal (T : Txt w K mg C_BadRule C_BadRules C_Feast C_Calendar) (CF : Cls1 K C_Feast ["told", "bys"]) (IF : ClsI K C_Feast) (CC : Cls1 K C_Calendar ["rows", "near"]) : Mn P w K mg base CX0 C_Calendar 2 ["self", "rules"] (spCal K C_Feast C_Calendar) := T.m_Calendar_init.mn fun _ _ F => ok_cal F T CF IF CC
/-- Calendar(rules) -/
theorem er_cal {CF CC : Addr} {σ : L2.St} {H : Hp} {v : V} {rows : Rows} {ta : TA} {E : XK} (h : EvA ta σ H [v]) (hr : RowsAt K CF H v rows) (hl : rows.length ≤ 3) (hb : rowsBys rows ≤ 4) : EvR (tMake CC (spCal K CF CC) [] E ta) σ H fun p H2 => CalAt K CF CC H2 (.ref p) rows :=
  er_make h fun H1 e1 x dx hx hdx hne Q k => by
    have e2 : Ex H1 (upd (upd H1 dx (.own x)) x (.ins CC dx [])) := ex_made hx hdx
    refine ⟨x, dx, v, rows, rfl, upd_same, hr.mono (e1.trans e2), hl, hb, fun H' eb h' => ?_⟩
    have ee : Ex H1 H' := eb.old e2 hx
    exact k H' ee ⟨x, dx, v, rfl, h', hr.mono (e1.trans ee)⟩
end
end WF

set_option Elab.async false
set_option linter.all false
set_option maxRecDepth 100000
set_option maxHeartbeats 2000000
/-! figure_of -/
namespace WF
open PySem L2 Evl
section
variable {P : Program} {w : World} {K : PySem.W.Frag} {mg : Str → Option Value} {base : Heap} {C_BadRule C_BadRules C_Feast C_Calendar : Addr} {f : Addr} {fd : FuncData}
def spFig (K : PySem.W.Frag) (n : Nat) : Sp := fun vs H Q _ => ∃ (v : V) (l : Addr) (r : Rl) (w m : Nat), vs = [v, .ref l] ∧ RlAt K H v r ∧ r.dep < n ∧ SqT K H l [.int w, .int m] ∧ LandOk w m ∧ RetV (.int (figN (w * m) (r.day w m) : Nat)) H Q
theorem spv_every {H : Hp} {s b n : Nat} {z : Int} (hs : s ≤ 6000) (hb : b ≤ 6000) (hn : n ≤ 6000) (hz : ((((List.range n).map fun t => 2 ^ (b + s * t)).sum : Nat) : Int) = z) : SpV spEvery ([.int s, .int b, .int n] ++ []) H (.int z) :=
  spV fun H1 _ Q _ q => ⟨s, b, n, rfl, hs, hb, hn, by rw [hz]; exact q⟩
theorem spv_turned {H : Hp} {N : Nat} {b : Int} {p : Int → Bool} (hN : 0 < N) (h2 : N ≤ 100000) (hp : Per (N : Int) p) : SpV spTurned ([.int (figN N p : Nat), .int b, .int N] ++ []) H (.int (figN N fun d => p (d - b) : Nat)) :=
  spV fun H1 _ Q _ q => ⟨N, b, p, rfl, hN, h2, hp, q⟩
theorem spv_fig {H : Hp} {n : Nat} {v : V} {l : Addr} {r : Rl} {w m : Nat} (h1 : RlAt K H v r) (h2 : r.dep < n) (h3 : SqT K H l [.int w, .int m]) (h4 : LandOk w m) : SpV (spFig K n) ([v, .ref l] ++ []) H (.int (figN (w * m) (r.day w m) : Nat)) :=
  spV fun H1 e Q _ q => ⟨v, l, r, w, m, rfl, h1.mono e, h2, ex_t e h3, h4, q⟩
theorem fig_turnN (F : Fun K "figure_of" "figure_of" s_figure_of f fd) (T : Txt w K mg C_BadRule C_BadRules C_Feast C_Calendar) (hm : mg "figure_of" = some (.ref f)) (hb : Binds K fd ["rule", "land"] []) (n : Nat) (ih : FnOk P w K mg base CX0 (n + 1) f fd ["rule", "land"] (spFig K n)) : FnOk P w K mg base CX0 (n + 2) f fd ["rule", "land"] (spFig K (n + 1)) := by
  have D_every : Dn P w K mg base CX0 "every" 1 ["step", "begin", "many"] spEvery := dn_every T
  have D_turned : Dn P w K mg base CX0 "turned" 1 ["figure", "by", "round_days"] spTurned := dn_turned T
  have D_figure_of : Dn P w K mg base CX0 "figure_of" (n + 1) ["rule", "land"] (spFig K n) := ⟨f, fd, hm, F.kp, ih, hb⟩
  refine F.ok sc_figure_of (fun vs H Q E h => ?_) (fun cdv A outer s H vs Q E hr h => ?_)
  · obtain ⟨_, _, _, _, _, rfl, _⟩ := h
    rfl
  · obtain ⟨v, l, r, w, m, rfl, hR, hd, hL, hO, k⟩ := h
    obtain ⟨w2, wm, m6, n5⟩ := id hO
    have hq : ((w * m : Nat) : Int) = (w : Int) * (m : Int) := Int.natCast_mul w m
    have hr1 : Room 1 _ := hr.mono (by omega)
    refine ⟨_, (pss_cons (ps_asg (pv 1) (pg_tup rfl (pgs_cons (pg_name (i := 2) sc_figure_of.nd rfl (by first | exact Or.inl rfl | exact Or.inr rfl)) (pgs_cons (pg_name (i := 3) sc_figure_of.nd rfl (by first | exact Or.inl rfl | exact Or.inr rfl)) pgs_nil))))
  (pss_cons (ps_set (i := 4) sc_figure_of.nd rfl (by first | exact Or.inl rfl | exact Or.inr rfl) (pe_ix ix_tup (pv 0) pe_int (fun _ _ => rfl)))
  (pss_cons (ps_if (pt_cmpR op_eq (pv 4) pe_str (nomark _)) (pss_one (ps_ret (pe_fn D_every (hr.mono (by omega)) pass0 rfl (pa_cons (pv 2) (pa_cons (pe_op op_mod (pe_ix ix_tup (pv 0) pe_int (fun _ _ => rfl)) (pv 2)) (pa_cons (pv 3) pa_nil))))))
  pss_nil)
  (pss_cons (ps_if (pt_cmpR op_eq (pv 4) pe_str (nomark _)) (pss_one (ps_ret (pe_fn D_every (hr.mono (by omega)) pass0 rfl (pa_cons (pv 3) (pa_cons (pe_op op_mod (pe_ix ix_tup (pv 0) pe_int (fun _ _ => rfl)) (pv 3)) (pa_cons (pv 2) pa_nil))))))
  pss_nil)
  (pss_cons (ps_if (pt_cmpR op_eq (pv 4) pe_str (nomark _)) (pss_one (ps_ret (pe_callB (cr_sum rfl) (by rfl) T.sum (by decide +kernel) (pa_cons (pe_lc (own := [("month", 7)]) (g := gName 7) (tt := tYes) rfl sc_figure_of.nd (pi_range1 (by rfl) T.range (pa_cons (pv 2) pa_nil)) (blkOk_by (own := [("month", 7)]) (N := ["rule", "land", "w", "m", "word", "one", "other", "month"]) (sc := defScope s_figure_of) (by decide +kernel)) (fun _ _ _ _ _ => (pg_name (i := 7) sc_figure_of.nd rfl (by first | exact Or.inl rfl | exact Or.inr rfl))) (fun _ _ _ _ _ => pts_nil) (fun _ _ _ _ _ => (pe_op op_shlW pe_int (pe_op op_add (pe_op op_mul (pv 7) (pv 3)) (pe_op op_mod (pe_op op_sub (pe_ix (ix_tupK (K := K)) (pv 0) pe_int (fun _ _ => rfl)) (pe_op op_mul (pv 7) (pv 3))) (pv 2)))))) pa_nil))))
  pss_nil)
  (pss_cons (ps_if (pt_cmpR op_eq (pv 4) pe_str (nomark _)) (pss_one (ps_ret (pe_fn D_turned (hr.mono (by omega)) pass0 rfl (pa_cons (pe_fn D_figure_of (hr.mono (by omega)) pass0 rfl (pa_cons (pe_ix ix_tup (pv 0) pe_int (fun _ _ => rfl)) (pa_cons (pv 1) pa_nil))) (pa_cons (pe_ix ix_tup (pv 0) pe_int (fun _ _ => rfl)) (pa_cons (pe_op op_mul (pv 2) (pv 3)) pa_nil))))))
  pss_nil)
  (pss_cons (ps_par (i := 5) (j := 6) (by rfl) sc_figure_of.nd rfl rfl (by decide) rfl rfl (pa_cons (pe_fn D_figure_of (hr.mono (by omega)) pass0 rfl (pa_cons (pe_ix ix_tup (pv 0) pe_int (fun _ _ => rfl)) (pa_cons (pv 1) pa_nil))) (pa_cons (pe_fn D_figure_of (hr.mono (by omega)) pass0 rfl (pa_cons (pe_ix ix_tup (pv 0) pe_int (fun _ _ => rfl)) (pa_cons (pv 1) pa_nil))) pa_nil)) (by first | rfl | exact sw2 rfl rfl rfl rfl (by decide)))
  (pss_cons (ps_if (pt_cmpR op_eq (pv 4) pe_str (nomark _)) (pss_one (ps_ret (pe_op op_and (pv 5) (pv 6))))
  pss_nil)
  (pss_one (ps_ret (pe_ifExp (pt_cmpR op_eq (pv 4) pe_str (nomark _)) (pe_op op_or (pv 5) (pv 6)) (pe_op op_and (pv 5) (pe_un un_inv (pv 6)))))))))))))), ?_⟩
    refine q_asgT (ev_var rfl) hL fun H1 e1 => ?_
    have hR1 := hR.mono e1
    have hw0 : ∀ k : Int, k % (w : Int) = (((k % (w : Int)).toNat : Nat) : Int) := fun k => by
      have := Int.emod_nonneg k (show (w : Int) ≠ 0 by omega)
      omega
    have hm0 : ∀ k : Int, k % (m : Int) = (((k % (m : Int)).toNat : Nat) : Int) := fun k => by
      have := Int.emod_nonneg k (show (m : Int) ≠ 0 by omega)
      omega
    have hwl : ∀ k : Int, (k % (w : Int)).toNat < w := fun k => by
      have := Int.emod_lt_of_pos k (show 0 < (w : Int) by omega)
      omega
    have hml : ∀ k : Int, (k % (m : Int)).toNat < m := fun k => by
      have := Int.emod_lt_of_pos k (show 0 < (m : Int) by omega)
      omega
    cases hR1 with
    | wk hT => 
      rename_i p k0
      refine q_asg (ev_ixT (ev_var rfl) hT rfl) fun H2 e2 => ?_
      refine q_yes (et_str (ev_var rfl) (by decide +kernel)) fun H3 e3 => ?_
      refine s_ret (v := .int (figN (w * m) ((Rl.wk k0).day w m) : Nat)) (ev_call (ea_cons (ev_var rfl) (ea_cons (ev_op (ev_ixT (ev_var rfl) (ex_t (e2.trans e3) hT) rfl) (ev_var rfl) (rv_I (by omega))) (ea_cons (ev_var rfl) ea_nil))) ?_) fun H4 e4 => k H4 (((e1.trans e2).trans e3).trans e4)
      rw [hw0]
      refine spv_every (by omega) (by have := hwl k0; omega) (by omega) ?_
      rw [every_fig k0 (by omega)]
      rfl
    | fs hT =>
      rename_i p k0
      refine q_asg (ev_ixT (ev_var rfl) hT rfl) fun H2 e2 => ?_
      refine q_not (et_str (ev_var rfl) (by decide +kernel)) fun H3 e3 => ?_
      refine q_not (et_str (ev_var rfl) (by decide +kernel)) fun H4 e4 => ?_
      refine q_yes (et_str (ev_var rfl) (by decide +kernel)) fun H5 e5 => ?_
      have hT5 := ex_t (((e2.trans e3).trans e4).trans e5) hT
      refine s_ret (v := .int (figN (w * m) ((Rl.fs k0).day w m) : Nat)) (ev_is (ev_sumR (fun t => (((2 ^ (m * t + ((k0 - (m : Int) * (t : Int)) % (w : Int)).toNat) : Nat)) : Int)) (el_rng _ (ea_cons (ev_var rfl) ea_nil) ⟨by omega, by omega⟩ (fun _ => rfl) fun i H6 e6 hi => ?_)) (by rw [cast_sumR, first_fig k0 (by omega) wm, Int.toNat_natCast, Nat.mul_comm m w]; rfl)) fun H6 e6 => k H6 (((((e1.trans e2).trans e3).trans e4).trans e5).trans e6)
      have hi' : i < w := by omega
      have hmi : m * i ≤ 6000 * 6000 := Nat.mul_le_mul m6 (by omega)
      have hv : (i : Int) * (m : Int) = ((m * i : Nat) : Int) := by rw [Int.natCast_mul, Int.mul_comm]
      refine ev_is (ev_op ev_c (ev_op (ev_op (ev_var rfl) (ev_var rfl) (rv_I (.inl ⟨by omega, by omega⟩))) (ev_op (ev_op (ev_ixT (ev_var rfl) (ex_t e6 hT5) rfl) (ev_op (ev_var rfl) (ev_var rfl) (rv_I (.inl ⟨by omega, by omega⟩))) rv_I0) (ev_var rfl) (rv_I (by omega))) rv_I0) (rv_I ⟨?_, ?_⟩)) ?_
      · rw [hw0]; omega
      · rw [hw0, bits_one]
        have := hwl (k0 - (i : Int) * (m : Int))
        omega
      · rw [hw0, hv, Int.one_mul]
        have e3 : (m : Int) * (i : Int) = ((m * i : Nat) : Int) := by rw [Int.natCast_mul]
        rw [e3, ← Int.natCast_add, Int.toNat_natCast, Int.natCast_pow]
        rfl
    | md hT => 
      rename_i p k0
      refine q_asg (ev_ixT (ev_var rfl) hT rfl) fun H2 e2 => ?_
      refine q_not (et_str (ev_var rfl) (by decide +kernel)) fun H3 e3 => ?_
      refine q_yes (et_str (ev_var rfl) (by decide +kernel)) fun H4 e4 => ?_
      refine s_ret (v := .int (figN (w * m) ((Rl.md k0).day w m) : Nat)) (ev_call (ea_cons (ev_var rfl) (ea_cons (ev_op (ev_ixT (ev_var rfl) (ex_t ((e2.trans e3).trans e4) hT) rfl) (ev_var rfl) (rv_I (by omega))) (ea_cons (ev_var rfl) ea_nil))) ?_) fun H5 e5 => k H5 ((((e1.trans e2).trans e3).trans e4).trans e5)
      rw [hm0]
      refine spv_every (by omega) (by have := hml k0; omega) (by omega) ?_
      rw [every_fig k0 (by omega), Nat.mul_comm m w]
      rfl
    | bh hT hr2 =>
      rename_i p u r b
      have hd2 : r.dep < n := by simp only [Rl.dep] at hd; omega
      refine q_asg (ev_ixT (ev_var rfl) hT rfl) fun H2 e2 => ?_
      refine q_not (et_str (ev_var rfl) (by decide +kernel)) fun H3 e3 => ?_
      refine q_not (et_str (ev_var rfl) (by decide +kernel)) fun H4 e4 => ?_
      refine q_not (et_str (ev_var rfl) (by decide +kernel)) fun H5 e5 => ?_
      refine q_yes (et_str (ev_var rfl) (by decide +kernel)) fun H6 e6 => ?_
      have E6 := (((e2.trans e3).trans e4).trans e5).trans e6
      have hT6 := ex_t E6 hT
      refine s_ret (v := .int (figN (w * m) ((Rl.bh r b).day w m) : Nat)) (ev_call (ea_cons (ev_call (ea_cons (ev_ixT (ev_var rfl) hT6 rfl) (ea_cons (ev_var rfl) ea_nil)) (spv_fig (hr2.mono E6) hd2 (ex_t (e1.trans E6) hL) hO)) (ea_cons (ev_ixT (ev_var rfl) hT6 rfl) (ea_cons (ev_is (ev_op (ev_var rfl) (ev_var rfl) (rv_I (.inl ⟨by omega, by omega⟩))) (by rw [← hq])) ea_nil))) ?_) fun H7 e7 => k H7 ((e1.trans E6).trans e7)
      exact spv_turned hO.pos (by omega) (by rw [hq]; exact rl_per w m r)
    | bo hT hr1 hr2 =>
      rename_i p u v x y
      have hd1 : x.dep < n := by simp only [Rl.dep] at hd; omega
      have hd2 : y.dep < n := by simp only [Rl.dep] at hd; omega
      refine q_asg (ev_ixT (ev_var rfl) hT rfl) fun H2 e2 => ?_
      refine q_not (et_str (ev_var rfl) (by decide +kernel)) fun H3 e3 => ?_
      refine q_not (et_str (ev_var rfl) (by decide +kernel)) fun H4 e4 => ?_
      refine q_not (et_str (ev_var rfl) (by decide +kernel)) fun H5 e5 => ?_
      refine q_not (et_str (ev_var rfl) (by decide +kernel)) fun H6 e6 => ?_
      have E6 := (((e2.trans e3).trans e4).trans e5).trans e6
      have hT6 := ex_t E6 hT
      refine q_par (ea_cons (ev_call (ea_cons (ev_ixT (ev_var rfl) hT6 rfl) (ea_cons (ev_var rfl) ea_nil)) (spv_fig (hr1.mono E6) hd1 (ex_t (e1.trans E6) hL) hO)) (ea_cons (ev_call (ea_cons (ev_ixT (ev_var rfl) hT6 rfl) (ea_cons (ev_var rfl) ea_nil)) (spv_fig (hr2.mono E6) hd2 (ex_t (e1.trans E6) hL) hO)) ea_nil)) fun H7 e7 => ?_
      refine q_yes (et_str (ev_var rfl) (by decide +kernel)) fun H8 e8 => ?_
      refine s_ret (v := .int (figN (w * m) ((Rl.bo x y).day w m) : Nat)) (ev_is (ev_op (ev_var rfl) (ev_var rfl) rv_I0) (by rw [fig_and]; rfl)) fun H9 e9 => k H9 ((((e1.trans E6).trans e7).trans e8).trans e9)
    | ei hT hr1 hr2 =>
      rename_i p u v x y
      have hd1 : x.dep < n := by simp only [Rl.dep] at hd; omega
      have hd2 : y.dep < n := by simp only [Rl.dep] at hd; omega
      refine q_asg (ev_ixT (ev_var rfl) hT rfl) fun H2 e2 => ?_
      refine q_not (et_str (ev_var rfl) (by decide +kernel)) fun H3 e3 => ?_
      refine q_not (et_str (ev_var rfl) (by decide +kernel)) fun H4 e4 => ?_
      refine q_not (et_str (ev_var rfl) (by decide +kernel)) fun H5 e5 => ?_
      refine q_not (et_str (ev_var rfl) (by decide +kernel)) fun H6 e6 => ?_
      have E6 := (((e2.trans e3).trans e4).trans e5).trans e6
      have hT6 := ex_t E6 hT
      refine q_par (ea_cons (ev_call (ea_cons (ev_ixT (ev_var rfl) hT6 rfl) (ea_cons (ev_var rfl) ea_nil)) (spv_fig (hr1.mono E6) hd1 (ex_t (e1.trans E6) hL) hO)) (ea_cons (ev_call (ea_cons (ev_ixT (ev_var rfl) hT6 rfl) (ea_cons (ev_var rfl) ea_nil)) (spv_fig (hr2.mono E6) hd2 (ex_t (e1.trans E6) hL) hO)) ea_nil)) fun H7 e7 => ?_
      refine q_not (et_str (ev_var rfl) (by decide +kernel)) fun H8 e8 => ?_
      refine s_ret (v := .int (figN (w * m) ((Rl.ei x y).day w m) : Nat)) (ev_ifT (et_str (ev_var rfl) (by decide +kernel)) (ev_is (ev_op (ev_var rfl) (ev_var rfl) rv_I0) (by rw [fig_or]; rfl))) fun H9 e9 => k H9 ((((e1.trans E6).trans e7).trans e8).trans e9)
    | wo hT hr1 hr2 =>
      rename_i p u v x y
      have hd1 : x.dep < n := by simp only [Rl.dep] at hd; omega
      have hd2 : y.dep < n := by simp only [Rl.dep] at hd; omega
      refine q_asg (ev_ixT (ev_var rfl) hT rfl) fun H2 e2 => ?_
      refine q_not (et_str (ev_var rfl) (by decide +kernel)) fun H3 e3 => ?_
      refine q_not (et_str (ev_var rfl) (by decide +kernel)) fun H4 e4 => ?_
      refine q_not (et_str (ev_var rfl) (by decide +kernel)) fun H5 e5 => ?_
      refine q_not (et_str (ev_var rfl) (by decide +kernel)) fun H6 e6 => ?_
      have E6 := (((e2.trans e3).trans e4).trans e5).trans e6
      have hT6 := ex_t E6 hT
      refine q_par (ea_cons (ev_call (ea_cons (ev_ixT (ev_var rfl) hT6 rfl) (ea_cons (ev_var rfl) ea_nil)) (spv_fig (hr1.mono E6) hd1 (ex_t (e1.trans E6) hL) hO)) (ea_cons (ev_call (ea_cons (ev_ixT (ev_var rfl) hT6 rfl) (ea_cons (ev_var rfl) ea_nil)) (spv_fig (hr2.mono E6) hd2 (ex_t (e1.trans E6) hL) hO)) ea_nil)) fun H7 e7 => ?_
      refine q_not (et_str (ev_var rfl) (by decide +kernel)) fun H8 e8 => ?_
      refine s_ret (v := .int (figN (w * m) ((Rl.wo x y).day w m) : Nat)) (ev_ifF (et_str (ev_var rfl) (by decide +kernel)) (ev_is (ev_op (ev_var rfl) (ev_un (ev_var rfl) ru_inv) rv_I0) (by rw [fig_wo]; rfl))) fun H9 e9 => k H9 ((((e1.trans E6).trans e7).trans e8).trans e9)
theorem ok_fig (F : Fun K "figure_of" "figure_of" s_figure_of f fd) (T : Txt w K mg C_BadRule C_BadRules C_Feast C_Calendar) (hm : mg "figure_of" = some (.ref f)) (hb : Binds K fd ["rule", "land"] []) : ∀ n : Nat, FnOk P w K mg base CX0 (n + 1) f fd ["rule", "land"] (spFig K n)
  | 0 => fnok_none fun _ _ _ _ ⟨_, _, _, _, _, _, _, h, _⟩ => absurd h (Nat.not_lt_zero _)
  | n + 1 => fig_turnN F T hm hb n (ok_fig F T hm hb n)
end
end WF

set_option Elab.async false
set_option linter.all false
set_option maxRecDepth 100000
set_option maxHeartbeats 2000000
/-! days_of, listed -/
namespace WF
open PySem L2 Evl
section
variable {P : Program} {w : World} {K : PySem.W.Frag} {mg : Str → Option Value} {base : Heap} {C_BadRule C_BadRules C_Feast C_Calendar : Addr} {f : Addr} {fd : FuncData}
def spDays (K : PySem.W.Frag) (CF : Addr) : Sp := fun vs H Q _ => ∃ (v : V) (l : Addr) (rows : Rows) (w m : Nat), vs = [v, .ref l] ∧ RowsAt K CF H v rows ∧ depMax rows < 5 ∧ SqT K H l [.int w, .int m] ∧ LandOk w m ∧ RetV (.int (figN (w * m) (calDay w m rows) : Nat)) H Q
theorem spv_days {H : Hp} {CF : Addr} {v : V} {l : Addr} {rows : Rows} {w m : Nat} (h1 : RowsAt K CF H v rows) (h2 : depMax rows < 5) (h3 : SqT K H l [.int w, .int m]) (h4 : LandOk w m) : SpV (spDays K CF) ([v, .ref l] ++ []) H (.int (figN (w * m) (calDay w m rows) : Nat)) :=
  spV fun H1 e Q _ q => ⟨v, l, rows, w, m, rfl, h1.mono e, h2, ex_t e h3, h4, q⟩
theorem ok_days (F : Fun K "days_of" "days_of" s_days_of f fd) (T : Txt w K mg C_BadRule C_BadRules C_Feast C_Calendar) (CF : Cls1 K C_Feast ["told", "bys"]) (D_figure_of : Dn P w K mg base CX0 "figure_of" 6 ["rule", "land"] (spFig K 5)) : FnOk P w K mg base CX0 7 f fd ["rows", "land"] (spDays K C_Feast) := by
  have D_turned : Dn P w K mg base CX0 "turned" 1 ["figure", "by", "round_days"] spTurned := dn_turned T
  refine F.ok sc_days_of (fun vs H Q E h => ?_) (fun cdv A outer s H vs Q E hr h => ?_)
  · obtain ⟨_, _, _, _, _, rfl, _⟩ := h
    rfl
  · obtain ⟨v, l, rows, w, m, rfl, ⟨a, xs, rfl, hX, hRs⟩, hd, hL, hO, k⟩ := h
    obtain ⟨w2, wm, m6, n5⟩ := id hO
    have hq : ((w * m : Nat) : Int) = (w : Int) * (m : Int) := Int.natCast_mul w m
    refine ⟨_, (pss_cons (ps_set (i := 2) sc_days_of.nd rfl (by first | exact Or.inl rfl | exact Or.inr rfl) pe_int)
  (pss_cons (ps_for PassesOwn.never rfl (pi_tup (pv 0)) (pg_tup rfl (pgs_cons (pg_name (i := 3) sc_days_of.nd rfl (by first | exact Or.inl rfl | exact Or.inr rfl)) (pgs_cons (pg_name (i := 4) sc_days_of.nd rfl (by first | exact Or.inl rfl | exact Or.inr rfl)) pgs_nil)))
  (pss_cons (ps_set (i := 5) sc_days_of.nd rfl (by first | exact Or.inl rfl | exact Or.inr rfl) (pe_fn D_figure_of (hr.mono (by omega)) pass0 rfl (pa_cons (pe_fld (pv 3) rfl) (pa_cons (pv 1) pa_nil))))
  (pss_cons (ps_set (i := 6) sc_days_of.nd rfl (by first | exact Or.inl rfl | exact Or.inr rfl) (pe_ifExp (pt_val (pv 4)) (pe_op op_and (pv 5) (pv 2)) pe_int))
  (pss_one (ps_set (i := 2) sc_days_of.nd rfl (by first | exact Or.inl rfl | exact Or.inr rfl) (pe_op op_or (pe_op op_or (pv 2) (pe_op op_and (pv 5) (pe_un un_inv (pv 6)))) (pe_fn D_turned (hr.mono (by omega)) pass0 rfl (pa_cons (pv 6) (pa_cons pe_int (pa_cons (pe_op op_mul (pe_ix ix_tup (pv 1) pe_int (fun _ _ => rfl)) (pe_ix ix_tup (pv 1) pe_int (fun _ _ => rfl))) pa_nil))))))))))
  (pss_one (ps_ret (pv 2))))), ?_⟩
    refine q_asg ev_c fun H1 e1 => ?_
    refine q_forT (ev_var rfl) (ex_t e1 hX) (fun i σ H' => ∃ a1 a2 a3 a4, σ = [some (.ref a), some (.ref l), some (.int (figN (w * m) (calDay w m (rows.take i)) : Nat)), a1, a2, a3, a4] ∧ Ex H H') (fun H2 e2 => ⟨none, none, none, none, ?_, e1.trans e2⟩) (fun i σ' H' _ ⟨_, _, _, _, _, e⟩ => ex_t e hX) ?_ ?_
    · rw [show figN (w * m) (calDay w m (rows.take 0)) = 0 from figN_zero fun _ _ => rfl]
      rfl
    · rintro i x σ' H' hi ⟨a1, a2, a3, a4, rfl, e⟩
      obtain ⟨r, hr1, p, q, rfl, hp, dx, tv, hf, hv⟩ := hRs.get hi
      refine ⟨_, _, rfl, ex_t e hp, rfl, _, _, rfl, _, _, rfl, rfl, ?_⟩
      have hdr : r.1.dep < 5 := Nat.lt_of_le_of_lt (dep_le hr1) hd
      refine q_asg (ev_call (ea_cons (ev_fld (ev_var rfl) (e _ _ hf) CF.cl (CF.no _ (by simp)) (feastF_told _ _)) (ea_cons (ev_var rfl) ea_nil)) (spv_fig (hv.mono e) hdr (ex_t e hL) hO)) fun H3 e3 => ?_
      refine q_asg (v := .int (figN (w * m) (fun d => r.2 && (r.1.day w m d && calDay w m (rows.take i) d)) : Nat)) (ev_if (et_B (ev_var rfl)) (fun hb => ev_is (ev_op (ev_var rfl) (ev_var rfl) rv_I0) ?_) (fun hb => ev_is ev_c ?_)) fun H4 e4 => ?_
      · rw [fig_and, hb]; rfl
      · rw [hb]
        exact congrArg (fun n : Nat => V.int (n : Int)) (figN_zero fun _ _ => rfl).symm
      have hper : Per ((w * m : Nat) : Int) (fun d => r.2 && (r.1.day w m d && calDay w m (rows.take i) d)) := fun d => by
        show (r.2 && (r.1.day w m (d + ((w * m : Nat) : Int)) && calDay w m (rows.take i) (d + ((w * m : Nat) : Int)))) = _
        rw [hq, rl_per w m r.1 d, cal_per w m (rows.take i) d]
      refine s_asg (v := .int (figN (w * m) (calDay w m (rows.take (i + 1))) : Nat)) (ev_is (ev_op (ev_op (ev_var rfl) (ev_op (ev_var rfl) (ev_un (ev_var rfl) ru_inv) rv_I0) rv_I0) (ev_call (ea_cons (ev_var rfl) (ea_cons ev_c (ea_cons (ev_is (ev_op (ev_ixT (ev_var rfl) (ex_t ((e.trans e3).trans e4) hL) rfl) (ev_ixT (ev_var rfl) (ex_t ((e.trans e3).trans e4) hL) rfl) (rv_I (.inl ⟨by omega, by omega⟩))) (by rw [← hq])) ea_nil))) (spv_turned hO.pos (by omega) hper)) rv_I0) ?_) fun H5 e5 => ⟨_, _, _, _, rfl, ((e.trans e3).trans e4).trans e5⟩
      rw [fig_wo, fig_or, fig_or, cal_more _ _ hr1]
      refine congrArg (fun n : Nat => V.int (n : Int)) (figN_congr fun d _ => ?_)
      unfold addRow
      cases r.2 <;> cases r.1.day w m d <;> cases calDay w m (rows.take i) d <;> rfl
    · rintro σ' H' ⟨a1, a2, a3, a4, rfl, e⟩
      refine s_ret (ev_var rfl) fun H2 e2 => ?_
      rw [hRs.len, List.take_length]
      exact k H2 (e.trans e2)
theorem dn_days (T : Txt w K mg C_BadRule C_BadRules C_Feast C_Calendar) (CF : Cls1 K C_Feast ["told", "bys"]) : Dn P w K mg base CX0 "days_of" 7 ["rows", "land"] (spDays K C_Feast) := T.f_days_of.dn fun _ _ F _ _ => ok_days F T CF (T.f_figure_of.dn fun _ _ F hm hb => ok_fig F T hm hb 5)
/-- listed -/
def spListed : Sp := fun vs H Q _ => ∃ (N : Nat) (p : Int → Bool), vs = [.int (figN N p : Nat)] ∧ N ≤ 50000 ∧ RetL ((daysN N p).map fun (d : Nat) => V.int (d : Int)) H Q
theorem ok_listed (F : Fun K "listed" "listed" s_listed f fd) (T : Txt w K mg C_BadRule C_BadRules C_Feast C_Calendar) : FnOk P w K mg base CX0 1 f fd ["figure"] spListed := by
  refine F.ok sc_listed (fun vs H Q E h => ?_) (fun cdv A outer s H vs Q E hr h => ?_)
  · obtain ⟨_, _, rfl, _⟩ := h
    rfl
  · obtain ⟨N, p, rfl, hN, k⟩ := h
    refine ⟨_, (pss_cons (ps_set (i := 1) sc_listed.nd rfl (by first | exact Or.inl rfl | exact Or.inr rfl) (pe_lst pa_nil))
  (pss_cons (ps_while PassesOwn.never (pt_cmpR op_gt (pv 0) pe_int (nomark _))
  (pss_cons (ps_set (i := 2) sc_listed.nd rfl (by first | exact Or.inl rfl | exact Or.inr rfl) (pe_op op_and (pv 0) (pe_un un_neg (pv 0))))
  (pss_cons (ps_expr (pe_bm PySem.F.plainAttrs_list PySem.F.slot_list_append PySem.F.type_list_append mt_append (pv 1) (pa_cons (pe_op op_sub (pe_bits (pv 2)) pe_int) pa_nil)))
  (pss_one (ps_set (i := 0) sc_listed.nd rfl (by first | exact Or.inl rfl | exact Or.inr rfl) (pe_op op_xor (pv 0) (pv 2)))))))
  (pss_one (ps_ret (pv 1))))), ?_⟩
    refine q_asgL (el_lst ea_nil (Nat.zero_le _)) fun l H1 hl e1 h1 => ?_
    refine q_while (fun n σ H' => ∃ i lw, i ≤ N ∧ n = N - i ∧ σ = [some (.int (figN N (fun d => p d && decide ((i : Int) ≤ d)) : Nat)), some (.ref l), lw] ∧ H' l = some (.lst ((daysN i p).map fun (d : Nat) => V.int (d : Int))) ∧ Ex H H') N
      ⟨0, none, Nat.zero_le _, rfl, ?_, h1, e1⟩ ?_
    · rw [figN_congr (q := fun d => p d && decide ((0 : Int) ≤ d)) (p := p) fun d _ => by
        show p d = (p d && decide ((0 : Int) ≤ (d : Int)))
        rw [decide_eq_true (Int.natCast_nonneg d), Bool.and_true]]
      rfl
    · rintro n σ' H' ⟨i, lw, hi, rfl, rfl, hL, e⟩
      refine ⟨decide ((0 : Int) < (figN N (fun d => p d && decide ((i : Int) ≤ d)) : Nat)), et_cmp (ev_var rfl) ev_c rv_I0, fun hb H2 e2 => ?_, fun hb H2 e2 => ?_⟩
      · have hpos : 0 < figN N (fun d => p d && decide ((i : Int) ≤ d)) := by
          have := of_decide_eq_true hb
          omega
        obtain ⟨j, a, hj, hqj, hlt, hfig⟩ := fig_low hpos
        rw [Bool.and_eq_true, decide_eq_true_iff] at hqj
        have hij : i ≤ j := by omega
        have hlow : Builtin.bitAnd (figN N (fun d => p d && decide ((i : Int) ≤ d)) : Int) (-(figN N (fun d => p d && decide ((i : Int) ≤ d)) : Int)) = ((2 ^ j : Nat) : Int) := by
          have e0 : (figN N (fun d => p d && decide ((i : Int) ≤ d)) : Int) = 2 ^ j * (2 * (a : Int) + 1) := by
            rw [hfig, Int.natCast_mul, Int.natCast_pow, Int.natCast_add, Int.natCast_mul]; rfl
          rw [e0, PySem.W.kbt_low, Int.natCast_pow]
          rfl
        have hdn : daysN (j + 1) p = daysN i p ++ [j] := by
          rw [daysN_succ, hqj.1, if_pos rfl, daysN_more (fun d h1 h2 => ?_) hij]
          have := hlt d h2
          rw [decide_eq_true (show (i : Int) ≤ (d : Int) by omega), Bool.and_true] at this
          exact this
        have hxor : Builtin.bitXor (figN N (fun d => p d && decide ((i : Int) ≤ d)) : Int) ((2 ^ j : Nat) : Int) = (figN N (fun d => p d && decide (((j + 1 : Nat) : Int) ≤ d)) : Nat) := by
          rw [fig_one hj, fig_xor]
          refine congrArg (fun n : Nat => (n : Int)) (figN_congr fun d _ => ?_)
          show ((p d && decide ((i : Int) ≤ d)) ^^ ((d : Int) == (j : Int))) = (p d && decide (((j + 1 : Nat) : Int) ≤ d))
          rcases Nat.lt_trichotomy d j with h | h | h
          · have h1 : (p d && decide ((i : Int) ≤ d)) = false := hlt d h
            rw [h1, decide_eq_false (show ¬ ((j + 1 : Nat) : Int) ≤ (d : Int) by omega), Bool.and_false, beq_eq_false_iff_ne.mpr (show (d : Int) ≠ (j : Int) by omega)]
            rfl
          · subst h
            rw [hqj.1, decide_eq_true hqj.2, decide_eq_false (show ¬ ((d + 1 : Nat) : Int) ≤ (d : Int) by omega), beq_self_eq_true]
            rfl
          · rw [decide_eq_true (show (i : Int) ≤ (d : Int) by omega), decide_eq_true (show ((j + 1 : Nat) : Int) ≤ (d : Int) by omega), beq_eq_false_iff_ne.mpr (show (d : Int) ≠ (j : Int) by omega)]
            simp
        refine ⟨fun σ2 H3 => σ2 = [some (.int (figN N (fun d => p d && decide (((j + 1 : Nat) : Int) ≤ d)) : Nat)), some (.ref l), some (.int (2 ^ j : Nat))] ∧ H3 l = some (.lst ((daysN (j + 1) p).map fun (d : Nat) => V.int (d : Int))) ∧ Ex H H3, fun σ2 H3 ⟨q1, q2, q3⟩ => ⟨N - (j + 1), by omega, j + 1, _, by omega, rfl, q1, q2, q3⟩, ?_⟩
        refine q_asg (v := .int (2 ^ j : Nat)) (ev_is (ev_op (ev_var rfl) (ev_un (ev_var rfl) ru_neg) rv_I0) (by rw [hlow])) fun H3 e3 => ?_
        have hbits : ((Builtin.Int.intBits ((2 ^ j : Nat) : Int) : Nat) : Int) - 1 = (j : Int) := by
          rw [bits_pow]; omega
        refine q_app (v := .int (j : Int)) ((e2.trans e3) _ _ hL) (ev_var rfl) (ev_is (ev_op (ev_bits (ev_var rfl)) ev_c rv_I0) (by rw [hbits])) ?_ fun H4 e4 => ?_
        · rw [List.length_map]
          have := daysN_len i p
          omega
        · refine s_asg (ev_is (ev_op (ev_var rfl) (ev_var rfl) rv_I0) (by rw [hxor])) fun H5 e5 => ⟨rfl, ?_, ?_⟩
          · refine e5 _ _ ?_
            rw [upd_same, hdn, List.map_append]
            rfl
          · exact (Ex.mut (((e.trans e2).trans e3).trans e4) hl).trans e5
      · have h0 : figN N (fun d => p d && decide ((i : Int) ≤ d)) = 0 := by
          have := of_decide_eq_false hb
          omega
        have hz : daysN N p = daysN i p := daysN_more (fun d h1 h2 => by
          have := figN_bit N (fun d => p d && decide ((i : Int) ≤ d)) d
          rw [h0, Nat.zero_testBit, decide_eq_true h2, Bool.true_and, decide_eq_true (show (i : Int) ≤ (d : Int) by omega), Bool.and_true] at this
          exact this.symm) hi
        refine s_ret (ev_var rfl) fun H3 e3 => ?_
        refine k l H3 hl ((e.trans e2).trans e3) ?_
        rw [hz]
        exact (e2.trans e3) _ _ hL
theorem dn_listed (T : Txt w K mg C_BadRule C_BadRules C_Feast C_Calendar) : Dn P w K mg base CX0 "listed" 1 ["figure"] spListed := T.f_listed.dn fun _ _ F _ _ => ok_listed F T
end
end WF

set_option Elab.async false
set_option linter.all false
set_option maxRecDepth 100000
set_option maxHeartbeats 2000000
/-! the law's own defs: what is drawn -/
namespace WF
open PySem L2 Evl
section
variable {P : Program} {w : World} {K : PySem.W.Frag} {mg : Str → Option Value} {base : Heap} {C_BadRule C_BadRules C_Feast C_Calendar : Addr} {f : Addr} {fd : FuncData}
def spRandom (K : PySem.W.Frag) : Sp := fun vs H Q _ => ∃ (a : Addr) (ns : List Int) (salt : Int), vs = [.ref a, .int salt] ∧ SqL K H a (ns.map V.int) ∧ ns.length ≤ 63 ∧ 0 ≤ salt ∧ salt < 1000000 ∧ ∀ p H2 xs, Good xs → H p = none → Ex H H2 → H2 p = some (.lst xs) → Q (.ref p) H2
theorem ok_random (F : Fun K "_law_random" "_law_random" s_l_random f fd) (T : Txt w K mg C_BadRule C_BadRules C_Feast C_Calendar) : FnOk P w K mg base CX0 1 f fd ["_law_script", "_law_salt"] (spRandom K) := by
  refine F.ok sc_l_random (fun vs H Q E h => ?_) (fun cdv A outer s H vs Q E hr h => ?_)
  · obtain ⟨_, _, _, rfl, _⟩ := h
    rfl
  · obtain ⟨a, ns, salt, rfl, hA, hn, h0, h1, k⟩ := h
    refine ⟨_, (pss_cons (ps_set (i := 2) sc_l_random.nd rfl (by first | exact Or.inl rfl | exact Or.inr rfl) (pv 1))
  (pss_cons (ps_for PassesOwn.never rfl (pi_list (pv 0)) (pg_name (i := 3) sc_l_random.nd rfl (by first | exact Or.inl rfl | exact Or.inr rfl))
  (pss_one (ps_set (i := 2) sc_l_random.nd rfl (by first | exact Or.inl rfl | exact Or.inr rfl) (pe_op op_mod (pe_callTy call_int1 (by rfl) T.int (by decide +kernel) (pa_cons (pe_op op_add (pe_op op_mul (pv 2) pe_int) (pe_callB call_abs (by rfl) T.abs (by decide +kernel) (pa_cons (pv 3) pa_nil))) pa_nil)) pe_int))))
  (pss_one (ps_ret (pe_op op_cat (pe_lst (pa_cons (pv 2) (pa_cons pe_int pa_nil))) (pe_lc (own := [("_law_cell", 3)]) (g := gName 3) rfl sc_l_random.nd (pi_list (pv 0)) (blkOk_by (own := [("_law_cell", 3)]) (N := ["_law_script", "_law_salt", "_law_seed", "_law_cell"]) (sc := defScope s_l_random) (by decide +kernel)) (fun _ _ _ _ _ => (pg_name (i := 3) sc_l_random.nd rfl (by first | exact Or.inl rfl | exact Or.inr rfl))) (fun _ _ _ _ _ => (pts_one (pt_cmpR op_ge (pv 3) (pe_op op_pow pe_int pe_int) (nomark _)))) (fun _ _ _ _ _ => (pv 3)))))))), ?_⟩
    refine q_asg (ev_var rfl) fun H1 e1 => ?_
    refine q_forLn (ev_var rfl) (ex_l e1 hA) (fun i σ H' => Ex H H' ∧ ∃ z c, 0 ≤ z ∧ z < 2147483647 ∧ σ = [some (.ref a), some (.int salt), some (.int z), c]) (fun H2 e2 => ⟨e1.trans e2, salt, none, h0, by omega, rfl⟩) (fun i σ' H' _ h => ex_l h.1 hA) ?_ ?_
    · rintro i x σ' H' hi ⟨e, z, c, hz0, hz1, rfl⟩
      obtain ⟨n, _, rfl⟩ : ∃ n, ns[i]? = some n ∧ x = .int n := by
        rw [List.getElem?_map] at hi
        cases en : ns[i]? with
        | none => rw [en] at hi; cases hi
        | some n => rw [en] at hi; exact ⟨n, rfl, (Option.some.inj hi).symm⟩
      refine s_asg (ev_op (ev_int1 (ev_op (ev_op (ev_var rfl) ev_c (rv_I (.inl ⟨by omega, by omega⟩))) (ev_abs (ev_var rfl)) rv_I0)) ev_c (rv_I (by decide))) fun H2 e2 => ⟨e.trans e2, _, _, Int.emod_nonneg _ (by decide), Int.emod_lt_of_pos _ (by decide), rfl⟩
    · rintro σ' H' ⟨e, z, c, hz0, hz1, rfl⟩
      refine s_retL (el_cat (el_lst (ea_cons (ev_var rfl) (ea_cons ev_c ea_nil)) (by show 2 ≤ 100000; decide)) (el_lcL (fun i => decide (10 ^ 18 ≤ ns.getD i 0)) (fun i => .int (ns.getD i 0)) (ev_var rfl) (ex_l e hA) (by rw [List.length_map]; omega) (fun _ => rfl) (fun i x H2 e2 hi => ?_) (fun i x H2 e2 hi hf => ?_)) ?_) fun p H2 hp e2 h2 => ?_
      · have hx : x = .int (ns.getD i 0) := by
          rw [List.getElem?_map] at hi
          rw [List.getD_eq_getElem?_getD]
          cases en : ns[i]? with
          | none => rw [en] at hi; cases hi
          | some n => rw [en] at hi; exact (Option.some.inj hi).symm
        subst hx
        exact et_cmp (ev_var rfl) (ev_op ev_c ev_c (rv_I ⟨by decide, by decide, by decide⟩)) rv_I0
      · have hx : x = .int (ns.getD i 0) := by
          rw [List.getElem?_map] at hi
          rw [List.getD_eq_getElem?_getD]
          cases en : ns[i]? with
          | none => rw [en] at hi; cases hi
          | some n => rw [en] at hi; exact (Option.some.inj hi).symm
        subst hx
        exact ev_var rfl
      · have := given_len (ns.map V.int).length (fun i => decide (10 ^ 18 ≤ ns.getD i 0)) (fun i => V.int (ns.getD i 0))
        rw [List.length_map] at this ⊢
        show 2 + _ ≤ 100000
        omega
      · refine k p H2 _ ⟨z, 0, ((List.range ns.length).filter fun i => decide (10 ^ 18 ≤ ns.getD i 0)).map fun i => ns.getD i 0, ?_, hz0, hz1, Int.le_refl _, fun b hb => ?_, ?_⟩ (fresh_back e hp) (e.trans e2) h2
        · rw [List.map_map, List.length_map]
          rfl
        · rw [List.mem_map] at hb
          obtain ⟨i, hi, rfl⟩ := hb
          rw [List.mem_filter] at hi
          have h18 := of_decide_eq_true hi.2
          have : (0 : Int) ≤ 10 ^ 18 := by decide
          omega
        · rw [List.length_map]
          have := List.length_filter_le (fun i => decide (10 ^ 18 ≤ ns.getD i 0)) (List.range ns.length)
          rw [List.length_range] at this
          omega
theorem dn_random (T : Txt w K mg C_BadRule C_BadRules C_Feast C_Calendar) : Dn P w K mg base CX0 "_law_random" 1 ["_law_script", "_law_salt"] (spRandom K) := T.f_l_random.dn fun _ _ F _ _ => ok_random F T
def spBelow : Sp := fun vs H Q _ => ∃ (d : Addr) (xs : List V) (n : Int), vs = [.ref d, .int n] ∧ H d = some (.lst xs) ∧ Good xs ∧ 1 ≤ n ∧ n < 1073741824 ∧ ∀ (r : Nat) xs' H', (r : Int) < n → Good xs' → ExB d H H' → H' d = some (.lst xs') → Q (.int r) H'
theorem at1 {x y : V} {xs : List V} : atI (x :: y :: xs) 1 = some y := atI_nat (j := 1) rfl
theorem ixN0 {n : Nat} (h : 0 < n) : ixN n 0 = some 0 := by
  have := ixN_nat (n := n) (j := 0) h
  exact this
theorem ixN1 {n : Nat} (h : 1 < n) : ixN n 1 = some 1 := ixN_nat (n := n) (j := 1) h
theorem ok_below (F : Fun K "_law_below" "_law_below" s_l_below f fd) (T : Txt w K mg C_BadRule C_BadRules C_Feast C_Calendar) : FnOk P w K mg base CX0 1 f fd ["_law_d", "_law_size"] spBelow := by
  refine F.ok sc_l_below (fun vs H Q E h => ?_) (fun cdv A outer s H vs Q E hr h => ?_)
  · obtain ⟨_, _, _, rfl, _⟩ := h
    rfl
  · obtain ⟨d, xs, n, rfl, hd, hg, h1, h2, k⟩ := h
    refine ⟨_, (Evl.pss_cut (ps_if (PW.pt (pw_and (pt_cmpR op_eq (pe_ix ix_list (pv 0) pe_int (fun _ _ => rfl)) pe_int (nomark _)) (pw_and1 (pt_cmpR op_gt (pe_callB call_len_seq (by rfl) T.len (by decide +kernel) (pa_cons (pv 0) pa_nil)) pe_int (nomark _))))) (pss_one (ps_asg (pe_bm PySem.F.plainAttrs_list PySem.F.slot_list_pop PySem.F.type_list_pop mt_popAt (pv 0) (pa_cons pe_int pa_nil)) (pg_sub (pv 0) pe_int set_list)))
  pss_nil)
  (pss_cons (ps_if (pt_cmpR op_gt (pe_ix ix_list (pv 0) pe_int (fun _ _ => rfl)) pe_int (nomark _)) (pss_cons (ps_set (i := 2) sc_l_below.nd rfl (by first | exact Or.inl rfl | exact Or.inr rfl) (pe_op op_mod (pe_callTy call_int1 (by rfl) T.int (by decide +kernel) (pa_cons (pe_ix ix_list (pv 0) pe_int (fun _ _ => rfl)) pa_nil)) (pv 1)))
  (pss_cons (ps_asg (pe_op op_fdiv (pe_ix ix_list (pv 0) pe_int (fun _ _ => rfl)) (pv 1)) (pg_sub (pv 0) pe_int set_list))
  (pss_one (ps_ret (pv 2)))))
  pss_nil)
  (pss_cons (ps_asg (pe_op op_mod (pe_callTy call_int1 (by rfl) T.int (by decide +kernel) (pa_cons (pe_op op_add (pe_op op_mul (pe_ix ix_list (pv 0) pe_int (fun _ _ => rfl)) pe_int) pe_int) pa_nil)) pe_int) (pg_sub (pv 0) pe_int set_list))
  (pss_one (ps_ret (pe_op op_mod (pe_callTy call_int1 (by rfl) T.int (by decide +kernel) (pa_cons (pe_op op_fdiv (pe_ix ix_list (pv 0) pe_int (fun _ _ => rfl)) pe_int) pa_nil)) (pv 1))))))), ?_⟩
    obtain ⟨z, r, bs, rfl, hz0, hz1, hr0, hbs, hl⟩ := hg
    refine q_cut (M := fun σ' H' => σ' = [some (.ref d), some (.int n), none] ∧ ∃ (z r : Int) (bs : List Int), H' d = some (.lst (.int z :: .int r :: bs.map V.int)) ∧ 0 ≤ z ∧ z < 2147483647 ∧ 0 ≤ r ∧ (∀ b ∈ bs, 0 ≤ b) ∧ bs.length ≤ 100 ∧ ExB d H H') ?_ ?_
    · refine s_when (et_and (et_cmp (ev_ixL (ev_var rfl) (sq_of hd) at1) ev_c (rv_eq rfl)) fun _ => et_cmp (ev_lenL (ev_var rfl) (sq_of hd)) ev_c rv_I0) (fun hb H1 e1 => ?_) (fun hb H1 e1 => ⟨rfl, z, r, bs, e1 _ _ hd, hz0, hz1, hr0, hbs, hl, ExB.of e1⟩)
      rw [Bool.and_eq_true] at hb
      have hlen := of_decide_eq_true hb.2
      cases bs with
      | nil => exact absurd hlen (by simp)
      | cons b bs =>
        refine ⟨_, rfl, .inl ⟨rfl, _, sq_of (e1 _ _ hd)⟩, d, _, 2, 2, .int b, rfl, rfl, e1 _ _ hd, by decide, by decide, ?_, rfl, _, rfl, d, _, 1, 1, rfl, rfl, upd_same, ?_, ?_⟩
        · show (if 0 ≤ (2 : Int) && (2 : Int) < (((V.int z :: V.int r :: (b :: bs).map V.int).length : Nat) : Int) then some (2 : Int).toNat else none) = some 2
          rw [if_pos]
          · rfl
          · simp
            omega
        · exact ixN1 (by simp)
        · refine ⟨rfl, z, b, bs, upd_same, hz0, hz1, hbs b List.mem_cons_self, fun c hc => hbs c (List.mem_cons_of_mem _ hc), ?_, (ExB.of e1).upd.upd⟩
          simp at hl
          omega
    · rintro σ' H' ⟨rfl, z, r, bs, hd', hz0, hz1, hr0, hbs, hl, eb⟩
      refine q_when (et_cmp (ev_ixL (ev_var rfl) (sq_of hd') at1) ev_c rv_I0) (fun hb H1 e1 => ?_) (fun hb H1 e1 => ?_)
      · refine q_asg (ev_op (ev_int1 (ev_ixL (ev_var rfl) (sq_of (e1 _ _ hd')) at1)) (ev_var rfl) (rv_I (by omega))) fun H2 e2 => ?_
        refine q_setI (j := 1) ((e1.trans e2) _ _ hd') (ev_op (ev_ixL (ev_var rfl) (sq_of ((e1.trans e2) _ _ hd')) at1) (ev_var rfl) (rv_I ⟨by omega, h2⟩)) (ev_var rfl) (ixN1 (by simp)) fun H3 e3 => ?_
        refine s_ret (ev_var rfl) fun H4 e4 => ?_
        have hm0 := Int.emod_nonneg r (show n ≠ 0 by omega)
        have hm1 := Int.emod_lt_of_pos r (show 0 < n by omega)
        have hk := k (r % n).toNat _ H4 (by omega) ⟨z, r / n, bs, rfl, hz0, hz1, Int.ediv_nonneg hr0 (by omega), hbs, hl⟩ (((eb.step ((e1.trans e2).trans e3)).upd).step e4) (e4 _ _ upd_same)
        rw [Int.toNat_of_nonneg hm0] at hk
        exact hk
      · refine q_setI (j := 0) (e1 _ _ hd') (ev_op (ev_int1 (ev_op (ev_op (ev_ixL (ev_var rfl) (sq_of (e1 _ _ hd')) at0) ev_c (rv_I (.inl ⟨by omega, by omega⟩))) ev_c rv_I0)) ev_c (rv_I (by decide))) (ev_var rfl) (ixN0 (by simp)) fun H2 e2 => ?_
        refine s_ret (ev_op (ev_int1 (ev_op (ev_ixL (ev_var rfl) (sq_of upd_same) at0) ev_c (rv_I ⟨by decide, by decide⟩))) (ev_var rfl) (rv_I (by omega))) fun H4 e4 => ?_
        have hm0 := Int.emod_nonneg ((z * 48271 + 11) % 2147483647 / 64) (show n ≠ 0 by omega)
        have hm1 := Int.emod_lt_of_pos ((z * 48271 + 11) % 2147483647 / 64) (show 0 < n by omega)
        have hk := k ((z * 48271 + 11) % 2147483647 / 64 % n).toNat _ H4 (by omega) ⟨(z * 48271 + 11) % 2147483647, r, bs, rfl, Int.emod_nonneg _ (by decide), Int.emod_lt_of_pos _ (by decide), hr0, hbs, hl⟩ (((eb.step (e1.trans e2)).upd).step e4) (e4 _ _ upd_same)
        rw [Int.toNat_of_nonneg hm0] at hk
        exact hk
theorem dn_below (T : Txt w K mg C_BadRule C_BadRules C_Feast C_Calendar) : Dn P w K mg base CX0 "_law_below" 1 ["_law_d", "_law_size"] spBelow := T.f_l_below.dn fun _ _ F _ _ => ok_below F T
end
end WF

set_option Elab.async false
set_option linter.all false
set_option maxRecDepth 100000
set_option maxHeartbeats 2000000
/-! pick, leaf, rule -/
namespace WF
open PySem L2 Evl
section
variable {P : Program} {w : World} {K : PySem.W.Frag} {mg : Str → Option Value} {base : Heap} {C_BadRule C_BadRules C_Feast C_Calendar : Addr} {f : Addr} {fd : FuncData}
def spPick (K : PySem.W.Frag) : Sp := fun vs H Q _ => ∃ (d l : Addr) (xs ys : List V), vs = [.ref d, .ref l] ∧ H d = some (.lst xs) ∧ Good xs ∧ SqL K H l ys ∧ l ≠ d ∧ 1 ≤ ys.length ∧ ys.length ≤ 1000000 ∧
  ∀ y xs' H', y ∈ ys → Good xs' → ExB d H H' → H' d = some (.lst xs') → Q y H'
theorem ok_pick (F : Fun K "_law_pick" "_law_pick" s_l_pick f fd) (T : Txt w K mg C_BadRule C_BadRules C_Feast C_Calendar) : FnOk P w K mg base CX0 2 f fd ["_law_d", "_law_items"] (spPick K) := by
  have D_l_below : Dn P w K mg base CX0 "_law_below" 1 ["_law_d", "_law_size"] spBelow := dn_below T
  refine F.ok sc_l_pick (fun vs H Q E h => ?_) (fun cdv A outer s H vs Q E hr h => ?_)
  · obtain ⟨_, _, _, _, rfl, _⟩ := h
    rfl
  · obtain ⟨d, l, xs, ys, rfl, hd, hg, hl, hne, h1, h2, k⟩ := h
    refine ⟨_, (pss_one (ps_ret (pe_ix ix_list (pv 1) (pe_fn D_l_below (hr.mono (by omega)) pass0 rfl (pa_cons (pv 0) (pa_cons (pe_callB call_len_seq (by rfl) T.len (by decide +kernel) (pa_cons (pv 1) pa_nil)) pa_nil))) (fun _ _ => rfl)))), ?_⟩
    refine ⟨_, rfl, call_ev (ea_cons (ev_var rfl) (ea_cons (ev_lenL (ev_var rfl) hl) ea_nil)) fun H1 e1 => ⟨d, xs, _, rfl, e1 _ _ hd, hg, by omega, by omega, fun r xs' H' hr' hg' eb hd' => ?_⟩⟩
    have hlt : r < ys.length := by omega
    have eb' : ExB d H H' := fun b o hb q => eb b o hb (e1 b o q)
    exact ⟨l, ys, _, ys[r], rfl, rfl, sql_but eb' hne hl, atI_nat (by simp [hlt]), k _ xs' H' (List.getElem_mem hlt) hg' eb' hd'⟩
theorem dn_pick (T : Txt w K mg C_BadRule C_BadRules C_Feast C_Calendar) : Dn P w K mg base CX0 "_law_pick" 2 ["_law_d", "_law_items"] (spPick K) := T.f_l_pick.dn fun _ _ F _ _ => ok_pick F T
/-- pick of a new list -/
theorem pick_new {σ : L2.St} {H : Hp} {ta tl : TE} {d : Addr} {xs ys : List V} {Q : VK} {E : XK} (h0 : Ev ta σ H (.ref d)) (hl : EvL tl σ H ys) (hd : H d = some (.lst xs)) (hg : Good xs) (h1 : 1 ≤ ys.length) (h2 : ys.length ≤ 1000000)
    (k : ∀ y xs' H', y ∈ ys → Good xs' → ExB d H H' → H' d = some (.lst xs') → Q y H') : tCall (spPick K) [] E (tCons ta (tCons tl tNil)) σ H Q :=
  h0 H (Ex.refl H) _ fun H1 e1 => hl H1 e1 _ fun p H2 hp e2 hp2 => ⟨d, p, xs, ys, rfl, (e1.trans e2) _ _ hd, hg, sq_of hp2, (ne_of_none (e1 _ _ hd) hp).symm, h1, h2, fun y xs' H' hy hg' eb hd' =>
    k y xs' H' hy hg' (fun b o hb q => eb b o hb ((e1.trans e2) b o q)) hd'⟩
theorem below_ev {σ : L2.St} {H : Hp} {ta tb : TE} {d : Addr} {xs : List V} {n : Int} {Q : VK} {E : XK} (h0 : Ev ta σ H (.ref d)) (hl : Ev tb σ H (.int n)) (hd : H d = some (.lst xs)) (hg : Good xs) (h1 : 1 ≤ n) (h2 : n < 1073741824)
    (k : ∀ (r : Nat) xs' H', (r : Int) < n → Good xs' → ExB d H H' → H' d = some (.lst xs') → Q (.int r) H') : tCall spBelow [] E (tCons ta (tCons tb tNil)) σ H Q :=
  call_ev (ea_cons h0 (ea_cons hl ea_nil)) fun H1 e1 => ⟨d, xs, n, rfl, e1 _ _ hd, hg, h1, h2, fun r xs' H' hr hg' eb hd' => k r xs' H' hr hg' (fun b o hb q => eb b o hb (e1 b o q)) hd'⟩
/-- below(..) == c -/
theorem below_eq {σ : L2.St} {H : Hp} {ta tb : TE} {d : Addr} {xs : List V} {n c : Int} {Q : Bool → Hp → Prop} {E : XK} (h0 : Ev ta σ H (.ref d)) (hl : Ev tb σ H (.int n)) (hd : H d = some (.lst xs)) (hg : Good xs) (h1 : 1 ≤ n) (h2 : n < 1073741824)
    (k : ∀ (r : Nat) xs' H', (r : Int) < n → Good xs' → ExB d H H' → H' d = some (.lst xs') → Q (decide (V.int r = V.int c)) H') : tTest (tOp rEq (tCall spBelow [] E (tCons ta (tCons tb tNil))) (tC (.int c))) σ H Q :=
  below_ev h0 hl hd hg h1 h2 fun r xs' H' hr hg' eb hd' => ⟨rfl, _, rfl, k r xs' H' hr hg' eb hd'⟩
def spLeaf (K : PySem.W.Frag) : Sp := fun vs H Q _ => ∃ (d : Addr) (xs : List V), vs = [.ref d] ∧ H d = some (.lst xs) ∧ Good xs ∧
  ∀ v r xs' H', RlAt K H' v r → r.fit = true → r.parts = 1 → r.bys = 0 → Good xs' → ExB d H H' → H' d = some (.lst xs') → Q v H'
theorem ok_leaf (F : Fun K "_law_leaf" "_law_leaf" s_l_leaf f fd) (T : Txt w K mg C_BadRule C_BadRules C_Feast C_Calendar) : FnOk P w K mg base CX0 3 f fd ["_law_d"] (spLeaf K) := by
  have D_l_below : Dn P w K mg base CX0 "_law_below" 1 ["_law_d", "_law_size"] spBelow := dn_below T
  have D_l_pick : Dn P w K mg base CX0 "_law_pick" 2 ["_law_d", "_law_items"] (spPick K) := dn_pick T
  refine F.ok sc_l_leaf (fun vs H Q E h => ?_) (fun cdv A outer s H vs Q E hr h => ?_)
  · obtain ⟨_, _, rfl, _⟩ := h
    rfl
  · obtain ⟨d, xs, rfl, hd, hg, k⟩ := h
    refine ⟨_, (pss_cons (ps_if (pt_cmpR op_eq (pe_fn D_l_below (hr.mono (by omega)) pass0 rfl (pa_cons (pv 0) (pa_cons pe_int pa_nil))) pe_int (nomark _)) (pss_one (ps_ret (pe_tup (pa_cons pe_str (pa_cons (pe_fn D_l_pick (hr.mono (by omega)) pass0 rfl (pa_cons (pv 0) (pa_cons (pe_lst (pa_cons (pe_un un_neg pe_int) (pa_cons (pe_un un_neg pe_int) (pa_cons (pe_un un_neg pe_int) (pa_cons pe_int (pa_cons pe_int (pa_cons pe_int pa_nil))))))) pa_nil))) pa_nil)))))
  pss_nil)
  (pss_one (ps_ret (pe_tup (pa_cons (pe_fn D_l_pick (hr.mono (by omega)) pass0 rfl (pa_cons (pv 0) (pa_cons (pe_lst (pa_cons pe_str (pa_cons pe_str (pa_cons pe_str pa_nil)))) pa_nil))) (pa_cons (pe_fn D_l_pick (hr.mono (by omega)) pass0 rfl (pa_cons (pv 0) (pa_cons (pe_lst (pa_cons (pe_un un_neg pe_int) (pa_cons (pe_un un_neg pe_int) (pa_cons pe_int (pa_cons pe_int pa_nil))))) pa_nil))) pa_nil)))))), ?_⟩
    refine q_ifX (below_eq (ev_var rfl) ev_c hd hg (by decide) (by decide) fun r xs1 H1 hr1 hg1 eb1 hd1 => ite2 (fun _ => ?_) (fun _ => ?_))
    · refine pick_new (ev_var rfl) (el_lst (ea_cons (ev_un ev_c ru_neg) (ea_cons (ev_un ev_c ru_neg) (ea_cons (ev_un ev_c ru_neg) (ea_cons ev_c (ea_cons ev_c (ea_cons ev_c ea_nil)))))) (by show 6 ≤ 100000; decide)) hd1 hg1 (by decide) (by decide) fun y xs2 H2 hy hg2 eb2 hd2 => ?_
      refine ⟨by show 2 ≤ sizeLine; decide, fun p hp => ?_⟩
      have hyk : ∃ j : Int, y = .int j ∧ -3 ≤ j ∧ j ≤ 2 := by
        simp at hy
        rcases hy with rfl | rfl | rfl | rfl | rfl | rfl <;> exact ⟨_, rfl, by decide, by decide⟩
      obtain ⟨j, rfl, h3, h4⟩ := hyk
      refine k _ (.md j) xs2 _ (.md (st_of upd_same)) (decide_eq_true ⟨h3, h4⟩) rfl rfl hg2 ((eb1.trans eb2).step (Ex.new hp)) ?_
      rw [upd_ne (ne_of_none hd2 hp)]
      exact hd2
    · refine pick_new (ev_var rfl) (el_lst (ea_cons ev_c (ea_cons ev_c (ea_cons ev_c ea_nil))) (by show 3 ≤ 100000; decide)) hd1 hg1 (by decide) (by decide) fun x xs2 H2 hx hg2 eb2 hd2 => ?_
      refine pick_new (ev_var rfl) (el_lst (ea_cons (ev_un ev_c ru_neg) (ea_cons (ev_un ev_c ru_neg) (ea_cons ev_c (ea_cons ev_c ea_nil)))) (by show 4 ≤ 100000; decide)) hd2 hg2 (by decide) (by decide) fun y xs3 H3 hy hg3 eb3 hd3 => ?_
      refine ⟨by show 2 ≤ sizeLine; decide, fun p hp => ?_⟩
      have hyk : ∃ j : Int, y = .int j ∧ -2 ≤ j ∧ j ≤ 1 := by
        simp at hy
        rcases hy with rfl | rfl | rfl | rfl <;> exact ⟨_, rfl, by decide, by decide⟩
      obtain ⟨j, rfl, h3, h4⟩ := hyk
      have hd4 : upd H3 p (.tup [x, .int j]) d = some (.lst xs3) := by
        rw [upd_ne (ne_of_none hd3 hp)]
        exact hd3
      have eb : ExB d H (upd H3 p (.tup [x, .int j])) := ((eb1.trans eb2).trans eb3).step (Ex.new hp)
      have hxk : x = .str "weekday" ∨ x = .str "first" := by
        simp at hx
        rcases hx with rfl | rfl
        · exact .inl rfl
        · exact .inr rfl
      rcases hxk with rfl | rfl
      · exact k _ (.wk j) xs3 _ (.wk (st_of upd_same)) (decide_eq_true ⟨h3, h4⟩) rfl rfl hg3 eb hd4
      · exact k _ (.fs j) xs3 _ (.fs (st_of upd_same)) (decide_eq_true ⟨h3, h4⟩) rfl rfl hg3 eb hd4
theorem dn_leaf (T : Txt w K mg C_BadRule C_BadRules C_Feast C_Calendar) : Dn P w K mg base CX0 "_law_leaf" 3 ["_law_d"] (spLeaf K) := T.f_l_leaf.dn fun _ _ F _ _ => ok_leaf F T
def spRule (K : PySem.W.Frag) (n : Nat) : Sp := fun vs H Q _ => ∃ (d l : Addr) (xs : List V) (p b : Nat), vs = [.ref d, .ref l] ∧ H d = some (.lst xs) ∧ Good xs ∧ H l = some (.lst [.int (p : Int), .int (b : Int)]) ∧ d ≠ l ∧ p < n ∧ b ≤ 100 ∧
  ∀ v r xs' (p' b' : Nat) H', RlAt K H' v r → r.fit = true → r.parts + p' = 1 + p → r.bys + b' = b → Good xs' → H' d = some (.lst xs') → H' l = some (.lst [.int (p' : Int), .int (b' : Int)]) → ExB2 d l H H' → Q v H'
theorem rule_turn (F : Fun K "_law_rule" "_law_rule" s_l_rule f fd) (T : Txt w K mg C_BadRule C_BadRules C_Feast C_Calendar) (hm : mg "_law_rule" = some (.ref f)) (hb : Binds K fd ["_law_d", "_law_left"] []) (n : Nat) (ih : FnOk P w K mg base CX0 (n + 4) f fd ["_law_d", "_law_left"] (spRule K n)) : FnOk P w K mg base CX0 (n + 5) f fd ["_law_d", "_law_left"] (spRule K (n + 1)) := by
  have D_l_below : Dn P w K mg base CX0 "_law_below" 1 ["_law_d", "_law_size"] spBelow := dn_below T
  have D_l_pick : Dn P w K mg base CX0 "_law_pick" 2 ["_law_d", "_law_items"] (spPick K) := dn_pick T
  have D_l_leaf : Dn P w K mg base CX0 "_law_leaf" 3 ["_law_d"] (spLeaf K) := dn_leaf T
  have D_l_rule : Dn P w K mg base CX0 "_law_rule" (n + 4) ["_law_d", "_law_left"] (spRule K n) := ⟨f, fd, hm, F.kp, ih, hb⟩
  refine F.ok sc_l_rule (fun vs H Q E h => ?_) (fun cdv A outer s H vs Q E hr h => ?_)
  · obtain ⟨_, _, _, _, _, rfl, _⟩ := h
    rfl
  · obtain ⟨d, l, xs, p, b, rfl, hd, hg, hl, hne, hpn, hb4, k⟩ := h
    refine ⟨_, (pss_cons (ps_set (i := 2) sc_l_rule.nd rfl (by first | exact Or.inl rfl | exact Or.inr rfl) (pe_fn D_l_below (hr.mono (by omega)) pass0 rfl (pa_cons (pv 0) (pa_cons pe_int pa_nil))))
  (pss_cons (ps_if (PW.pt (pw_and (pt_cmpR op_eq (pv 2) pe_int (nomark _)) (pw_and (pt_cmpR op_gt (pe_ix ix_list (pv 1) pe_int (fun _ _ => rfl)) pe_int (nomark _)) (pw_and1 (pt_cmpR op_gt (pe_ix ix_list (pv 1) pe_int (fun _ _ => rfl)) pe_int (nomark _)))))) (pss_cons (ps_set (i := 3) sc_l_rule.nd rfl (by first | exact Or.inl rfl | exact Or.inr rfl) (pe_ifExp (pt_cmpR op_gt (pe_ix ix_list (pv 1) pe_int (fun _ _ => rfl)) pe_int (nomark _)) (pe_fn D_l_pick (hr.mono (by omega)) pass0 rfl (pa_cons (pv 0) (pa_cons (pe_lst (pa_cons (pe_un un_neg pe_int) (pa_cons pe_int (pa_cons (pe_un un_neg pe_int) (pa_cons pe_int pa_nil))))) pa_nil))) (pe_fn D_l_pick (hr.mono (by omega)) pass0 rfl (pa_cons (pv 0) (pa_cons (pe_lst (pa_cons (pe_un un_neg pe_int) (pa_cons pe_int pa_nil))) pa_nil)))))
  (pss_cons (ps_asg (pe_op op_sub (pe_ix ix_list (pv 1) pe_int (fun _ _ => rfl)) pe_int) (pg_sub (pv 1) pe_int set_list))
  (pss_cons (ps_asg (pe_op op_sub (pe_ix ix_list (pv 1) pe_int (fun _ _ => rfl)) (pe_callB call_abs (by rfl) T.abs (by decide +kernel) (pa_cons (pv 3) pa_nil))) (pg_sub (pv 1) pe_int set_list))
  (pss_one (ps_ret (pe_tup (pa_cons pe_str (pa_cons (pe_fn D_l_rule (hr.mono (by omega)) pass0 rfl (pa_cons (pv 0) (pa_cons (pv 1) pa_nil))) (pa_cons (pv 3) pa_nil)))))))))
  pss_nil)
  (pss_cons (ps_if (PW.pt (pw_and (pt_cmpR op_lt (pv 2) pe_int (nomark _)) (pw_and1 (pt_cmpR op_gt (pe_ix ix_list (pv 1) pe_int (fun _ _ => rfl)) pe_int (nomark _))))) (pss_cons (ps_set (i := 4) sc_l_rule.nd rfl (by first | exact Or.inl rfl | exact Or.inr rfl) (pe_fn D_l_pick (hr.mono (by omega)) pass0 rfl (pa_cons (pv 0) (pa_cons (pe_lst (pa_cons pe_str (pa_cons pe_str (pa_cons pe_str pa_nil)))) pa_nil))))
  (pss_cons (ps_asg (pe_op op_sub (pe_ix ix_list (pv 1) pe_int (fun _ _ => rfl)) pe_int) (pg_sub (pv 1) pe_int set_list))
  (pss_cons (ps_set (i := 5) sc_l_rule.nd rfl (by first | exact Or.inl rfl | exact Or.inr rfl) (pe_fn D_l_rule (hr.mono (by omega)) pass0 rfl (pa_cons (pv 0) (pa_cons (pv 1) pa_nil))))
  (pss_one (ps_ret (pe_tup (pa_cons (pv 4) (pa_cons (pv 5) (pa_cons (pe_fn D_l_rule (hr.mono (by omega)) pass0 rfl (pa_cons (pv 0) (pa_cons (pv 1) pa_nil))) pa_nil)))))))))
  pss_nil)
  (pss_one (ps_ret (pe_fn D_l_leaf (hr.mono (by omega)) pass0 rfl (pa_cons (pv 0) pa_nil))))))), ?_⟩
    refine q_asgX (below_ev (ev_var rfl) ev_c hd hg (by decide) (by decide) fun r xs1 H1 hr1 hg1 eb1 hd1 => ?_)
    have hl1 := eb1 _ _ (Ne.symm hne) hl
    refine q_when (et_and (et_cmp (ev_var rfl) ev_c (rv_eq rfl)) fun _ => et_and (et_cmp (ev_ixL (ev_var rfl) (sq_of hl1) at0) ev_c rv_I0) fun _ => et_cmp (ev_ixL (ev_var rfl) (sq_of hl1) at1) ev_c rv_I0) (fun hc H2 e2 => ?_) (fun _ H2 e2 => ?_)
    · rw [Bool.and_eq_true, Bool.and_eq_true] at hc
      have hp0 := of_decide_eq_true hc.2.1
      have hb0 := of_decide_eq_true hc.2.2
      have hd2 := e2 _ _ hd1
      have hl2 := e2 _ _ hl1
      -- the by
      have byP : ∀ (Q2 : VK), (∀ (j : Int) xs3 H3, byOk j = true → j.natAbs ≤ b → Good xs3 → ExB d H2 H3 → H3 d = some (.lst xs3) → Q2 (.int j) H3) →
          tIf (tTest (tOp (rI0 fun i j => .bl (decide (j < i))) (tOp (rIxL K) (tVar 1) (tC (.int 1))) (tC (.int 1)))) (tCall (spPick K) [] E0 (tCons (tVar 0) (tCons (tLst (tCons (tUn (rU fun i => .int (-i)) (tC (.int 1))) (tCons (tC (.int 1)) (tCons (tUn (rU fun i => .int (-i)) (tC (.int 2))) (tCons (tC (.int 2)) tNil))))) tNil)))
            (tCall (spPick K) [] E0 (tCons (tVar 0) (tCons (tLst (tCons (tUn (rU fun i => .int (-i)) (tC (.int 1))) (tCons (tC (.int 1)) tNil))) tNil))) [some (.ref d), some (.ref l), some (.int (r : Int)), none, none, none] H2 Q2 := fun Q2 kq => by
        refine (et_cmp (ev_ixL (ev_var rfl) (sq_of hl2) at1) ev_c rv_I0 : EvT _ _ _ _) H2 (Ex.refl H2) _ fun H3 e3 => ?_
        refine ite2 (fun hc1 => ?_) (fun hc1 => ?_)
        · refine pick_new (ev_var rfl) (el_lst (ea_cons (ev_un ev_c ru_neg) (ea_cons ev_c (ea_cons (ev_un ev_c ru_neg) (ea_cons ev_c ea_nil)))) (by show 4 ≤ 100000; decide)) (e3 _ _ hd2) hg1 (by decide) (by decide) fun y xs4 H4 hy hg4 eb4 hd4 => ?_
          have hc2 := of_decide_eq_true hc1
          have : ∃ j : Int, y = .int j ∧ byOk j = true ∧ j.natAbs ≤ 2 := by
            simp at hy
            rcases hy with rfl | rfl | rfl | rfl <;> exact ⟨_, rfl, rfl, by decide⟩
          obtain ⟨j, rfl, hj, hj2⟩ := this
          exact kq j xs4 H4 hj (by omega) hg4 (fun c o hcd q => eb4 c o hcd (e3 c o q)) hd4
        · refine pick_new (ev_var rfl) (el_lst (ea_cons (ev_un ev_c ru_neg) (ea_cons ev_c ea_nil)) (by show 2 ≤ 100000; decide)) (e3 _ _ hd2) hg1 (by decide) (by decide) fun y xs4 H4 hy hg4 eb4 hd4 => ?_
          have : ∃ j : Int, y = .int j ∧ byOk j = true ∧ j.natAbs ≤ 1 := by
            simp at hy
            rcases hy with rfl | rfl <;> exact ⟨_, rfl, rfl, by decide⟩
          obtain ⟨j, rfl, hj, hj2⟩ := this
          exact kq j xs4 H4 hj (by omega) hg4 (fun c o hcd q => eb4 c o hcd (e3 c o q)) hd4
      refine q_asgX (byP _ fun j xs3 H3 hj hjb hg3 eb3 hd3 => ?_)
      have hl3 := eb3 _ _ (Ne.symm hne) hl2
      refine q_setI (j := 0) hl3 (ev_op (ev_ixL (ev_var rfl) (sq_of hl3) at0) ev_c rv_I0) (ev_var rfl) (ixN0 (by simp)) fun H4 e4 => ?_
      refine q_setI (j := 1) upd_same (ev_op (ev_ixL (ev_var rfl) (sq_of upd_same) at1) (ev_abs (ev_var rfl)) rv_I0) (ev_var rfl) (ixN1 (by simp)) fun H5 e5 => ?_
      have hd5 : upd H5 l (.lst [.int ((p : Int) - 1), .int ((b : Int) - (if j < 0 then -j else j))]) d = some (.lst xs3) := by
        rw [upd_ne hne]
        refine e5 _ _ ?_
        rw [upd_ne hne]
        exact e4 _ _ hd3
      have E5 : ExB2 d l H (upd H5 l (.lst [.int ((p : Int) - 1), .int ((b : Int) - (if j < 0 then -j else j))])) := ((((eb1.two (l := l)).step e2).trans (eb3.two)).step e4).updL.step e5 |>.updL
      refine call_ev (ea_cons (ev_var rfl) (ea_cons (ev_var rfl) ea_nil)) fun H6 e6 => ⟨d, l, xs3, p - 1, b - j.natAbs, rfl, e6 _ _ hd5, hg3, ?_, hne, by omega, by omega, fun v rr xs7 p7 b7 H7 hR hf hpp hbb hg7 hd7 hl7 E7 => ?_⟩
      · rw [e6 _ _ upd_same, abs_val]
        have h1 : (p : Int) - 1 = ((p - 1 : Nat) : Int) := by omega
        have h2 : (b : Int) - ((j.natAbs : Nat) : Int) = ((b - j.natAbs : Nat) : Int) := by omega
        show some (HO.lst [V.int ((p : Int) - 1), V.int ((b : Int) - ((j.natAbs : Nat) : Int))]) = _
        rw [h1, h2]
      · refine ⟨_, rfl, by show 3 ≤ sizeLine; decide, fun q hq => ?_⟩
        refine k _ (.bh rr j) xs7 p7 b7 _ (.bh (st_of upd_same) (hR.mono (Ex.new hq))) ?_ ?_ ?_ hg7 ?_ ?_ ((E5.step e6).trans (E7.step (Ex.new hq)))
        · show (decide _ && rr.fit) = true
          rw [hf, Bool.and_true]
          exact hj
        · show 1 + rr.parts + p7 = 1 + p
          omega
        · show j.natAbs + rr.bys + b7 = b
          omega
        · exact (Ex.new hq) _ _ hd7
        · exact (Ex.new hq) _ _ hl7
    · have hd2 := e2 _ _ hd1
      have hl2 := e2 _ _ hl1
      refine q_when (et_and (et_cmp (ev_var rfl) ev_c rv_I0) fun _ => et_cmp (ev_ixL (ev_var rfl) (sq_of hl2) at0) ev_c rv_I0) (fun hc H3 e3 => ?_) (fun _ H3 e3 => ?_)
      · rw [Bool.and_eq_true] at hc
        have hp0 := of_decide_eq_true hc.2
        have hd3 := e3 _ _ hd2
        have hl3 := e3 _ _ hl2
        refine q_asgX (pick_new (ev_var rfl) (el_lst (ea_cons ev_c (ea_cons ev_c (ea_cons ev_c ea_nil))) (by show 3 ≤ 100000; decide)) hd3 hg1 (by decide) (by decide) fun y xs4 H4 hy hg4 eb4 hd4 => ?_)
        have hyk : ∃ s : Str, y = .str s ∧ isPair s := by
          simp at hy
          rcases hy with rfl | rfl | rfl
          · exact ⟨_, rfl, .inl rfl⟩
          · exact ⟨_, rfl, .inr (.inl rfl)⟩
          · exact ⟨_, rfl, .inr (.inr rfl)⟩
        obtain ⟨s, rfl, hs⟩ := hyk
        have hl4 := eb4 _ _ (Ne.symm hne) hl3
        refine q_setI (j := 0) hl4 (ev_op (ev_ixL (ev_var rfl) (sq_of hl4) at0) ev_c rv_I0) (ev_var rfl) (ixN0 (by simp)) fun H5 e5 => ?_
        have hd5 : upd H5 l (.lst [.int ((p : Int) - 2), .int (b : Int)]) d = some (.lst xs4) := by
          rw [upd_ne hne]
          exact e5 _ _ hd4
        have E5 : ExB2 d l H (upd H5 l (.lst [.int ((p : Int) - 2), .int (b : Int)])) := (((((eb1.two (l := l)).step e2).step e3).trans (eb4.two)).step e5).updL
        refine q_call (ea_cons (ev_var rfl) (ea_cons (ev_var rfl) ea_nil)) fun H6 e6 => ⟨d, l, xs4, p - 2, b, rfl, e6 _ _ hd5, hg4, ?_, hne, by omega, by omega, fun v1 r1 xs7 p7 b7 H7 hR1 hf1 hpp1 hbb1 hg7 hd7 hl7 E7 => ?_⟩
        · rw [e6 _ _ upd_same]
          have h1 : (p : Int) - 2 = ((p - 2 : Nat) : Int) := by omega
          show some (HO.lst [V.int ((p : Int) - 2), V.int (b : Int)]) = _
          rw [h1]
        · have hpos := parts_pos r1
          refine ⟨_, rfl, _, rfl, call_ev (ea_cons (ev_var rfl) (ea_cons (ev_var rfl) ea_nil)) fun H8 e8 => ⟨d, l, xs7, p7, b7, rfl, e8 _ _ hd7, hg7, e8 _ _ hl7, hne, by omega, by omega, fun v2 r2 xs9 p9 b9 H9 hR2 hf2 hpp2 hbb2 hg9 hd9 hl9 E9 => ?_⟩⟩
          refine ⟨by show 3 ≤ sizeLine; decide, fun q hq => ?_⟩
          have hR1' : RlAt K H9 v1 r1 := (hR1.mono e8).kn (E9.kn (e8 _ _ hd7) (e8 _ _ hl7))
          have eF : ExB2 d l H (upd H9 q (.tup [.str s, v1, v2])) := (((E5.step e6).trans E7).step e8).trans (E9.step (Ex.new hq))
          rcases hs with rfl | rfl | rfl
          · refine k _ (.bo r1 r2) xs9 p9 b9 _ (.bo (st_of upd_same) (hR1'.mono (Ex.new hq)) (hR2.mono (Ex.new hq))) (by show (r1.fit && r2.fit) = true; rw [hf1, hf2]; rfl) ?_ ?_ hg9 ((Ex.new hq) _ _ hd9) ((Ex.new hq) _ _ hl9) eF
            · show 1 + r1.parts + r2.parts + p9 = 1 + p; omega
            · show r1.bys + r2.bys + b9 = b; omega
          · refine k _ (.ei r1 r2) xs9 p9 b9 _ (.ei (st_of upd_same) (hR1'.mono (Ex.new hq)) (hR2.mono (Ex.new hq))) (by show (r1.fit && r2.fit) = true; rw [hf1, hf2]; rfl) ?_ ?_ hg9 ((Ex.new hq) _ _ hd9) ((Ex.new hq) _ _ hl9) eF
            · show 1 + r1.parts + r2.parts + p9 = 1 + p; omega
            · show r1.bys + r2.bys + b9 = b; omega
          · refine k _ (.wo r1 r2) xs9 p9 b9 _ (.wo (st_of upd_same) (hR1'.mono (Ex.new hq)) (hR2.mono (Ex.new hq))) (by show (r1.fit && r2.fit) = true; rw [hf1, hf2]; rfl) ?_ ?_ hg9 ((Ex.new hq) _ _ hd9) ((Ex.new hq) _ _ hl9) eF
            · show 1 + r1.parts + r2.parts + p9 = 1 + p; omega
            · show r1.bys + r2.bys + b9 = b; omega
      · refine s_retC (ea_cons (ev_var rfl) ea_nil) fun H4 e4 => ⟨d, xs1, rfl, e4 _ _ (e3 _ _ hd2), hg1, fun v rr xs5 H5 hR hf hp1 hb1 hg5 eb5 hd5 => ?_⟩
        exact k v rr xs5 p b H5 hR hf (by omega) (by omega) hg5 hd5 (eb5 _ _ (Ne.symm hne) (e4 _ _ (e3 _ _ hl2))) (((((eb1.two (l := l)).step e2).step e3).step e4).trans (eb5.two))
theorem ok_rule (F : Fun K "_law_rule" "_law_rule" s_l_rule f fd) (T : Txt w K mg C_BadRule C_BadRules C_Feast C_Calendar) (hm : mg "_law_rule" = some (.ref f)) (hb : Binds K fd ["_law_d", "_law_left"] []) : ∀ n : Nat, FnOk P w K mg base CX0 (n + 4) f fd ["_law_d", "_law_left"] (spRule K n)
  | 0 => fnok_none fun _ _ _ _ ⟨_, _, _, _, _, _, _, _, _, _, h, _⟩ => absurd h (Nat.not_lt_zero _)
  | n + 1 => rule_turn F T hm hb n (ok_rule F T hm hb n)
theorem dn_rule (T : Txt w K mg C_BadRule C_BadRules C_Feast C_Calendar) : Dn P w K mg base CX0 "_law_rule" 9 ["_law_d", "_law_left"] (spRule K 5) := T.f_l_rule.dn fun _ _ F hm hb => ok_rule F T hm hb 5
end
end WF

set_option Elab.async false
set_option linter.all false
set_option maxRecDepth 100000
set_option maxHeartbeats 2000000
/-! rows, made -/
namespace WF
open PySem L2 Evl
section
variable {P : Program} {w : World} {K : PySem.W.Frag} {mg : Str → Option Value} {base : Heap} {C_BadRule C_BadRules C_Feast C_Calendar : Addr} {f : Addr} {fd : FuncData}
def spRows (K : PySem.W.Frag) : Sp := fun vs H Q _ => ∃ (d : Addr) (xs : List V) (many parts : Nat), vs = [.ref d, .int many, .int parts] ∧ H d = some (.lst xs) ∧ Good xs ∧ many ≤ 3 ∧ 1 ≤ parts ∧ parts ≤ 5 ∧
  ∀ p ys rows xs' H', H p = none → H' p = some (.lst ys) → RawL K H' ys rows → rows.length = many → RowsOk parts rows → Good xs' → ExB d H H' → H' d = some (.lst xs') → Q (.ref p) H'
theorem ok_rows (F : Fun K "_law_rows" "_law_rows" s_l_rows f fd) (T : Txt w K mg C_BadRule C_BadRules C_Feast C_Calendar) : FnOk P w K mg base CX0 10 f fd ["_law_d", "_law_many", "_law_parts"] (spRows K) := by
  have D_l_below : Dn P w K mg base CX0 "_law_below" 1 ["_law_d", "_law_size"] spBelow := dn_below T
  have D_l_rule : Dn P w K mg base CX0 "_law_rule" 9 ["_law_d", "_law_left"] (spRule K 5) := dn_rule T
  refine F.ok sc_l_rows (fun vs H Q E h => ?_) (fun cdv A outer s H vs Q E hr h => ?_)
  · obtain ⟨_, _, _, _, rfl, _⟩ := h
    rfl
  · obtain ⟨d, xs, many, parts, rfl, hd, hg, hm, hp1, hp5, k⟩ := h
    refine ⟨_, (pss_cons (ps_set (i := 3) sc_l_rows.nd rfl (by first | exact Or.inl rfl | exact Or.inr rfl) pe_int)
  (pss_cons (ps_set (i := 4) sc_l_rows.nd rfl (by first | exact Or.inl rfl | exact Or.inr rfl) (pe_lst pa_nil))
  (pss_cons (ps_for PassesOwn.never rfl (pi_range1 (by rfl) T.range (pa_cons (pv 1) pa_nil)) (pg_name (i := 5) sc_l_rows.nd rfl (by first | exact Or.inl rfl | exact Or.inr rfl))
  (pss_cons (ps_set (i := 6) sc_l_rows.nd rfl (by first | exact Or.inl rfl | exact Or.inr rfl) (pe_lst (pa_cons (pe_op op_sub (pv 2) pe_int) (pa_cons (pv 3) pa_nil))))
  (pss_cons (ps_set (i := 7) sc_l_rows.nd rfl (by first | exact Or.inl rfl | exact Or.inr rfl) (pe_fn D_l_rule (hr.mono (by omega)) pass0 rfl (pa_cons (pv 0) (pa_cons (pv 6) pa_nil))))
  (pss_cons (ps_set (i := 3) sc_l_rows.nd rfl (by first | exact Or.inl rfl | exact Or.inr rfl) (pe_ix ix_list (pv 6) pe_int (fun _ _ => rfl)))
  (pss_one (ps_expr (pe_bm PySem.F.plainAttrs_list PySem.F.slot_list_append PySem.F.type_list_append mt_append (pv 4) (pa_cons (pe_tup (pa_cons (pv 7) (pa_cons (pe_cmpR op_eq (pe_fn D_l_below (hr.mono (by omega)) pass0 rfl (pa_cons (pv 0) (pa_cons pe_int pa_nil))) pe_int (nomark _)) pa_nil))) pa_nil))))))))
  (pss_one (ps_ret (pv 4)))))), ?_⟩
    refine q_asg ev_c fun H1 e1 => ?_
    refine q_asgL (el_lst ea_nil (Nat.zero_le _)) fun Fl H2 hF e2 h2 => ?_
    have hF0 := fresh_back e1 hF
    have hdF : d ≠ Fl := ne_of_none hd hF0
    refine q_forR1 (n := (many : Int)) (ea_cons (ev_var rfl) ea_nil) ⟨by omega, by omega⟩ (fun i σ H' => ∃ xs' ys rows a5 a6 a7, σ = [some (.ref d), some (.int many), some (.int parts), some (.int (4 - (rowsBys rows : Nat) : Int)), some (.ref Fl), a5, a6, a7] ∧
      H' Fl = some (.lst ys) ∧ RawL K H' ys rows ∧ rows.length = i ∧ RowsOk parts rows ∧ Good xs' ∧ H' d = some (.lst xs') ∧ ExB d H H') (fun H3 e3 => ⟨xs, [], [], none, none, none, rfl, e3 _ _ h2, trivial, rfl, ⟨Nat.zero_le _, fun r hr => nomatch hr⟩, hg, e3 _ _ (e2 _ _ (e1 _ _ hd)), ExB.of ((e1.trans e2).trans e3)⟩) ?_ ?_
    · rintro i σ' H' hi ⟨xs', ys, rows, a5, a6, a7, rfl, hFl, hraw, hlen, hok, hg', hd', eb⟩
      refine q_asgL (el_lst (ea_cons (ev_op (ev_var rfl) ev_c rv_I0) (ea_cons (ev_var rfl) ea_nil)) (by show 2 ≤ 100000; decide)) fun L H3 hL e3 h3 => ?_
      have hb4 := hok.bys
      have hLF : Fl ≠ L := ne_of_none hFl hL
      have hLd : d ≠ L := ne_of_none hd' hL
      refine q_call (ea_cons (ev_var rfl) (ea_cons (ev_var rfl) ea_nil)) fun H4 e4 => ⟨d, L, xs', parts - 1, 4 - rowsBys rows, rfl, e4 _ _ (e3 _ _ hd'), hg', ?_, hLd, by omega, by omega, fun v r xs5 p5 b5 H5 hR hf hpp hbb hg5 hd5 hl5 E5 => ?_⟩
      · rw [e4 _ _ h3]
        have h1 : (parts : Int) - 1 = ((parts - 1 : Nat) : Int) := by omega
        have h2 : (4 : Int) - ((rowsBys rows : Nat) : Int) = ((4 - rowsBys rows : Nat) : Int) := by omega
        show some (HO.lst [V.int ((parts : Int) - 1), V.int ((4 : Int) - ((rowsBys rows : Nat) : Int))]) = _
        rw [h1, h2]
      · have eb5 : ExB d H' H5 := E5.one (e3.trans e4) hL
        have hF5 : H5 Fl = some (.lst ys) := eb5 _ _ (Ne.symm hdF) hFl
        have kn5 : KeepN H' H5 := eb5.kn hd'
        refine q_asg (ev_ixL (ev_var rfl) (sq_of hl5) at1) fun H6 e6 => ?_
        refine ⟨_, rfl, .inl ⟨rfl, _, sq_of (e6 _ _ hF5)⟩, _, rfl, below_ev (ev_var rfl) ev_c (e6 _ _ hd5) hg5 (by decide) (by decide) fun z xs7 H7 hz hg7 eb7 hd7 => ⟨rfl, ?_⟩⟩
        refine ⟨by show 2 ≤ sizeLine; decide, fun q hq => ?_⟩
        have hF7 : H7 Fl = some (.lst ys) := eb7 _ _ (Ne.symm hdF) (e6 _ _ hF5)
        have hqF : Fl ≠ q := ne_of_none hF7 hq
        have kn7 : KeepN H5 (upd H7 q (.tup [v, .bl (decide (V.int (z : Int) = V.int 0))])) := ((KeepN.of e6).trans (eb7.kn (e6 _ _ hd5))).trans (KeepN.of (Ex.new hq))
        have hl8 := hraw.len
        refine ⟨Fl, ys, .ref q, rfl, rfl, by rw [upd_ne hqF]; exact hF7, Evl.sz_lt (by omega), ?_⟩
        have knF : KeepN (upd H7 q (.tup [v, .bl (decide (V.int (z : Int) = V.int 0))])) (upd (upd H7 q (.tup [v, .bl (decide (V.int (z : Int) = V.int 0))])) Fl (.lst (ys ++ [.ref q]))) := (KeepN.refl _).lst (by rw [upd_ne hqF]; exact hF7)
        have hbys : rowsBys (rows ++ [(r, decide (V.int (z : Int) = V.int 0))]) = rowsBys rows + r.bys := by
          unfold rowsBys
          rw [List.map_append, List.sum_append]
          simp
        refine ⟨xs7, ys ++ [.ref q], rows ++ [(r, decide (V.int (z : Int) = V.int 0))], some (.int (i : Int)), some (.ref L), some v, ?_, upd_same, ?_, by rw [List.length_append, hlen]; rfl, ⟨by omega, fun r' hr' => ?_⟩, hg7, ?_, ?_⟩
        · have : ((b5 : Nat) : Int) = 4 - ((rowsBys (rows ++ [(r, decide (V.int (z : Int) = V.int 0))]) : Nat) : Int) := by omega
          rw [← this]
          rfl
        · refine RawL.snoc ((hraw.kn kn5).kn (kn7.trans knF)) ⟨q, v, rfl, ?_, hR.kn (kn7.trans knF)⟩
          exact sqt_kn knF (st_of upd_same)
        · rcases List.mem_append.mp hr' with h | h
          · exact hok.fit r' h
          · rw [List.mem_singleton] at h
            subst h
            exact ⟨hf, by show r.parts ≤ parts; omega⟩
        · rw [upd_ne hdF]
          exact (Ex.new hq) _ _ hd7
        · exact ((((eb.trans eb5).step e6).trans eb7).step (Ex.new hq)).mut hF0
    · rintro σ' H' ⟨xs', ys, rows, a5, a6, a7, rfl, hFl, hraw, hlen, hok, hg', hd', eb⟩
      refine s_ret (ev_var rfl) fun H3 e3 => k Fl ys rows xs' H3 hF0 (e3 _ _ hFl) (hraw.kn (KeepN.of e3)) (by rw [hlen, Int.toNat_natCast]) hok hg' (eb.step e3) (e3 _ _ hd')
theorem dn_rows (T : Txt w K mg C_BadRule C_BadRules C_Feast C_Calendar) : Dn P w K mg base CX0 "_law_rows" 10 ["_law_d", "_law_many", "_law_parts"] (spRows K) := T.f_l_rows.dn fun _ _ F _ _ => ok_rows F T
def spMade (K : PySem.W.Frag) (CF CC : Addr) : Sp := fun vs H Q _ => ∃ (l : Addr) (ys : List V) (rows : Rows), vs = [.ref l] ∧ SqL K H l ys ∧ RawL K H ys rows ∧ rows.length ≤ 3 ∧ RowsOk 5 rows ∧ ∀ p H2, H p = none → Ex H H2 → CalAt K CF CC H2 (.ref p) rows → Q (.ref p) H2
theorem tup_RV {σ : L2.St} {H : Hp} {ta tb : TE} {R : Addr → Hp → Prop} {y : V} {Q : VK} (ha : EvR ta σ H R) (hb : ∀ H1, Ex H H1 → Ev tb σ H1 y) (k : ∀ p t H1 H2, Ex H H1 → R p H1 → Ex H1 H2 → H2 t = some (.tup [.ref p, y]) → Q (.ref t) H2) : tTup (tCons ta (tCons tb tNil)) σ H Q :=
  ha H (Ex.refl H) _ fun p H1 hp e1 hR => hb H1 e1 H1 (Ex.refl H1) _ fun H2 e2 => ⟨by show 2 ≤ sizeLine; decide, fun t ht => k p t H1 _ e1 hR (e2.trans (Ex.new ht)) upd_same⟩
/-- Calendar(a new tuple of rows) -/
theorem er_calX {CF CC : Addr} {σ : L2.St} {H : Hp} {ta : TE} {rows : Rows} {E : XK} (h : EvR ta σ H fun p H2 => ∃ zs, H2 p = some (.tup zs) ∧ RowsL K CF H2 zs rows) (hl : rows.length ≤ 3) (hb : rowsBys rows ≤ 4) :
    EvR (tMake CC (spCal K CF CC) [] E (tCons ta tNil)) σ H fun p H2 => CalAt K CF CC H2 (.ref p) rows := fun H1 e Q q => h H1 e _ fun p H2 hp e2 ⟨zs, h1, h2⟩ =>
  er_cal (K := K) (CF := CF) (CC := CC) (σ := σ) (H := H2) (v := .ref p) (rows := rows) (ta := fun _ H Q => Q [.ref p] H) (E := E) (fun H3 _ Q q => q H3 (Ex.refl H3)) ⟨p, zs, rfl, st_of h1, h2⟩ hl hb H2 (Ex.refl H2) Q fun p3 H3 hp3 e3 hc => q p3 H3 (fresh_back e2 hp3) (e2.trans e3) hc
theorem ok_made (F : Fun K "_law_made" "_law_made" s_l_made f fd) (T : Txt w K mg C_BadRule C_BadRules C_Feast C_Calendar) (CF : Cls1 K C_Feast ["told", "bys"]) (IF : ClsI K C_Feast) (CC : Cls1 K C_Calendar ["rows", "near"]) : FnOk P w K mg base CX0 12 f fd ["_law_rows_here"] (spMade K C_Feast C_Calendar) := by
  have M_Feast : Mn P w K mg base (L2.CX P w) C_Feast 9 ["self", "rule"] (spFeast K C_Feast C_BadRule) := mn_feast T CF
  have M_Calendar : Mn P w K mg base CX0 C_Calendar 2 ["self", "rules"] (spCal K C_Feast C_Calendar) := mn_cal T CF IF CC
  refine F.ok sc_l_made (fun vs H Q E h => ?_) (fun cdv A outer s H vs Q E hr h => ?_)
  · obtain ⟨_, _, _, rfl, _⟩ := h
    rfl
  · obtain ⟨l, ys, rows, rfl, hl, hraw, hlen, hok, k⟩ := h
    obtain ⟨qf, hqf⟩ := hraw.fn (.wk 0, false)
    have hyl := hraw.len
    refine ⟨_, (pss_one (ps_ret (pe_mk M_Calendar (hr.mono (by omega)) T.c_Calendar pass0 rfl (pa_cons (pe_callTy call_tuple_of (by rfl) T.tuple (by decide +kernel) (pa_cons (pe_lc (own := [("_law_rule_here", 1), ("_law_yields", 2)]) (tt := tYes) rfl sc_l_made.nd (pi_list (pv 0)) (blkOk_by (own := [("_law_rule_here", 1), ("_law_yields", 2)]) (N := ["_law_rows_here", "_law_rule_here", "_law_yields"]) (sc := defScope s_l_made) (by decide +kernel)) (fun _ _ _ _ _ => (pg_tupK (K := K) (n := 2) rfl (pgs_cons (pg_name (i := 1) sc_l_made.nd rfl (by first | exact Or.inl rfl | exact Or.inr rfl)) (pgs_cons (pg_name (i := 2) sc_l_made.nd rfl (by first | exact Or.inl rfl | exact Or.inr rfl)) pgs_nil)))) (fun _ _ _ _ _ => pts_nil) (fun _ _ _ _ _ => (pe_tup (pa_cons (pe_mk M_Feast (hr.mono (by omega)) T.c_Feast passL rfl (pa_cons (pv 1) pa_nil)) (pa_cons (pv 2) pa_nil))))) pa_nil)) pa_nil)))), ?_⟩
    refine s_retR (R := fun p H2 => CalAt K C_Feast C_Calendar H2 (.ref p) rows) ?_ k
    have e1 : EvR (tCB (fun xs H Q => ∃ p ys, xs = [.ref p] ∧ ((SqL K H p ys ∧ ∀ l, H l = none → Q (.ref l) (upd H l (.tup ys))) ∨ (SqT K H p ys ∧ Q (.ref p) H))) (tCons (tLc (iList K (tVar 0)) (gTup K 2 (gCons (gName 1) (gCons (gName 2) gNil))) tYes (tTup (tCons (tMake C_Feast (spFeast K C_Feast C_BadRule) [] E0 (tCons (tVar 1) tNil)) (tCons (tVar 2) tNil))) [1, 2]) tNil)) (start ["_law_rows_here", "_law_rule_here", "_law_yields"] [.ref l]) H
        (fun p H2 => ∃ zs, H2 p = some (.tup zs) ∧ RowsL K C_Feast H2 zs rows) := by
      refine er_tuple (fun zs H1 H2 e h => RowsL.kn e h) ?_
      have := er_lst2X (K := K) (σ := start ["_law_rows_here", "_law_rule_here", "_law_yields"] [.ref l]) (H := H) (tl := tVar 0) (te := tTup (tCons (tMake C_Feast (spFeast K C_Feast C_BadRule) [] E0 (tCons (tVar 1) tNil)) (tCons (tVar 2) tNil))) (j := 1) (k := 2) (vs := [1, 2]) qf (fun i => .bl (rows.getD i (.wk 0, false)).2) (fun i y H2 => RowAt K C_Feast H2 y (rows.getD i (.wk 0, false))) (fun i y H1 H2 e h => RowAt.kn e h) (ev_var rfl) hl (by omega) (fun _ _ => rfl) (fun i x hi => ?_) (fun i H1 e1 hi Q q => ?_)
      · intro H1 e1 Q q
        exact this H1 e1 Q fun p H2 hp e2 ⟨zs, h1, h2, h3⟩ => q p H2 hp e2 ⟨zs, h1, rowsL_of (.wk 0, false) (by rw [h2, hyl]) h3⟩
      · obtain ⟨p', h0, h1, _⟩ := hqf i x hi
        exact ⟨p', h0, h1⟩
      · obtain ⟨p', h0, h1, hrl⟩ := hqf i ys[i] (by simp [hi])
        have hmem := getD_mem (d := ((.wk 0, false) : Rl × Bool)) (show i < rows.length by omega)
        have hfit := hok.fit _ hmem
        have hby := bys_le hmem
        have hb4 := hok.bys
        exact tup_RV (er_feast (ea_cons (ev_var rfl) ea_nil) (hrl.mono e1) hfit.1 hfit.2 (by omega)) (fun H2 _ => ev_var rfl) fun p t H2 H3 e2 hfe e3 ht => q _ _ (e2.trans e3) ⟨t, p, rfl, st_of ht, hfe.mono e3⟩
    exact er_calX e1 hlen hok.bys
theorem dn_made (T : Txt w K mg C_BadRule C_BadRules C_Feast C_Calendar) (CF : Cls1 K C_Feast ["told", "bys"]) (IF : ClsI K C_Feast) (CC : Cls1 K C_Calendar ["rows", "near"]) : Dn P w K mg base CX0 "_law_made" 12 ["_law_rows_here"] (spMade K C_Feast C_Calendar) := T.f_l_made.dn fun _ _ F _ _ => ok_made F T CF IF CC
end
end WF

set_option Elab.async false
set_option linter.all false
set_option maxRecDepth 100000
set_option maxHeartbeats 2000000
/-! the law's lands -/
namespace WF
open PySem L2 Evl
section
variable {P : Program} {w : World} {K : PySem.W.Frag} {mg : Str → Option Value} {base : Heap} {C_BadRule C_BadRules C_Feast C_Calendar : Addr} {f : Addr} {fd : FuncData}
theorem ev_min2 {σ : L2.St} {H : Hp} {ta : TE} {a b : Int} (h : EvL ta σ H [.int a, .int b]) : Ev (tCB (rMin K) (tCons ta tNil)) σ H (.int (min a b)) := fun H1 e Q q =>
  h H1 e _ fun p H2 _ e2 h2 => ⟨p, [a, b], rfl, sq_of h2, by show 0 < 2; decide, fun m hm hle => by
    have h1 := hle a (by simp)
    have h2 := hle b (by simp)
    have : m = min a b := by
      simp at hm
      rcases hm with rfl | rfl <;> omega
    rw [this]
    exact q H2 e2⟩
def spLands (K : PySem.W.Frag) : Sp := fun vs H Q _ => ∃ (W M : Nat), vs = [.int W, .int M] ∧ 1 ≤ W ∧ W ≤ 100 ∧ M ≤ 100 ∧ ∀ p xs H2, H p = none → Ex H H2 → H2 p = some (.lst xs) → LandL K H2 xs (landsL W M (W + M - 4)) → Q (.ref p) H2
end
end WF

set_option Elab.async false
set_option linter.all false
set_option maxRecDepth 100000
set_option maxHeartbeats 4000000
/-! the law's days of a rule -/
namespace WF
open PySem L2 Evl
section
variable {P : Program} {w : World} {K : PySem.W.Frag} {mg : Str → Option Value} {base : Heap} {C_BadRule C_BadRules C_Feast C_Calendar : Addr} {f : Addr} {fd : FuncData}
/-- the days that come by a step -/
theorem step_ok {s N n : Nat} {k : Int} {p : Int → Bool} (hs : 0 < s) (hN : N = s * n) (hp : ∀ d : Nat, d < N → (p (d : Int) = true ↔ (d : Int) % (s : Int) = k % (s : Int))) : DaysOk N p (((List.range n).map fun i => (k % (s : Int)).toNat + s * i).foldl addD []) := by
  have h0 := Int.emod_nonneg k (show (s : Int) ≠ 0 by omega)
  have h1 := Int.emod_lt_of_pos k (show 0 < (s : Int) by omega)
  refine ⟨fold_nodup _ _ List.nodup_nil, fun d => ?_⟩
  rw [fold_mem]
  constructor
  · rintro (h | h)
    · cases h
    · rw [List.mem_map] at h
      obtain ⟨i, hi, rfl⟩ := h
      rw [List.mem_range] at hi
      have hlt : (k % (s : Int)).toNat + s * i < N := by
        have : s * (i + 1) ≤ s * n := Nat.mul_le_mul_left s hi
        rw [Nat.mul_add, Nat.mul_one] at this
        omega
      refine ⟨hlt, (hp _ hlt).mpr ?_⟩
      rw [Int.natCast_add, Int.natCast_mul, Int.toNat_of_nonneg h0, Int.add_mul_emod_self_left, Int.emod_emod]
  · rintro ⟨hd, hpd⟩
    have e := (hp d hd).mp hpd
    refine .inr (List.mem_map.mpr ⟨d / s, List.mem_range.mpr ?_, ?_⟩)
    · rw [hN] at hd
      exact Nat.div_lt_of_lt_mul hd
    · rw [← e]
      have : ((d : Int) % (s : Int)).toNat = d % s := by rw [← Int.natCast_emod, Int.toNat_natCast]
      rw [this]
      exact Nat.mod_add_div d s
def spLDays (K : PySem.W.Frag) (n : Nat) : Sp := fun vs H Q _ => ∃ (v : V) (l : Addr) (r : Rl) (w m : Nat), vs = [v, .ref l] ∧ RlAt K H v r ∧ r.dep < n ∧ SqT K H l [.int w, .int m] ∧ LandOk w m ∧
  ∀ p ds H2, H p = none → Ex H H2 → H2 p = some (.dK (dk ds)) → DaysOk (w * m) (r.day w m) ds → Q (.ref p) H2
theorem er_ldays {σ : L2.St} {H : Hp} {ta : TA} {n : Nat} {v : V} {l : Addr} {r : Rl} {w m : Nat} {E : XK} (h : EvA ta σ H [v, .ref l]) (h1 : RlAt K H v r) (h2 : r.dep < n) (h3 : SqT K H l [.int w, .int m]) (h4 : LandOk w m) :
    EvR (tCall (spLDays K n) [] E ta) σ H fun p H2 => ∃ ds, H2 p = some (.dK (dk ds)) ∧ DaysOk (w * m) (r.day w m) ds := fun H1 e Q q => h H1 e _ fun H2 e2 =>
  ⟨v, l, r, w, m, rfl, h1.mono (e.trans e2), h2, ex_t (e.trans e2) h3, h4, fun p ds H3 hp e3 h3 hd => q p H3 (fresh_back e2 hp) (e2.trans e3) ⟨ds, h3, hd⟩⟩
theorem cast_map (v : Nat → Nat) (l : List Nat) : (l.map v).map (fun (d : Nat) => (d : Int)) = l.map fun i => ((v i : Nat) : Int) := by
  rw [List.map_map]
  rfl
theorem range_getD {α : Type} (ds : List Nat) (g : Nat → α) : (List.range ds.length).map (fun i => g (ds.getD i 0)) = ds.map g := by
  induction ds with
  | nil => rfl
  | cons a ds ih =>
    rw [List.length_cons, List.range_succ_eq_map, List.map_cons, List.map_map, List.map_cons]
    exact congrArg (List.cons (g a)) ih
theorem filter_getD (ds : List Nat) (f : Nat → Bool) : ((List.range ds.length).filter fun i => f (ds.getD i 0)).map (fun i => ds.getD i 0) = ds.filter f := by
  induction ds with
  | nil => rfl
  | cons a ds ih =>
    rw [List.length_cons, List.range_succ_eq_map]
    have : ((List.map Nat.succ (List.range ds.length)).filter fun i => f ((a :: ds).getD i 0)) = ((List.range ds.length).filter fun i => f (ds.getD i 0)).map Nat.succ := by
      rw [List.filter_map]
      rfl
    by_cases h : f a = true
    · rw [List.filter_cons, if_pos (show f ((a :: ds).getD 0 0) = true from h), List.map_cons, this, List.map_map, List.filter_cons, if_pos h]
      exact congrArg (List.cons a) ih
    · rw [List.filter_cons, if_neg (show ¬ f ((a :: ds).getD 0 0) = true from h), this, List.map_map, List.filter_cons, if_neg h]
      exact ih
theorem ldays_turn (F : Fun K "_law_days" "_law_days" s_l_days f fd) (T : Txt w K mg C_BadRule C_BadRules C_Feast C_Calendar) (hm : mg "_law_days" = some (.ref f)) (hb : Binds K fd ["_law_rule_here", "_law_land"] []) (n : Nat) (ih : FnOk P w K mg base CX0 (n + 1) f fd ["_law_rule_here", "_law_land"] (spLDays K n)) : FnOk P w K mg base CX0 (n + 2) f fd ["_law_rule_here", "_law_land"] (spLDays K (n + 1)) := by
  have D_l_days : Dn P w K mg base CX0 "_law_days" (n + 1) ["_law_rule_here", "_law_land"] (spLDays K n) := ⟨f, fd, hm, F.kp, ih, hb⟩
  refine F.ok sc_l_days (fun vs H Q E h => ?_) (fun cdv A outer s H vs Q E hr h => ?_)
  · obtain ⟨_, _, _, _, _, rfl, _⟩ := h
    rfl
  · obtain ⟨v, l, r, w, m, rfl, hR, hd, hL, hO, k⟩ := h
    obtain ⟨w2, wm, m6, n5⟩ := id hO
    have hq : ((w * m : Nat) : Int) = (w : Int) * (m : Int) := Int.natCast_mul w m
    have hr1 : Room 1 _ := hr.mono (by omega)
    have hu := hu_of hr1
    refine ⟨_, (pss_cons (ps_asg (pv 1) (pg_tup rfl (pgs_cons (pg_name (i := 2) sc_l_days.nd rfl (by first | exact Or.inl rfl | exact Or.inr rfl)) (pgs_cons (pg_name (i := 3) sc_l_days.nd rfl (by first | exact Or.inl rfl | exact Or.inr rfl)) pgs_nil))))
  (pss_cons (ps_set (i := 4) sc_l_days.nd rfl (by first | exact Or.inl rfl | exact Or.inr rfl) (pe_op op_mul (pv 2) (pv 3)))
  (pss_cons (ps_if (pt_cmpR op_eq (pe_ix ix_tup (pv 0) pe_int (fun _ _ => rfl)) pe_str (nomark _)) (pss_one (ps_ret (pe_callTy (call_dictP rfl) (by rfl) T.dict (by decide +kernel) (pa_cons (pe_lc (own := [("_law_k", 9)]) (g := gName 9) (tt := tYes) rfl sc_l_days.nd (pi_range1 (by rfl) T.range (pa_cons (pv 3) pa_nil)) (blkOk_by (own := [("_law_k", 9)]) (N := ["_law_rule_here", "_law_land", "_law_w", "_law_m", "_law_whole", "_law_found", "_law_day", "_law_one", "_law_other", "_law_k"]) (sc := defScope s_l_days) (by decide +kernel)) (fun _ _ _ _ _ => (pg_name (i := 9) sc_l_days.nd rfl (by first | exact Or.inl rfl | exact Or.inr rfl))) (fun _ _ _ _ _ => pts_nil) (fun _ _ _ _ _ => (pe_tup (pa_cons (pe_op op_add (pe_op op_mod (pe_ix (ix_tupK (K := K)) (pv 0) pe_int (fun _ _ => rfl)) (pv 2)) (pe_op op_mul (pv 2) (pv 9))) (pa_cons pe_bl pa_nil))))) pa_nil))))
  pss_nil)
  (pss_cons (ps_if (pt_cmpR op_eq (pe_ix ix_tup (pv 0) pe_int (fun _ _ => rfl)) pe_str (nomark _)) (pss_one (ps_ret (pe_callTy (call_dictP rfl) (by rfl) T.dict (by decide +kernel) (pa_cons (pe_lc (own := [("_law_k", 9)]) (g := gName 9) (tt := tYes) rfl sc_l_days.nd (pi_range1 (by rfl) T.range (pa_cons (pv 2) pa_nil)) (blkOk_by (own := [("_law_k", 9)]) (N := ["_law_rule_here", "_law_land", "_law_w", "_law_m", "_law_whole", "_law_found", "_law_day", "_law_one", "_law_other", "_law_k"]) (sc := defScope s_l_days) (by decide +kernel)) (fun _ _ _ _ _ => (pg_name (i := 9) sc_l_days.nd rfl (by first | exact Or.inl rfl | exact Or.inr rfl))) (fun _ _ _ _ _ => pts_nil) (fun _ _ _ _ _ => (pe_tup (pa_cons (pe_op op_add (pe_op op_mod (pe_ix (ix_tupK (K := K)) (pv 0) pe_int (fun _ _ => rfl)) (pv 3)) (pe_op op_mul (pv 3) (pv 9))) (pa_cons pe_bl pa_nil))))) pa_nil))))
  pss_nil)
  (pss_cons (ps_if (pt_cmpR op_eq (pe_ix ix_tup (pv 0) pe_int (fun _ _ => rfl)) pe_str (nomark _)) (pss_cons (ps_set (i := 5) sc_l_days.nd rfl (by first | exact Or.inl rfl | exact Or.inr rfl) pe_dnewK)
  (pss_cons (ps_for PassesOwn.never rfl (pi_range3 (by rfl) T.range (pa_cons (pe_op op_mod (pe_ix ix_tup (pv 0) pe_int (fun _ _ => rfl)) (pv 2)) (pa_cons (pv 4) (pa_cons (pv 2) pa_nil)))) (pg_name (i := 6) sc_l_days.nd rfl (by first | exact Or.inl rfl | exact Or.inr rfl))
  (pss_one (ps_if (pt_cmpR op_lt (pe_op op_mod (pv 6) (pv 3)) (pv 2) (nomark _)) (pss_one (ps_dput hu (pv 5) (pv 6) pe_bl rfl))
  pss_nil)))
  (pss_one (ps_ret (pv 5)))))
  pss_nil)
  (pss_cons (ps_set (i := 7) sc_l_days.nd rfl (by first | exact Or.inl rfl | exact Or.inr rfl) (pe_fn D_l_days (hr.mono (by omega)) pass0 rfl (pa_cons (pe_ix ix_tup (pv 0) pe_int (fun _ _ => rfl)) (pa_cons (pv 1) pa_nil))))
  (pss_cons (ps_if (pt_cmpR op_eq (pe_ix ix_tup (pv 0) pe_int (fun _ _ => rfl)) pe_str (nomark _)) (pss_one (ps_ret (pe_callTy (call_dictP rfl) (by rfl) T.dict (by decide +kernel) (pa_cons (pe_lock (pe_lc (own := [("_law_day", 6)]) (g := gName 6) (tt := tYes) rfl sc_l_days.nd (pi_keys (pv 7)) (blkOk_by (own := [("_law_day", 6)]) (N := ["_law_rule_here", "_law_land", "_law_w", "_law_m", "_law_whole", "_law_found", "_law_day", "_law_one", "_law_other", "_law_k"]) (sc := defScope s_l_days) (by decide +kernel)) (fun _ _ _ _ _ => (pg_name (i := 6) sc_l_days.nd rfl (by first | exact Or.inl rfl | exact Or.inr rfl))) (fun _ _ _ _ _ => pts_nil) (fun _ _ _ _ _ => (pe_tup (pa_cons (pe_op op_mod (pe_op op_add (pv 6) (pe_ix (ix_tupK (K := K)) (pv 0) pe_int (fun _ _ => rfl))) (pv 4)) (pa_cons pe_bl pa_nil)))))) pa_nil))))
  pss_nil)
  (pss_cons (ps_set (i := 8) sc_l_days.nd rfl (by first | exact Or.inl rfl | exact Or.inr rfl) (pe_fn D_l_days (hr.mono (by omega)) pass0 rfl (pa_cons (pe_ix ix_tup (pv 0) pe_int (fun _ _ => rfl)) (pa_cons (pv 1) pa_nil))))
  (pss_cons (ps_if (pt_cmpR op_eq (pe_ix ix_tup (pv 0) pe_int (fun _ _ => rfl)) pe_str (nomark _)) (pss_one (ps_ret (pe_callTy (call_dictP rfl) (by rfl) T.dict (by decide +kernel) (pa_cons (pe_lock (pe_lc (own := [("_law_day", 6)]) (g := gName 6) rfl sc_l_days.nd (pi_keys (pv 7)) (blkOk_by (own := [("_law_day", 6)]) (N := ["_law_rule_here", "_law_land", "_law_w", "_law_m", "_law_whole", "_law_found", "_law_day", "_law_one", "_law_other", "_law_k"]) (sc := defScope s_l_days) (by decide +kernel)) (fun _ _ _ _ _ => (pg_name (i := 6) sc_l_days.nd rfl (by first | exact Or.inl rfl | exact Or.inr rfl))) (fun _ _ _ _ _ => (pts_one (pt_cmp (pc_din hu (pv 6) (pv 8))))) (fun _ _ _ _ _ => (pe_tup (pa_cons (pv 6) (pa_cons pe_bl pa_nil)))))) pa_nil))))
  pss_nil)
  (pss_cons (ps_if (pt_cmpR op_eq (pe_ix ix_tup (pv 0) pe_int (fun _ _ => rfl)) pe_str (nomark _)) (pss_one (ps_ret (pe_callTy (call_dictP rfl) (by rfl) T.dict (by decide +kernel) (pa_cons (pe_lock (pe_lc (own := [("_law_day", 6)]) (g := gName 6) rfl sc_l_days.nd (pi_keys (pv 7)) (blkOk_by (own := [("_law_day", 6)]) (N := ["_law_rule_here", "_law_land", "_law_w", "_law_m", "_law_whole", "_law_found", "_law_day", "_law_one", "_law_other", "_law_k"]) (sc := defScope s_l_days) (by decide +kernel)) (fun _ _ _ _ _ => (pg_name (i := 6) sc_l_days.nd rfl (by first | exact Or.inl rfl | exact Or.inr rfl))) (fun _ _ _ _ _ => (pts_one (pt_cmp (pc_dnotin hu (pv 6) (pv 8))))) (fun _ _ _ _ _ => (pe_tup (pa_cons (pv 6) (pa_cons pe_bl pa_nil)))))) pa_nil))))
  pss_nil)
  (pss_one (ps_ret (pe_callTy (call_dictP rfl) (by rfl) T.dict (by decide +kernel) (pa_cons (pe_lc (own := [("_law_day", 6)]) (g := gName 6) (tt := tYes) rfl sc_l_days.nd (pi_list (pe_op op_cat (pe_callTy (call_list_dK rfl) (by rfl) T.list (by decide +kernel) (pa_cons (pv 7) pa_nil)) (pe_callTy (call_list_dK rfl) (by rfl) T.list (by decide +kernel) (pa_cons (pv 8) pa_nil)))) (blkOk_by (own := [("_law_day", 6)]) (N := ["_law_rule_here", "_law_land", "_law_w", "_law_m", "_law_whole", "_law_found", "_law_day", "_law_one", "_law_other", "_law_k"]) (sc := defScope s_l_days) (by decide +kernel)) (fun _ _ _ _ _ => (pg_name (i := 6) sc_l_days.nd rfl (by first | exact Or.inl rfl | exact Or.inr rfl))) (fun _ _ _ _ _ => pts_nil) (fun _ _ _ _ _ => (pe_tup (pa_cons (pv 6) (pa_cons pe_bl pa_nil))))) pa_nil)))))))))))))), ?_⟩
    refine q_asgT (ev_var rfl) hL fun H1 e1 => ?_
    refine q_asg (v := .int ((w * m : Nat) : Int)) (ev_is (ev_op (ev_var rfl) (ev_var rfl) (rv_I (.inl ⟨by omega, by omega⟩))) (by rw [hq])) fun H2 e2 => ?_
    have hR2 := hR.mono (e1.trans e2)
    have hw0 : ∀ k : Int, k % (w : Int) = (((k % (w : Int)).toNat : Nat) : Int) := fun k => by
      have := Int.emod_nonneg k (show (w : Int) ≠ 0 by omega)
      omega
    have hm0 : ∀ k : Int, k % (m : Int) = (((k % (m : Int)).toNat : Nat) : Int) := fun k => by
      have := Int.emod_nonneg k (show (m : Int) ≠ 0 by omega)
      omega
    cases hR2 with
    | wk hT =>
      rename_i p k0
      refine q_yes (et_str (ev_ixT (ev_var rfl) hT rfl) (by decide +kernel)) fun H3 e3 => ?_
      have hT3 := ex_t e3 hT
      refine s_retR (er_dict (es := (List.range m).map fun i => (k0 % (w : Int)).toNat + w * i) ?_) fun p2 H4 hp2 e4 h4 => k p2 _ H4 (fresh_back ((e1.trans e2).trans e3) hp2) (((e1.trans e2).trans e3).trans e4) h4 (step_ok (by omega) rfl fun d _ => beq_iff_eq)
      rw [cast_map]
      refine er_pairsR (n := (m : Int)) (fun i => (((k0 % (w : Int)).toNat + w * i : Nat) : Int)) (ea_cons (ev_var rfl) ea_nil) ⟨by omega, by omega⟩ (fun _ => rfl) fun i H4 e4 hi => ?_
      refine ev_is (ev_op (ev_op (ev_ixT (ev_var rfl) (ex_t e4 hT3) rfl) (ev_var rfl) (rv_I (by omega))) (ev_op (ev_var rfl) (ev_var rfl) (rv_I (.inl ⟨by omega, by omega⟩))) rv_I0) ?_
      rw [Int.zero_add, Int.natCast_add, Int.natCast_mul, ← hw0]
    | fs hT =>
      rename_i p k0
      refine q_not (et_str (ev_ixT (ev_var rfl) hT rfl) (by decide +kernel)) fun H3 e3 => ?_
      refine q_not (et_str (ev_ixT (ev_var rfl) (ex_t e3 hT) rfl) (by decide +kernel)) fun H3 e3' => ?_
      refine q_yes (et_str (ev_ixT (ev_var rfl) (ex_t (e3.trans e3') hT) rfl) (by decide +kernel)) fun H4 e4 => ?_
      have E4 := ((e1.trans e2).trans (e3.trans e3')).trans e4
      have hT4 := ex_t ((e3.trans e3').trans e4) hT
      have k0w := Int.emod_lt_of_pos k0 (show 0 < (w : Int) by omega)
      have k00 := Int.emod_nonneg k0 (show (w : Int) ≠ 0 by omega)
      refine q_asgD fun Fd hF => ?_
      have hF0 := fresh_back E4 hF
      have e5 : Ex H4 (upd H4 Fd (.dK (dk []))) := Ex.new hF
      refine q_forR3 (lo := k0 % (w : Int)) (hi := ((w * m : Nat) : Int)) (c := (w : Int)) (n := m) (ea_cons (ev_op (ev_ixT (ev_var rfl) (ex_t e5 hT4) rfl) (ev_var rfl) (rv_I (by omega))) (ea_cons (ev_var rfl) (ea_cons (ev_var rfl) ea_nil))) ?_
        (fun t σ' H' => ∃ ds a6, σ' = [some (.ref p), some (.ref l), some (.int (w : Int)), some (.int (m : Int)), some (.int ((w * m : Nat) : Int)), some (.ref Fd), a6, none, none, none] ∧ H' Fd = some (.dK (dk ds)) ∧ ds.Nodup ∧ ds.length ≤ t ∧ (∀ d : Nat, d ∈ ds ↔ ((d : Int) < k0 % (w : Int) + (w : Int) * (t : Int) ∧ (d : Int) % (w : Int) = k0 % (w : Int) ∧ (d : Int) % (m : Int) < (w : Int))) ∧ Ex H H')
        (fun H6 e6 => ⟨[], none, rfl, e6 _ _ upd_same, List.nodup_nil, Nat.le_refl _, fun d => Iff.intro (fun h => nomatch h) (fun ⟨h1, h2, _⟩ => ?_), (E4.trans e5).trans e6⟩) ?_ ?_
      · have := rgC_by (i := (k0 % (w : Int)).toNat) (n := m) (c := w) (by omega) (by omega) (by omega) (by omega)
        rw [Int.toNat_of_nonneg k00] at this
        exact this
      · exfalso
        have hlt : (d : Int) < (w : Int) := by omega
        rw [Int.emod_eq_of_lt (by omega) hlt] at h2
        omega
      · rintro t σ' H' ht ⟨ds, a6, rfl, hFd, hnd, hlen, hmem, e⟩
        have hv : k0 % (w : Int) + (t : Int) * (w : Int) = (((k0 % (w : Int)).toNat + w * t : Nat) : Int) := by
          rw [Int.natCast_add, Int.natCast_mul, Int.toNat_of_nonneg k00, Int.mul_comm]
        have hmw : ((((k0 % (w : Int)).toNat + w * t : Nat) : Int)) % (w : Int) = k0 % (w : Int) := by
          rw [Int.natCast_add, Int.natCast_mul, Int.toNat_of_nonneg k00, Int.add_mul_emod_self_left, Int.emod_emod]
        -- a day below the next step is one below this, or this
        have hstep : ∀ d : Nat, (d : Int) % (w : Int) = k0 % (w : Int) → ((d : Int) < k0 % (w : Int) + (w : Int) * ((t + 1 : Nat) : Int) ↔ ((d : Int) < k0 % (w : Int) + (w : Int) * (t : Int) ∨ d = (k0 % (w : Int)).toNat + w * t)) := fun d hd => by
          have hq1 : (w : Int) * ((t + 1 : Nat) : Int) = (w : Int) * (t : Int) + (w : Int) := by rw [Int.natCast_add, Int.mul_add]; simp
          have hq2 : ((w * t : Nat) : Int) = (w : Int) * (t : Int) := Int.natCast_mul w t
          rw [hq1]
          constructor
          · intro h
            rcases Int.lt_or_le (d : Int) (k0 % (w : Int) + (w : Int) * (t : Int)) with h1 | h1
            · exact .inl h1
            · right
              have hx : ((d : Int) - (k0 % (w : Int) + (w : Int) * (t : Int))) % (w : Int) = 0 := by
                rw [Int.sub_emod, hd, Int.add_mul_emod_self_left, Int.emod_emod, Int.sub_self, Int.zero_emod]
              rw [Int.emod_eq_of_lt (by omega) (by omega)] at hx
              omega
          · rintro (h | h) <;> omega
        refine s_when (et_cmp (ev_op (ev_var rfl) (ev_var rfl) (rv_I (by omega))) (ev_var rfl) rv_I0) (fun hb H6 e6 => ?_) (fun hb H6 e6 => ?_)
        · have hb' := of_decide_eq_true hb
          rw [hv] at hb'
          refine s_dput (d := (k0 % (w : Int)).toNat + w * t) (e6 _ _ hFd) ev_c (ev_var rfl) (ev_is (ev_var rfl) (by rw [hv])) (by omega) fun H7 e7 => ⟨_, _, rfl, upd_same, addD_nodup hnd, ?_, fun d => ?_, Ex.mut ((e.trans e6).trans e7) hF0⟩
          · unfold addD
            split
            · omega
            · rw [List.length_append]; exact Nat.succ_le_succ hlen
          · rw [addD_mem, hmem]
            constructor
            · rintro (⟨h1, h2, h3⟩ | rfl)
              · exact ⟨(hstep d h2).mpr (.inl h1), h2, h3⟩
              · exact ⟨(hstep _ hmw).mpr (.inr rfl), hmw, hb'⟩
            · rintro ⟨h1, h2, h3⟩
              rcases (hstep d h2).mp h1 with h | h
              · exact .inl ⟨h, h2, h3⟩
              · exact .inr h
        · have hb' := of_decide_eq_false hb
          rw [hv] at hb'
          refine ⟨ds, _, rfl, e6 _ _ hFd, hnd, by omega, fun d => ?_, e.trans e6⟩
          rw [hmem]
          constructor
          · rintro ⟨h1, h2, h3⟩
            exact ⟨(hstep d h2).mpr (.inl h1), h2, h3⟩
          · rintro ⟨h1, h2, h3⟩
            rcases (hstep d h2).mp h1 with h | h
            · exact ⟨h, h2, h3⟩
            · subst h
              exact absurd h3 hb'
      · rintro σ' H' ⟨ds, a6, rfl, hFd, hnd, hlen, hmem, e⟩
        refine s_ret (ev_var rfl) fun H6 e6 => k Fd ds H6 hF0 (e.trans e6) (e6 _ _ hFd) ⟨hnd, fun d => ?_⟩
        rw [hmem]
        show _ ↔ d < w * m ∧ ((d : Int) % (w : Int) == k0 % (w : Int) && decide ((d : Int) % (m : Int) < (w : Int))) = true
        rw [Bool.and_eq_true, beq_iff_eq, decide_eq_true_iff]
        constructor
        · rintro ⟨h1, h2, h3⟩
          refine ⟨?_, h2, h3⟩
          have hd := Int.emod_add_mul_ediv (d : Int) (w : Int)
          rw [h2] at hd
          have hlt : (w : Int) * ((d : Int) / (w : Int)) < (w : Int) * (m : Int) := by omega
          have hlt2 := Int.lt_of_mul_lt_mul_left hlt (by omega)
          have : (w : Int) * ((d : Int) / (w : Int) + 1) ≤ (w : Int) * (m : Int) := Int.mul_le_mul_of_nonneg_left (by omega) (by omega)
          rw [Int.mul_add, Int.mul_one] at this
          omega
        · rintro ⟨h1, h2, h3⟩
          exact ⟨by omega, h2, h3⟩
    | md hT =>
      rename_i p k0
      refine q_not (et_str (ev_ixT (ev_var rfl) hT rfl) (by decide +kernel)) fun H3 e3 => ?_
      refine q_yes (et_str (ev_ixT (ev_var rfl) (ex_t e3 hT) rfl) (by decide +kernel)) fun H3 e3' => ?_
      have hT3 := ex_t (e3.trans e3') hT
      refine s_retR (er_dict (es := (List.range w).map fun i => (k0 % (m : Int)).toNat + m * i) ?_) fun p2 H4 hp2 e4 h4 => k p2 _ H4 (fresh_back (((e1.trans e2).trans e3).trans e3') hp2) ((((e1.trans e2).trans e3).trans e3').trans e4) h4 (step_ok (by omega) (Nat.mul_comm w m) fun d _ => beq_iff_eq)
      rw [cast_map]
      refine er_pairsR (n := (w : Int)) (fun i => (((k0 % (m : Int)).toNat + m * i : Nat) : Int)) (ea_cons (ev_var rfl) ea_nil) ⟨by omega, by omega⟩ (fun _ => rfl) fun i H4 e4 hi => ?_
      refine ev_is (ev_op (ev_op (ev_ixT (ev_var rfl) (ex_t e4 hT3) rfl) (ev_var rfl) (rv_I (by omega))) (ev_op (ev_var rfl) (ev_var rfl) (rv_I (.inl ⟨by omega, by omega⟩))) rv_I0) ?_
      rw [Int.zero_add, Int.natCast_add, Int.natCast_mul, ← hm0]
    | bh hT hr2 =>
      rename_i p u r b
      have hd2 : r.dep < n := by simp only [Rl.dep] at hd; omega
      refine q_not (et_str (ev_ixT (ev_var rfl) hT rfl) (by decide +kernel)) fun H3 e3 => ?_
      refine q_not (et_str (ev_ixT (ev_var rfl) (ex_t e3 hT) rfl) (by decide +kernel)) fun H4 e4 => ?_
      refine q_not (et_str (ev_ixT (ev_var rfl) (ex_t (e3.trans e4) hT) rfl) (by decide +kernel)) fun H5 e5 => ?_
      have F5 := (e3.trans e4).trans e5
      have E5 := (e1.trans e2).trans F5
      refine q_asgR (er_ldays (ea_cons (ev_ixT (ev_var rfl) (ex_t F5 hT) rfl) (ea_cons (ev_var rfl) ea_nil)) (hr2.mono F5) hd2 (ex_t E5 hL) hO) fun D1 H6 hD1 e6 ⟨ds, hds, hok⟩ => ?_
      refine q_yes (et_str (ev_ixT (ev_var rfl) (ex_t (F5.trans e6) hT) rfl) (by decide +kernel)) fun H7 e7 => ?_
      have hds7 := e7 _ _ hds
      have E7 := (E5.trans e6).trans e7
      have hT7 := ex_t ((F5.trans e6).trans e7) hT
      have hN0 : 0 < ((w * m : Nat) : Int) := by have := hO.pos; omega
      have hlen := hok.le
      refine s_retR (er_dict (es := ds.map fun (d : Nat) => (((d : Int) + b) % ((w * m : Nat) : Int)).toNat) (er_lock (R := fun p H2 => ∃ ys, H2 p = some (.lst ys) ∧ PairsL K H2 ys ((ds.map fun (d : Nat) => (((d : Int) + b) % ((w * m : Nat) : Int)).toNat).map fun (d : Nat) => (d : Int))) hds7 trivial (fun od => ?_) fun od p2 H8 hpd hfz h => by
        obtain ⟨ys, h1, h2⟩ := h
        exact ⟨ys, by rw [upd_ne hpd]; exact h1, pairs_unlock (u := .dK (dk ds)) (fun _ q => nomatch q) hfz h2⟩)) fun p2 H8 hp2 e8 h8 => k p2 _ H8 (fresh_back E7 hp2) (E7.trans e8) h8 ⟨fold_nodup _ _ List.nodup_nil, fun d => ?_⟩
      · have hpr := er_pairsK (K := K) (σ := [some (.ref p), some (.ref l), some (.int (w : Int)), some (.int (m : Int)), some (.int ((w * m : Nat) : Int)), none, none, some (.ref D1), none, none]) (H := upd H7 D1 (.frz od (.dK (dk ds)))) (tl := tVar 7) (t := tYes) (te := tOp (rI (fun _ j => 0 < j) fun i j => .int (i % j)) (tOp (rI0 fun i j => .int (i + j)) (tVar 6) (tOp (rIxT K) (tVar 0) (tC (.int 2)))) (tVar 4)) (j := 6) (vs := [6]) (fun _ => true) (fun i => ((((ds.getD i 0 : Nat) : Int) + b) % ((w * m : Nat) : Int))) (ev_var rfl) upd_same (by omega) (fun _ => rfl) (fun _ _ _ _ => et_yes) (fun i H8 e8 hi _ => ?_)
        · rw [List.filter_eq_self.mpr (fun _ _ => rfl)] at hpr
          have hl : (List.range ds.length).map (fun i => ((((ds.getD i 0 : Nat) : Int) + b) % ((w * m : Nat) : Int))) = (ds.map fun (d : Nat) => (((d : Int) + b) % ((w * m : Nat) : Int)).toNat).map fun (d : Nat) => (d : Int) := by
            rw [← range_getD ds (fun (d : Nat) => (((d : Int) + b) % ((w * m : Nat) : Int)).toNat), List.map_map]
            apply List.map_congr_left
            intro i _
            show _ = ((((((ds.getD i 0 : Nat) : Int) + b) % ((w * m : Nat) : Int)).toNat : Nat) : Int)
            rw [Int.toNat_of_nonneg (Int.emod_nonneg _ (by omega))]
          rw [← hl]
          exact hpr
        · exact ev_op (ev_op (ev_var rfl) (ev_ixT (ev_var rfl) (ex_t e8 (sqt_other hds7 (fun _ q => nomatch q) (fun _ _ q => nomatch q) hT7)) rfl) rv_I0) (ev_var rfl) (rv_I hN0)
      · have hper := rl_per (w : Int) (m : Int) r
        rw [fold_mem]
        show (d ∈ [] ∨ _) ↔ d < w * m ∧ r.day w m ((d : Int) - b) = true
        constructor
        · rintro (h | h)
          · cases h
          · rw [List.mem_map] at h
            obtain ⟨c, hc, rfl⟩ := h
            obtain ⟨hc1, hc2⟩ := (hok.mem c).mp hc
            have h0 := Int.emod_nonneg ((c : Int) + b) (show ((w * m : Nat) : Int) ≠ 0 by omega)
            have h1 := Int.emod_lt_of_pos ((c : Int) + b) hN0
            refine ⟨by omega, ?_⟩
            rw [Int.toNat_of_nonneg h0]
            have e9 := Int.emod_add_mul_ediv ((c : Int) + b) ((w * m : Nat) : Int)
            have : ((c : Int) + b) % ((w * m : Nat) : Int) - b = (c : Int) + ((w : Int) * (m : Int)) * (-(((c : Int) + b) / ((w * m : Nat) : Int))) := by
              rw [Int.mul_neg, ← hq]; omega
            rw [this, hper.mul]
            exact hc2
        · rintro ⟨h1, h2⟩
          right
          have h0 := Int.emod_nonneg ((d : Int) - b) (show ((w * m : Nat) : Int) ≠ 0 by omega)
          have h3 := Int.emod_lt_of_pos ((d : Int) - b) hN0
          refine List.mem_map.mpr ⟨(((d : Int) - b) % ((w * m : Nat) : Int)).toNat, (hok.mem _).mpr ⟨by omega, ?_⟩, ?_⟩
          · rw [Int.toNat_of_nonneg h0, hq, hper.emod]
            exact h2
          · rw [Int.toNat_of_nonneg h0, Int.emod_add_emod, Int.sub_add_cancel, Int.emod_eq_of_lt (by omega) (by omega)]
            exact Int.toNat_natCast d
    | bo hT hr1 hr2 =>
      rename_i p u v x y
      have hd1 : x.dep < n := by simp only [Rl.dep] at hd; omega
      have hd2 : y.dep < n := by simp only [Rl.dep] at hd; omega
      refine q_not (et_str (ev_ixT (ev_var rfl) hT rfl) (by decide +kernel)) fun H3 e3 => ?_
      refine q_not (et_str (ev_ixT (ev_var rfl) (ex_t e3 hT) rfl) (by decide +kernel)) fun H4 e4 => ?_
      refine q_not (et_str (ev_ixT (ev_var rfl) (ex_t (e3.trans e4) hT) rfl) (by decide +kernel)) fun H5 e5 => ?_
      have F5 := (e3.trans e4).trans e5
      have E5 := (e1.trans e2).trans F5
      refine q_asgR (er_ldays (ea_cons (ev_ixT (ev_var rfl) (ex_t F5 hT) rfl) (ea_cons (ev_var rfl) ea_nil)) (hr1.mono F5) hd1 (ex_t E5 hL) hO) fun D1 H6 hD1 e6 ⟨ds, hds, hok⟩ => ?_
      refine q_not (et_str (ev_ixT (ev_var rfl) (ex_t (F5.trans e6) hT) rfl) (by decide +kernel)) fun H7 e7 => ?_
      have F7 := (F5.trans e6).trans e7
      have E7 := (E5.trans e6).trans e7
      refine q_asgR (er_ldays (ea_cons (ev_ixT (ev_var rfl) (ex_t F7 hT) rfl) (ea_cons (ev_var rfl) ea_nil)) (hr2.mono F7) hd2 (ex_t E7 hL) hO) fun D2 H8 hD2 e8 ⟨ds2, hds2, hok2⟩ => ?_
      refine q_yes (et_str (ev_ixT (ev_var rfl) (ex_t (F7.trans e8) hT) rfl) (by decide +kernel)) fun H9 e9 => ?_
      have hds9 := ((e7.trans e8).trans e9) _ _ hds
      have hds29 := e9 _ _ hds2
      have h12 : D2 ≠ D1 := (ne_of_none (e7 _ _ hds) hD2).symm
      have E9 := (E7.trans e8).trans e9
      have hlen := hok.le
      refine s_retR (er_dict (es := ds.filter fun d => decide (d ∈ ds2)) (er_lock (R := fun p H2 => ∃ ys, H2 p = some (.lst ys) ∧ PairsL K H2 ys ((ds.filter fun d => decide (d ∈ ds2)).map fun (d : Nat) => (d : Int))) hds9 trivial (fun od => ?_) fun od p2 HA hpd hfz h => by
        obtain ⟨ys, h1, h2⟩ := h
        exact ⟨ys, by rw [upd_ne hpd]; exact h1, pairs_unlock (u := .dK (dk ds)) (fun _ q => nomatch q) hfz h2⟩)) fun p2 HA hp2 eA hA => k p2 _ HA (fresh_back E9 hp2) (E9.trans eA) hA ⟨fold_nodup _ _ List.nodup_nil, fun d => ?_⟩
      · have hpr := er_pairsK (K := K) (σ := [some (.ref p), some (.ref l), some (.int (w : Int)), some (.int (m : Int)), some (.int ((w * m : Nat) : Int)), none, none, some (.ref D1), some (.ref D2), none]) (H := upd H9 D1 (.frz od (.dK (dk ds)))) (tl := tVar 7) (t := tB (tDIn (tVar 6) (tVar 8))) (te := tVar 6) (j := 6) (vs := [6]) (fun i => (fun d => decide (d ∈ ds2)) (ds.getD i 0)) (fun i => ((ds.getD i 0 : Nat) : Int)) (ev_var rfl) upd_same (by omega) (fun _ => rfl) (fun i HA eA hi => et_B (ev_din (ev_var rfl) (ev_var rfl) (eA _ _ (by rw [upd_ne h12]; exact hds29)))) (fun i HA eA hi _ => ev_var rfl)
        have hl : (((List.range ds.length).filter fun i => (fun d => decide (d ∈ ds2)) (ds.getD i 0)).map fun i => ((ds.getD i 0 : Nat) : Int)) = (ds.filter fun d => decide (d ∈ ds2)).map fun (d : Nat) => (d : Int) := by
          rw [← filter_getD ds fun d => decide (d ∈ ds2), List.map_map]
          rfl
        rw [← hl]
        exact hpr
      · rw [fold_mem, List.mem_filter, hok.mem]
        show (d ∈ [] ∨ _) ↔ d < w * m ∧ (x.day w m d && y.day w m d) = true
        rw [Bool.and_eq_true]
        have hm2 := hok2.mem d
        constructor
        · rintro (h | ⟨⟨h1, h2⟩, h3⟩)
          · cases h
          · refine ⟨h1, h2, ?_⟩
            exact (hm2.mp (of_decide_eq_true h3)).2
        · rintro ⟨h1, h2, h3⟩
          refine .inr ⟨⟨h1, h2⟩, ?_⟩
          exact decide_eq_true (hm2.mpr ⟨h1, h3⟩)
    | ei hT hr1 hr2 =>
      rename_i p u v x y
      have hd1 : x.dep < n := by simp only [Rl.dep] at hd; omega
      have hd2 : y.dep < n := by simp only [Rl.dep] at hd; omega
      refine q_not (et_str (ev_ixT (ev_var rfl) hT rfl) (by decide +kernel)) fun H3 e3 => ?_
      refine q_not (et_str (ev_ixT (ev_var rfl) (ex_t e3 hT) rfl) (by decide +kernel)) fun H4 e4 => ?_
      refine q_not (et_str (ev_ixT (ev_var rfl) (ex_t (e3.trans e4) hT) rfl) (by decide +kernel)) fun H5 e5 => ?_
      have F5 := (e3.trans e4).trans e5
      have E5 := (e1.trans e2).trans F5
      refine q_asgR (er_ldays (ea_cons (ev_ixT (ev_var rfl) (ex_t F5 hT) rfl) (ea_cons (ev_var rfl) ea_nil)) (hr1.mono F5) hd1 (ex_t E5 hL) hO) fun D1 H6 hD1 e6 ⟨ds, hds, hok⟩ => ?_
      refine q_not (et_str (ev_ixT (ev_var rfl) (ex_t (F5.trans e6) hT) rfl) (by decide +kernel)) fun H7 e7 => ?_
      have F7 := (F5.trans e6).trans e7
      have E7 := (E5.trans e6).trans e7
      refine q_asgR (er_ldays (ea_cons (ev_ixT (ev_var rfl) (ex_t F7 hT) rfl) (ea_cons (ev_var rfl) ea_nil)) (hr2.mono F7) hd2 (ex_t E7 hL) hO) fun D2 H8 hD2 e8 ⟨ds2, hds2, hok2⟩ => ?_
      refine q_not (et_str (ev_ixT (ev_var rfl) (ex_t (F7.trans e8) hT) rfl) (by decide +kernel)) fun H8' e8' => ?_
      refine q_not (et_str (ev_ixT (ev_var rfl) (ex_t ((F7.trans e8).trans e8') hT) rfl) (by decide +kernel)) fun H9 e9' => ?_
      have e9 := e8'.trans e9'
      have E9 := (E7.trans e8).trans e9
      have hlen := hok.le
      have hlen2 := hok2.le
      have hl : ((List.range (ds ++ ds2).length).map fun i => (((ds ++ ds2).getD i 0 : Nat) : Int)) = (ds ++ ds2).map fun (d : Nat) => (d : Int) := by
        have := range_getD (ds ++ ds2) (fun d => d)
        rw [List.map_id'] at this
        conv => rhs; rw [← this]
        rw [List.map_map]
        rfl
      refine s_retR (er_dict (es := ds ++ ds2) ?_) fun p2 HA hp2 eA hA => k p2 _ HA (fresh_back E9 hp2) (E9.trans eA) hA ⟨fold_nodup _ _ List.nodup_nil, fun d => ?_⟩
      · rw [← hl]
        refine er_pairsL _ (el_is (el_cat (el_listD (ev_var rfl) (((e7.trans e8).trans e9) _ _ hds)) (el_listD (ev_var rfl) (e9 _ _ hds2)) (by rw [List.length_map, List.length_map]; omega)) (by rw [List.map_append])) (by rw [List.length_append]; omega) (fun _ => rfl) (fun i HA eA hi => ev_var rfl)
      · rw [fold_mem, List.mem_append, hok.mem, hok2.mem]
        show (d ∈ [] ∨ _) ↔ d < w * m ∧ (x.day w m d || y.day w m d) = true
        rw [Bool.or_eq_true]
        constructor
        · rintro (h | ⟨h1, h2⟩ | ⟨h1, h2⟩)
          · cases h
          · exact ⟨h1, .inl h2⟩
          · exact ⟨h1, .inr h2⟩
        · rintro ⟨h1, h2 | h2⟩
          · exact .inr (.inl ⟨h1, h2⟩)
          · exact .inr (.inr ⟨h1, h2⟩)
    | wo hT hr1 hr2 =>
      rename_i p u v x y
      have hd1 : x.dep < n := by simp only [Rl.dep] at hd; omega
      have hd2 : y.dep < n := by simp only [Rl.dep] at hd; omega
      refine q_not (et_str (ev_ixT (ev_var rfl) hT rfl) (by decide +kernel)) fun H3 e3 => ?_
      refine q_not (et_str (ev_ixT (ev_var rfl) (ex_t e3 hT) rfl) (by decide +kernel)) fun H4 e4 => ?_
      refine q_not (et_str (ev_ixT (ev_var rfl) (ex_t (e3.trans e4) hT) rfl) (by decide +kernel)) fun H5 e5 => ?_
      have F5 := (e3.trans e4).trans e5
      have E5 := (e1.trans e2).trans F5
      refine q_asgR (er_ldays (ea_cons (ev_ixT (ev_var rfl) (ex_t F5 hT) rfl) (ea_cons (ev_var rfl) ea_nil)) (hr1.mono F5) hd1 (ex_t E5 hL) hO) fun D1 H6 hD1 e6 ⟨ds, hds, hok⟩ => ?_
      refine q_not (et_str (ev_ixT (ev_var rfl) (ex_t (F5.trans e6) hT) rfl) (by decide +kernel)) fun H7 e7 => ?_
      have F7 := (F5.trans e6).trans e7
      have E7 := (E5.trans e6).trans e7
      refine q_asgR (er_ldays (ea_cons (ev_ixT (ev_var rfl) (ex_t F7 hT) rfl) (ea_cons (ev_var rfl) ea_nil)) (hr2.mono F7) hd2 (ex_t E7 hL) hO) fun D2 H8 hD2 e8 ⟨ds2, hds2, hok2⟩ => ?_
      refine q_not (et_str (ev_ixT (ev_var rfl) (ex_t (F7.trans e8) hT) rfl) (by decide +kernel)) fun H8' e8' => ?_
      refine q_yes (et_str (ev_ixT (ev_var rfl) (ex_t ((F7.trans e8).trans e8') hT) rfl) (by decide +kernel)) fun H9 e9' => ?_
      have e9 := e8'.trans e9'
      have hds9 := ((e7.trans e8).trans e9) _ _ hds
      have hds29 := e9 _ _ hds2
      have h12 : D2 ≠ D1 := (ne_of_none (e7 _ _ hds) hD2).symm
      have E9 := (E7.trans e8).trans e9
      have hlen := hok.le
      refine s_retR (er_dict (es := ds.filter fun d => !decide (d ∈ ds2)) (er_lock (R := fun p H2 => ∃ ys, H2 p = some (.lst ys) ∧ PairsL K H2 ys ((ds.filter fun d => !decide (d ∈ ds2)).map fun (d : Nat) => (d : Int))) hds9 trivial (fun od => ?_) fun od p2 HA hpd hfz h => by
        obtain ⟨ys, h1, h2⟩ := h
        exact ⟨ys, by rw [upd_ne hpd]; exact h1, pairs_unlock (u := .dK (dk ds)) (fun _ q => nomatch q) hfz h2⟩)) fun p2 HA hp2 eA hA => k p2 _ HA (fresh_back E9 hp2) (E9.trans eA) hA ⟨fold_nodup _ _ List.nodup_nil, fun d => ?_⟩
      · have hpr := er_pairsK (K := K) (σ := [some (.ref p), some (.ref l), some (.int (w : Int)), some (.int (m : Int)), some (.int ((w * m : Nat) : Int)), none, none, some (.ref D1), some (.ref D2), none]) (H := upd H9 D1 (.frz od (.dK (dk ds)))) (tl := tVar 7) (t := tB (tDNotIn (tVar 6) (tVar 8))) (te := tVar 6) (j := 6) (vs := [6]) (fun i => (fun d => !decide (d ∈ ds2)) (ds.getD i 0)) (fun i => ((ds.getD i 0 : Nat) : Int)) (ev_var rfl) upd_same (by omega) (fun _ => rfl) (fun i HA eA hi => et_B (ev_dnotin (ev_var rfl) (ev_var rfl) (eA _ _ (by rw [upd_ne h12]; exact hds29)))) (fun i HA eA hi _ => ev_var rfl)
        have hl : (((List.range ds.length).filter fun i => (fun d => !decide (d ∈ ds2)) (ds.getD i 0)).map fun i => ((ds.getD i 0 : Nat) : Int)) = (ds.filter fun d => !decide (d ∈ ds2)).map fun (d : Nat) => (d : Int) := by
          rw [← filter_getD ds fun d => !decide (d ∈ ds2), List.map_map]
          rfl
        rw [← hl]
        exact hpr
      · rw [fold_mem, List.mem_filter, hok.mem]
        show (d ∈ [] ∨ _) ↔ d < w * m ∧ (x.day w m d && !y.day w m d) = true
        rw [Bool.and_eq_true]
        have hm2 := hok2.mem d
        constructor
        · rintro (h | ⟨⟨h1, h2⟩, h3⟩)
          · cases h
          · refine ⟨h1, h2, ?_⟩
            cases hy : y.day w m d with
            | false => rfl
            | true =>
              rw [decide_eq_true (hm2.mpr ⟨h1, hy⟩)] at h3
              cases h3
        · rintro ⟨h1, h2, h3⟩
          refine .inr ⟨⟨h1, h2⟩, ?_⟩
          rw [decide_eq_false]
          · rfl
          · intro hc
            rw [(hm2.mp hc).2] at h3
            cases h3
theorem ok_ldays (F : Fun K "_law_days" "_law_days" s_l_days f fd) (T : Txt w K mg C_BadRule C_BadRules C_Feast C_Calendar) (hm : mg "_law_days" = some (.ref f)) (hb : Binds K fd ["_law_rule_here", "_law_land"] []) : ∀ n : Nat, FnOk P w K mg base CX0 (n + 1) f fd ["_law_rule_here", "_law_land"] (spLDays K n)
  | 0 => fnok_none fun _ _ _ _ ⟨_, _, _, _, _, _, _, h, _⟩ => absurd h (Nat.not_lt_zero _)
  | n + 1 => ldays_turn F T hm hb n (ok_ldays F T hm hb n)
theorem dn_ldays (T : Txt w K mg C_BadRule C_BadRules C_Feast C_Calendar) : Dn P w K mg base CX0 "_law_days" 6 ["_law_rule_here", "_law_land"] (spLDays K 5) := T.f_l_days.dn fun _ _ F hm hb => ok_ldays F T hm hb 5
end
end WF

set_option Elab.async false
set_option linter.all false
set_option maxRecDepth 100000
set_option maxHeartbeats 4000000
/-! the law's days of all rows -/
namespace WF
open PySem L2 Evl
theorem per_pred {N : Int} {p : Int → Bool} (hp : Per N p) (c : Int) : p ((c + 1) % N - 1) = p c := by
  have e := Int.emod_add_mul_ediv (c + 1) N
  have : (c + 1) % N - 1 = c + N * (-((c + 1) / N)) := by rw [Int.mul_neg]; omega
  rw [this, hp.mul]
theorem all_step {w m : Nat} {f : Int → Bool} {r : Rl} {y : Bool} {ds ds1 : List Nat} (hN : 0 < w * m) (hf : Per ((w * m : Nat) : Int) f) (h : DaysOk (w * m) f ds) (h1 : DaysOk (w * m) (r.day w m) ds1) :
    DaysOk (w * m) (addRow w m f (r, y)) ((ds1.filter (fun d => !decide (d ∈ ds1.filter fun d => y && decide (d ∈ ds))) ++ (ds1.filter fun d => y && decide (d ∈ ds)).map fun c => (c + 1) % (w * m)).foldl addD ds) := by
  have hg : Per ((w * m : Nat) : Int) (r.day w m) := by rw [Int.natCast_mul]; exact rl_per w m r
  have hmet : ∀ c : Nat, c ∈ (ds1.filter fun d => y && decide (d ∈ ds)) ↔ c < w * m ∧ r.day w m c = true ∧ y = true ∧ f c = true := fun c => by
    rw [List.mem_filter, h1.mem, Bool.and_eq_true, decide_eq_true_iff, h.mem]
    constructor
    · rintro ⟨⟨a, b⟩, c, d, e⟩; exact ⟨a, b, c, e⟩
    · rintro ⟨a, b, c, e⟩; exact ⟨⟨a, b⟩, c, a, e⟩
  refine ⟨fold_nodup _ _ h.nd, fun d => ?_⟩
  rw [fold_mem, List.mem_append, List.mem_map, List.mem_filter, h.mem, h1.mem]
  show _ ↔ d < w * m ∧ (f d || (r.day w m d && !(y && f d)) || (y && (r.day w m ((d : Int) - 1) && f ((d : Int) - 1)))) = true
  constructor
  · rintro (⟨a, b⟩ | ⟨⟨a, b⟩, c⟩ | ⟨c, hc, rfl⟩)
    · refine ⟨a, ?_⟩
      rw [b]; rfl
    · refine ⟨a, ?_⟩
      have : ¬ (y = true ∧ f d = true) := fun q => by
        rw [decide_eq_true ((hmet d).mpr ⟨a, b, q.1, q.2⟩)] at c
        cases c
      rw [b]
      cases hy : y <;> cases hfd : f d <;> simp_all
    · obtain ⟨a, b, c1, c2⟩ := (hmet c).mp hc
      refine ⟨Nat.mod_lt _ hN, ?_⟩
      have e : (((c + 1) % (w * m) : Nat) : Int) = ((c : Int) + 1) % ((w * m : Nat) : Int) := by rw [Int.natCast_emod]; rfl
      rw [e, per_pred hg, per_pred hf, b, c1, c2]
      simp
  · rintro ⟨a, b⟩
    by_cases hfd : f d = true
    · exact .inl ⟨a, hfd⟩
    · rw [Bool.not_eq_true] at hfd
      by_cases hgd : r.day w m d = true
      · refine .inr (.inl ⟨⟨a, hgd⟩, ?_⟩)
        rw [decide_eq_false]
        · rfl
        · intro q
          have := ((hmet d).mp q).2.2.2
          rw [hfd] at this
          cases this
      · rw [Bool.not_eq_true] at hgd
        rw [hfd, hgd] at b
        simp only [Bool.false_or, Bool.false_and, Bool.and_eq_true] at b
        obtain ⟨b1, b2, b3⟩ := b
        have h0 := Int.emod_nonneg ((d : Int) - 1) (show ((w * m : Nat) : Int) ≠ 0 by omega)
        have h3 := Int.emod_lt_of_pos ((d : Int) - 1) (show 0 < ((w * m : Nat) : Int) by omega)
        refine .inr (.inr ⟨(((d : Int) - 1) % ((w * m : Nat) : Int)).toNat, (hmet _).mpr ⟨by omega, ?_, b1, ?_⟩, ?_⟩)
        · rw [Int.toNat_of_nonneg h0, hg.emod]; exact b2
        · rw [Int.toNat_of_nonneg h0, hf.emod]; exact b3
        · have : (((((d : Int) - 1) % ((w * m : Nat) : Int)).toNat + 1) % (w * m) : Nat) = (d : Nat) := by
            have e : ((((((d : Int) - 1) % ((w * m : Nat) : Int)).toNat + 1) % (w * m) : Nat) : Int) = (d : Int) := by
              rw [Int.natCast_emod, Int.natCast_add, Int.toNat_of_nonneg h0]
              show (((d : Int) - 1) % ((w * m : Nat) : Int) + 1) % ((w * m : Nat) : Int) = _
              rw [Int.emod_add_emod, Int.sub_add_cancel, Int.emod_eq_of_lt (by omega) (by omega)]
            omega
          exact this
section
variable {K : PySem.W.Frag} {σ : L2.St} {H H' : Hp} {ta tb tc te tv : TE} {x y z v : V} {t : TT} {D : Ends} {tz : TS}
theorem sel_eq {v : Nat → V} {f : Nat → Bool} {n : Nat} {ys : List V} (h : Sel f (fun i y _ => y = v i) n ys H) : ys = ((List.range n).filter f).map v := by
  apply List.ext_getElem?
  intro k
  rw [List.getElem?_map]
  cases hi : ((List.range n).filter f)[k]? with
  | none =>
    rw [List.getElem?_eq_none_iff] at hi
    exact List.getElem?_eq_none (by rw [h.1]; exact hi)
  | some i =>
    have hlt := (List.getElem?_eq_some_iff.mp hi).1
    have : k < ys.length := by rw [h.1]; exact hlt
    have hy := h.2 k i ys[k] hi (List.getElem?_eq_getElem this)
    rw [List.getElem?_eq_getElem this, hy]
    rfl
/-- [e for x in d if t], d a dict of days that stands locked at a -/
theorem el_keysL {tl : TE} {a : Addr} {od : Obj} {ds : List Nat} {j : Nat} {vs : List Nat} (f : Nat → Bool) (v : Nat → V) (h : Ev tl σ H (.ref a)) (hd : H a = some (.frz od (.dK (dk ds)))) (hz : ds.length ≤ 40000) (hw : ∀ x, wipe ((wipe σ vs).set j (some x)) vs = wipe σ vs)
    (ht : ∀ (i : Nat) H1, Ex H H1 → i < ds.length → EvT t ((wipe σ vs).set j (some (.int ((ds.getD i 0 : Nat) : Int)))) H1 (f i))
    (he : ∀ (i : Nat) H1, Ex H H1 → i < ds.length → f i = true → Ev te ((wipe σ vs).set j (some (.int ((ds.getD i 0 : Nat) : Int)))) H1 (v i)) :
    EvL (tLc (iKeys tl) (gName j) t te vs) σ H (((List.range ds.length).filter f).map v) := fun H0 ee Q q => h H0 ee _ fun H1 e1 => ⟨a, od, rfl, .inl ⟨dk ds, (ee.trans e1) _ _ hd, by
  have wk : Walk (Itk a od (dk ds)) (dk ds).length (fun H => H a = some (.frz od (.dK (dk ds)))) (YFn fun i => .int ((ds.getD i 0 : Nat) : Int)) := (walk_keys (d := a) (o := od) (kvs := dk ds)).mono (fun _ h => h) fun i H x H' hi _ y => by
    obtain ⟨h1, k, v, hk, hx⟩ := y
    refine ⟨h1, ?_⟩
    show x = V.int ((ds.getD i 0 : Nat) : Int)
    unfold dk at hk
    rw [List.getElem?_map] at hk
    rw [List.getD_eq_getElem?_getD]
    cases hi : ds[i]? with
    | none => rw [hi] at hk; cases hk
    | some d =>
      rw [hi] at hk
      cases hk
      exact hx
  have hl : (dk ds).length = ds.length := List.length_map _
  rw [hl] at wk
  refine lcX wk f (fun i y H => y = v i) (fun i y H1 H2 _ h => h) (fun H' e' => ((ee.trans e1).trans e') _ _ hd) hz hw (fun i H2 e2 hi => ht i H2 ((ee.trans e1).trans e2) hi) (fun i H2 e2 hi hf Q q => he i H2 ((ee.trans e1).trans e2) hi hf H2 (Ex.refl H2) Q fun H3 e3 => q _ H3 e3 rfl) Q fun Dl H' hD e' ⟨ys, h1, h2⟩ => q Dl H' (fresh_back e1 hD) (e1.trans e') (by rw [h1, sel_eq h2])⟩⟩
theorem el_lock {d : Addr} {u : HO} {xs : List V} (hd : H d = some u) (mu : Mut (some u)) (h : ∀ od, EvL te σ (upd H d (.frz od u)) xs) : EvL (tLockE te) σ H xs :=
  er_lock (R := fun p H2 => H2 p = some (.lst xs)) (R' := fun p H2 => H2 p = some (.lst xs)) hd mu h fun od p H2 hpd _ h => by rw [upd_ne hpd]; exact h
theorem q_lockL {i : Nat} {xs : List V} (h : EvL (tLockE te) σ H xs) (k : ∀ p H1, H p = none → Ex H H1 → H1 p = some (.lst xs) → tz D (σ.set i (some (.ref p))) H1) : tSeq (tLock (tAsg te (gName i))) tz D σ H := h H (Ex.refl H) (fun v H' => tz D (σ.set i (some v)) H') k
theorem el_catV {a : Addr} {xs ys : List V} (h1 : Ev ta σ H (.ref a)) (ha : H a = some (.lst xs)) (h2 : EvL tb σ H ys) (hz : xs.length + ys.length ≤ 100000) : EvL (tOp rCat ta tb) σ H (xs ++ ys) := fun H1 e Q q =>
  h1 H1 e _ fun H2 e2 => h2 H2 (e.trans e2) _ fun p2 H3 hp2 e3 k2 => ⟨a, p2, xs, ys, rfl, rfl, ((e.trans e2).trans e3) _ _ ha, k2, Evl.sz_of hz, fun p3 hp3 => q p3 _ (fresh_back (e2.trans e3) hp3) ((e2.trans e3).trans (Ex.new hp3)) upd_same⟩
theorem dp_ints {K : PySem.W.Frag} {H : Hp} : ∀ ns : List Int, DpAll K H (ns.map V.int) (ns.map PyData.int)
  | [] => .nil
  | n :: ns => .cons (.int n) (dp_ints ns)
theorem eqv_nil : ∀ ns : List Int, PyData.eqv (.list (ns.map PyData.int)) (.list []) = decide (ns = [])
  | [] => rfl
  | _ :: _ => rfl
/-- xs != [] -/
theorem ev_neNil {a : Addr} {ds : List Nat} (h : Ev ta σ H (.ref a)) (ha : H a = some (.lst (ds.map fun (d : Nat) => V.int (d : Int)))) : Ev (tOp (rNeD K) ta (tLst tNil)) σ H (.bl (!decide (ds = []))) :=
  ev_opL h (el_lst ea_nil (Nat.zero_le _)) fun p H1 hp e1 H2 e2 Q q => ⟨.list ((ds.map fun (d : Nat) => (d : Int)).map PyData.int), .list [], .lst (sq_of ((e1.trans e2) _ _ ha)) (by
    have := dp_ints (K := K) (H := H2) (ds.map fun (d : Nat) => (d : Int))
    rw [List.map_map] at this
    exact this), .lst (sq_of (e2 _ _ hp)) .nil, PySem.W.ke_shaped_ints _, PySem.W.ke_shaped_ints [], by
    rw [eqv_nil]
    have : decide ((ds.map fun (d : Nat) => (d : Int)) = []) = decide (ds = []) := by
      cases ds <;> rfl
    rw [this]
    exact q H2 (Ex.refl H2)⟩
theorem ev_niDs {a : Addr} {ds : List Nat} {d : Nat} (h : Ev ta σ H (.int (d : Int))) (h2 : Ev tb σ H (.ref a)) (ha : H a = some (.lst (ds.map fun (d : Nat) => V.int (d : Int)))) : EvT (tTest (tOp (rIn K true) ta tb)) σ H (!decide (d ∈ ds)) := by
  have hi : inV (.int (d : Int)) (ds.map fun (d : Nat) => V.int (d : Int)) = decide (d ∈ ds) := by
    clear ha
    induction ds with
    | nil => rfl
    | cons c ds ih =>
      show (eqV (.int (c : Int)) (.int (d : Int)) || inV (.int (d : Int)) (ds.map fun (d : Nat) => V.int (d : Int))) = _
      rw [ih]
      have : eqV (.int (c : Int)) (.int (d : Int)) = decide (c = d) := by
        show ((c : Int) == (d : Int)) = decide (c = d)
        rw [Bool.eq_iff_iff, beq_iff_eq, decide_eq_true_iff]
        omega
      rw [this, Bool.eq_iff_iff, Bool.or_eq_true, decide_eq_true_iff, decide_eq_true_iff, decide_eq_true_iff, List.mem_cons]
      exact ⟨fun h => h.imp Eq.symm id, fun h => h.imp Eq.symm id⟩
  have hf : (ds.map fun (d : Nat) => V.int (d : Int)).all flatV = true := by
    rw [List.all_eq_true]
    intro x hx
    rw [List.mem_map] at hx
    obtain ⟨c, _, rfl⟩ := hx
    rfl
  rw [← hi]
  exact et_cmp h h2 (rv_niL (sq_of ha) rfl hf)
end
section
variable {P : Program} {w : World} {K : PySem.W.Frag} {mg : Str → Option Value} {base : Heap} {C_BadRule C_BadRules C_Feast C_Calendar : Addr} {f : Addr} {fd : FuncData}
theorem fold_len : ∀ (es acc : List Nat), (es.foldl addD acc).length ≤ acc.length + es.length
  | [], _ => Nat.le_refl _
  | e :: es, acc => by
    have := fold_len es (addD acc e)
    have h : (addD acc e).length ≤ acc.length + 1 := by
      unfold addD
      split
      · omega
      · rw [List.length_append]; exact Nat.le_refl _
    rw [List.foldl_cons, List.length_cons]
    omega
def spAll (K : PySem.W.Frag) : Sp := fun vs H Q _ => ∃ (p l : Addr) (ys : List V) (rows : Rows) (w m : Nat), vs = [.ref p, .ref l] ∧ SqL K H p ys ∧ RawL K H ys rows ∧ rows.length ≤ 3 ∧ depMax rows < 5 ∧ SqT K H l [.int w, .int m] ∧ LandOk w m ∧
  ∀ p ds H2, H p = none → Ex H H2 → H2 p = some (.dK (dk ds)) → DaysOk (w * m) (calDay w m rows) ds → Q (.ref p) H2
theorem ok_lall (F : Fun K "_law_all" "_law_all" s_l_all f fd) (T : Txt w K mg C_BadRule C_BadRules C_Feast C_Calendar) : FnOk P w K mg base CX0 7 f fd ["_law_rows_here", "_law_land"] (spAll K) := by
  have D_l_days : Dn P w K mg base CX0 "_law_days" 6 ["_law_rule_here", "_law_land"] (spLDays K 5) := dn_ldays T
  refine F.ok sc_l_all (fun vs H Q E h => ?_) (fun cdv A outer s H vs Q E hr h => ?_)
  · obtain ⟨_, _, _, _, _, _, rfl, _⟩ := h
    rfl
  · obtain ⟨L, l, ys, rows, w, m, rfl, hL, hraw, hlen, hdep, hT, hO, k⟩ := h
    obtain ⟨w2, wm, m6, n5⟩ := id hO
    have hq : ((w * m : Nat) : Int) = (w : Int) * (m : Int) := Int.natCast_mul w m
    have hr1 : Room 1 _ := hr.mono (by omega)
    have hu := hu_of hr1
    have hN := hO.pos
    refine ⟨_, (pss_cons (ps_set (i := 2) sc_l_all.nd rfl (by first | exact Or.inl rfl | exact Or.inr rfl) (pe_op op_mul (pe_ix ix_tup (pv 1) pe_int (fun _ _ => rfl)) (pe_ix ix_tup (pv 1) pe_int (fun _ _ => rfl))))
  (pss_cons (ps_set (i := 3) sc_l_all.nd rfl (by first | exact Or.inl rfl | exact Or.inr rfl) pe_dnewK)
  (pss_cons (ps_for PassesOwn.never rfl (pi_list (pv 0)) (pg_tup rfl (pgs_cons (pg_name (i := 4) sc_l_all.nd rfl (by first | exact Or.inl rfl | exact Or.inr rfl)) (pgs_cons (pg_name (i := 5) sc_l_all.nd rfl (by first | exact Or.inl rfl | exact Or.inr rfl)) pgs_nil)))
  (pss_cons (ps_set (i := 6) sc_l_all.nd rfl (by first | exact Or.inl rfl | exact Or.inr rfl) (pe_fn D_l_days (hr.mono (by omega)) pass0 rfl (pa_cons (pv 4) (pa_cons (pv 1) pa_nil))))
  (pss_cons (ps_lock (ps_set (i := 7) sc_l_all.nd rfl (by first | exact Or.inl rfl | exact Or.inr rfl) (pe_lc (own := [("_law_day", 9)]) (g := gName 9) rfl sc_l_all.nd (pi_keys (pv 6)) (blkOk_by (own := [("_law_day", 9)]) (N := ["_law_rows_here", "_law_land", "_law_whole", "_law_found", "_law_rule_here", "_law_yields", "_law_own", "_law_met", "_law_kept", "_law_day"]) (sc := defScope s_l_all) (by decide +kernel)) (fun _ _ _ _ _ => (pg_name (i := 9) sc_l_all.nd rfl (by first | exact Or.inl rfl | exact Or.inr rfl))) (fun _ _ _ _ _ => (pts_one (PW.pt (pw_and (pt_val (pv 5)) (pw_and1 (pt_cmp (pc_din hu (pv 9) (pv 3)))))))) (fun _ _ _ _ _ => (pv 9)))))
  (pss_cons (ps_set (i := 8) sc_l_all.nd rfl (by first | exact Or.inl rfl | exact Or.inr rfl) (pe_ifExp (pt_cmpR (op_neD hr1.units) (pv 7) (pe_lst pa_nil) (nomark _)) (pe_lock (pe_lc (own := [("_law_day", 9)]) (g := gName 9) rfl sc_l_all.nd (pi_keys (pv 6)) (blkOk_by (own := [("_law_day", 9)]) (N := ["_law_rows_here", "_law_land", "_law_whole", "_law_found", "_law_rule_here", "_law_yields", "_law_own", "_law_met", "_law_kept", "_law_day"]) (sc := defScope s_l_all) (by decide +kernel)) (fun _ _ _ _ _ => (pg_name (i := 9) sc_l_all.nd rfl (by first | exact Or.inl rfl | exact Or.inr rfl))) (fun _ _ _ _ _ => (pts_one (pt_cmpR (op_notIn_seqK (K := K)) (pv 9) (pv 7) (by rfl)))) (fun _ _ _ _ _ => (pv 9)))) (pe_callTy (call_list_dK rfl) (by rfl) T.list (by decide +kernel) (pa_cons (pv 6) pa_nil))))
  (pss_one (ps_for PassesOwn.never rfl (pi_list (pe_op op_cat (pv 8) (pe_lc (own := [("_law_day", 9)]) (g := gName 9) (tt := tYes) rfl sc_l_all.nd (pi_list (pv 7)) (blkOk_by (own := [("_law_day", 9)]) (N := ["_law_rows_here", "_law_land", "_law_whole", "_law_found", "_law_rule_here", "_law_yields", "_law_own", "_law_met", "_law_kept", "_law_day"]) (sc := defScope s_l_all) (by decide +kernel)) (fun _ _ _ _ _ => (pg_name (i := 9) sc_l_all.nd rfl (by first | exact Or.inl rfl | exact Or.inr rfl))) (fun _ _ _ _ _ => pts_nil) (fun _ _ _ _ _ => (pe_op op_mod (pe_op op_add (pv 9) pe_int) (pv 2)))))) (pg_name (i := 9) sc_l_all.nd rfl (by first | exact Or.inl rfl | exact Or.inr rfl))
  (pss_one (ps_dput hu (pv 3) (pv 9) pe_bl rfl))))))))
  (pss_one (ps_ret (pv 3)))))), ?_⟩
    refine q_asg (v := .int ((w * m : Nat) : Int)) (ev_is (ev_op (ev_ixT (ev_var rfl) hT rfl) (ev_ixT (ev_var rfl) hT rfl) (rv_I (.inl ⟨by omega, by omega⟩))) (by rw [hq])) fun H1 e1 => ?_
    refine q_asgD fun Fd hF => ?_
    have hF0 := fresh_back e1 hF
    have e2 : Ex H1 (upd H1 Fd (.dK (dk []))) := Ex.new hF
    refine q_forL (ev_var rfl) (ex_l (e1.trans e2) hL) (fun i σ H' => ∃ a4 a5 a6 a7 a8 a9 ds, σ = [some (.ref L), some (.ref l), some (.int ((w * m : Nat) : Int)), some (.ref Fd), a4, a5, a6, a7, a8, a9] ∧ H' Fd = some (.dK (dk ds)) ∧ DaysOk (w * m) (calDay w m (rows.take i)) ds ∧ Ex H H')
      (fun H2 e3 => ⟨none, none, none, none, none, none, [], rfl, e3 _ _ upd_same, ⟨List.nodup_nil, fun d => ⟨fun h => (nomatch h), fun h => (by have := h.2; cases this)⟩⟩, (e1.trans e2).trans e3⟩) (fun i σ' H' _ ⟨_, _, _, _, _, _, _, _, _, _, e⟩ => ex_l e hL) ?_ ?_
    · rintro i x σ' H' hi ⟨a4, a5, a6, a7, a8, a9, ds, rfl, hFd, hok, e⟩
      obtain ⟨r, hr1', p, v, rfl, hp, hv⟩ := hraw.get hi
      have hpH := ex_t e hp
      refine ⟨_, _, rfl, hpH, rfl, _, _, rfl, _, _, rfl, rfl, ?_⟩
      have hdr : r.1.dep < 5 := Nat.lt_of_le_of_lt (dep_le hr1') hdep
      refine q_asgR (er_ldays (ea_cons (ev_var rfl) (ea_cons (ev_var rfl) ea_nil)) (hv.mono e) hdr (ex_t e hT) hO) fun D1 H3 hD1 e3 ⟨ds1, hds1, hok1⟩ => ?_
      have hFd3 := e3 _ _ hFd
      have h12 : Fd ≠ D1 := ne_of_none hFd hD1
      have hlen1 := hok1.le
      have hlen0 := hok.le
      refine q_lockL (xs := (ds1.filter fun d => r.2 && decide (d ∈ ds)).map fun (d : Nat) => V.int (d : Int)) (el_lock hds1 trivial fun od => ?_) fun M H4 hM e4 hM4 => ?_
      · have := el_keysL (σ := [some (.ref L), some (.ref l), some (.int ((w * m : Nat) : Int)), some (.ref Fd), some v, some (.bl r.2), some (.ref D1), a7, a8, a9]) (H := upd H3 D1 (.frz od (.dK (dk ds1)))) (tl := tVar 6) (t := tAnd (tB (tVar 5)) (tB (tDIn (tVar 9) (tVar 3)))) (te := tVar 9) (j := 9) (vs := [9]) (fun i => r.2 && decide (ds1.getD i 0 ∈ ds)) (fun i => .int ((ds1.getD i 0 : Nat) : Int)) (ev_var rfl) upd_same (by omega) (fun _ => rfl) (fun i HA eA hi => et_and (et_B (ev_var rfl)) fun _ => et_B (ev_din (ev_var rfl) (ev_var rfl) (eA _ _ (by rw [upd_ne h12]; exact hFd3)))) (fun i HA eA hi _ => ev_var rfl)
        have hl : (((List.range ds1.length).filter fun i => r.2 && decide (ds1.getD i 0 ∈ ds)).map fun i => V.int ((ds1.getD i 0 : Nat) : Int)) = (ds1.filter fun d => r.2 && decide (d ∈ ds)).map fun (d : Nat) => V.int (d : Int) := by
          rw [← filter_getD ds1 fun d => r.2 && decide (d ∈ ds), List.map_map]
          rfl
        rw [← hl]
        exact this
      · have hds14 := e4 _ _ hds1
        have hMD : D1 ≠ M := ne_of_none hds1 hM
        generalize hmet : (ds1.filter fun d => r.2 && decide (d ∈ ds)) = met at hM4
        have hlm : met.length ≤ w * m := by
          rw [← hmet]
          exact Nat.le_trans (List.length_filter_le _ _) hlen1
        have hlk : (ds1.filter fun d => !decide (d ∈ met)).length ≤ w * m := Nat.le_trans (List.length_filter_le _ _) hlen1
        refine q_asgL (xs := (ds1.filter fun d => !decide (d ∈ met)).map fun (d : Nat) => V.int (d : Int)) ?_ fun Kp H5 hKp e5 hK5 => ?_
        · by_cases hm0 : met = []
          · refine el_is (el_ifF (et_is (et_test (ev_neNil (ev_var rfl) hM4)) (by rw [decide_eq_true hm0]; rfl)) (el_listD (ev_var rfl) hds14)) ?_
            rw [hm0, List.filter_eq_self.mpr]
            intro d _
            rfl
          · refine el_ifT (et_is (et_test (ev_neNil (ev_var rfl) hM4)) (by rw [decide_eq_false hm0]; rfl)) (el_lock hds14 trivial fun od => ?_)
            have := el_keysL (σ := [some (.ref L), some (.ref l), some (.int ((w * m : Nat) : Int)), some (.ref Fd), some v, some (.bl r.2), some (.ref D1), some (.ref M), a8, a9]) (H := upd H4 D1 (.frz od (.dK (dk ds1)))) (tl := tVar 6) (t := tTest (tOp (rIn K true) (tVar 9) (tVar 7))) (te := tVar 9) (j := 9) (vs := [9]) (fun i => !decide (ds1.getD i 0 ∈ met)) (fun i => .int ((ds1.getD i 0 : Nat) : Int)) (ev_var rfl) upd_same (by omega) (fun _ => rfl) (fun i HA eA hi => ev_niDs (ev_var rfl) (ev_var rfl) (eA _ _ (by rw [upd_ne hMD.symm]; exact hM4))) (fun i HA eA hi _ => ev_var rfl)
            have hl : (((List.range ds1.length).filter fun i => !decide (ds1.getD i 0 ∈ met)).map fun i => V.int ((ds1.getD i 0 : Nat) : Int)) = (ds1.filter fun d => !decide (d ∈ met)).map fun (d : Nat) => V.int (d : Int) := by
              rw [← filter_getD ds1 fun d => !decide (d ∈ met), List.map_map]
              rfl
            rw [← hl]
            exact this
        · have hM5 := e5 _ _ hM4
          have E5 := ((e.trans e3).trans e4).trans e5
          have hFd5 := e5 _ _ (e4 _ _ hFd3)
          have hok2 := all_step (y := r.2) hN (by rw [hq]; exact cal_per w m (rows.take i)) hok hok1
          rw [hmet] at hok2
          generalize hes : (ds1.filter (fun d => !decide (d ∈ met)) ++ met.map fun c => (c + 1) % (w * m)) = es at hok2
          have hle : es.length ≤ 2 * (w * m) := by
            rw [← hes, List.length_append, List.length_map]; omega
          have hFd6 : ∀ (j : Nat), ((es.take j).foldl addD ds).length ≤ ds.length + j := fun j => Nat.le_trans (fold_len _ _) (by rw [List.length_take]; omega)
          refine s_forNL (xs := es.map fun (d : Nat) => V.int (d : Int)) (el_is (el_catV (ev_var rfl) hK5 (el_lcL (fun _ => true) (fun i => .int (((met.getD i 0 + 1) % (w * m) : Nat) : Int)) (ev_var rfl) (sq_of hM5) (by rw [List.length_map]; omega) (fun _ => rfl) (fun _ _ _ _ _ => et_yes) (fun j x H6 e6 hx _ => ?_)) ?_) ?_)
            (fun p j σ' H' => ∃ a9, σ' = [some (.ref L), some (.ref l), some (.int ((w * m : Nat) : Int)), some (.ref Fd), some v, some (.bl r.2), some (.ref D1), some (.ref M), some (.ref Kp), a9] ∧ H' Fd = some (.dK (dk ((es.take j).foldl addD ds))) ∧ H' p = some (.lst (es.map fun (d : Nat) => V.int (d : Int))) ∧ p ≠ Fd ∧ Ex H H')
            (fun p H6 hp e6 h6 => ⟨a9, rfl, e6 _ _ hFd5, h6, fun z => (by rw [z, hFd5] at hp; cases hp), E5.trans e6⟩) (fun p j σ' H' _ ⟨_, _, _, h, _⟩ => sq_of h) ?_ ?_
          · rw [List.getElem?_map] at hx
            cases hj : met[j]? with
            | none => rw [hj] at hx; cases hx
            | some d =>
              rw [hj] at hx
              cases hx
              refine ev_is (ev_op (ev_op (ev_var rfl) ev_c rv_I0) (ev_var rfl) (rv_I (by omega))) ?_
              rw [List.getD_eq_getElem?_getD, hj]
              show V.int (((d : Int) + 1) % ((w * m : Nat) : Int)) = _
              rw [Int.natCast_emod]
              rfl
          · rw [List.length_map, given_all, List.length_map, List.length_range, List.length_map]; omega
          · rw [given_all, List.length_map, ← hes, List.map_append, List.map_map]
            congr 1
            exact range_getD met fun c => V.int (((c + 1) % (w * m) : Nat) : Int)
          · rintro p j x σ' H' hx ⟨a9', rfl, h1, h2, h3, e'⟩
            rw [List.getElem?_map] at hx
            cases hj : es[j]? with
            | none => rw [hj] at hx; cases hx
            | some d =>
              rw [hj] at hx
              cases hx
              have hjl := (List.getElem?_eq_some_iff.mp hj).1
              have := hFd6 j
              refine s_dput h1 ev_c (ev_var rfl) (ev_var rfl) (by omega) fun H6 e6 => ⟨_, rfl, ?_, ?_, h3, Ex.mut (e'.trans e6) hF0⟩
              · rw [upd_same, take_more hj, List.foldl_append]
                rfl
              · rw [upd_ne h3]
                exact e6 _ _ h2
          · rintro p σ' H' ⟨a9', rfl, h1, h2, h3, e'⟩
            refine ⟨_, _, _, _, _, _, _, rfl, h1, ?_, e'⟩
            rw [List.length_map, List.take_length, cal_more w m hr1']
            exact hok2
    · rintro σ' H' ⟨a4, a5, a6, a7, a8, a9, ds, rfl, hFd, hok, e⟩
      refine s_ret (ev_var rfl) fun H2 e3 => k Fd ds H2 hF0 (e.trans e3) (e3 _ _ hFd) ?_
      rw [hraw.len, List.take_length] at hok
      exact hok
theorem dn_lall (T : Txt w K mg C_BadRule C_BadRules C_Feast C_Calendar) : Dn P w K mg base CX0 "_law_all" 7 ["_law_rows_here", "_law_land"] (spAll K) := T.f_l_all.dn fun _ _ F hm hb => ok_lall F T
end
end WF

set_option Elab.async false
set_option linter.all false
set_option maxRecDepth 100000
set_option maxHeartbeats 1000000
/-! the law's own bys and reach -/
namespace WF
open PySem L2 Evl
section
variable {P : Program} {w : World} {K : PySem.W.Frag} {mg : Str → Option Value} {base : Heap} {C_BadRule C_BadRules C_Feast C_Calendar : Addr} {f : Addr} {fd : FuncData}
def spBys (K : PySem.W.Frag) (n : Nat) : Sp := fun vs H Q _ => ∃ v r, vs = [v] ∧ RlAt K H v r ∧ r.dep < n ∧ RetV (.int ((r.bys : Nat) : Int)) H Q
theorem bys_turn (F : Fun K "_law_bys" "_law_bys" s_l_bys f fd) (T : Txt w K mg C_BadRule C_BadRules C_Feast C_Calendar) (hm : mg "_law_bys" = some (.ref f)) (hb : Binds K fd ["_law_rule_here"] []) (n : Nat) (ih : FnOk P w K mg base CX0 (n + 1) f fd ["_law_rule_here"] (spBys K n)) : FnOk P w K mg base CX0 (n + 2) f fd ["_law_rule_here"] (spBys K (n + 1)) := by
  have D_l_bys : Dn P w K mg base CX0 "_law_bys" (n + 1) ["_law_rule_here"] (spBys K n) := ⟨f, fd, hm, F.kp, ih, hb⟩
  refine F.ok sc_l_bys (fun vs H Q E h => ?_) (fun cdv A outer s H vs Q E hr h => ?_)
  · obtain ⟨_, _, rfl, _⟩ := h
    rfl
  · obtain ⟨v, r, rfl, hR, hd, k⟩ := h
    refine ⟨_, (pss_cons (ps_if (pt_cmpR op_eq (pe_ix ix_tup (pv 0) pe_int (fun _ _ => rfl)) pe_str (nomark _)) (pss_one (ps_ret (pe_op op_add (pe_callB call_abs (by rfl) T.abs (by decide +kernel) (pa_cons (pe_ix ix_tup (pv 0) pe_int (fun _ _ => rfl)) pa_nil)) (pe_fn D_l_bys (hr.mono (by omega)) pass0 rfl (pa_cons (pe_ix ix_tup (pv 0) pe_int (fun _ _ => rfl)) pa_nil)))))
  pss_nil)
  (pss_cons (ps_if (pt_cmpR op_in_seq (pe_ix ix_tup (pv 0) pe_int (fun _ _ => rfl)) (pe_tup (pa_cons pe_str (pa_cons pe_str (pa_cons pe_str pa_nil)))) (by rfl)) (pss_one (ps_ret (pe_op op_add (pe_fn D_l_bys (hr.mono (by omega)) pass0 rfl (pa_cons (pe_ix ix_tup (pv 0) pe_int (fun _ _ => rfl)) pa_nil)) (pe_fn D_l_bys (hr.mono (by omega)) pass0 rfl (pa_cons (pe_ix ix_tup (pv 0) pe_int (fun _ _ => rfl)) pa_nil)))))
  pss_nil)
  (pss_one (ps_ret pe_int)))), ?_⟩
    cases hR with
    | wk hT =>
      rename_i p i
      refine q_not (et_str (ev_ixT (ev_var rfl) hT at0) (by decide +kernel)) fun H1 e1 => ?_
      refine q_not (et_is (et_test (ev_inU (xs := pairsV) (ev_ixT (ev_var rfl) (ex_t e1 hT) at0) (eu_tup (ea_cons ev_c (ea_cons ev_c (ea_cons ev_c ea_nil))) (by show 3 ≤ 100000; decide)) rfl rfl)) (by decide +kernel)) fun H2 e2 => ?_
      exact s_ret ev_c fun H3 e3 => k H3 ((e1.trans e2).trans e3)
    | fs hT =>
      rename_i p i
      refine q_not (et_str (ev_ixT (ev_var rfl) hT at0) (by decide +kernel)) fun H1 e1 => ?_
      refine q_not (et_is (et_test (ev_inU (xs := pairsV) (ev_ixT (ev_var rfl) (ex_t e1 hT) at0) (eu_tup (ea_cons ev_c (ea_cons ev_c (ea_cons ev_c ea_nil))) (by show 3 ≤ 100000; decide)) rfl rfl)) (by decide +kernel)) fun H2 e2 => ?_
      exact s_ret ev_c fun H3 e3 => k H3 ((e1.trans e2).trans e3)
    | md hT =>
      rename_i p i
      refine q_not (et_str (ev_ixT (ev_var rfl) hT at0) (by decide +kernel)) fun H1 e1 => ?_
      refine q_not (et_is (et_test (ev_inU (xs := pairsV) (ev_ixT (ev_var rfl) (ex_t e1 hT) at0) (eu_tup (ea_cons ev_c (ea_cons ev_c (ea_cons ev_c ea_nil))) (by show 3 ≤ 100000; decide)) rfl rfl)) (by decide +kernel)) fun H2 e2 => ?_
      exact s_ret ev_c fun H3 e3 => k H3 ((e1.trans e2).trans e3)
    | bh hT h2 =>
      rename_i p u r b
      have hd2 : r.dep < n := by simp only [Rl.dep] at hd; omega
      refine q_yes (et_str (ev_ixT (ev_var rfl) hT at0) (by decide +kernel)) fun H1 e1 => ?_
      refine s_ret (ev_is (ev_op (ev_abs (ev_ixT (ev_var rfl) (ex_t e1 hT) rfl)) (ev_call (ea_cons (ev_ixT (ev_var rfl) (ex_t e1 hT) rfl) ea_nil) (spV (z := .int ((r.bys : Nat) : Int)) fun H3 e3 Q _ q => ⟨_, r, rfl, h2.mono (e1.trans e3), hd2, q⟩)) rv_I0) ?_) fun H3 e3 => k H3 (e1.trans e3)
      refine congrArg V.int ?_
      show (if b < 0 then -b else b) + ((r.bys : Nat) : Int) = ((b.natAbs + r.bys : Nat) : Int)
      split <;> omega
    | bo hT h1 h2 =>
      rename_i p x y a b
      simp only [Rl.dep] at hd
      refine q_not (et_str (ev_ixT (ev_var rfl) hT at0) (by decide +kernel)) fun H1 e1 => ?_
      refine q_yes (et_is (et_test (ev_inU (xs := pairsV) (ev_ixT (ev_var rfl) (ex_t e1 hT) at0) (eu_tup (ea_cons ev_c (ea_cons ev_c (ea_cons ev_c ea_nil))) (by show 3 ≤ 100000; decide)) rfl rfl)) (by decide +kernel)) fun H2 e2 => ?_
      exact s_ret (ev_is (ev_op (ev_call (ea_cons (ev_ixT (ev_var rfl) (ex_t (e1.trans e2) hT) rfl) ea_nil) (spV (z := .int ((a.bys : Nat) : Int)) fun H3 e3 Q _ q => ⟨_, a, rfl, h1.mono ((e1.trans e2).trans e3), by omega, q⟩)) (ev_call (ea_cons (ev_ixT (ev_var rfl) (ex_t (e1.trans e2) hT) rfl) ea_nil) (spV (z := .int ((b.bys : Nat) : Int)) fun H3 e3 Q _ q => ⟨_, b, rfl, h2.mono ((e1.trans e2).trans e3), by omega, q⟩)) rv_I0) (congrArg V.int (Int.natCast_add _ _).symm)) fun H3 e3 => k H3 ((e1.trans e2).trans e3)
    | ei hT h1 h2 =>
      rename_i p x y a b
      simp only [Rl.dep] at hd
      refine q_not (et_str (ev_ixT (ev_var rfl) hT at0) (by decide +kernel)) fun H1 e1 => ?_
      refine q_yes (et_is (et_test (ev_inU (xs := pairsV) (ev_ixT (ev_var rfl) (ex_t e1 hT) at0) (eu_tup (ea_cons ev_c (ea_cons ev_c (ea_cons ev_c ea_nil))) (by show 3 ≤ 100000; decide)) rfl rfl)) (by decide +kernel)) fun H2 e2 => ?_
      exact s_ret (ev_is (ev_op (ev_call (ea_cons (ev_ixT (ev_var rfl) (ex_t (e1.trans e2) hT) rfl) ea_nil) (spV (z := .int ((a.bys : Nat) : Int)) fun H3 e3 Q _ q => ⟨_, a, rfl, h1.mono ((e1.trans e2).trans e3), by omega, q⟩)) (ev_call (ea_cons (ev_ixT (ev_var rfl) (ex_t (e1.trans e2) hT) rfl) ea_nil) (spV (z := .int ((b.bys : Nat) : Int)) fun H3 e3 Q _ q => ⟨_, b, rfl, h2.mono ((e1.trans e2).trans e3), by omega, q⟩)) rv_I0) (congrArg V.int (Int.natCast_add _ _).symm)) fun H3 e3 => k H3 ((e1.trans e2).trans e3)
    | wo hT h1 h2 =>
      rename_i p x y a b
      simp only [Rl.dep] at hd
      refine q_not (et_str (ev_ixT (ev_var rfl) hT at0) (by decide +kernel)) fun H1 e1 => ?_
      refine q_yes (et_is (et_test (ev_inU (xs := pairsV) (ev_ixT (ev_var rfl) (ex_t e1 hT) at0) (eu_tup (ea_cons ev_c (ea_cons ev_c (ea_cons ev_c ea_nil))) (by show 3 ≤ 100000; decide)) rfl rfl)) (by decide +kernel)) fun H2 e2 => ?_
      exact s_ret (ev_is (ev_op (ev_call (ea_cons (ev_ixT (ev_var rfl) (ex_t (e1.trans e2) hT) rfl) ea_nil) (spV (z := .int ((a.bys : Nat) : Int)) fun H3 e3 Q _ q => ⟨_, a, rfl, h1.mono ((e1.trans e2).trans e3), by omega, q⟩)) (ev_call (ea_cons (ev_ixT (ev_var rfl) (ex_t (e1.trans e2) hT) rfl) ea_nil) (spV (z := .int ((b.bys : Nat) : Int)) fun H3 e3 Q _ q => ⟨_, b, rfl, h2.mono ((e1.trans e2).trans e3), by omega, q⟩)) rv_I0) (congrArg V.int (Int.natCast_add _ _).symm)) fun H3 e3 => k H3 ((e1.trans e2).trans e3)
theorem ok_bys (F : Fun K "_law_bys" "_law_bys" s_l_bys f fd) (T : Txt w K mg C_BadRule C_BadRules C_Feast C_Calendar) (hm : mg "_law_bys" = some (.ref f)) (hb : Binds K fd ["_law_rule_here"] []) : ∀ n : Nat, FnOk P w K mg base CX0 (n + 1) f fd ["_law_rule_here"] (spBys K n)
  | 0 => fnok_none fun _ _ _ _ ⟨_, _, _, _, h, _⟩ => absurd h (Nat.not_lt_zero _)
  | n + 1 => bys_turn F T hm hb n (ok_bys F T hm hb n)
theorem dn_bys (T : Txt w K mg C_BadRule C_BadRules C_Feast C_Calendar) (n : Nat) : Dn P w K mg base CX0 "_law_bys" (n + 1) ["_law_rule_here"] (spBys K n) := T.f_l_bys.dn fun _ _ F hm hb => ok_bys F T hm hb n
theorem ev_intB {σ : L2.St} {H : Hp} {ta : TE} {b : Bool} (h : Ev ta σ H (.bl b)) : Ev (tCB (fun xs H Q => (∃ i, xs = [.int i] ∧ Q (.int i) H) ∨ ∃ k, xs = [.bl k] ∧ Q (.int (if k then 1 else 0)) H) (tCons ta tNil)) σ H (.int (if b then 1 else 0)) :=
  ev_cb (ea_cons h ea_nil) fun H1 _ Q q => .inr ⟨b, rfl, q H1 (Ex.refl H1)⟩
def spReach (K : PySem.W.Frag) : Sp := fun vs H Q _ => ∃ l ys rows, vs = [.ref l] ∧ SqL K H l ys ∧ RawL K H ys rows ∧ rows.length ≤ 4 ∧ depMax rows < 5 ∧ RetV (.int ((reachOf rows : Nat) : Int)) H Q
theorem reach_sum (d : Rl × Bool) (rows : Rows) : (((List.range rows.length).map fun i => (((rows.getD i d).1.bys : Nat) : Int) + (if (rows.getD i d).2 then 1 else 0)).sum : Int) = ((rowsBys rows + (rows.filter fun r => r.2).length : Nat) : Int) := by
  have h : ∀ rs : Rows, ((rs.map fun r => ((r.1.bys : Nat) : Int) + (if r.2 then 1 else 0)).sum : Int) = ((rowsBys rs + (rs.filter fun r => r.2).length : Nat) : Int) := by
    intro rs
    induction rs with
    | nil => rfl
    | cons r rs ih =>
      unfold rowsBys at *
      rw [List.map_cons, List.sum_cons, ih, List.map_cons, List.sum_cons, List.filter_cons]
      cases r.2
      · simp; omega
      · simp; omega
  rw [← h]
  conv => rhs; rw [← rows_eq d rows]
  rw [List.map_map]
  rfl
theorem ok_reach (F : Fun K "_law_reach" "_law_reach" s_l_reach f fd) (T : Txt w K mg C_BadRule C_BadRules C_Feast C_Calendar) : FnOk P w K mg base CX0 7 f fd ["_law_rows_here"] (spReach K) := by
  have D_l_bys : Dn P w K mg base CX0 "_law_bys" 6 ["_law_rule_here"] (spBys K 5) := dn_bys T 5
  refine F.ok sc_l_reach (fun vs H Q E h => ?_) (fun cdv A outer s H vs Q E hr h => ?_)
  · obtain ⟨_, _, _, rfl, _⟩ := h
    rfl
  · obtain ⟨l, ys, rows, rfl, hl, hraw, hlen, hdep, k⟩ := h
    obtain ⟨qf, hqf⟩ := hraw.fn (.wk 0, false)
    have hyl := hraw.len
    refine ⟨_, (pss_one (ps_ret (pe_op op_add pe_int (pe_callB (cr_sum rfl) (by rfl) T.sum (by decide +kernel) (pa_cons (pe_lc (own := [("_law_rule_here", 1), ("_law_yields", 2)]) (tt := tYes) rfl sc_l_reach.nd (pi_list (pv 0)) (blkOk_by (own := [("_law_rule_here", 1), ("_law_yields", 2)]) (N := ["_law_rows_here", "_law_rule_here", "_law_yields"]) (sc := defScope s_l_reach) (by decide +kernel)) (fun _ _ _ _ _ => (pg_tupK (K := K) (n := 2) rfl (pgs_cons (pg_name (i := 1) sc_l_reach.nd rfl (by first | exact Or.inl rfl | exact Or.inr rfl)) (pgs_cons (pg_name (i := 2) sc_l_reach.nd rfl (by first | exact Or.inl rfl | exact Or.inr rfl)) pgs_nil)))) (fun _ _ _ _ _ => pts_nil) (fun _ _ _ _ _ => (pe_op op_add (pe_fn D_l_bys (hr.mono (by omega)) pass0 rfl (pa_cons (pv 1) pa_nil)) (pe_callTy call_int1 (by rfl) T.int (by decide +kernel) (pa_cons (pv 2) pa_nil))))) pa_nil))))), ?_⟩
    refine s_ret (ev_is (ev_op ev_c (ev_sumR (n := ys.length) (fun i => (((rows.getD i (.wk 0, false)).1.bys : Nat) : Int) + (if (rows.getD i (.wk 0, false)).2 then 1 else 0)) (el_is (el_lst2 qf (fun i => .bl (rows.getD i (.wk 0, false)).2) (fun _ => true) (fun i => .int ((((rows.getD i (.wk 0, false)).1.bys : Nat) : Int) + (if (rows.getD i (.wk 0, false)).2 then 1 else 0))) (ev_var rfl) hl (by omega) (fun _ _ => rfl) (fun i x hi => ?_) (fun _ _ _ _ => et_yes) (fun i H2 e2 hi _ => ?_)) (given_allL ys _))) rv_I0) ?_) fun H1 e1 => k H1 e1
    · obtain ⟨p', h0, h1, _⟩ := hqf i x hi
      exact ⟨p', h0, h1⟩
    · obtain ⟨p', h0, h1, hrl⟩ := hqf i ys[i] (by simp [hi])
      have hmem := getD_mem (d := ((.wk 0, false) : Rl × Bool)) (show i < rows.length by omega)
      have hdp : (rows.getD i (.wk 0, false)).1.dep < 5 := Nat.lt_of_le_of_lt (dep_le (i := i) (by rw [List.getD_eq_getElem?_getD, List.getElem?_eq_getElem (show i < rows.length by omega)]; rfl)) hdep
      exact ev_op (ev_call (ea_cons (ev_var rfl) ea_nil) (spV (z := .int (((rows.getD i (.wk 0, false)).1.bys : Nat) : Int)) fun H3 e3 Q _ q => ⟨_, _, rfl, hrl.mono (e2.trans e3), hdp, q⟩)) (ev_intB (ev_var rfl)) rv_I0
    · rw [hyl, reach_sum]
      refine congrArg V.int ?_
      unfold reachOf
      omega
theorem dn_reach (T : Txt w K mg C_BadRule C_BadRules C_Feast C_Calendar) : Dn P w K mg base CX0 "_law_reach" 7 ["_law_rows_here"] (spReach K) := T.f_l_reach.dn fun _ _ F _ _ => ok_reach F T
end
end WF

set_option Elab.async false
set_option linter.all false
set_option maxRecDepth 100000
set_option maxHeartbeats 1000000
/-! form -/
namespace WF
open PySem L2 Evl
section
variable {K : PySem.W.Frag} {σ : L2.St} {H : Hp} {t1 t2 t3 te : TE} {D : Ends} {tz : TS}
theorem er_three {xs ys zs : List V} (h1 : EvU t1 σ H xs) (h2 : EvU t2 σ H ys) (h3 : EvU t3 σ H zs) : EvR (tTup (tCons t1 (tCons t2 (tCons t3 tNil)))) σ H fun p H2 => ∃ a b c, H2 p = some (.tup [.ref a, .ref b, .ref c]) ∧ H2 a = some (.tup xs) ∧ H2 b = some (.tup ys) ∧ H2 c = some (.tup zs) := fun H1 e Q q =>
  h1 H1 e _ fun a H2 ha e2 k1 => h2 H2 (e.trans e2) _ fun b H3 hb e3 k2 => h3 H3 ((e.trans e2).trans e3) _ fun c H4 hc e4 k3 => ⟨by show 3 ≤ sizeLine; decide, fun p hp =>
    q p _ (fresh_back ((e2.trans e3).trans e4) hp) (((e2.trans e3).trans e4).trans (Ex.new hp)) ⟨a, b, c, upd_same, ((e3.trans e4).trans (Ex.new hp)) _ _ k1, (e4.trans (Ex.new hp)) _ _ k2, (Ex.new hp) _ _ k3⟩⟩
theorem q_asgT3 {x y z : V} {i j k : Nat} {a : Addr} (h : Ev te σ H (.ref a)) (ht : SqT K H a [x, y, z]) (q : ∀ H1, Ex H H1 → tz D (((σ.set i (some x)).set j (some y)).set k (some z)) H1) : tSeq (tAsg te (gTup K 3 (gCons (gName i) (gCons (gName j) (gCons (gName k) gNil))))) tz D σ H :=
  h H (Ex.refl H) _ fun H1 e => ⟨a, [x, y, z], rfl, ex_t e ht, rfl, _, _, rfl, _, _, rfl, _, _, rfl, rfl, q H1 e⟩
end
section
variable {P : Program} {w : World} {K : PySem.W.Frag} {mg : Str → Option Value} {base : Heap} {C_BadRule C_BadRules C_Feast C_Calendar : Addr} {f : Addr} {fd : FuncData}
def spForm (K : PySem.W.Frag) (CF CC : Addr) : Sp := fun vs H Q _ => ∃ (u : V) (rows : Rows), vs = [u] ∧ CalAt K CF CC H u rows ∧ depMax rows < 5 ∧ reachOf rows ≤ 10 ∧ (∀ r ∈ rows, r.1.fit = true) ∧
  ∀ (t : Addr) (a b c : Int) H2, FormOk rows a b c → a.natAbs ≤ 10000 → b.natAbs ≤ 40000 → H t = none → Ex H H2 → H2 t = some (.tup [.int a, .int b, .int c]) → Q (.ref t) H2
theorem ok_form (F : Fun K "form" "form" s_form f fd) (T : Txt w K mg C_BadRule C_BadRules C_Feast C_Calendar) (CF : Cls1 K C_Feast ["told", "bys"]) (CC : Cls1 K C_Calendar ["rows", "near"]) : FnOk P w K mg base CX0 8 f fd ["calendar"] (spForm K C_Feast C_Calendar) := by
  have D_days_of : Dn P w K mg base CX0 "days_of" 7 ["rows", "land"] (spDays K C_Feast) := dn_days T CF
  have D_listed : Dn P w K mg base CX0 "listed" 1 ["figure"] spListed := dn_listed T
  refine F.ok sc_form (fun vs H Q E h => ?_) (fun cdv A outer s H vs Q E hr h => ?_)
  · obtain ⟨_, _, rfl, _⟩ := h
    rfl
  · obtain ⟨u, rows, rfl, ⟨cu, dxu, ru, rfl, hu, hru⟩, hd, hr10, hfit, k⟩ := h
    refine ⟨_, (pss_cons (ps_set (i := 1) sc_form.nd rfl (by first | exact Or.inl rfl | exact Or.inr rfl) (pe_op op_add (pe_op op_mul pe_int (pe_fld (pv 0) rfl)) pe_int))
  (pss_cons (ps_set (i := 2) sc_form.nd rfl (by first | exact Or.inl rfl | exact Or.inr rfl) (pe_tup (pa_cons (pe_tup (pa_cons (pv 1) (pa_cons (pe_op op_add (pe_op op_mul pe_int (pv 1)) pe_int) pa_nil))) (pa_cons (pe_tup (pa_cons (pv 1) (pa_cons (pe_op op_add (pe_op op_mul pe_int (pv 1)) pe_int) pa_nil))) (pa_cons (pe_tup (pa_cons (pe_op op_add (pv 1) pe_int) (pa_cons (pe_op op_add (pe_op op_mul pe_int (pv 1)) pe_int) pa_nil))) pa_nil)))))
  (pss_cons (ps_setLc (i := 3) (own := [("land", 6)]) (g := gName 6) (tt := tYes) rfl sc_form.nd rfl rfl (sw_true rfl rfl rfl (by decide +kernel)) (pi_tup (pv 2)) (blkOk_by (own := [("land", 6)]) (N := ["calendar", "w", "lands", "counts", "a", "b", "land"]) (sc := defScope s_form) (by decide +kernel)) (fun _ _ _ _ _ => (pg_name (i := 6) sc_form.nd rfl (by first | exact Or.inl rfl | exact Or.inr rfl))) (fun _ _ _ _ _ => pts_nil) (fun _ _ _ _ _ => (pe_callB (call_len_seqK (K := K)) (by rfl) T.len (by decide +kernel) (pa_cons (pe_fn D_listed (hr.mono (by omega)) pass0 rfl (pa_cons (pe_fn D_days_of (hr.mono (by omega)) pass0 rfl (pa_cons (pe_fldK (K := K) (pv 0) rfl) (pa_cons (pv 6) pa_nil))) pa_nil)) pa_nil))))
  (pss_cons (ps_set (i := 4) sc_form.nd rfl (by first | exact Or.inl rfl | exact Or.inr rfl) (pe_op op_fdiv (pe_op op_sub (pe_ix ix_list (pv 3) pe_int (fun _ _ => rfl)) (pe_ix ix_list (pv 3) pe_int (fun _ _ => rfl))) (pv 1)))
  (pss_cons (ps_set (i := 5) sc_form.nd rfl (by first | exact Or.inl rfl | exact Or.inr rfl) (pe_op op_sub (pe_op op_sub (pe_ix ix_list (pv 3) pe_int (fun _ _ => rfl)) (pe_ix ix_list (pv 3) pe_int (fun _ _ => rfl))) (pe_op op_mul pe_int (pv 4))))
  (pss_one (ps_ret (pe_tup (pa_cons (pv 4) (pa_cons (pv 5) (pa_cons (pe_op op_sub (pe_op op_sub (pe_ix ix_list (pv 3) pe_int (fun _ _ => rfl)) (pe_op op_mul (pv 4) (pe_op op_add (pe_op op_mul pe_int (pv 1)) pe_int))) (pe_op op_mul (pv 5) (pv 1))) pa_nil))))))))))), ?_⟩
    generalize hrr : reachOf rows = r at hu hr10
    refine q_asg (v := .int ((4 * r + 1 : Nat) : Int)) (ev_is (ev_op (ev_op ev_c (ev_fld (ev_var rfl) hu CC.cl (CC.no _ (by simp)) (calF_near _ _)) (rv_I (.inl ⟨by decide, by decide⟩))) ev_c rv_I0) (congrArg V.int (by omega))) fun H1 e1 => ?_
    refine q_asgR (er_three
      (eu_tup (ea_cons (ev_var rfl) (ea_cons (ev_is (ev_op (ev_op ev_c (ev_var rfl) (rv_I (.inl ⟨by decide, by decide⟩))) ev_c rv_I0) (show _ = V.int ((2 * (4 * r + 1) + 1 : Nat) : Int) from congrArg V.int (by omega))) ea_nil)) (by show 2 ≤ 100000; decide))
      (eu_tup (ea_cons (ev_var rfl) (ea_cons (ev_is (ev_op (ev_op ev_c (ev_var rfl) (rv_I (.inl ⟨by decide, by decide⟩))) ev_c rv_I0) (show _ = V.int ((3 * (4 * r + 1) + 1 : Nat) : Int) from congrArg V.int (by omega))) ea_nil)) (by show 2 ≤ 100000; decide))
      (eu_tup (ea_cons (ev_is (ev_op (ev_var rfl) ev_c rv_I0) (show _ = V.int ((4 * r + 1 + 1 : Nat) : Int) from congrArg V.int (by omega))) (ea_cons (ev_is (ev_op (ev_op ev_c (ev_var rfl) (rv_I (.inl ⟨by decide, by decide⟩))) ev_c rv_I0) (show _ = V.int ((2 * (4 * r + 1) + 3 : Nat) : Int) from congrArg V.int (by omega))) ea_nil)) (by show 2 ≤ 100000; decide))) fun L H2 hL e2 ⟨a1, a2, a3, hL2, h1, h2, h3⟩ => ?_
    obtain ⟨a, b, f1, f2, f3⟩ := form_ok hfit hrr
    have m1 : (4 * r + 1) * (2 * (4 * r + 1) + 1) ≤ 41 * 83 := Nat.mul_le_mul (by omega) (by omega)
    have m2 : (4 * r + 1) * (3 * (4 * r + 1) + 1) ≤ 41 * 124 := Nat.mul_le_mul (by omega) (by omega)
    have m3 : (4 * r + 1 + 1) * (2 * (4 * r + 1) + 3) ≤ 42 * 85 := Nat.mul_le_mul (by omega) (by omega)
    have r3 : 3 ≤ r := by rw [← hrr]; unfold reachOf; omega
    have O1 : LandOk (4 * r + 1) (2 * (4 * r + 1) + 1) := ⟨by omega, by omega, by omega, by omega⟩
    have O2 : LandOk (4 * r + 1) (3 * (4 * r + 1) + 1) := ⟨by omega, by omega, by omega, by omega⟩
    have O3 : LandOk (4 * r + 1 + 1) (2 * (4 * r + 1) + 3) := ⟨by omega, by omega, by omega, by omega⟩
    have l1 : lenN rows (4 * r + 1) (2 * (4 * r + 1) + 1) ≤ 10000 := Nat.le_trans (daysN_len _ _) O1.n5
    have l2 : lenN rows (4 * r + 1) (3 * (4 * r + 1) + 1) ≤ 10000 := Nat.le_trans (daysN_len _ _) O2.n5
    have l3 : lenN rows (4 * r + 1 + 1) (2 * (4 * r + 1) + 3) ≤ 10000 := Nat.le_trans (daysN_len _ _) O3.n5
    have cnt : ∀ {lp : Addr} {w m : Nat} {H3 : Hp} {σ3 : L2.St}, Ex H2 H3 → H2 lp = some (.tup [.int (w : Int), .int (m : Int)]) → LandOk w m → σ3[0]? = some (some (.ref cu)) → σ3[6]? = some (some (.ref lp)) →
        Ev (tCB (rLenS K) (tCons (tCall spListed [] E0 (tCons (tCall (spDays K C_Feast) [] E0 (tCons (tFld K (tVar 0) "rows") (tCons (tVar 6) tNil))) tNil)) tNil)) σ3 H3 (.int ((lenN rows w m : Nat) : Int)) := fun {lp w m H3 σ3} e3 hlp hO h0 h6 => by
      have E3 := (e1.trans e2).trans e3
      refine ev_is (ev_lenN (el_call (ea_cons (ev_call (ea_cons (ev_fld (ev_var h0) (E3 _ _ hu) CC.cl (CC.no _ (by simp)) (calF_rows _ _)) (ea_cons (ev_var h6) ea_nil)) (spv_days (hru.mono E3) hd (st_of (e3 _ _ hlp)) hO)) ea_nil) (spL fun H4 _ Q _ q => ⟨_, _, rfl, by have := hO.n5; omega, q⟩))) ?_
      rw [List.length_map]
      rfl
    refine q_asgL (el_is (el_tupN (fun _ => true) (fun i => .int (([lenN rows (4 * r + 1) (2 * (4 * r + 1) + 1), lenN rows (4 * r + 1) (3 * (4 * r + 1) + 1), lenN rows (4 * r + 1 + 1) (2 * (4 * r + 1) + 3)].getD i 0 : Nat) : Int)) (ev_var rfl) (st_of hL2) (by show 3 ≤ 40000; decide) (fun _ => rfl) (fun _ _ _ _ _ => et_yes) fun i x H3 e3 hx _ => ?_)
      (show _ = [V.int ((lenN rows (4 * r + 1) (2 * (4 * r + 1) + 1) : Nat) : Int), V.int ((lenN rows (4 * r + 1) (3 * (4 * r + 1) + 1) : Nat) : Int), V.int ((lenN rows (4 * r + 1 + 1) (2 * (4 * r + 1) + 3) : Nat) : Int)] from rfl)) fun C H3 hC e3 hC3 => ?_
    · match i, hx with
      | 0, hx => cases hx; exact cnt e3 h1 O1 rfl rfl
      | 1, hx => cases hx; exact cnt e3 h2 O2 rfl rfl
      | 2, hx => cases hx; exact cnt e3 h3 O3 rfl rfl
      | n + 3, hx => simp at hx
    · generalize lenN rows (4 * r + 1) (2 * (4 * r + 1) + 1) = c0 at *
      generalize lenN rows (4 * r + 1) (3 * (4 * r + 1) + 1) = c1 at *
      generalize lenN rows (4 * r + 1 + 1) (2 * (4 * r + 1) + 3) = c2 at *
      have hq : ((c1 : Int) - (c0 : Int)) / ((4 * r + 1 : Nat) : Int) = a := by
        rw [f1]
        exact Int.mul_ediv_cancel_left _ (by omega)
      have ha : a.natAbs ≤ 10000 := by
        have z1 : -10000 ≤ ((4 * r + 1 : Nat) : Int) * a := by omega
        have z2 : ((4 * r + 1 : Nat) : Int) * a ≤ 10000 := by omega
        rcases Int.lt_trichotomy a 0 with q | q | q
        · have : ((4 * r + 1 : Nat) : Int) * a ≤ 1 * a := Int.mul_le_mul_of_nonpos_right (by omega) (by omega)
          omega
        · omega
        · have : 1 * a ≤ ((4 * r + 1 : Nat) : Int) * a := Int.mul_le_mul_of_nonneg_right (by omega) (by omega)
          omega
      refine q_asg (v := .int a) (ev_is (ev_op (ev_op (ev_op (ev_var rfl) ev_c (rv_ixL (i := 1) (sq_of hC3) rfl)) (ev_op (ev_var rfl) ev_c (rv_ixL (i := 0) (sq_of hC3) rfl)) rv_I0) (ev_var rfl) (rv_I ⟨by omega, by omega⟩)) (congrArg V.int hq)) fun H4 e4 => ?_
      refine q_asg (v := .int b) (ev_is (ev_op (ev_op (ev_op (ev_var rfl) ev_c (rv_ixL (i := 2) (sq_of (e4 _ _ hC3)) rfl)) (ev_op (ev_var rfl) ev_c (rv_ixL (i := 0) (sq_of (e4 _ _ hC3)) rfl)) rv_I0) (ev_op ev_c (ev_var rfl) (rv_I (.inl ⟨by decide, by decide⟩))) rv_I0) (congrArg V.int f2)) fun H5 e5 => ?_
      have hC5 := (e4.trans e5) _ _ hC3
      refine s_retU (eu_tup (vs := [.int a, .int b, .int ((c0 : Int) - a * (2 * ((4 * r + 1 : Nat) : Int) + 1) - b * ((4 * r + 1 : Nat) : Int))]) (ea_cons (ev_var rfl) (ea_cons (ev_var rfl) (ea_cons (ev_op (ev_op (ev_op (ev_var rfl) ev_c (rv_ixL (i := 0) (sq_of hC5) rfl)) (ev_op (ev_var rfl) (ev_op (ev_op ev_c (ev_var rfl) (rv_I (.inl ⟨by decide, by decide⟩))) ev_c rv_I0) (rv_I (.inl ⟨by omega, by omega⟩))) rv_I0) (ev_op (ev_var rfl) (ev_var rfl) (rv_I (.inl ⟨by omega, by omega⟩))) rv_I0) ea_nil))) (by show 3 ≤ 100000; decide)) fun t H6 ht e6 h6 => ?_
      have EE := (((e1.trans e2).trans e3).trans (e4.trans e5))
      exact k t a b _ H6 f3 ha (by omega) (fresh_back EE ht) (EE.trans e6) h6
theorem dn_form (T : Txt w K mg C_BadRule C_BadRules C_Feast C_Calendar) (CF : Cls1 K C_Feast ["told", "bys"]) (CC : Cls1 K C_Calendar ["rows", "near"]) : Dn P w K mg base CX0 "form" 8 ["calendar"] (spForm K C_Feast C_Calendar) := T.f_form.dn fun _ _ F _ _ => ok_form F T CF CC
end
end WF

set_option Elab.async false
set_option linter.all false
set_option maxRecDepth 100000
set_option maxHeartbeats 2000000
/-! the law itself -/
namespace WF
open PySem L2 Evl
section
variable {K : PySem.W.Frag} {σ : L2.St} {H : Hp} {D : Ends} {tz : TS}
theorem q_lowB {ta td tb : TE} {i low : Nat} {d : Addr} {xs : List V} {n : Int} {E : XK} (h : Ev ta σ H (.int ((low : Nat) : Int))) (h0 : Ev td σ H (.ref d)) (hl : Ev tb σ H (.int n)) (hd : H d = some (.lst xs)) (hg : Good xs) (h1 : 1 ≤ n) (h2 : n < 1073741824)
    (k : ∀ (r : Nat) xs' H', (r : Int) < n → Good xs' → ExB d H H' → H' d = some (.lst xs') → tz D (σ.set i (some (.int ((low + r : Nat) : Int)))) H') :
    tSeq (tAsg (tOp (rI0 fun i j => .int (i + j)) ta (tCall spBelow [] E (tCons td (tCons tb tNil)))) (gName i)) tz D σ H :=
  h H (Ex.refl H) _ fun H1 e1 => h0 H1 e1 _ fun H2 e2 => hl H2 (e1.trans e2) _ fun H3 e3 => ⟨d, xs, n, rfl, ((e1.trans e2).trans e3) _ _ hd, hg, h1, h2, fun r xs' H' hr hg' eb hd' => ⟨_, _, rfl, rfl, by
    have := k r xs' H' hr hg' (fun b o hb q => eb b o hb (((e1.trans e2).trans e3) b o q)) hd'
    rw [Int.natCast_add] at this
    exact this⟩⟩
end
section
variable {P : Program} {w : World} {K : PySem.W.Frag} {mg : Str → Option Value} {base : Heap} {C_BadRule C_BadRules C_Feast C_Calendar : Addr} {f : Addr} {fd : FuncData}
def spLaw (K : PySem.W.Frag) : Sp := fun vs H Q _ => ∃ (a : Addr) (ns : List Int), vs = [.ref a] ∧ SqL K H a (ns.map V.int) ∧ ns.length ≤ 63 ∧ ∀ H', Q (.bl true) H'
theorem ok_law (F : Fun K "law" "law" s_law f fd) (T : Txt w K mg C_BadRule C_BadRules C_Feast C_Calendar) (CF : Cls1 K C_Feast ["told", "bys"]) (IF : ClsI K C_Feast) (CC : Cls1 K C_Calendar ["rows", "near"]) : FnOk P w K mg base CX0 13 f fd ["_law_script"] (spLaw K) := by
  have D_l_random : Dn P w K mg base CX0 "_law_random" 1 ["_law_script", "_law_salt"] (spRandom K) := dn_random T
  have D_l_below : Dn P w K mg base CX0 "_law_below" 1 ["_law_d", "_law_size"] spBelow := dn_below T
  have D_l_rows : Dn P w K mg base CX0 "_law_rows" 10 ["_law_d", "_law_many", "_law_parts"] (spRows K) := dn_rows T
  have D_l_made : Dn P w K mg base CX0 "_law_made" 12 ["_law_rows_here"] (spMade K C_Feast C_Calendar) := dn_made T CF IF CC
  have D_l_reach : Dn P w K mg base CX0 "_law_reach" 7 ["_law_rows_here"] (spReach K) := dn_reach T
  have D_l_part : Dn P w K mg base CX0 "_law_part" 1 ["_law_one", "_law_other"] sp_l_part := dn_l_part T
  have D_l_all : Dn P w K mg base CX0 "_law_all" 7 ["_law_rows_here", "_law_land"] (spAll K) := dn_lall T
  have D_form : Dn P w K mg base CX0 "form" 8 ["calendar"] (spForm K C_Feast C_Calendar) := dn_form T CF CC
  refine F.ok sc_law (fun vs H Q E h => ?_) (fun cdv A outer s H vs Q E hr h => ?_)
  · obtain ⟨_, _, rfl, _⟩ := h
    rfl
  · obtain ⟨a, ns, rfl, hA, hn, k⟩ := h
    have hr1 : Room 1 _ := hr.mono (by omega)
    have hu := hu_of hr1
    refine ⟨_, (pss_cons (ps_set (i := 1) sc_law.nd rfl (by first | exact Or.inl rfl | exact Or.inr rfl) (pe_fn D_l_random (hr.mono (by omega)) pass0 rfl (pa_cons (pv 0) (pa_cons pe_int pa_nil))))
  (pss_cons (ps_set (i := 2) sc_law.nd rfl (by first | exact Or.inl rfl | exact Or.inr rfl) (pe_fn D_l_rows (hr.mono (by omega)) pass0 rfl (pa_cons (pv 1) (pa_cons (pe_fn D_l_below (hr.mono (by omega)) pass0 rfl (pa_cons (pv 1) (pa_cons pe_int pa_nil))) (pa_cons pe_int pa_nil)))))
  (pss_cons (ps_set (i := 3) sc_law.nd rfl (by first | exact Or.inl rfl | exact Or.inr rfl) (pe_fn D_form (hr.mono (by omega)) pass0 rfl (pa_cons (pe_fn D_l_made (hr.mono (by omega)) pass0 rfl (pa_cons (pv 2) pa_nil)) pa_nil)))
  (pss_cons (ps_if (PW.pt (pw_or (pt_not (pt_val (pe_callB call_isi (by rfl) T.isinstance (by decide +kernel) (pa_cons (pv 3) (pa_cons (pe_bltn (v := .ty "tuple") (by rfl) T.tuple (by decide +kernel) rfl) pa_nil))))) (pw_or (pt_cmpR op_ne (pe_callB call_len_seq (by rfl) T.len (by decide +kernel) (pa_cons (pv 3) pa_nil)) pe_int (nomark _)) (pw_or1 (pt_not (pt_val (pe_callB (cr_all rfl) (by rfl) T.all (by decide +kernel) (pa_cons (pe_lc (own := [("_law_one", 11)]) (g := gName 11) (tt := tYes) rfl sc_law.nd (pi_tup (pv 3)) (blkOk_by (own := [("_law_one", 11)]) (N := ["_law_script", "_law_d", "_law_rows_here", "_law_told", "_law_a", "_law_b", "_law_c", "_law_low", "_law_k", "_law_w", "_law_more", "_law_one"]) (sc := defScope s_law) (by decide +kernel)) (fun _ _ _ _ _ => (pg_name (i := 11) sc_law.nd rfl (by first | exact Or.inl rfl | exact Or.inr rfl))) (fun _ _ _ _ _ => pts_nil) (fun _ _ _ _ _ => (pe_callB (call_isiK1 (K := K)) (by rfl) T.isinstance (by decide +kernel) (pa_cons (pv 11) (pa_cons (pe_bltn (v := .ty "int") (by rfl) T.int (by decide +kernel) rfl) pa_nil))))) pa_nil)))))))) (pss_one (ps_ret pe_bl))
  pss_nil)
  (pss_cons (ps_asg (pv 3) (pg_tup rfl (pgs_cons (pg_name (i := 4) sc_law.nd rfl (by first | exact Or.inl rfl | exact Or.inr rfl)) (pgs_cons (pg_name (i := 5) sc_law.nd rfl (by first | exact Or.inl rfl | exact Or.inr rfl)) (pgs_cons (pg_name (i := 6) sc_law.nd rfl (by first | exact Or.inl rfl | exact Or.inr rfl)) pgs_nil)))))
  (pss_cons (ps_set (i := 7) sc_law.nd rfl (by first | exact Or.inl rfl | exact Or.inr rfl) (pe_op op_add (pe_op op_mul pe_int (pe_fn D_l_reach (hr.mono (by omega)) pass0 rfl (pa_cons (pv 2) pa_nil))) pe_int))
  (pss_cons (ps_for PassesOwn.never rfl (pi_range1 (by rfl) T.range (pa_cons pe_int pa_nil)) (pg_name (i := 8) sc_law.nd rfl (by first | exact Or.inl rfl | exact Or.inr rfl))
  (pss_cons (ps_set (i := 9) sc_law.nd rfl (by first | exact Or.inl rfl | exact Or.inr rfl) (pe_op op_add (pv 7) (pe_fn D_l_below (hr.mono (by omega)) pass0 rfl (pa_cons (pv 1) (pa_cons pe_int pa_nil)))))
  (pss_cons (ps_set (i := 10) sc_law.nd rfl (by first | exact Or.inl rfl | exact Or.inr rfl) (pe_op op_add (pv 7) (pe_fn D_l_below (hr.mono (by omega)) pass0 rfl (pa_cons (pv 1) (pa_cons pe_int pa_nil)))))
  (pss_cons (ps_while PassesOwn.never (pt_cmpR op_ne (pe_fn D_l_part (hr.mono (by omega)) pass0 rfl (pa_cons (pv 9) (pa_cons (pv 10) pa_nil))) pe_int (nomark _))
  (pss_one (ps_set (i := 10) sc_law.nd rfl (by first | exact Or.inl rfl | exact Or.inr rfl) (pe_op op_add (pv 10) pe_int))))
  (pss_one (ps_if (pt_cmpR op_ne (pe_callB call_lenD (by rfl) T.len (by decide +kernel) (pa_cons (pe_fn D_l_all (hr.mono (by omega)) pass0 rfl (pa_cons (pv 2) (pa_cons (pe_tup (pa_cons (pv 9) (pa_cons (pe_op op_add (pv 9) (pv 10)) pa_nil))) pa_nil))) pa_nil)) (pe_op op_add (pe_op op_add (pe_op op_mul (pv 4) (pe_op op_add (pv 9) (pv 10))) (pe_op op_mul (pv 5) (pv 9))) (pv 6)) (nomark _)) (pss_one (ps_ret pe_bl))
  pss_nil))))))
  (pss_one (ps_ret pe_bl))))))))), ?_⟩
    refine q_call (ea_cons (ev_var rfl) (ea_cons ev_c ea_nil)) fun H1 e1 => ⟨a, ns, 606, rfl, ex_l e1 hA, hn, by decide, by decide, fun d H2 xs hg hd0 e2 hd => ?_⟩
    refine ⟨_, rfl, below_ev (ev_var rfl) ev_c hd hg (by decide) (by decide) fun many xs1 H3 hm hg1 eb1 hd1 => ⟨d, xs1, many, 5, rfl, hd1, hg1, by omega, by decide, by decide, fun R ys rows xs2 H4 hR0 hR hraw hlen hok hg2 eb2 hd2 => ?_⟩⟩
    have hRd : R ≠ d := (ne_of_none hd1 hR0).symm
    have hdep : depMax rows < 5 := hok.dep (by decide)
    have hl3 : rows.length ≤ 3 := by omega
    obtain ⟨q3, q10⟩ := reach_le hl3 hok.bys
    refine ⟨_, rfl, R, ys, rows, rfl, sq_of hR, hraw, hl3, hok, fun c H5 hc e5 hcal => ⟨.ref c, rows, rfl, hcal, hdep, q10, fun r hr => (hok.fit r hr).1, fun t a0 b0 c0 H6 hform hna hnb ht e6 h6 => ?_⟩⟩
    refine q_not (et_is (et_or (et_not (et_B (ev_isi (ev_var rfl) (ty_tup (st_of h6)) kit_tt))) fun _ => et_or (et_cmp (ev_lenT (ev_var rfl) (st_of h6)) ev_c (rv_ne rfl)) fun _ => et_not (et_B (ev_all (bs := [true, true, true]) (el_is (el_tupN (fun _ => true) (fun _ => .bl true) (ev_var rfl) (st_of h6) (by show 3 ≤ 40000; decide) (fun _ => rfl) (fun _ _ _ _ _ => et_yes) fun i x H7 e7 hx _ => ?_) rfl)))) rfl) fun H7 e7 => ?_
    · match i, hx with
      | 0, hx => cases hx; exact ev_isi (ev_var rfl) (ty_int _) kit_ii
      | 1, hx => cases hx; exact ev_isi (ev_var rfl) (ty_int _) kit_ii
      | 2, hx => cases hx; exact ev_isi (ev_var rfl) (ty_int _) kit_ii
      | n + 3, hx => simp at hx
    refine q_asgT3 (ev_var rfl) (st_of (e7 _ _ h6)) fun H8 e8 => ?_
    have E8 := ((e5.trans e6).trans e7).trans e8
    have hR8 := E8 _ _ hR
    have hd8 := E8 _ _ hd2
    have hraw8 := hraw.kn (KeepN.of E8)
    refine q_asg (v := .int ((2 * reachOf rows + 1 : Nat) : Int)) (ev_is (ev_op (ev_op ev_c (ev_call (ea_cons (ev_var rfl) ea_nil) (spV (z := .int ((reachOf rows : Nat) : Int)) fun H1 e Q _ q => ⟨_, _, _, rfl, sq_of (e _ _ hR8), hraw8.kn (KeepN.of e), by omega, hdep, q⟩)) (rv_I (.inl ⟨by decide, by decide⟩))) ev_c rv_I0) (congrArg V.int (by omega))) fun H9 e9 => ?_
    have hR9 := e9 _ _ hR8
    have hd9 := e9 _ _ hd8
    have hraw9 := hraw8.kn (KeepN.of e9)
    generalize hrr : reachOf rows = r at *
    refine q_forR1 (n := 4) (ea_cons ev_c ea_nil) ⟨by decide, by decide⟩ (fun _ σ' H' => ∃ xs' a8 a9 a10 a11, σ' = [some (.ref a), some (.ref d), some (.ref R), some (.ref t), some (.int a0), some (.int b0), some (.int c0), some (.int ((2 * r + 1 : Nat) : Int)), a8, a9, a10, a11] ∧ H' d = some (.lst xs') ∧ Good xs' ∧ ExB d H9 H')
      (fun H10 e10 => ⟨xs2, none, none, none, none, rfl, e10 _ _ hd9, hg2, ExB.of e10⟩) ?_ ?_
    · rintro i σ' H' hi ⟨xs', a8, a9, a10, a11, rfl, hd', hg', eb⟩
      refine q_lowB (ev_var rfl) (ev_var rfl) ev_c hd' hg' (by decide) (by decide) fun p xs3 H10 hp hg3 eb3 hd3 => ?_
      refine q_lowB (ev_var rfl) (ev_var rfl) ev_c hd3 hg3 (by decide) (by decide) fun q xs4 H11 hq hg4 eb4 hd4 => ?_
      have eb11 : ExB d H9 H11 := (eb.trans eb3).trans eb4
      generalize hw : 2 * r + 1 + p = lw
      generalize hv : 2 * r + 1 + q = lv
      obtain ⟨B, hB, hB1, hB2⟩ : ∃ B, Nat.gcd lw B = 1 ∧ lv ≤ B ∧ B ≤ lv + lw + 1 := by
        refine ⟨(lv / lw + 1) * lw + 1, ?_, ?_, ?_⟩
        · rw [Nat.gcd_comm]; exact gcd_k1 _ _
        · have := Nat.div_add_mod lv lw
          have := Nat.mod_lt lv (show 0 < lw by omega)
          rw [Nat.add_mul, Nat.mul_comm]; omega
        · have := Nat.div_add_mod lv lw
          rw [Nat.add_mul, Nat.mul_comm]; omega
      refine q_while (fun m σ2 H2 => ∃ v : Nat, σ2 = [some (.ref a), some (.ref d), some (.ref R), some (.ref t), some (.int a0), some (.int b0), some (.int c0), some (.int ((2 * r + 1 : Nat) : Int)), some (.int (i : Int)), some (.int (lw : Int)), some (.int (v : Int)), a11] ∧ lv ≤ v ∧ v + m = B ∧ Ex H11 H2) (B - lv) ⟨lv, rfl, Nat.le_refl _, by omega, Ex.refl _⟩ ?_
      rintro m σ2 H12 ⟨v, rfl, hv1, hv2, e12⟩
      refine ⟨!decide (V.int ((Nat.gcd lw v : Nat) : Int) = V.int 1), et_cmp (ev_call (ea_cons (ev_var rfl) (ea_cons (ev_var rfl) ea_nil)) (spV (z := .int ((Nat.gcd lw v : Nat) : Int)) fun H1 e Q _ q => ⟨_, _, rfl, q⟩)) ev_c (rv_ne rfl), fun hb H13 e13 => ?_, fun hb H13 e13 => ?_⟩
      · have hne : Nat.gcd lw v ≠ 1 := fun z => by
          rw [z] at hb
          simp at hb
        have hvB : v ≠ B := fun z => hne (z ▸ hB)
        refine ⟨fun σ2 H2 => σ2 = [some (.ref a), some (.ref d), some (.ref R), some (.ref t), some (.int a0), some (.int b0), some (.int c0), some (.int ((2 * r + 1 : Nat) : Int)), some (.int (i : Int)), some (.int (lw : Int)), some (.int ((v + 1 : Nat) : Int)), a11] ∧ Ex H11 H2, fun σ2 H2 ⟨h1, h2⟩ => ⟨m - 1, by omega, v + 1, h1, by omega, by omega, h2⟩, ?_⟩
        exact s_asg (v := .int ((v + 1 : Nat) : Int)) (ev_is (ev_op (ev_var rfl) ev_c rv_I0) (congrArg V.int (by omega))) fun H14 e14 => ⟨rfl, (e12.trans e13).trans e14⟩
      · have hg1 : Nat.gcd lw v = 1 := by
          simp only [Bool.not_eq_false', decide_eq_true_eq, V.int.injEq] at hb
          omega
        have hgm : Nat.gcd (lw + v) lw = 1 := by
          rw [Nat.gcd_comm, Nat.gcd_self_add_right]; exact hg1
        have E13 := e12.trans e13
        have eb13 := eb11.step E13
        have kn13 := eb13.kn hd9
        have hm1 : lw * (lw + v) ≤ 28 * 100 := Nat.mul_le_mul (by omega) (by omega)
        have hO : LandOk lw (lw + v) := ⟨by omega, by omega, by omega, by omega⟩
        have hcount : ((lenN rows lw (lw + v) : Nat) : Int) = a0 * ((lw + v : Nat) : Int) + b0 * ((lw : Nat) : Int) + c0 := hform lw (lw + v) (by omega) (by omega) hgm
        have hlenE : Ev (tCB (fun xs H Q => ∃ a kvs, xs = [V.ref a] ∧ H a = some (.dK kvs) ∧ Q (.int kvs.length) H) (tCons (tCall (spAll K) [] E0 (tCons (tVar 2) (tCons (tTup (tCons (tVar 9) (tCons (tOp (rI0 fun i j => .int (i + j)) (tVar 9) (tVar 10)) tNil))) tNil))) tNil)) [some (.ref a), some (.ref d), some (.ref R), some (.ref t), some (.int a0), some (.int b0), some (.int c0), some (.int ((2 * r + 1 : Nat) : Int)), some (.int (i : Int)), some (.int (lw : Int)), some (.int (v : Int)), a11] H13 (.int ((lenN rows lw (lw + v) : Nat) : Int)) := fun H14 e14 Q q =>
          ⟨_, rfl, (eu_tup (ea_cons (ev_var rfl) (ea_cons (ev_is (ev_op (ev_var rfl) (ev_var rfl) rv_I0) (show _ = V.int ((lw + v : Nat) : Int) from congrArg V.int (by omega))) ea_nil)) (by show 2 ≤ 100000; decide)) H14 (Ex.refl H14) _ fun lp H15 hlp e15 h15 => by
            have E15 := e14.trans e15
            refine ⟨R, lp, ys, rows, lw, lw + v, rfl, ex_l E15 (sql_but eb13 hRd (sq_of hR9)), (hraw9.kn kn13).kn (KeepN.of E15), hl3, hdep, st_of h15, hO, fun Du ds H16 hDu e16 h16 ok16 => ?_⟩
            refine ⟨Du, dk ds, rfl, h16, ?_⟩
            have hl : ((dk ds).length : Int) = ((lenN rows lw (lw + v) : Nat) : Int) := by
              unfold dk
              rw [List.length_map, ok16.len]
              rfl
            rw [hl]
            exact q H16 (e15.trans e16)⟩
        refine s_no (et_is (et_cmp hlenE (ev_op (ev_op (ev_op (ev_var rfl) (ev_op (ev_var rfl) (ev_var rfl) rv_I0) (rv_I (.inl ⟨by omega, by omega⟩))) (ev_op (ev_var rfl) (ev_var rfl) (rv_I (.inl ⟨by omega, by omega⟩))) rv_I0) (ev_var rfl) rv_I0) (rv_ne rfl)) (by
          rw [hcount, Int.natCast_add, decide_eq_true rfl]
          rfl)) fun H14 e14 => ?_
        exact ⟨xs4, _, _, _, _, rfl, (E13.trans e14) _ _ hd4, hg4, eb13.step e14⟩
    · rintro σ' H' ⟨xs', a8, a9, a10, a11, rfl, hd', hg', eb⟩
      exact s_ret (v := .bl true) ev_c fun H10 _ => k H10
theorem dn_law (T : Txt w K mg C_BadRule C_BadRules C_Feast C_Calendar) (CF : Cls1 K C_Feast ["told", "bys"]) (IF : ClsI K C_Feast) (CC : Cls1 K C_Calendar ["rows", "near"]) : Dn P w K mg base CX0 "law" 13 ["_law_script"] (spLaw K) := T.f_law.dn fun _ _ F _ _ => ok_law F T CF IF CC
end
end WF

set_option Elab.async false
set_option linter.all false
set_option maxRecDepth 100000
set_option maxHeartbeats 4000000
namespace WF
open PySem L2 Evl
theorem no5 {K : PySem.W.Frag} {d : Addr} (a : PySem.W.nsIn K d "behind" = some none) (b : PySem.W.nsIn K d "both" = some none) (c : PySem.W.nsIn K d "either" = some none) (e : PySem.W.nsIn K d "without" = some none) (f : PySem.W.nsIn K d "week" = some none) : ∀ z ∈ (["behind", "both", "either", "without", "week"] : List Str), PySem.W.nsIn K d z = some none := by
  intro z hz
  simp only [List.mem_cons, List.not_mem_nil, or_false] at hz
  rcases hz with rfl | rfl | rfl | rfl | rfl <;> assumption
open PySem.W in
theorem all_mk {l : PySem.W.OpenLaw} {w : World} {K : PySem.W.Frag} {h : Heap} {mg : Str → Option Value} {fa : Addr} (X : K.In h) (G : h.Ns mainGlobals mg) (hfa : mg "law" = some (.ref fa))
    {u_BYS d_ENDS u_W u_M u_PAIRS C_BadRule C_BadRules C_Feast C_Calendar f_is_in f_within f_size_of f_is_rule f_Feast_init f_Feast_eq f_Feast_and f_Feast_or f_Feast_sub f_Feast_moved f_is_pair f_Calendar_init f_Calendar_eq f_every f_turned f_figure_of f_days_of f_listed f_form f_l_random f_l_below f_l_pick f_l_leaf f_l_rule f_l_rows f_l_made f_l_bys f_l_reach f_l_part f_l_days f_l_all f_law : Addr}
    {oc_is_in kV_is_in dc_is_in pm_is_in cd_is_in ct_is_in oc_within kV_within dc_within pm_within cd_within ct_within oc_size_of kV_size_of dc_size_of pm_size_of cd_size_of ct_size_of oc_is_rule kV_is_rule dc_is_rule pm_is_rule cd_is_rule ct_is_rule oc_Feast_init kV_Feast_init dc_Feast_init pm_Feast_init cd_Feast_init ct_Feast_init oc_Feast_eq kV_Feast_eq dc_Feast_eq pm_Feast_eq cd_Feast_eq ct_Feast_eq oc_Feast_and kV_Feast_and dc_Feast_and pm_Feast_and cd_Feast_and ct_Feast_and oc_Feast_or kV_Feast_or dc_Feast_or pm_Feast_or cd_Feast_or ct_Feast_or oc_Feast_sub kV_Feast_sub dc_Feast_sub pm_Feast_sub cd_Feast_sub ct_Feast_sub oc_Feast_moved kV_Feast_moved dc_Feast_moved pm_Feast_moved cd_Feast_moved ct_Feast_moved oc_is_pair kV_is_pair dc_is_pair pm_is_pair cd_is_pair ct_is_pair oc_Calendar_init kV_Calendar_init dc_Calendar_init pm_Calendar_init cd_Calendar_init ct_Calendar_init oc_Calendar_eq kV_Calendar_eq dc_Calendar_eq pm_Calendar_eq cd_Calendar_eq ct_Calendar_eq oc_every kV_every dc_every pm_every cd_every ct_every oc_turned kV_turned dc_turned pm_turned cd_turned ct_turned oc_figure_of kV_figure_of dc_figure_of pm_figure_of cd_figure_of ct_figure_of oc_days_of kV_days_of dc_days_of pm_days_of cd_days_of ct_days_of oc_listed kV_listed dc_listed pm_listed cd_listed ct_listed oc_form kV_form dc_form pm_form cd_form ct_form oc_l_random kV_l_random dc_l_random pm_l_random cd_l_random ct_l_random oc_l_below kV_l_below dc_l_below pm_l_below cd_l_below ct_l_below oc_l_pick kV_l_pick dc_l_pick pm_l_pick cd_l_pick ct_l_pick oc_l_leaf kV_l_leaf dc_l_leaf pm_l_leaf cd_l_leaf ct_l_leaf oc_l_rule kV_l_rule dc_l_rule pm_l_rule cd_l_rule ct_l_rule oc_l_rows kV_l_rows dc_l_rows pm_l_rows cd_l_rows ct_l_rows oc_l_made kV_l_made dc_l_made pm_l_made cd_l_made ct_l_made oc_l_bys kV_l_bys dc_l_bys pm_l_bys cd_l_bys ct_l_bys oc_l_reach kV_l_reach dc_l_reach pm_l_reach cd_l_reach ct_l_reach oc_l_part kV_l_part dc_l_part pm_l_part cd_l_part ct_l_part oc_l_days kV_l_days dc_l_days pm_l_days cd_l_days ct_l_days oc_l_all kV_l_all dc_l_all pm_l_all cd_l_all ct_l_all oc_law kV_law dc_law pm_law cd_law ct_law : Value}
    {od_u_BYS od_u_W od_u_M od_u_PAIRS od_is_in an_is_in od_within an_within od_size_of an_size_of od_is_rule an_is_rule od_Feast_init an_Feast_init od_Feast_eq an_Feast_eq od_Feast_and an_Feast_and od_Feast_or an_Feast_or od_Feast_sub an_Feast_sub od_Feast_moved an_Feast_moved od_is_pair an_is_pair od_Calendar_init an_Calendar_init od_Calendar_eq an_Calendar_eq od_every an_every od_turned an_turned od_figure_of an_figure_of od_days_of an_days_of od_listed an_listed od_form an_form od_l_random an_l_random od_l_below an_l_below od_l_pick an_l_pick od_l_leaf an_l_leaf od_l_rule an_l_rule od_l_rows an_l_rows od_l_made an_l_made od_l_bys an_l_bys od_l_reach an_l_reach od_l_part an_l_part od_l_days an_l_days od_l_all an_l_all od_law an_law : Option Addr}
    {sl_u_BYS sl_u_W sl_u_M sl_u_PAIRS sl_is_in sl_within sl_size_of sl_is_rule sl_Feast_init sl_Feast_eq sl_Feast_and sl_Feast_or sl_Feast_sub sl_Feast_moved sl_is_pair sl_Calendar_init sl_Calendar_eq sl_every sl_turned sl_figure_of sl_days_of sl_listed sl_form sl_l_random sl_l_below sl_l_pick sl_l_leaf sl_l_rule sl_l_rows sl_l_made sl_l_bys sl_l_reach sl_l_part sl_l_days sl_l_all sl_law : Array (Option Value)}
    {t_u_BYS_0 t_u_BYS_1 t_u_BYS_2 t_u_BYS_3 t_u_W_0 t_u_W_1 t_u_W_2 t_u_W_3 t_u_M_0 t_u_M_1 t_u_M_2 t_u_M_3 t_u_M_4 t_u_M_5 t_u_PAIRS_0 t_u_PAIRS_1 t_u_PAIRS_2 t_MOST_PARTS t_MOST_BYS t_MOST_RULES t_LEAST_REACH : Tok}
    {nn_u_BYS nE nn_u_W nn_u_M nn_u_PAIRS : Nat}
    {es_ENDS : Array DictEntry}
    (z_len : PySem.W.nsIn K mainGlobals "len" = some none)
    (z_abs : PySem.W.nsIn K mainGlobals "abs" = some none)
    (z_sum : PySem.W.nsIn K mainGlobals "sum" = some none)
    (z_isinstance : PySem.W.nsIn K mainGlobals "isinstance" = some none)
    (z_all : PySem.W.nsIn K mainGlobals "all" = some none)
    (z_int : PySem.W.nsIn K mainGlobals "int" = some none)
    (z_str : PySem.W.nsIn K mainGlobals "str" = some none)
    (z_list : PySem.W.nsIn K mainGlobals "list" = some none)
    (z_tuple : PySem.W.nsIn K mainGlobals "tuple" = some none)
    (z_dict : PySem.W.nsIn K mainGlobals "dict" = some none)
    (z_bool : PySem.W.nsIn K mainGlobals "bool" = some none)
    (z_range : PySem.W.nsIn K mainGlobals "range" = some none)
    (z_enumerate : PySem.W.nsIn K mainGlobals "enumerate" = some none)
    (g_BYS : PySem.W.nsIn K mainGlobals "BYS" = some (some (.ref u_BYS)))
    (l_u_BYS : K.lookup u_BYS = some ⟨.type "tuple", od_u_BYS, .seq #[.int (-2) t_u_BYS_0, .int (-1) t_u_BYS_1, .int (1) t_u_BYS_2, .int (2) t_u_BYS_3] nn_u_BYS, sl_u_BYS⟩)
    (g_ENDS : PySem.W.nsIn K mainGlobals "ENDS" = some (some (.ref d_ENDS)))
    (l_ENDS : K.lookup d_ENDS = some ⟨.type "dict", none, .dict es_ENDS nE, #[]⟩)
    (e_ENDS : PySem.W.KeysLit w.params es_ENDS.toList)
    (w_ENDS : (d_ENDS == sysModules) = false)
    (x_weekday : PySem.W.nsIn K d_ENDS "weekday" = some (some (.ref u_W)))
    (x_first : PySem.W.nsIn K d_ENDS "first" = some (some (.ref u_W)))
    (x_monthday : PySem.W.nsIn K d_ENDS "monthday" = some (some (.ref u_M)))
    (x_behind : PySem.W.nsIn K d_ENDS "behind" = some none)
    (x_both : PySem.W.nsIn K d_ENDS "both" = some none)
    (x_either : PySem.W.nsIn K d_ENDS "either" = some none)
    (x_without : PySem.W.nsIn K d_ENDS "without" = some none)
    (x_week : PySem.W.nsIn K d_ENDS "week" = some none)
    (l_u_W : K.lookup u_W = some ⟨.type "tuple", od_u_W, .seq #[.int (-2) t_u_W_0, .int (-1) t_u_W_1, .int (0) t_u_W_2, .int (1) t_u_W_3] nn_u_W, sl_u_W⟩)
    (l_u_M : K.lookup u_M = some ⟨.type "tuple", od_u_M, .seq #[.int (-3) t_u_M_0, .int (-2) t_u_M_1, .int (-1) t_u_M_2, .int (0) t_u_M_3, .int (1) t_u_M_4, .int (2) t_u_M_5] nn_u_M, sl_u_M⟩)
    (g_PAIRS : PySem.W.nsIn K mainGlobals "PAIRS" = some (some (.ref u_PAIRS)))
    (l_u_PAIRS : K.lookup u_PAIRS = some ⟨.type "tuple", od_u_PAIRS, .seq #[.str "both" t_u_PAIRS_0, .str "either" t_u_PAIRS_1, .str "without" t_u_PAIRS_2] nn_u_PAIRS, sl_u_PAIRS⟩)
    (g_MOST_PARTS : PySem.W.nsIn K mainGlobals "MOST_PARTS" = some (some (.int 5 t_MOST_PARTS)))
    (g_MOST_BYS : PySem.W.nsIn K mainGlobals "MOST_BYS" = some (some (.int 4 t_MOST_BYS)))
    (g_MOST_RULES : PySem.W.nsIn K mainGlobals "MOST_RULES" = some (some (.int 3 t_MOST_RULES)))
    (g_LEAST_REACH : PySem.W.nsIn K mainGlobals "LEAST_REACH" = some (some (.int 3 t_LEAST_REACH)))
    (a_BadRule : PySem.W.nsIn K mainGlobals "BadRule" = some (some (.ref C_BadRule)))
    (x_BadRule : PySem.W.excIn K C_BadRule [.type "ValueError", .type "Exception", .type "BaseException", .type "object"] "ValueError.__new__" = true)
    (k_BadRule : PySem.W.keepIn K (.ref C_BadRule) = true)
    (b_BadRule : PySem.W.subIn K (.ref C_BadRule) (.type "BaseException") = some true)
    (t_BadRule : PySem.W.typeIn K (.ref C_BadRule) = some (.type "type"))
    (i_BadRule : PySem.W.isClsIn K C_BadRule = true)
    (s_BadRule : PySem.W.subIn K (.ref C_BadRule) (.ref C_BadRule) = some true)
    (a_BadRules : PySem.W.nsIn K mainGlobals "BadRules" = some (some (.ref C_BadRules)))
    (a_Feast : PySem.W.nsIn K mainGlobals "Feast" = some (some (.ref C_Feast)))
    (a_Calendar : PySem.W.nsIn K mainGlobals "Calendar" = some (some (.ref C_Calendar)))
    (a_is_in : PySem.W.nsIn K mainGlobals "is_in" = some (some (.ref f_is_in)))
    (l_is_in : K.lookup f_is_in = some ⟨oc_is_in, od_is_in, .func (PySem.W.fnOf "is_in" "is_in" (defArgs s_is_in) (defBody s_is_in) (defScope s_is_in) .none kV_is_in dc_is_in pm_is_in an_is_in cd_is_in ct_is_in), sl_is_in⟩)
    (c_is_in : PySem.W.codeIn K cd_is_in "is_in" = true)
    (k_is_in : PySem.W.keepIn K (.ref f_is_in) = true)
    (a_within : PySem.W.nsIn K mainGlobals "within" = some (some (.ref f_within)))
    (l_within : K.lookup f_within = some ⟨oc_within, od_within, .func (PySem.W.fnOf "within" "within" (defArgs s_within) (defBody s_within) (defScope s_within) .none kV_within dc_within pm_within an_within cd_within ct_within), sl_within⟩)
    (c_within : PySem.W.codeIn K cd_within "within" = true)
    (k_within : PySem.W.keepIn K (.ref f_within) = true)
    (a_size_of : PySem.W.nsIn K mainGlobals "size_of" = some (some (.ref f_size_of)))
    (l_size_of : K.lookup f_size_of = some ⟨oc_size_of, od_size_of, .func (PySem.W.fnOf "size_of" "size_of" (defArgs s_size_of) (defBody s_size_of) (defScope s_size_of) .none kV_size_of dc_size_of pm_size_of an_size_of cd_size_of ct_size_of), sl_size_of⟩)
    (c_size_of : PySem.W.codeIn K cd_size_of "size_of" = true)
    (k_size_of : PySem.W.keepIn K (.ref f_size_of) = true)
    (a_is_rule : PySem.W.nsIn K mainGlobals "is_rule" = some (some (.ref f_is_rule)))
    (l_is_rule : K.lookup f_is_rule = some ⟨oc_is_rule, od_is_rule, .func (PySem.W.fnOf "is_rule" "is_rule" (defArgs s_is_rule) (defBody s_is_rule) (defScope s_is_rule) .none kV_is_rule dc_is_rule pm_is_rule an_is_rule cd_is_rule ct_is_rule), sl_is_rule⟩)
    (c_is_rule : PySem.W.codeIn K cd_is_rule "is_rule" = true)
    (k_is_rule : PySem.W.keepIn K (.ref f_is_rule) = true)
    (pg_Feast : PySem.W.plainGet K C_Feast Str.empty = true)
    (hd_Feast : PySem.W.hasDictIn K C_Feast = true)
    (po_Feast : PySem.W.plainOver K C_Feast = true)
    (sa_Feast : PySem.W.findIn K (.ref C_Feast) "__setattr__" = some (some (.builtin "object.__setattr__")))
    (mk_Feast : PySem.W.makesIn K C_Feast = true)
    (kc_Feast : PySem.W.keepIn K (.ref C_Feast) = true)
    (n_Feast_told : PySem.W.findIn K (.ref C_Feast) "told" = some none)
    (n_Feast_bys : PySem.W.findIn K (.ref C_Feast) "bys" = some none)
    (a_Feast_init : PySem.W.findIn K (.ref C_Feast) "__init__" = some (some (.ref f_Feast_init)))
    (i_Feast_init : PySem.W.isFn K (.ref f_Feast_init) = true)
    (l_Feast_init : K.lookup f_Feast_init = some ⟨oc_Feast_init, od_Feast_init, .func (PySem.W.fnOf "__init__" "Feast.__init__" (defArgs s_Feast_init) (defBody s_Feast_init) (defScope s_Feast_init) .none kV_Feast_init dc_Feast_init pm_Feast_init an_Feast_init cd_Feast_init ct_Feast_init), sl_Feast_init⟩)
    (c_Feast_init : PySem.W.codeIn K cd_Feast_init "Feast.__init__" = true)
    (k_Feast_init : PySem.W.keepIn K (.ref f_Feast_init) = true)
    (a_Feast_eq : PySem.W.findIn K (.ref C_Feast) "__eq__" = some (some (.ref f_Feast_eq)))
    (i_Feast_eq : PySem.W.isFn K (.ref f_Feast_eq) = true)
    (l_Feast_eq : K.lookup f_Feast_eq = some ⟨oc_Feast_eq, od_Feast_eq, .func (PySem.W.fnOf "__eq__" "Feast.__eq__" (defArgs s_Feast_eq) (defBody s_Feast_eq) (defScope s_Feast_eq) .none kV_Feast_eq dc_Feast_eq pm_Feast_eq an_Feast_eq cd_Feast_eq ct_Feast_eq), sl_Feast_eq⟩)
    (c_Feast_eq : PySem.W.codeIn K cd_Feast_eq "Feast.__eq__" = true)
    (k_Feast_eq : PySem.W.keepIn K (.ref f_Feast_eq) = true)
    (a_Feast_and : PySem.W.findIn K (.ref C_Feast) "__and__" = some (some (.ref f_Feast_and)))
    (i_Feast_and : PySem.W.isFn K (.ref f_Feast_and) = true)
    (l_Feast_and : K.lookup f_Feast_and = some ⟨oc_Feast_and, od_Feast_and, .func (PySem.W.fnOf "__and__" "Feast.__and__" (defArgs s_Feast_and) (defBody s_Feast_and) (defScope s_Feast_and) .none kV_Feast_and dc_Feast_and pm_Feast_and an_Feast_and cd_Feast_and ct_Feast_and), sl_Feast_and⟩)
    (c_Feast_and : PySem.W.codeIn K cd_Feast_and "Feast.__and__" = true)
    (k_Feast_and : PySem.W.keepIn K (.ref f_Feast_and) = true)
    (a_Feast_or : PySem.W.findIn K (.ref C_Feast) "__or__" = some (some (.ref f_Feast_or)))
    (i_Feast_or : PySem.W.isFn K (.ref f_Feast_or) = true)
    (l_Feast_or : K.lookup f_Feast_or = some ⟨oc_Feast_or, od_Feast_or, .func (PySem.W.fnOf "__or__" "Feast.__or__" (defArgs s_Feast_or) (defBody s_Feast_or) (defScope s_Feast_or) .none kV_Feast_or dc_Feast_or pm_Feast_or an_Feast_or cd_Feast_or ct_Feast_or), sl_Feast_or⟩)
    (c_Feast_or : PySem.W.codeIn K cd_Feast_or "Feast.__or__" = true)
    (k_Feast_or : PySem.W.keepIn K (.ref f_Feast_or) = true)
    (a_Feast_sub : PySem.W.findIn K (.ref C_Feast) "__sub__" = some (some (.ref f_Feast_sub)))
    (i_Feast_sub : PySem.W.isFn K (.ref f_Feast_sub) = true)
    (l_Feast_sub : K.lookup f_Feast_sub = some ⟨oc_Feast_sub, od_Feast_sub, .func (PySem.W.fnOf "__sub__" "Feast.__sub__" (defArgs s_Feast_sub) (defBody s_Feast_sub) (defScope s_Feast_sub) .none kV_Feast_sub dc_Feast_sub pm_Feast_sub an_Feast_sub cd_Feast_sub ct_Feast_sub), sl_Feast_sub⟩)
    (c_Feast_sub : PySem.W.codeIn K cd_Feast_sub "Feast.__sub__" = true)
    (k_Feast_sub : PySem.W.keepIn K (.ref f_Feast_sub) = true)
    (a_Feast_moved : PySem.W.findIn K (.ref C_Feast) "moved" = some (some (.ref f_Feast_moved)))
    (i_Feast_moved : PySem.W.isFn K (.ref f_Feast_moved) = true)
    (l_Feast_moved : K.lookup f_Feast_moved = some ⟨oc_Feast_moved, od_Feast_moved, .func (PySem.W.fnOf "moved" "Feast.moved" (defArgs s_Feast_moved) (defBody s_Feast_moved) (defScope s_Feast_moved) .none kV_Feast_moved dc_Feast_moved pm_Feast_moved an_Feast_moved cd_Feast_moved ct_Feast_moved), sl_Feast_moved⟩)
    (c_Feast_moved : PySem.W.codeIn K cd_Feast_moved "Feast.moved" = true)
    (k_Feast_moved : PySem.W.keepIn K (.ref f_Feast_moved) = true)
    (a_is_pair : PySem.W.nsIn K mainGlobals "is_pair" = some (some (.ref f_is_pair)))
    (l_is_pair : K.lookup f_is_pair = some ⟨oc_is_pair, od_is_pair, .func (PySem.W.fnOf "is_pair" "is_pair" (defArgs s_is_pair) (defBody s_is_pair) (defScope s_is_pair) .none kV_is_pair dc_is_pair pm_is_pair an_is_pair cd_is_pair ct_is_pair), sl_is_pair⟩)
    (c_is_pair : PySem.W.codeIn K cd_is_pair "is_pair" = true)
    (k_is_pair : PySem.W.keepIn K (.ref f_is_pair) = true)
    (pg_Calendar : PySem.W.plainGet K C_Calendar Str.empty = true)
    (hd_Calendar : PySem.W.hasDictIn K C_Calendar = true)
    (po_Calendar : PySem.W.plainOver K C_Calendar = true)
    (sa_Calendar : PySem.W.findIn K (.ref C_Calendar) "__setattr__" = some (some (.builtin "object.__setattr__")))
    (mk_Calendar : PySem.W.makesIn K C_Calendar = true)
    (kc_Calendar : PySem.W.keepIn K (.ref C_Calendar) = true)
    (n_Calendar_rows : PySem.W.findIn K (.ref C_Calendar) "rows" = some none)
    (n_Calendar_near : PySem.W.findIn K (.ref C_Calendar) "near" = some none)
    (a_Calendar_init : PySem.W.findIn K (.ref C_Calendar) "__init__" = some (some (.ref f_Calendar_init)))
    (i_Calendar_init : PySem.W.isFn K (.ref f_Calendar_init) = true)
    (l_Calendar_init : K.lookup f_Calendar_init = some ⟨oc_Calendar_init, od_Calendar_init, .func (PySem.W.fnOf "__init__" "Calendar.__init__" (defArgs s_Calendar_init) (defBody s_Calendar_init) (defScope s_Calendar_init) .none kV_Calendar_init dc_Calendar_init pm_Calendar_init an_Calendar_init cd_Calendar_init ct_Calendar_init), sl_Calendar_init⟩)
    (c_Calendar_init : PySem.W.codeIn K cd_Calendar_init "Calendar.__init__" = true)
    (k_Calendar_init : PySem.W.keepIn K (.ref f_Calendar_init) = true)
    (a_Calendar_eq : PySem.W.findIn K (.ref C_Calendar) "__eq__" = some (some (.ref f_Calendar_eq)))
    (i_Calendar_eq : PySem.W.isFn K (.ref f_Calendar_eq) = true)
    (l_Calendar_eq : K.lookup f_Calendar_eq = some ⟨oc_Calendar_eq, od_Calendar_eq, .func (PySem.W.fnOf "__eq__" "Calendar.__eq__" (defArgs s_Calendar_eq) (defBody s_Calendar_eq) (defScope s_Calendar_eq) .none kV_Calendar_eq dc_Calendar_eq pm_Calendar_eq an_Calendar_eq cd_Calendar_eq ct_Calendar_eq), sl_Calendar_eq⟩)
    (c_Calendar_eq : PySem.W.codeIn K cd_Calendar_eq "Calendar.__eq__" = true)
    (k_Calendar_eq : PySem.W.keepIn K (.ref f_Calendar_eq) = true)
    (a_every : PySem.W.nsIn K mainGlobals "every" = some (some (.ref f_every)))
    (l_every : K.lookup f_every = some ⟨oc_every, od_every, .func (PySem.W.fnOf "every" "every" (defArgs s_every) (defBody s_every) (defScope s_every) .none kV_every dc_every pm_every an_every cd_every ct_every), sl_every⟩)
    (c_every : PySem.W.codeIn K cd_every "every" = true)
    (k_every : PySem.W.keepIn K (.ref f_every) = true)
    (a_turned : PySem.W.nsIn K mainGlobals "turned" = some (some (.ref f_turned)))
    (l_turned : K.lookup f_turned = some ⟨oc_turned, od_turned, .func (PySem.W.fnOf "turned" "turned" (defArgs s_turned) (defBody s_turned) (defScope s_turned) .none kV_turned dc_turned pm_turned an_turned cd_turned ct_turned), sl_turned⟩)
    (c_turned : PySem.W.codeIn K cd_turned "turned" = true)
    (k_turned : PySem.W.keepIn K (.ref f_turned) = true)
    (a_figure_of : PySem.W.nsIn K mainGlobals "figure_of" = some (some (.ref f_figure_of)))
    (l_figure_of : K.lookup f_figure_of = some ⟨oc_figure_of, od_figure_of, .func (PySem.W.fnOf "figure_of" "figure_of" (defArgs s_figure_of) (defBody s_figure_of) (defScope s_figure_of) .none kV_figure_of dc_figure_of pm_figure_of an_figure_of cd_figure_of ct_figure_of), sl_figure_of⟩)
    (c_figure_of : PySem.W.codeIn K cd_figure_of "figure_of" = true)
    (k_figure_of : PySem.W.keepIn K (.ref f_figure_of) = true)
    (a_days_of : PySem.W.nsIn K mainGlobals "days_of" = some (some (.ref f_days_of)))
    (l_days_of : K.lookup f_days_of = some ⟨oc_days_of, od_days_of, .func (PySem.W.fnOf "days_of" "days_of" (defArgs s_days_of) (defBody s_days_of) (defScope s_days_of) .none kV_days_of dc_days_of pm_days_of an_days_of cd_days_of ct_days_of), sl_days_of⟩)
    (c_days_of : PySem.W.codeIn K cd_days_of "days_of" = true)
    (k_days_of : PySem.W.keepIn K (.ref f_days_of) = true)
    (a_listed : PySem.W.nsIn K mainGlobals "listed" = some (some (.ref f_listed)))
    (l_listed : K.lookup f_listed = some ⟨oc_listed, od_listed, .func (PySem.W.fnOf "listed" "listed" (defArgs s_listed) (defBody s_listed) (defScope s_listed) .none kV_listed dc_listed pm_listed an_listed cd_listed ct_listed), sl_listed⟩)
    (c_listed : PySem.W.codeIn K cd_listed "listed" = true)
    (k_listed : PySem.W.keepIn K (.ref f_listed) = true)
    (a_form : PySem.W.nsIn K mainGlobals "form" = some (some (.ref f_form)))
    (l_form : K.lookup f_form = some ⟨oc_form, od_form, .func (PySem.W.fnOf "form" "form" (defArgs s_form) (defBody s_form) (defScope s_form) .none kV_form dc_form pm_form an_form cd_form ct_form), sl_form⟩)
    (c_form : PySem.W.codeIn K cd_form "form" = true)
    (k_form : PySem.W.keepIn K (.ref f_form) = true)
    (a_l_random : PySem.W.nsIn K mainGlobals "_law_random" = some (some (.ref f_l_random)))
    (l_l_random : K.lookup f_l_random = some ⟨oc_l_random, od_l_random, .func (PySem.W.fnOf "_law_random" "_law_random" (defArgs s_l_random) (defBody s_l_random) (defScope s_l_random) .none kV_l_random dc_l_random pm_l_random an_l_random cd_l_random ct_l_random), sl_l_random⟩)
    (c_l_random : PySem.W.codeIn K cd_l_random "_law_random" = true)
    (k_l_random : PySem.W.keepIn K (.ref f_l_random) = true)
    (a_l_below : PySem.W.nsIn K mainGlobals "_law_below" = some (some (.ref f_l_below)))
    (l_l_below : K.lookup f_l_below = some ⟨oc_l_below, od_l_below, .func (PySem.W.fnOf "_law_below" "_law_below" (defArgs s_l_below) (defBody s_l_below) (defScope s_l_below) .none kV_l_below dc_l_below pm_l_below an_l_below cd_l_below ct_l_below), sl_l_below⟩)
    (c_l_below : PySem.W.codeIn K cd_l_below "_law_below" = true)
    (k_l_below : PySem.W.keepIn K (.ref f_l_below) = true)
    (a_l_pick : PySem.W.nsIn K mainGlobals "_law_pick" = some (some (.ref f_l_pick)))
    (l_l_pick : K.lookup f_l_pick = some ⟨oc_l_pick, od_l_pick, .func (PySem.W.fnOf "_law_pick" "_law_pick" (defArgs s_l_pick) (defBody s_l_pick) (defScope s_l_pick) .none kV_l_pick dc_l_pick pm_l_pick an_l_pick cd_l_pick ct_l_pick), sl_l_pick⟩)
    (c_l_pick : PySem.W.codeIn K cd_l_pick "_law_pick" = true)
    (k_l_pick : PySem.W.keepIn K (.ref f_l_pick) = true)
    (a_l_leaf : PySem.W.nsIn K mainGlobals "_law_leaf" = some (some (.ref f_l_leaf)))
    (l_l_leaf : K.lookup f_l_leaf = some ⟨oc_l_leaf, od_l_leaf, .func (PySem.W.fnOf "_law_leaf" "_law_leaf" (defArgs s_l_leaf) (defBody s_l_leaf) (defScope s_l_leaf) .none kV_l_leaf dc_l_leaf pm_l_leaf an_l_leaf cd_l_leaf ct_l_leaf), sl_l_leaf⟩)
    (c_l_leaf : PySem.W.codeIn K cd_l_leaf "_law_leaf" = true)
    (k_l_leaf : PySem.W.keepIn K (.ref f_l_leaf) = true)
    (a_l_rule : PySem.W.nsIn K mainGlobals "_law_rule" = some (some (.ref f_l_rule)))
    (l_l_rule : K.lookup f_l_rule = some ⟨oc_l_rule, od_l_rule, .func (PySem.W.fnOf "_law_rule" "_law_rule" (defArgs s_l_rule) (defBody s_l_rule) (defScope s_l_rule) .none kV_l_rule dc_l_rule pm_l_rule an_l_rule cd_l_rule ct_l_rule), sl_l_rule⟩)
    (c_l_rule : PySem.W.codeIn K cd_l_rule "_law_rule" = true)
    (k_l_rule : PySem.W.keepIn K (.ref f_l_rule) = true)
    (a_l_rows : PySem.W.nsIn K mainGlobals "_law_rows" = some (some (.ref f_l_rows)))
    (l_l_rows : K.lookup f_l_rows = some ⟨oc_l_rows, od_l_rows, .func (PySem.W.fnOf "_law_rows" "_law_rows" (defArgs s_l_rows) (defBody s_l_rows) (defScope s_l_rows) .none kV_l_rows dc_l_rows pm_l_rows an_l_rows cd_l_rows ct_l_rows), sl_l_rows⟩)
    (c_l_rows : PySem.W.codeIn K cd_l_rows "_law_rows" = true)
    (k_l_rows : PySem.W.keepIn K (.ref f_l_rows) = true)
    (a_l_made : PySem.W.nsIn K mainGlobals "_law_made" = some (some (.ref f_l_made)))
    (l_l_made : K.lookup f_l_made = some ⟨oc_l_made, od_l_made, .func (PySem.W.fnOf "_law_made" "_law_made" (defArgs s_l_made) (defBody s_l_made) (defScope s_l_made) .none kV_l_made dc_l_made pm_l_made an_l_made cd_l_made ct_l_made), sl_l_made⟩)
    (c_l_made : PySem.W.codeIn K cd_l_made "_law_made" = true)
    (k_l_made : PySem.W.keepIn K (.ref f_l_made) = true)
    (a_l_bys : PySem.W.nsIn K mainGlobals "_law_bys" = some (some (.ref f_l_bys)))
    (l_l_bys : K.lookup f_l_bys = some ⟨oc_l_bys, od_l_bys, .func (PySem.W.fnOf "_law_bys" "_law_bys" (defArgs s_l_bys) (defBody s_l_bys) (defScope s_l_bys) .none kV_l_bys dc_l_bys pm_l_bys an_l_bys cd_l_bys ct_l_bys), sl_l_bys⟩)
    (c_l_bys : PySem.W.codeIn K cd_l_bys "_law_bys" = true)
    (k_l_bys : PySem.W.keepIn K (.ref f_l_bys) = true)
    (a_l_reach : PySem.W.nsIn K mainGlobals "_law_reach" = some (some (.ref f_l_reach)))
    (l_l_reach : K.lookup f_l_reach = some ⟨oc_l_reach, od_l_reach, .func (PySem.W.fnOf "_law_reach" "_law_reach" (defArgs s_l_reach) (defBody s_l_reach) (defScope s_l_reach) .none kV_l_reach dc_l_reach pm_l_reach an_l_reach cd_l_reach ct_l_reach), sl_l_reach⟩)
    (c_l_reach : PySem.W.codeIn K cd_l_reach "_law_reach" = true)
    (k_l_reach : PySem.W.keepIn K (.ref f_l_reach) = true)
    (a_l_part : PySem.W.nsIn K mainGlobals "_law_part" = some (some (.ref f_l_part)))
    (l_l_part : K.lookup f_l_part = some ⟨oc_l_part, od_l_part, .func (PySem.W.fnOf "_law_part" "_law_part" (defArgs s_l_part) (defBody s_l_part) (defScope s_l_part) .none kV_l_part dc_l_part pm_l_part an_l_part cd_l_part ct_l_part), sl_l_part⟩)
    (c_l_part : PySem.W.codeIn K cd_l_part "_law_part" = true)
    (k_l_part : PySem.W.keepIn K (.ref f_l_part) = true)
    (a_l_days : PySem.W.nsIn K mainGlobals "_law_days" = some (some (.ref f_l_days)))
    (l_l_days : K.lookup f_l_days = some ⟨oc_l_days, od_l_days, .func (PySem.W.fnOf "_law_days" "_law_days" (defArgs s_l_days) (defBody s_l_days) (defScope s_l_days) .none kV_l_days dc_l_days pm_l_days an_l_days cd_l_days ct_l_days), sl_l_days⟩)
    (c_l_days : PySem.W.codeIn K cd_l_days "_law_days" = true)
    (k_l_days : PySem.W.keepIn K (.ref f_l_days) = true)
    (a_l_all : PySem.W.nsIn K mainGlobals "_law_all" = some (some (.ref f_l_all)))
    (l_l_all : K.lookup f_l_all = some ⟨oc_l_all, od_l_all, .func (PySem.W.fnOf "_law_all" "_law_all" (defArgs s_l_all) (defBody s_l_all) (defScope s_l_all) .none kV_l_all dc_l_all pm_l_all an_l_all cd_l_all ct_l_all), sl_l_all⟩)
    (c_l_all : PySem.W.codeIn K cd_l_all "_law_all" = true)
    (k_l_all : PySem.W.keepIn K (.ref f_l_all) = true)
    (a_law : PySem.W.nsIn K mainGlobals "law" = some (some (.ref f_law)))
    (l_law : K.lookup f_law = some ⟨oc_law, od_law, .func (PySem.W.fnOf "law" "law" (defArgs s_law) (defBody s_law) (defScope s_law) .none kV_law dc_law pm_law an_law cd_law ct_law), sl_law⟩)
    (c_law : PySem.W.codeIn K cd_law "law" = true)
    (k_law : PySem.W.keepIn K (.ref f_law) = true)
    (ha : PySem.W.findIn K (.ref C_Feast) "__class__" = some (some (.builtin "object.__class__")))
    (hn : PySem.W.specialIn K (.builtin "object.__class__") "__get__" = some (some (.builtin "getset_descriptor.__get__")))
    (htk : PySem.W.takesIn K (.builtin "object.__class__") = some true)
    (hm : PySem.W.mroIn K C_Feast (.type "object") = some true)
    : ∃ fd : FuncData, (∀ (s : Shared) (v : Value), BindsTo s fd ⟨[v], []⟩ [("_law_script", v)]) ∧ ∀ base : Heap, K.In base → base.Ns mainGlobals mg → FnOk l.prog w K mg base CX0 13 fa fd ["_law_script"] (spLaw K) := by
  have e := hfa.symm.trans (PySem.W.mg_of X G a_law)
  cases e
  have T : Txt w K mg C_BadRule C_BadRules C_Feast C_Calendar := by
    constructor
    · exact mg_none_of X G z_len
    · exact mg_none_of X G z_abs
    · exact mg_none_of X G z_sum
    · exact mg_none_of X G z_isinstance
    · exact mg_none_of X G z_all
    · exact mg_none_of X G z_int
    · exact mg_none_of X G z_str
    · exact mg_none_of X G z_list
    · exact mg_none_of X G z_tuple
    · exact mg_none_of X G z_dict
    · exact mg_none_of X G z_bool
    · exact mg_none_of X G z_range
    · exact mg_none_of X G z_enumerate
    · exact ⟨_, mg_of X G g_BYS, fun H => .inr ⟨_, _, _, l_u_BYS, rfl, rfl, by show 4 ≤ sizeLine; decide, (.cons ⟨t_u_BYS_0, rfl⟩ (.cons ⟨t_u_BYS_1, rfl⟩ (.cons ⟨t_u_BYS_2, rfl⟩ (.cons ⟨t_u_BYS_3, rfl⟩ .nil))))⟩⟩
    · exact ⟨_, _, _, mg_of X G g_ENDS, ⟨⟨_, _, l_ENDS, e_ENDS, w_ENDS⟩, x_weekday, x_first, x_monthday, no5 x_behind x_both x_either x_without x_week, fun H => .inr ⟨_, _, _, l_u_W, rfl, rfl, by show 4 ≤ sizeLine; decide, (.cons ⟨t_u_W_0, rfl⟩ (.cons ⟨t_u_W_1, rfl⟩ (.cons ⟨t_u_W_2, rfl⟩ (.cons ⟨t_u_W_3, rfl⟩ .nil))))⟩, fun H => .inr ⟨_, _, _, l_u_M, rfl, rfl, by show 6 ≤ sizeLine; decide, (.cons ⟨t_u_M_0, rfl⟩ (.cons ⟨t_u_M_1, rfl⟩ (.cons ⟨t_u_M_2, rfl⟩ (.cons ⟨t_u_M_3, rfl⟩ (.cons ⟨t_u_M_4, rfl⟩ (.cons ⟨t_u_M_5, rfl⟩ .nil))))))⟩⟩⟩
    · exact ⟨_, mg_of X G g_PAIRS, fun H => .inr ⟨_, _, _, l_u_PAIRS, rfl, rfl, by show 3 ≤ sizeLine; decide, (.cons ⟨t_u_PAIRS_0, rfl⟩ (.cons ⟨t_u_PAIRS_1, rfl⟩ (.cons ⟨t_u_PAIRS_2, rfl⟩ .nil)))⟩⟩
    · exact ⟨_, mg_of X G g_MOST_PARTS, t_MOST_PARTS, rfl⟩
    · exact ⟨_, mg_of X G g_MOST_BYS, t_MOST_BYS, rfl⟩
    · exact ⟨_, mg_of X G g_MOST_RULES, t_MOST_RULES, rfl⟩
    · exact ⟨_, mg_of X G g_LEAST_REACH, t_LEAST_REACH, rfl⟩
    · exact mg_of X G a_BadRule
    · exact ⟨x_BadRule, k_BadRule, b_BadRule, t_BadRule, i_BadRule, s_BadRule⟩
    · exact mg_of X G a_BadRules
    · exact mg_of X G a_Feast
    · exact mg_of X G a_Calendar
    · exact ⟨⟨_, _, mg_of X G a_is_in, fun_mk (st := s_is_in) l_is_in c_is_in k_is_in, (fun_mk (st := s_is_in) l_is_in c_is_in k_is_in).binds fun _ _ _ _ _ _ us hl => match us, hl with | [_, _], _ => rfl⟩⟩
    · exact ⟨⟨_, _, mg_of X G a_within, fun_mk (st := s_within) l_within c_within k_within, (fun_mk (st := s_within) l_within c_within k_within).binds fun _ _ _ _ _ _ us hl => match us, hl with | [_], _ => rfl⟩⟩
    · exact ⟨⟨_, _, mg_of X G a_size_of, fun_mk (st := s_size_of) l_size_of c_size_of k_size_of, (fun_mk (st := s_size_of) l_size_of c_size_of k_size_of).binds fun _ _ _ _ _ _ us hl => match us, hl with | [_, _], _ => rfl⟩⟩
    · exact ⟨⟨_, _, mg_of X G a_is_rule, fun_mk (st := s_is_rule) l_is_rule c_is_rule k_is_rule, (fun_mk (st := s_is_rule) l_is_rule c_is_rule k_is_rule).binds fun _ _ _ _ _ _ us hl => match us, hl with | [_], _ => rfl⟩⟩
    · exact ⟨⟨_, _, ⟨mk_Feast, a_Feast_init, i_Feast_init, kc_Feast⟩, fun_mk (st := s_Feast_init) l_Feast_init c_Feast_init k_Feast_init, (fun_mk (st := s_Feast_init) l_Feast_init c_Feast_init k_Feast_init).binds fun _ _ _ _ _ _ us hl => match us, hl with | [_, _], _ => rfl⟩⟩
    · exact ⟨⟨_, _, ⟨a_Feast_eq, i_Feast_eq, k_Feast_eq⟩, fun_mk (st := s_Feast_eq) l_Feast_eq c_Feast_eq k_Feast_eq, (fun_mk (st := s_Feast_eq) l_Feast_eq c_Feast_eq k_Feast_eq).binds fun _ _ _ _ _ _ us hl => match us, hl with | [_, _], _ => rfl⟩⟩
    · exact ⟨⟨_, _, ⟨a_Feast_and, i_Feast_and, k_Feast_and⟩, fun_mk (st := s_Feast_and) l_Feast_and c_Feast_and k_Feast_and, (fun_mk (st := s_Feast_and) l_Feast_and c_Feast_and k_Feast_and).binds fun _ _ _ _ _ _ us hl => match us, hl with | [_, _], _ => rfl⟩⟩
    · exact ⟨⟨_, _, ⟨a_Feast_or, i_Feast_or, k_Feast_or⟩, fun_mk (st := s_Feast_or) l_Feast_or c_Feast_or k_Feast_or, (fun_mk (st := s_Feast_or) l_Feast_or c_Feast_or k_Feast_or).binds fun _ _ _ _ _ _ us hl => match us, hl with | [_, _], _ => rfl⟩⟩
    · exact ⟨⟨_, _, ⟨a_Feast_sub, i_Feast_sub, k_Feast_sub⟩, fun_mk (st := s_Feast_sub) l_Feast_sub c_Feast_sub k_Feast_sub, (fun_mk (st := s_Feast_sub) l_Feast_sub c_Feast_sub k_Feast_sub).binds fun _ _ _ _ _ _ us hl => match us, hl with | [_, _], _ => rfl⟩⟩
    · exact ⟨⟨_, _, ⟨a_Feast_moved, i_Feast_moved, k_Feast_moved⟩, fun_mk (st := s_Feast_moved) l_Feast_moved c_Feast_moved k_Feast_moved, (fun_mk (st := s_Feast_moved) l_Feast_moved c_Feast_moved k_Feast_moved).binds fun _ _ _ _ _ _ us hl => match us, hl with | [_, _], _ => rfl⟩⟩
    · exact ⟨⟨_, _, mg_of X G a_is_pair, fun_mk (st := s_is_pair) l_is_pair c_is_pair k_is_pair, (fun_mk (st := s_is_pair) l_is_pair c_is_pair k_is_pair).binds fun _ _ _ _ _ _ us hl => match us, hl with | [_], _ => rfl⟩⟩
    · exact ⟨⟨_, _, ⟨mk_Calendar, a_Calendar_init, i_Calendar_init, kc_Calendar⟩, fun_mk (st := s_Calendar_init) l_Calendar_init c_Calendar_init k_Calendar_init, (fun_mk (st := s_Calendar_init) l_Calendar_init c_Calendar_init k_Calendar_init).binds fun _ _ _ _ _ _ us hl => match us, hl with | [_, _], _ => rfl⟩⟩
    · exact ⟨⟨_, _, ⟨a_Calendar_eq, i_Calendar_eq, k_Calendar_eq⟩, fun_mk (st := s_Calendar_eq) l_Calendar_eq c_Calendar_eq k_Calendar_eq, (fun_mk (st := s_Calendar_eq) l_Calendar_eq c_Calendar_eq k_Calendar_eq).binds fun _ _ _ _ _ _ us hl => match us, hl with | [_, _], _ => rfl⟩⟩
    · exact ⟨⟨_, _, mg_of X G a_every, fun_mk (st := s_every) l_every c_every k_every, (fun_mk (st := s_every) l_every c_every k_every).binds fun _ _ _ _ _ _ us hl => match us, hl with | [_, _, _], _ => rfl⟩⟩
    · exact ⟨⟨_, _, mg_of X G a_turned, fun_mk (st := s_turned) l_turned c_turned k_turned, (fun_mk (st := s_turned) l_turned c_turned k_turned).binds fun _ _ _ _ _ _ us hl => match us, hl with | [_, _, _], _ => rfl⟩⟩
    · exact ⟨⟨_, _, mg_of X G a_figure_of, fun_mk (st := s_figure_of) l_figure_of c_figure_of k_figure_of, (fun_mk (st := s_figure_of) l_figure_of c_figure_of k_figure_of).binds fun _ _ _ _ _ _ us hl => match us, hl with | [_, _], _ => rfl⟩⟩
    · exact ⟨⟨_, _, mg_of X G a_days_of, fun_mk (st := s_days_of) l_days_of c_days_of k_days_of, (fun_mk (st := s_days_of) l_days_of c_days_of k_days_of).binds fun _ _ _ _ _ _ us hl => match us, hl with | [_, _], _ => rfl⟩⟩
    · exact ⟨⟨_, _, mg_of X G a_listed, fun_mk (st := s_listed) l_listed c_listed k_listed, (fun_mk (st := s_listed) l_listed c_listed k_listed).binds fun _ _ _ _ _ _ us hl => match us, hl with | [_], _ => rfl⟩⟩
    · exact ⟨⟨_, _, mg_of X G a_form, fun_mk (st := s_form) l_form c_form k_form, (fun_mk (st := s_form) l_form c_form k_form).binds fun _ _ _ _ _ _ us hl => match us, hl with | [_], _ => rfl⟩⟩
    · exact ⟨⟨_, _, mg_of X G a_l_random, fun_mk (st := s_l_random) l_l_random c_l_random k_l_random, (fun_mk (st := s_l_random) l_l_random c_l_random k_l_random).binds fun _ _ _ _ _ _ us hl => match us, hl with | [_, _], _ => rfl⟩⟩
    · exact ⟨⟨_, _, mg_of X G a_l_below, fun_mk (st := s_l_below) l_l_below c_l_below k_l_below, (fun_mk (st := s_l_below) l_l_below c_l_below k_l_below).binds fun _ _ _ _ _ _ us hl => match us, hl with | [_, _], _ => rfl⟩⟩
    · exact ⟨⟨_, _, mg_of X G a_l_pick, fun_mk (st := s_l_pick) l_l_pick c_l_pick k_l_pick, (fun_mk (st := s_l_pick) l_l_pick c_l_pick k_l_pick).binds fun _ _ _ _ _ _ us hl => match us, hl with | [_, _], _ => rfl⟩⟩
    · exact ⟨⟨_, _, mg_of X G a_l_leaf, fun_mk (st := s_l_leaf) l_l_leaf c_l_leaf k_l_leaf, (fun_mk (st := s_l_leaf) l_l_leaf c_l_leaf k_l_leaf).binds fun _ _ _ _ _ _ us hl => match us, hl with | [_], _ => rfl⟩⟩
    · exact ⟨⟨_, _, mg_of X G a_l_rule, fun_mk (st := s_l_rule) l_l_rule c_l_rule k_l_rule, (fun_mk (st := s_l_rule) l_l_rule c_l_rule k_l_rule).binds fun _ _ _ _ _ _ us hl => match us, hl with | [_, _], _ => rfl⟩⟩
    · exact ⟨⟨_, _, mg_of X G a_l_rows, fun_mk (st := s_l_rows) l_l_rows c_l_rows k_l_rows, (fun_mk (st := s_l_rows) l_l_rows c_l_rows k_l_rows).binds fun _ _ _ _ _ _ us hl => match us, hl with | [_, _, _], _ => rfl⟩⟩
    · exact ⟨⟨_, _, mg_of X G a_l_made, fun_mk (st := s_l_made) l_l_made c_l_made k_l_made, (fun_mk (st := s_l_made) l_l_made c_l_made k_l_made).binds fun _ _ _ _ _ _ us hl => match us, hl with | [_], _ => rfl⟩⟩
    · exact ⟨⟨_, _, mg_of X G a_l_bys, fun_mk (st := s_l_bys) l_l_bys c_l_bys k_l_bys, (fun_mk (st := s_l_bys) l_l_bys c_l_bys k_l_bys).binds fun _ _ _ _ _ _ us hl => match us, hl with | [_], _ => rfl⟩⟩
    · exact ⟨⟨_, _, mg_of X G a_l_reach, fun_mk (st := s_l_reach) l_l_reach c_l_reach k_l_reach, (fun_mk (st := s_l_reach) l_l_reach c_l_reach k_l_reach).binds fun _ _ _ _ _ _ us hl => match us, hl with | [_], _ => rfl⟩⟩
    · exact ⟨⟨_, _, mg_of X G a_l_part, fun_mk (st := s_l_part) l_l_part c_l_part k_l_part, (fun_mk (st := s_l_part) l_l_part c_l_part k_l_part).binds fun _ _ _ _ _ _ us hl => match us, hl with | [_, _], _ => rfl⟩⟩
    · exact ⟨⟨_, _, mg_of X G a_l_days, fun_mk (st := s_l_days) l_l_days c_l_days k_l_days, (fun_mk (st := s_l_days) l_l_days c_l_days k_l_days).binds fun _ _ _ _ _ _ us hl => match us, hl with | [_, _], _ => rfl⟩⟩
    · exact ⟨⟨_, _, mg_of X G a_l_all, fun_mk (st := s_l_all) l_l_all c_l_all k_l_all, (fun_mk (st := s_l_all) l_l_all c_l_all k_l_all).binds fun _ _ _ _ _ _ us hl => match us, hl with | [_, _], _ => rfl⟩⟩
    · exact ⟨⟨_, _, mg_of X G a_law, fun_mk (st := s_law) l_law c_law k_law, (fun_mk (st := s_law) l_law c_law k_law).binds fun _ _ _ _ _ _ us hl => match us, hl with | [_], _ => rfl⟩⟩
  have K_Feast : Cls1 K C_Feast ["told", "bys"] := ⟨⟨pg_Feast, hd_Feast, po_Feast, sa_Feast⟩, fun x hx => by
    simp only [List.mem_cons, List.not_mem_nil, or_false] at hx
    rcases hx with rfl | rfl <;> assumption⟩
  have K_Calendar : Cls1 K C_Calendar ["rows", "near"] := ⟨⟨pg_Calendar, hd_Calendar, po_Calendar, sa_Calendar⟩, fun x hx => by
    simp only [List.mem_cons, List.not_mem_nil, or_false] at hx
    rcases hx with rfl | rfl <;> assumption⟩
  exact ⟨_, fun s v => .of_eq rfl, fun base _ _ => ok_law (fun_mk (st := s_law) l_law c_law k_law) T K_Feast ⟨K_Feast.cl, ha, hn, htk, hm⟩ K_Calendar⟩
theorem walk {l : PySem.W.OpenLaw} {q : Program} {loose : List Str} {XP : (Str → Option Value) → Heap → Prop} {YP : World → Heap → Prop} {d : DefRec} {K : Params → PySem.W.Frag} (hn : l.most = some 63) (hdf : d.params.defaults = [])
    (hY : ∀ (w : World) (h : Heap), YP w h → (K w.params).In h)
    (F : ∀ (w : World) (mg : Str → Option Value) (fa : Addr) (h : Heap), (K w.params).In h → h.Ns mainGlobals mg → mg d.name = some (.ref fa) →
      ∃ fd : FuncData, (∀ (s : Shared) (u : Value), BindsTo s fd ⟨[u], []⟩ [("_law_script", u)]) ∧ ∀ base : Heap, (K w.params).In base → base.Ns mainGlobals mg → FnOk l.prog w (K w.params) mg base CX0 13 fa fd ["_law_script"] (spLaw (K w.params))) :
    PySem.W.WalkO q loose XP YP l.row.toRowW d [] (fun f vs => PySem.call f vs) :=
  L2.walk_of (n := 63) (k := 13) (x := "_law_script") (CX := fun _ => CX0) (sp := fun w => spLaw (K w.params)) hn (by decide) hdf ⟨rfl, by decide, by decide⟩ hY F (fun _ _ a ns hl _ hS => ⟨a, ns, rfl, hS, hl, fun _ => rfl⟩) fun _ _ _ _ _ z => z
end WF
open PySem PySem.W PyProof.Rows in
set_option maxRecDepth 100000 in
set_option maxHeartbeats 0 in
theorem PySem.Challenge.cw_weekfeasts_k06_whole_forms_holds : PySem.Challenge.rw_weekfeasts_k06_whole_forms.Holds := by
  w_on; o_law; k_head; (case hw => w_witness2)
  k_fill
  refine WF.walk (l := PySem.Challenge.rw_weekfeasts_k06_whole_forms) rfl rfl (fun w h Y => PySem.W.kIn_of Y) ?F
  case F =>
    intro w mg fa h KX G hmg
    refine' WF.all_mk KX G hmg ?z_len ?z_abs ?z_sum ?z_isinstance ?z_all ?z_int ?z_str ?z_list ?z_tuple ?z_dict ?z_bool ?z_range ?z_enumerate ?g_BYS ?l_u_BYS ?g_ENDS ?l_ENDS ?e_ENDS ?w_ENDS ?x_weekday ?x_first ?x_monthday ?x_behind ?x_both ?x_either ?x_without ?x_week ?l_u_W ?l_u_M ?g_PAIRS ?l_u_PAIRS ?g_MOST_PARTS ?g_MOST_BYS ?g_MOST_RULES ?g_LEAST_REACH ?a_BadRule ?x_BadRule ?k_BadRule ?b_BadRule ?t_BadRule ?i_BadRule ?s_BadRule ?a_BadRules ?a_Feast ?a_Calendar ?a_is_in ?l_is_in ?c_is_in ?k_is_in ?a_within ?l_within ?c_within ?k_within ?a_size_of ?l_size_of ?c_size_of ?k_size_of ?a_is_rule ?l_is_rule ?c_is_rule ?k_is_rule ?pg_Feast ?hd_Feast ?po_Feast ?sa_Feast ?mk_Feast ?kc_Feast ?n_Feast_told ?n_Feast_bys ?a_Feast_init ?i_Feast_init ?l_Feast_init ?c_Feast_init ?k_Feast_init ?a_Feast_eq ?i_Feast_eq ?l_Feast_eq ?c_Feast_eq ?k_Feast_eq ?a_Feast_and ?i_Feast_and ?l_Feast_and ?c_Feast_and ?k_Feast_and ?a_Feast_or ?i_Feast_or ?l_Feast_or ?c_Feast_or ?k_Feast_or ?a_Feast_sub ?i_Feast_sub ?l_Feast_sub ?c_Feast_sub ?k_Feast_sub ?a_Feast_moved ?i_Feast_moved ?l_Feast_moved ?c_Feast_moved ?k_Feast_moved ?a_is_pair ?l_is_pair ?c_is_pair ?k_is_pair ?pg_Calendar ?hd_Calendar ?po_Calendar ?sa_Calendar ?mk_Calendar ?kc_Calendar ?n_Calendar_rows ?n_Calendar_near ?a_Calendar_init ?i_Calendar_init ?l_Calendar_init ?c_Calendar_init ?k_Calendar_init ?a_Calendar_eq ?i_Calendar_eq ?l_Calendar_eq ?c_Calendar_eq ?k_Calendar_eq ?a_every ?l_every ?c_every ?k_every ?a_turned ?l_turned ?c_turned ?k_turned ?a_figure_of ?l_figure_of ?c_figure_of ?k_figure_of ?a_days_of ?l_days_of ?c_days_of ?k_days_of ?a_listed ?l_listed ?c_listed ?k_listed ?a_form ?l_form ?c_form ?k_form ?a_l_random ?l_l_random ?c_l_random ?k_l_random ?a_l_below ?l_l_below ?c_l_below ?k_l_below ?a_l_pick ?l_l_pick ?c_l_pick ?k_l_pick ?a_l_leaf ?l_l_leaf ?c_l_leaf ?k_l_leaf ?a_l_rule ?l_l_rule ?c_l_rule ?k_l_rule ?a_l_rows ?l_l_rows ?c_l_rows ?k_l_rows ?a_l_made ?l_l_made ?c_l_made ?k_l_made ?a_l_bys ?l_l_bys ?c_l_bys ?k_l_bys ?a_l_reach ?l_l_reach ?c_l_reach ?k_l_reach ?a_l_part ?l_l_part ?c_l_part ?k_l_part ?a_l_days ?l_l_days ?c_l_days ?k_l_days ?a_l_all ?l_l_all ?c_l_all ?k_l_all ?a_law ?l_law ?c_law ?k_law ?ha ?hn ?htk ?hm
    (case z_len => k_is)
    (case z_abs => k_is)
    (case z_sum => k_is)
    (case z_isinstance => k_is)
    (case z_all => k_is)
    (case z_int => k_is)
    (case z_str => k_is)
    (case z_list => k_is)
    (case z_tuple => k_is)
    (case z_dict => k_is)
    (case z_bool => k_is)
    (case z_range => k_is)
    (case z_enumerate => k_is)
    (case g_BYS => k_is)
    (case l_u_BYS => k_is)
    (case g_ENDS => k_is)
    (case l_ENDS => k_is)
    (case e_ENDS => exact ⟨⟨_, _, rfl, rfl⟩, ⟨_, _, rfl, rfl⟩, ⟨_, _, rfl, rfl⟩, trivial⟩)
    (case w_ENDS => first | rfl | decide +kernel | k_is)
    (case x_weekday => k_is)
    (case x_first => k_is)
    (case x_monthday => k_is)
    (case x_behind => k_is)
    (case x_both => k_is)
    (case x_either => k_is)
    (case x_without => k_is)
    (case x_week => k_is)
    (case l_u_W => k_is)
    (case l_u_M => k_is)
    (case g_PAIRS => k_is)
    (case l_u_PAIRS => k_is)
    (case g_MOST_PARTS => k_is)
    (case g_MOST_BYS => k_is)
    (case g_MOST_RULES => k_is)
    (case g_LEAST_REACH => k_is)
    (case a_BadRule => k_is)
    (case x_BadRule => k_exc)
    (case k_BadRule => k_is)
    (case b_BadRule => k_is)
    (case t_BadRule => k_is)
    (case i_BadRule => k_is)
    (case s_BadRule => first | rfl | k_is)
    (case a_BadRules => k_is)
    (case a_Feast => k_is)
    (case a_Calendar => k_is)
    (case a_is_in => k_is)
    (case l_is_in => k_is)
    (case c_is_in => k_is)
    (case k_is_in => k_is)
    (case a_within => k_is)
    (case l_within => k_is)
    (case c_within => k_is)
    (case k_within => k_is)
    (case a_size_of => k_is)
    (case l_size_of => k_is)
    (case c_size_of => k_is)
    (case k_size_of => k_is)
    (case a_is_rule => k_is)
    (case l_is_rule => k_is)
    (case c_is_rule => k_is)
    (case k_is_rule => k_is)
    (case pg_Feast => k_is)
    (case hd_Feast => k_is)
    (case po_Feast => k_is)
    (case sa_Feast => k_is)
    (case mk_Feast => k_is)
    (case kc_Feast => k_is)
    (case n_Feast_told => k_is)
    (case n_Feast_bys => k_is)
    (case a_Feast_init => k_is)
    (case i_Feast_init => k_is)
    (case l_Feast_init => k_is)
    (case c_Feast_init => k_is)
    (case k_Feast_init => k_is)
    (case a_Feast_eq => k_is)
    (case i_Feast_eq => k_is)
    (case l_Feast_eq => k_is)
    (case c_Feast_eq => k_is)
    (case k_Feast_eq => k_is)
    (case a_Feast_and => k_is)
    (case i_Feast_and => k_is)
    (case l_Feast_and => k_is)
    (case c_Feast_and => k_is)
    (case k_Feast_and => k_is)
    (case a_Feast_or => k_is)
    (case i_Feast_or => k_is)
    (case l_Feast_or => k_is)
    (case c_Feast_or => k_is)
    (case k_Feast_or => k_is)
    (case a_Feast_sub => k_is)
    (case i_Feast_sub => k_is)
    (case l_Feast_sub => k_is)
    (case c_Feast_sub => k_is)
    (case k_Feast_sub => k_is)
    (case a_Feast_moved => k_is)
    (case i_Feast_moved => k_is)
    (case l_Feast_moved => k_is)
    (case c_Feast_moved => k_is)
    (case k_Feast_moved => k_is)
    (case a_is_pair => k_is)
    (case l_is_pair => k_is)
    (case c_is_pair => k_is)
    (case k_is_pair => k_is)
    (case pg_Calendar => k_is)
    (case hd_Calendar => k_is)
    (case po_Calendar => k_is)
    (case sa_Calendar => k_is)
    (case mk_Calendar => k_is)
    (case kc_Calendar => k_is)
    (case n_Calendar_rows => k_is)
    (case n_Calendar_near => k_is)
    (case a_Calendar_init => k_is)
    (case i_Calendar_init => k_is)
    (case l_Calendar_init => k_is)
    (case c_Calendar_init => k_is)
    (case k_Calendar_init => k_is)
    (case a_Calendar_eq => k_is)
    (case i_Calendar_eq => k_is)
    (case l_Calendar_eq => k_is)
    (case c_Calendar_eq => k_is)
    (case k_Calendar_eq => k_is)
    (case a_every => k_is)
    (case l_every => k_is)
    (case c_every => k_is)
    (case k_every => k_is)
    (case a_turned => k_is)
    (case l_turned => k_is)
    (case c_turned => k_is)
    (case k_turned => k_is)
    (case a_figure_of => k_is)
    (case l_figure_of => k_is)
    (case c_figure_of => k_is)
    (case k_figure_of => k_is)
    (case a_days_of => k_is)
    (case l_days_of => k_is)
    (case c_days_of => k_is)
    (case k_days_of => k_is)
    (case a_listed => k_is)
    (case l_listed => k_is)
    (case c_listed => k_is)
    (case k_listed => k_is)
    (case a_form => k_is)
    (case l_form => k_is)
    (case c_form => k_is)
    (case k_form => k_is)
    (case a_l_random => k_is)
    (case l_l_random => k_is)
    (case c_l_random => k_is)
    (case k_l_random => k_is)
    (case a_l_below => k_is)
    (case l_l_below => k_is)
    (case c_l_below => k_is)
    (case k_l_below => k_is)
    (case a_l_pick => k_is)
    (case l_l_pick => k_is)
    (case c_l_pick => k_is)
    (case k_l_pick => k_is)
    (case a_l_leaf => k_is)
    (case l_l_leaf => k_is)
    (case c_l_leaf => k_is)
    (case k_l_leaf => k_is)
    (case a_l_rule => k_is)
    (case l_l_rule => k_is)
    (case c_l_rule => k_is)
    (case k_l_rule => k_is)
    (case a_l_rows => k_is)
    (case l_l_rows => k_is)
    (case c_l_rows => k_is)
    (case k_l_rows => k_is)
    (case a_l_made => k_is)
    (case l_l_made => k_is)
    (case c_l_made => k_is)
    (case k_l_made => k_is)
    (case a_l_bys => k_is)
    (case l_l_bys => k_is)
    (case c_l_bys => k_is)
    (case k_l_bys => k_is)
    (case a_l_reach => k_is)
    (case l_l_reach => k_is)
    (case c_l_reach => k_is)
    (case k_l_reach => k_is)
    (case a_l_part => k_is)
    (case l_l_part => k_is)
    (case c_l_part => k_is)
    (case k_l_part => k_is)
    (case a_l_days => k_is)
    (case l_l_days => k_is)
    (case c_l_days => k_is)
    (case k_l_days => k_is)
    (case a_l_all => k_is)
    (case l_l_all => k_is)
    (case c_l_all => k_is)
    (case k_l_all => k_is)
    (case a_law => k_is)
    (case l_law => k_is)
    (case c_law => k_is)
    (case k_law => k_is)
    (case ha => k_is)
    (case hn => k_is)
    (case htk => k_is)
    (case hm => k_is)


