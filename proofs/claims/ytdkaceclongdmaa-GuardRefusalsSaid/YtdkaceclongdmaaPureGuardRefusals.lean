import Derived.Test.YtdkaceclongdmaaRGuR1
set_option linter.unusedVariables false
namespace Go.Proofs.RGuR
open Go Go.Eng

theorem below_spec (x n : Int) (h1 : 1 ≤ n) (h2 : n ≤ 4611686018427387904) : spymake_Below.F (x, n) = some (x % n) := by
  apply Y.is
  refine Y.of (spymake_Below.F_of _) (Y.nd (by omega) (Y.np' (by omega) (Y.ite (fun c => ?_) (fun c => ?_))))
  · refine Y.of (spymake_Below.D0_of _) (Y.some ?_)
    rw [tmod_neg_add h1 c]
    exact w64 (by have := Int.emod_nonneg x (b := n) (by omega); omega) (by have := Int.emod_lt_of_pos x (b := n) (by omega); omega)
  · exact Y.of (spymake_Below.D0_of _) (Y.some (tmod_of_nonneg h1 c))
theorem below_range (x n : Int) (h1 : 1 ≤ n) : 0 ≤ x % n ∧ x % n < n := ⟨Int.emod_nonneg x (by omega), Int.emod_lt_of_pos x (by omega)⟩
/-- Next gives a number below n, and counts. -/
theorem next_spec (L : List Int) (at_ n : Int) (ha : 0 ≤ at_) (hb : at_ ≤ 4611686018427387904) (h1 : 1 ≤ n) (h2 : n ≤ 4611686018427387904) :
    Y (spymake_Stream_Next.F (n, L, at_)) fun r => ∃ x, r = (x, L, at_ + 1) ∧ 0 ≤ x ∧ x < n := by
  refine Y.of (spymake_Stream_Next.F_of _) ?_
  dsimp only [spymake_Stream_Next.d]
  rw [w64 (x := at_ + 1) (by omega) (by omega), w64 (x := at_ + 1 - 1) (by omega) (by omega)]
  refine Y.ite (fun c => ?_) (fun c => ?_)
  · refine Y.bE (below_spec _ _ h1 h2) (Y.some ⟨_, rfl, below_range _ _ h1⟩)
  · rw [show at_ + 1 - 1 = at_ by omega]
    have e : Int.tmod at_ (L.length : Int) = at_ % (L.length : Int) := Int.tmod_eq_emod_of_nonneg ha
    have e1 := Int.emod_nonneg at_ (b := (L.length : Int)) c
    have e2 := Int.emod_lt_of_pos at_ (b := (L.length : Int)) (by omega)
    rw [e]
    refine Y.np' c (Y.np' c (Y.pd ⟨e1, e2⟩ (Y.bE (below_spec _ 1073741824 (by omega) (by omega)) (Y.bE (below_spec _ _ h1 h2) (Y.some ⟨_, rfl, below_range _ _ h1⟩)))))
theorem Y.next {β : Type} {f : spymake_Stream_Next.R → Option β} {Q : β → Prop} (L : List Int) (at_ n : Int) (ha : 0 ≤ at_) (hb : at_ ≤ 4611686018427387904) (h1 : 1 ≤ n) (h2 : n ≤ 4611686018427387904)
    (k : ∀ r, 0 ≤ r → r < n → Y (f (r, L, at_ + 1)) Q) : Y (bnd (spymake_Stream_Next.F (n, L, at_)) f) Q := by
  obtain ⟨r, hr, x, rfl, h3, h4⟩ := next_spec L at_ n ha hb h1 h2
  exact Y.bE hr (k x h3 h4)
end Go.Proofs.RGuR
namespace Go.Proofs.RGuR
open Go Go.Eng
/-- v, and what it takes to brake behind it: v + (v - a) + (v - 2a) + .. -/
def bk (a : Int) : Nat → Int → Int
  | 0, _ => 0
  | n + 1, v => if 0 < v then v + bk a n (v - a) else 0
/-- 0 + 1 + .. + (k - 1). -/
def tri : Nat → Int
  | 0 => 0
  | k + 1 => tri k + k
theorem tri_eq (k : Nat) : tri k = (k : Int) * ((k : Int) - 1) / 2 := by
  have h : 2 * tri k = (k : Int) * ((k : Int) - 1) := by
    induction k with
    | zero => rfl
    | succ k ih =>
      have : tri (k + 1) = tri k + k := rfl
      rw [this, Int.mul_add, ih]
      have : ((k + 1 : Nat) : Int) = (k : Int) + 1 := by omega
      rw [this]
      grind
  omega
theorem bk_nonneg (a : Int) (n : Nat) : ∀ v, 0 ≤ bk a n v := by
  induction n with
  | zero => intro v; exact Int.le_refl 0
  | succ n ih =>
    intro v
    have := ih (v - a)
    unfold bk
    split <;> omega
theorem bk_neg (a : Int) (n : Nat) (v : Int) (h : v ≤ 0) : bk a n v = 0 := by
  cases n with
  | zero => rfl
  | succ n =>
    unfold bk
    rw [if_neg (by omega)]
theorem bk_mono (a : Int) (n : Nat) : ∀ v u, v ≤ u → bk a n v ≤ bk a n u := by
  induction n with
  | zero => intro v u _; exact Int.le_refl 0
  | succ n ih =>
    intro v u h
    have h1 := ih (v - a) (u - a) (by omega)
    have h2 := bk_nonneg a n (u - a)
    unfold bk
    split <;> split <;> omega
theorem bk_strict (a : Int) (n : Nat) (v u : Int) (h0 : 0 ≤ v) (h : v < u) : bk a (n + 1) v + (u - v) ≤ bk a (n + 1) u := by
  have h1 := bk_mono a n (v - a) (u - a) (by omega)
  have h2 := bk_nonneg a n (u - a)
  unfold bk
  split <;> split <;> omega
/-- More terms than there are change nothing. -/
theorem bk_more (a : Int) (n : Nat) : ∀ v, v ≤ n * a → bk a (n + 1) v = bk a n v := by
  induction n with
  | zero =>
    intro v h
    rw [bk_neg a 1 v (by omega), bk_neg a 0 v (by omega)]
  | succ n ih =>
    intro v h
    have e : ((n + 1 : Nat) : Int) * a = n * a + a := by
      have : ((n + 1 : Nat) : Int) = (n : Int) + 1 := by omega
      rw [this, Int.add_mul]
      omega
    have := ih (v - a) (by omega)
    show (if 0 < v then v + bk a (n + 1) (v - a) else 0) = (if 0 < v then v + bk a n (v - a) else 0)
    rw [this]
/-- What it takes to stop: v + (v - a) + .. -/
def brk (a v : Int) : Int := bk a 70 v
theorem brk_nonneg (a v : Int) : 0 ≤ brk a v := bk_nonneg a 70 v
theorem brk_neg (a v : Int) (h : v ≤ 0) : brk a v = 0 := bk_neg a 70 v h
theorem brk_mono (a v u : Int) (h : v ≤ u) : brk a v ≤ brk a u := bk_mono a 70 v u h
theorem brk_strict (a v u : Int) (h0 : 0 ≤ v) (h : v < u) : brk a v + (u - v) ≤ brk a u := bk_strict a 69 v u h0 h
theorem brk_step (a v : Int) (h : 0 < v) (h2 : v ≤ 70 * a) : brk a v = v + brk a (v - a) := by
  have h1 : bk a 70 v = v + bk a 69 (v - a) := by
    show (if 0 < v then v + bk a 69 (v - a) else 0) = _
    rw [if_pos h]
  have h3 := bk_more a 69 (v - a) (by omega)
  unfold brk
  rw [h1, ← h3]
theorem brk_ge (a v : Int) : v ≤ brk a v := by
  have h1 : bk a 70 v = if 0 < v then v + bk a 69 (v - a) else 0 := rfl
  have := bk_nonneg a 69 (v - a)
  unfold brk
  rw [h1]
  split <;> omega
/-- Of v between (k - 1) a and k a it takes k steps. -/
theorem bk_eq (a : Int) (n : Nat) : ∀ (k : Nat) (v : Int), k ≤ n → ((k : Int) - 1) * a ≤ v → v ≤ k * a → 0 ≤ v → bk a n v = k * v - a * tri k := by
  induction n with
  | zero =>
    intro k v hk h1 h2 h0
    have : k = 0 := by omega
    subst this
    show (0 : Int) = ((0 : Nat) : Int) * v - a * 0
    simp
  | succ n ih =>
    intro k v hk h1 h2 h0
    cases k with
    | zero =>
      have : v ≤ 0 := by simpa using h2
      rw [bk_neg a (n + 1) v this]
      show (0 : Int) = ((0 : Nat) : Int) * v - a * 0
      simp
    | succ k =>
      have e : ((k + 1 : Nat) : Int) = (k : Int) + 1 := by omega
      rw [e] at h1 h2 ⊢
      have e1 : ((k : Int) + 1 - 1) * a = k * a := by rw [show (k : Int) + 1 - 1 = k by omega]
      have e2 : ((k : Int) + 1) * a = k * a + a := by rw [Int.add_mul]; omega
      have et : tri (k + 1) = tri k + k := rfl
      rw [e1] at h1
      rw [e2] at h2
      by_cases c : 0 < v
      · have e3 : bk a (n + 1) v = v + bk a n (v - a) := by
          show (if 0 < v then v + bk a n (v - a) else 0) = _
          rw [if_pos c]
        by_cases c2 : 0 ≤ v - a
        · have := ih k (v - a) (by omega) (by rw [Int.sub_mul]; omega) (by omega) c2
          rw [e3, this, et]
          grind
        · rw [e3, bk_neg a n (v - a) (by omega)]
          -- v < a: one step
          cases k with
          | zero =>
            show v + 0 = ((0 : Nat) + 1 : Int) * v - a * (tri 0 + (0 : Nat))
            have : tri 0 = 0 := rfl
            rw [this]
            simp
          | succ k =>
            have e4 : ((k + 1 : Nat) : Int) = (k : Int) + 1 := by omega
            rw [e4, Int.add_mul] at h1
            have : 0 ≤ (k : Int) * a := by
              by_cases ha : 0 ≤ a
              · exact Int.mul_nonneg (by omega) ha
              · omega
            omega
      · have hv : v = 0 := by omega
        subst hv
        rw [bk_neg a (n + 1) 0 (by omega), et]
        -- k a ≤ 0
        cases k with
        | zero => simp [show tri 0 = 0 from rfl]
        | succ k =>
          have e4 : ((k + 1 : Nat) : Int) = (k : Int) + 1 := by omega
          rw [e4, Int.add_mul] at h1 h2
          have ha : a = 0 := by
            by_cases ha : 0 ≤ a
            · have : 0 ≤ (k : Int) * a := Int.mul_nonneg (by omega) ha
              omega
            · have : (k : Int) * a ≤ 0 := Int.mul_nonpos_of_nonneg_of_nonpos (by omega) (by omega)
              omega
          subst ha
          simp
theorem brk_eq (a : Int) (k : Nat) (v : Int) (hk : k ≤ 70) (h1 : ((k : Int) - 1) * a ≤ v) (h2 : v ≤ k * a) (h0 : 0 ≤ v) : brk a v = k * v - a * tri k := bk_eq a 70 k v hk h1 h2 h0
/-- An axis whose numbers are in order. -/
def AxOk (lo hi S a : Int) : Prop := -17179869184 ≤ lo ∧ hi ≤ 17179869184 ∧ lo ≤ hi ∧ 16777216 ≤ S ∧ S ≤ 1073741824 ∧ 1 ≤ a ∧ a ≤ S ∧ S ≤ a * 64
/-- F is the greatest speed with which the axis can stop within d. -/
def Fast (S a d F : Int) : Prop := 0 ≤ F ∧ F ≤ S ∧ brk a F ≤ d ∧ (F = S ∨ d < brk a (F + 1))
theorem Fast.le {S a d F v : Int} (h : Fast S a d F) (h0 : v ≤ S) (h1 : brk a v ≤ d) : v ≤ F := by
  obtain ⟨f0, f1, f2, f3⟩ := h
  rcases f3 with f3 | f3
  · omega
  · by_cases c : v ≤ F
    · exact c
    · have := brk_mono a (F + 1) v (by omega)
      omega
theorem Fast.uniq {S a d F G : Int} (h : Fast S a d F) (k : Fast S a d G) : F = G := by
  have h1 := h.le k.2.1 k.2.2.1
  have h2 := k.le h.2.1 h.2.2.1
  omega
theorem Fast.pos {S a d F : Int} (h : Fast S a d F) (hS : 1 ≤ S) (ha : 1 ≤ a) (hd : 1 ≤ d) : 1 ≤ F := by
  refine h.le hS ?_
  rw [brk_step a 1 (by omega) (by omega), brk_neg a (1 - a) (by omega)]
  omega
end Go.Proofs.RGuR
namespace Go.Proofs.RGuR
open Go Go.Eng

theorem tdiv_nn {a b : Int} (h : 0 ≤ a) : Int.tdiv a b = a / b := Int.tdiv_eq_ediv_of_nonneg h
theorem check_axis {lo hi S a : Int} (h : AxOk lo hi S a) : slew_CheckAxis.F (lo, hi, S, a) = some 0 := by
  obtain ⟨h0, h1, h2, h3, h4, h5, h6, h7⟩ := h
  apply Y.is
  refine Y.of (slew_CheckAxis.F_of _) ?_
  dsimp only [slew_CheckAxis.d]
  rw [w64 (x := a * 64) (by omega) (by omega)]
  refine Y.neg ?_ (Y.nd (by omega) (Y.neg ?_ (Y.some rfl)))
  · simp only [Bool.or_eq_false_iff, decide_eq_false_iff_not]
    omega
  · simp only [Bool.or_eq_false_iff, decide_eq_false_iff_not]
    omega
theorem in_spec (lo hi S a q : Int) : slew_In.F (lo, hi, S, a, q) = some (decide (lo ≤ q) && decide (q ≤ hi)) := by
  apply Y.is
  exact Y.of (slew_In.F_of _) (Y.some rfl)
theorem in_yes {lo hi q : Int} (S a : Int) (h0 : lo ≤ q) (h1 : q ≤ hi) : slew_In.F (lo, hi, S, a, q) = some true := by
  rw [in_spec, decide_eq_true h0, decide_eq_true h1]
  rfl
theorem in_no {lo hi q : Int} (S a : Int) (h : ¬ (lo ≤ q ∧ q ≤ hi)) : slew_In.F (lo, hi, S, a, q) = some false := by
  rw [in_spec, ← Bool.decide_and, decide_eq_false h]
/-- The bounds on a's multiples, for k up to 70. -/
theorem mul_bd (k : Nat) (a : Int) (hk : k ≤ 70) (h0 : 1 ≤ a) (h1 : a ≤ 1073741824) : 0 ≤ a * tri k ∧ a * tri k ≤ 2687575785472 ∧ 0 ≤ tri k ∧ tri k ≤ 2503 := by
  have ht : 0 ≤ tri k ∧ tri k ≤ 2503 := by
    have h := tri_eq k
    have hk' : (k : Int) ≤ 70 := by omega
    have h2 : (k : Int) * ((k : Int) - 1) ≤ 70 * 70 := by
      by_cases c : k = 0
      · subst c
        decide
      · exact Int.mul_le_mul hk' (by omega) (by omega) (by omega)
    have h3 : 0 ≤ (k : Int) * ((k : Int) - 1) := by
      by_cases c : k = 0
      · subst c
        decide
      · exact Int.mul_nonneg (by omega) (by omega)
    omega
  have h2 : a * tri k ≤ 1073741824 * 2503 := Int.mul_le_mul h1 ht.2 ht.1 (by omega)
  have h3 : 0 ≤ a * tri k := Int.mul_nonneg (by omega) ht.1
  exact ⟨h3, by omega, ht⟩
theorem fastest_loop (lo hi S a d : Int) (h : AxOk lo hi S a) (hd0 : 0 ≤ d) (hd1 : d ≤ 1099511627776) (m : Nat) : ∀ (k : Nat), k + m = 65 → 1 ≤ k → a * tri k < d ∨ k = 1 →
    Y (slew_fastest.D0 (d, (k : Int), lo, hi, S, a)) (Fast S a d) := by
  obtain ⟨h0, h1, h2, h3, h4, h5, h6, h7⟩ := h
  induction m with
  | zero =>
    intro k hk hk1 hlt
    have ek : k = 65 := by omega
    subst ek
    refine Y.of (slew_fastest.D0_of _) ?_
    refine Y.nd (by decide) (Y.some ⟨by omega, Int.le_refl S, ?_, .inl rfl⟩)
    have e := brk_eq a 64 (64 * a) (by decide) (by omega) (by omega) (by omega)
    have em := brk_mono a S (64 * a) (by omega)
    have e65 : tri 65 = 2080 := by decide
    have e64 : tri 64 = 2016 := by decide
    rw [e65] at hlt
    rw [e64] at e
    omega
  | succ m ih =>
    intro k hk hk1 hlt
    have b0 := mul_bd k a (by omega) h5 (by omega)
    have b1 := mul_bd (k + 1) a (by omega) h5 (by omega)
    have et := tri_eq k
    have et1 := tri_eq (k + 1)
    have ec : ((k + 1 : Nat) : Int) = (k : Int) + 1 := by omega
    have p0 : 0 ≤ (k : Int) * ((k : Int) + 1) ∧ (k : Int) * ((k : Int) + 1) ≤ 70 * 70 := ⟨Int.mul_nonneg (by omega) (by omega), Int.mul_le_mul (by omega) (by omega) (by omega) (by omega)⟩
    have p1 : 0 ≤ (k : Int) * ((k : Int) - 1) ∧ (k : Int) * ((k : Int) - 1) ≤ 70 * 70 := ⟨Int.mul_nonneg (by omega) (by omega), Int.mul_le_mul (by omega) (by omega) (by omega) (by omega)⟩
    rw [ec, show (k : Int) + 1 - 1 = k by omega, Int.mul_comm ((k : Int) + 1) k] at et1
    refine Y.of (slew_fastest.D0_of _) ?_
    dsimp only [slew_fastest.d0]
    rw [w64 (x := (k : Int) + 1) (by omega) (by omega), w64 (x := (k : Int) - 1) (by omega) (by omega), w64 (x := (k : Int) * ((k : Int) + 1)) (by omega) (by omega), w64 (x := (k : Int) * ((k : Int) - 1)) (by omega) (by omega), tdiv_nn p0.1, tdiv_nn p1.1, ← et, ← et1,
      w64 (x := tri k) (by omega) (by omega), w64 (x := tri (k + 1)) (by omega) (by omega), w64 (x := a * tri k) (by omega) (by omega), w64 (x := a * tri (k + 1)) (by omega) (by omega), w64 (x := d + a * tri k) (by omega) (by omega), tdiv_nn (a := d + a * tri k) (by omega)]
    refine Y.pd (by omega) (Y.np' (by decide) (Y.ite (fun c => ?_) (fun c => ?_)))
    · have q0 : 0 ≤ (d + a * tri k) / (k : Int) := Int.ediv_nonneg (by omega) (by omega)
      have q1 : (d + a * tri k) / (k : Int) * (k : Int) ≤ d + a * tri k := Int.ediv_mul_le _ (by omega)
      have q2 : d + a * tri k < ((d + a * tri k) / (k : Int) + 1) * (k : Int) := by
        have := Int.lt_ediv_add_one_mul_self (d + a * tri k) (b := (k : Int)) (by omega)
        exact this
      have q3 : (d + a * tri k) / (k : Int) ≤ d + a * tri k := Int.ediv_le_self _ (by omega)
      rw [w64 (x := (d + a * tri k) / (k : Int)) (by omega) (by omega)]
      refine Y.np' (by decide) (Y.np' (by omega) (Y.some ?_))
      generalize (d + a * tri k) / (k : Int) = q at q0 q1 q2 q3 ⊢
      have etk : tri (k + 1) = tri k + k := rfl
      have ea : a * tri (k + 1) = a * tri k + a * k := by rw [etk, Int.mul_add]
      have e2 : 2 * tri k = (k : Int) * ((k : Int) - 1) := by
        have : (k : Int) * ((k : Int) - 1) % 2 = 0 := by
          have h2 : (k : Int) % 2 = 0 ∨ (k : Int) % 2 = 1 := by omega
          rcases h2 with h2 | h2
          · rw [Int.mul_emod, h2]
            simp
          · rw [Int.mul_emod, show ((k : Int) - 1) % 2 = 0 by omega]
            simp
        omega
      have e2a : 2 * (a * tri k) = a * (k * ((k : Int) - 1)) := by rw [← e2]; grind
      -- q lies between (k - 1) a and k a
      have hqk : q * k = (k : Int) * q := Int.mul_comm _ _
      have r1 : q ≤ k * a := by
        have : (k : Int) * q ≤ k * (k * a) := by
          have : (k : Int) * (k * a) = 2 * (a * tri k) + a * k := by rw [e2a]; grind
          omega
        exact Int.le_of_mul_le_mul_left this (by omega)
      have r0 : ((k : Int) - 1) * a ≤ q := by
        by_cases c1 : k = 1
        · subst c1
          simpa using q0
        · have hlt' : a * tri k < d := by omega
          have : (k : Int) * (((k : Int) - 1) * a) < k * (q + 1) := by
            have e5 : (k : Int) * (((k : Int) - 1) * a) = 2 * (a * tri k) := by rw [e2a]; grind
            have e6 : (q + 1) * k = (k : Int) * (q + 1) := Int.mul_comm _ _
            omega
          have := Int.lt_of_mul_lt_mul_left this (by omega)
          omega
      have eb := brk_eq a k q (by omega) r0 r1 q0
      have hbq : brk a q ≤ d := by omega
      have hbq1 : d < brk a (q + 1) := by
        by_cases c2 : q + 1 ≤ k * a
        · have eb1 := brk_eq a k (q + 1) (by omega) (by omega) c2 (by omega)
          have e6 : (q + 1) * k = (k : Int) * (q + 1) := Int.mul_comm _ _
          omega
        · have eq : q = k * a := by omega
          have eb1 := brk_eq a (k + 1) (q + 1) (by omega) (by rw [ec, show (k : Int) + 1 - 1 = k by omega]; omega) (by rw [ec, Int.add_mul]; omega) (by omega)
          rw [ec, ea] at eb1
          have e7 : ((k : Int) + 1) * (q + 1) = k * q + q + k + 1 := by grind
          have e8 : a * (k : Int) = q := by rw [eq]; exact Int.mul_comm _ _
          have e9 : (k : Int) * q = 2 * (a * tri k) + a * k := by rw [e2a, eq]; grind
          rw [e7] at eb1
          omega
      by_cases c3 : S ≤ q
      · rw [Int.min_eq_left c3]
        exact ⟨by omega, Int.le_refl S, by have := brk_mono a S q c3; omega, .inl rfl⟩
      · rw [Int.min_eq_right (by omega)]
        exact ⟨q0, by omega, hbq, .inr hbq1⟩
    · rw [← ec]
      exact ih (k + 1) (by omega) (by omega) (.inl (by omega))
theorem fastest_spec {lo hi S a : Int} (d : Int) (h : AxOk lo hi S a) (hd0 : 0 ≤ d) (hd1 : d ≤ 1099511627776) : Y (slew_fastest.F (lo, hi, S, a, d)) (Fast S a d) :=
  Y.of (slew_fastest.F_of _) (fastest_loop lo hi S a d h hd0 hd1 64 1 (by omega) (by omega) (.inr rfl))
theorem bk_le (a : Int) (ha : 0 ≤ a) (n : Nat) : ∀ v, 0 ≤ v → bk a n v ≤ n * v := by
  induction n with
  | zero =>
    intro v hv
    show (0 : Int) ≤ ((0 : Nat) : Int) * v
    simp
  | succ n ih =>
    intro v hv
    have e : ((n + 1 : Nat) : Int) * v = n * v + v := by
      have : ((n + 1 : Nat) : Int) = (n : Int) + 1 := by omega
      rw [this, Int.add_mul]
      omega
    have hn : 0 ≤ (n : Int) * v := Int.mul_nonneg (by omega) hv
    unfold bk
    split
    · by_cases c : 0 ≤ v - a
      · have h1 := ih (v - a) c
        have h2 : (n : Int) * (v - a) ≤ n * v := Int.mul_le_mul_of_nonneg_left (by omega) (by omega)
        omega
      · rw [bk_neg a n (v - a) (by omega)]
        omega
    · omega
theorem brk_bd (lo hi S a v : Int) (h : AxOk lo hi S a) (h1 : v ≤ S) : 0 ≤ brk a v ∧ brk a v ≤ 75161927680 := by
  obtain ⟨g0, g1, g2, g3, g4, g5, g6, g7⟩ := h
  have h2 := bk_le a (by omega) 70 S (by omega)
  have h3 := brk_mono a v S h1
  have h4 := brk_nonneg a v
  unfold brk at *
  omega
theorem axstop_loop (lo hi S a : Int) (h0 : 1 ≤ a) (h1 : a ≤ 1073741824) (n : Nat) : ∀ (v sum : Int), v ≤ n * a → n ≤ 70 → v ≤ 1073741825 → -1073741824 ≤ v → 0 ≤ sum → sum ≤ (70 - n) * 1073741825 →
    Y (axis_Stop.D0 (v, sum, lo, hi, S, a)) fun r => r = sum + bk a n v := by
  induction n with
  | zero =>
    intro v sum hv hn h2 h3 h4 h5
    have hv' : v ≤ 0 := by simpa using hv
    rw [bk_neg a 0 v hv']
    exact Y.of (axis_Stop.D0_of _) (Y.nd (by omega) (Y.some (Int.add_zero sum).symm))
  | succ n ih =>
    intro v sum hv hn h2 h3 h4 h5
    refine Y.of (axis_Stop.D0_of _) ?_
    by_cases c : 0 < v
    · have e : ((n + 1 : Nat) : Int) * a = n * a + a := by
        have : ((n + 1 : Nat) : Int) = (n : Int) + 1 := by omega
        rw [this, Int.add_mul]
        omega
      have e2 : bk a (n + 1) v = v + bk a n (v - a) := by
        show (if 0 < v then v + bk a n (v - a) else 0) = _
        rw [if_pos c]
      refine Y.pd c ?_
      rw [w64 (x := v - a) (by omega) (by omega), w64 (x := sum + v) (by omega) (by omega), e2]
      refine (ih (v - a) (sum + v) (by omega) (by omega) (by omega) (by omega) (by omega) (by omega)).mono fun r hr => ?_
      have hr' : r = sum + v + bk a n (v - a) := hr
      exact hr'.trans (Int.add_assoc sum v _)
    · rw [bk_neg a (n + 1) v (by omega)]
      exact Y.nd (by omega) (Y.some (Int.add_zero sum).symm)
theorem axstop_spec {lo hi S a v : Int} (h : AxOk lo hi S a) (h0 : -S ≤ v) (h1 : v ≤ S) : axis_Stop.F (lo, hi, S, a, v) = some (brk a (max v (-v) - a)) := by
  have hA := h
  obtain ⟨g0, g1, g2, g3, g4, g5, g6, g7⟩ := h
  apply Y.is
  refine Y.of (axis_Stop.F_of _) ?_
  dsimp only [axis_Stop.d]
  rw [w64 (x := 0 - S) (by omega) (by omega), w64 (x := 0 - v) (by omega) (by omega), w64 (x := max v (0 - v) - a) (by omega) (by omega)]
  refine Y.bE (check_axis hA) (Y.neg ?_ ?_)
  · simp only [Bool.or_eq_false_iff, decide_eq_false_iff_not]
    exact ⟨⟨rfl, by omega⟩, by omega⟩
  · have := axstop_loop lo hi S a g5 (by omega) 70 (max v (-v) - a) 0 (by omega) (by omega) (by omega) (by omega) (by omega) (by omega)
    rw [Int.zero_sub]
    exact this.mono fun r hr => by rw [hr, Int.zero_add]; rfl
/-- Where an axis stands once it has braked. -/
def endOf (a p v : Int) : Int := if v < 0 then p - brk a (-v - a) else p + brk a (v - a)
/-- A state that is valid. -/
def AxSt (lo hi S a p v g : Int) : Prop := lo ≤ p ∧ p ≤ hi ∧ lo ≤ g ∧ g ≤ hi ∧ -S ≤ v ∧ v ≤ S ∧ lo ≤ endOf a p v ∧ endOf a p v ≤ hi
theorem axis_check {lo hi S a p v g : Int} (t : Bool) (h : AxOk lo hi S a) (k : AxSt lo hi S a p v g) : axis_Check.F (lo, hi, S, a, p, v, g, t) = some 0 := by
  have hA := h
  obtain ⟨g0, g1, g2, g3, g4, g5, g6, g7⟩ := h
  obtain ⟨k0, k1, k2, k3, k4, k5, k6, k7⟩ := k
  have hs := axstop_spec hA k4 k5
  have hb := brk_bd lo hi S a (max v (-v) - a) hA (by omega)
  have fin : ∀ e, lo ≤ e → e ≤ hi → Y (axis_Check.D0 (e, lo, hi, S, a)) fun r => r = 0 := fun e e0 e1 => Y.of (axis_Check.D0_of _) (Y.bE (in_yes S a e0 e1) (Y.neg rfl (Y.some rfl)))
  apply Y.is
  refine Y.of (axis_Check.F_of _) ?_
  dsimp only [axis_Check.d]
  rw [w64 (x := 0 - S) (by omega) (by omega)]
  refine Y.bE (check_axis hA) (Y.np rfl (Y.bE (in_yes S a k0 k1) (Y.pos rfl (Y.bE (in_yes S a k2 k3) (Y.neg ?_ (Y.bE hs ?_))))))
  · simp only [Bool.or_eq_false_iff, decide_eq_false_iff_not]
    exact ⟨⟨rfl, by omega⟩, by omega⟩
  · unfold endOf at k6 k7
    refine Y.ite (fun c => ?_) (fun c => ?_)
    · rw [if_pos c] at k6 k7
      rw [show max v (-v) = -v by omega] at hs hb
      refine Y.bE hs ?_
      rw [w64 (x := p - brk a (-v - a)) (by omega) (by omega)]
      exact fin _ k6 k7
    · rw [if_neg c] at k6 k7
      rw [show max v (-v) = v by omega] at hb ⊢
      rw [w64 (x := p + brk a (v - a)) (by omega) (by omega)]
      exact fin _ k6 k7
/-- The next speed, toward what lies d ahead. -/
def Next (S a d v w : Int) : Prop := (v < 0 ∧ w = min (v + a) 0) ∨ (0 ≤ v ∧ ∃ F, Fast S a d F ∧ w = max (max (v - a) 0) (min (v + a) F))
theorem Fastest_spec {lo hi S a d : Int} (h : AxOk lo hi S a) (hd0 : 0 ≤ d) (hd1 : d ≤ 1099511627776) : Y (slew_Fastest.F (lo, hi, S, a, d)) (Fast S a d) := by
  refine Y.of (slew_Fastest.F_of _) (Y.bE (check_axis h) (Y.neg ?_ (Y.bnd _ (fastest_spec d h hd0 hd1) fun F hF => Y.some hF)))
  simp only [Bool.or_eq_false_iff, decide_eq_false_iff_not]
  exact ⟨rfl, by omega⟩
theorem next_axis {lo hi S a d v : Int} (h : AxOk lo hi S a) (hd0 : 0 ≤ d) (hd1 : d ≤ 1099511627776) (hv0 : -S ≤ v) (hv1 : v ≤ S) : Y (axis_next.F (lo, hi, S, a, d, v)) (Next S a d v) := by
  have hA := h
  obtain ⟨g0, g1, g2, g3, g4, g5, g6, g7⟩ := h
  refine Y.of (axis_next.F_of _) ?_
  dsimp only [axis_next.d]
  rw [w64 (x := v + a) (by omega) (by omega), w64 (x := v - a) (by omega) (by omega)]
  refine Y.ite (fun c => Y.some (.inl ⟨c, rfl⟩)) (fun c => ?_)
  exact Y.bnd _ (Fastest_spec hA hd0 hd1) (fun F hF => Y.some (.inr ⟨by omega, F, hF, rfl⟩))
/-- What a step does. -/
def StepTo (S a p v g : Int) (h : Bool) (r : Int × Int × Int × Bool) : Prop :=
  r.1 = p + r.2.1 ∧
  ((h = true ∧ r.2.1 = (if 0 < v then max (v - a) 0 else min (v + a) 0) ∧ ((r.2.1 = 0 ∧ r.2.2.1 = p ∧ r.2.2.2 = false) ∨ (r.2.1 ≠ 0 ∧ r.2.2.1 = g ∧ r.2.2.2 = true))) ∨
   (h = false ∧ r.2.2.1 = g ∧ r.2.2.2 = false ∧ ((p ≤ g ∧ Next S a (g - p) v r.2.1) ∨ (g < p ∧ Next S a (p - g) (-v) (-r.2.1)))))
theorem Next.range {S a d v w : Int} (h : Next S a d v w) (ha : 1 ≤ a) (haS : a ≤ S) (h0 : -S ≤ v) (h1 : v ≤ S) (hd : 0 ≤ d) :
    -S ≤ w ∧ w ≤ S ∧ w - v ≤ a ∧ v - w ≤ a ∧ (v < 0 → w ≤ 0 ∧ brk a (-w) = brk a (-v - a)) ∧ (0 ≤ v → 0 ≤ w ∧ (brk a w = brk a (v - a) ∨ brk a w ≤ d)) := by
  rcases h with ⟨c, e⟩ | ⟨c, F, hF, e⟩
  · refine ⟨by omega, by omega, by omega, by omega, fun _ => ⟨by omega, ?_⟩, fun h => by omega⟩
    by_cases g : v + a ≤ 0
    · rw [e, Int.min_eq_left g, show -(v + a) = -v - a by omega]
    · rw [e, Int.min_eq_right (by omega), brk_neg a (-0) (by omega), brk_neg a (-v - a) (by omega)]
  · obtain ⟨f0, f1, f2, f3⟩ := hF
    refine ⟨by omega, by omega, by omega, by omega, fun h => by omega, fun _ => ⟨by omega, ?_⟩⟩
    by_cases g : min (v + a) F ≤ max (v - a) 0
    · left
      rw [e, Int.max_eq_left g]
      by_cases g2 : 0 ≤ v - a
      · rw [Int.max_eq_left g2]
      · rw [Int.max_eq_right (by omega), brk_neg a 0 (by omega), brk_neg a (v - a) (by omega)]
    · right
      rw [e, Int.max_eq_right (by omega)]
      have := brk_mono a (min (v + a) F) F (by omega)
      omega
/-- Behind a step of speed w one stops where w itself was to stop. -/
theorem endOf_step {a p w : Int} (ha : 1 ≤ a) (h0 : w ≤ 70 * a) (h1 : -w ≤ 70 * a) : endOf a (p + w) w = if w < 0 then p - brk a (-w) else p + brk a w := by
  unfold endOf
  by_cases c : w < 0
  · rw [if_pos c, if_pos c, brk_step a (-w) (by omega) h1]
    omega
  · rw [if_neg c, if_neg c]
    by_cases c2 : 0 < w
    · rw [brk_step a w c2 h0]
      omega
    · have : w = 0 := by omega
      subst this
      rw [brk_neg a 0 (by omega), brk_neg a (0 - a) (by omega)]
      omega
theorem step_keeps {lo hi S a p v g : Int} {t : Bool} {r : Int × Int × Int × Bool} (h : AxOk lo hi S a) (k : AxSt lo hi S a p v g) (hs : StepTo S a p v g t r) :
    AxSt lo hi S a r.1 r.2.1 r.2.2.1 ∧ r.2.1 - v ≤ a ∧ v - r.2.1 ≤ a := by
  obtain ⟨p', v', g', t'⟩ := r
  obtain ⟨g0, g1, g2, g3, g4, g5, g6, g7⟩ := h
  obtain ⟨k0, k1, k2, k3, k4, k5, k6, k7⟩ := k
  obtain ⟨e1, hs⟩ := hs
  dsimp only at e1 hs ⊢
  subst e1
  have key : -S ≤ v' ∧ v' ≤ S ∧ v' - v ≤ a ∧ v - v' ≤ a ∧ lo ≤ g' ∧ g' ≤ hi ∧ ((v' < 0 → lo ≤ p - brk a (-v')) ∧ (0 ≤ v' → p + brk a v' ≤ hi)) := by
    unfold endOf at k6 k7
    rcases hs with ⟨_, e2, e3⟩ | ⟨_, e2, _, e4⟩
    · by_cases c : 0 < v
      · rw [if_pos c] at e2
        rw [if_neg (by omega)] at k6 k7
        refine ⟨by omega, by omega, by omega, by omega, by omega, by omega, fun h => by omega, fun _ => ?_⟩
        by_cases g : 0 ≤ v - a
        · rw [e2, Int.max_eq_left g]
          exact k7
        · rw [e2, Int.max_eq_right (by omega), brk_neg a 0 (by omega)]
          omega
      · rw [if_neg c] at e2
        refine ⟨by omega, by omega, by omega, by omega, by omega, by omega, fun h => ?_, fun h => ?_⟩
        · rw [if_pos (by omega)] at k6 k7
          rw [e2, Int.min_eq_left (by omega), show -(v + a) = -v - a by omega]
          exact k6
        · have : v' = 0 := by omega
          rw [this, brk_neg a 0 (by omega)]
          omega
    · rcases e4 with ⟨c, n⟩ | ⟨c, n⟩
      · obtain ⟨n0, n1, n2, n3, n4, n5⟩ := n.range g5 g6 k4 k5 (by omega)
        refine ⟨n0, n1, n2, n3, by omega, by omega, fun h => ?_, fun h => ?_⟩
        · have hv : v < 0 := by
            by_cases cv : v < 0
            · exact cv
            · have := (n5 (by omega)).1
              omega
          rw [if_pos hv] at k6
          rw [(n4 hv).2]
          exact k6
        · by_cases hv : v < 0
          · have h1 := n4 hv
            have : v' = 0 := by omega
            rw [this, brk_neg a 0 (by omega)]
            omega
          · rw [if_neg hv] at k7
            rcases (n5 (by omega)).2 with e | e <;> omega
      · obtain ⟨n0, n1, n2, n3, n4, n5⟩ := n.range g5 g6 (by omega) (by omega) (by omega)
        refine ⟨by omega, by omega, by omega, by omega, by omega, by omega, fun h => ?_, fun h => ?_⟩
        · by_cases hv : -v < 0
          · have := n4 hv
            omega
          · rcases (n5 (by omega)).2 with e | e
            · by_cases hv0 : v < 0
              · rw [if_pos hv0] at k6
                omega
              · have : v = 0 := by omega
                subst this
                rw [e, brk_neg a (-0 - a) (by omega)]
                omega
            · omega
        · by_cases hv : -v < 0
          · rw [if_neg (by omega)] at k7
            have := (n4 hv).2
            rw [show -(-v') = v' by omega, show -(-v) - a = v - a by omega] at this
            omega
          · have := (n5 (by omega)).1
            have h0 : v' = 0 := by omega
            rw [h0, brk_neg a 0 (by omega)]
            omega
  obtain ⟨j0, j1, j2, j3, j4, j5, j6, j7⟩ := key
  have hn := brk_nonneg a (-v')
  have hn2 := brk_nonneg a v'
  have hg := brk_ge a v'
  have hg2 := brk_ge a (-v')
  refine ⟨⟨?_, ?_, j4, j5, j0, j1, ?_, ?_⟩, j2, j3⟩
  · by_cases c : v' < 0
    · have := j6 c
      omega
    · omega
  · by_cases c : v' < 0
    · omega
    · have := j7 (by omega)
      omega
  · rw [endOf_step g5 (by omega) (by omega)]
    split
    · exact j6 (by assumption)
    · omega
  · rw [endOf_step g5 (by omega) (by omega)]
    split
    · omega
    · exact j7 (by omega)
theorem step_axis {lo hi S a p v g : Int} (t : Bool) (h : AxOk lo hi S a) (k : AxSt lo hi S a p v g) : Y (axis_Step.F (lo, hi, S, a, p, v, g, t)) (StepTo S a p v g t) := by
  have hA := h
  have hK := k
  obtain ⟨g0, g1, g2, g3, g4, g5, g6, g7⟩ := h
  obtain ⟨k0, k1, k2, k3, k4, k5, k6, k7⟩ := k
  have fin : ∀ (w u1 u2 u3 : Int) (u4 : Bool), -1073741824 ≤ w → w ≤ 1073741824 → Y (axis_Step.D0 (p, w, g, t, u1, u2, u3, u4)) fun r => r = (if t = true ∧ w = 0 then (p + w, w, p + w, false) else (p + w, w, g, t)) := by
    intro w u1 u2 u3 u4 w0 w1
    refine Y.of (axis_Step.D0_of _) ?_
    dsimp only [axis_Step.d0]
    rw [w64 (x := p + w) (by omega) (by omega)]
    by_cases c : t = true ∧ w = 0
    · rw [if_pos c]
      exact Y.pos (by simp [c]) (Y.of (axis_Step.D1_of _) (Y.some rfl))
    · rw [if_neg c]
      exact Y.neg (by simpa using c) (Y.of (axis_Step.D1_of _) (Y.some rfl))
  refine Y.of (axis_Step.F_of _) ?_
  dsimp only [axis_Step.d]
  rw [w64 (x := v - a) (by omega) (by omega), w64 (x := v + a) (by omega) (by omega), w64 (x := g - p) (by omega) (by omega), w64 (x := p - g) (by omega) (by omega), w64 (x := 0 - v) (by omega) (by omega)]
  refine Y.bE (axis_check t hA hK) (Y.np rfl ?_)
  cases t with
  | true =>
    have halt : ∀ w, w = (if 0 < v then max (v - a) 0 else min (v + a) 0) → Y (axis_Step.D0 (p, w, g, true, 0, 0, 0, false)) (StepTo S a p v g true) := by
      intro w hw
      have w0 : -1073741824 ≤ w ∧ w ≤ 1073741824 := by
        rw [hw]
        split <;> omega
      refine (fin w 0 0 0 false w0.1 w0.2).mono fun r hr => ?_
      subst hr
      by_cases c : w = 0
      · rw [if_pos ⟨rfl, c⟩]
        exact ⟨rfl, .inl ⟨rfl, hw, .inl ⟨c, by dsimp only; omega, rfl⟩⟩⟩
      · rw [if_neg fun h => c h.2]
        exact ⟨rfl, .inl ⟨rfl, hw, .inr ⟨c, rfl, rfl⟩⟩⟩
    by_cases c : 0 < v
    · exact Y.pos (by simp [c]) (halt _ (by rw [if_pos c]))
    · exact Y.neg (by simp [c]) (Y.pos rfl (halt _ (by rw [if_neg c])))
  | false =>
    have go : ∀ w, -1073741824 ≤ w → w ≤ 1073741824 → ((p ≤ g ∧ Next S a (g - p) v w) ∨ (g < p ∧ Next S a (p - g) (-v) (-w))) → Y (axis_Step.D0 (p, w, g, false, 0, 0, 0, false)) (StepTo S a p v g false) := by
      intro w w0 w1 hw
      refine (fin w 0 0 0 false w0 w1).mono fun r hr => ?_
      subst hr
      rw [if_neg fun h => by cases h.1]
      exact ⟨rfl, .inr ⟨rfl, rfl, rfl, hw⟩⟩
    refine Y.neg rfl (Y.neg rfl (Y.ite (fun c => ?_) (fun c => ?_)))
    · refine Y.bnd _ (next_axis hA (by omega) (by omega) k4 k5) fun w hw => ?_
      have hr := hw.range g5 g6 k4 k5 (by omega)
      exact go w (by omega) (by omega) (.inl ⟨c, hw⟩)
    · refine Y.bnd _ (next_axis hA (by omega) (by omega) (by omega) (by omega)) fun w hw => ?_
      have hr := hw.range g5 g6 (by omega) (by omega) (by omega)
      rw [w64 (x := 0 - w) (by omega) (by omega)]
      obtain ⟨h1, h2, _⟩ := hr
      have key : ∀ u : Int, -S ≤ u → u ≤ S → Next S a (p - g) (0 - v) u → Y (axis_Step.D0 (p, 0 - u, g, false, 0, 0, 0, false)) (StepTo S a p v g false) := by
        intro u u0 u1 hu
        refine go (0 - u) (by omega) (by omega) (.inr ⟨by omega, ?_⟩)
        have e1 : -(0 - u) = u := by omega
        have e2 : 0 - v = -v := by omega
        rw [e1, ← e2]
        exact hu
      exact key w h1 h2 hw
def rests (s : Int × Int × Int × Bool) : Bool := decide (s.2.1 = 0) && decide (s.1 = s.2.2.1) && !s.2.2.2
theorem resting_eq (s : Int × Int × Int × Bool) : axis_Resting.F s = some (rests s) := by
  apply Y.is
  exact Y.of (axis_Resting.F_of _) (Y.some rfl)
theorem rests_of {p v g : Int} {t : Bool} (h : rests (p, v, g, t) = true) : v = 0 ∧ p = g ∧ t = false := by
  simp only [rests, Bool.and_eq_true, decide_eq_true_eq, Bool.not_eq_true'] at h
  exact ⟨h.1.1, h.1.2, h.2⟩
theorem brake_spec {lo hi S a p v g : Int} (t : Bool) (h : AxOk lo hi S a) (k : AxSt lo hi S a p v g) : axis_Brake.F (lo, hi, S, a, p, v, g, t) = some (p, v, g, true, 0) := by
  apply Y.is
  exact Y.of (axis_Brake.F_of _) (Y.bE (axis_check t h k) (Y.np rfl (Y.some rfl)))
theorem axsend_yes {lo hi S a p v g : Int} (t : Bool) (h : AxOk lo hi S a) (k : AxSt lo hi S a p v g) (x : Int) (h0 : lo ≤ x) (h1 : x ≤ hi) : axis_Send.F (lo, hi, S, a, p, v, g, t, x) = some (p, v, x, false, 0) := by
  apply Y.is
  exact Y.of (axis_Send.F_of _) (Y.bE (axis_check t h k) (Y.np rfl (Y.bE (in_yes S a h0 h1) (Y.neg rfl (Y.some rfl)))))
theorem axsend_no {lo hi S a p v g : Int} (t : Bool) (h : AxOk lo hi S a) (k : AxSt lo hi S a p v g) (x : Int) (hx : ¬ (lo ≤ x ∧ x ≤ hi)) : axis_Send.F (lo, hi, S, a, p, v, g, t, x) = some (0, 0, 0, false, 4) := by
  apply Y.is
  exact Y.of (axis_Send.F_of _) (Y.bE (axis_check t h k) (Y.np rfl (Y.bE (in_no S a hx) (Y.pos rfl (Y.some rfl)))))
end Go.Proofs.RGuR
namespace Go.Proofs.RGuR
open Go Go.Eng

theorem Next.none {S a v w : Int} (ha : 1 ≤ a) (h : Next S a 0 v w) : w = if 0 < v then max (v - a) 0 else min (v + a) 0 := by
  rcases h with ⟨c, e⟩ | ⟨c, F, hF, e⟩
  · rw [if_neg (by omega)]
    exact e
  · have hF0 : F = 0 := by
      have := brk_ge a F
      have h1 := hF.1
      have h2 := hF.2.2.1
      omega
    subst hF0
    split <;> omega
theorem StepTo.rest {S a q : Int} {r : Int × Int × Int × Bool} (ha : 1 ≤ a) (h : StepTo S a q 0 q false r) : r = (q, 0, q, false) := by
  obtain ⟨p1, v1, g1, t1⟩ := r
  obtain ⟨e1, h⟩ := h
  dsimp only at e1 h ⊢
  rcases h with ⟨h, _⟩ | ⟨_, hg, ht, hn⟩
  · cases h
  · have hv : v1 = 0 := by
      rcases hn with ⟨_, n⟩ | ⟨c, _⟩
      · rw [show q - q = (0 : Int) by omega] at n
        have := n.none ha
        rw [this]
        split <;> omega
      · omega
    subst hv hg ht
    have : p1 = g1 := by omega
    rw [this]
theorem rest_ok (lo hi S a p : Int) (ha : 1 ≤ a) (hS : 1 ≤ S) (h0 : lo ≤ p) (h1 : p ≤ hi) : AxSt lo hi S a p 0 p := by
  have : endOf a p 0 = p := by
    unfold endOf
    rw [if_neg (by omega), brk_neg a (0 - a) (by omega)]
    omega
  exact ⟨h0, h1, h0, h1, by omega, by omega, by omega, by omega⟩
theorem AxSt.send {lo hi S a p v g q : Int} (k : AxSt lo hi S a p v g) (h0 : lo ≤ q) (h1 : q ≤ hi) : AxSt lo hi S a p v q := ⟨k.1, k.2.1, h0, h1, k.2.2.2.2⟩
/-- The modes and what they ask. -/
def ModeOk (pa pb p v g : Int) (t : Bool) (p2 v2 g2 : Int) (t2 : Bool) (m : Int) : Prop :=
  (m = 0 ∧ p = pa ∧ v = 0 ∧ g = pa ∧ t = false ∧ p2 = pb ∧ v2 = 0 ∧ g2 = pb ∧ t2 = false) ∨
  (m = 1 ∧ rests (p, v, g, t) = true ∧ rests (p2, v2, g2, t2) = true) ∨
  (m = 5 ∧ (t = true ∨ rests (p, v, g, t) = true) ∧ (t2 = true ∨ rests (p2, v2, g2, t2) = true)) ∨
  ((m = 2 ∨ m = 3) ∧ t = false ∧ t2 = false) ∨
  (m = 4 ∧ t = false ∧ t2 = false ∧ g = pa ∧ g2 = pb)
theorem rests_mk {p v g : Int} {t : Bool} (h1 : v = 0) (h2 : p = g) (h3 : t = false) : rests (p, v, g, t) = true := by
  subst h1 h2 h3
  simp [rests]
def MtOk (lo hi S a lo2 hi2 S2 a2 pa pb : Int) : Prop := AxOk lo hi S a ∧ AxOk lo2 hi2 S2 a2 ∧ lo ≤ pa ∧ pa ≤ hi ∧ lo2 ≤ pb ∧ pb ≤ hi2
theorem check_mount {lo hi S a lo2 hi2 S2 a2 pa pb : Int} (h : MtOk lo hi S a lo2 hi2 S2 a2 pa pb) : slew_CheckMount.F (lo, hi, S, a, lo2, hi2, S2, a2, pa, pb) = some 0 := by
  obtain ⟨h0, h1, h2, h3, h4, h5⟩ := h
  apply Y.is
  exact Y.of (slew_CheckMount.F_of _) (Y.bE (check_axis h0) (Y.np rfl (Y.bE (check_axis h1) (Y.np rfl (Y.bE (in_yes S a h2 h3) (Y.pos rfl (Y.bE (in_yes S2 a2 h4 h5) (Y.neg rfl (Y.some rfl)))))))))
theorem mount_rest (lo hi S a lo2 hi2 S2 a2 pa pb : Int) : mount_Rest.F (lo, hi, S, a, lo2, hi2, S2, a2, pa, pb) = some (pa, 0, pa, false, pb, 0, pb, false, 0) := by
  have h : ∀ x, axis_Rest.F x = some (x, 0, x, false) := fun x => Y.is (Y.of (axis_Rest.F_of _) (Y.some rfl))
  apply Y.is
  exact Y.of (mount_Rest.F_of _) (Y.bE (h pa) (Y.bE (h pb) (Y.some rfl)))
theorem mount_check {lo hi S a lo2 hi2 S2 a2 pa pb p v g p2 v2 g2 m : Int} {t t2 : Bool} (hM : MtOk lo hi S a lo2 hi2 S2 a2 pa pb) (h : AxSt lo hi S a p v g) (h2 : AxSt lo2 hi2 S2 a2 p2 v2 g2) (hm : ModeOk pa pb p v g t p2 v2 g2 t2 m) :
    mount_Check.F (lo, hi, S, a, lo2, hi2, S2, a2, pa, pb, p, v, g, t, p2, v2, g2, t2, m) = some 0 := by
  have hcm := check_mount hM
  obtain ⟨hA, hB, _⟩ := hM
  have fin : ∀ b, b = true → Y (mount_Check.D0 b) fun r => r = 0 := by
    rintro b rfl
    exact Y.of (mount_Check.D0_of _) (Y.neg rfl (Y.some rfl))
  have hm0 : 0 ≤ m ∧ m ≤ 5 := by
    rcases hm with h | h | h | h | h <;> omega
  apply Y.is
  refine Y.of (mount_Check.F_of _) (Y.bE hcm (Y.np rfl (Y.bE (axis_check t hA h) (Y.np rfl (Y.bE (axis_check t2 hB h2) (Y.np rfl (Y.neg ?_ ?_)))))))
  · simp only [Bool.or_eq_false_iff, decide_eq_false_iff_not]
    omega
  · rcases hm with ⟨e, e1, e2, e3, e4, e5, e6, e7, e8⟩ | ⟨e, e1, e2⟩ | ⟨e, e1, e2⟩ | ⟨e, e1, e2⟩ | ⟨e, e1, e2, e3, e4⟩
    · refine Y.pd e (Y.bE (mount_rest _ _ _ _ _ _ _ _ _ _) (fin _ ?_))
      subst e e1 e2 e3 e4 e5 e6 e7 e8
      simp
    · exact Y.nd (by omega) (Y.pd e (Y.bE (resting_eq _) (Y.pos (by rw [e1]; rfl) (Y.bE (resting_eq _) (fin _ e2)))))
    · refine Y.nd (by omega) (Y.nd (by omega) (Y.pd e ?_))
      cases t with
      | false =>
        have e1 := e1.resolve_left Bool.false_ne_true
        refine Y.pos rfl (Y.bE (resting_eq _) (Y.pos (by rw [e1]; rfl) ?_))
        cases t2 with
        | false => exact Y.pos rfl (Y.bE (resting_eq _) (fin _ (e2.resolve_left Bool.false_ne_true)))
        | true => exact Y.neg rfl (fin _ rfl)
      | true =>
        refine Y.neg rfl ?_
        cases t2 with
        | false => exact Y.pos rfl (Y.bE (resting_eq _) (fin _ (e2.resolve_left Bool.false_ne_true)))
        | true => exact Y.neg rfl (fin _ rfl)
    · refine Y.nd (by omega) (Y.nd (by omega) (Y.nd (by omega) (fin _ ?_)))
      subst e1 e2
      have : ¬ m = 4 := by omega
      simp [this]
    · refine Y.nd (by omega) (Y.nd (by omega) (Y.nd (by omega) (fin _ ?_)))
      subst e1 e2 e3 e4
      simp
/-- The mode behind a step. -/
def modeTo (m : Int) (b : Bool) : Int := if b = true then (if m = 2 then 3 else if m = 4 then 0 else if m = 5 then 1 else m) else m
theorem mount_step {lo hi S a lo2 hi2 S2 a2 pa pb p v g p2 v2 g2 m : Int} {t t2 : Bool} (hM : MtOk lo hi S a lo2 hi2 S2 a2 pa pb) (h : AxSt lo hi S a p v g) (h2 : AxSt lo2 hi2 S2 a2 p2 v2 g2) (hm : ModeOk pa pb p v g t p2 v2 g2 t2 m) :
    Y (mount_Step.F (lo, hi, S, a, lo2, hi2, S2, a2, pa, pb, p, v, g, t, p2, v2, g2, t2, m)) (fun r => ∃ q q2, StepTo S a p v g t q ∧ StepTo S2 a2 p2 v2 g2 t2 q2 ∧ r = (q.1, q.2.1, q.2.2.1, q.2.2.2, q2.1, q2.2.1, q2.2.2.1, q2.2.2.2, modeTo m (rests q && rests q2))) := by
  have hck := mount_check hM h h2 hm
  obtain ⟨hA, hB, _⟩ := hM
  refine Y.of (mount_Step.F_of _) (Y.bE hck (Y.np rfl (Y.bnd _ (step_axis t hA h) fun q hq => Y.bnd _ (step_axis t2 hB h2) fun q2 hq2 => ?_)))
  have fin : ∀ (m' : Int) (x1 x2 x3 : Int) (x4 : Bool) (y1 y2 y3 : Int) (y4 : Bool) (z : Int), m' = modeTo m (rests q && rests q2) → Y (mount_Step.D0 (q.1, q.2.1, q.2.2.1, q.2.2.2, q2.1, q2.2.1, q2.2.2.1, q2.2.2.2, m', x1, x2, x3, x4, y1, y2, y3, y4, z)) fun r => ∃ q q2, StepTo S a p v g t q ∧ StepTo S2 a2 p2 v2 g2 t2 q2 ∧ r = (q.1, q.2.1, q.2.2.1, q.2.2.2, q2.1, q2.2.1, q2.2.2.1, q2.2.2.2, modeTo m (rests q && rests q2)) := by
    rintro m' x1 x2 x3 x4 y1 y2 y3 y4 z rfl
    exact Y.of (mount_Step.D0_of _) (Y.some ⟨q, q2, hq, hq2, rfl⟩)
  refine Y.bE (resting_eq q) ?_
  cases hr : rests q with
  | false => exact Y.neg rfl (Y.some ⟨q, q2, hq, hq2, by rw [hr]; rfl⟩)
  | true =>
    refine Y.pos rfl (Y.bE (resting_eq q2) ?_)
    cases hr2 : rests q2 with
    | false => exact Y.pos rfl (Y.some ⟨q, q2, hq, hq2, by rw [hr, hr2]; rfl⟩)
    | true =>
      rw [hr, hr2] at fin
      refine Y.neg rfl (Y.ite (fun c => fin _ _ _ _ _ _ _ _ _ _ ?_) (fun c => Y.ite (fun c2 => fin _ _ _ _ _ _ _ _ _ _ ?_) (fun c2 => Y.ite (fun c3 => fin _ _ _ _ _ _ _ _ _ _ ?_) (fun c3 => fin _ _ _ _ _ _ _ _ _ _ ?_))))
      · unfold modeTo
        rw [Bool.and_self, if_pos rfl, if_pos c]
      · unfold modeTo
        rw [Bool.and_self, if_pos rfl, if_neg c, if_pos c2]
      · unfold modeTo
        rw [Bool.and_self, if_pos rfl, if_neg c, if_neg c2, if_pos c3]
      · unfold modeTo
        rw [Bool.and_self, if_pos rfl, if_neg c, if_neg c2, if_neg c3]
theorem StepTo.rested {S a p v g : Int} {t : Bool} {r : Int × Int × Int × Bool} (ha : 1 ≤ a) (h : StepTo S a p v g t r) (k : rests (p, v, g, t) = true) : r = (p, v, g, t) ∧ rests r = true := by
  obtain ⟨rfl, rfl, rfl⟩ := rests_of k
  have := h.rest ha
  rw [this]
  exact ⟨rfl, k⟩
theorem StepTo.halting {S a p v g : Int} {r : Int × Int × Int × Bool} (h : StepTo S a p v g true r) : r.2.2.2 = true ∨ rests r = true := by
  obtain ⟨p', v', g', t'⟩ := r
  obtain ⟨e1, h⟩ := h
  dsimp only at e1 h ⊢
  rcases h with ⟨_, _, h⟩ | ⟨h, _⟩
  · rcases h with ⟨c, e2, e3⟩ | ⟨_, _, e3⟩
    · right
      simp [rests, c, e3]
      omega
    · exact .inl e3
  · cases h
theorem StepTo.going {S a p v g : Int} {r : Int × Int × Int × Bool} (h : StepTo S a p v g false r) : r.2.2.2 = false ∧ r.2.2.1 = g := by
  rcases h.2 with ⟨h, _⟩ | ⟨_, e1, e2, _⟩
  · cases h
  · exact ⟨e2, e1⟩
theorem mode_keeps {S a S2 a2 pa pb p v g p2 v2 g2 m : Int} {t t2 : Bool} {q q2 : Int × Int × Int × Bool} (ha : 1 ≤ a) (ha2 : 1 ≤ a2) (hm : ModeOk pa pb p v g t p2 v2 g2 t2 m) (hq : StepTo S a p v g t q) (hq2 : StepTo S2 a2 p2 v2 g2 t2 q2) :
    ModeOk pa pb q.1 q.2.1 q.2.2.1 q.2.2.2 q2.1 q2.2.1 q2.2.2.1 q2.2.2.2 (modeTo m (rests q && rests q2)) := by
  rcases hm with ⟨e, e1, e2, e3, e4, e5, e6, e7, e8⟩ | ⟨e, e1, e2⟩ | ⟨e, e1, e2⟩ | ⟨e, e1, e2⟩ | ⟨e, e1, e2, e3, e4⟩
  · subst e1 e2 e3 e4 e5 e6 e7 e8
    have h1 := hq.rest ha
    have h2 := hq2.rest ha2
    subst h1 h2
    left
    subst e
    exact ⟨by simp [modeTo, rests], rfl, rfl, rfl, rfl, rfl, rfl, rfl, rfl⟩
  · obtain ⟨h1, h3⟩ := hq.rested ha e1
    obtain ⟨h2, h4⟩ := hq2.rested ha2 e2
    right; left
    subst e
    exact ⟨by rw [h3, h4]; rfl, h3, h4⟩
  · have h1 : q.2.2.2 = true ∨ rests q = true := by
      rcases e1 with e1 | e1
      · subst e1
        exact hq.halting
      · exact .inr (hq.rested ha e1).2
    have h2 : q2.2.2.2 = true ∨ rests q2 = true := by
      rcases e2 with e2 | e2
      · subst e2
        exact hq2.halting
      · exact .inr (hq2.rested ha2 e2).2
    right
    subst e
    by_cases c : (rests q && rests q2) = true
    · left
      have c' : rests q = true ∧ rests q2 = true := by simpa using c
      exact ⟨by rw [c]; rfl, c'.1, c'.2⟩
    · right; left
      exact ⟨by rw [Bool.not_eq_true] at c; rw [c]; rfl, h1, h2⟩
  · subst e1 e2
    have h1 := hq.going
    have h2 := hq2.going
    right; right; right; left
    refine ⟨?_, h1.1, h2.1⟩
    unfold modeTo
    rcases e with e | e <;> subst e <;> split <;> simp
  · subst e1 e2 e3 e4
    have h1 := hq.going
    have h2 := hq2.going
    subst e
    by_cases c : (rests q && rests q2) = true
    · left
      have c' : rests q = true ∧ rests q2 = true := by simpa using c
      obtain ⟨r1, r2, r3⟩ := rests_of c'.1
      obtain ⟨s1, s2, s3⟩ := rests_of c'.2
      exact ⟨by rw [c]; rfl, by rw [r2]; exact h1.2, r1, h1.2, r3, by rw [s2]; exact h2.2, s1, h2.2, s3⟩
    · right; right; right; right
      exact ⟨by rw [Bool.not_eq_true] at c; rw [c]; rfl, h1.1, h2.1, h1.2, h2.2⟩
theorem send_mount {lo hi S a lo2 hi2 S2 a2 pa pb p v g p2 v2 g2 : Int} (t t2 : Bool) (m : Int) (hM : MtOk lo hi S a lo2 hi2 S2 a2 pa pb) (h : AxSt lo hi S a p v g) (h2 : AxSt lo2 hi2 S2 a2 p2 v2 g2) (x y k : Int) :
    mount_send.F (lo, hi, S, a, lo2, hi2, S2, a2, pa, pb, p, v, g, t, p2, v2, g2, t2, m, x, y, k) = some (if (lo ≤ x ∧ x ≤ hi) ∧ lo2 ≤ y ∧ y ≤ hi2 then (p, v, x, false, p2, v2, y, false, k, 0) else (0, 0, 0, false, 0, 0, 0, false, 0, 4)) := by
  obtain ⟨hA, hB, _⟩ := hM
  apply Y.is
  refine Y.of (mount_send.F_of _) ?_
  by_cases c : lo ≤ x ∧ x ≤ hi
  · refine Y.bE (axsend_yes t hA h x c.1 c.2) (Y.np rfl ?_)
    by_cases c2 : lo2 ≤ y ∧ y ≤ hi2
    · rw [if_pos ⟨c, c2⟩]
      exact Y.bE (axsend_yes t2 hB h2 y c2.1 c2.2) (Y.np rfl (Y.some rfl))
    · rw [if_neg fun h => c2 h.2]
      exact Y.bE (axsend_no t2 hB h2 y c2) (Y.nn (show ¬ (4 : Int) = 0 by decide) (Y.some rfl))
  · rw [if_neg fun h => c h.1]
    exact Y.bE (axsend_no t hA h x c) (Y.nn (show ¬ (4 : Int) = 0 by decide) (Y.some rfl))
def noM (e : Int) : Int × Int × Int × Bool × Int × Int × Int × Bool × Int × Int := (0, 0, 0, false, 0, 0, 0, false, 0, e)
theorem goto_spec {lo hi S a lo2 hi2 S2 a2 pa pb p v g p2 v2 g2 m : Int} {t t2 : Bool} (hM : MtOk lo hi S a lo2 hi2 S2 a2 pa pb) (h : AxSt lo hi S a p v g) (h2 : AxSt lo2 hi2 S2 a2 p2 v2 g2) (hm : ModeOk pa pb p v g t p2 v2 g2 t2 m) (x y : Int) :
    mount_Goto.F (lo, hi, S, a, lo2, hi2, S2, a2, pa, pb, p, v, g, t, p2, v2, g2, t2, m, x, y) = some (if m = 5 then noM 10 else if (lo ≤ x ∧ x ≤ hi) ∧ lo2 ≤ y ∧ y ≤ hi2 then (p, v, x, false, p2, v2, y, false, 2, 0) else noM 4) := by
  apply Y.is
  refine Y.of (mount_Goto.F_of _) (Y.bE (mount_check hM h h2 hm) (Y.np rfl (Y.ite (fun c => ?_) (fun c => ?_))))
  · rw [if_pos c]
    exact Y.some rfl
  · rw [if_neg c]
    exact Y.bE (send_mount t t2 m hM h h2 x y 2) (Y.some rfl)
theorem park_spec {lo hi S a lo2 hi2 S2 a2 pa pb p v g p2 v2 g2 m : Int} {t t2 : Bool} (hM : MtOk lo hi S a lo2 hi2 S2 a2 pa pb) (h : AxSt lo hi S a p v g) (h2 : AxSt lo2 hi2 S2 a2 p2 v2 g2) (hm : ModeOk pa pb p v g t p2 v2 g2 t2 m) :
    mount_Park.F (lo, hi, S, a, lo2, hi2, S2, a2, pa, pb, p, v, g, t, p2, v2, g2, t2, m) = some (if m = 5 then noM 10 else (p, v, pa, false, p2, v2, pb, false, 4, 0)) := by
  apply Y.is
  refine Y.of (mount_Park.F_of _) (Y.bE (mount_check hM h h2 hm) (Y.np rfl (Y.ite (fun c => ?_) (fun c => ?_))))
  · rw [if_pos c]
    exact Y.some rfl
  · rw [if_neg c]
    refine Y.bE (send_mount t t2 m hM h h2 pa pb 4) (Y.some ?_)
    rw [if_pos ⟨⟨hM.2.2.1, hM.2.2.2.1⟩, hM.2.2.2.2⟩]
theorem mstop_spec {lo hi S a lo2 hi2 S2 a2 pa pb p v g p2 v2 g2 m : Int} {t t2 : Bool} (hM : MtOk lo hi S a lo2 hi2 S2 a2 pa pb) (h : AxSt lo hi S a p v g) (h2 : AxSt lo2 hi2 S2 a2 p2 v2 g2) (hm : ModeOk pa pb p v g t p2 v2 g2 t2 m) :
    mount_Stop.F (lo, hi, S, a, lo2, hi2, S2, a2, pa, pb, p, v, g, t, p2, v2, g2, t2, m) = some (if m = 0 then (p, v, g, t, p2, v2, g2, t2, m, 0) else (p, v, g, true, p2, v2, g2, true, 5, 0)) := by
  apply Y.is
  refine Y.of (mount_Stop.F_of _) (Y.bE (mount_check hM h h2 hm) (Y.np rfl (Y.ite (fun c => ?_) (fun c => ?_))))
  · rw [if_pos c]
    exact Y.some rfl
  · rw [if_neg c]
    exact Y.bE (brake_spec t hM.1 h) (Y.bE (brake_spec t2 hM.2.1 h2) (Y.some rfl))
theorem follow_spec {lo hi S a lo2 hi2 S2 a2 pa pb p v g p2 v2 g2 m : Int} {t t2 : Bool} (hM : MtOk lo hi S a lo2 hi2 S2 a2 pa pb) (h : AxSt lo hi S a p v g) (h2 : AxSt lo2 hi2 S2 a2 p2 v2 g2) (hm : ModeOk pa pb p v g t p2 v2 g2 t2 m) (x y : Int) :
    Y (mount_Follow.F (lo, hi, S, a, lo2, hi2, S2, a2, pa, pb, p, v, g, t, p2, v2, g2, t2, m, x, y)) fun r => (∃ e, e ≠ 0 ∧ r = noM e) ∨ (m = 3 ∧ (lo ≤ x ∧ x ≤ hi) ∧ (lo2 ≤ y ∧ y ≤ hi2) ∧ r = (p, v, x, false, p2, v2, y, false, 3, 0)) := by
  have far : ∀ u w, ∃ b, mount_far.F (u, w) = some b := fun u w => by
    obtain ⟨r, hr, _⟩ : Y (mount_far.F (u, w)) fun _ => True := Y.of (mount_far.F_of _) (Y.some trivial)
    exact ⟨r, hr⟩
  obtain ⟨b1, hb1⟩ := far x g
  obtain ⟨b2, hb2⟩ := far y g2
  refine Y.of (mount_Follow.F_of _) (Y.bE (mount_check hM h h2 hm) (Y.np rfl (Y.nite (fun c => Y.some (.inl ⟨10, by decide, rfl⟩)) (fun c => Y.bE hb1 ?_))))
  cases b1 with
  | true => exact Y.neg rfl (Y.some (.inl ⟨16, by decide, rfl⟩))
  | false =>
    refine Y.pos rfl (Y.bE hb2 ?_)
    cases b2 with
    | true => exact Y.pos rfl (Y.some (.inl ⟨16, by decide, rfl⟩))
    | false =>
      refine Y.neg rfl (Y.bE (send_mount t t2 m hM h h2 x y 3) (Y.some ?_))
      by_cases g : (lo ≤ x ∧ x ≤ hi) ∧ lo2 ≤ y ∧ y ≤ hi2
      · rw [if_pos g]
        exact .inr ⟨c, g.1, g.2, rfl⟩
      · rw [if_neg g]
        exact .inl ⟨4, by decide, rfl⟩

/-! The dome. -/
theorem domeA : AxOk (-8589934592) 8589934592 33554432 4194304 := by
  unfold AxOk
  omega
/-- A dome's valid states. -/
def DomeOk (s c p v g : Int) : Prop := 0 ≤ s ∧ s ≤ 100 ∧ 0 ≤ c ∧ c ≤ 20 ∧ (0 < c → s = 100) ∧ AxSt (-8589934592) 8589934592 33554432 4194304 p v g
theorem dome_axis : dome_Axis.F () = some (-8589934592, 8589934592, 33554432, 4194304) := Y.is (Y.of (dome_Axis.F_of _) (Y.some rfl))
theorem dome_check {s c p v g : Int} (o l t : Bool) (h : DomeOk s c p v g) : dome_Check.F (s, c, o, l, p, v, g, t) = some 0 := by
  obtain ⟨h0, h1, h2, h3, h4, h5⟩ := h
  apply Y.is
  refine Y.of (dome_Check.F_of _) (Y.neg ?_ (Y.neg ?_ (Y.bE dome_axis (Y.bE (axis_check t domeA h5) (Y.some rfl)))))
  · simp only [Bool.or_eq_false_iff, decide_eq_false_iff_not]
    omega
  · rw [← Bool.decide_and]
    exact decide_eq_false (by omega)
/-- What a step does to the cover, and then to the shutter. -/
def domeC (s c : Int) (o l : Bool) : Int := if l = true ∧ o = true then (if s = 100 then min (c + 1) 20 else c) else max (c - 2) 0
def domeS (s c' : Int) (o : Bool) : Int := if o = true then min (s + 4) 100 else if c' = 0 then max (s - 5) 0 else s
theorem dome_step {s c p v g : Int} (o l t : Bool) (h : DomeOk s c p v g) :
    Y (dome_Step.F (s, c, o, l, p, v, g, t)) (fun r => ∃ q, StepTo 33554432 4194304 p v g t q ∧ r = (domeS s (domeC s c o l) o, domeC s c o l, o, l, q.1, q.2.1, q.2.2.1, q.2.2.2)) := by
  have hc := dome_check o l t h
  obtain ⟨h0, h1, h2, h3, h4, h5⟩ := h
  have fin : ∀ s' c', s' = domeS s c' o → c' = domeC s c o l → ∀ (x1 x2 : Int) (x3 x4 : Bool) (x5 x6 x7 : Int) (x8 : Bool), Y (dome_Step.D1 (s', c', o, l, p, v, g, t, x1, x2, x3, x4, x5, x6, x7, x8)) (fun r => ∃ q, StepTo 33554432 4194304 p v g t q ∧ r = (domeS s (domeC s c o l) o, domeC s c o l, o, l, q.1, q.2.1, q.2.2.1, q.2.2.2)) := by
    rintro s' c' rfl rfl x1 x2 x3 x4 x5 x6 x7 x8
    exact Y.of (dome_Step.D1_of _) (Y.bE dome_axis (Y.bnd _ (step_axis t domeA h5) fun q hq => Y.some ⟨q, hq, rfl⟩))
  have tail : ∀ c', c' = domeC s c o l → ∀ (x1 x2 : Int) (x3 x4 : Bool) (x5 x6 x7 : Int) (x8 : Bool), Y (dome_Step.D0 (s, c', o, l, p, v, g, t, x1, x2, x3, x4, x5, x6, x7, x8)) (fun r => ∃ q, StepTo 33554432 4194304 p v g t q ∧ r = (domeS s (domeC s c o l) o, domeC s c o l, o, l, q.1, q.2.1, q.2.2.1, q.2.2.2)) := by
    rintro c' hc' x1 x2 x3 x4 x5 x6 x7 x8
    refine Y.of (dome_Step.D0_of _) ?_
    dsimp only [dome_Step.d0]
    rw [w64 (x := s + 4) (by omega) (by omega), w64 (x := s - 5) (by omega) (by omega)]
    refine Y.bif (fun ho => fin _ _ ?_ hc' _ _ _ _ _ _ _ _) (fun ho => Y.ite (fun g => fin _ _ ?_ hc' _ _ _ _ _ _ _ _) (fun g => fin _ _ ?_ hc' _ _ _ _ _ _ _ _))
    · unfold domeS
      rw [if_pos ho]
    · unfold domeS
      rw [if_neg (by rw [ho]; exact Bool.false_ne_true), if_pos g]
    · unfold domeS
      rw [if_neg (by rw [ho]; exact Bool.false_ne_true), if_neg g]
  refine Y.of (dome_Step.F_of _) ?_
  dsimp only [dome_Step.d]
  rw [w64 (x := c + 1) (by omega) (by omega), w64 (x := c - 2) (by omega) (by omega)]
  refine Y.bE hc (Y.np rfl (Y.bif (fun hb => ?_) (fun hb => ?_)))
  · have hlo : l = true ∧ o = true := by simpa using hb
    refine Y.ite (fun g => tail _ ?_ _ _ _ _ _ _ _ _) (fun g => tail _ ?_ _ _ _ _ _ _ _ _)
    · unfold domeC
      rw [if_pos hlo, if_pos g]
    · unfold domeC
      rw [if_pos hlo, if_neg g]
  · have hlo : ¬ (l = true ∧ o = true) := by
      intro h
      rw [h.1, h.2] at hb
      cases hb
    refine tail _ ?_ _ _ _ _ _ _ _ _
    unfold domeC
    rw [if_neg hlo]
theorem domeC_ok (s c : Int) (o l : Bool) (h2 : 0 ≤ c) (h3 : c ≤ 20) (h4 : 0 < c → s = 100) : 0 ≤ domeC s c o l ∧ domeC s c o l ≤ 20 ∧ (0 < domeC s c o l → domeS s (domeC s c o l) o = 100) := by
  unfold domeC domeS
  by_cases c1 : l = true ∧ o = true
  · rw [if_pos c1, if_pos c1.2]
    by_cases c2 : s = 100
    · rw [if_pos c2]
      omega
    · rw [if_neg c2]
      omega
  · rw [if_neg c1]
    by_cases c2 : o = true
    · rw [if_pos c2]
      omega
    · rw [if_neg c2]
      refine ⟨by omega, by omega, fun h => ?_⟩
      rw [if_neg (by omega)]
      omega
theorem domeS_ok (s c : Int) (o : Bool) (h0 : 0 ≤ s) (h1 : s ≤ 100) : 0 ≤ domeS s c o ∧ domeS s c o ≤ 100 ∧ domeS s c o - s ≤ 5 ∧ s - domeS s c o ≤ 5 := by
  unfold domeS
  split
  · omega
  · split <;> omega
theorem dome_keeps {s c p v g : Int} {o l t : Bool} {q : Int × Int × Int × Bool} (h : DomeOk s c p v g) (hq : StepTo 33554432 4194304 p v g t q) : DomeOk (domeS s (domeC s c o l) o) (domeC s c o l) q.1 q.2.1 q.2.2.1 := by
  obtain ⟨h0, h1, h2, h3, h4, h5⟩ := h
  have hC := domeC_ok s c o l h2 h3 h4
  have hS := domeS_ok s (domeC s c o l) o h0 h1
  exact ⟨hS.1, hS.2.1, hC.1, hC.2.1, hC.2.2, (step_keeps domeA h5 hq).1⟩
theorem set_spec {s c p v g : Int} (o l t x y : Bool) (h : DomeOk s c p v g) : dome_Set.F (s, c, o, l, p, v, g, t, x, y) = some (s, c, x, y, p, v, g, t, 0) := by
  apply Y.is
  exact Y.of (dome_Set.F_of _) (Y.bE (dome_check o l t h) (Y.np rfl (Y.some rfl)))
theorem dbrake_spec {s c p v g : Int} (o l t : Bool) (h : DomeOk s c p v g) : dome_Brake.F (s, c, o, l, p, v, g, t) = some (s, c, o, l, p, v, g, true, 0) := by
  apply Y.is
  exact Y.of (dome_Brake.F_of _) (Y.bE (dome_check o l t h) (Y.np rfl (Y.bE dome_axis (Y.bE (brake_spec t domeA h.2.2.2.2.2) (Y.some rfl)))))

/-! The camera. -/
def CamOk (m l b n : Int) : Prop := 0 ≤ n ∧ n ≤ 1073741824 ∧ 0 ≤ b ∧ b ≤ 16 ∧ ((m = 0 ∧ l = 0 ∧ b = 0) ∨ (m = 1 ∧ 1 ≤ l ∧ l ≤ b ∧ n ≠ 0) ∨ (m = 2 ∧ 1 ≤ l ∧ l ≤ 3 ∧ n ≠ 0) ∨ (m = 3 ∧ l = 0 ∧ n ≠ 0))
theorem cam_check {m l b n : Int} (h : CamOk m l b n) : camera_Check.F (m, l, b, n) = some 0 := by
  obtain ⟨h0, h1, h2, h3, h⟩ := h
  have fin : ∀ k, k = true → (m ≠ 0 → n ≠ 0) → Y (camera_Check.D0 (k, m, l, b, n)) fun r => r = 0 := by
    rintro k rfl hn
    refine Y.of (camera_Check.D0_of _) (Y.neg ?_ (Y.some rfl))
    by_cases c : m = 0
    · simp [c]
    · simp [c, hn c]
  apply Y.is
  refine Y.of (camera_Check.F_of _) (Y.neg ?_ ?_)
  · simp only [Bool.or_eq_false_iff, decide_eq_false_iff_not]
    omega
  · rcases h with ⟨a, b, c⟩ | ⟨a, b, c, d⟩ | ⟨a, b, c, d⟩ | ⟨a, b, c⟩
    · exact Y.pd a (fin _ (by rw [← Bool.decide_and]; exact decide_eq_true ⟨b, c⟩) (by omega))
    · exact Y.nd (by omega) (Y.pd a (fin _ (by rw [← Bool.decide_and]; exact decide_eq_true ⟨b, c⟩) (by omega)))
    · exact Y.nd (by omega) (Y.nd (by omega) (Y.pd a (fin _ (by rw [← Bool.decide_and]; exact decide_eq_true ⟨b, c⟩) (by omega))))
    · exact Y.nd (by omega) (Y.nd (by omega) (Y.nd (by omega) (Y.pd a (fin _ (decide_eq_true b) (by omega)))))
/-- What a step does. -/
def camStep (m l b n : Int) : Int × Int × Int × Int :=
  if m = 1 then (if l - 1 = 0 then (2, 3, b, n) else (m, l - 1, b, n)) else if m = 2 then (if l - 1 = 0 then (3, l - 1, b, n) else (m, l - 1, b, n)) else (m, l, b, n)
theorem cam_step {m l b n : Int} (h : CamOk m l b n) : camera_Step.F (m, l, b, n) = some (camStep m l b n) := by
  have hc := cam_check h
  obtain ⟨h0, h1, h2, h3, h⟩ := h
  have fin : ∀ m' l', (m', l', b, n) = camStep m l b n → ∀ x y z u : Int, Y (camera_Step.D0 (m', l', b, n, x, y, z, u)) fun r => r = camStep m l b n := by
    intro m' l' h x y z u
    exact Y.of (camera_Step.D0_of _) (Y.some h)
  apply Y.is
  refine Y.of (camera_Step.F_of _) ?_
  dsimp only [camera_Step.d]
  rw [w64 (x := l - 1) (by omega) (by omega)]
  refine Y.bE hc (Y.np rfl (Y.ite (fun c => Y.ite (fun g => fin _ _ ?_ _ _ _ _) (fun g => fin _ _ ?_ _ _ _ _)) (fun c => Y.ite (fun c2 => Y.ite (fun g => fin _ _ ?_ _ _ _ _) (fun g => fin _ _ ?_ _ _ _ _)) (fun c2 => fin _ _ ?_ _ _ _ _))))
  · unfold camStep
    rw [if_pos c, if_pos g]
  · unfold camStep
    rw [if_pos c, if_neg g]
  · unfold camStep
    rw [if_neg c, if_pos c2, if_pos g]
  · unfold camStep
    rw [if_neg c, if_pos c2, if_neg g]
  · unfold camStep
    rw [if_neg c, if_neg c2]
theorem cam_keeps {m l b n : Int} (h : CamOk m l b n) : CamOk (camStep m l b n).1 (camStep m l b n).2.1 (camStep m l b n).2.2.1 (camStep m l b n).2.2.2 ∧ ((camStep m l b n).1 = 1 → m = 1) := by
  obtain ⟨h0, h1, h2, h3, h⟩ := h
  unfold camStep CamOk
  split
  · split <;> dsimp only <;> omega
  · split
    · split <;> dsimp only <;> omega
    · dsimp only
      omega
theorem expose_spec {m l b n : Int} (x : Int) (h : CamOk m l b n) : Y (camera_Expose.F (m, l, b, n, x)) fun r => (∃ e, e ≠ 0 ∧ r = (0, 0, 0, 0, e)) ∨ (r.2.2.2.2 = 0 ∧ CamOk r.1 r.2.1 r.2.2.1 r.2.2.2.1) := by
  have hc := cam_check h
  obtain ⟨h0, h1, h2, h3, h⟩ := h
  refine Y.of (camera_Expose.F_of _) ?_
  dsimp only [camera_Expose.d]
  rw [w64 (x := n + 1) (by omega) (by omega)]
  refine Y.bE hc (Y.np rfl (Y.nite (fun c => Y.some (.inl ⟨10, by decide, rfl⟩)) (fun c => Y.bif (fun g => Y.some (.inl ⟨4, by decide, rfl⟩)) (fun g => Y.ite (fun c2 => Y.some (.inl ⟨9, by decide, rfl⟩)) (fun c2 => ?_)))))
  simp only [Bool.or_eq_false_iff, decide_eq_false_iff_not] at g
  refine Y.ite (fun c3 => Y.of (camera_Expose.D0_of _) (Y.some (.inr ⟨rfl, ?_⟩))) (fun c3 => Y.of (camera_Expose.D0_of _) (Y.some (.inr ⟨rfl, ?_⟩)))
  · unfold CamOk
    dsimp only
    omega
  · unfold CamOk
    dsimp only
    omega
theorem abort_spec {m l b n : Int} (h : CamOk m l b n) : camera_Abort.F (m, l, b, n) = some (if m = 1 then (0, 0, 0, n, 0) else (0, 0, 0, 0, 10)) := by
  apply Y.is
  refine Y.of (camera_Abort.F_of _) (Y.bE (cam_check h) (Y.np rfl (Y.nite (fun c => ?_) (fun c => ?_))))
  · rw [if_neg c]
    exact Y.some rfl
  · rw [if_pos c]
    exact Y.some rfl
theorem fetch_spec {m l b n : Int} (h : CamOk m l b n) : camera_Fetch.F (m, l, b, n) = some (if m = 3 then (0, 0, 0, n, n, b, 0) else (0, 0, 0, 0, 0, 0, 10)) := by
  apply Y.is
  refine Y.of (camera_Fetch.F_of _) (Y.bE (cam_check h) (Y.np rfl (Y.nite (fun c => ?_) (fun c => ?_))))
  · rw [if_neg c]
    exact Y.some rfl
  · rw [if_pos c]
    exact Y.some rfl
end Go.Proofs.RGuR
namespace Go.Proofs.RGuR
open Go Go.Eng

/-- A mount. -/
structure Mn where
  (lo hi S a lo2 hi2 S2 a2 pa pb : Int)
/-- A world. -/
structure Wd where
  p : Int
  v : Int
  g : Int
  t : Bool
  p2 : Int
  v2 : Int
  g2 : Int
  t2 : Bool
  mm : Int
  sh : Int
  co : Int
  op : Bool
  li : Bool
  pd : Int
  vd : Int
  gd : Int
  td : Bool
  cm : Int
  cl : Int
  cb : Int
  cn : Int
  s1 : Bool
  s2 : Bool
  s3 : Bool
  s4 : Bool
  s5 : Bool
  aa : Int
  ab : Int
  md : Int
  hz : Int
  ky : Int
abbrev WT : Type := Int × Int × Int × Bool × Int × Int × Int × Bool × Int × Int × Int × Bool × Bool × Int × Int × Int × Bool × Int × Int × Int × Int × Bool × Bool × Bool × Bool × Bool × Int × Int × Int × Int × Int
abbrev Mn.k {α : Type} (m : Mn) (r : α) : Int × Int × Int × Int × Int × Int × Int × Int × Int × Int × α := (m.lo, m.hi, m.S, m.a, m.lo2, m.hi2, m.S2, m.a2, m.pa, m.pb, r)
abbrev Wd.k {α : Type} (w : Wd) (r : α) : Int × Int × Int × Bool × Int × Int × Int × Bool × Int × Int × Int × Bool × Bool × Int × Int × Int × Bool × Int × Int × Int × Int × Bool × Bool × Bool × Bool × Bool × Int × Int × Int × Int × Int × α := (w.p, w.v, w.g, w.t, w.p2, w.v2, w.g2, w.t2, w.mm, w.sh, w.co, w.op, w.li, w.pd, w.vd, w.gd, w.td, w.cm, w.cl, w.cb, w.cn, w.s1, w.s2, w.s3, w.s4, w.s5, w.aa, w.ab, w.md, w.hz, w.ky, r)
abbrev Wd.e (w : Wd) : WT := (w.p, w.v, w.g, w.t, w.p2, w.v2, w.g2, w.t2, w.mm, w.sh, w.co, w.op, w.li, w.pd, w.vd, w.gd, w.td, w.cm, w.cl, w.cb, w.cn, w.s1, w.s2, w.s3, w.s4, w.s5, w.aa, w.ab, w.md, w.hz, w.ky)
abbrev Mn.e (m : Mn) : Int × Int × Int × Int × Int × Int × Int × Int × Int × Int := (m.lo, m.hi, m.S, m.a, m.lo2, m.hi2, m.S2, m.a2, m.pa, m.pb)
def Mn.Ok (m : Mn) : Prop := MtOk m.lo m.hi m.S m.a m.lo2 m.hi2 m.S2 m.a2 m.pa m.pb
def w0 : Wd := ⟨0, 0, 0, false, 0, 0, 0, false, 0, 0, 0, false, false, 0, 0, 0, false, 0, 0, 0, 0, false, false, false, false, false, 0, 0, 0, 0, 0⟩
/-- Whether everything is at rest. -/
def Wd.Rest (w : Wd) : Prop := w.v = 0 ∧ w.v2 = 0 ∧ w.vd = 0 ∧ w.cm ≠ 1 ∧ w.sh = 0 ∧ w.co = 0
instance (w : Wd) : Decidable w.Rest := by unfold Wd.Rest; infer_instance
def Wd.Stops (w : Wd) : Prop := (w.mm = 0 ∨ w.mm = 1 ∨ w.mm = 5) ∧ (w.td = true ∨ rests (w.pd, w.vd, w.gd, w.td) = true) ∧ w.op = false ∧ w.li = false ∧ w.cm ≠ 1
def Wd.haz (w : Wd) : Bool := w.s1 || w.s2 || w.s3 || w.s4
structure Phys (m : Mn) (w : Wd) : Prop where
  az : AxSt m.lo m.hi m.S m.a w.p w.v w.g
  al : AxSt m.lo2 m.hi2 m.S2 m.a2 w.p2 w.v2 w.g2
  mode : ModeOk m.pa m.pb w.p w.v w.g w.t w.p2 w.v2 w.g2 w.t2 w.mm
  dome : DomeOk w.sh w.co w.pd w.vd w.gd
  cam : CamOk w.cm w.cl w.cb w.cn
structure Val (m : Mn) (w : Wd) : Prop extends Phys m w where
  md : 0 ≤ w.md ∧ w.md ≤ 2
  hz : 0 ≤ w.hz ∧ w.hz ≤ 17592186044416
  ky : 0 ≤ w.ky ∧ w.ky ≤ 17592186044416
  hard : w.cm = 1 → w.mm = 3 ∧ w.sh = 100 ∧ w.co = 20
  haz : 0 < w.hz ↔ w.haz = true
  key : 0 < w.ky ↔ w.s5 = true
  run : w.md = 0 → w.hz = 0
  safe : w.md = 2 → w.Rest
  stop : w.md ≠ 0 → w.Stops
  clr : w.cm = 1 → w.op = true ∧ w.li = true
theorem hard_spec (w : Wd) (h1 : 0 < w.co → w.sh = 100) (h2 : w.cm = 1 → w.mm = 3 ∧ w.sh = 100 ∧ w.co = 20) : guard_Hard.F w.e = some 0 := by
  apply Y.is
  refine Y.of (guard_Hard.F_of _) (Y.neg ?_ (Y.of (guard_Hard.D0_of _) (Y.neg ?_ (Y.of (guard_Hard.D1_of _) (Y.some rfl)))))
  · rw [← Bool.decide_and]
    exact decide_eq_false (by omega)
  · by_cases c : w.cm = 1
    · obtain ⟨g1, g2, g3⟩ := h2 c
      simp [g1, g2, g3]
    · simp [c]
theorem rest_spec (w : Wd) : guard_AtRest.F w.e = some (decide w.Rest) := by
  have h1 : mount_Moving.F (w.p, w.v, w.g, w.t, w.p2, w.v2, w.g2, w.t2, w.mm) = some (!decide (w.v = 0) || !decide (w.v2 = 0)) := Y.is (Y.of (mount_Moving.F_of _) (Y.some rfl))
  have h2 : dome_Closed.F (w.sh, w.co, w.op, w.li, w.pd, w.vd, w.gd, w.td) = some (decide (w.sh = 0) && decide (w.co = 0)) := Y.is (Y.of (dome_Closed.F_of _) (Y.some rfl))
  apply Y.is
  refine Y.of (guard_AtRest.F_of _) (Y.bE h1 ?_)
  unfold Wd.Rest
  by_cases c1 : w.v = 0
  · by_cases c2 : w.v2 = 0
    · by_cases c3 : w.vd = 0
      · by_cases c4 : w.cm = 1
        · exact Y.neg (by simp [c4]) (Y.some (by simp [c4]))
        · refine Y.pos (by simp [c1, c2, c3, c4]) (Y.bE h2 (Y.some ?_))
          rw [← Bool.decide_and]
          exact decide_eq_decide.mpr (by simp [c1, c2, c3, c4])
      · exact Y.neg (by simp [c3]) (Y.some (by simp [c3]))
    · exact Y.neg (by simp [c2]) (Y.some (by simp [c2]))
  · exact Y.neg (by simp [c1]) (Y.some (by simp [c1]))
theorem stops_spec (w : Wd) (h : w.Stops) : guard_stops.F w.e = some true := by
  obtain ⟨h1, h2, h3, h4, h5⟩ := h
  apply Y.is
  refine Y.of (guard_stops.F_of _) (Y.pos ?_ (Y.bif (fun c => Y.bE (resting_eq _) (Y.some ?_)) (fun c => Y.some ?_)))
  · rcases h1 with h | h | h <;> simp [h]
  · have c' : w.td = false := by simpa using c
    have h2' := h2.resolve_left (by rw [c']; exact Bool.false_ne_true)
    rw [h2', h3, h4]
    simp [h5]
  · rw [h3, h4]
    simp [h5]
theorem hazard_spec (a b c d e : Bool) : guard_Sensors_Hazard.F (a, b, c, d, e) = some (a || b || c || d) := Y.is (Y.of (guard_Sensors_Hazard.F_of _) (Y.some rfl))
theorem check_world {m : Mn} {w : Wd} (hm : m.Ok) (h : Val m w) : guard_Check.F (m.k w.e) = some 0 := by
  have hd := h.md
  have hz := h.hz
  have hk := h.ky
  have b1 : (!decide (0 < w.hz) == w.haz) = false := by
    cases c : w.haz with
    | true => have := h.haz.mpr c; simp [this]
    | false =>
      have : ¬ 0 < w.hz := fun g => by rw [h.haz.mp g] at c; cases c
      simp [this]
  have b2 : (!decide (0 < w.ky) == w.s5) = false := by
    cases c : w.s5 with
    | true => have := h.key.mpr c; simp [this]
    | false =>
      have : ¬ 0 < w.ky := fun g => by rw [h.key.mp g] at c; cases c
      simp [this]
  have b3 : (decide (w.md = 0) && decide (0 < w.hz)) = false := by
    rw [← Bool.decide_and]
    exact decide_eq_false fun g => by have := h.run g.1; omega
  have b4 : (decide (w.cm = 1) && !(w.op && w.li)) = false := by
    by_cases c : w.cm = 1
    · obtain ⟨g1, g2⟩ := h.clr c
      simp [g1, g2]
    · simp [c]
  have fin2 : Y (br ((!decide (w.md = 0)) == true) (bnd (guard_stops.F w.e) fun r => br (!r || decide (w.cm = 1) && !(w.op && w.li)) (some (10 : Int)) (some 0)) (br (decide (w.cm = 1) && !(w.op && w.li)) (some (10 : Int)) (some 0))) fun r => r = 0 := by
    by_cases c : w.md = 0
    · exact Y.neg (by simp [c]) (Y.neg b4 (Y.some rfl))
    · exact Y.pos (by simp [c]) (Y.bE (stops_spec w (h.stop c)) (Y.neg (by rw [b4]; rfl) (Y.some rfl)))
  apply Y.is
  refine Y.of (guard_Check.F_of _) (Y.bE (mount_check hm h.az h.al h.mode) (Y.np rfl (Y.bE (dome_check _ _ _ h.dome) (Y.np rfl (Y.bE (cam_check h.cam) (Y.np rfl (Y.neg ?_ (Y.bE (hard_spec w h.dome.2.2.2.2.1 h.hard) (Y.np rfl (Y.bE (hazard_spec _ _ _ _ _) (Y.neg ?_ ?_)))))))))))
  · simp only [Bool.or_eq_false_iff, decide_eq_false_iff_not]
    omega
  · have : (!decide (0 < w.hz) == w.haz || !decide (0 < w.ky) == w.s5 || decide (w.md = 0) && decide (0 < w.hz)) = false := by rw [b1, b2, b3]; rfl
    exact this
  · by_cases c : w.md = 2
    · refine Y.pos (by simp [c]) (Y.bE (rest_spec w) (Y.pos ?_ fin2))
      rw [decide_eq_true (h.safe c)]
      rfl
    · exact Y.neg (by simp [c]) fin2
/-- What is permitted. -/
def permB (w : Wd) (k : Int) : Bool :=
  if k = 0 ∨ k = 1 ∨ k = 7 ∨ k = 5 ∨ k = 10 ∨ k = 11 ∨ k = 12 then true
  else if k = 13 then decide (w.md = 2) && decide (w.hz = 0)
  else if k = 2 ∨ k = 3 ∨ k = 4 ∨ k = 8 ∨ k = 9 then decide (w.md = 0) && decide (w.ky = 0)
  else decide (w.md = 0)
theorem perm_spec (w : Wd) (k : Int) : guard_permitted.F (w.k k) = some (permB w k) := by
  have f2 : Y (guard_permitted.D2 w.e) fun r => r = decide (w.md = 0) := Y.of (guard_permitted.D2_of _) (Y.some rfl)
  have f1 : ∀ b, Y (guard_permitted.D1 (b, w.e)) fun r => r = if b = true then decide (w.md = 0) && decide (w.ky = 0) else decide (w.md = 0) := by
    intro b
    refine Y.of (guard_permitted.D1_of _) ?_
    cases b with
    | true => exact Y.pos rfl (Y.some rfl)
    | false => exact Y.neg rfl f2
  have f0 : ∀ b, b = decide (k = 0 ∨ k = 1 ∨ k = 7 ∨ k = 5 ∨ k = 10 ∨ k = 11 ∨ k = 12) → Y (guard_permitted.D0 (k, b, w.e)) fun r => r = permB w k := by
    intro b hb
    refine Y.of (guard_permitted.D0_of _) ?_
    unfold permB
    by_cases c : k = 0 ∨ k = 1 ∨ k = 7 ∨ k = 5 ∨ k = 10 ∨ k = 11 ∨ k = 12
    · rw [if_pos c]
      exact Y.pos (by rw [hb]; exact decide_eq_true c) (Y.some rfl)
    · rw [if_neg c]
      refine Y.neg (by rw [hb]; exact decide_eq_false c) (Y.ite (fun c1 => ?_) (fun c1 => ?_))
      · rw [if_pos c1]
        exact Y.some rfl
      · rw [if_neg c1]
        have go : ∀ q : Prop, [Decidable q] → (q → k = 2 ∨ k = 3 ∨ k = 4 ∨ k = 8 ∨ k = 9) → q → Y (guard_permitted.D1 (decide q, w.e)) fun r => r = if k = 2 ∨ k = 3 ∨ k = 4 ∨ k = 8 ∨ k = 9 then decide (w.md = 0) && decide (w.ky = 0) else decide (w.md = 0) := by
          intro q _ hq h
          rw [if_pos (hq h)]
          refine (f1 _).mono fun r hr => ?_
          rw [hr, if_pos (decide_eq_true h)]
        refine Y.ite (fun g => go _ (fun h => .inl h) g) (fun g1 => Y.ite (fun g => go _ (fun h => .inr (.inl h)) g) (fun g2 => Y.ite (fun g => go _ (fun h => .inr (.inr (.inl h))) g) (fun g3 => Y.ite (fun g => go _ (fun h => .inr (.inr (.inr (.inl h)))) g) (fun g4 => ?_))))
        by_cases g : k = 9
        · exact go _ (fun h => .inr (.inr (.inr (.inr h)))) g
        · rw [if_neg (by omega)]
          refine (f1 _).mono fun r hr => ?_
          rw [hr, if_neg (by simp [g])]
  apply Y.is
  refine Y.of (guard_permitted.F_of _) (Y.ite (fun c => f0 _ ?_) (fun c0 => Y.ite (fun c => f0 _ ?_) (fun c1 => Y.ite (fun c => f0 _ ?_) (fun c2 => Y.ite (fun c => f0 _ ?_) (fun c3 => Y.ite (fun c => f0 _ ?_) (fun c4 => Y.ite (fun c => f0 _ ?_) (fun c5 => f0 _ ?_)))))))
  all_goals exact decide_eq_decide.mpr (by omega)
def Wd.stopM (w : Wd) : Wd := if w.mm = 0 then w else { w with t := true, t2 := true, mm := 5 }
def Wd.abortC (w : Wd) : Wd := if w.cm = 1 then { w with cm := 0, cl := 0, cb := 0 } else w
def Wd.lock (w : Wd) : Wd := ({ w with td := true } : Wd).abortC.stopM
def Wd.begin (w : Wd) : Wd := ({ w with md := 1, op := false, li := false, td := true } : Wd).abortC.stopM
theorem Phys.stopM {m : Mn} {w : Wd} (h : Phys m w) : Phys m w.stopM := by
  unfold Wd.stopM
  split
  · exact h
  · exact ⟨h.az, h.al, .inr (.inr (.inl ⟨rfl, .inl rfl, .inl rfl⟩)), h.dome, h.cam⟩
theorem Phys.abortC {m : Mn} {w : Wd} (h : Phys m w) : Phys m w.abortC := by
  unfold Wd.abortC
  split
  · exact ⟨h.az, h.al, h.mode, h.dome, h.cam.1, h.cam.2.1, Int.le_refl 0, (by show (0 : Int) ≤ 16; decide), .inl ⟨rfl, rfl, rfl⟩⟩
  · exact h
theorem Phys.lock {m : Mn} {w : Wd} (h : Phys m w) : Phys m w.lock := (Phys.abortC (w := { w with td := true }) ⟨h.az, h.al, h.mode, h.dome, h.cam⟩).stopM
theorem Phys.begin {m : Mn} {w : Wd} (h : Phys m w) : Phys m w.begin := (Phys.abortC (w := { w with md := 1, op := false, li := false, td := true }) ⟨h.az, h.al, h.mode, h.dome, h.cam⟩).stopM
theorem lock_spec {m : Mn} {w : Wd} (hm : m.Ok) (h : Phys m w) : guard_lock.F (m.k w.e) = some w.lock.e := by
  have h1 := mstop_spec hm h.az h.al h.mode
  have h2 := dbrake_spec w.op w.li w.td h.dome
  have tail : ∀ cm cl cb cn, (cm, cl, cb, cn) = (if w.cm = 1 then (0, 0, 0, w.cn) else (w.cm, w.cl, w.cb, w.cn)) → Y (guard_lock.D0 (m.k (({ w with cm := cm, cl := cl, cb := cb, cn := cn } : Wd).k w0.e))) fun r => r = w.lock.e := by
    intro cm cl cb cn hc
    refine Y.of (guard_lock.D0_of _) (Y.bE h1 (Y.bE h2 (Y.some ?_)))
    unfold Wd.lock Wd.stopM Wd.abortC
    by_cases c : w.mm = 0
    · by_cases d : w.cm = 1
      · rw [if_pos d] at hc
        cases hc
        simp [c, d]
      · rw [if_neg d] at hc
        cases hc
        simp [c, d]
    · by_cases d : w.cm = 1
      · rw [if_pos d] at hc
        cases hc
        simp [c, d]
      · rw [if_neg d] at hc
        cases hc
        simp [c, d]
  apply Y.is
  refine Y.of (guard_lock.F_of _) (Y.ite (fun c => Y.bE (abort_spec h.cam) ?_) (fun c => ?_))
  · rw [if_pos c]
    exact tail 0 0 0 w.cn (by rw [if_pos c])
  · exact tail w.cm w.cl w.cb w.cn (by rw [if_neg c])
theorem begin_spec {m : Mn} {w : Wd} (hm : m.Ok) (h : Phys m w) : guard_begin.F (m.k w.e) = some w.begin.e := by
  have h1 := mstop_spec hm h.az h.al h.mode
  have h3 := set_spec w.op w.li w.td false false h.dome
  have h2 := dbrake_spec false false w.td h.dome
  have tail : ∀ cm cl cb cn, (cm, cl, cb, cn) = (if w.cm = 1 then (0, 0, 0, w.cn) else (w.cm, w.cl, w.cb, w.cn)) → Y (guard_begin.D0 (m.k (({ w with cm := cm, cl := cl, cb := cb, cn := cn, md := 1 } : Wd).k w0.e))) fun r => r = w.begin.e := by
    intro cm cl cb cn hc
    refine Y.of (guard_begin.D0_of _) (Y.bE h1 (Y.bE h3 (Y.bE h2 (Y.some ?_))))
    unfold Wd.begin Wd.stopM Wd.abortC
    by_cases c : w.mm = 0
    · by_cases d : w.cm = 1
      · rw [if_pos d] at hc
        cases hc
        simp [c, d]
      · rw [if_neg d] at hc
        cases hc
        simp [c, d]
    · by_cases d : w.cm = 1
      · rw [if_pos d] at hc
        cases hc
        simp [c, d]
      · rw [if_neg d] at hc
        cases hc
        simp [c, d]
  apply Y.is
  refine Y.of (guard_begin.F_of _) (Y.ite (fun c => Y.bE (abort_spec h.cam) ?_) (fun c => ?_))
  · rw [if_pos c]
    exact tail 0 0 0 w.cn (by rw [if_pos c])
  · exact tail w.cm w.cl w.cb w.cn (by rw [if_neg c])
end Go.Proofs.RGuR
namespace Go.Proofs.RGuR
open Go Go.Eng

theorem Val.lock {m : Mn} {w : Wd} (h : Val m w) : Val m w.lock ∧ (w.lock.mm = 0 ∨ w.lock.mm = 5) ∧ w.lock.cm ≠ 1 ∧ w.lock.td = true := by
  have hp := h.toPhys.lock
  have e1 : w.lock.v = w.v ∧ w.lock.v2 = w.v2 ∧ w.lock.vd = w.vd ∧ w.lock.sh = w.sh ∧ w.lock.co = w.co ∧ w.lock.op = w.op ∧ w.lock.li = w.li ∧ w.lock.md = w.md ∧ w.lock.hz = w.hz ∧ w.lock.ky = w.ky ∧ w.lock.haz = w.haz ∧ w.lock.s5 = w.s5 ∧ w.lock.td = true ∧ (w.lock.mm = 0 ∨ w.lock.mm = 5) ∧ w.lock.cm ≠ 1 := by
    unfold Wd.lock Wd.stopM Wd.abortC
    by_cases c : w.mm = 0
    · by_cases d : w.cm = 1 <;> simp [c, d, Wd.haz]
    · by_cases d : w.cm = 1 <;> simp [c, d, Wd.haz]
  obtain ⟨q1, q2, q3, q4, q5, q6, q7, q8, q9, q10, q11, q12, q13, q14, q15⟩ := e1
  refine ⟨⟨hp, by rw [q8]; exact h.md, by rw [q9]; exact h.hz, by rw [q10]; exact h.ky, fun g => absurd g q15, by rw [q9, q11]; exact h.haz, by rw [q10, q12]; exact h.key, by rw [q8, q9]; exact h.run, fun g => ?_, fun g => ?_, fun g => absurd g q15⟩, q14, q15, q13⟩
  · rw [q8] at g
    obtain ⟨r1, r2, r3, r4, r5, r6⟩ := h.safe g
    exact ⟨q1.trans r1, q2.trans r2, q3.trans r3, q15, q4.trans r5, q5.trans r6⟩
  · rw [q8] at g
    obtain ⟨r1, r2, r3, r4, r5⟩ := h.stop g
    exact ⟨q14.elim .inl fun h => .inr (.inr h), .inl q13, q6.trans r3, q7.trans r4, q15⟩
theorem Phys.beginVal {m : Mn} {w : Wd} (h : Phys m w) (hz : 0 ≤ w.hz ∧ w.hz ≤ 17592186044416) (ky : 0 ≤ w.ky ∧ w.ky ≤ 17592186044416) (h1 : 0 < w.hz ↔ w.haz = true) (h2 : 0 < w.ky ↔ w.s5 = true) : Val m w.begin := by
  have hp := h.begin
  have e1 : w.begin.op = false ∧ w.begin.li = false ∧ w.begin.md = 1 ∧ w.begin.hz = w.hz ∧ w.begin.ky = w.ky ∧ w.begin.haz = w.haz ∧ w.begin.s5 = w.s5 ∧ w.begin.td = true ∧ (w.begin.mm = 0 ∨ w.begin.mm = 5) ∧ w.begin.cm ≠ 1 := by
    unfold Wd.begin Wd.stopM Wd.abortC
    by_cases c : w.mm = 0
    · by_cases d : w.cm = 1 <;> simp [c, d, Wd.haz]
    · by_cases d : w.cm = 1 <;> simp [c, d, Wd.haz]
  obtain ⟨q6, q7, q8, q9, q10, q11, q12, q13, q14, q15⟩ := e1
  refine ⟨hp, by omega, by rw [q9]; exact hz, by rw [q10]; exact ky, fun g => absurd g q15, by rw [q9, q11]; exact h1, by rw [q10, q12]; exact h2, fun g => by omega, fun g => by omega, fun g => ?_, fun g => absurd g q15⟩
  exact ⟨q14.elim .inl fun h => .inr (.inr h), .inl q13, q6, q7, q15⟩
/-- A speed that falls. -/
def Dec (a v v' : Int) : Prop := v' = 0 ∨ max v' (-v') + a ≤ max v (-v)
theorem dec_halt {S a p v g : Int} {q : Int × Int × Int × Bool} (h : StepTo S a p v g true q) : Dec a v q.2.1 := by
  rcases h.2 with ⟨_, e, _⟩ | ⟨h, _⟩
  · unfold Dec
    rw [e]
    split <;> omega
  · cases h
theorem dec_rest {S a p v g : Int} {t : Bool} {q : Int × Int × Int × Bool} (ha : 1 ≤ a) (h : StepTo S a p v g t q) (k : rests (p, v, g, t) = true) : Dec a v q.2.1 := by
  obtain ⟨e, _⟩ := h.rested ha k
  rw [e]
  exact .inl (rests_of k).1
theorem dec_any {S a p v g : Int} {t : Bool} {q : Int × Int × Int × Bool} (ha : 1 ≤ a) (h : StepTo S a p v g t q) (k : t = true ∨ rests (p, v, g, t) = true) : Dec a v q.2.1 := by
  rcases k with rfl | k
  · exact dec_halt h
  · exact dec_rest ha h k
theorem dec_zero {a v v' : Int} (ha : 1 ≤ a) (h : Dec a v v') (hv : v = 0) : v' = 0 := by
  unfold Dec at h
  omega
/-- A mount in one of the modes in which nothing is on its way brakes or rests. -/
theorem still_any {pa pb p v g p2 v2 g2 mm : Int} {t t2 : Bool} (h : ModeOk pa pb p v g t p2 v2 g2 t2 mm) (k : mm = 0 ∨ mm = 1 ∨ mm = 5) : (t = true ∨ rests (p, v, g, t) = true) ∧ (t2 = true ∨ rests (p2, v2, g2, t2) = true) := by
  rcases h with ⟨e, e1, e2, e3, e4, e5, e6, e7, e8⟩ | ⟨e, e1, e2⟩ | ⟨e, e1, e2⟩ | ⟨e, _⟩ | ⟨e, _⟩
  · exact ⟨.inr (rests_mk e2 (by omega) e4), .inr (rests_mk e6 (by omega) e8)⟩
  · exact ⟨.inr e1, .inr e2⟩
  · exact ⟨e1, e2⟩
  · omega
  · omega
theorem still_mode {mm : Int} (b : Bool) (k : mm = 0 ∨ mm = 1 ∨ mm = 5) : modeTo mm b = 0 ∨ modeTo mm b = 1 ∨ modeTo mm b = 5 := by
  unfold modeTo
  rcases k with rfl | rfl | rfl <;> cases b <;> decide
structure StepRel (m : Mn) (w : Wd) (hz key : Bool) (w' : Wd) : Prop where
  hzc : w'.hz = if hz = true then min (w.hz + 1) 17592186044416 else 0
  kyc : w'.ky = if key = true then min (w.ky + 1) 17592186044416 else 0
  mdN : w.md ≠ 0 → w'.md ≠ 0
  mdH : hz = true → w'.md ≠ 0
  dome : w'.md ≠ 0 → w'.co = max (w.co - 2) 0 ∧ w'.sh = if w'.co = 0 then max (w.sh - 5) 0 else w.sh
  dec : w'.md ≠ 0 ∨ key = true → Dec m.a w.v w'.v ∧ Dec m.a2 w.v2 w'.v2
  decd : w'.md ≠ 0 → Dec 4194304 w.vd w'.vd
  key : key = true → (w'.mm = 0 ∨ w'.mm = 1 ∨ w'.mm = 5) ∧ w'.cm ≠ 1
  rest : w'.md = 1 → ¬ w'.Rest
/-- A world whose devices made a step. -/
def Wd.moved (w : Wd) (q q2 q3 : Int × Int × Int × Bool) (cm' cl' cb' cn' md' : Int) : Wd := ({ w with p := q.1, v := q.2.1, g := q.2.2.1, t := q.2.2.2, p2 := q2.1, v2 := q2.2.1, g2 := q2.2.2.1, t2 := q2.2.2.2, mm := modeTo w.mm (rests q && rests q2), sh := domeS w.sh (domeC w.sh w.co w.op w.li) w.op, co := domeC w.sh w.co w.op w.li, pd := q3.1, vd := q3.2.1, gd := q3.2.2.1, td := q3.2.2.2, cm := cm', cl := cl', cb := cb', cn := cn', md := md' } : Wd)
set_option maxHeartbeats 2000000 in
/-- The devices' step. -/
theorem step_tail {m : Mn} {w : Wd} (hm : m.Ok) (h : Val m w) : Y (guard_Step.D1 (m.k (w.k w0.e))) fun r => ∃ w', r = w'.e ∧ Val m w' ∧ w'.hz = w.hz ∧ w'.ky = w.ky ∧ (w.md ≠ 0 → w'.md ≠ 0) ∧ (w.md = 0 → w'.md = 0) ∧
    (w.md ≠ 0 → w'.co = max (w.co - 2) 0 ∧ w'.sh = if w'.co = 0 then max (w.sh - 5) 0 else w.sh) ∧ (w.mm = 0 ∨ w.mm = 1 ∨ w.mm = 5 → (Dec m.a w.v w'.v ∧ Dec m.a2 w.v2 w'.v2) ∧ (w'.mm = 0 ∨ w'.mm = 1 ∨ w'.mm = 5)) ∧ (w.md ≠ 0 → Dec 4194304 w.vd w'.vd) ∧ (w.cm ≠ 1 → w'.cm ≠ 1) ∧ (w'.md = 1 → ¬ w'.Rest) := by
  have ha : 1 ≤ m.a ∧ 1 ≤ m.a2 := ⟨hm.1.2.2.2.2.2.1, hm.2.1.2.2.2.2.2.1⟩
  refine Y.of (guard_Step.D1_of _) (Y.bnd _ (mount_step hm h.az h.al h.mode) ?_)
  rintro r ⟨q, q2, hq, hq2, rfl⟩
  refine Y.bnd _ (dome_step w.op w.li w.td h.dome) ?_
  rintro r ⟨q3, hq3, rfl⟩
  refine Y.bE (cam_step h.cam) ?_
  obtain ⟨k1, k2⟩ := cam_keeps h.cam
  generalize camStep w.cm w.cl w.cb w.cn = cs at *
  obtain ⟨cm', cl', cb', cn'⟩ := cs
  dsimp only at k1 k2
  have hdome := dome_keeps (o := w.op) (l := w.li) h.dome hq3
  have hmode := mode_keeps ha.1 ha.2 h.mode hq hq2
  have haz := (step_keeps hm.1 h.az hq).1
  have hal := (step_keeps hm.2.1 h.al hq2).1
  -- the world behind
  have key : ∀ md', (md' = w.md ∨ w.md = 1 ∧ md' = 2) → ∀ w', w' = w.moved q q2 q3 cm' cl' cb' cn' md' →
      (md' = 2 → w.md = 1 → w'.Rest) → (md' = 1 → ¬ w'.Rest) → Val m w' ∧ w'.hz = w.hz ∧ w'.ky = w.ky ∧ (w.md ≠ 0 → w'.md ≠ 0) ∧ (w.md = 0 → w'.md = 0) ∧
    (w.md ≠ 0 → w'.co = max (w.co - 2) 0 ∧ w'.sh = if w'.co = 0 then max (w.sh - 5) 0 else w.sh) ∧ (w.mm = 0 ∨ w.mm = 1 ∨ w.mm = 5 → (Dec m.a w.v w'.v ∧ Dec m.a2 w.v2 w'.v2) ∧ (w'.mm = 0 ∨ w'.mm = 1 ∨ w'.mm = 5)) ∧ (w.md ≠ 0 → Dec 4194304 w.vd w'.vd) ∧ (w.cm ≠ 1 → w'.cm ≠ 1) ∧ (w'.md = 1 → ¬ w'.Rest) := by
    intro md' hmd w' hw hr1 hr2
    have f1 : w'.v = q.2.1 := by rw [hw]; rfl
    have f2 : w'.v2 = q2.2.1 := by rw [hw]; rfl
    have f3 : w'.vd = q3.2.1 := by rw [hw]; rfl
    have f4 : w'.sh = domeS w.sh (domeC w.sh w.co w.op w.li) w.op := by rw [hw]; rfl
    have f5 : w'.co = domeC w.sh w.co w.op w.li := by rw [hw]; rfl
    have f6 : w'.cm = cm' := by rw [hw]; rfl
    have f7 : w'.md = md' := by rw [hw]; rfl
    have f8 : w'.mm = modeTo w.mm (rests q && rests q2) := by rw [hw]; rfl
    have f9 : w'.op = w.op ∧ w'.li = w.li ∧ w'.hz = w.hz ∧ w'.ky = w.ky ∧ w'.haz = w.haz ∧ w'.s5 = w.s5 := by rw [hw]; exact ⟨rfl, rfl, rfl, rfl, rfl, rfl⟩
    obtain ⟨f10, f11, f12, f13, f14, f15⟩ := f9
    have hphys : Phys m w' := by rw [hw]; exact ⟨haz, hal, hmode, hdome, k1⟩
    have hturn : w'.td = q3.2.2.2 ∧ rests (w'.pd, w'.vd, w'.gd, w'.td) = rests q3 := by rw [hw]; exact ⟨rfl, rfl⟩
    have hstop : w.md ≠ 0 → w'.Stops ∧ Dec 4194304 w.vd w'.vd := fun g => by
      obtain ⟨r1, r2, r3, r4, r5⟩ := h.stop g
      refine ⟨⟨by rw [f8]; exact still_mode _ r1, ?_, f10.trans r3, f11.trans r4, fun g => r5 (k2 (f6 ▸ g))⟩, ?_⟩
      · rw [hturn.2, hturn.1]
        rcases r2 with r2 | r2
        · rw [r2] at hq3
          exact hq3.halting
        · exact .inr (hq3.rested (by decide) r2).2
      · rw [f3]
        exact dec_any (by decide) hq3 r2
    have hdm : w.md ≠ 0 → w'.co = max (w.co - 2) 0 ∧ w'.sh = if w'.co = 0 then max (w.sh - 5) 0 else w.sh := fun g => by
      obtain ⟨r1, r2, r3, r4, r5⟩ := h.stop g
      rw [f4, f5, r3, r4]
      unfold domeC domeS
      exact ⟨rfl, rfl⟩
    have hmm : w.mm = 0 ∨ w.mm = 1 ∨ w.mm = 5 → (Dec m.a w.v w'.v ∧ Dec m.a2 w.v2 w'.v2) ∧ (w'.mm = 0 ∨ w'.mm = 1 ∨ w'.mm = 5) := fun g => by
      obtain ⟨r1, r2⟩ := still_any h.mode g
      rw [f1, f2, f8]
      exact ⟨⟨dec_any ha.1 hq r1, dec_any ha.2 hq2 r2⟩, still_mode _ g⟩
    have hmd0 : w.md ≠ 0 → md' ≠ 0 := fun g => by omega
    have hmd1 := h.md
    refine ⟨⟨hphys, by omega, by rw [f12]; exact h.hz, by rw [f13]; exact h.ky, fun g => ?_, by rw [f12, f14]; exact h.haz, by rw [f13, f15]; exact h.key, fun g => ?_, fun g => ?_, fun g => (hstop (by omega)).1, fun g => ?_⟩, f12, f13, fun g => by omega, fun g => by omega, hdm, hmm, fun g => (hstop g).2, fun g g2 => g (k2 (f6 ▸ g2)), fun g => hr2 (f7 ▸ g)⟩
    · obtain ⟨r1, r2, r3⟩ := h.hard (k2 (f6 ▸ g))
      obtain ⟨r4, r5⟩ := h.clr (k2 (f6 ▸ g))
      rw [f8, f4, f5, r1, r2, r3, r4, r5]
      refine ⟨?_, rfl, rfl⟩
      unfold modeTo
      split <;> rfl
    · rw [f12]
      exact h.run (by omega)
    · rcases hmd with g1 | g1
      · have g2 : w.md = 2 := by omega
        obtain ⟨r1, r2, r3, r4, r5, r6⟩ := h.safe g2
        obtain ⟨⟨d1, d2⟩, _⟩ := hmm (h.stop (by omega)).1
        obtain ⟨e1, e2⟩ := hdm (by omega)
        have e3 := (hstop (by omega)).2
        have c0 : w'.co = 0 := by omega
        refine ⟨dec_zero ha.1 d1 r1, dec_zero ha.2 d2 r2, dec_zero (by decide) e3 r3, fun g => r4 (k2 (f6 ▸ g)), ?_, c0⟩
        rw [if_pos c0] at e2
        omega
      · exact hr1 g1.2 g1.1
    · obtain ⟨r4, r5⟩ := h.clr (k2 (f6 ▸ g))
      exact ⟨f10.trans r4, f11.trans r5⟩
  by_cases c : w.md = 1
  · refine Y.pos (by simp [c]) ?_
    refine Y.bE (rest_spec (w.moved q q2 q3 cm' cl' cb' cn' w.md)) (Y.ite (fun g => ?_) (fun g => ?_))
    · exact Y.of (guard_Step.D2_of _) (Y.some ⟨w.moved q q2 q3 cm' cl' cb' cn' 2, rfl, key 2 (.inr ⟨c, rfl⟩) _ rfl (fun _ _ => g) (fun h => by cases h)⟩)
    · exact Y.of (guard_Step.D2_of _) (Y.some ⟨w.moved q q2 q3 cm' cl' cb' cn' w.md, rfl, key w.md (.inl rfl) _ rfl (fun h => by omega) (fun _ => g)⟩)
  · refine Y.neg (by simp [c]) (Y.of (guard_Step.D2_of _) (Y.some ⟨w.moved q q2 q3 cm' cl' cb' cn' w.md, rfl, key w.md (.inl rfl) _ rfl (fun _ h => absurd h c) (fun h => absurd h c)⟩))
theorem count_spec (n : Int) (b : Bool) (h : 0 ≤ n ∧ n ≤ 17592186044416) : guard_count.F (n, b) = some (if b = true then min (n + 1) 17592186044416 else 0) := by
  apply Y.is
  refine Y.of (guard_count.F_of _) ?_
  dsimp only [guard_count.d]
  rw [w64 (x := n + 1) (by omega) (by omega)]
  cases b with
  | true => exact Y.neg rfl (Y.some rfl)
  | false => exact Y.pos rfl (Y.some rfl)
/-- A world behind a report of the sensors. -/
def Wd.sens (w : Wd) (a b c d e : Bool) (hz' ky' : Int) : Wd := { w with s1 := a, s2 := b, s3 := c, s4 := d, s5 := e, hz := hz', ky := ky' }
theorem sens_begin (w : Wd) (a b c d e : Bool) (hz' ky' : Int) : (w.sens a b c d e hz' ky').begin.hz = hz' ∧ (w.sens a b c d e hz' ky').begin.ky = ky' ∧ (w.sens a b c d e hz' ky').begin.v = w.v ∧ (w.sens a b c d e hz' ky').begin.v2 = w.v2 ∧ (w.sens a b c d e hz' ky').begin.vd = w.vd ∧
    (w.sens a b c d e hz' ky').begin.sh = w.sh ∧ (w.sens a b c d e hz' ky').begin.co = w.co ∧ (w.sens a b c d e hz' ky').begin.md = 1 := by
  unfold Wd.begin Wd.stopM Wd.abortC Wd.sens
  by_cases c : w.mm = 0
  · by_cases d : w.cm = 1 <;> simp [c, d]
  · by_cases d : w.cm = 1 <;> simp [c, d]
theorem lock_same (w : Wd) : w.lock.hz = w.hz ∧ w.lock.ky = w.ky ∧ w.lock.v = w.v ∧ w.lock.v2 = w.v2 ∧ w.lock.vd = w.vd ∧ w.lock.sh = w.sh ∧ w.lock.co = w.co ∧ w.lock.md = w.md := by
  unfold Wd.lock Wd.stopM Wd.abortC
  by_cases c : w.mm = 0
  · by_cases d : w.cm = 1 <;> simp [c, d]
  · by_cases d : w.cm = 1 <;> simp [c, d]
set_option maxHeartbeats 2000000 in
theorem step_world {m : Mn} {w : Wd} (hm : m.Ok) (h : Val m w) (a b c d e : Bool) : Y (guard_Step.F (m.k (w.k (a, b, c, d, e)))) fun r => ∃ w', r = w'.e ∧ Val m w' ∧ StepRel m w (a || b || c || d) e w' := by
  have hz := h.hz
  have hk := h.ky
  obtain ⟨hz', ehz⟩ : ∃ z : Int, z = if (a || b || c || d) = true then min (w.hz + 1) 17592186044416 else 0 := ⟨_, rfl⟩
  obtain ⟨ky', eky⟩ : ∃ z : Int, z = if e = true then min (w.ky + 1) 17592186044416 else 0 := ⟨_, rfl⟩
  have hz0 : (0 ≤ hz' ∧ hz' ≤ 17592186044416) ∧ (0 < hz' ↔ (a || b || c || d) = true) := by
    rw [ehz]
    cases (a || b || c || d)
    · simp
    · simp
      omega
  have ky0 : (0 ≤ ky' ∧ ky' ≤ 17592186044416) ∧ (0 < ky' ↔ e = true) := by
    rw [eky]
    cases e
    · simp
    · simp
      omega
  -- behind begin
  have tail : ∀ w2 : Wd, Val m w2 → w2.hz = hz' → w2.ky = ky' → w2.v = w.v → w2.v2 = w.v2 → w2.vd = w.vd → w2.sh = w.sh → w2.co = w.co → (w.md ≠ 0 → w2.md ≠ 0) → ((a || b || c || d) = true → w2.md ≠ 0) →
      Y (guard_Step.D0 (m.k (w2.k (a, b, c, d, e, w0.e)))) fun r => ∃ w', r = w'.e ∧ Val m w' ∧ StepRel m w (a || b || c || d) e w' := by
    intro w2 h2 g1 g2 g3 g4 g5 g6 g7 g8 g9
    refine Y.of (guard_Step.D0_of _) ?_
    have fin : ∀ w3 : Wd, Val m w3 → w3.hz = w2.hz → w3.ky = w2.ky → w3.v = w2.v → w3.v2 = w2.v2 → w3.vd = w2.vd → w3.sh = w2.sh → w3.co = w2.co → w3.md = w2.md → (e = true → (w3.mm = 0 ∨ w3.mm = 1 ∨ w3.mm = 5) ∧ w3.cm ≠ 1) →
        Y (guard_Step.D1 (m.k (w3.k w0.e))) fun r => ∃ w', r = w'.e ∧ Val m w' ∧ StepRel m w (a || b || c || d) e w' := by
      intro w3 h3 k1 k2 k3 k4 k5 k6 k7 k8 k9
      refine (step_tail hm h3).mono ?_
      rintro r ⟨w', hr, hv, r1, r2, r3, r4, r5, r6, r7, r8, r9⟩
      refine ⟨w', hr, hv, ⟨?_, ?_, fun g => r3 (by rw [k8]; exact g8 g), fun g => r3 (by rw [k8]; exact g9 g), fun g => ?_, fun g => ?_, fun g => ?_, fun g => ?_, r9⟩⟩
      · rw [r1, k1, g1, ehz]
      · rw [r2, k2, g2, eky]
      · have := r5 fun h => g (r4 h)
        rw [k6, k7, g6, g7] at this
        exact this
      · have : w3.mm = 0 ∨ w3.mm = 1 ∨ w3.mm = 5 := by
          rcases g with g | g
          · exact (h3.stop fun h => g (r4 h)).1
          · exact (k9 g).1
        have := (r6 this).1
        rw [k3, k4, g3, g4] at this
        exact this
      · have := r7 fun h => g (r4 h)
        rw [k5, g5] at this
        exact this
      · exact ⟨(r6 (k9 g).1).2, r8 (k9 g).2⟩
    cases he : e with
    | true =>
      obtain ⟨l1, l2, l3, l4⟩ := h2.lock
      obtain ⟨q1, q2, q3, q4, q5, q6, q7, q8⟩ := lock_same w2
      rw [he] at fin
      exact Y.pos rfl (Y.bE (lock_spec hm h2.toPhys) (fin w2.lock l1 q1 q2 q3 q4 q5 q6 q7 q8 fun _ => ⟨l2.elim .inl fun h => .inr (.inr h), l3⟩))
    | false =>
      rw [he] at fin
      exact Y.neg rfl (fin w2 h2 rfl rfl rfl rfl rfl rfl rfl rfl fun h => by cases h)
  refine Y.of (guard_Step.F_of _) (Y.bE (check_world hm h) (Y.np rfl (Y.bE (hazard_spec a b c d e) (Y.bE (count_spec w.hz (a || b || c || d) hz) (Y.bE (count_spec w.ky e hk) ?_)))))
  rw [← ehz, ← eky]
  have hp1 : Phys m (w.sens a b c d e hz' ky') := ⟨h.az, h.al, h.mode, h.dome, h.cam⟩
  have hval : (w.md = 0 → (a || b || c || d) = false) → Val m (w.sens a b c d e hz' ky') := fun g =>
    ⟨hp1, h.md, hz0.1, ky0.1, h.hard, hz0.2, ky0.2, fun g2 => (by
      have g3 := g g2
      have : ¬ 0 < hz' := fun g4 => by rw [hz0.2.mp g4] at g3; cases g3
      have := hz0.1.1
      show hz' = 0
      omega), h.safe, h.stop, h.clr⟩
  by_cases c0 : w.md = 0
  · refine Y.pos (by simp [c0]) (Y.bE (hazard_spec a b c d e) ?_)
    cases hh : (a || b || c || d) with
    | true =>
      rw [hh] at tail hz0
      obtain ⟨q1, q2, q3, q4, q5, q6, q7, q8⟩ := sens_begin w a b c d e hz' ky'
      have hv2 := hp1.beginVal hz0.1 ky0.1 (by show 0 < hz' ↔ (a || b || c || d) = true; rw [hh]; exact hz0.2) ky0.2
      refine Y.pos rfl ?_
      have hb := begin_spec hm hp1
      generalize (w.sens a b c d e hz' ky').begin = wb at *
      refine Y.bE hb ?_
      exact tail wb hv2 q1 q2 q3 q4 q5 q6 q7 (fun _ => by omega) (fun _ => by omega)
    | false =>
      have hv := hval fun _ => hh
      rw [hh] at tail
      exact Y.neg rfl (tail (w.sens a b c d e hz' ky') hv rfl rfl rfl rfl rfl rfl rfl (fun g => g) (fun g => by cases g))
  · have hv := hval fun g => absurd g c0
    exact Y.neg (by simp [c0]) (tail (w.sens a b c d e hz' ky') hv rfl rfl rfl rfl rfl rfl rfl (fun g => g) (fun _ => c0))
end Go.Proofs.RGuR
namespace Go.Proofs.RGuR
open Go Go.Eng

theorem mod_spec (x : Int) : slew_mod.F x = some (x % 4294967296) := by
  have fin : ∀ y, Y (slew_mod.D0 y) fun r => r = y := fun y => Y.of (slew_mod.D0_of _) (Y.some rfl)
  apply Y.is
  refine Y.of (slew_mod.F_of _) (Y.np' (by decide) (Y.ite (fun c => ?_) (fun c => ?_)))
  · rw [tmod_neg_add (by omega) c, w64 (by omega) (by omega)]
    exact fin _
  · rw [tmod_of_nonneg (by omega) c]
    exact fin _
theorem abs_spec (x : Int) : ∃ y, slew_abs.F x = some y := by
  obtain ⟨r, hr, _⟩ : Y (slew_abs.F x) fun _ => True := Y.of (slew_abs.F_of _) (Y.some trivial)
  exact ⟨r, hr⟩
theorem target_loop (lo hi S a f : Int) (h0 : -17179869184 ≤ lo) (h1 : hi ≤ 17179869184) (d : Nat) : ∀ (p best : Int), p ≤ 34359738368 → lo ≤ p → hi - p < (d : Int) * 4294967296 → lo ≤ best → best ≤ hi →
    Y (slew_Target.D0 (f, p, best, lo, hi, S, a)) fun r => r.2 = 0 ∧ lo ≤ r.1 ∧ r.1 ≤ hi := by
  induction d with
  | zero =>
    intro p best hp hp0 hd hb0 hb1
    have hd' : hi - p < 0 := by simpa using hd
    exact Y.of (slew_Target.D0_of _) (Y.nd (by omega) (Y.some ⟨rfl, hb0, hb1⟩))
  | succ d ih =>
    intro p best hp hp0 hd hb0 hb1
    have e : ((d + 1 : Nat) : Int) * 4294967296 = d * 4294967296 + 4294967296 := by omega
    refine Y.of (slew_Target.D0_of _) (Y.ite (fun c => ?_) (fun c => Y.some ⟨rfl, hb0, hb1⟩))
    obtain ⟨y, hy⟩ := abs_spec (wrap .i64 (p - f))
    obtain ⟨z, hz⟩ := abs_spec (wrap .i64 (best - f))
    have next : ∀ b, lo ≤ b → b ≤ hi → Y (slew_Target.D1 (f, p, b, lo, hi, S, a)) fun r => r.2 = 0 ∧ lo ≤ r.1 ∧ r.1 ≤ hi := by
      intro b b0 b1
      refine Y.of (slew_Target.D1_of _) ?_
      dsimp only [slew_Target.d1]
      rw [w64 (x := p + 4294967296) (by omega) (by omega)]
      exact ih _ _ (by omega) (by omega) (by omega) b0 b1
    exact Y.bE hy (Y.bE hz (Y.ite (fun _ => next p hp0 c) (fun _ => next best hb0 hb1)))
theorem target_spec {lo hi S a f : Int} (x : Int) (h : AxOk lo hi S a) (h0 : lo ≤ f) (h1 : f ≤ hi) : Y (slew_Target.F (lo, hi, S, a, f, x)) fun r => r.2 ≠ 0 ∨ r.2 = 0 ∧ lo ≤ r.1 ∧ r.1 ≤ hi := by
  have hA := h
  obtain ⟨g0, g1, g2, _⟩ := h
  refine Y.of (slew_Target.F_of _) (Y.bE (check_axis hA) (Y.np rfl (Y.bE (in_yes S a h0 h1) (Y.neg rfl (Y.bE (mod_spec x) (Y.bE (mod_spec lo) (Y.bE (mod_spec _) ?_)))))))
  rw [w64 (x := x % 4294967296 - lo % 4294967296) (by omega) (by omega)]
  obtain ⟨q, hq⟩ : ∃ q : Int, q = (x % 4294967296 - lo % 4294967296) % 4294967296 := ⟨_, rfl⟩
  rw [← hq]
  have hq0 : 0 ≤ q ∧ q < 4294967296 := by omega
  rw [w64 (x := lo + q) (by omega) (by omega)]
  refine Y.ite (fun c => Y.some (.inl (by decide))) (fun c => ?_)
  exact (target_loop lo hi S a f g0 g1 9 (lo + q) (lo + q) (by omega) (by omega) (by omega) (by omega) (by omega)).mono fun r hr => .inr hr
theorem rotate_spec {s c p v g : Int} (o l t : Bool) (x : Int) (h : DomeOk s c p v g) : Y (dome_Rotate.F (s, c, o, l, p, v, g, t, x)) fun r => (∃ e, e ≠ 0 ∧ r = (0, 0, false, false, 0, 0, 0, false, e)) ∨ ∃ g', DomeOk s c p v g' ∧ r = (s, c, o, l, p, v, g', false, 0) := by
  refine Y.of (dome_Rotate.F_of _) (Y.bE (dome_check o l t h) (Y.np rfl (Y.bE dome_axis (Y.bnd _ (target_spec x domeA h.2.2.2.2.2.1 h.2.2.2.2.2.2.1) ?_))))
  rintro ⟨r, e⟩ hr
  dsimp only at hr ⊢
  rcases hr with hr | ⟨rfl, h0, h1⟩
  · exact Y.nn hr (Y.some (.inl ⟨e, hr, rfl⟩))
  · refine Y.np rfl (Y.bE dome_axis (Y.bE (axsend_yes t domeA h.2.2.2.2.2 r h0 h1) (Y.np rfl (Y.some (.inr ⟨r, ⟨h.1, h.2.1, h.2.2.1, h.2.2.2.1, h.2.2.2.2.1, h.2.2.2.2.2.send h0 h1⟩, rfl⟩)))))
/-- What an order changes. -/
structure GiveRel (w : Wd) (k : Int) (w' : Wd) : Prop where
  hz : w'.hz = w.hz
  ky : w'.ky = w.ky
  v : w'.v = w.v
  v2 : w'.v2 = w.v2
  vd : w'.vd = w.vd
  sh : w'.sh = w.sh
  co : w'.co = w.co
  md : w'.md = w.md ∨ (k = 12 ∧ w.md = 0 ∧ w'.md = 1) ∨ (k = 13 ∧ w.md = 2 ∧ w'.md = 0)
  stop : k = 12 → w'.md ≠ 0
  mm : 0 < w.ky → (w.mm = 0 ∨ w.mm = 1 ∨ w.mm = 5) → (w'.mm = 0 ∨ w'.mm = 1 ∨ w'.mm = 5)
  cm : 0 < w.ky → w.cm ≠ 1 → w'.cm ≠ 1
theorem GiveRel.same (w : Wd) (k : Int) (h : k ≠ 12 ∨ w.md ≠ 0) : GiveRel w k w := ⟨rfl, rfl, rfl, rfl, rfl, rfl, rfl, .inl rfl, fun g => h.elim (absurd g) id, fun _ => id, fun _ => id⟩
theorem expose_world {m : Mn} {w : Wd} (h : Val m w) (hmd : w.md = 0) (hky : w.ky = 0) (x : Int) : Y (guard_expose.F (w.k x)) fun r => ∃ (w' : Wd) (e : Int), r = w'.k e ∧ (e ≠ 0 ∨ e = 0 ∧ Val m w' ∧ GiveRel w 9 w') := by
  have hclear : dome_Clear.F (w.sh, w.co, w.op, w.li, w.pd, w.vd, w.gd, w.td) = some (decide (w.sh = 100) && decide (w.co = 20) && w.op && w.li) := Y.is (Y.of (dome_Clear.F_of _) (Y.some rfl))
  obtain ⟨cv, hcv⟩ : ∃ b, dome_Covers.F (w.sh, w.co, w.op, w.li, w.pd, w.vd, w.gd, w.td, w.p) = some b := by
    have fin : ∀ y, Y (dome_Covers.D0 y) fun _ => True := fun y => Y.of (dome_Covers.D0_of _) (Y.some trivial)
    obtain ⟨r, hr, _⟩ : Y (dome_Covers.F (w.sh, w.co, w.op, w.li, w.pd, w.vd, w.gd, w.td, w.p)) fun _ => True :=
      Y.of (dome_Covers.F_of _) (Y.np' (by decide) (Y.np' (by decide) (Y.np' (by decide) (Y.ite (fun _ => fin _) (fun _ => fin _)))))
    exact ⟨r, hr⟩
  refine Y.of (guard_expose.F_of _) (Y.bif (fun _ => Y.some ⟨w0, 4, rfl, .inl (by decide)⟩) (fun _ => ?_))
  by_cases c1 : w.mm = 3
  · refine Y.pos (by simp [c1]) (Y.bE hclear ?_)
    cases hc : (decide (w.sh = 100) && decide (w.co = 20) && w.op && w.li) with
    | false => exact Y.neg rfl (Y.some ⟨w0, 16, rfl, .inl (by decide)⟩)
    | true =>
      simp only [Bool.and_eq_true, decide_eq_true_eq] at hc
      obtain ⟨⟨⟨c2, c3⟩, c4⟩, c5⟩ := hc
      refine Y.pos rfl (Y.bE hcv ?_)
      cases cv with
      | false => exact Y.pos rfl (Y.some ⟨w0, 16, rfl, .inl (by decide)⟩)
      | true =>
        refine Y.neg rfl (Y.bnd _ (expose_spec x h.cam) ?_)
        rintro ⟨cm', cl', cb', cn', e⟩ hr
        refine Y.some ⟨{ w with cm := cm', cl := cl', cb := cb', cn := cn' }, e, rfl, ?_⟩
        rcases hr with ⟨e', he, hr⟩ | ⟨he, hr⟩
        · cases hr
          exact .inl he
        · dsimp only at he hr
          refine .inr ⟨he, ⟨⟨h.az, h.al, h.mode, h.dome, hr⟩, h.md, h.hz, h.ky, fun _ => ⟨c1, c2, c3⟩, h.haz, h.key, h.run, fun g => ?_, fun g => absurd hmd g, fun _ => ⟨c4, c5⟩⟩, ⟨rfl, rfl, rfl, rfl, rfl, rfl, rfl, .inl rfl, fun g => absurd g (by decide), fun _ => id, fun g => (by omega)⟩⟩
          have g' : w.md = 2 := g
          omega
  · exact Y.neg (by simp [c1]) (Y.some ⟨w0, 16, rfl, .inl (by decide)⟩)
/-- An order that is permitted. -/
structure May (w : Wd) (k : Int) : Prop where
  k0 : 0 ≤ k
  k1 : k < 14
  run : k = 2 ∨ k = 3 ∨ k = 4 ∨ k = 8 ∨ k = 9 → w.md = 0 ∧ w.ky = 0
  opn : k = 6 → w.md = 0
  rel : k = 13 → w.md = 2 ∧ w.hz = 0
  busy : k = 2 ∨ k = 4 ∨ k = 5 ∨ k = 7 ∨ k = 8 → w.cm ≠ 1
theorem Val.setMount {m : Mn} {w : Wd} (h : Val m w) (hmd : w.md = 0) (hky : w.ky = 0) (k : Int) (hk : k ≠ 12) {g g2 mm : Int} {t t2 : Bool} (hg : m.lo ≤ g ∧ g ≤ m.hi) (hg2 : m.lo2 ≤ g2 ∧ g2 ≤ m.hi2)
    (hm : ModeOk m.pa m.pb w.p w.v g t w.p2 w.v2 g2 t2 mm) (hc : w.cm = 1 → mm = 3) : Val m ({ w with g := g, t := t, g2 := g2, t2 := t2, mm := mm } : Wd) ∧ GiveRel w k ({ w with g := g, t := t, g2 := g2, t2 := t2, mm := mm } : Wd) := by
  refine ⟨⟨⟨h.az.send hg.1 hg.2, h.al.send hg2.1 hg2.2, hm, h.dome, h.cam⟩, h.md, h.hz, h.ky, fun g => ⟨hc g, (h.hard g).2⟩, h.haz, h.key, h.run, fun g => ?_, fun g => absurd hmd g, h.clr⟩, ⟨rfl, rfl, rfl, rfl, rfl, rfl, rfl, .inl rfl, fun g => absurd g hk, fun g => by omega, fun g => by omega⟩⟩
  have g' : w.md = 2 := g
  omega
set_option maxHeartbeats 4000000 in
theorem carry_world {m : Mn} {w : Wd} (hm : m.Ok) (h : Val m w) (k x : Int) (hk : May w k) : Y (guard_carry.F (m.k (w.k (k, x)))) fun r => ∃ (w' : Wd) (e : Int), r = w'.k e ∧ (e ≠ 0 ∨ e = 0 ∧ Val m w' ∧ GiveRel w k w') := by
  have f1 : ∀ (w' : Wd) (e : Int), (e ≠ 0 ∨ e = 0 ∧ Val m w' ∧ GiveRel w k w') → Y (guard_carry.D1 (e, w'.k w0.e)) fun r => ∃ (w' : Wd) (e : Int), r = w'.k e ∧ (e ≠ 0 ∨ e = 0 ∧ Val m w' ∧ GiveRel w k w') :=
    fun w' e he => Y.of (guard_carry.D1_of _) (Y.some ⟨w', e, rfl, he⟩)
  have hz := h.hz
  have hky := h.ky
  have hmd := h.md
  have f2 : 6 ≤ k → ∀ b, b = decide (k = 6 ∨ k = 7) → Y (guard_carry.D2 (0, k, b, m.k (w.k (k, x, w0.e)))) fun r => ∃ (w' : Wd) (e : Int), r = w'.k e ∧ (e ≠ 0 ∨ e = 0 ∧ Val m w' ∧ GiveRel w k w') := by
    intro k6 b hb
    refine Y.of (guard_carry.D2_of _) ?_
    by_cases c67 : k = 6 ∨ k = 7
    · refine Y.pos (by rw [hb]; exact decide_eq_true c67) (Y.bE (set_spec w.op w.li w.td (decide (k = 6)) (decide (k = 6)) h.dome) (f1 ({ w with op := decide (k = 6), li := decide (k = 6) } : Wd) 0 (.inr ⟨rfl, ?_, ?_⟩)))
      · refine ⟨⟨h.az, h.al, h.mode, h.dome, h.cam⟩, h.md, h.hz, h.ky, h.hard, h.haz, h.key, h.run, h.safe, fun g => ?_, fun g => ?_⟩
        · have hk7 : ¬ k = 6 := fun g6 => g (hk.opn g6)
          obtain ⟨r1, r2, r3, r4, r5⟩ := h.stop g
          exact ⟨r1, r2, decide_eq_false hk7, decide_eq_false hk7, r5⟩
        · by_cases g6 : k = 6
          · exact ⟨decide_eq_true g6, decide_eq_true g6⟩
          · exact absurd g (hk.busy (by omega))
      · exact ⟨rfl, rfl, rfl, rfl, rfl, rfl, rfl, .inl rfl, fun g => by omega, fun _ => id, fun _ => id⟩
    · refine Y.neg (by rw [hb]; exact decide_eq_false c67) (Y.ite (fun c8 => ?_) (fun c8 => Y.ite (fun c9 => ?_) (fun c9 => Y.ite (fun c10 => ?_) (fun c10 => Y.ite (fun c11 => ?_) (fun c11 => Y.ite (fun c12 => ?_) (fun c12 => Y.ite (fun c13 => ?_) (fun c13 => ?_)))))))
      · obtain ⟨r1, r2⟩ := hk.run (by omega)
        have r3 := hk.busy (by omega)
        refine Y.bnd _ (rotate_spec w.op w.li w.td x h.dome) ?_
        rintro r (⟨e, he, rfl⟩ | ⟨g', hd, rfl⟩)
        · exact f1 ({ w with sh := 0, co := 0, op := false, li := false, pd := 0, vd := 0, gd := 0, td := false } : Wd) e (.inl he)
        · refine f1 ({ w with gd := g', td := false } : Wd) 0 (.inr ⟨rfl, ⟨⟨h.az, h.al, h.mode, hd, h.cam⟩, h.md, h.hz, h.ky, h.hard, h.haz, h.key, h.run, fun g => ?_, fun g => absurd r1 g, h.clr⟩, ⟨rfl, rfl, rfl, rfl, rfl, rfl, rfl, .inl rfl, fun g => by omega, fun _ => id, fun _ => id⟩⟩)
          have g2 : w.md = 2 := g
          omega
      · obtain ⟨r1, r2⟩ := hk.run (by omega)
        subst c9
        refine Y.bnd _ (expose_world h r1 r2 x) ?_
        rintro r ⟨w', e, rfl, he⟩
        exact Y.some ⟨w', e, rfl, he⟩
      · refine Y.bE (abort_spec h.cam) ?_
        by_cases c1 : w.cm = 1
        · rw [if_pos c1]
          refine f1 ({ w with cm := 0, cl := 0, cb := 0 } : Wd) 0 (.inr ⟨rfl, ⟨⟨h.az, h.al, h.mode, h.dome, h.cam.1, h.cam.2.1, Int.le_refl 0, (by show (0 : Int) ≤ 16; decide), .inl ⟨rfl, rfl, rfl⟩⟩, h.md, h.hz, h.ky, fun g => absurd g (show ¬ (0 : Int) = 1 by decide), h.haz, h.key, h.run, fun g => ?_, fun g => ?_, fun g => absurd g (show ¬ (0 : Int) = 1 by decide)⟩, ⟨rfl, rfl, rfl, rfl, rfl, rfl, rfl, .inl rfl, fun g => by omega, fun _ => id, fun _ _ => (by show (0 : Int) ≠ 1; decide)⟩⟩)
          · obtain ⟨r1, r2, r3, r4, r5, r6⟩ := h.safe g
            exact absurd c1 r4
          · obtain ⟨r1, r2, r3, r4, r5⟩ := h.stop g
            exact absurd c1 r5
        · rw [if_neg c1]
          exact f1 ({ w with cm := 0, cl := 0, cb := 0, cn := 0 } : Wd) 10 (.inl (by decide))
      · refine Y.bE (fetch_spec h.cam) ?_
        by_cases c3 : w.cm = 3
        · rw [if_pos c3]
          refine f1 ({ w with cm := 0, cl := 0, cb := 0 } : Wd) 0 (.inr ⟨rfl, ⟨⟨h.az, h.al, h.mode, h.dome, h.cam.1, h.cam.2.1, Int.le_refl 0, (by show (0 : Int) ≤ 16; decide), .inl ⟨rfl, rfl, rfl⟩⟩, h.md, h.hz, h.ky, fun g => absurd g (show ¬ (0 : Int) = 1 by decide), h.haz, h.key, h.run, fun g => ?_, fun g => ?_, fun g => absurd g (show ¬ (0 : Int) = 1 by decide)⟩, ⟨rfl, rfl, rfl, rfl, rfl, rfl, rfl, .inl rfl, fun g => by omega, fun _ => id, fun _ _ => (by show (0 : Int) ≠ 1; decide)⟩⟩)
          · obtain ⟨r1, r2, r3, r4, r5, r6⟩ := h.safe g
            exact ⟨r1, r2, r3, (by show (0 : Int) ≠ 1; decide), r5, r6⟩
          · obtain ⟨r1, r2, r3, r4, r5⟩ := h.stop g
            exact ⟨r1, r2, r3, r4, (by show (0 : Int) ≠ 1; decide)⟩
        · rw [if_neg c3]
          exact f1 ({ w with cm := 0, cl := 0, cb := 0, cn := 0 } : Wd) 10 (.inl (by decide))
      · refine Y.ite (fun c0 => ?_) (fun c0 => ?_)
        · have hb := begin_spec hm h.toPhys
          have hv := h.toPhys.beginVal h.hz h.ky h.haz h.key
          have hs : w.begin.hz = w.hz ∧ w.begin.ky = w.ky ∧ w.begin.v = w.v ∧ w.begin.v2 = w.v2 ∧ w.begin.vd = w.vd ∧ w.begin.sh = w.sh ∧ w.begin.co = w.co ∧ w.begin.md = 1 ∧ (w.begin.mm = 0 ∨ w.begin.mm = 5) ∧ w.begin.cm ≠ 1 := by
            unfold Wd.begin Wd.stopM Wd.abortC
            by_cases c : w.mm = 0
            · by_cases d : w.cm = 1 <;> simp [c, d]
            · by_cases d : w.cm = 1 <;> simp [c, d]
          generalize w.begin = wb at *
          obtain ⟨q1, q2, q3, q4, q5, q6, q7, q8, q9, q10⟩ := hs
          exact Y.bE hb (f1 wb 0 (.inr ⟨rfl, hv, ⟨q1, q2, q3, q4, q5, q6, q7, .inr (.inl ⟨c12, c0, q8⟩), fun _ => by omega, fun _ _ => q9.elim .inl fun g => .inr (.inr g), fun _ _ => q10⟩⟩))
        · exact f1 w 0 (.inr ⟨rfl, h, GiveRel.same w k (.inr c0)⟩)
      · obtain ⟨r1, r2⟩ := hk.rel c13
        refine f1 ({ w with md := 0 } : Wd) 0 (.inr ⟨rfl, ⟨⟨h.az, h.al, h.mode, h.dome, h.cam⟩, (by show (0 : Int) ≤ 0 ∧ (0 : Int) ≤ 2; decide), h.hz, h.ky, h.hard, h.haz, h.key, fun _ => r2, fun g => absurd g (show ¬ (0 : Int) = 2 by decide), fun g => absurd rfl g, h.clr⟩, ⟨rfl, rfl, rfl, rfl, rfl, rfl, rfl, .inr (.inr ⟨c13, r1, rfl⟩), fun g => by omega, fun _ => id, fun _ => id⟩⟩)
      · exact f1 w 0 (.inr ⟨rfl, h, GiveRel.same w k (.inl (by omega))⟩)
  have f0 : ∀ b, b = decide (k = 0 ∨ k = 1) → Y (guard_carry.D0 (0, k, b, m.k (w.k (k, x, w0.e)))) fun r => ∃ (w' : Wd) (e : Int), r = w'.k e ∧ (e ≠ 0 ∨ e = 0 ∧ Val m w' ∧ GiveRel w k w') := by
    intro b hb
    refine Y.of (guard_carry.D0_of _) ?_
    by_cases c01 : k = 0 ∨ k = 1
    · refine Y.pos (by rw [hb]; exact decide_eq_true c01) (Y.bif (fun _ => Y.some ⟨w0, 4, rfl, .inl (by decide)⟩) (fun _ => Y.ite (fun _ => ?_) (fun _ => ?_)))
      · exact f1 ({ w with aa := x } : Wd) 0 (.inr ⟨rfl, ⟨⟨h.az, h.al, h.mode, h.dome, h.cam⟩, h.md, h.hz, h.ky, h.hard, h.haz, h.key, h.run, h.safe, h.stop, h.clr⟩, ⟨rfl, rfl, rfl, rfl, rfl, rfl, rfl, .inl rfl, fun g => by omega, fun _ => id, fun _ => id⟩⟩)
      · exact f1 ({ w with ab := x } : Wd) 0 (.inr ⟨rfl, ⟨⟨h.az, h.al, h.mode, h.dome, h.cam⟩, h.md, h.hz, h.ky, h.hard, h.haz, h.key, h.run, h.safe, h.stop, h.clr⟩, ⟨rfl, rfl, rfl, rfl, rfl, rfl, rfl, .inl rfl, fun g => by omega, fun _ => id, fun _ => id⟩⟩)
    · refine Y.neg (by rw [hb]; exact decide_eq_false c01) (Y.ite (fun c2 => ?_) (fun c2 => Y.ite (fun c3 => ?_) (fun c3 => Y.ite (fun c4 => ?_) (fun c4 => Y.ite (fun c5 => ?_) (fun c5 => Y.ite (fun c6 => f2 (by omega) _ (decide_eq_decide.mpr (by omega))) (fun c6 => f2 (by have := hk.k0; omega) _ (decide_eq_decide.mpr (by omega))))))))
      · obtain ⟨r1, r2⟩ := hk.run (by omega)
        have r3 := hk.busy (by omega)
        refine Y.bE (goto_spec hm h.az h.al h.mode w.aa w.ab) ?_
        by_cases c : w.mm = 5
        · rw [if_pos c]
          exact f1 ({ w with p := 0, v := 0, g := 0, t := false, p2 := 0, v2 := 0, g2 := 0, t2 := false, mm := 0 } : Wd) 10 (.inl (by decide))
        · rw [if_neg c]
          by_cases d : (m.lo ≤ w.aa ∧ w.aa ≤ m.hi) ∧ m.lo2 ≤ w.ab ∧ w.ab ≤ m.hi2
          · rw [if_pos d]
            exact f1 ({ w with g := w.aa, t := false, g2 := w.ab, t2 := false, mm := 2 } : Wd) 0 (.inr ⟨rfl, h.setMount r1 r2 k (by omega) d.1 d.2 (.inr (.inr (.inr (.inl ⟨.inl rfl, rfl, rfl⟩)))) (fun g => absurd g r3)⟩)
          · rw [if_neg d]
            exact f1 ({ w with p := 0, v := 0, g := 0, t := false, p2 := 0, v2 := 0, g2 := 0, t2 := false, mm := 0 } : Wd) 4 (.inl (by decide))
      · obtain ⟨r1, r2⟩ := hk.run (by omega)
        refine Y.bnd _ (follow_spec hm h.az h.al h.mode w.aa w.ab) ?_
        rintro r (⟨e, he, rfl⟩ | ⟨q1, q2, q3, rfl⟩)
        · exact f1 ({ w with p := 0, v := 0, g := 0, t := false, p2 := 0, v2 := 0, g2 := 0, t2 := false, mm := 0 } : Wd) e (.inl he)
        · exact f1 ({ w with g := w.aa, t := false, g2 := w.ab, t2 := false, mm := 3 } : Wd) 0 (.inr ⟨rfl, h.setMount r1 r2 k (by omega) q2 q3 (.inr (.inr (.inr (.inl ⟨.inr rfl, rfl, rfl⟩)))) (fun _ => rfl)⟩)
      · obtain ⟨r1, r2⟩ := hk.run (by omega)
        have r3 := hk.busy (by omega)
        refine Y.bE (park_spec hm h.az h.al h.mode) ?_
        by_cases c : w.mm = 5
        · rw [if_pos c]
          exact f1 ({ w with p := 0, v := 0, g := 0, t := false, p2 := 0, v2 := 0, g2 := 0, t2 := false, mm := 0 } : Wd) 10 (.inl (by decide))
        · rw [if_neg c]
          exact f1 ({ w with g := m.pa, t := false, g2 := m.pb, t2 := false, mm := 4 } : Wd) 0 (.inr ⟨rfl, h.setMount r1 r2 k (by omega) ⟨hm.2.2.1, hm.2.2.2.1⟩ hm.2.2.2.2 (.inr (.inr (.inr (.inr ⟨rfl, rfl, rfl, rfl, rfl⟩)))) (fun g => absurd g r3)⟩)
      · have r3 := hk.busy (by omega)
        refine Y.bE (mstop_spec hm h.az h.al h.mode) (Y.bE (dbrake_spec w.op w.li w.td h.dome) ?_)
        by_cases c : w.mm = 0
        · rw [if_pos c]
          refine f1 ({ w with td := true } : Wd) 0 (.inr ⟨rfl, ⟨⟨h.az, h.al, h.mode, h.dome, h.cam⟩, h.md, h.hz, h.ky, h.hard, h.haz, h.key, h.run, h.safe, fun g => ?_, h.clr⟩, ⟨rfl, rfl, rfl, rfl, rfl, rfl, rfl, .inl rfl, fun g => by omega, fun _ => id, fun _ => id⟩⟩)
          obtain ⟨s1, s2, s3, s4, s5⟩ := h.stop g
          exact ⟨s1, .inl rfl, s3, s4, s5⟩
        · rw [if_neg c]
          refine f1 ({ w with t := true, t2 := true, mm := 5, td := true } : Wd) 0 (.inr ⟨rfl, ⟨⟨h.az, h.al, .inr (.inr (.inl ⟨rfl, .inl rfl, .inl rfl⟩)), h.dome, h.cam⟩, h.md, h.hz, h.ky, fun g => absurd g r3, h.haz, h.key, h.run, h.safe, fun g => ?_, h.clr⟩, ⟨rfl, rfl, rfl, rfl, rfl, rfl, rfl, .inl rfl, fun g => by omega, fun _ _ => .inr (.inr rfl), fun _ => id⟩⟩)
          obtain ⟨s1, s2, s3, s4, s5⟩ := h.stop g
          exact ⟨.inr (.inr rfl), .inl rfl, s3, s4, s5⟩
  refine Y.of (guard_carry.F_of _) (Y.ite (fun c => f0 _ (decide_eq_decide.mpr (by omega))) (fun c => f0 _ (decide_eq_decide.mpr (by omega))))
set_option maxHeartbeats 4000000 in
theorem give_world {m : Mn} {w : Wd} (hm : m.Ok) (h : Val m w) (k x : Int) : Y (guard_Give.F (m.k (w.k (k, x)))) fun r => (∃ e : Int, e ≠ 0 ∧ r = w0.k e) ∨ ∃ w' : Wd, r = w'.k 0 ∧ Val m w' ∧ GiveRel w k w' := by
  have huse : ∃ b, guard_uses.F k = some b := by
    obtain ⟨r, hr, _⟩ : Y (guard_uses.F k) fun _ => True := Y.of (guard_uses.F_of _) (Y.some trivial)
    exact ⟨r, hr⟩
  obtain ⟨u, hu⟩ := huse
  refine Y.of (guard_Give.F_of _) (Y.bE (check_world hm h) (Y.np rfl ?_))
  by_cases c0 : 0 ≤ k ∧ k < 14
  · have e0 : (decide (k < 0) || decide (14 ≤ k)) = false := by
      simp only [Bool.or_eq_false_iff, decide_eq_false_iff_not]
      omega
    refine Y.pos (by rw [e0]; rfl) (Y.bE hu (Y.bif (fun _ => Y.some (.inl ⟨3, by decide, rfl⟩)) (fun _ => Y.bE (perm_spec w k) ?_)))
    cases hp : permB w k with
    | false => exact Y.pos rfl (Y.some (.inl ⟨16, by decide, rfl⟩))
    | true =>
      refine Y.neg rfl (Y.bif (fun _ => Y.some (.inl ⟨16, by decide, rfl⟩)) (fun hb => ?_))
      have may : May w k := by
        unfold permB at hp
        refine ⟨c0.1, c0.2, fun g => ?_, fun g => ?_, fun g => ?_, fun g g2 => ?_⟩
        · rw [if_neg (by omega), if_neg (by omega), if_pos g] at hp
          simpa using hp
        · rw [if_neg (by omega), if_neg (by omega), if_neg (by omega)] at hp
          simpa using hp
        · rw [if_neg (by omega), if_pos g] at hp
          simpa using hp
        · rw [decide_eq_true g2, Bool.true_and] at hb
          simp only [Bool.or_eq_false_iff, decide_eq_false_iff_not] at hb
          omega
      refine Y.bnd _ (carry_world hm h k x may) ?_
      rintro r ⟨w', e, rfl, he⟩
      rcases he with he | ⟨rfl, h1, h2⟩
      · exact Y.nn he (Y.some (.inl ⟨e, he, rfl⟩))
      · exact Y.np rfl (Y.some (.inr ⟨w', rfl, h1, h2⟩))
  · refine Y.neg ?_ (Y.some (.inl ⟨3, by decide, rfl⟩))
    have e0 : (decide (k < 0) || decide (14 ≤ k)) = true := by
      simp only [Bool.or_eq_true, decide_eq_true_eq]
      omega
    rw [e0]
    rfl
/-- What is not permitted is refused. -/
theorem give_not {m : Mn} {w : Wd} (hm : m.Ok) (h : Val m w) (k x : Int) (h0 : 0 ≤ k ∧ k < 14) (hu : (k = 0 ∨ k = 1 ∨ k = 8 ∨ k = 9) ∨ x = 0) (hp : permB w k = false) : guard_Give.F (m.k (w.k (k, x))) = some (w0.k 16) := by
  have huse : guard_uses.F k = some (decide (k = 0) || decide (k = 1) || decide (k = 8) || decide (k = 9)) := Y.is (Y.of (guard_uses.F_of _) (Y.some rfl))
  have e0 : (decide (k < 0) || decide (14 ≤ k)) = false := by
    simp only [Bool.or_eq_false_iff, decide_eq_false_iff_not]
    omega
  apply Y.is
  refine Y.of (guard_Give.F_of _) (Y.bE (check_world hm h) (Y.np rfl (Y.pos (by rw [e0]; rfl) (Y.bE huse (Y.neg ?_ (Y.bE (perm_spec w k) ?_))))))
  · rcases hu with hu | hu
    · have : (decide (k = 0) || decide (k = 1) || decide (k = 8) || decide (k = 9)) = true := by
        simp only [Bool.or_eq_true, decide_eq_true_eq]
        omega
      rw [this]
      rfl
    · rw [hu]
      simp
  · rw [hp]
    exact Y.pos rfl (Y.some rfl)
/-- A safe stop is never refused. -/
theorem give_stop {m : Mn} {w : Wd} (hm : m.Ok) (h : Val m w) : Y (guard_Give.F (m.k (w.k (12, 0)))) fun r => ∃ w' : Wd, r = w'.k 0 ∧ Val m w' ∧ GiveRel w 12 w' := by
  have huse : guard_uses.F 12 = some false := Y.is (Y.of (guard_uses.F_of _) (Y.some rfl))
  refine Y.of (guard_Give.F_of _) (Y.bE (check_world hm h) (Y.np rfl (Y.pos rfl (Y.bE huse (Y.neg rfl (Y.bE (perm_spec w 12) (Y.neg rfl (Y.neg ?_ ?_))))))))
  · simp
  · have f1 : ∀ w' : Wd, Y (guard_carry.D1 (0, w'.k w0.e)) fun r => r = w'.k 0 := fun w' => Y.of (guard_carry.D1_of _) (Y.some rfl)
    have key : Y (guard_carry.F (m.k (w.k (12, 0)))) fun r => ∃ w' : Wd, r = w'.k 0 ∧ Val m w' ∧ GiveRel w 12 w' := by
      refine Y.of (guard_carry.F_of _) (Y.nd (by decide) (Y.of (guard_carry.D0_of _) (Y.neg rfl (Y.nd (by decide) (Y.nd (by decide) (Y.nd (by decide) (Y.nd (by decide) (Y.nd (by decide) (Y.of (guard_carry.D2_of _) (Y.neg rfl (Y.nd (by decide) (Y.nd (by decide) (Y.nd (by decide) (Y.nd (by decide) (Y.pd rfl (Y.ite (fun c0 => ?_) (fun c0 => ?_)))))))))))))))))
      · have hb := begin_spec hm h.toPhys
        have hv := h.toPhys.beginVal h.hz h.ky h.haz h.key
        have hs : w.begin.hz = w.hz ∧ w.begin.ky = w.ky ∧ w.begin.v = w.v ∧ w.begin.v2 = w.v2 ∧ w.begin.vd = w.vd ∧ w.begin.sh = w.sh ∧ w.begin.co = w.co ∧ w.begin.md = 1 ∧ (w.begin.mm = 0 ∨ w.begin.mm = 5) ∧ w.begin.cm ≠ 1 := by
          unfold Wd.begin Wd.stopM Wd.abortC
          by_cases c : w.mm = 0
          · by_cases d : w.cm = 1 <;> simp [c, d]
          · by_cases d : w.cm = 1 <;> simp [c, d]
        generalize w.begin = wb at *
        obtain ⟨q1, q2, q3, q4, q5, q6, q7, q8, q9, q10⟩ := hs
        refine Y.bE hb ((f1 wb).mono fun r hr => ⟨wb, hr, hv, ⟨q1, q2, q3, q4, q5, q6, q7, .inr (.inl ⟨rfl, c0, q8⟩), fun _ => by omega, fun _ _ => q9.elim .inl fun g => .inr (.inr g), fun _ _ => q10⟩⟩)
      · exact (f1 w).mono fun r hr => ⟨w, hr, h, GiveRel.same w 12 (.inr c0)⟩
    refine Y.bnd _ key ?_
    rintro r ⟨w', rfl, h1, h2⟩
    exact Y.np rfl (Y.some ⟨w', rfl, h1, h2⟩)
end Go.Proofs.RGuR
namespace Go.Proofs.RGuR
open Go Go.Eng

abbrev OrdT : Ty := .pair (.int .i64) (.int .i64)
abbrev InpT : Ty := .pair (.slice (.pair (.int .i64) (.int .i64))) (.pair .bool (.pair .bool (.pair .bool (.pair .bool .bool))))
abbrev Inp := List (Int × Int) × Bool × Bool × Bool × Bool × Bool
abbrev WN := ((Int × Int × Int × Bool) × (Int × Int × Int × Bool) × Int) × (Int × Int × Bool × Bool × Int × Int × Int × Bool) × (Int × Int × Int × Int) × (Bool × Bool × Bool × Bool × Bool) × (Int × Int) × Int × Int × Int
abbrev Wd.o (w : Wd) : WN := (((w.p, w.v, w.g, w.t), (w.p2, w.v2, w.g2, w.t2), w.mm), (w.sh, w.co, w.op, w.li, w.pd, w.vd, w.gd, w.td), (w.cm, w.cl, w.cb, w.cn), (w.s1, w.s2, w.s3, w.s4, w.s5), (w.aa, w.ab), w.md, w.hz, w.ky)
def hazOf (x : Inp) : Bool := x.2.1 || x.2.2.1 || x.2.2.2.1 || x.2.2.2.2.1
def keyOf (x : Inp) : Bool := x.2.2.2.2.2
def runS (l : List Inp) (i : Int) (o : List (Int × Int)) (j : Int) (m : Mn) (w : Wd) (out : List WN) (es : List Int) (x : Inp) : guard_Run.T1 := (l, (l.length : Int), i, o, (o.length : Int), j, m.k (w.k (out, es, x)))
def topR (l : List Inp) (i : Int) (m : Mn) (w : Wd) (out : List WN) (es : List Int) : guard_Run.T0 := (l, (l.length : Int), i, m.k (w.k (out, es)))
set_option maxHeartbeats 4000000 in
theorem give_next {m : Mn} (hm : m.Ok) (l : List Inp) (i : Int) (o : List (Int × Int)) (out : List WN) (x : Inp) (ho : o.length ≤ 1000000) (Q : guard_Run.R → Prop) (j : Nat) (hj : j < o.length) (w : Wd) (hw : Val m w) (es : List Int) (hes : es.length ≤ 1000000)
    (hk : ∀ (w' : Wd) (e : Int), (e ≠ 0 ∧ w' = w ∨ e = 0 ∧ Val m w' ∧ GiveRel w (rd OrdT o (j : Int)).1 w') → guard_Give.F (m.k (w.k (rd OrdT o (j : Int)))) = some ((if e = 0 then w' else w0).k e) → Y (guard_Run.D1 (runS l i o ((j : Int) + 1) m w' out (es ++ [e]) x)) Q) : Y (guard_Run.D1 (runS l i o (j : Int) m w out es x)) Q := by
  have f3 : ∀ (w' : Wd) (es' : List Int), Y (guard_Run.D1 (runS l i o ((j : Int) + 1) m w' out es' x)) Q → Y (guard_Run.D3 (runS l i o (j : Int) m w' out es' x)) Q := by
    intro w' es' h
    refine Y.of (guard_Run.D3_of _) ?_
    unfold runS
    dsimp only [guard_Run.d3]
    rw [w64 (x := (j : Int) + 1) (by omega) (by omega)]
    exact h
  have f2 : ∀ (w' : Wd) (e : Int), Y (guard_Run.D1 (runS l i o ((j : Int) + 1) m w' out (es ++ [e]) x)) Q → Y (guard_Run.D2 (e, runS l i o (j : Int) m w' out es x)) Q := by
    intro w' e h
    refine Y.of (guard_Run.D2_of _) ?_
    unfold runS
    exact Y.pd (by simp; omega) (f3 w' (es ++ [e]) h)
  refine Y.of (guard_Run.D1_of _) ?_
  unfold runS
  refine Y.pd (by omega) (Y.pd (by omega) ?_)
  obtain ⟨r, hr, hg⟩ := give_world hm hw (rd OrdT o (j : Int)).1 (rd OrdT o (j : Int)).2
  refine Y.bE hr ?_
  rcases hg with ⟨e, he, rfl⟩ | ⟨w', rfl, h1, h2⟩
  · have := f2 w e (hk w e (.inl ⟨he, rfl⟩) (by rw [if_neg he]; exact hr))
    exact Y.nd he this
  · have := f2 w' 0 (hk w' 0 (.inr ⟨rfl, h1, h2⟩) (by rw [if_pos rfl]; exact hr))
    exact Y.pd rfl this
theorem orders_loop {m : Mn} (hm : m.Ok) (l : List Inp) (i : Int) (o : List (Int × Int)) (out : List WN) (x : Inp) (ho : o.length ≤ 1000) (Q : guard_Run.R → Prop) (J : Wd → Prop) (hJ : ∀ (w w' : Wd) (k y : Int), (k, y) ∈ o → J w → Val m w → Val m w' → GiveRel w k w' → J w') (n : Nat) :
    ∀ (j : Nat) (w : Wd) (es : List Int), j + n = o.length → Val m w → J w → es.length + n ≤ 1000000 →
      (∀ (w' : Wd) (es' : List Int), Val m w' → J w' → (∃ t : List Int, es' = es ++ t ∧ t.length = n) → Y (guard_Run.D1 (runS l i o (o.length : Int) m w' out es' x)) Q) → Y (guard_Run.D1 (runS l i o (j : Int) m w out es x)) Q := by
  induction n with
  | zero =>
    intro j w es e hw hj hl hk
    have : j = o.length := by omega
    subst this
    exact hk w es hw hj ⟨[], by simp, rfl⟩
  | succ n ih =>
    intro j w es e hw hj hl hk
    have hm' : rd OrdT o (j : Int) ∈ o := rd_mem (t := OrdT) o (j : Int) (by omega) (by omega)
    refine give_next hm l i o out x (by omega) Q j (by omega) w hw es (by omega) fun w' e' he _ => ?_
    have hv : Val m w' ∧ J w' := by
      rcases he with ⟨_, rfl⟩ | ⟨_, h1, h2⟩
      · exact ⟨hw, hj⟩
      · exact ⟨h1, hJ w w' _ _ hm' hj hw h1 h2⟩
    have := ih (j + 1) w' (es ++ [e']) (by omega) hv.1 hv.2 (by simp; omega) fun w'' es'' h1 h2 h3 => by
      obtain ⟨t, ht, hn⟩ := h3
      exact hk w'' es'' h1 h2 ⟨e' :: t, by rw [ht]; simp, by simp [hn]⟩
    exact_mod_cast this
set_option maxHeartbeats 4000000 in
theorem step_next {m : Mn} (hm : m.Ok) (l : List Inp) (i : Int) (hi : 0 ≤ i ∧ i ≤ 1000000) (o : List (Int × Int)) (out : List WN) (hout : out.length ≤ 1000000) (x : Inp) (Q : guard_Run.R → Prop) (w : Wd) (hw : Val m w) (es : List Int)
    (hk : ∀ w' : Wd, Val m w' → StepRel m w (hazOf x) (keyOf x) w' → guard_Step.F (m.k (w.k x.2)) = some w'.e → Y (guard_Run.D0 (topR l (i + 1) m w' (out ++ [w'.o]) es)) Q) : Y (guard_Run.D1 (runS l i o (o.length : Int) m w out es x)) Q := by
  refine Y.of (guard_Run.D1_of _) ?_
  unfold runS
  refine Y.nd (by omega) ?_
  obtain ⟨r, hr, w', rfl, h1, h2⟩ := step_world hm hw x.2.1 x.2.2.1 x.2.2.2.1 x.2.2.2.2.1 x.2.2.2.2.2
  have := hk w' h1 h2 hr
  refine Y.bE hr (Y.pd (by simp; omega) ?_)
  rw [w64 (x := i + 1) (by omega) (by omega)]
  exact this
theorem run_loop {m : Mn} (hm : m.Ok) (l : List Inp) (hl : l.length ≤ 2000) (ho : ∀ x ∈ l, x.1.length ≤ 100) (Q : guard_Run.R → Prop) (J : Nat → Wd → Prop) (P : List Int → Prop) (hP : ∀ es t : List Int, P es → P (es ++ t))
    (hg : ∀ (i : Nat) (x : Inp) (w w' : Wd) (k y : Int), l[i]? = some x → (k, y) ∈ x.1 → J i w → Val m w → Val m w' → GiveRel w k w' → J i w')
    (hs : ∀ (i : Nat) (x : Inp) (w w' : Wd), l[i]? = some x → J i w → Val m w → Val m w' → StepRel m w (hazOf x) (keyOf x) w' → J (i + 1) w')
    (hQ : ∀ (es : List Int) (ws : List Wd), P es → ws.length = l.length → (∀ (i : Nat) (w : Wd), ws[i]? = some w → Val m w ∧ J (i + 1) w) → Q (0, ws.map Wd.o, es)) (n : Nat) :
    ∀ (i : Nat) (w : Wd) (ws : List Wd) (es : List Int), i + n = l.length → ws.length = i → (∀ (k : Nat) (w : Wd), ws[k]? = some w → Val m w ∧ J (k + 1) w) → Val m w → J i w → es.length ≤ 100 * i + 100 → P es → Y (guard_Run.D0 (topR l (i : Int) m w (ws.map Wd.o) es)) Q := by
  induction n with
  | zero =>
    intro i w ws es e hws hall hw hj hes hpe
    refine Y.of (guard_Run.D0_of _) ?_
    unfold topR
    exact Y.nd (by omega) (Y.some (hQ es ws hpe (by omega) hall))
  | succ n ih =>
    intro i w ws es e hws hall hw hj hes hpe
    have hi : i < l.length := by omega
    have hx : l[i]? = some (rd InpT l (i : Int)) := by
      rw [List.getElem?_eq_getElem hi, rd_nat (t := InpT) l i hi]
    have hmem : rd InpT l (i : Int) ∈ l := rd_mem (t := InpT) l (i : Int) (by omega) (by omega)
    have hox := ho _ hmem
    refine Y.of (guard_Run.D0_of _) ?_
    unfold topR
    refine Y.pd (by omega) (Y.pd (by omega) ?_)
    obtain ⟨x, hxx⟩ : ∃ x : Inp, rd InpT l (i : Int) = x := ⟨_, rfl⟩
    rw [show rd (((Ty.int IntKind.i64).pair (Ty.int IntKind.i64)).slice.pair (Ty.bool.pair (Ty.bool.pair (Ty.bool.pair (Ty.bool.pair Ty.bool))))) l (i : Int) = x from hxx]
    rw [hxx] at hx hmem hox
    refine orders_loop hm l (i : Int) x.1 (ws.map Wd.o) x (by omega) Q (J i) (fun w w' k y hk h1 h2 h3 h4 => hg i x w w' k y hx hk h1 h2 h3 h4) x.1.length 0 w es (by omega) hw hj (by omega) fun w1 es1 hw1 hj1 ht => ?_
    obtain ⟨t, ht, htl⟩ := ht
    have hes1 : es1.length ≤ 100 * (i + 1) + 100 := by
      rw [ht, List.length_append]
      omega
    refine step_next hm l (i : Int) (by omega) x.1 (ws.map Wd.o) (by simp; omega) x Q w1 hw1 es1 fun w2 hw2 hsr _ => ?_
    have hj2 := hs i x w1 w2 hx hj1 hw1 hw2 hsr
    have := ih (i + 1) w2 (ws ++ [w2]) es1 (by omega) (by simp [hws]) (fun k w hk => ?_) hw2 hj2 hes1 (by rw [ht]; exact hP es t hpe)
    · rw [List.map_append] at this
      exact_mod_cast this
    · by_cases c : k < ws.length
      · rw [List.getElem?_append_left c] at hk
        exact hall k w hk
      · rw [List.getElem?_append_right (by omega)] at hk
        have hk0 : k = ws.length := by
          by_cases c2 : k - ws.length = 0
          · omega
          · rw [List.getElem?_eq_none (by simp; omega)] at hk
            cases hk
        subst hk0
        rw [Nat.sub_self] at hk
        cases hk
        rw [hws]
        exact ⟨hw2, hj2⟩
theorem run_inv {m : Mn} (hm : m.Ok) (w : Wd) (hw : Val m w) (l : List Inp) (hl : l.length ≤ 2000) (ho : ∀ x ∈ l, x.1.length ≤ 100) (J : Nat → Wd → Prop) (hj : J 0 w)
    (hg : ∀ (i : Nat) (x : Inp) (w w' : Wd) (k y : Int), l[i]? = some x → (k, y) ∈ x.1 → J i w → Val m w → Val m w' → GiveRel w k w' → J i w')
    (hs : ∀ (i : Nat) (x : Inp) (w w' : Wd), l[i]? = some x → J i w → Val m w → Val m w' → StepRel m w (hazOf x) (keyOf x) w' → J (i + 1) w') :
    Y (guard_Run.F (m.k (w.k l))) fun r => ∃ (es : List Int) (ws : List Wd), r = (0, ws.map Wd.o, es) ∧ ws.length = l.length ∧ ∀ (i : Nat) (w : Wd), ws[i]? = some w → Val m w ∧ J (i + 1) w := by
  refine Y.of (guard_Run.F_of _) (Y.bE (check_world hm hw) (Y.np rfl (Y.nd (by omega) ?_)))
  exact run_loop hm l hl ho _ J (fun _ => True) (fun _ _ _ => trivial) hg hs (fun es ws _ h1 h2 => ⟨es, ws, rfl, h1, h2⟩) l.length 0 w [] [] (Nat.zero_add _) rfl (fun k w h => by simp at h) hw hj (by simp) trivial
end Go.Proofs.RGuR
namespace Go.Proofs.RGuR
open Go Go.Eng

theorem range_spec (a b : Int) (L : List Int) (at_ : Int) (ha : 0 ≤ at_) (hb : at_ ≤ 4611686018427387904) (h0 : 0 ≤ a) (h1 : a ≤ b) (h2 : b ≤ 1099511627776) : Y (spymake_Stream_Range.F (a, b, L, at_)) fun r => ∃ x, r = (x, L, at_ + 1) ∧ a ≤ x ∧ x ≤ b := by
  refine Y.of (spymake_Stream_Range.F_of _) (Y.nd (by omega) ?_)
  rw [w64 (x := b - a) (by omega) (by omega), w64 (x := b - a + 1) (by omega) (by omega)]
  refine Y.next L at_ (b - a + 1) ha hb (by omega) (by omega) fun r r0 r1 => Y.some ?_
  exact ⟨_, by rw [w64 (x := a + r) (by omega) (by omega)], by omega, by omega⟩
theorem Y.range {β : Type} {f : spymake_Stream_Range.R → Option β} {Q : β → Prop} (a b : Int) (L : List Int) (at_ : Int) (ha : 0 ≤ at_) (hb : at_ ≤ 4611686018427387904) (h0 : 0 ≤ a) (h1 : a ≤ b) (h2 : b ≤ 1099511627776)
    (k : ∀ r, a ≤ r → r ≤ b → Y (f (r, L, at_ + 1)) Q) : Y (bnd (spymake_Stream_Range.F (a, b, L, at_)) f) Q := by
  obtain ⟨r, hr, x, rfl, h3, h4⟩ := range_spec a b L at_ ha hb h0 h1 h2
  exact Y.bE hr (k x h3 h4)
theorem inside_spec (lo hi S a : Int) (L : List Int) (at_ : Int) (ha : 0 ≤ at_) (hb : at_ ≤ 1000000000) (h0 : -17179869184 ≤ lo) (h1 : hi ≤ 17179869184) (h2 : lo ≤ hi) : Y (spymake_Stream_Inside.F (lo, hi, S, a, L, at_)) fun r => ∃ x at', r = (x, L, at') ∧ lo ≤ x ∧ x ≤ hi ∧ at_ ≤ at' ∧ at' ≤ at_ + 3 := by
  refine Y.of (spymake_Stream_Inside.F_of _) (Y.next L at_ 6 ha (by omega) (by omega) (by omega) fun c c0 c1 => ?_)
  refine Y.ite (fun _ => Y.some ⟨lo, at_ + 1, rfl, by omega, by omega, by omega, by omega⟩) (fun _ => Y.ite (fun _ => Y.some ⟨hi, at_ + 1, rfl, by omega, by omega, by omega, by omega⟩) (fun _ => Y.np' (by decide) ?_))
  refine Y.next L (at_ + 1) 1000 (by omega) (by omega) (by omega) (by omega) fun r r0 r1 => ?_
  rw [w64 (x := hi - lo) (by omega) (by omega), tdiv_nn (a := hi - lo) (by omega), w64 (x := (hi - lo) / 1000) (by omega) (by omega), w64 (x := (hi - lo) / 1000 + 1) (by omega) (by omega)]
  obtain ⟨d, hd⟩ : ∃ d : Int, d = (hi - lo) / 1000 := ⟨_, rfl⟩
  rw [← hd]
  have d0 : 0 ≤ d ∧ d * 1000 ≤ hi - lo := by omega
  refine Y.next L (at_ + 1 + 1) (d + 1) (by omega) (by omega) (by omega) (by omega) fun s s0 s1 => ?_
  have p0 : 0 ≤ d * r := Int.mul_nonneg d0.1 r0
  have p1 : d * r ≤ d * 999 := Int.mul_le_mul_of_nonneg_left (by omega) d0.1
  have e : ∀ pr : Int, 0 ≤ pr → pr ≤ d * 999 → Y (some ((wrap .i64 (wrap .i64 (lo + wrap .i64 pr) + s), L, at_ + 1 + 1 + 1) : spymake_Stream_Inside.R)) fun r => ∃ x at', r = (x, L, at') ∧ lo ≤ x ∧ x ≤ hi ∧ at_ ≤ at' ∧ at' ≤ at_ + 3 := by
    intro pr q0 q1
    rw [w64 (x := pr) (by omega) (by omega), w64 (x := lo + pr) (by omega) (by omega), w64 (x := lo + pr + s) (by omega) (by omega)]
    exact Y.some ⟨lo + pr + s, at_ + 1 + 1 + 1, rfl, by omega, by omega, by omega, by omega⟩
  exact e (d * r) p0 p1
theorem Y.inside {β : Type} {f : spymake_Stream_Inside.R → Option β} {Q : β → Prop} (lo hi S a : Int) (L : List Int) (at_ : Int) (ha : 0 ≤ at_) (hb : at_ ≤ 1000000000) (h0 : -17179869184 ≤ lo) (h1 : hi ≤ 17179869184) (h2 : lo ≤ hi)
    (k : ∀ x at', lo ≤ x → x ≤ hi → at_ ≤ at' → at' ≤ at_ + 3 → Y (f (x, L, at')) Q) : Y (bnd (spymake_Stream_Inside.F (lo, hi, S, a, L, at_)) f) Q := by
  obtain ⟨r, hr, x, at', rfl, h3, h4, h5, h6⟩ := inside_spec lo hi S a L at_ ha hb h0 h1 h2
  exact Y.bE hr (k x at' h3 h4 h5 h6)
theorem shl_spec (r : Int) (h0 : 24 ≤ r) (h1 : r ≤ 30) : 16777216 ≤ shl .i64 1 r ∧ shl .i64 1 r ≤ 1073741824 ∧ (shl .i64 1 r = 16777216 ∨ 33554432 ≤ shl .i64 1 r) := by
  have hc : r = 24 ∨ r = 25 ∨ r = 26 ∨ r = 27 ∨ r = 28 ∨ r = 29 ∨ r = 30 := by omega
  rcases hc with h | h | h | h | h | h | h <;> subst h <;> decide
/-- What Axis gives. -/
def Axes (L : List Int) (at0 at1 : Int) (r : spymake_Stream_Axis.R) : Prop := ∃ lo hi S a at', r = (lo, hi, S, a, L, at') ∧ AxOk lo hi S a ∧ at0 ≤ at' ∧ at' ≤ at1
theorem axis_tail (L : List Int) (S a at_ : Int) (ha : 0 ≤ at_) (hb : at_ ≤ 1000000000) (h3 : 16777216 ≤ S) (h4 : S ≤ 1073741824) (h5 : 1 ≤ a) (h6 : a ≤ S) (h7 : S ≤ a * 64) (u1 u2 u3 u4 : Int) :
    Y (spymake_Stream_Axis.D0 (S, a, L, at_, u1, u2, u3, u4)) (Axes L at_ (at_ + 5)) := by
  have fin : ∀ lo hi at' : Int, -17179869184 ≤ lo → hi ≤ 17179869184 → lo ≤ hi → at_ ≤ at' → at' ≤ at_ + 5 → ∀ u1 u2 u3 u4, Y (spymake_Stream_Axis.D1 (S, a, lo, hi, L, at', u1, u2, u3, u4)) (Axes L at_ (at_ + 5)) := by
    intro lo hi at' g0 g1 g2 g3 g4 u1 u2 u3 u4
    exact Y.of (spymake_Stream_Axis.D1_of _) (Y.some ⟨lo, hi, S, a, at', rfl, ⟨g0, g1, g2, h3, h4, h5, h6, h7⟩, g3, g4⟩)
  refine Y.of (spymake_Stream_Axis.D0_of _) ?_
  refine Y.range 0 6 L at_ ha (by omega) (by omega) (by omega) (by omega) fun x hx0 hx1 => ?_
  refine Y.range 1 6 L (at_ + 1) (by omega) (by omega) (by omega) (by omega) (by omega) fun y hy0 hy1 => ?_
  refine Y.next L (at_ + 1 + 1) 4 (by omega) (by omega) (by omega) (by omega) fun z hz0 hz1 => ?_
  dsimp only
  rw [w64 (x := 0 - x) (by omega) (by omega), w64 (x := (0 - x) * 1073741824) (by omega) (by omega), w64 (x := y * 1073741824) (by omega) (by omega)]
  refine Y.ite (fun _ => ?_) (fun _ => ?_)
  · refine Y.next L (at_ + 1 + 1 + 1) 1048576 (by omega) (by omega) (by omega) (by omega) fun u hu0 hu1 => ?_
    refine Y.next L (at_ + 1 + 1 + 1 + 1) 1048576 (by omega) (by omega) (by omega) (by omega) fun v hv0 hv1 => ?_
    dsimp only
    rw [w64 (x := (0 - x) * 1073741824 + u) (by omega) (by omega), w64 (x := y * 1073741824 - v) (by omega) (by omega)]
    exact fin _ _ _ (by omega) (by omega) (by omega) (by omega) (by omega) _ _ _ _
  · exact fin _ _ _ (by omega) (by omega) (by omega) (by omega) (by omega) _ _ _ _
theorem axis_draw (L : List Int) (at_ : Int) (ha : 0 ≤ at_) (hb : at_ ≤ 100000000) : Y (spymake_Stream_Axis.F (L, at_)) (Axes L at_ (at_ + 10)) := by
  have widen : ∀ {at2 : Int} {o : Option spymake_Stream_Axis.R}, at_ ≤ at2 → at2 ≤ at_ + 5 → Y o (Axes L at2 (at2 + 5)) → Y o (Axes L at_ (at_ + 10)) := by
    intro at2 o g0 g1 h
    refine h.mono ?_
    rintro r ⟨lo, hi, S, a, at', rfl, h1, h2, h3⟩
    exact ⟨lo, hi, S, a, at', rfl, h1, by omega, by omega⟩
  refine Y.of (spymake_Stream_Axis.F_of _) (Y.range 24 30 L at_ ha (by omega) (by omega) (by omega) (by omega) fun r hr0 hr1 => Y.pd (by omega) ?_)
  obtain ⟨s0, s1, s2⟩ := shl_spec r hr0 hr1
  dsimp only
  generalize shl .i64 1 r = S at s0 s1 s2 ⊢
  refine Y.range 1 8 L (at_ + 1) (by omega) (by omega) (by omega) (by omega) (by omega) fun q hq0 hq1 => Y.np' (by omega) ?_
  have hd : 1 ≤ S / q ∧ S / q ≤ S ∧ S ≤ S / q * 60 := by
    have hc : q = 1 ∨ q = 2 ∨ q = 3 ∨ q = 4 ∨ q = 5 ∨ q = 6 ∨ q = 7 ∨ q = 8 := by omega
    rcases hc with h | h | h | h | h | h | h | h <;> subst h <;> omega
  dsimp only
  rw [tdiv_nn (a := S) (by omega), w64 (x := S / q) (by omega) (by omega)]
  generalize S / q = a at hd ⊢
  refine Y.next L (at_ + 1 + 1) 3 (by omega) (by omega) (by omega) (by omega) fun c hc0 hc1 => ?_
  refine Y.ite (fun _ => ?_) (fun _ => ?_)
  · refine Y.next L (at_ + 1 + 1 + 1) 1000 (by omega) (by omega) (by omega) (by omega) fun x hx0 hx1 => Y.pd (by decide) ?_
    refine Y.next L (at_ + 1 + 1 + 1 + 1) 1000 (by omega) (by omega) (by omega) (by omega) fun y hy0 hy1 => ?_
    dsimp only
    have hsh : shr .i64 (S - 16777216) 10 = (S - 16777216) / 1024 := by
      rw [show shr .i64 (S - 16777216) 10 = (S - 16777216).fdiv 1024 from rfl]
      exact Int.fdiv_eq_ediv_of_nonneg _ (by decide)
    rw [w64 (x := S - 16777216) (by omega) (by omega), hsh]
    have hm : (S = 16777216 ∧ min 1 ((S - 16777216) / 1024) = 0) ∨ (33554432 ≤ S ∧ min 1 ((S - 16777216) / 1024) = 1) := by omega
    generalize min 1 ((S - 16777216) / 1024) = m at hm ⊢
    have hxm : x * m = 0 ∨ (33554432 ≤ S ∧ x * m = x) := by
      rcases hm with ⟨_, h⟩ | ⟨h1, h⟩
      · left
        rw [h]
        omega
      · right
        rw [h]
        omega
    generalize x * m = xm at hxm ⊢
    rw [w64 (x := xm) (by omega) (by omega), w64 (x := S - xm) (by omega) (by omega), w64 (x := a + y) (by omega) (by omega)]
    exact widen (by omega) (by omega) (axis_tail L (S - xm) (min (a + y) (S - xm)) (at_ + 1 + 1 + 1 + 1 + 1) (by omega) (by omega) (by omega) (by omega) (by omega) (by omega) (by omega) _ _ _ _)
  · exact widen (by omega) (by omega) (axis_tail L S a (at_ + 1 + 1 + 1) (by omega) (by omega) (by omega) (by omega) (by omega) (by omega) (by omega) _ _ _ _)
theorem mount_draw (L : List Int) : Y (spymake_Stream_Mount.F (L, 0)) fun r => ∃ (m : Mn) (at' : Int), r = m.k (L, at') ∧ m.Ok ∧ 0 ≤ at' ∧ at' ≤ 100 := by
  have fin : ∀ (lo hi S a lo2 hi2 S2 a2 at_ : Int), AxOk lo hi S a → AxOk lo2 hi2 S2 a2 → 0 ≤ at_ → at_ ≤ 90 → ∀ (x1 x2 x3 x4 x5 x6 x7 x8 x9 xa y1 y2 : Int), Y (spymake_Stream_Mount.D1 (L, at_, x1, x2, x3, x4, x5, x6, x7, x8, x9, xa, lo, hi, S, a, lo2, hi2, S2, a2, y1, y2)) fun r => ∃ (m : Mn) (at' : Int), r = m.k (L, at') ∧ m.Ok ∧ 0 ≤ at' ∧ at' ≤ 100 := by
    intro lo hi S a lo2 hi2 S2 a2 at_ h1 h2 a0 a1 x1 x2 x3 x4 x5 x6 x7 x8 x9 xa y1 y2
    refine Y.of (spymake_Stream_Mount.D1_of _) (Y.inside lo hi S a L at_ a0 (by omega) h1.1 h1.2.1 h1.2.2.1 fun p at1 p0 p1 b0 b1 => ?_)
    refine Y.inside lo2 hi2 S2 a2 L at1 (by omega) (by omega) h2.1 h2.2.1 h2.2.2.1 fun q at2 q0 q1 b2 b3 => ?_
    exact Y.some ⟨⟨lo, hi, S, a, lo2, hi2, S2, a2, p, q⟩, at2, rfl, ⟨h1, h2, p0, p1, q0, q1⟩, by omega, by omega⟩
  have mid : ∀ (lo hi S a lo2 hi2 S2 a2 at_ : Int), AxOk lo hi S a → AxOk lo2 hi2 S2 a2 → 0 ≤ at_ → at_ ≤ 80 → ∀ (x1 x2 x3 x4 x5 x6 x7 x8 x9 xa y1 y2 : Int), Y (spymake_Stream_Mount.D0 (L, at_, x1, x2, x3, x4, x5, x6, x7, x8, x9, xa, lo, hi, S, a, lo2, hi2, S2, a2, y1, y2)) fun r => ∃ (m : Mn) (at' : Int), r = m.k (L, at') ∧ m.Ok ∧ 0 ≤ at' ∧ at' ≤ 100 := by
    intro lo hi S a lo2 hi2 S2 a2 at_ h1 h2 a0 a1 x1 x2 x3 x4 x5 x6 x7 x8 x9 xa y1 y2
    refine Y.of (spymake_Stream_Mount.D0_of _) (Y.next L at_ 3 a0 (by omega) (by omega) (by omega) fun c c0 c1 => ?_)
    dsimp only
    refine Y.ite (fun _ => fin lo hi S a _ _ S2 a2 _ h1 ⟨by decide, by decide, by decide, h2.2.2.2⟩ (by omega) (by omega) _ _ _ _ _ _ _ _ _ _ _ _) (fun _ => fin lo hi S a lo2 hi2 S2 a2 _ h1 h2 (by omega) (by omega) _ _ _ _ _ _ _ _ _ _ _ _)
  refine Y.of (spymake_Stream_Mount.F_of _) (Y.bnd _ (axis_draw L 0 (by omega) (by omega)) ?_)
  rintro r ⟨lo, hi, S, a, at1, rfl, h1, b0, b1⟩
  refine Y.bnd _ (axis_draw L at1 (by omega) (by omega)) ?_
  rintro r ⟨lo2, hi2, S2, a2, at2, rfl, h2, b2, b3⟩
  refine Y.next L at2 3 (by omega) (by omega) (by omega) (by omega) fun c c0 c1 => ?_
  dsimp only
  exact Y.ite (fun _ => mid _ _ S a lo2 hi2 S2 a2 _ ⟨by decide, by decide, by decide, h1.2.2.2⟩ h2 (by omega) (by omega) _ _ _ _ _ _ _ _ _ _ _ _) (fun _ => mid lo hi S a lo2 hi2 S2 a2 _ h1 h2 (by omega) (by omega) _ _ _ _ _ _ _ _ _ _ _ _)
/-- Inputs that a script may have. -/
structure Scr (n : Int) (xs : List Inp) : Prop where
  len : (xs.length : Int) = n
  few : ∀ x ∈ xs, x.1.length ≤ 5
  fst : ∀ x, xs[0]? = some x → ∃ t, x.1 = (13, 0) :: (6, 0) :: t
set_option maxHeartbeats 1000000 in
theorem script_loop (L : List Int) (m : Mn) (hm : m.Ok) (n B : Int) (hB : 0 ≤ B ∧ B ≤ 100000) (hn : n ≤ 1000) (d : Nat) : ∀ (i at_ : Int) (xs : List Inp), 0 ≤ i → n - i = d → 0 ≤ at_ → at_ ≤ B + 20 * i → Scr i xs →
    Y (spykeep2_script.D0 (n, i, L, at_, m.k xs)) fun r => ∃ (xs' : List Inp) (at' : Int), r = (L, at', xs') ∧ 0 ≤ at' ∧ at' ≤ B + 20 * n ∧ Scr n xs' := by
  obtain ⟨hA, hA2, _⟩ := hm
  induction d with
  | zero =>
    intro i at_ xs h0 h1 h2 h3 h4
    have : i = n := by omega
    subst this
    exact Y.of (spykeep2_script.D0_of _) (Y.nd (by omega) (Y.some ⟨xs, at_, rfl, h2, h3, h4⟩))
  | succ d ih =>
    intro i at_ xs h0 h1 h2 h3 h4
    have hlen := h4.len
    -- the input is appended
    have f3 : ∀ (o : List (Int × Int)) (at' : Int) (s1 s2 s3 s4 s5 : Bool), o.length ≤ 5 → (i = 0 → ∃ t, o = (13, 0) :: (6, 0) :: t) → at_ ≤ at' → at' ≤ at_ + 20 → Y (spykeep2_script.D3 (n, i, L, at', m.k (xs, s1, s2, s3, s4, s5, o))) fun r => ∃ (xs' : List Inp) (at' : Int), r = (L, at', xs') ∧ 0 ≤ at' ∧ at' ≤ B + 20 * n ∧ Scr n xs' := by
      intro o at' s1 s2 s3 s4 s5 ho ht a0 a1
      refine Y.of (spykeep2_script.D3_of _) (Y.pd (by simp; omega) (Y.of (spykeep2_script.D4_of _) ?_))
      dsimp only [spykeep2_script.d4]
      rw [w64 (x := i + 1) (by omega) (by omega)]
      refine ih (i + 1) at' _ (by omega) (by omega) (by omega) (by omega) ⟨by simp; omega, fun x hx => ?_, fun x hx => ?_⟩
      · rcases List.mem_append.mp hx with g | g
        · exact h4.few x g
        · rw [List.mem_singleton] at g
          subst g
          exact ho
      · by_cases c : 0 < xs.length
        · rw [List.getElem?_append_left c] at hx
          exact h4.fst x hx
        · have hn : xs = [] := List.eq_nil_of_length_eq_zero (by omega)
          subst hn
          simp only [List.nil_append, List.getElem?_cons_zero, Option.some.injEq] at hx
          subst hx
          exact ht (by simpa using hlen.symm)
    have f2 : ∀ (o : List (Int × Int)) (at' : Int) (s1 s2 s3 s4 s5 : Bool), o.length ≤ 5 → (i = 0 → ∃ t, o = (13, 0) :: (6, 0) :: t) → at_ ≤ at' → at' ≤ at_ + 10 → Y (spykeep2_script.D2 (n, i, L, at', m.k (xs, s1, s2, s3, s4, s5, o))) fun r => ∃ (xs' : List Inp) (at' : Int), r = (L, at', xs') ∧ 0 ≤ at' ∧ at' ≤ B + 20 * n ∧ Scr n xs' := by
      intro o at' s1 s2 s3 s4 s5 ho ht a0 a1
      refine Y.of (spykeep2_script.D2_of _) (Y.next L at' 20 (by omega) (by omega) (by omega) (by omega) fun c c0 c1 => ?_)
      refine Y.ite (fun _ => ?_) (fun _ => f3 o (at' + 1) s1 s2 s3 s4 s5 ho ht (by omega) (by omega))
      refine Y.next L (at' + 1) 3 (by omega) (by omega) (by omega) (by omega) fun u1 _ _ => ?_
      refine Y.next L (at' + 1 + 1) 3 (by omega) (by omega) (by omega) (by omega) fun u2 _ _ => ?_
      refine Y.next L (at' + 1 + 1 + 1) 5 (by omega) (by omega) (by omega) (by omega) fun u3 _ _ => ?_
      refine Y.next L (at' + 1 + 1 + 1 + 1) 5 (by omega) (by omega) (by omega) (by omega) fun u4 _ _ => ?_
      refine Y.next L (at' + 1 + 1 + 1 + 1 + 1) 2 (by omega) (by omega) (by omega) (by omega) fun u5 _ _ => ?_
      exact f3 o (at' + 1 + 1 + 1 + 1 + 1 + 1) _ _ _ _ _ ho ht (by omega) (by omega)
    have f1 : ∀ (o : List (Int × Int)) (s1 s2 s3 s4 s5 : Bool), o.length ≤ 2 → (i = 0 → o = [(13, 0), (6, 0)]) → Y (spykeep2_script.D1 (n, i, L, at_, m.k (xs, s1, s2, s3, s4, s5, o))) fun r => ∃ (xs' : List Inp) (at' : Int), r = (L, at', xs') ∧ 0 ≤ at' ∧ at' ≤ B + 20 * n ∧ Scr n xs' := by
      intro o s1 s2 s3 s4 s5 ho ht
      have more : ∀ (t : List (Int × Int)), i = 0 → ∃ u, o ++ t = (13, 0) :: (6, 0) :: u := fun t g => ⟨t, by rw [ht g]; rfl⟩
      refine Y.of (spykeep2_script.D1_of _) (Y.next L at_ 9 (by omega) (by omega) (by omega) (by omega) fun c c0 c1 => ?_)
      refine Y.ite (fun _ => ?_) (fun _ => Y.ite (fun _ => ?_) (fun _ => Y.ite (fun _ => ?_) (fun _ => Y.ite (fun _ => ?_) (fun _ => ?_))))
      · refine Y.inside m.lo m.hi m.S m.a L (at_ + 1) (by omega) (by omega) hA.1 hA.2.1 hA.2.2.1 fun p at1 p0 p1 b0 b1 => ?_
        refine Y.inside m.lo2 m.hi2 m.S2 m.a2 L at1 (by omega) (by omega) hA2.1 hA2.2.1 hA2.2.2.1 fun q at2 q0 q1 b2 b3 => ?_
        exact Y.pd (by simp; omega) (f2 _ at2 s1 s2 s3 s4 s5 (by simp; omega) (more _) (by omega) (by omega))
      · exact Y.pd (by simp; omega) (f2 _ (at_ + 1) s1 s2 s3 s4 s5 (by simp; omega) (more _) (by omega) (by omega))
      · refine Y.range 1 16 L (at_ + 1) (by omega) (by omega) (by omega) (by omega) (by omega) fun r r0 r1 => ?_
        exact Y.pd (by simp; omega) (f2 _ (at_ + 1 + 1) s1 s2 s3 s4 s5 (by simp; omega) (more _) (by omega) (by omega))
      · refine Y.next L (at_ + 1) 8 (by omega) (by omega) (by omega) (by omega) fun r r0 r1 => ?_
        refine Y.pd ⟨r0, by show r < 8; omega⟩ (Y.pd (by simp; omega) (f2 _ (at_ + 1 + 1) s1 s2 s3 s4 s5 (by simp; omega) (more _) (by omega) (by omega)))
      · exact f2 o (at_ + 1) s1 s2 s3 s4 s5 (by omega) (fun g => ⟨[], ht g⟩) (by omega) (by omega)
    refine Y.of (spykeep2_script.D0_of _) (Y.pd (by omega) (Y.ite (fun c => ?_) (fun c => ?_)))
    · exact Y.pd (by decide) (f1 [(13, 0), (6, 0)] _ _ _ _ _ (by simp) (fun _ => rfl))
    · exact f1 [] _ _ _ _ _ (by simp) (fun g => absurd g c)
theorem script_draw (L : List Int) (m : Mn) (hm : m.Ok) (n at_ : Int) (h0 : 0 ≤ n) (hn : n ≤ 1000) (ha : 0 ≤ at_) (hb : at_ ≤ 100000) : Y (spykeep2_script.F (m.k (n, L, at_))) fun r => ∃ (xs : List Inp) (at' : Int), r = (L, at', xs) ∧ 0 ≤ at' ∧ at' ≤ at_ + 20 * n ∧ Scr n xs := by
  refine Y.of (spykeep2_script.F_of _) ?_
  exact script_loop L m hm n at_ ⟨ha, hb⟩ hn n.toNat 0 at_ [] (by omega) (by omega) ha (by omega) ⟨rfl, fun x hx => (by cases hx), fun x hx => (by simp at hx)⟩
end Go.Proofs.RGuR
namespace Go.Proofs.RGuR
open Go Go.Eng

def Wd.start (m : Mn) : Wd := ⟨m.pa, 0, m.pa, false, m.pb, 0, m.pb, false, 0, 0, 0, false, false, 0, 0, 0, false, 0, 0, 0, 0, false, false, false, false, false, 0, 0, 2, 0, 0⟩
theorem start_spec (m : Mn) : guard_Start.F m.e = some (Wd.start m).e := by
  apply Y.is
  exact Y.of (guard_Start.F_of _) (Y.bE (mount_rest _ _ _ _ _ _ _ _ _ _) (Y.some rfl))
theorem start_val {m : Mn} (hm : m.Ok) : Val m (Wd.start m) := by
  obtain ⟨hA, hB, a0, a1, b0, b1⟩ := hm
  refine ⟨⟨rest_ok _ _ _ _ _ hA.2.2.2.2.2.1 (by have := hA.2.2.2.1; omega) a0 a1, rest_ok _ _ _ _ _ hB.2.2.2.2.2.1 (by have := hB.2.2.2.1; omega) b0 b1, .inl ⟨rfl, rfl, rfl, rfl, rfl, rfl, rfl, rfl, rfl⟩, ⟨Int.le_refl 0, (by show (0 : Int) ≤ 100; decide), Int.le_refl 0, (by show (0 : Int) ≤ 20; decide), fun h => absurd h (by show ¬ (0 : Int) < 0; decide), rest_ok _ _ _ _ 0 (by decide) (by decide) (by decide) (by decide)⟩,
    ⟨Int.le_refl 0, (by show (0 : Int) ≤ 1073741824; decide), Int.le_refl 0, (by show (0 : Int) ≤ 16; decide), .inl ⟨rfl, rfl, rfl⟩⟩⟩, (by show (0 : Int) ≤ 2 ∧ (2 : Int) ≤ 2; decide), (by show (0 : Int) ≤ 0 ∧ (0 : Int) ≤ 17592186044416; decide), (by show (0 : Int) ≤ 0 ∧ (0 : Int) ≤ 17592186044416; decide), fun h => absurd h (by show ¬ (0 : Int) = 1; decide), (by show 0 < (0 : Int) ↔ false = true; decide), (by show 0 < (0 : Int) ↔ false = true; decide), fun _ => rfl, fun _ => ⟨rfl, rfl, rfl, (by show (0 : Int) ≠ 1; decide), rfl, rfl⟩, fun _ => ⟨.inl rfl, .inr rfl, rfl, rfl, (by show (0 : Int) ≠ 1; decide)⟩, fun h => absurd h (by show ¬ (0 : Int) = 1; decide)⟩
theorem guarded_spec : spykeep2_guarded.F () = some true := by
  have h1 := start_spec ⟨0, 0, 0, 0, 0, 0, 0, 0, 0, 0⟩
  have h2 : guard_Hard.F (({ w0 with co := 1 } : Wd).e) = some 1 := by
    apply Y.is
    exact Y.of (guard_Hard.F_of _) (Y.pos rfl (Y.of (guard_Hard.D0_of _) (Y.neg rfl (Y.of (guard_Hard.D1_of _) (Y.some (by decide))))))
  apply Y.is
  exact Y.of (spykeep2_guarded.F_of _) (Y.bE h1 (Y.pos rfl (Y.bE h2 (Y.some rfl))))
abbrev WNT : Ty := .pair (.pair (.pair (.int .i64) (.pair (.int .i64) (.pair (.int .i64) .bool))) (.pair (.pair (.int .i64) (.pair (.int .i64) (.pair (.int .i64) .bool))) (.int .i64))) (.pair (.pair (.int .i64) (.pair (.int .i64) (.pair .bool (.pair .bool (.pair (.int .i64) (.pair (.int .i64) (.pair (.int .i64) .bool))))))) (.pair (.pair (.int .i64) (.pair (.int .i64) (.pair (.int .i64) (.int .i64)))) (.pair (.pair .bool (.pair .bool (.pair .bool (.pair .bool .bool)))) (.pair (.pair (.int .i64) (.int .i64)) (.pair (.int .i64) (.pair (.int .i64) (.int .i64)))))))
theorem rd_world (ws : List Wd) (i : Nat) (h : i < ws.length) : rd WNT (ws.map Wd.o) (i : Int) = ws[i].o := by
  rw [rd_nat (t := WNT) (ws.map Wd.o) i (by simpa using h)]
  exact List.getElem_map ..
end Go.Proofs.RGuR
namespace Go.Proofs.RGuR
open Go Go.Eng

theorem Wd.k_inj {α : Type} {w w' : Wd} {r r' : α} (h : w.k r = w'.k r') : w = w' ∧ r = r' := by
  cases w
  cases w'
  simp only [Wd.k, Prod.mk.injEq] at h
  simp only [Wd.mk.injEq]
  obtain ⟨h1, h2, h3, h4, h5, h6, h7, h8, h9, h10, h11, h12, h13, h14, h15, h16, h17, h18, h19, h20, h21, h22, h23, h24, h25, h26, h27, h28, h29, h30, h31, h32⟩ := h
  exact ⟨⟨h1, h2, h3, h4, h5, h6, h7, h8, h9, h10, h11, h12, h13, h14, h15, h16, h17, h18, h19, h20, h21, h22, h23, h24, h25, h26, h27, h28, h29, h30, h31⟩, h32⟩
theorem Wd.e_inj {w w' : Wd} (h : w.e = w'.e) : w = w' := by
  cases w
  cases w'
  simp only [Wd.e, Prod.mk.injEq] at h
  simp only [Wd.mk.injEq]
  exact h
/-- An order and its answer. -/
def GiveTo (m : Mn) (w : Wd) (o : Int × Int) (w' : Wd) (e : Int) : Prop := guard_Give.F (m.k (w.k o)) = some ((if e = 0 then w' else w0).k e) ∧ (e ≠ 0 → w' = w)
inductive Ords (m : Mn) : Wd → List (Int × Int) → List Int → Wd → Prop
  | nil (w : Wd) : Ords m w [] [] w
  | cons {w : Wd} {o : Int × Int} {e : Int} {w1 : Wd} {os : List (Int × Int)} {es : List Int} {w2 : Wd} : GiveTo m w o w1 e → Ords m w1 os es w2 → Ords m w (o :: os) (e :: es) w2
inductive Runs (m : Mn) : Wd → List Inp → List Wd → List Int → Prop
  | nil (w : Wd) : Runs m w [] [] []
  | cons {w : Wd} {x : Inp} {es : List Int} {w1 w2 : Wd} {l : List Inp} {ws : List Wd} {es' : List Int} : Ords m w x.1 es w1 → guard_Step.F (m.k (w1.k x.2)) = some w2.e → Runs m w2 l ws es' → Runs m w (x :: l) (w2 :: ws) (es ++ es')
theorem GiveTo.det {m : Mn} {w : Wd} {o : Int × Int} {w1 w2 : Wd} {e1 e2 : Int} (h1 : GiveTo m w o w1 e1) (h2 : GiveTo m w o w2 e2) : w1 = w2 ∧ e1 = e2 := by
  obtain ⟨a1, b1⟩ := h1
  obtain ⟨a2, b2⟩ := h2
  rw [a1] at a2
  obtain ⟨c, rfl⟩ := Wd.k_inj (Option.some.inj a2)
  refine ⟨?_, rfl⟩
  by_cases c0 : e1 = 0
  · rw [if_pos c0, if_pos c0] at c
    exact c
  · rw [b1 c0, b2 c0]
theorem Ords.det {m : Mn} {w w1 : Wd} {os : List (Int × Int)} {es : List Int} (h : Ords m w os es w1) : ∀ {w2 : Wd} {es2 : List Int}, Ords m w os es2 w2 → w1 = w2 ∧ es = es2 := by
  induction h with
  | nil w =>
    intro w2 es2 g
    cases g
    exact ⟨rfl, rfl⟩
  | cons a b ih =>
    intro w2 es2 g
    cases g with
    | cons a2 b2 =>
      obtain ⟨rfl, rfl⟩ := a.det a2
      obtain ⟨rfl, rfl⟩ := ih b2
      exact ⟨rfl, rfl⟩
theorem Runs.det {m : Mn} {w : Wd} {l : List Inp} {ws : List Wd} {es : List Int} (h : Runs m w l ws es) : ∀ {ws2 : List Wd} {es2 : List Int}, Runs m w l ws2 es2 → ws = ws2 ∧ es = es2 := by
  induction h with
  | nil w =>
    intro w2 es2 g
    cases g
    exact ⟨rfl, rfl⟩
  | cons a b c ih =>
    intro ws2 es2 g
    cases g with
    | cons a2 b2 c2 =>
      obtain ⟨rfl, rfl⟩ := a.det a2
      rw [b] at b2
      have := Wd.e_inj (Option.some.inj b2)
      subst this
      obtain ⟨rfl, rfl⟩ := ih c2
      exact ⟨rfl, rfl⟩
def keepO : List (Int × Int) → List Int → List (Int × Int)
  | o :: os, e :: es => if e = 0 then o :: keepO os es else keepO os es
  | _, _ => []
def lessOf : List Inp → List Int → List Inp
  | [], _ => []
  | x :: l, es => (keepO x.1 es, x.2) :: lessOf l (es.drop x.1.length)
theorem Ords.len {m : Mn} {w w1 : Wd} {os : List (Int × Int)} {es : List Int} (h : Ords m w os es w1) : es.length = os.length := by
  induction h with
  | nil => rfl
  | cons _ _ ih => simp [ih]
theorem keepO_app (os : List (Int × Int)) : ∀ (es t : List Int), es.length = os.length → keepO os (es ++ t) = keepO os es := by
  induction os with
  | nil =>
    intro es t _
    cases es <;> cases t <;> rfl
  | cons o os ih =>
    intro es t h
    cases es with
    | nil => simp at h
    | cons e es =>
      simp only [List.cons_append, keepO]
      rw [ih es t (by simpa using h)]
theorem keepO_len (os : List (Int × Int)) : ∀ (es : List Int), (keepO os es).length ≤ os.length := by
  induction os with
  | nil => intro es; cases es <;> exact Nat.le_refl 0
  | cons o os ih =>
    intro es
    cases es with
    | nil => exact Nat.zero_le _
    | cons e es =>
      have := ih es
      simp only [keepO]
      split
      · simp only [List.length_cons]; omega
      · simp only [List.length_cons]; omega
theorem lessOf_len (l : List Inp) : ∀ es : List Int, (lessOf l es).length = l.length := by
  induction l with
  | nil => intro es; rfl
  | cons x l ih => intro es; simp [lessOf, ih]
theorem lessOf_few (l : List Inp) (n : Nat) (hl : ∀ x ∈ l, x.1.length ≤ n) : ∀ es : List Int, ∀ x ∈ lessOf l es, x.1.length ≤ n := by
  induction l with
  | nil => intro es x hx; cases hx
  | cons y l ih =>
    intro es x hx
    rcases List.mem_cons.mp hx with rfl | g
    · exact Nat.le_trans (keepO_len _ _) (hl y (by simp))
    · exact ih (fun z hz => hl z (by simp [hz])) _ x g
theorem Ords.less {m : Mn} {w w1 : Wd} {os : List (Int × Int)} {es : List Int} (h : Ords m w os es w1) : ∃ zs : List Int, (∀ z ∈ zs, z = 0) ∧ Ords m w (keepO os es) zs w1 := by
  induction h with
  | nil w => exact ⟨[], by simp, .nil w⟩
  | cons a b ih =>
    obtain ⟨zs, hz, h⟩ := ih
    simp only [keepO]
    split
    · rename_i c
      exact ⟨0 :: zs, by simpa using hz, .cons (by rw [← c]; exact a) h⟩
    · rename_i c
      exact ⟨zs, hz, by rw [a.2 c] at h; exact h⟩
theorem Runs.less {m : Mn} {w : Wd} {l : List Inp} {ws : List Wd} {es : List Int} (h : Runs m w l ws es) : ∃ zs : List Int, (∀ z ∈ zs, z = 0) ∧ Runs m w (lessOf l es) ws zs := by
  induction h with
  | nil w => exact ⟨[], by simp, .nil w⟩
  | @cons w x es w1 w2 l ws es' a b c ih =>
    obtain ⟨zs, hz, h⟩ := ih
    obtain ⟨zs1, hz1, h1⟩ := a.less
    refine ⟨zs1 ++ zs, fun z hz' => ?_, ?_⟩
    · rcases List.mem_append.mp hz' with g | g
      · exact hz1 z g
      · exact hz z g
    · have hl := a.len
      simp only [lessOf]
      rw [keepO_app _ _ _ hl, ← hl, List.drop_left]
      exact .cons h1 b h
theorem Runs.elen {m : Mn} {w : Wd} {l : List Inp} {ws : List Wd} {es : List Int} (h : Runs m w l ws es) : ws.length = l.length ∧ es.length = (l.map fun x => x.1.length).sum := by
  induction h with
  | nil => exact ⟨rfl, rfl⟩
  | cons a b c ih => simp [ih.1, ih.2, a.len]
theorem orders_run {m : Mn} (hm : m.Ok) (l : List Inp) (i : Int) (o : List (Int × Int)) (out : List WN) (x : Inp) (ho : o.length ≤ 1000) (Q : guard_Run.R → Prop) (n : Nat) :
    ∀ (j : Nat) (w : Wd) (es : List Int), j + n = o.length → Val m w → es.length + n ≤ 1000000 →
      (∀ (w' : Wd) (es' : List Int), Val m w' → Ords m w (o.drop j) es' w' → Y (guard_Run.D1 (runS l i o (o.length : Int) m w' out (es ++ es') x)) Q) → Y (guard_Run.D1 (runS l i o (j : Int) m w out es x)) Q := by
  induction n with
  | zero =>
    intro j w es e hw hl hk
    have : j = o.length := by omega
    subst this
    have := hk w [] hw (by rw [List.drop_length]; exact .nil w)
    rwa [List.append_nil] at this
  | succ n ih =>
    intro j w es e hw hl hk
    refine give_next hm l i o out x (by omega) Q j (by omega) w hw es (by omega) fun w' e' he hF => ?_
    have hv : Val m w' := by
      rcases he with ⟨_, rfl⟩ | ⟨_, h1, h2⟩
      · exact hw
      · exact h1
    have hj : j < o.length := by omega
    have := ih (j + 1) w' (es ++ [e']) (by omega) hv (by simp; omega) fun w'' es'' h1 h2 => by
      have := hk w'' (e' :: es'') h1 (by
        rw [List.drop_eq_getElem_cons hj]
        refine .cons ⟨?_, ?_⟩ h2
        · rw [rd_nat (t := OrdT) o j hj] at hF
          exact hF
        · intro hne
          rcases he with ⟨_, rfl⟩ | ⟨h0, _⟩
          · rfl
          · exact absurd h0 hne)
      rwa [List.append_cons] at this
    exact_mod_cast this
theorem runs_loop {m : Mn} (hm : m.Ok) (l : List Inp) (hl : l.length ≤ 2000) (ho : ∀ x ∈ l, x.1.length ≤ 100) (Q : guard_Run.R → Prop) (n : Nat) :
    ∀ (i : Nat) (w : Wd) (ws : List Wd) (es : List Int), i + n = l.length → ws.length = i → Val m w → es.length ≤ 100 * i + 100 → (∀ (ws' : List Wd) (es' : List Int), Runs m w (l.drop i) ws' es' → Q (0, (ws ++ ws').map Wd.o, es ++ es')) → Y (guard_Run.D0 (topR l (i : Int) m w (ws.map Wd.o) es)) Q := by
  induction n with
  | zero =>
    intro i w ws es e hws hw hes hk
    refine Y.of (guard_Run.D0_of _) ?_
    unfold topR
    have hil : i = l.length := by omega
    subst hil
    have := hk [] [] (by rw [List.drop_length]; exact .nil w)
    rw [List.append_nil, List.append_nil] at this
    exact Y.nd (by omega) (Y.some this)
  | succ n ih =>
    intro i w ws es e hws hw hes hk
    have hi : i < l.length := by omega
    have hmem : rd InpT l (i : Int) ∈ l := rd_mem (t := InpT) l (i : Int) (by omega) (by omega)
    have hox := ho _ hmem
    refine Y.of (guard_Run.D0_of _) ?_
    unfold topR
    refine Y.pd (by omega) (Y.pd (by omega) ?_)
    have hx0 : rd InpT l (i : Int) = l[i] := rd_nat (t := InpT) l i hi
    obtain ⟨x, hxx⟩ : ∃ x : Inp, rd InpT l (i : Int) = x := ⟨_, rfl⟩
    rw [show rd (((Ty.int IntKind.i64).pair (Ty.int IntKind.i64)).slice.pair (Ty.bool.pair (Ty.bool.pair (Ty.bool.pair (Ty.bool.pair Ty.bool))))) l (i : Int) = x from hxx]
    rw [hxx] at hmem hox hx0
    refine orders_run hm l (i : Int) x.1 (ws.map Wd.o) x (by omega) Q x.1.length 0 w es (by omega) hw (by omega) fun w1 es1 hw1 ht => ?_
    rw [List.drop_zero] at ht
    have htl := ht.len
    refine step_next hm l (i : Int) (by omega) x.1 (ws.map Wd.o) (by simp; omega) x Q w1 hw1 (es ++ es1) fun w2 hw2 _ hF => ?_
    have := ih (i + 1) w2 (ws ++ [w2]) (es ++ es1) (by omega) (by simp [hws]) hw2 (by simp; omega) fun ws' es' hr => by
      have := hk (w2 :: ws') (es1 ++ es') (by
        rw [List.drop_eq_getElem_cons hi, ← hx0]
        exact .cons ht hF hr)
      rwa [List.append_cons, ← List.append_assoc] at this
    rw [List.map_append] at this
    exact_mod_cast this
theorem runs_spec {m : Mn} (hm : m.Ok) (w : Wd) (hw : Val m w) (l : List Inp) (hl : l.length ≤ 2000) (ho : ∀ x ∈ l, x.1.length ≤ 100) :
    Y (guard_Run.F (m.k (w.k l))) fun r => ∃ (es : List Int) (ws : List Wd), r = (0, ws.map Wd.o, es) ∧ Runs m w l ws es := by
  refine Y.of (guard_Run.F_of _) (Y.bE (check_world hm hw) (Y.np rfl (Y.nd (by omega) ?_)))
  exact runs_loop hm l hl ho _ l.length 0 w [] [] (Nat.zero_add _) rfl hw (by simp) fun ws es h => ⟨es, ws, rfl, h⟩
end Go.Proofs.RGuR
namespace Go.Proofs.RGuR
open Go Go.Eng

theorem rd_mid {t : Ty} (P : List t.den) (a : t.den) (R : List t.den) (i : Int) (h : i = P.length) : rd t (P ++ a :: R) i = a := by
  subst h
  rw [rd_nat (t := t) (P ++ a :: R) P.length (by simp)]
  simp
theorem set_mid {α : Type} (P : List α) (a b : α) (R : List α) (i : Int) (h : i = P.length) : (P ++ a :: R).set i.toNat b = P ++ b :: R := by
  subst h
  simp
theorem s1_spec (z : Int) : spykeep2_GuardRefusalsS1.F z = some (!decide (z = 0)) := Y.is (Y.of (spykeep2_GuardRefusalsS1.F_of _) (Y.some rfl))
theorem index_loop (zs : List Int) (hz : ∀ z ∈ zs, z = 0) (hl : zs.length ≤ 1000000) (n : Nat) : ∀ i : Nat, i + n = zs.length → Y (slices_IndexFunc_Errno.D0 (zs, (zs.length : Int), (i : Int))) fun r => r = -1 := by
  induction n with
  | zero =>
    intro i h
    exact Y.of (slices_IndexFunc_Errno.D0_of _) (Y.nd (by omega) (Y.some rfl))
  | succ n ih =>
    intro i h
    refine Y.of (slices_IndexFunc_Errno.D0_of _) (Y.pd (by omega) (Y.pd (by omega) (Y.bE (s1_spec _) (Y.neg ?_ ?_))))
    · rw [hz _ (rd_mem (t := .int .i64) zs (i : Int) (by omega) (by omega))]
      rfl
    · rw [w64 (x := (i : Int) + 1) (by omega) (by omega)]
      exact_mod_cast ih (i + 1) (by omega)
theorem contains_spec (zs : List Int) (hz : ∀ z ∈ zs, z = 0) (hl : zs.length ≤ 1000000) : slices_ContainsFunc_Errno.F zs = some false := by
  have h : slices_IndexFunc_Errno.F zs = some (-1) := Y.is (Y.of (slices_IndexFunc_Errno.F_of _) (index_loop zs hz hl zs.length 0 (Nat.zero_add _)))
  exact Y.is (Y.of (slices_ContainsFunc_Errno.F_of _) (Y.bE h (Y.some rfl)))
theorem equal_loop (ws : List WN) (hl : ws.length ≤ 1000000) (n : Nat) : ∀ i : Nat, i + n = ws.length → Y (slices_Equal_World.D0 (ws, ws, (ws.length : Int), (i : Int))) fun r => r = true := by
  induction n with
  | zero =>
    intro i h
    exact Y.of (slices_Equal_World.D0_of _) (Y.nd (by omega) (Y.some rfl))
  | succ n ih =>
    intro i h
    refine Y.of (slices_Equal_World.D0_of _) (Y.pd (by omega) (Y.pd (by omega) (Y.pd (by omega) (Y.neg ?_ ?_))))
    · simp only [decide_true, beq_self_eq_true, Bool.and_true, Bool.not_true]
    · rw [w64 (x := (i : Int) + 1) (by omega) (by omega)]
      exact_mod_cast ih (i + 1) (by omega)
theorem equal_spec (ws : List WN) (hl : ws.length ≤ 1000000) : slices_Equal_World.F (ws, ws) = some true := by
  apply Y.is
  exact Y.of (slices_Equal_World.F_of _) (Y.neg (by simp) (equal_loop ws hl ws.length 0 (Nat.zero_add _)))
theorem less_inner (m : Mn) (l : List Inp) (i : Nat) (out : List WN) (x : Inp) (ho : x.1.length ≤ 100) (P R : List Inp) (hP : P.length = i) (Q : Bool → Prop) (n : Nat) :
    ∀ (j : Nat) (c : List (Int × Int)) (es : List Int), j + n = x.1.length → c.length ≤ j → n ≤ es.length → es.length ≤ 1000000 →
      Y (spykeep2_GuardRefusals.D1 ((i : Int), (l.length : Int), (i : Int), x.1, (x.1.length : Int), (x.1.length : Int), m.k (out, es.drop n, P ++ (c ++ keepO (x.1.drop j) es, x.2) :: R, l))) Q →
      Y (spykeep2_GuardRefusals.D1 ((i : Int), (l.length : Int), (i : Int), x.1, (x.1.length : Int), (j : Int), m.k (out, es, P ++ (c, x.2) :: R, l))) Q := by
  induction n with
  | zero =>
    intro j c es h hc he he2 hk
    have hj : j = x.1.length := by omega
    subst hj
    rw [List.drop_zero, List.drop_length] at hk
    have : keepO [] es = [] := by cases es <;> rfl
    rw [this, List.append_nil] at hk
    exact hk
  | succ n ih =>
    intro j c es h hc he he2 hk
    obtain ⟨e, es, rfl⟩ : ∃ e t, es = e :: t := by
      cases es with
      | nil => simp at he
      | cons e t => exact ⟨e, t, rfl⟩
    have hj : j < x.1.length := by omega
    simp only [List.length_cons] at he he2
    have hx : rd OrdT x.1 (j : Int) = x.1[j] := rd_nat (t := OrdT) x.1 j hj
    rw [List.drop_eq_getElem_cons hj, List.drop_succ_cons, ← hx, keepO] at hk
    have f2 : ∀ c', c'.length ≤ j + 1 → Y (spykeep2_GuardRefusals.D1 ((i : Int), (l.length : Int), (i : Int), x.1, (x.1.length : Int), (x.1.length : Int), m.k (out, es.drop n, P ++ (c' ++ keepO (x.1.drop (j + 1)) es, x.2) :: R, l))) Q → Y (spykeep2_GuardRefusals.D2 ((i : Int), (l.length : Int), (i : Int), x.1, (x.1.length : Int), (j : Int), m.k (out, e :: es, P ++ (c', x.2) :: R, l))) Q := by
      intro c' hc' h'
      refine Y.of (spykeep2_GuardRefusals.D2_of _) (Y.pd (by simp; omega) ?_)
      refine Y.of (spykeep2_GuardRefusals.D3_of _) ?_
      dsimp only [spykeep2_GuardRefusals.d3]
      rw [w64 (x := (j : Int) + 1) (by omega) (by omega), show List.drop (Int.toNat 1) (List.take ((e :: es).length : Int).toNat (e :: es)) = es by simp]
      have := ih (j + 1) c' es (by omega) hc' (by omega) (by omega) h'
      exact_mod_cast this
    have hrd : rd InpT (P ++ (c, x.2) :: R) (i : Int) = (c, x.2) := rd_mid (t := InpT) P (c, x.2) R (i : Int) (by omega)
    have hin : 0 ≤ (i : Int) ∧ (i : Int) < ((P ++ (c, x.2) :: R).length : Int) := by simp; omega
    refine Y.of (spykeep2_GuardRefusals.D1_of _) (Y.pd (by omega) (Y.pd (by omega) (Y.nd (by simp; omega) (Y.pd (by simp) ?_))))
    rw [show rd (Ty.int IntKind.i64) (e :: es) 0 = e from rfl]
    refine Y.ite (fun c0 => ?_) (fun c0 => ?_)
    · rw [if_pos c0] at hk
      rw [show rd ty0 (P ++ (c, x.2) :: R) (i : Int) = (c, x.2) from hrd]
      refine Y.pd hin (Y.pd ?_ (Y.pd hin (Y.pd rfl ?_)))
      · show c.length + 1 ≤ 140737488355328 / 16
        omega
      · rw [set_mid P (c, x.2) _ R (i : Int) (by omega)]
        refine f2 (c ++ [rd OrdT x.1 (j : Int)]) (by simp; omega) ?_
        rw [List.append_assoc]
        exact hk
    · rw [if_neg c0] at hk
      exact f2 c (by omega) hk
theorem less_outer (m : Mn) (l : List Inp) (hl : l.length ≤ 2000) (ho : ∀ x ∈ l, x.1.length ≤ 100) (out : List WN) (Q : Bool → Prop) (n : Nat) :
    ∀ (i : Nat) (P : List Inp) (es : List Int), i + n = l.length → P.length = i → ((l.drop i).map fun x => x.1.length).sum ≤ es.length → es.length ≤ 1000000 →
      (∀ t : List Int, Y (spykeep2_GuardRefusals.D0 ((l.length : Int), (l.length : Int), m.k (out, t, P ++ lessOf (l.drop i) es, l))) Q) →
      Y (spykeep2_GuardRefusals.D0 ((l.length : Int), (i : Int), m.k (out, es, P ++ List.replicate n InpT.dflt, l))) Q := by
  induction n with
  | zero =>
    intro i P es h hP he he2 hk
    have hi : i = l.length := by omega
    subst hi
    have := hk es
    rw [List.drop_length] at this
    exact this
  | succ n ih =>
    intro i P es h hP he he2 hk
    have hi : i < l.length := by omega
    have hmem : rd InpT l (i : Int) ∈ l := rd_mem (t := InpT) l (i : Int) (by omega) (by omega)
    have hox := ho _ hmem
    have hx0 : rd InpT l (i : Int) = l[i] := rd_nat (t := InpT) l i hi
    rw [List.drop_eq_getElem_cons hi, ← hx0] at hk he
    refine Y.of (spykeep2_GuardRefusals.D0_of _) (Y.pd (by omega) (Y.pd (by omega) (Y.pd (by simp; omega) ?_)))
    obtain ⟨x, hxx⟩ : ∃ x : Inp, rd ty0 l (i : Int) = x := ⟨_, rfl⟩
    rw [show rd InpT l (i : Int) = x from hxx] at hmem hox hx0 hk he
    rw [hxx, List.replicate_succ, show rd ty0 (P ++ InpT.dflt :: List.replicate n InpT.dflt) (i : Int) = InpT.dflt from rd_mid (t := InpT) P InpT.dflt _ (i : Int) (by omega), set_mid P InpT.dflt _ _ (i : Int) (by omega)]
    rw [List.map_cons, List.sum_cons] at he
    refine less_inner m l i out x (by omega) P (List.replicate n InpT.dflt) hP Q x.1.length 0 [] es (Nat.zero_add _) (Nat.le_refl 0) (by omega) he2 ?_
    rw [List.drop_zero, List.nil_append]
    refine Y.of (spykeep2_GuardRefusals.D1_of _) (Y.nd (by omega) ?_)
    rw [w64 (x := (i : Int) + 1) (by omega) (by omega)]
    have := ih (i + 1) (P ++ [(keepO x.1 es, x.2)]) (es.drop x.1.length) (by omega) (by simp [hP]) (by rw [List.length_drop]; omega) (by rw [List.length_drop]; omega) fun t => by
      have := hk t
      simp only [lessOf] at this
      rwa [List.append_cons] at this
    rw [List.append_assoc] at this
    exact_mod_cast this
theorem guardRefusals (L : List Int) : Y (spykeep2_GuardRefusals.F L) fun r => r = true := by
  refine Y.of (spykeep2_GuardRefusals.F_of _) (Y.bE guarded_spec (Y.neg rfl (Y.bnd _ (mount_draw L) ?_)))
  rintro r ⟨m, at1, rfl, hm, a0, a1⟩
  refine Y.bnd _ (script_draw L m hm 80 at1 (by omega) (by omega) a0 (by omega)) ?_
  rintro r ⟨xs, at2, rfl, b0, b1, hs⟩
  have hlen := hs.len
  have hfew : ∀ x ∈ xs, x.1.length ≤ 100 := fun x hx => by have := hs.few x hx; omega
  dsimp only
  refine Y.bE (start_spec m) (Y.bnd _ (runs_spec hm (Wd.start m) (start_val hm) xs (by omega) hfew) ?_)
  rintro r ⟨es, ws, rfl, hr⟩
  obtain ⟨e1, e2⟩ := hr.elen
  have hsum : (xs.map fun x => x.1.length).sum ≤ 100 * xs.length := by
    clear hr e1 e2 hs hlen
    induction xs with
    | nil => exact Nat.le_refl 0
    | cons x xs ih =>
      have h1 := hfew x (by simp)
      have h2 := ih fun y hy => hfew y (by simp [hy])
      simp only [List.map_cons, List.sum_cons, List.length_cons]
      omega
  refine Y.neg ?_ (Y.pd ⟨by omega, by omega, by omega⟩ ?_)
  · have : ((ws.map Wd.o).length : Int) = (xs.length : Int) := by rw [List.length_map, e1]
    show (!decide ((0 : Int) = 0) || !decide (((ws.map Wd.o).length : Int) = (xs.length : Int))) = false
    rw [this]
    simp
  · refine less_outer m xs (by omega) hfew (ws.map Wd.o) _ xs.length 0 [] es (Nat.zero_add _) rfl (by rw [List.drop_zero]; omega) (by omega) fun t => ?_
    rw [List.drop_zero, List.nil_append]
    obtain ⟨zs, hz, hz2⟩ := hr.less
    refine Y.of (spykeep2_GuardRefusals.D0_of _) (Y.nd (by omega) (Y.bE (start_spec m) (Y.bnd _ (runs_spec hm (Wd.start m) (start_val hm) (lessOf xs es) (by rw [lessOf_len]; omega) (lessOf_few xs 100 hfew es)) ?_)))
    rintro r ⟨es2, ws2, rfl, hr2⟩
    obtain ⟨rfl, rfl⟩ := hz2.det hr2
    have e3 := hr2.elen
    refine Y.pos rfl (Y.bE (equal_spec _ (by rw [List.length_map]; omega)) (Y.pos rfl (Y.bE (contains_spec _ hz ?_) (Y.some rfl))))
    have h3 : ((lessOf xs es).map fun x => x.1.length).sum ≤ 100 * (lessOf xs es).length := by
      have hf := lessOf_few xs 100 hfew es
      generalize lessOf xs es = ys at hf
      clear hr2 hz2 e3
      induction ys with
      | nil => exact Nat.le_refl 0
      | cons x xs ih =>
        have h1 := hf x (by simp)
        have h2 := ih fun y hy => hf y (by simp [hy])
        simp only [List.map_cons, List.sum_cons, List.length_cons]
        omega
    rw [lessOf_len] at h3
    show zs.length ≤ 1000000
    omega
end Go.Proofs.RGuR
