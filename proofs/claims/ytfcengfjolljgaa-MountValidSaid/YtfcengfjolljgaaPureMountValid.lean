/- Whatever a mount is told, its states are valid, and a refusal is one of the stated errors. The conditions are those of the row alone: the list of raw numbers takes at most 2^47 - 4096 bytes, and each number is an int. -/
import Derived.Test.YtfcengfjolljgaaPMountValidx10
set_option linter.unusedVariables false
set_option linter.unusedSimpArgs false
namespace Go.Proofs.Ytfcengfjolljgaa.Pure
open Go.RowKit Go.Proofs.Ytfcengfjolljgaa.PMountValid Go.Proofs.YtfcengfjolljgaaW.PrintWords Go.Proofs.YtfcengfjolljgaaW.PrintLast Go.Proofs.YtfcengfjolljgaaW.PrintMore

/-- From some number of rounds on. -/
def Eo {α : Type} (g : Nat → Option α) (r : α) : Prop := ∃ K, ∀ k, K ≤ k → g k = some r
theorem Eo.now {α : Type} (r : α) : Eo (fun _ => some r) r := ⟨0, fun _ _ => rfl⟩
theorem Eo.rounds {α : Type} {g : Nat → Option α} {r : α} (h : Eo g r) : ∃ k, g k = some r := by
  obtain ⟨K, h⟩ := h
  exact ⟨K, h K (Nat.le_refl _)⟩
theorem Eo.bind {α β : Type} {g : Nat → Option α} {f : Nat → α → Option β} {a : α} {r : β} (h : Eo g a) (k : Eo (fun n => f n a) r) : Eo (fun n => (g n).bind (f n)) r := by
  obtain ⟨K, h⟩ := h
  obtain ⟨K', k⟩ := k
  refine ⟨max K K', fun n hn => ?_⟩
  have h1 := h n (by omega)
  have h2 := k n (by omega)
  simp only [h1, Option.bind_some]
  exact h2
theorem Eo.step {α : Type} {g f : Nat → Option α} {r : α} (h : ∀ k, g (k + 1) = f k) (k : Eo f r) : Eo g r := by
  obtain ⟨K, k⟩ := k
  refine ⟨K + 1, fun n hn => ?_⟩
  obtain ⟨m, rfl⟩ : ∃ m, n = m + 1 := ⟨n - 1, by omega⟩
  rw [h]
  exact k m (by omega)
theorem more_of {α : Type} {g : Nat → Option α} (h : ∀ k, LeO (g k) (g (k + 1))) {k : Nat} {r : α} (hr : g k = some r) : Eo g r := by
  refine ⟨k, fun n hn => ?_⟩
  obtain ⟨d, rfl⟩ : ∃ d, n = k + d := ⟨n - k, by omega⟩
  induction d with
  | zero => exact hr
  | succ d ih => exact h _ r (ih (by omega))
/-- With enough rounds g comes to a value that meets Q. -/
def Y {α : Type} (g : Nat → Option α) (Q : α → Prop) : Prop := ∃ r, Eo g r ∧ Q r
theorem Y.now {α : Type} {r : α} {Q : α → Prop} (h : Q r) : Y (fun _ => some r) Q := ⟨r, Eo.now r, h⟩
theorem Y.bind {α β : Type} {g : Nat → Option α} {f : Nat → α → Option β} {Q : β → Prop} (P : α → Prop) (h : Y g P) (k : ∀ a, P a → Y (fun n => f n a) Q) : Y (fun n => (g n).bind (f n)) Q := by
  obtain ⟨a, ha, hp⟩ := h
  obtain ⟨r, hr, hq⟩ := k a hp
  exact ⟨r, Eo.bind ha hr, hq⟩
theorem Y.bindE {α β : Type} {g : Nat → Option α} {f : Nat → α → Option β} {Q : β → Prop} {a : α} (h : Eo g a) (k : Y (fun n => f n a) Q) : Y (fun n => (g n).bind (f n)) Q := by
  obtain ⟨r, hr, hq⟩ := k
  exact ⟨r, Eo.bind h hr, hq⟩
theorem Y.bindS {α β : Type} {x : Option α} {f : Nat → α → Option β} {Q : β → Prop} {a : α} (h : x = some a) (k : Y (fun n => f n a) Q) : Y (fun n => x.bind (f n)) Q := by
  subst h
  exact k
theorem Y.pos {α : Type} {c : Prop} [Decidable c] {a b : Nat → Option α} {Q : α → Prop} (hc : c) (h : Y a Q) : Y (fun n => if c then a n else b n) Q := by
  simpa only [if_pos hc] using h
theorem Y.neg {α : Type} {c : Prop} [Decidable c] {a b : Nat → Option α} {Q : α → Prop} (hc : ¬ c) (h : Y b Q) : Y (fun n => if c then a n else b n) Q := by
  simpa only [if_neg hc] using h
theorem Y.ite {α : Type} {c : Prop} [Decidable c] {a b : Nat → Option α} {Q : α → Prop} (h : c → Y a Q) (k : ¬ c → Y b Q) : Y (fun n => if c then a n else b n) Q := by
  by_cases hc : c
  · exact Y.pos hc (h hc)
  · exact Y.neg hc (k hc)
theorem Y.step {α : Type} {g f : Nat → Option α} {Q : α → Prop} (h : ∀ k, g (k + 1) = f k) (k : Y f Q) : Y g Q := by
  obtain ⟨r, hr, hq⟩ := k
  exact ⟨r, Eo.step h hr, hq⟩
theorem Y.mono {α : Type} {g : Nat → Option α} {P Q : α → Prop} (h : Y g P) (k : ∀ r, P r → Q r) : Y g Q := by
  obtain ⟨r, hr, hq⟩ := h
  exact ⟨r, hr, k r hq⟩
theorem Y.is {α : Type} {g : Nat → Option α} {a : α} (h : Y g (fun r => r = a)) : Eo g a := by
  obtain ⟨r, hr, rfl⟩ := h
  exact hr
theorem Y.rounds {α : Type} {g : Nat → Option α} {a : α} (h : Y g (fun r => r = a)) : ∃ k, g k = some a := (Y.is h).rounds
theorem Y.ev {α : Type} {g : Nat → Option α} {a : α} {Q : α → Prop} (h : Eo g a) (q : Q a) : Y g Q := ⟨a, h, q⟩
theorem Y.S {α : Type} {x : Option α} {a : α} {Q : α → Prop} (h : x = some a) (q : Q a) : Y (fun _ => x) Q := by
  subst h
  exact Y.now q
/-- An int that fits is as it is. -/
theorem w64 {x : Int} (h0 : -9223372036854775808 ≤ x) (h1 : x ≤ 9223372036854775807) : wrap64 x = x := by
  unfold wrap64
  omega
theorem mx_max (a b : Int) : mx a b = max a b := by
  unfold mx
  split <;> omega
theorem mn_min (a b : Int) : mn a b = min a b := by
  unfold mn
  split <;> omega
theorem tmod_neg_add {x n : Int} (hn : 1 ≤ n) (h : Int.tmod x n < 0) : Int.tmod x n + n = x % n := by
  have h1 : Int.tmod x n = x % n - (if 0 ≤ x ∨ n ∣ x then 0 else Int.natAbs n : Nat) := Int.tmod_eq_emod
  have h2 := Int.emod_nonneg x (b := n) (by omega)
  have h3 : (n.natAbs : Int) = n := by omega
  rw [h1] at h ⊢
  split at h
  · exact absurd h (by omega)
  · rename_i h4
    rw [if_neg h4]
    omega
theorem tmod_of_nonneg {x n : Int} (hn : 1 ≤ n) (h : ¬ Int.tmod x n < 0) : Int.tmod x n = x % n := by
  have h1 : Int.tmod x n = x % n - (if 0 ≤ x ∨ n ∣ x then 0 else Int.natAbs n : Nat) := Int.tmod_eq_emod
  have h2 := Int.emod_lt_of_pos x (b := n) (by omega)
  have h3 : (n.natAbs : Int) = n := by omega
  rw [h1] at h ⊢
  split at h
  · rename_i h4
    rw [if_pos h4]
    omega
  · exact absurd (by omega) h
/-- Below reduces. -/
theorem below_spec (x n : Int) (h1 : 1 ≤ n) (h2 : n ≤ 4611686018427387904) : spymake_Below.f x n = some (x % n) := by
  unfold spymake_Below.f
  rw [if_neg (by omega), if_neg (by omega)]
  by_cases c : Int.tmod x n < 0
  · rw [if_pos c, tmod_neg_add h1 c, w64 (by have := Int.emod_nonneg x (b := n) (by omega); omega) (by have := Int.emod_lt_of_pos x (b := n) (by omega); omega)]
  · rw [if_neg c, tmod_of_nonneg h1 c]
theorem below_range (x n : Int) (h1 : 1 ≤ n) : 0 ≤ x % n ∧ x % n < n := ⟨Int.emod_nonneg x (by omega), Int.emod_lt_of_pos x (by omega)⟩
/-- Next gives a number below n, and counts. -/
theorem next_spec (L : List Int) (at_ n : Int) (ha : 0 ≤ at_) (hb : at_ ≤ 4611686018427387904) (h1 : 1 ≤ n) (h2 : n ≤ 4611686018427387904) :
    ∃ r, spymake_Stream_Next.f L at_ n = some (r, at_ + 1) ∧ 0 ≤ r ∧ r < n := by
  unfold spymake_Stream_Next.f
  rw [w64 (x := at_ + 1) (by omega) (by omega), w64 (x := at_ + 1 - 1) (by omega) (by omega)]
  by_cases c : (L.length : Int) = 0
  · rw [if_pos c, below_spec _ _ h1 h2]
    exact ⟨_, rfl, below_range _ _ h1⟩
  · rw [if_neg c, show at_ + 1 - 1 = at_ by omega]
    have e : Int.tmod at_ (L.length : Int) = at_ % (L.length : Int) := Int.tmod_eq_emod_of_nonneg ha
    have e1 := Int.emod_nonneg at_ (b := (L.length : Int)) c
    have e2 := Int.emod_lt_of_pos at_ (b := (L.length : Int)) (by omega)
    rw [e, if_pos e1, if_pos e2, below_spec _ 1073741824 (by omega) (by omega)]
    simp only [Option.bind_some]
    rw [below_spec _ _ h1 h2]
    exact ⟨_, rfl, below_range _ _ h1⟩
theorem Y.next {β : Type} {f : Nat → Int × Int → Option β} {Q : β → Prop} (L : List Int) (at_ n : Int) (ha : 0 ≤ at_) (hb : at_ ≤ 4611686018427387904) (h1 : 1 ≤ n) (h2 : n ≤ 4611686018427387904)
    (k : ∀ r, 0 ≤ r → r < n → Y (fun m => f m (r, at_ + 1)) Q) : Y (fun m => (spymake_Stream_Next.f L at_ n).bind (f m)) Q := by
  obtain ⟨r, hr, h3, h4⟩ := next_spec L at_ n ha hb h1 h2
  exact Y.bindS hr (k r h3 h4)
/-- Range gives a number from low to high. -/
theorem range_spec (L : List Int) (at_ lo hi : Int) (ha : 0 ≤ at_) (hb : at_ ≤ 4611686018427387904) (h1 : -1152921504606846976 ≤ lo) (h2 : lo ≤ hi) (h3 : hi ≤ 1152921504606846976) :
    ∃ r, spymake_Stream_Range.f L at_ lo hi = some (r, at_ + 1) ∧ lo ≤ r ∧ r ≤ hi := by
  unfold spymake_Stream_Range.f
  rw [if_neg (by omega), w64 (x := hi - lo) (by omega) (by omega), w64 (x := hi - lo + 1) (by omega) (by omega)]
  obtain ⟨r, hr, h4, h5⟩ := next_spec L at_ (hi - lo + 1) ha hb (by omega) (by omega)
  rw [hr]
  simp only [Option.bind_some]
  rw [w64 (x := lo + r) (by omega) (by omega)]
  exact ⟨_, rfl, by omega, by omega⟩
theorem Y.range {β : Type} {f : Nat → Int × Int → Option β} {Q : β → Prop} (L : List Int) (at_ lo hi : Int) (ha : 0 ≤ at_) (hb : at_ ≤ 4611686018427387904) (h1 : -1152921504606846976 ≤ lo) (h2 : lo ≤ hi) (h3 : hi ≤ 1152921504606846976)
    (k : ∀ r, lo ≤ r → r ≤ hi → Y (fun m => f m (r, at_ + 1)) Q) : Y (fun m => (spymake_Stream_Range.f L at_ lo hi).bind (f m)) Q := by
  obtain ⟨r, hr, h4, h5⟩ := range_spec L at_ lo hi ha hb h1 h2 h3
  exact Y.bindS hr (k r h4 h5)
/-- v, and what it takes to brake behind it: v + (v - a) + (v - 2a) + .. -/
def bk (a : Int) : Nat → Int → Int
  | 0, _ => 0
  | n + 1, v => if 0 < v then v + bk a n (v - a) else 0
/-- 0 + 1 + .. + (k - 1). -/
def tri : Nat → Int
  | 0 => 0
  | k + 1 => tri k + k
theorem tri_eq (k : Nat) : tri k = (k : Int) * ((k : Int) - 1) / 2 := by
  have h : 2 * tri k = (k : Int) * ((k : Int) - 1) := by
    induction k with
    | zero => rfl
    | succ k ih =>
      have : tri (k + 1) = tri k + k := rfl
      rw [this, Int.mul_add, ih]
      have : ((k + 1 : Nat) : Int) = (k : Int) + 1 := by omega
      rw [this]
      grind
  omega
theorem bk_nonneg (a : Int) (n : Nat) : ∀ v, 0 ≤ bk a n v := by
  induction n with
  | zero => intro v; exact Int.le_refl 0
  | succ n ih =>
    intro v
    have := ih (v - a)
    unfold bk
    split <;> omega
theorem bk_neg (a : Int) (n : Nat) (v : Int) (h : v ≤ 0) : bk a n v = 0 := by
  cases n with
  | zero => rfl
  | succ n =>
    unfold bk
    rw [if_neg (by omega)]
theorem bk_mono (a : Int) (n : Nat) : ∀ v u, v ≤ u → bk a n v ≤ bk a n u := by
  induction n with
  | zero => intro v u _; exact Int.le_refl 0
  | succ n ih =>
    intro v u h
    have h1 := ih (v - a) (u - a) (by omega)
    have h2 := bk_nonneg a n (u - a)
    unfold bk
    split <;> split <;> omega
/-- More terms than there are change nothing. -/
theorem bk_more (a : Int) (n : Nat) : ∀ v, v ≤ n * a → bk a (n + 1) v = bk a n v := by
  induction n with
  | zero =>
    intro v h
    rw [bk_neg a 1 v (by omega), bk_neg a 0 v (by omega)]
  | succ n ih =>
    intro v h
    have e : ((n + 1 : Nat) : Int) * a = n * a + a := by
      have : ((n + 1 : Nat) : Int) = (n : Int) + 1 := by omega
      rw [this, Int.add_mul]
      omega
    have := ih (v - a) (by omega)
    show (if 0 < v then v + bk a (n + 1) (v - a) else 0) = (if 0 < v then v + bk a n (v - a) else 0)
    rw [this]
/-- What it takes to stop: v + (v - a) + .. -/
def brk (a v : Int) : Int := bk a 70 v
theorem brk_nonneg (a v : Int) : 0 ≤ brk a v := bk_nonneg a 70 v
theorem brk_neg (a v : Int) (h : v ≤ 0) : brk a v = 0 := bk_neg a 70 v h
theorem brk_mono (a v u : Int) (h : v ≤ u) : brk a v ≤ brk a u := bk_mono a 70 v u h
theorem brk_step (a v : Int) (h : 0 < v) (h2 : v ≤ 70 * a) : brk a v = v + brk a (v - a) := by
  have h1 : bk a 70 v = v + bk a 69 (v - a) := by
    show (if 0 < v then v + bk a 69 (v - a) else 0) = _
    rw [if_pos h]
  have h3 := bk_more a 69 (v - a) (by omega)
  unfold brk
  rw [h1, ← h3]
theorem brk_ge (a v : Int) : v ≤ brk a v := by
  have h1 : bk a 70 v = if 0 < v then v + bk a 69 (v - a) else 0 := rfl
  have := bk_nonneg a 69 (v - a)
  unfold brk
  rw [h1]
  split <;> omega
/-- Of v between (k - 1) a and k a it takes k steps. -/
theorem bk_eq (a : Int) (n : Nat) : ∀ (k : Nat) (v : Int), k ≤ n → ((k : Int) - 1) * a ≤ v → v ≤ k * a → 0 ≤ v → bk a n v = k * v - a * tri k := by
  induction n with
  | zero =>
    intro k v hk h1 h2 h0
    have : k = 0 := by omega
    subst this
    show (0 : Int) = ((0 : Nat) : Int) * v - a * 0
    simp
  | succ n ih =>
    intro k v hk h1 h2 h0
    cases k with
    | zero =>
      have : v ≤ 0 := by simpa using h2
      rw [bk_neg a (n + 1) v this]
      show (0 : Int) = ((0 : Nat) : Int) * v - a * 0
      simp
    | succ k =>
      have e : ((k + 1 : Nat) : Int) = (k : Int) + 1 := by omega
      rw [e] at h1 h2 ⊢
      have e1 : ((k : Int) + 1 - 1) * a = k * a := by rw [show (k : Int) + 1 - 1 = k by omega]
      have e2 : ((k : Int) + 1) * a = k * a + a := by rw [Int.add_mul]; omega
      have et : tri (k + 1) = tri k + k := rfl
      rw [e1] at h1
      rw [e2] at h2
      by_cases c : 0 < v
      · have e3 : bk a (n + 1) v = v + bk a n (v - a) := by
          show (if 0 < v then v + bk a n (v - a) else 0) = _
          rw [if_pos c]
        by_cases c2 : 0 ≤ v - a
        · have := ih k (v - a) (by omega) (by rw [Int.sub_mul]; omega) (by omega) c2
          rw [e3, this, et]
          grind
        · rw [e3, bk_neg a n (v - a) (by omega)]
          -- v < a: one step
          cases k with
          | zero =>
            show v + 0 = ((0 : Nat) + 1 : Int) * v - a * (tri 0 + (0 : Nat))
            have : tri 0 = 0 := rfl
            rw [this]
            simp
          | succ k =>
            have e4 : ((k + 1 : Nat) : Int) = (k : Int) + 1 := by omega
            rw [e4, Int.add_mul] at h1
            have : 0 ≤ (k : Int) * a := by
              by_cases ha : 0 ≤ a
              · exact Int.mul_nonneg (by omega) ha
              · omega
            omega
      · have hv : v = 0 := by omega
        subst hv
        rw [bk_neg a (n + 1) 0 (by omega), et]
        -- k a ≤ 0
        cases k with
        | zero => simp [show tri 0 = 0 from rfl]
        | succ k =>
          have e4 : ((k + 1 : Nat) : Int) = (k : Int) + 1 := by omega
          rw [e4, Int.add_mul] at h1 h2
          have ha : a = 0 := by
            by_cases ha : 0 ≤ a
            · have : 0 ≤ (k : Int) * a := Int.mul_nonneg (by omega) ha
              omega
            · have : (k : Int) * a ≤ 0 := Int.mul_nonpos_of_nonneg_of_nonpos (by omega) (by omega)
              omega
          subst ha
          simp
theorem brk_eq (a : Int) (k : Nat) (v : Int) (hk : k ≤ 70) (h1 : ((k : Int) - 1) * a ≤ v) (h2 : v ≤ k * a) (h0 : 0 ≤ v) : brk a v = k * v - a * tri k := bk_eq a 70 k v hk h1 h2 h0
/-- An axis whose numbers are in order. -/
def AxOk (lo hi S a : Int) : Prop := -17179869184 ≤ lo ∧ hi ≤ 17179869184 ∧ lo ≤ hi ∧ 16777216 ≤ S ∧ S ≤ 1073741824 ∧ 1 ≤ a ∧ a ≤ S ∧ S ≤ a * 64
/-- F is the greatest speed with which the axis can stop within d. -/
def Fast (S a d F : Int) : Prop := 0 ≤ F ∧ F ≤ S ∧ brk a F ≤ d ∧ (F = S ∨ d < brk a (F + 1))
theorem Fast.le {S a d F v : Int} (h : Fast S a d F) (h0 : v ≤ S) (h1 : brk a v ≤ d) : v ≤ F := by
  obtain ⟨f0, f1, f2, f3⟩ := h
  rcases f3 with f3 | f3
  · omega
  · by_cases c : v ≤ F
    · exact c
    · have := brk_mono a (F + 1) v (by omega)
      omega
theorem Fast.uniq {S a d F G : Int} (h : Fast S a d F) (k : Fast S a d G) : F = G := by
  have h1 := h.le k.2.1 k.2.2.1
  have h2 := k.le h.2.1 h.2.2.1
  omega
theorem Fast.pos {S a d F : Int} (h : Fast S a d F) (hS : 1 ≤ S) (ha : 1 ≤ a) (hd : 1 ≤ d) : 1 ≤ F := by
  refine h.le hS ?_
  rw [brk_step a 1 (by omega) (by omega), brk_neg a (1 - a) (by omega)]
  omega
theorem tdiv_nn {a b : Int} (h : 0 ≤ a) : Int.tdiv a b = a / b := Int.tdiv_eq_ediv_of_nonneg h
theorem check_axis (lo hi S a : Int) (h : AxOk lo hi S a) : Eo (fun k => slew_CheckAxis.f k lo hi S a) 0 := by
  obtain ⟨h0, h1, h2, h3, h4, h5, h6, h7⟩ := h
  apply Y.is
  unfold slew_CheckAxis.f
  refine Y.neg (by omega) (Y.step (fun k => slew_CheckAxis.j0.eq_2 _ _ _ _ _ _) ?_)
  rw [w64 (x := a * 64) (by omega) (by omega)]
  exact Y.neg (by simp; omega) (Y.neg (by omega) (Y.neg (by omega) (Y.neg (by omega) (Y.neg (by omega) (Y.neg (by omega) (Y.neg (by omega) (Y.now rfl)))))))
theorem in_spec (lo hi S a p : Int) (h0 : lo ≤ p) (h1 : p ≤ hi) : slew_In.f lo hi S a p = some true := by
  unfold slew_In.f
  rw [if_pos h0, decide_eq_true h1]
/-- The bounds on a's multiples, for k up to 70. -/
theorem mul_bd (k : Nat) (a : Int) (hk : k ≤ 70) (h0 : 1 ≤ a) (h1 : a ≤ 1073741824) : 0 ≤ a * tri k ∧ a * tri k ≤ 2687575785472 ∧ 0 ≤ tri k ∧ tri k ≤ 2503 := by
  have ht : 0 ≤ tri k ∧ tri k ≤ 2503 := by
    have h := tri_eq k
    have hk' : (k : Int) ≤ 70 := by omega
    have h2 : (k : Int) * ((k : Int) - 1) ≤ 70 * 70 := by
      by_cases c : k = 0
      · subst c
        decide
      · exact Int.mul_le_mul hk' (by omega) (by omega) (by omega)
    have h3 : 0 ≤ (k : Int) * ((k : Int) - 1) := by
      by_cases c : k = 0
      · subst c
        decide
      · exact Int.mul_nonneg (by omega) (by omega)
    omega
  have h2 : a * tri k ≤ 1073741824 * 2503 := Int.mul_le_mul h1 ht.2 ht.1 (by omega)
  have h3 : 0 ≤ a * tri k := Int.mul_nonneg (by omega) ht.1
  exact ⟨h3, by omega, ht⟩
theorem fastest_loop (lo hi S a d : Int) (h : AxOk lo hi S a) (hd0 : 0 ≤ d) (hd1 : d ≤ 1099511627776) (m : Nat) : ∀ (k : Nat), k + m = 65 → 1 ≤ k → a * tri k < d ∨ k = 1 →
    Y (fun n => slew_fastest.l0 n d (k : Int) lo hi S a) (Fast S a d) := by
  obtain ⟨h0, h1, h2, h3, h4, h5, h6, h7⟩ := h
  induction m with
  | zero =>
    intro k hk hk1 hlt
    have ek : k = 65 := by omega
    subst ek
    refine Y.step (fun n => slew_fastest.l0.eq_2 _ _ _ _ _ _ _) ?_
    refine Y.neg (by decide) (Y.now ⟨by omega, Int.le_refl S, ?_, .inl rfl⟩)
    have e := brk_eq a 64 (64 * a) (by decide) (by omega) (by omega) (by omega)
    have em := brk_mono a S (64 * a) (by omega)
    have e65 : tri 65 = 2080 := by decide
    have e64 : tri 64 = 2016 := by decide
    rw [e65] at hlt
    rw [e64] at e
    omega
  | succ m ih =>
    intro k hk hk1 hlt
    have b0 := mul_bd k a (by omega) h5 (by omega)
    have b1 := mul_bd (k + 1) a (by omega) h5 (by omega)
    have et := tri_eq k
    have et1 := tri_eq (k + 1)
    have ec : ((k + 1 : Nat) : Int) = (k : Int) + 1 := by omega
    have p0 : 0 ≤ (k : Int) * ((k : Int) + 1) ∧ (k : Int) * ((k : Int) + 1) ≤ 70 * 70 := ⟨Int.mul_nonneg (by omega) (by omega), Int.mul_le_mul (by omega) (by omega) (by omega) (by omega)⟩
    have p1 : 0 ≤ (k : Int) * ((k : Int) - 1) ∧ (k : Int) * ((k : Int) - 1) ≤ 70 * 70 := ⟨Int.mul_nonneg (by omega) (by omega), Int.mul_le_mul (by omega) (by omega) (by omega) (by omega)⟩
    rw [ec, show (k : Int) + 1 - 1 = k by omega, Int.mul_comm ((k : Int) + 1) k] at et1
    refine Y.step (fun n => slew_fastest.l0.eq_2 _ _ _ _ _ _ _) ?_
    rw [w64 (x := (k : Int) + 1) (by omega) (by omega), w64 (x := (k : Int) - 1) (by omega) (by omega), w64 (x := (k : Int) * ((k : Int) + 1)) (by omega) (by omega), w64 (x := (k : Int) * ((k : Int) - 1)) (by omega) (by omega), tdiv_nn p0.1, tdiv_nn p1.1, ← et, ← et1,
      w64 (x := tri k) (by omega) (by omega), w64 (x := tri (k + 1)) (by omega) (by omega), w64 (x := a * tri k) (by omega) (by omega), w64 (x := a * tri (k + 1)) (by omega) (by omega), w64 (x := d + a * tri k) (by omega) (by omega), tdiv_nn (a := d + a * tri k) (by omega)]
    refine Y.pos (by omega) (Y.ite (fun c => ?_) (fun c => ?_))
    · have q0 : 0 ≤ (d + a * tri k) / (k : Int) := Int.ediv_nonneg (by omega) (by omega)
      have q1 : (d + a * tri k) / (k : Int) * (k : Int) ≤ d + a * tri k := Int.ediv_mul_le _ (by omega)
      have q2 : d + a * tri k < ((d + a * tri k) / (k : Int) + 1) * (k : Int) := by
        have := Int.lt_ediv_add_one_mul_self (d + a * tri k) (b := (k : Int)) (by omega)
        exact this
      have q3 : (d + a * tri k) / (k : Int) ≤ d + a * tri k := Int.ediv_le_self _ (by omega)
      rw [w64 (x := (d + a * tri k) / (k : Int)) (by omega) (by omega)]
      refine Y.neg (by omega) (Y.now ?_)
      rw [mn_min]
      generalize (d + a * tri k) / (k : Int) = q at q0 q1 q2 q3 ⊢
      have etk : tri (k + 1) = tri k + k := rfl
      have ea : a * tri (k + 1) = a * tri k + a * k := by rw [etk, Int.mul_add]
      have e2 : 2 * tri k = (k : Int) * ((k : Int) - 1) := by
        have : (k : Int) * ((k : Int) - 1) % 2 = 0 := by
          have h2 : (k : Int) % 2 = 0 ∨ (k : Int) % 2 = 1 := by omega
          rcases h2 with h2 | h2
          · rw [Int.mul_emod, h2]
            simp
          · rw [Int.mul_emod, show ((k : Int) - 1) % 2 = 0 by omega]
            simp
        omega
      have e2a : 2 * (a * tri k) = a * (k * ((k : Int) - 1)) := by rw [← e2]; grind
      -- q lies between (k - 1) a and k a
      have hqk : q * k = (k : Int) * q := Int.mul_comm _ _
      have r1 : q ≤ k * a := by
        have : (k : Int) * q ≤ k * (k * a) := by
          have : (k : Int) * (k * a) = 2 * (a * tri k) + a * k := by rw [e2a]; grind
          omega
        exact Int.le_of_mul_le_mul_left this (by omega)
      have r0 : ((k : Int) - 1) * a ≤ q := by
        by_cases c1 : k = 1
        · subst c1
          simpa using q0
        · have hlt' : a * tri k < d := by omega
          have : (k : Int) * (((k : Int) - 1) * a) < k * (q + 1) := by
            have e5 : (k : Int) * (((k : Int) - 1) * a) = 2 * (a * tri k) := by rw [e2a]; grind
            have e6 : (q + 1) * k = (k : Int) * (q + 1) := Int.mul_comm _ _
            omega
          have := Int.lt_of_mul_lt_mul_left this (by omega)
          omega
      have eb := brk_eq a k q (by omega) r0 r1 q0
      have hbq : brk a q ≤ d := by omega
      have hbq1 : d < brk a (q + 1) := by
        by_cases c2 : q + 1 ≤ k * a
        · have eb1 := brk_eq a k (q + 1) (by omega) (by omega) c2 (by omega)
          have e6 : (q + 1) * k = (k : Int) * (q + 1) := Int.mul_comm _ _
          omega
        · have eq : q = k * a := by omega
          have eb1 := brk_eq a (k + 1) (q + 1) (by omega) (by rw [ec, show (k : Int) + 1 - 1 = k by omega]; omega) (by rw [ec, Int.add_mul]; omega) (by omega)
          rw [ec, ea] at eb1
          have e7 : ((k : Int) + 1) * (q + 1) = k * q + q + k + 1 := by grind
          have e8 : a * (k : Int) = q := by rw [eq]; exact Int.mul_comm _ _
          have e9 : (k : Int) * q = 2 * (a * tri k) + a * k := by rw [e2a, eq]; grind
          rw [e7] at eb1
          omega
      by_cases c3 : S ≤ q
      · rw [Int.min_eq_left c3]
        exact ⟨by omega, Int.le_refl S, by have := brk_mono a S q c3; omega, .inl rfl⟩
      · rw [Int.min_eq_right (by omega)]
        exact ⟨q0, by omega, hbq, .inr hbq1⟩
    · rw [← ec]
      exact ih (k + 1) (by omega) (by omega) (.inl (by omega))
theorem fastest_spec (lo hi S a d : Int) (h : AxOk lo hi S a) (hd0 : 0 ≤ d) (hd1 : d ≤ 1099511627776) : Y (fun n => slew_fastest.f n lo hi S a d) (Fast S a d) :=
  fastest_loop lo hi S a d h hd0 hd1 64 1 (by omega) (by omega) (.inr rfl)
theorem shl_spec (r : Int) (h0 : 24 ≤ r) (h1 : r ≤ 30) : 16777216 ≤ shl .i64 1 r ∧ shl .i64 1 r ≤ 1073741824 ∧ (shl .i64 1 r = 16777216 ∨ 33554432 ≤ shl .i64 1 r) := by
  have hc : r = 24 ∨ r = 25 ∨ r = 26 ∨ r = 27 ∨ r = 28 ∨ r = 29 ∨ r = 30 := by omega
  rcases hc with h | h | h | h | h | h | h <;> subst h <;> decide
/-- What Axis gives: an axis in order, of at most three turns. -/
def Axes (at0 at1 : Int) (r : Int × Int × Int × Int × Int) : Prop := AxOk r.1 r.2.1 r.2.2.1 r.2.2.2.1 ∧ at0 ≤ r.2.2.2.2 ∧ r.2.2.2.2 ≤ at1 ∧ -6442450944 ≤ r.1 ∧ r.2.1 ≤ 6442450944 ∧ r.1 ≤ 1048576 ∧ 1072693248 ≤ r.2.1
theorem axis_tail (L : List Int) (S a at_ : Int) (ha : 0 ≤ at_) (hb : at_ ≤ 1152921504606846976) (h3 : 16777216 ≤ S) (h4 : S ≤ 1073741824) (h5 : 1 ≤ a) (h6 : a ≤ S) (h7 : S ≤ a * 64) :
    Y (fun k => spymake_Stream_Axis.j0 k S a L at_) (Axes at_ (at_ + 5)) := by
  refine Y.step (fun k => spymake_Stream_Axis.j0.eq_2 _ _ _ _ _) ?_
  refine Y.range L at_ 0 6 ha (by omega) (by omega) (by omega) (by omega) (fun x hx0 hx1 => ?_)
  refine Y.range L (at_ + 1) 1 6 (by omega) (by omega) (by omega) (by omega) (by omega) (fun y hy0 hy1 => ?_)
  refine Y.next L (at_ + 1 + 1) 4 (by omega) (by omega) (by omega) (by omega) (fun z hz0 hz1 => ?_)
  dsimp only
  rw [w64 (x := -x) (by omega) (by omega), w64 (x := -x * 1073741824) (by omega) (by omega), w64 (x := y * 1073741824) (by omega) (by omega)]
  refine Y.ite (fun _ => ?_) (fun _ => ?_)
  · refine Y.next L (at_ + 1 + 1 + 1) 1048576 (by omega) (by omega) (by omega) (by omega) (fun u hu0 hu1 => ?_)
    refine Y.next L (at_ + 1 + 1 + 1 + 1) 1048576 (by omega) (by omega) (by omega) (by omega) (fun v hv0 hv1 => ?_)
    dsimp only
    rw [w64 (x := -x * 1073741824 + u) (by omega) (by omega), w64 (x := y * 1073741824 - v) (by omega) (by omega)]
    exact Y.now (by unfold Axes AxOk; dsimp only; omega)
  · exact Y.now (by unfold Axes AxOk; dsimp only; omega)
theorem axis_draw (L : List Int) (at_ : Int) (ha : 0 ≤ at_) (hb : at_ ≤ 4611686018427387) : Y (fun k => spymake_Stream_Axis.f k L at_) (Axes at_ (at_ + 10)) := by
  unfold spymake_Stream_Axis.f
  refine Y.range L at_ 24 30 ha (by omega) (by omega) (by omega) (by omega) (fun r hr0 hr1 => ?_)
  obtain ⟨s0, s1, s2⟩ := shl_spec r hr0 hr1
  dsimp only
  generalize shl .i64 1 r = S at s0 s1 s2 ⊢
  refine Y.pos (by omega) (Y.range L (at_ + 1) 1 8 (by omega) (by omega) (by omega) (by omega) (by omega) (fun q hq0 hq1 => ?_))
  dsimp only
  have hd : 1 ≤ S / q ∧ S / q ≤ S ∧ S ≤ S / q * 60 := by
    have hc : q = 1 ∨ q = 2 ∨ q = 3 ∨ q = 4 ∨ q = 5 ∨ q = 6 ∨ q = 7 ∨ q = 8 := by omega
    rcases hc with h | h | h | h | h | h | h | h <;> subst h <;> omega
  rw [tdiv_nn (a := S) (by omega), w64 (x := S / q) (by omega) (by omega)]
  generalize S / q = a at hd ⊢
  refine Y.neg (by omega) (Y.next L (at_ + 1 + 1) 3 (by omega) (by omega) (by omega) (by omega) (fun c hc0 hc1 => ?_))
  refine Y.ite (fun _ => ?_) (fun _ => ?_)
  · refine Y.next L (at_ + 1 + 1 + 1) 1000 (by omega) (by omega) (by omega) (by omega) (fun x hx0 hx1 => ?_)
    refine Y.next L (at_ + 1 + 1 + 1 + 1) 1000 (by omega) (by omega) (by omega) (by omega) (fun y hy0 hy1 => ?_)
    dsimp only
    rw [w64 (x := S - 16777216) (by omega) (by omega), mn_min, mn_min]
    have hm : (S = 16777216 ∧ min 1 ((S - 16777216) / 1024) = 0) ∨ (33554432 ≤ S ∧ min 1 ((S - 16777216) / 1024) = 1) := by omega
    generalize min 1 ((S - 16777216) / 1024) = m at hm ⊢
    have hxm : x * m = 0 ∨ (33554432 ≤ S ∧ x * m = x) := by
      rcases hm with ⟨_, h⟩ | ⟨h1, h⟩
      · left
        rw [h]
        omega
      · right
        rw [h]
        omega
    generalize x * m = xm at hxm ⊢
    rw [w64 (x := xm) (by omega) (by omega), w64 (x := S - xm) (by omega) (by omega), w64 (x := a + y) (by omega) (by omega)]
    refine (axis_tail L (S - xm) (min (a + y) (S - xm)) (at_ + 1 + 1 + 1 + 1 + 1) (by omega) (by omega) (by omega) (by omega) (by omega) (by omega) (by omega)).mono ?_
    rintro r ⟨e1, e2, e3, e4⟩
    exact ⟨e1, by omega, by omega, e4⟩
  · refine (axis_tail L S a (at_ + 1 + 1 + 1) (by omega) (by omega) (by omega) (by omega) (by omega) (by omega) (by omega)).mono ?_
    rintro r ⟨e1, e2, e3, e4⟩
    exact ⟨e1, by omega, by omega, e4⟩
theorem inside_spec (L : List Int) (at_ lo hi S a : Int) (ha : 0 ≤ at_) (hb : at_ ≤ 4611686018427387) (h0 : -17179869184 ≤ lo) (h1 : hi ≤ 17179869184) (h2 : lo ≤ hi) :
    ∃ p q, spymake_Stream_Inside.f L at_ lo hi S a = some (p, q) ∧ lo ≤ p ∧ p ≤ hi ∧ at_ ≤ q ∧ q ≤ at_ + 3 := by
  unfold spymake_Stream_Inside.f
  obtain ⟨r, hr, r0, r1⟩ := next_spec L at_ 6 ha (by omega) (by omega) (by omega)
  rw [hr]
  simp only [Option.bind_some]
  by_cases c : r = 0
  · rw [if_pos c]
    exact ⟨_, _, rfl, by omega, by omega, by omega, by omega⟩
  · rw [if_neg c]
    by_cases c1 : r = 1
    · rw [if_pos c1]
      exact ⟨_, _, rfl, by omega, by omega, by omega, by omega⟩
    · rw [if_neg c1]
      obtain ⟨x, hx, x0, x1⟩ := next_spec L (at_ + 1) 1000 (by omega) (by omega) (by omega) (by omega)
      rw [hx]
      simp only [Option.bind_some]
      rw [w64 (x := hi - lo) (by omega) (by omega), tdiv_nn (a := hi - lo) (by omega), w64 (x := (hi - lo) / 1000) (by omega) (by omega), w64 (x := (hi - lo) / 1000 + 1) (by omega) (by omega)]
      obtain ⟨y, hy, y0, y1⟩ := next_spec L (at_ + 1 + 1) ((hi - lo) / 1000 + 1) (by omega) (by omega) (by omega) (by omega)
      rw [hy]
      simp only [Option.bind_some]
      have hs : 0 ≤ (hi - lo) / 1000 ∧ (hi - lo) / 1000 * 1000 ≤ hi - lo := by omega
      generalize (hi - lo) / 1000 = s at hs y1 ⊢
      have m0 : 0 ≤ s * x := Int.mul_nonneg hs.1 x0
      have m1 : s * x ≤ s * 999 := Int.mul_le_mul_of_nonneg_left (by omega) hs.1
      rw [w64 (x := s * x) (by omega) (by omega), w64 (x := lo + s * x) (by omega) (by omega), w64 (x := lo + s * x + y) (by omega) (by omega)]
      exact ⟨_, _, rfl, by omega, by omega, by omega, by omega⟩
theorem Y.inside {β : Type} {f : Nat → Int × Int → Option β} {Q : β → Prop} (L : List Int) (at_ lo hi S a : Int) (ha : 0 ≤ at_) (hb : at_ ≤ 4611686018427387) (h0 : -17179869184 ≤ lo) (h1 : hi ≤ 17179869184) (h2 : lo ≤ hi)
    (k : ∀ p q, lo ≤ p → p ≤ hi → at_ ≤ q → q ≤ at_ + 3 → Y (fun m => f m (p, q)) Q) : Y (fun m => (spymake_Stream_Inside.f L at_ lo hi S a).bind (f m)) Q := by
  obtain ⟨p, q, h, h3, h4, h5, h6⟩ := inside_spec L at_ lo hi S a ha hb h0 h1 h2
  exact Y.bindS h (k p q h3 h4 h5 h6)
/-- A mount in order. -/
def MtOk (lo hi S a lo2 hi2 S2 a2 pa pb : Int) : Prop := AxOk lo hi S a ∧ AxOk lo2 hi2 S2 a2 ∧ lo ≤ pa ∧ pa ≤ hi ∧ lo2 ≤ pb ∧ pb ≤ hi2
theorem check_mount (lo hi S a lo2 hi2 S2 a2 pa pb : Int) (h : MtOk lo hi S a lo2 hi2 S2 a2 pa pb) : Eo (fun k => slew_CheckMount.f k lo hi S a lo2 hi2 S2 a2 pa pb) 0 := by
  obtain ⟨h0, h1, h2, h3, h4, h5⟩ := h
  apply Y.is
  unfold slew_CheckMount.f
  exact Y.bindE (check_axis _ _ _ _ h0) (Y.pos rfl (Y.bindE (check_axis _ _ _ _ h1) (Y.pos rfl (Y.bindS (in_spec _ _ _ _ _ h2 h3) (Y.pos rfl (Y.bindS (in_spec _ _ _ _ _ h4 h5) (Y.pos rfl (Y.now rfl))))))))
def Mounts (at0 at1 : Int) (r : Int × Int × Int × Int × Int × Int × Int × Int × Int × Int × Int) : Prop :=
  MtOk r.1 r.2.1 r.2.2.1 r.2.2.2.1 r.2.2.2.2.1 r.2.2.2.2.2.1 r.2.2.2.2.2.2.1 r.2.2.2.2.2.2.2.1 r.2.2.2.2.2.2.2.2.1 r.2.2.2.2.2.2.2.2.2.1 ∧ at0 ≤ r.2.2.2.2.2.2.2.2.2.2 ∧ r.2.2.2.2.2.2.2.2.2.2 ≤ at1
theorem mount_tail (L : List Int) (lo hi S a lo2 hi2 S2 a2 x y at_ : Int) (ha : 0 ≤ at_) (hb : at_ ≤ 1152921504606) (h : AxOk lo hi S a) (k : AxOk lo2 hi2 S2 a2) :
    Y (fun k => spymake_Stream_Mount.j0 k L at_ lo hi S a lo2 hi2 S2 a2 x y) (Mounts at_ (at_ + 7)) := by
  have hA := h
  have kA := k
  obtain ⟨h0, h1, h2, h3⟩ := h
  obtain ⟨k0, k1, k2, k3⟩ := k
  refine Y.step (fun k => spymake_Stream_Mount.j0.eq_2 _ _ _ _ _ _ _ _ _ _ _ _ _) ?_
  refine Y.next L at_ 3 ha (by omega) (by omega) (by omega) (fun r hr0 hr1 => ?_)
  dsimp only
  refine Y.ite (fun _ => ?_) (fun _ => ?_)
  · refine Y.inside L (at_ + 1) lo hi S a (by omega) (by omega) h0 h1 h2 (fun p at1 hp0 hp1 b0 b1 => ?_)
    dsimp only
    refine Y.inside L at1 (-1073741824) 1073741824 S2 a2 (by omega) (by omega) (by omega) (by omega) (by omega) (fun q at2 hq0 hq1 b2 b3 => ?_)
    exact Y.now ⟨⟨hA, ⟨by dsimp only; omega, by dsimp only; omega, by dsimp only; omega, k3⟩, hp0, hp1, hq0, hq1⟩, by dsimp only; omega, by dsimp only; omega⟩
  · refine Y.inside L (at_ + 1) lo hi S a (by omega) (by omega) h0 h1 h2 (fun p at1 hp0 hp1 b0 b1 => ?_)
    dsimp only
    refine Y.inside L at1 lo2 hi2 S2 a2 (by omega) (by omega) k0 k1 k2 (fun q at2 hq0 hq1 b2 b3 => ?_)
    exact Y.now ⟨⟨hA, kA, hp0, hp1, hq0, hq1⟩, by dsimp only; omega, by dsimp only; omega⟩
theorem mount_draw (L : List Int) (at_ : Int) (ha : 0 ≤ at_) (hb : at_ ≤ 1000000000) : Y (fun k => spymake_Stream_Mount.f k L at_) (Mounts at_ (at_ + 28)) := by
  unfold spymake_Stream_Mount.f
  refine Y.bind _ (axis_draw L at_ ha (by omega)) ?_
  rintro ⟨lo, hi, S, a, at1⟩ ⟨hA, b0, b1, _⟩
  dsimp only at hA b0 b1 ⊢
  refine Y.bind _ (axis_draw L at1 (by omega) (by omega)) ?_
  rintro ⟨lo2, hi2, S2, a2, at2⟩ ⟨kA, b2, b3, _⟩
  dsimp only at kA b2 b3 ⊢
  refine Y.next L at2 3 (by omega) (by omega) (by omega) (by omega) (fun r hr0 hr1 => ?_)
  dsimp only
  refine Y.ite (fun _ => ?_) (fun _ => ?_)
  · refine (mount_tail L (-6442450944) 6442450944 S a lo2 hi2 S2 a2 0 0 (at2 + 1) (by omega) (by omega) ⟨by omega, by omega, by omega, hA.2.2.2⟩ kA).mono ?_
    rintro r ⟨e1, e2, e3⟩
    exact ⟨e1, by omega, by omega⟩
  · refine (mount_tail L lo hi S a lo2 hi2 S2 a2 0 0 (at2 + 1) (by omega) (by omega) hA kA).mono ?_
    rintro r ⟨e1, e2, e3⟩
    exact ⟨e1, by omega, by omega⟩
theorem bk_le (a : Int) (ha : 0 ≤ a) (n : Nat) : ∀ v, 0 ≤ v → bk a n v ≤ n * v := by
  induction n with
  | zero =>
    intro v hv
    show (0 : Int) ≤ ((0 : Nat) : Int) * v
    simp
  | succ n ih =>
    intro v hv
    have e : ((n + 1 : Nat) : Int) * v = n * v + v := by
      have : ((n + 1 : Nat) : Int) = (n : Int) + 1 := by omega
      rw [this, Int.add_mul]
      omega
    have hn : 0 ≤ (n : Int) * v := Int.mul_nonneg (by omega) hv
    unfold bk
    split
    · by_cases c : 0 ≤ v - a
      · have h1 := ih (v - a) c
        have h2 : (n : Int) * (v - a) ≤ n * v := Int.mul_le_mul_of_nonneg_left (by omega) (by omega)
        omega
      · rw [bk_neg a n (v - a) (by omega)]
        omega
    · omega
theorem brk_bd (lo hi S a v : Int) (h : AxOk lo hi S a) (h1 : v ≤ S) : 0 ≤ brk a v ∧ brk a v ≤ 75161927680 := by
  obtain ⟨g0, g1, g2, g3, g4, g5, g6, g7⟩ := h
  have h2 := bk_le a (by omega) 70 S (by omega)
  have h3 := brk_mono a v S h1
  have h4 := brk_nonneg a v
  unfold brk at *
  omega
theorem axstop_loop (lo hi S a : Int) (h0 : 1 ≤ a) (h1 : a ≤ 1073741824) (n : Nat) : ∀ (v sum : Int), v ≤ n * a → n ≤ 70 → v ≤ 1073741825 → -1073741824 ≤ v → 0 ≤ sum → sum ≤ (70 - n) * 1073741825 →
    Eo (fun k => axis_Stop.l0 k v sum lo hi S a) (sum + bk a n v) := by
  induction n with
  | zero =>
    intro v sum hv hn h2 h3 h4 h5
    apply Y.is
    refine Y.step (fun n => axis_Stop.l0.eq_2 _ _ _ _ _ _ _) ?_
    have hv' : v ≤ 0 := by simpa using hv
    rw [bk_neg a 0 v hv']
    exact Y.neg (by omega) (Y.now (by omega))
  | succ n ih =>
    intro v sum hv hn h2 h3 h4 h5
    apply Y.is
    refine Y.step (fun n => axis_Stop.l0.eq_2 _ _ _ _ _ _ _) ?_
    by_cases c : 0 < v
    · have e : ((n + 1 : Nat) : Int) * a = n * a + a := by
        have : ((n + 1 : Nat) : Int) = (n : Int) + 1 := by omega
        rw [this, Int.add_mul]
        omega
      have e2 : bk a (n + 1) v = v + bk a n (v - a) := by
        show (if 0 < v then v + bk a n (v - a) else 0) = _
        rw [if_pos c]
      refine Y.pos c ?_
      rw [w64 (x := v - a) (by omega) (by omega), w64 (x := sum + v) (by omega) (by omega), e2]
      exact Y.ev (ih (v - a) (sum + v) (by omega) (by omega) (by omega) (by omega) (by omega) (by omega)) (by omega)
    · rw [bk_neg a (n + 1) v (by omega)]
      exact Y.neg (by omega) (Y.now (by omega))
theorem axstop_spec (lo hi S a v : Int) (h : AxOk lo hi S a) (h0 : -S ≤ v) (h1 : v ≤ S) : Eo (fun k => axis_Stop.f k lo hi S a v) (brk a (max v (-v) - a)) := by
  have hA := h
  obtain ⟨g0, g1, g2, g3, g4, g5, g6, g7⟩ := h
  apply Y.is
  unfold axis_Stop.f
  rw [w64 (x := -S) (by omega) (by omega)]
  refine Y.bindE (check_axis lo hi S a hA) (Y.pos rfl (Y.neg (by omega) ?_))
  refine Y.step (fun n => axis_Stop.j0.eq_2 _ _ _ _ _ _ _) (Y.neg (by simp; omega) ?_)
  rw [w64 (x := -v) (by omega) (by omega), mx_max, w64 (x := max v (-v) - a) (by omega) (by omega)]
  have := axstop_loop lo hi S a g5 (by omega) 70 (max v (-v) - a) 0 (by omega) (by omega) (by omega) (by omega) (by omega) (by omega)
  rw [Int.zero_add] at this
  exact Y.ev this rfl
/-- Where an axis stands once it has braked. -/
def endOf (a p v : Int) : Int := if v < 0 then p - brk a (-v - a) else p + brk a (v - a)
/-- A state that is valid. -/
def AxSt (lo hi S a p v g : Int) : Prop := lo ≤ p ∧ p ≤ hi ∧ lo ≤ g ∧ g ≤ hi ∧ -S ≤ v ∧ v ≤ S ∧ lo ≤ endOf a p v ∧ endOf a p v ≤ hi
theorem axis_check (lo hi S a p v g : Int) (t : Bool) (h : AxOk lo hi S a) (k : AxSt lo hi S a p v g) : Eo (fun n => axis_Check.f n lo hi S a p v g t) 0 := by
  have hA := h
  obtain ⟨g0, g1, g2, g3, g4, g5, g6, g7⟩ := h
  obtain ⟨k0, k1, k2, k3, k4, k5, k6, k7⟩ := k
  apply Y.is
  unfold axis_Check.f
  rw [w64 (x := -S) (by omega) (by omega)]
  refine Y.bindE (check_axis lo hi S a hA) (Y.pos rfl (Y.bindS (in_spec _ _ _ _ _ k0 k1) (Y.pos rfl (Y.bindS (in_spec _ _ _ _ _ k2 k3) (Y.pos rfl (Y.neg (by omega) ?_))))))
  refine Y.step (fun n => axis_Check.j0.eq_2 _ _ _ _ _ _ _ _ _ _) (Y.neg (by simp; omega) ?_)
  have hs := axstop_spec lo hi S a v hA k4 k5
  have hb := brk_bd lo hi S a (max v (-v) - a) hA (by omega)
  unfold endOf at k6 k7
  refine Y.bindE hs (Y.ite (fun c => ?_) (fun c => ?_))
  · rw [if_pos c] at k6 k7
    rw [show max v (-v) = -v by omega] at hs hb
    refine Y.bindE hs ?_
    rw [w64 (x := p - brk a (-v - a)) (by omega) (by omega)]
    exact Y.bindS (in_spec _ _ _ _ _ k6 k7) (Y.pos rfl (Y.now rfl))
  · rw [if_neg c] at k6 k7
    rw [show max v (-v) = v by omega] at hs hb ⊢
    rw [w64 (x := p + brk a (v - a)) (by omega) (by omega)]
    exact Y.bindS (in_spec _ _ _ _ _ k6 k7) (Y.pos rfl (Y.now rfl))
/-- The next speed, toward what lies d ahead. -/
def Next (S a d v w : Int) : Prop := (v < 0 ∧ w = min (v + a) 0) ∨ (0 ≤ v ∧ ∃ F, Fast S a d F ∧ w = max (max (v - a) 0) (min (v + a) F))
theorem Fastest_spec (lo hi S a d : Int) (h : AxOk lo hi S a) (hd0 : 0 ≤ d) (hd1 : d ≤ 1099511627776) : Y (fun n => slew_Fastest.f n lo hi S a d) (Fast S a d) := by
  unfold slew_Fastest.f
  refine Y.bindE (check_axis lo hi S a h) (Y.pos rfl (Y.neg (by omega) ?_))
  refine Y.bind _ (fastest_spec lo hi S a d h hd0 hd1) (fun F hF => Y.now hF)
theorem next_axis (lo hi S a d v : Int) (h : AxOk lo hi S a) (hd0 : 0 ≤ d) (hd1 : d ≤ 1099511627776) (hv0 : -S ≤ v) (hv1 : v ≤ S) : Y (fun n => axis_next.f n lo hi S a d v) (Next S a d v) := by
  have hA := h
  obtain ⟨g0, g1, g2, g3, g4, g5, g6, g7⟩ := h
  unfold axis_next.f
  rw [w64 (x := v + a) (by omega) (by omega), w64 (x := v - a) (by omega) (by omega)]
  refine Y.ite (fun c => Y.now (.inl ⟨c, by rw [mn_min]⟩)) (fun c => ?_)
  refine Y.bind _ (Fastest_spec lo hi S a d hA hd0 hd1) (fun F hF => Y.now (.inr ⟨by omega, F, hF, ?_⟩))
  rw [mx_max, mx_max, mn_min]
/-- What a step does. -/
def StepTo (S a p v g : Int) (h : Bool) (r : Int × Int × Int × Bool) : Prop :=
  r.1 = p + r.2.1 ∧
  ((h = true ∧ r.2.1 = (if 0 < v then max (v - a) 0 else min (v + a) 0) ∧ ((r.2.1 = 0 ∧ r.2.2.1 = p ∧ r.2.2.2 = false) ∨ (r.2.1 ≠ 0 ∧ r.2.2.1 = g ∧ r.2.2.2 = true))) ∨
   (h = false ∧ r.2.2.1 = g ∧ r.2.2.2 = false ∧ ((p ≤ g ∧ Next S a (g - p) v r.2.1) ∨ (g < p ∧ Next S a (p - g) (-v) (-r.2.1)))))
theorem Next.range {S a d v w : Int} (h : Next S a d v w) (ha : 1 ≤ a) (haS : a ≤ S) (h0 : -S ≤ v) (h1 : v ≤ S) (hd : 0 ≤ d) :
    -S ≤ w ∧ w ≤ S ∧ w - v ≤ a ∧ v - w ≤ a ∧ (v < 0 → w ≤ 0 ∧ brk a (-w) = brk a (-v - a)) ∧ (0 ≤ v → 0 ≤ w ∧ (brk a w = brk a (v - a) ∨ brk a w ≤ d)) := by
  rcases h with ⟨c, e⟩ | ⟨c, F, hF, e⟩
  · refine ⟨by omega, by omega, by omega, by omega, fun _ => ⟨by omega, ?_⟩, fun h => by omega⟩
    by_cases g : v + a ≤ 0
    · rw [e, Int.min_eq_left g, show -(v + a) = -v - a by omega]
    · rw [e, Int.min_eq_right (by omega), brk_neg a (-0) (by omega), brk_neg a (-v - a) (by omega)]
  · obtain ⟨f0, f1, f2, f3⟩ := hF
    refine ⟨by omega, by omega, by omega, by omega, fun h => by omega, fun _ => ⟨by omega, ?_⟩⟩
    by_cases g : min (v + a) F ≤ max (v - a) 0
    · left
      rw [e, Int.max_eq_left g]
      by_cases g2 : 0 ≤ v - a
      · rw [Int.max_eq_left g2]
      · rw [Int.max_eq_right (by omega), brk_neg a 0 (by omega), brk_neg a (v - a) (by omega)]
    · right
      rw [e, Int.max_eq_right (by omega)]
      have := brk_mono a (min (v + a) F) F (by omega)
      omega
/-- Behind a step of speed w one stops where w itself was to stop. -/
theorem endOf_step {a p w : Int} (ha : 1 ≤ a) (h0 : w ≤ 70 * a) (h1 : -w ≤ 70 * a) : endOf a (p + w) w = if w < 0 then p - brk a (-w) else p + brk a w := by
  unfold endOf
  by_cases c : w < 0
  · rw [if_pos c, if_pos c, brk_step a (-w) (by omega) h1]
    omega
  · rw [if_neg c, if_neg c]
    by_cases c2 : 0 < w
    · rw [brk_step a w c2 h0]
      omega
    · have : w = 0 := by omega
      subst this
      rw [brk_neg a 0 (by omega), brk_neg a (0 - a) (by omega)]
      omega
theorem step_keeps {lo hi S a p v g : Int} {t : Bool} {r : Int × Int × Int × Bool} (h : AxOk lo hi S a) (k : AxSt lo hi S a p v g) (hs : StepTo S a p v g t r) :
    AxSt lo hi S a r.1 r.2.1 r.2.2.1 ∧ r.2.1 - v ≤ a ∧ v - r.2.1 ≤ a := by
  obtain ⟨p', v', g', t'⟩ := r
  obtain ⟨g0, g1, g2, g3, g4, g5, g6, g7⟩ := h
  obtain ⟨k0, k1, k2, k3, k4, k5, k6, k7⟩ := k
  obtain ⟨e1, hs⟩ := hs
  dsimp only at e1 hs ⊢
  subst e1
  have key : -S ≤ v' ∧ v' ≤ S ∧ v' - v ≤ a ∧ v - v' ≤ a ∧ lo ≤ g' ∧ g' ≤ hi ∧ ((v' < 0 → lo ≤ p - brk a (-v')) ∧ (0 ≤ v' → p + brk a v' ≤ hi)) := by
    unfold endOf at k6 k7
    rcases hs with ⟨_, e2, e3⟩ | ⟨_, e2, _, e4⟩
    · by_cases c : 0 < v
      · rw [if_pos c] at e2
        rw [if_neg (by omega)] at k6 k7
        refine ⟨by omega, by omega, by omega, by omega, by omega, by omega, fun h => by omega, fun _ => ?_⟩
        by_cases g : 0 ≤ v - a
        · rw [e2, Int.max_eq_left g]
          exact k7
        · rw [e2, Int.max_eq_right (by omega), brk_neg a 0 (by omega)]
          omega
      · rw [if_neg c] at e2
        refine ⟨by omega, by omega, by omega, by omega, by omega, by omega, fun h => ?_, fun h => ?_⟩
        · rw [if_pos (by omega)] at k6 k7
          rw [e2, Int.min_eq_left (by omega), show -(v + a) = -v - a by omega]
          exact k6
        · have : v' = 0 := by omega
          rw [this, brk_neg a 0 (by omega)]
          omega
    · rcases e4 with ⟨c, n⟩ | ⟨c, n⟩
      · obtain ⟨n0, n1, n2, n3, n4, n5⟩ := n.range g5 g6 k4 k5 (by omega)
        refine ⟨n0, n1, n2, n3, by omega, by omega, fun h => ?_, fun h => ?_⟩
        · have hv : v < 0 := by
            by_cases cv : v < 0
            · exact cv
            · have := (n5 (by omega)).1
              omega
          rw [if_pos hv] at k6
          rw [(n4 hv).2]
          exact k6
        · by_cases hv : v < 0
          · have h1 := n4 hv
            have : v' = 0 := by omega
            rw [this, brk_neg a 0 (by omega)]
            omega
          · rw [if_neg hv] at k7
            rcases (n5 (by omega)).2 with e | e <;> omega
      · obtain ⟨n0, n1, n2, n3, n4, n5⟩ := n.range g5 g6 (by omega) (by omega) (by omega)
        refine ⟨by omega, by omega, by omega, by omega, by omega, by omega, fun h => ?_, fun h => ?_⟩
        · by_cases hv : -v < 0
          · have := n4 hv
            omega
          · rcases (n5 (by omega)).2 with e | e
            · by_cases hv0 : v < 0
              · rw [if_pos hv0] at k6
                omega
              · have : v = 0 := by omega
                subst this
                rw [e, brk_neg a (-0 - a) (by omega)]
                omega
            · omega
        · by_cases hv : -v < 0
          · rw [if_neg (by omega)] at k7
            have := (n4 hv).2
            rw [show -(-v') = v' by omega, show -(-v) - a = v - a by omega] at this
            omega
          · have := (n5 (by omega)).1
            have h0 : v' = 0 := by omega
            rw [h0, brk_neg a 0 (by omega)]
            omega
  obtain ⟨j0, j1, j2, j3, j4, j5, j6, j7⟩ := key
  have hn := brk_nonneg a (-v')
  have hn2 := brk_nonneg a v'
  have hg := brk_ge a v'
  have hg2 := brk_ge a (-v')
  refine ⟨⟨?_, ?_, j4, j5, j0, j1, ?_, ?_⟩, j2, j3⟩
  · by_cases c : v' < 0
    · have := j6 c
      omega
    · omega
  · by_cases c : v' < 0
    · omega
    · have := j7 (by omega)
      omega
  · rw [endOf_step g5 (by omega) (by omega)]
    split
    · exact j6 (by assumption)
    · omega
  · rw [endOf_step g5 (by omega) (by omega)]
    split
    · omega
    · exact j7 (by omega)
theorem step_axis (lo hi S a p v g : Int) (t : Bool) (h : AxOk lo hi S a) (k : AxSt lo hi S a p v g) : Y (fun n => axis_Step.f n lo hi S a p v g t) (StepTo S a p v g t) := by
  have hA := h
  have hK := k
  obtain ⟨g0, g1, g2, g3, g4, g5, g6, g7⟩ := h
  obtain ⟨k0, k1, k2, k3, k4, k5, k6, k7⟩ := k
  unfold axis_Step.f
  refine Y.bindE (axis_check lo hi S a p v g t hA hK) (Y.pos rfl ?_)
  have hvm : max (v - a) 0 ≤ 1073741824 ∧ 0 ≤ max (v - a) 0 := by omega
  have hvn : min (v + a) 0 ≤ 0 ∧ -1073741824 ≤ min (v + a) 0 := by omega
  cases t with
  | true =>
    refine Y.pos rfl (Y.step (fun n => axis_Step.j0.eq_2 _ _ _ _ _ _ _ _ _ _) ?_)
    rw [w64 (x := v - a) (by omega) (by omega), w64 (x := v + a) (by omega) (by omega), mx_max, mn_min, w64 (x := p + max (v - a) 0) (by omega) (by omega), w64 (x := p + min (v + a) 0) (by omega) (by omega)]
    by_cases c : 0 < v
    · refine Y.pos (decide_eq_true c) (Y.pos rfl (Y.ite (fun g => Y.now ?_) (fun g => Y.now ?_)))
      · exact ⟨rfl, .inl ⟨rfl, (if_pos c).symm, .inl ⟨g, by dsimp only; omega, rfl⟩⟩⟩
      · exact ⟨rfl, .inl ⟨rfl, (if_pos c).symm, .inr ⟨g, rfl, rfl⟩⟩⟩
    · refine Y.neg (by simp [c]) (Y.pos rfl (Y.ite (fun g => Y.now ?_) (fun g => Y.now ?_)))
      · exact ⟨rfl, .inl ⟨rfl, (if_neg c).symm, .inl ⟨g, by dsimp only; omega, rfl⟩⟩⟩
      · exact ⟨rfl, .inl ⟨rfl, (if_neg c).symm, .inr ⟨g, rfl, rfl⟩⟩⟩
  | false =>
    refine Y.neg (by simp) (Y.step (fun n => axis_Step.j0.eq_2 _ _ _ _ _ _ _ _ _ _) (Y.neg (by simp) (Y.neg (by simp) (Y.ite (fun c => ?_) (fun c => ?_)))))
    · rw [w64 (x := g - p) (by omega) (by omega)]
      refine Y.bind _ (next_axis lo hi S a (g - p) v hA (by omega) (by omega) k4 k5) (fun w hw => ?_)
      have hr := hw.range g5 g6 k4 k5 (by omega)
      rw [w64 (x := p + w) (by omega) (by omega)]
      exact Y.now ⟨rfl, .inr ⟨rfl, rfl, rfl, .inl ⟨c, hw⟩⟩⟩
    · rw [w64 (x := p - g) (by omega) (by omega), w64 (x := -v) (by omega) (by omega)]
      refine Y.bind _ (next_axis lo hi S a (p - g) (-v) hA (by omega) (by omega) (by omega) (by omega)) (fun w hw => ?_)
      have hr := hw.range g5 g6 (by omega) (by omega) (by omega)
      rw [w64 (x := -w) (by omega) (by omega), w64 (x := p + -w) (by omega) (by omega)]
      exact Y.now ⟨rfl, .inr ⟨rfl, rfl, rfl, .inr ⟨by omega, by dsimp only; rw [Int.neg_neg]; exact hw⟩⟩⟩
theorem rest_ok (lo hi S a p : Int) (ha : 1 ≤ a) (hS : 1 ≤ S) (h0 : lo ≤ p) (h1 : p ≤ hi) : AxSt lo hi S a p 0 p := by
  have : endOf a p 0 = p := by
    unfold endOf
    rw [if_neg (by omega), brk_neg a (0 - a) (by omega)]
    omega
  exact ⟨h0, h1, h0, h1, by omega, by omega, by omega, by omega⟩
theorem send_spec (lo hi S a p v g q : Int) (t : Bool) (h : AxOk lo hi S a) (k : AxSt lo hi S a p v g) (h0 : lo ≤ q) (h1 : q ≤ hi) : Eo (fun n => axis_Send.f n lo hi S a p v g t q) (p, v, q, false, 0) := by
  apply Y.is
  unfold axis_Send.f
  exact Y.bindE (axis_check _ _ _ _ _ _ _ _ h k) (Y.pos rfl (Y.bindS (in_spec _ _ _ _ _ h0 h1) (Y.pos rfl (Y.now rfl))))
theorem AxSt.send {lo hi S a p v g q : Int} (k : AxSt lo hi S a p v g) (h0 : lo ≤ q) (h1 : q ≤ hi) : AxSt lo hi S a p v q := ⟨k.1, k.2.1, h0, h1, k.2.2.2.2⟩
theorem brake_spec (lo hi S a p v g : Int) (t : Bool) (h : AxOk lo hi S a) (k : AxSt lo hi S a p v g) : Eo (fun n => axis_Brake.f n lo hi S a p v g t) (p, v, g, true, 0) := by
  apply Y.is
  unfold axis_Brake.f
  exact Y.bindE (axis_check _ _ _ _ _ _ _ _ h k) (Y.pos rfl (Y.now rfl))
/-- From the last speed v on, with d before it, an axis moves in n more steps, the last of speed V. -/
def Sim (S a : Int) : Nat → Int → Int → Int → Prop
  | 0, v, d, V => d = 0 ∧ V = v
  | n + 1, v, d, V => 0 < d ∧ ∃ F, Fast S a d F ∧ Sim S a n (min (v + a) F) (d - min (v + a) F) V
theorem Sim.uniq {S a : Int} (n : Nat) : ∀ {m : Nat} {v d V W : Int}, Sim S a n v d V → Sim S a m v d W → n = m ∧ V = W := by
  induction n with
  | zero =>
    intro m v d V W h k
    cases m with
    | zero => exact ⟨rfl, h.2.trans k.2.symm⟩
    | succ m =>
      have h1 := h.1
      have k1 := k.1
      omega
  | succ n ih =>
    intro m v d V W h k
    cases m with
    | zero =>
      have h1 := h.1
      have k1 := k.1
      omega
    | succ m =>
      obtain ⟨_, F, hF, hs⟩ := h
      obtain ⟨_, G, hG, ks⟩ := k
      obtain rfl := hF.uniq hG
      obtain ⟨e1, e2⟩ := ih hs ks
      exact ⟨by omega, e2⟩
theorem Sim.far {S a : Int} (n : Nat) : ∀ {v d V : Int}, Sim S a n v d V → d ≤ n * S := by
  induction n with
  | zero =>
    intro v d V h
    have := h.1
    simp
    omega
  | succ n ih =>
    intro v d V h
    obtain ⟨_, F, hF, hs⟩ := h
    have := ih hs
    have f1 := hF.2.1
    have e : ((n + 1 : Nat) : Int) * S = n * S + S := by
      have : ((n + 1 : Nat) : Int) = (n : Int) + 1 := by omega
      rw [this, Int.add_mul]
      omega
    omega
/-- The last speed is one, if there was a step. -/
theorem Sim.last {S a : Int} (hS : 1 ≤ S) (ha : 1 ≤ a) (n : Nat) : ∀ {v d V : Int}, Sim S a n v d V → 0 ≤ v → (0 ≤ V ∧ (1 ≤ n → 1 ≤ V)) := by
  induction n with
  | zero =>
    intro v d V h hv
    have := h.2
    omega
  | succ n ih =>
    intro v d V h hv
    obtain ⟨hd, F, hF, hs⟩ := h
    have hF1 := hF.pos hS ha (by omega)
    obtain ⟨h1, h2⟩ := ih hs (by omega)
    cases n with
    | zero =>
      have := hs.2
      omega
    | succ n => exact ⟨h1, fun _ => h2 (by omega)⟩
theorem endOf_neg (a p v : Int) (ha : 0 ≤ a) : endOf a (-p) (-v) = -endOf a p v := by
  unfold endOf
  by_cases c : v < 0
  · rw [if_pos c, if_neg (by omega)]
    omega
  · rw [if_neg c]
    by_cases c2 : 0 < v
    · rw [if_pos (by omega), show -(-v) - a = v - a by omega]
      omega
    · have : v = 0 := by omega
      subst this
      rw [if_neg (by omega), brk_neg a (-0 - a) (by omega), brk_neg a (0 - a) (by omega)]
      omega
theorem AxSt.neg {lo hi S a p v g : Int} (ha : 0 ≤ a) (h : AxSt lo hi S a p v g) : AxSt (-hi) (-lo) S a (-p) (-v) (-g) := by
  obtain ⟨k0, k1, k2, k3, k4, k5, k6, k7⟩ := h
  have e := endOf_neg a p v ha
  exact ⟨by omega, by omega, by omega, by omega, by omega, by omega, by omega, by omega⟩
theorem Next.uniq {S a d v w u : Int} (h : Next S a d v w) (k : Next S a d v u) : w = u := by
  rcases h with ⟨c, e⟩ | ⟨c, F, hF, e⟩
  · rcases k with ⟨c', e'⟩ | ⟨c', G, hG, e'⟩ <;> omega
  · rcases k with ⟨c', e'⟩ | ⟨c', G, hG, e'⟩
    · omega
    · have := hF.uniq hG
      subst this
      omega
/-- With nothing ahead one brakes. -/
theorem Next.none {S a v w : Int} (ha : 1 ≤ a) (h : Next S a 0 v w) : w = if 0 < v then max (v - a) 0 else min (v + a) 0 := by
  rcases h with ⟨c, e⟩ | ⟨c, F, hF, e⟩
  · rw [if_neg (by omega)]
    exact e
  · have hF0 : F = 0 := by
      have := brk_ge a F
      have h1 := hF.1
      have h2 := hF.2.2.1
      omega
    subst hF0
    split <;> omega
theorem StepTo.neg {S a p v g : Int} {t : Bool} {r r' : Int × Int × Int × Bool} (ha : 1 ≤ a) (h : StepTo S a p v g t r) (k : StepTo S a (-p) (-v) (-g) t r') : r' = (-r.1, -r.2.1, -r.2.2.1, r.2.2.2) := by
  obtain ⟨p1, v1, g1, t1⟩ := r
  obtain ⟨p2, v2, g2, t2⟩ := r'
  obtain ⟨e1, h⟩ := h
  obtain ⟨e2, k⟩ := k
  dsimp only at e1 e2 h k ⊢
  have key : v2 = -v1 ∧ g2 = -g1 ∧ t2 = t1 := by
    rcases h with ⟨ht, hv, hg⟩ | ⟨ht, hg, ht1, hn⟩
    · rcases k with ⟨kt, kv, kg⟩ | ⟨kt, _⟩
      · have hvv : v2 = -v1 := by
          rw [hv, kv]
          split <;> split <;> omega
        rcases hg with ⟨c, e3, e4⟩ | ⟨c, e3, e4⟩
        · rcases kg with ⟨c', e5, e6⟩ | ⟨c', e5, e6⟩
          · exact ⟨hvv, by omega, by rw [e6, e4]⟩
          · omega
        · rcases kg with ⟨c', e5, e6⟩ | ⟨c', e5, e6⟩
          · omega
          · exact ⟨hvv, by omega, by rw [e6, e4]⟩
      · rw [ht] at kt
        cases kt
    · rcases k with ⟨kt, _⟩ | ⟨kt, kg, kt1, kn⟩
      · rw [ht] at kt
        cases kt
      · refine ⟨?_, by omega, by rw [kt1, ht1]⟩
        rcases hn with ⟨c, n⟩ | ⟨c, n⟩
        · rcases kn with ⟨c', n'⟩ | ⟨c', n'⟩
          · have hgp : g = p := by omega
            subst hgp
            rw [show g - g = (0 : Int) by omega] at n
            rw [show -g - -g = (0 : Int) by omega] at n'
            have h1 := n.none ha
            have h2 := n'.none ha
            rw [h1, h2]
            split <;> split <;> omega
          · rw [show -p - -g = g - p by omega, show -(-v) = v by omega] at n'
            have := n.uniq n'
            omega
        · rcases kn with ⟨c', n'⟩ | ⟨c', n'⟩
          · rw [show -g - -p = p - g by omega] at n'
            have := n.uniq n'
            omega
          · omega
  obtain ⟨k1, k2, k3⟩ := key
  rw [k1, k2, k3, e1, e2, k1, show -p + -v1 = -(p + v1) by omega]
theorem AxOk.neg {lo hi S a : Int} (h : AxOk lo hi S a) : AxOk (-hi) (-lo) S a := by
  unfold AxOk at *
  omega
theorem StepTo.uniq {S a p v g : Int} {t : Bool} {r r' : Int × Int × Int × Bool} (ha : 1 ≤ a) (h : StepTo S a p v g t r) (k : StepTo S a p v g t r') : r' = r := by
  obtain ⟨p1, v1, g1, t1⟩ := r
  obtain ⟨p2, v2, g2, t2⟩ := r'
  obtain ⟨e1, h⟩ := h
  obtain ⟨e2, k⟩ := k
  dsimp only at e1 e2 h k ⊢
  have key : v2 = v1 ∧ g2 = g1 ∧ t2 = t1 := by
    rcases h with ⟨ht, hv, hg⟩ | ⟨ht, hg, ht1, hn⟩
    · rcases k with ⟨kt, kv, kg⟩ | ⟨kt, _⟩
      · have hvv : v2 = v1 := by rw [hv, kv]
        rcases hg with ⟨c, e3, e4⟩ | ⟨c, e3, e4⟩
        · rcases kg with ⟨c', e5, e6⟩ | ⟨c', e5, e6⟩
          · exact ⟨hvv, by omega, by rw [e6, e4]⟩
          · omega
        · rcases kg with ⟨c', e5, e6⟩ | ⟨c', e5, e6⟩
          · omega
          · exact ⟨hvv, by omega, by rw [e6, e4]⟩
      · rw [ht] at kt
        cases kt
    · rcases k with ⟨kt, _⟩ | ⟨kt, kg, kt1, kn⟩
      · rw [ht] at kt
        cases kt
      · refine ⟨?_, by omega, by rw [kt1, ht1]⟩
        rcases hn with ⟨c, n⟩ | ⟨c, n⟩
        · rcases kn with ⟨c', n'⟩ | ⟨c', n'⟩
          · exact n'.uniq n
          · omega
        · rcases kn with ⟨c', n'⟩ | ⟨c', n'⟩
          · omega
          · have := n'.uniq n
            omega
  obtain ⟨k1, k2, k3⟩ := key
  rw [k1, k2, k3, e1, e2, k1]
/-- At rest one stays. -/
theorem StepTo.rest {S a q : Int} {r : Int × Int × Int × Bool} (ha : 1 ≤ a) (h : StepTo S a q 0 q false r) : r = (q, 0, q, false) := by
  obtain ⟨p1, v1, g1, t1⟩ := r
  obtain ⟨e1, h⟩ := h
  dsimp only at e1 h ⊢
  rcases h with ⟨h, _⟩ | ⟨_, hg, ht, hn⟩
  · cases h
  · have hv : v1 = 0 := by
      rcases hn with ⟨_, n⟩ | ⟨c, _⟩
      · rw [show q - q = (0 : Int) by omega] at n
        have := n.none ha
        rw [this]
        split <;> omega
      · omega
    subst hv hg ht
    have : p1 = g1 := by omega
    rw [this]
/-- Does an axis rest? -/
def rests (s : Int × Int × Int × Bool) : Bool := s.2.1 == 0 && (s.1 == s.2.2.1 && !s.2.2.2)
theorem resting_spec (p v g : Int) (t : Bool) : axis_Resting.f p v g t = some (v == 0 && (p == g && !t)) := by
  unfold axis_Resting.f
  by_cases c : v = 0
  · rw [if_pos c]
    by_cases c2 : p = g
    · rw [if_pos c2]
      simp [c, c2]
    · rw [if_neg c2]
      simp [c, c2]
  · rw [if_neg c]
    simp [c]
/-- The modes and what they ask. -/
def ModeOk (pa pb p v g : Int) (t : Bool) (p2 v2 g2 : Int) (t2 : Bool) (m : Int) : Prop :=
  (m = 0 ∧ p = pa ∧ v = 0 ∧ g = pa ∧ t = false ∧ p2 = pb ∧ v2 = 0 ∧ g2 = pb ∧ t2 = false) ∨
  (m = 1 ∧ rests (p, v, g, t) = true ∧ rests (p2, v2, g2, t2) = true) ∨
  (m = 5 ∧ (t = true ∨ rests (p, v, g, t) = true) ∧ (t2 = true ∨ rests (p2, v2, g2, t2) = true)) ∨
  ((m = 2 ∨ m = 3) ∧ t = false ∧ t2 = false) ∨
  (m = 4 ∧ t = false ∧ t2 = false ∧ g = pa ∧ g2 = pb)
theorem rests_of {p v g : Int} {t : Bool} (h : rests (p, v, g, t) = true) : v = 0 ∧ p = g ∧ t = false := by
  simpa [rests] using h
theorem resting_eq (p v g : Int) (t : Bool) : axis_Resting.f p v g t = some (rests (p, v, g, t)) := resting_spec p v g t
section mt
variable {lo hi S a lo2 hi2 S2 a2 pa pb : Int} (hM : MtOk lo hi S a lo2 hi2 S2 a2 pa pb)
include hM
theorem mount_check (p v g : Int) (t : Bool) (p2 v2 g2 : Int) (t2 : Bool) (m : Int) (h : AxSt lo hi S a p v g) (h2 : AxSt lo2 hi2 S2 a2 p2 v2 g2) (hm : ModeOk pa pb p v g t p2 v2 g2 t2 m) :
    Eo (fun k => mount_Check.f k lo hi S a lo2 hi2 S2 a2 pa pb p v g t p2 v2 g2 t2 m) 0 := by
  have hcm := check_mount _ _ _ _ _ _ _ _ _ _ hM
  obtain ⟨hA, hB, _⟩ := hM
  apply Y.is
  unfold mount_Check.f
  have hm0 : 0 ≤ m ∧ m ≤ 5 := by
    rcases hm with h | h | h | h | h <;> omega
  refine Y.bindE hcm (Y.pos rfl (Y.bindE (axis_check _ _ _ _ p v g t hA h) (Y.pos rfl (Y.bindE (axis_check _ _ _ _ p2 v2 g2 t2 hB h2) (Y.pos rfl (Y.neg (by omega) ?_))))))
  refine Y.step (fun n => mount_Check.j0.eq_2 _ _ _ _ _ _ _ _ _ _ _ _ _ _ _ _ _ _ _ _ _) (Y.neg (by simp; omega) ?_)
  rcases hm with ⟨e, e1, e2, e3, e4, e5, e6, e7, e8⟩ | ⟨e, e1, e2⟩ | ⟨e, e1, e2⟩ | ⟨e, e1, e2⟩ | ⟨e, e1, e2, e3, e4⟩
  · refine Y.pos e (Y.bindS (show mount_Rest.f lo hi S a lo2 hi2 S2 a2 pa pb = some (pa, 0, pa, false, pb, 0, pb, false, 0) from rfl) (Y.pos ?_ (Y.now rfl)))
    simp [e, e1, e2, e3, e4, e5, e6, e7, e8]
  · refine Y.neg (by omega) (Y.pos e (Y.bindS (resting_eq p v g t) (Y.pos e1 (Y.bindS (resting_eq p2 v2 g2 t2) (Y.pos e2 (Y.now rfl))))))
  · refine Y.neg (by omega) (Y.neg (by omega) (Y.pos e (Y.ite (fun c => ?_) (fun c => ?_))))
    · refine Y.ite (fun _ => Y.now rfl) (fun c2 => ?_)
      rcases e2 with e2 | e2
      · exact absurd e2 c2
      · exact Y.bindS (resting_eq p2 v2 g2 t2) (Y.pos e2 (Y.now rfl))
    · rcases e1 with e1 | e1
      · exact absurd e1 c
      · refine Y.bindS (resting_eq p v g t) (Y.pos e1 (Y.ite (fun _ => Y.now rfl) (fun c2 => ?_)))
        rcases e2 with e2 | e2
        · exact absurd e2 c2
        · exact Y.bindS (resting_eq p2 v2 g2 t2) (Y.pos e2 (Y.now rfl))
  · refine Y.neg (by omega) (Y.neg (by omega) (Y.neg (by omega) (Y.neg (by simp [e1]) (Y.neg (by simp [e2]) (Y.neg (by omega) (Y.now rfl))))))
  · refine Y.neg (by omega) (Y.neg (by omega) (Y.neg (by omega) (Y.neg (by simp [e1]) (Y.neg (by simp [e2]) (Y.pos e (Y.pos e3 (Y.pos e4 (Y.now rfl))))))))
/-- The mode behind a step. -/
def modeTo (m : Int) (b : Bool) : Int := if b = true then (if m = 2 then 3 else if m = 4 then 0 else if m = 5 then 1 else m) else m
omit hM in
theorem mount_tail2 (p v g : Int) (t : Bool) (p2 v2 g2 : Int) (t2 : Bool) (m : Int) (b : Bool) : Eo (fun k => mount_Step.j0 k (!b) p v g t p2 v2 g2 t2 m) (p, v, g, t, p2, v2, g2, t2, modeTo m b) := by
  apply Y.is
  refine Y.step (fun n => mount_Step.j0.eq_2 _ _ _ _ _ _ _ _ _ _ _) ?_
  unfold modeTo
  cases b with
  | false => exact Y.pos rfl (Y.now rfl)
  | true =>
    refine Y.neg (by simp) (Y.ite (fun c => Y.now ?_) (fun c => Y.ite (fun c2 => Y.now ?_) (fun c2 => Y.ite (fun c3 => Y.now ?_) (fun c3 => Y.now ?_))))
    · rw [if_pos rfl, if_pos c]
    · rw [if_pos rfl, if_neg c, if_pos c2]
    · rw [if_pos rfl, if_neg c, if_neg c2, if_pos c3]
    · rw [if_pos rfl, if_neg c, if_neg c2, if_neg c3]
theorem mount_step (p v g : Int) (t : Bool) (p2 v2 g2 : Int) (t2 : Bool) (m : Int) (h : AxSt lo hi S a p v g) (h2 : AxSt lo2 hi2 S2 a2 p2 v2 g2) (hm : ModeOk pa pb p v g t p2 v2 g2 t2 m) :
    Y (fun k => mount_Step.f k lo hi S a lo2 hi2 S2 a2 pa pb p v g t p2 v2 g2 t2 m) (fun r => ∃ q q2, StepTo S a p v g t q ∧ StepTo S2 a2 p2 v2 g2 t2 q2 ∧ r = (q.1, q.2.1, q.2.2.1, q.2.2.2, q2.1, q2.2.1, q2.2.2.1, q2.2.2.2, modeTo m (rests q && rests q2))) := by
  have hck := mount_check hM p v g t p2 v2 g2 t2 m h h2 hm
  obtain ⟨hA, hB, _⟩ := hM
  unfold mount_Step.f
  refine Y.bindE hck (Y.pos rfl (Y.bind _ (step_axis _ _ _ _ p v g t hA h) (fun q hq => Y.bind _ (step_axis _ _ _ _ p2 v2 g2 t2 hB h2) (fun q2 hq2 => ?_))))
  refine Y.bindS (resting_eq q.1 q.2.1 q.2.2.1 q.2.2.2) (Y.ite (fun c => ?_) (fun c => ?_))
  · refine Y.bindS (resting_eq q2.1 q2.2.1 q2.2.2.1 q2.2.2.2) ?_
    refine Y.ev (mount_tail2 _ _ _ _ _ _ _ _ m _) ⟨q, q2, hq, hq2, ?_⟩
    rw [show rests q = true from c]
    simp
  · have hf : rests q = false := by simpa using c
    refine Y.ev (mount_tail2 _ _ _ _ _ _ _ _ m false) ⟨q, q2, hq, hq2, ?_⟩
    rw [hf]
    simp
omit hM in
theorem StepTo.rested {S a p v g : Int} {t : Bool} {r : Int × Int × Int × Bool} (ha : 1 ≤ a) (h : StepTo S a p v g t r) (k : rests (p, v, g, t) = true) : r = (p, v, g, t) ∧ rests r = true := by
  obtain ⟨rfl, rfl, rfl⟩ := rests_of k
  have := h.rest ha
  rw [this]
  exact ⟨rfl, k⟩
omit hM in
theorem StepTo.halting {S a p v g : Int} {r : Int × Int × Int × Bool} (h : StepTo S a p v g true r) : r.2.2.2 = true ∨ rests r = true := by
  obtain ⟨p', v', g', t'⟩ := r
  obtain ⟨e1, h⟩ := h
  dsimp only at e1 h ⊢
  rcases h with ⟨_, _, h⟩ | ⟨h, _⟩
  · rcases h with ⟨c, e2, e3⟩ | ⟨_, _, e3⟩
    · right
      simp [rests, c, e3]
      omega
    · exact .inl e3
  · cases h
omit hM in
theorem StepTo.going {S a p v g : Int} {r : Int × Int × Int × Bool} (h : StepTo S a p v g false r) : r.2.2.2 = false ∧ r.2.2.1 = g := by
  rcases h.2 with ⟨h, _⟩ | ⟨_, e1, e2, _⟩
  · cases h
  · exact ⟨e2, e1⟩
omit hM in
theorem mode_keeps {S a S2 a2 pa pb p v g p2 v2 g2 m : Int} {t t2 : Bool} {q q2 : Int × Int × Int × Bool} (ha : 1 ≤ a) (ha2 : 1 ≤ a2) (hm : ModeOk pa pb p v g t p2 v2 g2 t2 m) (hq : StepTo S a p v g t q) (hq2 : StepTo S2 a2 p2 v2 g2 t2 q2) :
    ModeOk pa pb q.1 q.2.1 q.2.2.1 q.2.2.2 q2.1 q2.2.1 q2.2.2.1 q2.2.2.2 (modeTo m (rests q && rests q2)) := by
  rcases hm with ⟨e, e1, e2, e3, e4, e5, e6, e7, e8⟩ | ⟨e, e1, e2⟩ | ⟨e, e1, e2⟩ | ⟨e, e1, e2⟩ | ⟨e, e1, e2, e3, e4⟩
  · subst e1 e2 e3 e4 e5 e6 e7 e8
    have h1 := hq.rest ha
    have h2 := hq2.rest ha2
    subst h1 h2
    left
    subst e
    exact ⟨by simp [modeTo, rests], rfl, rfl, rfl, rfl, rfl, rfl, rfl, rfl⟩
  · obtain ⟨h1, h3⟩ := hq.rested ha e1
    obtain ⟨h2, h4⟩ := hq2.rested ha2 e2
    right; left
    subst e
    exact ⟨by rw [h3, h4]; rfl, h3, h4⟩
  · have h1 : q.2.2.2 = true ∨ rests q = true := by
      rcases e1 with e1 | e1
      · subst e1
        exact hq.halting
      · exact .inr (hq.rested ha e1).2
    have h2 : q2.2.2.2 = true ∨ rests q2 = true := by
      rcases e2 with e2 | e2
      · subst e2
        exact hq2.halting
      · exact .inr (hq2.rested ha2 e2).2
    right
    subst e
    by_cases c : (rests q && rests q2) = true
    · left
      have c' : rests q = true ∧ rests q2 = true := by simpa using c
      exact ⟨by rw [c]; rfl, c'.1, c'.2⟩
    · right; left
      exact ⟨by rw [Bool.not_eq_true] at c; rw [c]; rfl, h1, h2⟩
  · subst e1 e2
    have h1 := hq.going
    have h2 := hq2.going
    right; right; right; left
    refine ⟨?_, h1.1, h2.1⟩
    unfold modeTo
    rcases e with e | e <;> subst e <;> split <;> simp
  · subst e1 e2 e3 e4
    have h1 := hq.going
    have h2 := hq2.going
    subst e
    by_cases c : (rests q && rests q2) = true
    · left
      have c' : rests q = true ∧ rests q2 = true := by simpa using c
      obtain ⟨r1, r2, r3⟩ := rests_of c'.1
      obtain ⟨s1, s2, s3⟩ := rests_of c'.2
      exact ⟨by rw [c]; rfl, by rw [r2]; exact h1.2, r1, h1.2, r3, by rw [s2]; exact h2.2, s1, h2.2, s3⟩
    · right; right; right; right
      exact ⟨by rw [Bool.not_eq_true] at c; rw [c]; rfl, h1.1, h2.1, h1.2, h2.2⟩
theorem goto_spec (p v g : Int) (t : Bool) (p2 v2 g2 : Int) (t2 : Bool) (m x y : Int) (h : AxSt lo hi S a p v g) (h2 : AxSt lo2 hi2 S2 a2 p2 v2 g2) (hm : ModeOk pa pb p v g t p2 v2 g2 t2 m) (hx0 : lo ≤ x) (hx1 : x ≤ hi) (hy0 : lo2 ≤ y) (hy1 : y ≤ hi2) :
    Eo (fun k => mount_Goto.f k lo hi S a lo2 hi2 S2 a2 pa pb p v g t p2 v2 g2 t2 m x y) (if m = 5 then (0, 0, 0, false, 0, 0, 0, false, 0, 10) else (p, v, x, false, p2, v2, y, false, 2, 0)) := by
  have hck := mount_check hM p v g t p2 v2 g2 t2 m h h2 hm
  obtain ⟨hA, hB, _⟩ := hM
  apply Y.is
  unfold mount_Goto.f
  refine Y.bindE hck (Y.pos rfl (Y.ite (fun c => ?_) (fun c => ?_)))
  · rw [if_pos c]
    exact Y.now rfl
  · rw [if_neg c]
    unfold mount_send.f
    refine Y.bind (fun r => r = (p, v, x, false, p2, v2, y, false, 2, 0)) ?_ ?_
    · exact Y.bindE (send_spec _ _ _ _ p v g x t hA h hx0 hx1) (Y.pos rfl (Y.bindE (send_spec _ _ _ _ p2 v2 g2 y t2 hB h2 hy0 hy1) (Y.pos rfl (Y.now rfl))))
    · rintro r rfl
      exact Y.now rfl
theorem park_spec (p v g : Int) (t : Bool) (p2 v2 g2 : Int) (t2 : Bool) (m : Int) (h : AxSt lo hi S a p v g) (h2 : AxSt lo2 hi2 S2 a2 p2 v2 g2) (hm : ModeOk pa pb p v g t p2 v2 g2 t2 m) :
    Eo (fun k => mount_Park.f k lo hi S a lo2 hi2 S2 a2 pa pb p v g t p2 v2 g2 t2 m) (if m = 5 then (0, 0, 0, false, 0, 0, 0, false, 0, 10) else (p, v, pa, false, p2, v2, pb, false, 4, 0)) := by
  have hck := mount_check hM p v g t p2 v2 g2 t2 m h h2 hm
  obtain ⟨hA, hB, hx0, hx1, hy0, hy1⟩ := hM
  apply Y.is
  unfold mount_Park.f
  refine Y.bindE hck (Y.pos rfl (Y.ite (fun c => ?_) (fun c => ?_)))
  · rw [if_pos c]
    exact Y.now rfl
  · rw [if_neg c]
    unfold mount_send.f
    refine Y.bind (fun r => r = (p, v, pa, false, p2, v2, pb, false, 4, 0)) ?_ ?_
    · exact Y.bindE (send_spec _ _ _ _ p v g pa t hA h hx0 hx1) (Y.pos rfl (Y.bindE (send_spec _ _ _ _ p2 v2 g2 pb t2 hB h2 hy0 hy1) (Y.pos rfl (Y.now rfl))))
    · rintro r rfl
      exact Y.now rfl
theorem mstop_spec (p v g : Int) (t : Bool) (p2 v2 g2 : Int) (t2 : Bool) (m : Int) (h : AxSt lo hi S a p v g) (h2 : AxSt lo2 hi2 S2 a2 p2 v2 g2) (hm : ModeOk pa pb p v g t p2 v2 g2 t2 m) :
    Eo (fun k => mount_Stop.f k lo hi S a lo2 hi2 S2 a2 pa pb p v g t p2 v2 g2 t2 m) (if m = 0 then (p, v, g, t, p2, v2, g2, t2, m, 0) else (p, v, g, true, p2, v2, g2, true, 5, 0)) := by
  have hck := mount_check hM p v g t p2 v2 g2 t2 m h h2 hm
  obtain ⟨hA, hB, _⟩ := hM
  apply Y.is
  unfold mount_Stop.f
  refine Y.bindE hck (Y.pos rfl (Y.ite (fun c => ?_) (fun c => ?_)))
  · rw [if_pos c]
    exact Y.now rfl
  · rw [if_neg c]
    exact Y.bindE (brake_spec _ _ _ _ p v g t hA h) (Y.bindE (brake_spec _ _ _ _ p2 v2 g2 t2 hB h2) (Y.now rfl))
omit hM in
theorem in_any (lo hi S a q : Int) : slew_In.f lo hi S a q = some (decide (lo ≤ q ∧ q ≤ hi)) := by
  unfold slew_In.f
  by_cases c : lo ≤ q
  · rw [if_pos c]
    simp [c]
  · rw [if_neg c]
    simp [c]
theorem follow_spec (p v g : Int) (t : Bool) (p2 v2 g2 : Int) (t2 : Bool) (m d : Int) (h : AxSt lo hi S a p v g) (h2 : AxSt lo2 hi2 S2 a2 p2 v2 g2) (hm : ModeOk pa pb p v g t p2 v2 g2 t2 m) (hd0 : -9 ≤ d) (hd1 : d ≤ 9) :
    Eo (fun k => mount_Follow.f k lo hi S a lo2 hi2 S2 a2 pa pb p v g t p2 v2 g2 t2 m (g + d) g2) (if m = 3 then (if lo ≤ g + d ∧ g + d ≤ hi then (p, v, g + d, false, p2, v2, g2, false, 3, 0) else (0, 0, 0, false, 0, 0, 0, false, 0, 4)) else (0, 0, 0, false, 0, 0, 0, false, 0, 10)) := by
  have hck := mount_check hM p v g t p2 v2 g2 t2 m h h2 hm
  obtain ⟨hA, hB, _⟩ := hM
  have a0 := hA.1
  have a1 := hA.2.1
  have b0 := hB.1
  have b1 := hB.2.1
  have hg := h.2.2.1
  have hg' := h.2.2.2.1
  have hg2 := h2.2.2.1
  have hg2' := h2.2.2.2.1
  have far : ∀ x y, -17179869184 ≤ y → y ≤ 17179869184 → y - 9 ≤ x → x ≤ y + 9 → mount_far.f x y = some false := by
    intro x y h0 h1 h2 h3
    unfold mount_far.f
    rw [w64 (x := y + 67108864) (by omega) (by omega), w64 (x := y - 67108864) (by omega) (by omega), if_neg (by omega)]
    simp
    omega
  apply Y.is
  unfold mount_Follow.f
  refine Y.bindE hck (Y.pos rfl (Y.ite (fun c => ?_) (fun c => ?_)))
  · rw [if_pos c]
    refine Y.bindS (far (g + d) g (by omega) (by omega) (by omega) (by omega)) (Y.neg (by simp) (Y.bindS (far g2 g2 (by omega) (by omega) (by omega) (by omega)) (Y.neg (by simp) ?_)))
    unfold mount_send.f
    by_cases hr : lo ≤ g + d ∧ g + d ≤ hi
    · rw [if_pos hr]
      refine Y.bind (fun r => r = (p, v, g + d, false, p2, v2, g2, false, 3, 0)) ?_ ?_
      · exact Y.bindE (send_spec _ _ _ _ p v g (g + d) t hA h hr.1 hr.2) (Y.pos rfl (Y.bindE (send_spec _ _ _ _ p2 v2 g2 g2 t2 hB h2 hg2 hg2') (Y.pos rfl (Y.now rfl))))
      · rintro r rfl
        exact Y.now rfl
    · rw [if_neg hr]
      have hs : Eo (fun n => axis_Send.f n lo hi S a p v g t (g + d)) (0, 0, 0, false, 4) := by
        apply Y.is
        unfold axis_Send.f
        exact Y.bindE (axis_check _ _ _ _ _ _ _ _ hA h) (Y.pos rfl (Y.bindS (in_any _ _ _ _ _) (Y.neg (by simpa using hr) (Y.now rfl))))
      refine Y.bind (fun r => r = (0, 0, 0, false, 0, 0, 0, false, 0, 4)) ?_ ?_
      · exact Y.bindE hs (Y.neg (by simp) (Y.now rfl))
      · rintro r rfl
        exact Y.now rfl
  · rw [if_neg c]
    exact Y.now rfl
end mt
theorem drives_spec : Eo (fun k => spykeep2_drives.f k) true :=
  more_of spykeep2_drives.mono (k := 200) (by decide +kernel)
theorem loop (L : List Int) (lo hi S a lo2 hi2 S2 a2 pa pb : Int) (hM : MtOk lo hi S a lo2 hi2 S2 a2 pa pb) (d : Nat) : ∀ (i at_ p v g : Int) (t : Bool) (p2 v2 g2 : Int) (t2 : Bool) (m : Int), 0 ≤ i → 50 - i = d → 0 ≤ at_ → at_ ≤ 100 + 10 * i → AxSt lo hi S a p v g → AxSt lo2 hi2 S2 a2 p2 v2 g2 → ModeOk pa pb p v g t p2 v2 g2 t2 m →
    Eo (fun k => spykeep2_MountValid.l0 k i L at_ lo hi S a lo2 hi2 S2 a2 pa pb p v g t p2 v2 g2 t2 m) true := by
  have hM' := hM
  obtain ⟨⟨f0, f1, f2, _, _, f5, _⟩, ⟨k0, k1, k2, _, _, k5, _⟩, hpa0, hpa1, hpb0, hpb1⟩ := hM'
  induction d with
  | zero =>
    intro i at_ p v g t p2 v2 g2 t2 m hi0 hd ha hb h h2 hm
    apply Y.is
    refine Y.step (fun n => spykeep2_MountValid.l0.eq_2 _ _ _ _ _ _ _ _ _ _ _ _ _ _ _ _ _ _ _ _ _ _ _) ?_
    exact Y.neg (by omega) (Y.now rfl)
  | succ d ih =>
    intro i at_ p v g t p2 v2 g2 t2 m hi0 hd ha hb h h2 hm
    have hend : ∀ (at_ p v g : Int) (t : Bool) (p2 v2 g2 : Int) (t2 : Bool) (m : Int), 0 ≤ at_ → at_ ≤ 100 + 10 * (i + 1) → AxSt lo hi S a p v g → AxSt lo2 hi2 S2 a2 p2 v2 g2 → ModeOk pa pb p v g t p2 v2 g2 t2 m →
        Eo (fun k => spykeep2_MountValid.j3 k i L at_ lo hi S a lo2 hi2 S2 a2 pa pb p v g t p2 v2 g2 t2 m) true := by
      intro at_ p v g t p2 v2 g2 t2 m ha hb h h2 hm
      apply Y.is
      refine Y.step (fun n => spykeep2_MountValid.j3.eq_2 _ _ _ _ _ _ _ _ _ _ _ _ _ _ _ _ _ _ _ _ _ _ _) ?_
      refine Y.bind _ (mount_step hM p v g t p2 v2 g2 t2 m h h2 hm) ?_
      rintro r ⟨q, q2, hq, hq2, rfl⟩
      have e1 := (step_keeps hM.1 h hq).1
      have e2 := (step_keeps hM.2.1 h2 hq2).1
      have e3 := mode_keeps f5 k5 hm hq hq2
      rw [w64 (x := i + 1) (by omega) (by omega)]
      refine Y.bindE (mount_check hM _ _ _ _ _ _ _ _ _ e1 e2 e3) (Y.pos rfl ?_)
      exact Y.ev (ih (i + 1) at_ _ _ _ _ _ _ _ _ _ (by omega) (by omega) ha hb e1 e2 e3) rfl
    -- a refusal, or a new state
    have hmid : ∀ (at_ e p' v' g' : Int) (t' : Bool) (p2' v2' g2' : Int) (t2' : Bool) (m' : Int), 0 ≤ at_ → at_ ≤ 100 + 10 * (i + 1) → ((e = 10 ∨ e = 4) ∨ (e = 0 ∧ AxSt lo hi S a p' v' g' ∧ AxSt lo2 hi2 S2 a2 p2' v2' g2' ∧ ModeOk pa pb p' v' g' t' p2' v2' g2' t2' m')) →
        Eo (fun k => spykeep2_MountValid.j2 k e i L at_ lo hi S a lo2 hi2 S2 a2 pa pb p v g t p2 v2 g2 t2 m p' v' g' t' p2' v2' g2' t2' m') true := by
      intro at_ e p' v' g' t' p2' v2' g2' t2' m' ha hb he
      have hn := hend at_ p v g t p2 v2 g2 t2 m ha hb h h2 hm
      apply Y.is
      refine Y.step (fun n => spykeep2_MountValid.j2.eq_2 _ _ _ _ _ _ _ _ _ _ _ _ _ _ _ _ _ _ _ _ _ _ _ _ _ _ _ _ _ _ _ _ _) ?_
      rcases he with he | ⟨he, h', h2', hm'⟩
      · refine Y.neg (by omega) (Y.ite (fun _ => Y.ev hn rfl) (fun c => Y.pos (by omega) (Y.ev hn rfl)))
      · exact Y.pos he (Y.ev (hend at_ p' v' g' t' p2' v2' g2' t2' m' ha hb h' h2' hm') rfl)
    have hj : ∀ (at_ r x y : Int) (b : Bool), 0 ≤ at_ → at_ ≤ 100 + 10 * i + 8 → lo ≤ x → x ≤ hi → lo2 ≤ y → y ≤ hi2 →
        Eo (fun k => spykeep2_MountValid.j1 k 0 i r b L at_ lo hi S a lo2 hi2 S2 a2 pa pb p v g t p2 v2 g2 t2 m x y p v g t p2 v2 g2 t2 m) true := by
      intro at_ r x y b ha hb hx0 hx1 hy0 hy1
      apply Y.is
      refine Y.step (fun n => spykeep2_MountValid.j1.eq_2 _ _ _ _ _ _ _ _ _ _ _ _ _ _ _ _ _ _ _ _ _ _ _ _ _ _ _ _ _ _ _ _ _ _ _ _ _) ?_
      refine Y.ite (fun _ => ?_) (fun _ => Y.ite (fun _ => ?_) (fun _ => Y.ite (fun _ => ?_) (fun _ => Y.ite (fun _ => ?_) (fun _ => ?_))))
      · refine Y.bindE (goto_spec hM p v g t p2 v2 g2 t2 m x y h h2 hm hx0 hx1 hy0 hy1) ?_
        by_cases c : m = 5
        · rw [if_pos c]
          exact Y.ev (hmid at_ 10 _ _ _ _ _ _ _ _ _ ha (by omega) (.inl (.inl rfl))) rfl
        · rw [if_neg c]
          exact Y.ev (hmid at_ 0 _ _ _ _ _ _ _ _ _ ha (by omega) (.inr ⟨rfl, h.send hx0 hx1, h2.send hy0 hy1, .inr (.inr (.inr (.inl ⟨.inl rfl, rfl, rfl⟩)))⟩)) rfl
      · refine Y.bindE (park_spec hM p v g t p2 v2 g2 t2 m h h2 hm) ?_
        by_cases c : m = 5
        · rw [if_pos c]
          exact Y.ev (hmid at_ 10 _ _ _ _ _ _ _ _ _ ha (by omega) (.inl (.inl rfl))) rfl
        · rw [if_neg c]
          exact Y.ev (hmid at_ 0 _ _ _ _ _ _ _ _ _ ha (by omega) (.inr ⟨rfl, h.send hpa0 hpa1, h2.send hpb0 hpb1, .inr (.inr (.inr (.inr ⟨rfl, rfl, rfl, rfl, rfl⟩)))⟩)) rfl
      · refine Y.bindE (mstop_spec hM p v g t p2 v2 g2 t2 m h h2 hm) ?_
        by_cases c : m = 0
        · rw [if_pos c]
          exact Y.ev (hmid at_ 0 _ _ _ _ _ _ _ _ _ ha (by omega) (.inr ⟨rfl, h, h2, hm⟩)) rfl
        · rw [if_neg c]
          exact Y.ev (hmid at_ 0 _ _ _ _ _ _ _ _ _ ha (by omega) (.inr ⟨rfl, h, h2, .inr (.inr (.inl ⟨rfl, .inl rfl, .inl rfl⟩))⟩)) rfl
      · refine Y.range L at_ (-9) 9 ha (by omega) (by omega) (by omega) (by omega) (fun d hd0 hd1 => ?_)
        have hg := h.2.2.1
        have hg' := h.2.2.2.1
        dsimp only
        rw [w64 (x := g + d) (by omega) (by omega)]
        refine Y.bindE (follow_spec hM p v g t p2 v2 g2 t2 m d h h2 hm hd0 hd1) ?_
        by_cases c : m = 3
        · rw [if_pos c]
          by_cases c2 : lo ≤ g + d ∧ g + d ≤ hi
          · rw [if_pos c2]
            exact Y.ev (hmid (at_ + 1) 0 _ _ _ _ _ _ _ _ _ (by omega) (by omega) (.inr ⟨rfl, h.send c2.1 c2.2, h2.send h2.2.2.1 h2.2.2.2.1, .inr (.inr (.inr (.inl ⟨.inr rfl, rfl, rfl⟩)))⟩)) rfl
          · rw [if_neg c2]
            exact Y.ev (hmid (at_ + 1) 4 _ _ _ _ _ _ _ _ _ (by omega) (by omega) (.inl (.inr rfl))) rfl
        · rw [if_neg c]
          exact Y.ev (hmid (at_ + 1) 10 _ _ _ _ _ _ _ _ _ (by omega) (by omega) (.inl (.inl rfl))) rfl
      · exact Y.ev (hmid at_ 0 _ _ _ _ _ _ _ _ _ ha (by omega) (.inr ⟨rfl, h, h2, hm⟩)) rfl
    apply Y.is
    refine Y.step (fun n => spykeep2_MountValid.l0.eq_2 _ _ _ _ _ _ _ _ _ _ _ _ _ _ _ _ _ _ _ _ _ _ _) (Y.pos (by omega) ?_)
    refine Y.inside L at_ lo hi S a ha (by omega) f0 f1 f2 (fun x at1 hx0 hx1 b0 b1 => ?_)
    dsimp only
    refine Y.inside L at1 lo2 hi2 S2 a2 (by omega) (by omega) k0 k1 k2 (fun y at2 hy0 hy1 b2 b3 => ?_)
    dsimp only
    refine Y.next L at2 10 (by omega) (by omega) (by omega) (by omega) (fun r _ _ => ?_)
    dsimp only
    refine Y.ite (fun _ => ?_) (fun _ => ?_)
    · exact Y.ev (hj (at2 + 1) _ x y _ (by omega) (by omega) hx0 hx1 hy0 hy1) rfl
    · exact Y.ev (hj (at2 + 1) _ x y _ (by omega) (by omega) hx0 hx1 hy0 hy1) rfl
theorem MountValid : spykeep2_MountValid.Pure := by
  intro L _ _ _
  apply Y.rounds
  unfold spykeep2_MountValid.f
  refine Y.bindE drives_spec (Y.pos rfl ?_)
  refine Y.bind _ (mount_draw L 0 (by omega) (by omega)) ?_
  rintro ⟨lo, hi, S, a, lo2, hi2, S2, a2, pa, pb, at_⟩ ⟨hM, ha0, ha1⟩
  dsimp only at hM ha0 ha1 ⊢
  have hM' := hM
  obtain ⟨⟨f0, f1, f2, _, _, f5, _⟩, ⟨k0, k1, k2, _, _, k5, _⟩, hpa0, hpa1, hpb0, hpb1⟩ := hM'
  refine Y.bindS (show mount_Rest.f lo hi S a lo2 hi2 S2 a2 pa pb = some (pa, 0, pa, false, pb, 0, pb, false, 0) from rfl) ?_
  exact Y.ev (loop L lo hi S a lo2 hi2 S2 a2 pa pb hM 50 0 at_ pa 0 pa false pb 0 pb false 0 (by omega) (by omega) (by omega) (by omega) (rest_ok lo hi S a pa f5 (by omega) hpa0 hpa1) (rest_ok lo2 hi2 S2 a2 pb k5 (by omega) hpb0 hpb1) (.inl ⟨rfl, rfl, rfl, rfl, rfl, rfl, rfl, rfl, rfl⟩)) rfl

end Go.Proofs.Ytfcengfjolljgaa.Pure
