/- The target is the angle's nearest turn within the bounds, and there is none only where no turn of the angle lies within. The conditions are those of the row alone: the list of raw numbers takes at most 2^47 - 4096 bytes, and each number is an int. -/
import Derived.Test.YtmdphfjpocmooaaPSlewNearestx4
set_option linter.unusedVariables false
set_option linter.unusedSimpArgs false
namespace Go.Proofs.Ytmdphfjpocmooaa.Pure
open Go.RowKit Go.Proofs.Ytmdphfjpocmooaa.PSlewNearest Go.Proofs.YtmdphfjpocmooaaW.PrintWords Go.Proofs.YtmdphfjpocmooaaW.PrintLast Go.Proofs.YtmdphfjpocmooaaW.PrintMore

/-- From some number of rounds on. -/
def Eo {α : Type} (g : Nat → Option α) (r : α) : Prop := ∃ K, ∀ k, K ≤ k → g k = some r
theorem Eo.now {α : Type} (r : α) : Eo (fun _ => some r) r := ⟨0, fun _ _ => rfl⟩
theorem Eo.rounds {α : Type} {g : Nat → Option α} {r : α} (h : Eo g r) : ∃ k, g k = some r := by
  obtain ⟨K, h⟩ := h
  exact ⟨K, h K (Nat.le_refl _)⟩
theorem Eo.bind {α β : Type} {g : Nat → Option α} {f : Nat → α → Option β} {a : α} {r : β} (h : Eo g a) (k : Eo (fun n => f n a) r) : Eo (fun n => (g n).bind (f n)) r := by
  obtain ⟨K, h⟩ := h
  obtain ⟨K', k⟩ := k
  refine ⟨max K K', fun n hn => ?_⟩
  have h1 := h n (by omega)
  have h2 := k n (by omega)
  simp only [h1, Option.bind_some]
  exact h2
theorem Eo.step {α : Type} {g f : Nat → Option α} {r : α} (h : ∀ k, g (k + 1) = f k) (k : Eo f r) : Eo g r := by
  obtain ⟨K, k⟩ := k
  refine ⟨K + 1, fun n hn => ?_⟩
  obtain ⟨m, rfl⟩ : ∃ m, n = m + 1 := ⟨n - 1, by omega⟩
  rw [h]
  exact k m (by omega)
theorem more_of {α : Type} {g : Nat → Option α} (h : ∀ k, LeO (g k) (g (k + 1))) {k : Nat} {r : α} (hr : g k = some r) : Eo g r := by
  refine ⟨k, fun n hn => ?_⟩
  obtain ⟨d, rfl⟩ : ∃ d, n = k + d := ⟨n - k, by omega⟩
  induction d with
  | zero => exact hr
  | succ d ih => exact h _ r (ih (by omega))
/-- With enough rounds g comes to a value that meets Q. -/
def Y {α : Type} (g : Nat → Option α) (Q : α → Prop) : Prop := ∃ r, Eo g r ∧ Q r
theorem Y.now {α : Type} {r : α} {Q : α → Prop} (h : Q r) : Y (fun _ => some r) Q := ⟨r, Eo.now r, h⟩
theorem Y.bind {α β : Type} {g : Nat → Option α} {f : Nat → α → Option β} {Q : β → Prop} (P : α → Prop) (h : Y g P) (k : ∀ a, P a → Y (fun n => f n a) Q) : Y (fun n => (g n).bind (f n)) Q := by
  obtain ⟨a, ha, hp⟩ := h
  obtain ⟨r, hr, hq⟩ := k a hp
  exact ⟨r, Eo.bind ha hr, hq⟩
theorem Y.bindE {α β : Type} {g : Nat → Option α} {f : Nat → α → Option β} {Q : β → Prop} {a : α} (h : Eo g a) (k : Y (fun n => f n a) Q) : Y (fun n => (g n).bind (f n)) Q := by
  obtain ⟨r, hr, hq⟩ := k
  exact ⟨r, Eo.bind h hr, hq⟩
theorem Y.bindS {α β : Type} {x : Option α} {f : Nat → α → Option β} {Q : β → Prop} {a : α} (h : x = some a) (k : Y (fun n => f n a) Q) : Y (fun n => x.bind (f n)) Q := by
  subst h
  exact k
theorem Y.pos {α : Type} {c : Prop} [Decidable c] {a b : Nat → Option α} {Q : α → Prop} (hc : c) (h : Y a Q) : Y (fun n => if c then a n else b n) Q := by
  simpa only [if_pos hc] using h
theorem Y.neg {α : Type} {c : Prop} [Decidable c] {a b : Nat → Option α} {Q : α → Prop} (hc : ¬ c) (h : Y b Q) : Y (fun n => if c then a n else b n) Q := by
  simpa only [if_neg hc] using h
theorem Y.ite {α : Type} {c : Prop} [Decidable c] {a b : Nat → Option α} {Q : α → Prop} (h : c → Y a Q) (k : ¬ c → Y b Q) : Y (fun n => if c then a n else b n) Q := by
  by_cases hc : c
  · exact Y.pos hc (h hc)
  · exact Y.neg hc (k hc)
theorem Y.step {α : Type} {g f : Nat → Option α} {Q : α → Prop} (h : ∀ k, g (k + 1) = f k) (k : Y f Q) : Y g Q := by
  obtain ⟨r, hr, hq⟩ := k
  exact ⟨r, Eo.step h hr, hq⟩
theorem Y.mono {α : Type} {g : Nat → Option α} {P Q : α → Prop} (h : Y g P) (k : ∀ r, P r → Q r) : Y g Q := by
  obtain ⟨r, hr, hq⟩ := h
  exact ⟨r, hr, k r hq⟩
theorem Y.is {α : Type} {g : Nat → Option α} {a : α} (h : Y g (fun r => r = a)) : Eo g a := by
  obtain ⟨r, hr, rfl⟩ := h
  exact hr
theorem Y.rounds {α : Type} {g : Nat → Option α} {a : α} (h : Y g (fun r => r = a)) : ∃ k, g k = some a := (Y.is h).rounds
theorem Y.S {α : Type} {x : Option α} {a : α} {Q : α → Prop} (h : x = some a) (q : Q a) : Y (fun _ => x) Q := by
  subst h
  exact Y.now q
/-- An int that fits is as it is. -/
theorem w64 {x : Int} (h0 : -9223372036854775808 ≤ x) (h1 : x ≤ 9223372036854775807) : wrap64 x = x := by
  unfold wrap64
  omega
theorem mx_max (a b : Int) : mx a b = max a b := by
  unfold mx
  split <;> omega
theorem mn_min (a b : Int) : mn a b = min a b := by
  unfold mn
  split <;> omega
theorem tmod_neg_add {x n : Int} (hn : 1 ≤ n) (h : Int.tmod x n < 0) : Int.tmod x n + n = x % n := by
  have h1 : Int.tmod x n = x % n - (if 0 ≤ x ∨ n ∣ x then 0 else Int.natAbs n : Nat) := Int.tmod_eq_emod
  have h2 := Int.emod_nonneg x (b := n) (by omega)
  have h3 : (n.natAbs : Int) = n := by omega
  rw [h1] at h ⊢
  split at h
  · exact absurd h (by omega)
  · rename_i h4
    rw [if_neg h4]
    omega
theorem tmod_of_nonneg {x n : Int} (hn : 1 ≤ n) (h : ¬ Int.tmod x n < 0) : Int.tmod x n = x % n := by
  have h1 : Int.tmod x n = x % n - (if 0 ≤ x ∨ n ∣ x then 0 else Int.natAbs n : Nat) := Int.tmod_eq_emod
  have h2 := Int.emod_lt_of_pos x (b := n) (by omega)
  have h3 : (n.natAbs : Int) = n := by omega
  rw [h1] at h ⊢
  split at h
  · rename_i h4
    rw [if_pos h4]
    omega
  · exact absurd (by omega) h
/-- Below reduces. -/
theorem below_spec (x n : Int) (h1 : 1 ≤ n) (h2 : n ≤ 4611686018427387904) : spymake_Below.f x n = some (x % n) := by
  unfold spymake_Below.f
  rw [if_neg (by omega), if_neg (by omega)]
  by_cases c : Int.tmod x n < 0
  · rw [if_pos c, tmod_neg_add h1 c, w64 (by have := Int.emod_nonneg x (b := n) (by omega); omega) (by have := Int.emod_lt_of_pos x (b := n) (by omega); omega)]
  · rw [if_neg c, tmod_of_nonneg h1 c]
theorem below_range (x n : Int) (h1 : 1 ≤ n) : 0 ≤ x % n ∧ x % n < n := ⟨Int.emod_nonneg x (by omega), Int.emod_lt_of_pos x (by omega)⟩
/-- Next gives a number below n, and counts. -/
theorem next_spec (L : List Int) (at_ n : Int) (ha : 0 ≤ at_) (hb : at_ ≤ 4611686018427387904) (h1 : 1 ≤ n) (h2 : n ≤ 4611686018427387904) :
    ∃ r, spymake_Stream_Next.f L at_ n = some (r, at_ + 1) ∧ 0 ≤ r ∧ r < n := by
  unfold spymake_Stream_Next.f
  rw [w64 (x := at_ + 1) (by omega) (by omega), w64 (x := at_ + 1 - 1) (by omega) (by omega)]
  by_cases c : (L.length : Int) = 0
  · rw [if_pos c, below_spec _ _ h1 h2]
    exact ⟨_, rfl, below_range _ _ h1⟩
  · rw [if_neg c, show at_ + 1 - 1 = at_ by omega]
    have e : Int.tmod at_ (L.length : Int) = at_ % (L.length : Int) := Int.tmod_eq_emod_of_nonneg ha
    have e1 := Int.emod_nonneg at_ (b := (L.length : Int)) c
    have e2 := Int.emod_lt_of_pos at_ (b := (L.length : Int)) (by omega)
    rw [e, if_pos e1, if_pos e2, below_spec _ 1073741824 (by omega) (by omega)]
    simp only [Option.bind_some]
    rw [below_spec _ _ h1 h2]
    exact ⟨_, rfl, below_range _ _ h1⟩
theorem Y.next {β : Type} {f : Nat → Int × Int → Option β} {Q : β → Prop} (L : List Int) (at_ n : Int) (ha : 0 ≤ at_) (hb : at_ ≤ 4611686018427387904) (h1 : 1 ≤ n) (h2 : n ≤ 4611686018427387904)
    (k : ∀ r, 0 ≤ r → r < n → Y (fun m => f m (r, at_ + 1)) Q) : Y (fun m => (spymake_Stream_Next.f L at_ n).bind (f m)) Q := by
  obtain ⟨r, hr, h3, h4⟩ := next_spec L at_ n ha hb h1 h2
  exact Y.bindS hr (k r h3 h4)
/-- Range gives a number from low to high. -/
theorem range_spec (L : List Int) (at_ lo hi : Int) (ha : 0 ≤ at_) (hb : at_ ≤ 4611686018427387904) (h1 : -1152921504606846976 ≤ lo) (h2 : lo ≤ hi) (h3 : hi ≤ 1152921504606846976) :
    ∃ r, spymake_Stream_Range.f L at_ lo hi = some (r, at_ + 1) ∧ lo ≤ r ∧ r ≤ hi := by
  unfold spymake_Stream_Range.f
  rw [if_neg (by omega), w64 (x := hi - lo) (by omega) (by omega), w64 (x := hi - lo + 1) (by omega) (by omega)]
  obtain ⟨r, hr, h4, h5⟩ := next_spec L at_ (hi - lo + 1) ha hb (by omega) (by omega)
  rw [hr]
  simp only [Option.bind_some]
  rw [w64 (x := lo + r) (by omega) (by omega)]
  exact ⟨_, rfl, by omega, by omega⟩
theorem Y.range {β : Type} {f : Nat → Int × Int → Option β} {Q : β → Prop} (L : List Int) (at_ lo hi : Int) (ha : 0 ≤ at_) (hb : at_ ≤ 4611686018427387904) (h1 : -1152921504606846976 ≤ lo) (h2 : lo ≤ hi) (h3 : hi ≤ 1152921504606846976)
    (k : ∀ r, lo ≤ r → r ≤ hi → Y (fun m => f m (r, at_ + 1)) Q) : Y (fun m => (spymake_Stream_Range.f L at_ lo hi).bind (f m)) Q := by
  obtain ⟨r, hr, h4, h5⟩ := range_spec L at_ lo hi ha hb h1 h2 h3
  exact Y.bindS hr (k r h4 h5)
/-- v, and what it takes to brake behind it: v + (v - a) + (v - 2a) + .. -/
def bk (a : Int) : Nat → Int → Int
  | 0, _ => 0
  | n + 1, v => if 0 < v then v + bk a n (v - a) else 0
theorem bk_nonneg (a : Int) (n : Nat) : ∀ v, 0 ≤ bk a n v := by
  induction n with
  | zero => intro v; exact Int.le_refl 0
  | succ n ih =>
    intro v
    have := ih (v - a)
    unfold bk
    split <;> omega
theorem bk_neg (a : Int) (n : Nat) (v : Int) (h : v ≤ 0) : bk a n v = 0 := by
  cases n with
  | zero => rfl
  | succ n =>
    unfold bk
    rw [if_neg (by omega)]
theorem bk_mono (a : Int) (n : Nat) : ∀ v u, v ≤ u → bk a n v ≤ bk a n u := by
  induction n with
  | zero => intro v u _; exact Int.le_refl 0
  | succ n ih =>
    intro v u h
    have h1 := ih (v - a) (u - a) (by omega)
    have h2 := bk_nonneg a n (u - a)
    unfold bk
    split <;> split <;> omega
/-- More terms than there are change nothing. -/
theorem bk_more (a : Int) (n : Nat) : ∀ v, v ≤ n * a → bk a (n + 1) v = bk a n v := by
  induction n with
  | zero =>
    intro v h
    rw [bk_neg a 1 v (by omega), bk_neg a 0 v (by omega)]
  | succ n ih =>
    intro v h
    have e : ((n + 1 : Nat) : Int) * a = n * a + a := by
      have : ((n + 1 : Nat) : Int) = (n : Int) + 1 := by omega
      rw [this, Int.add_mul]
      omega
    have := ih (v - a) (by omega)
    show (if 0 < v then v + bk a (n + 1) (v - a) else 0) = (if 0 < v then v + bk a n (v - a) else 0)
    rw [this]
/-- What it takes to stop: v + (v - a) + .. -/
def brk (a v : Int) : Int := bk a 70 v
theorem brk_neg (a v : Int) (h : v ≤ 0) : brk a v = 0 := bk_neg a 70 v h
theorem brk_mono (a v u : Int) (h : v ≤ u) : brk a v ≤ brk a u := bk_mono a 70 v u h
theorem brk_step (a v : Int) (h : 0 < v) (h2 : v ≤ 70 * a) : brk a v = v + brk a (v - a) := by
  have h1 : bk a 70 v = v + bk a 69 (v - a) := by
    show (if 0 < v then v + bk a 69 (v - a) else 0) = _
    rw [if_pos h]
  have h3 := bk_more a 69 (v - a) (by omega)
  unfold brk
  rw [h1, ← h3]
/-- An axis whose numbers are in order. -/
def AxOk (lo hi S a : Int) : Prop := -17179869184 ≤ lo ∧ hi ≤ 17179869184 ∧ lo ≤ hi ∧ 16777216 ≤ S ∧ S ≤ 1073741824 ∧ 1 ≤ a ∧ a ≤ S ∧ S ≤ a * 64
/-- F is the greatest speed with which the axis can stop within d. -/
def Fast (S a d F : Int) : Prop := 0 ≤ F ∧ F ≤ S ∧ brk a F ≤ d ∧ (F = S ∨ d < brk a (F + 1))
theorem Fast.le {S a d F v : Int} (h : Fast S a d F) (h0 : v ≤ S) (h1 : brk a v ≤ d) : v ≤ F := by
  obtain ⟨f0, f1, f2, f3⟩ := h
  rcases f3 with f3 | f3
  · omega
  · by_cases c : v ≤ F
    · exact c
    · have := brk_mono a (F + 1) v (by omega)
      omega
theorem Fast.pos {S a d F : Int} (h : Fast S a d F) (hS : 1 ≤ S) (ha : 1 ≤ a) (hd : 1 ≤ d) : 1 ≤ F := by
  refine h.le hS ?_
  rw [brk_step a 1 (by omega) (by omega), brk_neg a (1 - a) (by omega)]
  omega
theorem tdiv_nn {a b : Int} (h : 0 ≤ a) : Int.tdiv a b = a / b := Int.tdiv_eq_ediv_of_nonneg h
theorem check_axis (lo hi S a : Int) (h : AxOk lo hi S a) : Eo (fun k => slew_CheckAxis.f k lo hi S a) 0 := by
  obtain ⟨h0, h1, h2, h3, h4, h5, h6, h7⟩ := h
  apply Y.is
  unfold slew_CheckAxis.f
  refine Y.neg (by omega) (Y.step (fun k => slew_CheckAxis.j0.eq_2 _ _ _ _ _ _) ?_)
  rw [w64 (x := a * 64) (by omega) (by omega)]
  exact Y.neg (by simp; omega) (Y.neg (by omega) (Y.neg (by omega) (Y.neg (by omega) (Y.neg (by omega) (Y.neg (by omega) (Y.neg (by omega) (Y.now rfl)))))))
theorem in_spec (lo hi S a p : Int) (h0 : lo ≤ p) (h1 : p ≤ hi) : slew_In.f lo hi S a p = some true := by
  unfold slew_In.f
  rw [if_pos h0, decide_eq_true h1]
theorem shl_spec (r : Int) (h0 : 24 ≤ r) (h1 : r ≤ 30) : 16777216 ≤ shl .i64 1 r ∧ shl .i64 1 r ≤ 1073741824 ∧ (shl .i64 1 r = 16777216 ∨ 33554432 ≤ shl .i64 1 r) := by
  have hc : r = 24 ∨ r = 25 ∨ r = 26 ∨ r = 27 ∨ r = 28 ∨ r = 29 ∨ r = 30 := by omega
  rcases hc with h | h | h | h | h | h | h <;> subst h <;> decide
/-- What Axis gives: an axis in order, of at most three turns. -/
def Axes (at0 at1 : Int) (r : Int × Int × Int × Int × Int) : Prop := AxOk r.1 r.2.1 r.2.2.1 r.2.2.2.1 ∧ at0 ≤ r.2.2.2.2 ∧ r.2.2.2.2 ≤ at1 ∧ -6442450944 ≤ r.1 ∧ r.2.1 ≤ 6442450944 ∧ r.1 ≤ 1048576 ∧ 1072693248 ≤ r.2.1
theorem axis_tail (L : List Int) (S a at_ : Int) (ha : 0 ≤ at_) (hb : at_ ≤ 1152921504606846976) (h3 : 16777216 ≤ S) (h4 : S ≤ 1073741824) (h5 : 1 ≤ a) (h6 : a ≤ S) (h7 : S ≤ a * 64) :
    Y (fun k => spymake_Stream_Axis.j0 k S a L at_) (Axes at_ (at_ + 5)) := by
  refine Y.step (fun k => spymake_Stream_Axis.j0.eq_2 _ _ _ _ _) ?_
  refine Y.range L at_ 0 6 ha (by omega) (by omega) (by omega) (by omega) (fun x hx0 hx1 => ?_)
  refine Y.range L (at_ + 1) 1 6 (by omega) (by omega) (by omega) (by omega) (by omega) (fun y hy0 hy1 => ?_)
  refine Y.next L (at_ + 1 + 1) 4 (by omega) (by omega) (by omega) (by omega) (fun z hz0 hz1 => ?_)
  dsimp only
  rw [w64 (x := -x) (by omega) (by omega), w64 (x := -x * 1073741824) (by omega) (by omega), w64 (x := y * 1073741824) (by omega) (by omega)]
  refine Y.ite (fun _ => ?_) (fun _ => ?_)
  · refine Y.next L (at_ + 1 + 1 + 1) 1048576 (by omega) (by omega) (by omega) (by omega) (fun u hu0 hu1 => ?_)
    refine Y.next L (at_ + 1 + 1 + 1 + 1) 1048576 (by omega) (by omega) (by omega) (by omega) (fun v hv0 hv1 => ?_)
    dsimp only
    rw [w64 (x := -x * 1073741824 + u) (by omega) (by omega), w64 (x := y * 1073741824 - v) (by omega) (by omega)]
    exact Y.now (by unfold Axes AxOk; dsimp only; omega)
  · exact Y.now (by unfold Axes AxOk; dsimp only; omega)
theorem axis_draw (L : List Int) (at_ : Int) (ha : 0 ≤ at_) (hb : at_ ≤ 4611686018427387) : Y (fun k => spymake_Stream_Axis.f k L at_) (Axes at_ (at_ + 10)) := by
  unfold spymake_Stream_Axis.f
  refine Y.range L at_ 24 30 ha (by omega) (by omega) (by omega) (by omega) (fun r hr0 hr1 => ?_)
  obtain ⟨s0, s1, s2⟩ := shl_spec r hr0 hr1
  dsimp only
  generalize shl .i64 1 r = S at s0 s1 s2 ⊢
  refine Y.pos (by omega) (Y.range L (at_ + 1) 1 8 (by omega) (by omega) (by omega) (by omega) (by omega) (fun q hq0 hq1 => ?_))
  dsimp only
  have hd : 1 ≤ S / q ∧ S / q ≤ S ∧ S ≤ S / q * 60 := by
    have hc : q = 1 ∨ q = 2 ∨ q = 3 ∨ q = 4 ∨ q = 5 ∨ q = 6 ∨ q = 7 ∨ q = 8 := by omega
    rcases hc with h | h | h | h | h | h | h | h <;> subst h <;> omega
  rw [tdiv_nn (a := S) (by omega), w64 (x := S / q) (by omega) (by omega)]
  generalize S / q = a at hd ⊢
  refine Y.neg (by omega) (Y.next L (at_ + 1 + 1) 3 (by omega) (by omega) (by omega) (by omega) (fun c hc0 hc1 => ?_))
  refine Y.ite (fun _ => ?_) (fun _ => ?_)
  · refine Y.next L (at_ + 1 + 1 + 1) 1000 (by omega) (by omega) (by omega) (by omega) (fun x hx0 hx1 => ?_)
    refine Y.next L (at_ + 1 + 1 + 1 + 1) 1000 (by omega) (by omega) (by omega) (by omega) (fun y hy0 hy1 => ?_)
    dsimp only
    rw [w64 (x := S - 16777216) (by omega) (by omega), mn_min, mn_min]
    have hm : (S = 16777216 ∧ min 1 ((S - 16777216) / 1024) = 0) ∨ (33554432 ≤ S ∧ min 1 ((S - 16777216) / 1024) = 1) := by omega
    generalize min 1 ((S - 16777216) / 1024) = m at hm ⊢
    have hxm : x * m = 0 ∨ (33554432 ≤ S ∧ x * m = x) := by
      rcases hm with ⟨_, h⟩ | ⟨h1, h⟩
      · left
        rw [h]
        omega
      · right
        rw [h]
        omega
    generalize x * m = xm at hxm ⊢
    rw [w64 (x := xm) (by omega) (by omega), w64 (x := S - xm) (by omega) (by omega), w64 (x := a + y) (by omega) (by omega)]
    refine (axis_tail L (S - xm) (min (a + y) (S - xm)) (at_ + 1 + 1 + 1 + 1 + 1) (by omega) (by omega) (by omega) (by omega) (by omega) (by omega) (by omega)).mono ?_
    rintro r ⟨e1, e2, e3, e4⟩
    exact ⟨e1, by omega, by omega, e4⟩
  · refine (axis_tail L S a (at_ + 1 + 1 + 1) (by omega) (by omega) (by omega) (by omega) (by omega) (by omega) (by omega)).mono ?_
    rintro r ⟨e1, e2, e3, e4⟩
    exact ⟨e1, by omega, by omega, e4⟩
theorem inside_spec (L : List Int) (at_ lo hi S a : Int) (ha : 0 ≤ at_) (hb : at_ ≤ 4611686018427387) (h0 : -17179869184 ≤ lo) (h1 : hi ≤ 17179869184) (h2 : lo ≤ hi) :
    ∃ p q, spymake_Stream_Inside.f L at_ lo hi S a = some (p, q) ∧ lo ≤ p ∧ p ≤ hi ∧ at_ ≤ q ∧ q ≤ at_ + 3 := by
  unfold spymake_Stream_Inside.f
  obtain ⟨r, hr, r0, r1⟩ := next_spec L at_ 6 ha (by omega) (by omega) (by omega)
  rw [hr]
  simp only [Option.bind_some]
  by_cases c : r = 0
  · rw [if_pos c]
    exact ⟨_, _, rfl, by omega, by omega, by omega, by omega⟩
  · rw [if_neg c]
    by_cases c1 : r = 1
    · rw [if_pos c1]
      exact ⟨_, _, rfl, by omega, by omega, by omega, by omega⟩
    · rw [if_neg c1]
      obtain ⟨x, hx, x0, x1⟩ := next_spec L (at_ + 1) 1000 (by omega) (by omega) (by omega) (by omega)
      rw [hx]
      simp only [Option.bind_some]
      rw [w64 (x := hi - lo) (by omega) (by omega), tdiv_nn (a := hi - lo) (by omega), w64 (x := (hi - lo) / 1000) (by omega) (by omega), w64 (x := (hi - lo) / 1000 + 1) (by omega) (by omega)]
      obtain ⟨y, hy, y0, y1⟩ := next_spec L (at_ + 1 + 1) ((hi - lo) / 1000 + 1) (by omega) (by omega) (by omega) (by omega)
      rw [hy]
      simp only [Option.bind_some]
      have hs : 0 ≤ (hi - lo) / 1000 ∧ (hi - lo) / 1000 * 1000 ≤ hi - lo := by omega
      generalize (hi - lo) / 1000 = s at hs y1 ⊢
      have m0 : 0 ≤ s * x := Int.mul_nonneg hs.1 x0
      have m1 : s * x ≤ s * 999 := Int.mul_le_mul_of_nonneg_left (by omega) hs.1
      rw [w64 (x := s * x) (by omega) (by omega), w64 (x := lo + s * x) (by omega) (by omega), w64 (x := lo + s * x + y) (by omega) (by omega)]
      exact ⟨_, _, rfl, by omega, by omega, by omega, by omega⟩
theorem Y.inside {β : Type} {f : Nat → Int × Int → Option β} {Q : β → Prop} (L : List Int) (at_ lo hi S a : Int) (ha : 0 ≤ at_) (hb : at_ ≤ 4611686018427387) (h0 : -17179869184 ≤ lo) (h1 : hi ≤ 17179869184) (h2 : lo ≤ hi)
    (k : ∀ p q, lo ≤ p → p ≤ hi → at_ ≤ q → q ≤ at_ + 3 → Y (fun m => f m (p, q)) Q) : Y (fun m => (spymake_Stream_Inside.f L at_ lo hi S a).bind (f m)) Q := by
  obtain ⟨p, q, h, h3, h4, h5, h6⟩ := inside_spec L at_ lo hi S a ha hb h0 h1 h2
  exact Y.bindS h (k p q h3 h4 h5 h6)
theorem slews_spec : Eo (fun k => spykeep2_slews.f k) true :=
  more_of spykeep2_slews.mono (k := 200) (by decide +kernel)
theorem mod_spec (x : Int) (h0 : -9223372036854775808 ≤ x) (h1 : x ≤ 9223372036854775807) : slew_mod.f x = some (x % 4294967296) := by
  unfold slew_mod.f
  by_cases c : Int.tmod x 4294967296 < 0
  · rw [if_pos c, tmod_neg_add (by omega) c, w64 (by omega) (by omega)]
  · rw [if_neg c, tmod_of_nonneg (by omega) c]
theorem abs_spec (x : Int) (h0 : -9223372036854775807 ≤ x) (h1 : x ≤ 9223372036854775807) : slew_abs.f x = some (max x (-x)) := by
  unfold slew_abs.f
  rw [w64 (x := -x) (by omega) (by omega), mx_max]
/-- What Target gives. -/
def Aims (lo hi from_ angle : Int) (r : Int × Int) : Prop :=
  (r.2 = 4 ∧ r.1 = 0 ∧ ∀ q, lo ≤ q → q ≤ hi → q % 4294967296 ≠ angle % 4294967296) ∨
  (r.2 = 0 ∧ lo ≤ r.1 ∧ r.1 ≤ hi ∧ r.1 % 4294967296 = angle % 4294967296 ∧ ∀ q, lo ≤ q → q ≤ hi → q % 4294967296 = angle % 4294967296 → max (r.1 - from_) (-(r.1 - from_)) ≤ max (q - from_) (-(q - from_)))
theorem target_loop (lo hi S a from_ angle : Int) (h0 : -17179869184 ≤ lo) (h1 : hi ≤ 17179869184) (h2 : lo ≤ hi) (hf0 : lo ≤ from_) (hf1 : from_ ≤ hi) (d : Nat) : ∀ (p best : Int), lo ≤ p → p ≤ 34359738368 → hi - p < (d : Int) * 4294967296 → p % 4294967296 = angle % 4294967296 → lo ≤ best → best ≤ hi → best % 4294967296 = angle % 4294967296 →
    (∀ q, lo ≤ q → q < p → q % 4294967296 = angle % 4294967296 → max (best - from_) (-(best - from_)) ≤ max (q - from_) (-(q - from_))) →
    Y (fun k => slew_Target.l0 k from_ p best lo hi S a) (Aims lo hi from_ angle) := by
  induction d with
  | zero =>
    intro p best hp0 hp1 hd hpm hb0 hb1 hbm hall
    refine Y.step (fun k => slew_Target.l0.eq_2 _ _ _ _ _ _ _ _) ?_
    have hd' : hi - p < 0 := by simpa using hd
    refine Y.neg (by omega) (Y.now (.inr ⟨rfl, hb0, hb1, hbm, ?_⟩))
    intro q hq0 hq1 hqm
    exact hall q hq0 (by omega) hqm
  | succ d ih =>
    intro p best hp0 hp1 hd hpm hb0 hb1 hbm hall
    refine Y.step (fun k => slew_Target.l0.eq_2 _ _ _ _ _ _ _ _) ?_
    by_cases c : p ≤ hi
    · refine Y.pos c ?_
      have e : ((d + 1 : Nat) : Int) * 4294967296 = d * 4294967296 + 4294967296 := by omega
      rw [w64 (x := p - from_) (by omega) (by omega), w64 (x := best - from_) (by omega) (by omega), abs_spec (p - from_) (by omega) (by omega), abs_spec (best - from_) (by omega) (by omega), w64 (x := p + 4294967296) (by omega) (by omega)]
      simp only [Option.bind_some]
      refine Y.ite (fun g => ?_) (fun g => ?_)
      · refine ih (p + 4294967296) p (by omega) (by omega) (by omega) (by omega) hp0 c hpm ?_
        intro q hq0 hq1 hqm
        by_cases c2 : q < p
        · have := hall q hq0 c2 hqm
          omega
        · have : q = p := by omega
          subst this
          exact Int.le_refl _
      · refine ih (p + 4294967296) best (by omega) (by omega) (by omega) (by omega) hb0 hb1 hbm ?_
        intro q hq0 hq1 hqm
        by_cases c2 : q < p
        · exact hall q hq0 c2 hqm
        · have : q = p := by omega
          subst this
          omega
    · refine Y.neg (by omega) (Y.now (.inr ⟨rfl, hb0, hb1, hbm, ?_⟩))
      intro q hq0 hq1 hqm
      exact hall q hq0 (by omega) hqm
theorem target_spec (lo hi S a from_ angle : Int) (h : AxOk lo hi S a) (hf0 : lo ≤ from_) (hf1 : from_ ≤ hi) (ha0 : -9223372036854775808 ≤ angle) (ha1 : angle ≤ 9223372036854775807) :
    Y (fun k => slew_Target.f k lo hi S a from_ angle) (Aims lo hi from_ angle) := by
  have hA := h
  obtain ⟨h0, h1, h2, _⟩ := h
  unfold slew_Target.f
  refine Y.bindE (check_axis lo hi S a hA) (Y.pos rfl (Y.bindS (in_spec lo hi S a from_ hf0 hf1) (Y.pos rfl ?_)))
  refine Y.bindS (mod_spec angle ha0 ha1) (Y.bindS (mod_spec lo (by omega) (by omega)) ?_)
  rw [w64 (x := angle % 4294967296 - lo % 4294967296) (by omega) (by omega)]
  refine Y.bindS (mod_spec _ (by omega) (by omega)) ?_
  have hp : ∃ p, p = lo + (angle % 4294967296 - lo % 4294967296) % 4294967296 := ⟨_, rfl⟩
  obtain ⟨p, hp⟩ := hp
  rw [w64 (x := lo + (angle % 4294967296 - lo % 4294967296) % 4294967296) (by omega) (by omega), ← hp]
  have hp0 : lo ≤ p ∧ p < lo + 4294967296 ∧ p % 4294967296 = angle % 4294967296 := by omega
  clear hp
  refine Y.ite (fun g => Y.now (.inl ⟨rfl, rfl, ?_⟩)) (fun g => ?_)
  · intro q hq0 hq1 hqm
    omega
  · refine target_loop lo hi S a from_ angle h0 h1 h2 hf0 hf1 9 p p hp0.1 (by omega) (by omega) hp0.2.2 hp0.1 (by omega) hp0.2.2 ?_
    intro q hq0 hq1 hqm
    omega
theorem i64_min : IntKind.i64.min = -9223372036854775808 := by decide
theorem i64_max : IntKind.i64.max = 9223372036854775807 := by decide
theorem wf_int {x : Int} (h : (Lit.int .i64 x).wf = true) : -9223372036854775808 ≤ x ∧ x ≤ 9223372036854775807 := by
  simp only [Lit.wf, Bool.and_eq_true, decide_eq_true_eq, i64_min, i64_max] at h
  exact h
theorem in_is (lo hi S a p : Int) : slew_In.f lo hi S a p = some (decide (lo ≤ p ∧ p ≤ hi)) := by
  unfold slew_In.f
  by_cases c : lo ≤ p
  · by_cases d : p ≤ hi <;> simp [c, d]
  · simp [c]
theorem none_loop (x r lo hi S a p : Int) (h0 : -17179869184 ≤ lo) (h1 : hi ≤ 17179869184) (hr0 : -4294967296 < r) (hr1 : r < 4294967296) (hx : x = 4) (hp : p = 0) (hno : ∀ q, lo ≤ q → q ≤ hi → q % 4294967296 ≠ r % 4294967296) (d : Nat) :
    ∀ k : Int, k = 7 - (d : Int) → d ≤ 13 → Y (fun n => spykeep2_SlewNearest.l0 n x r k lo hi S a p) (fun b => b = true) := by
  induction d with
  | zero =>
    intro k hk _
    refine Y.step (fun n => spykeep2_SlewNearest.l0.eq_2 _ _ _ _ _ _ _ _ _) ?_
    exact Y.neg (by omega) (Y.pos hx (Y.now (by simp [hp])))
  | succ d ih =>
    intro k hk hd
    refine Y.step (fun n => spykeep2_SlewNearest.l0.eq_2 _ _ _ _ _ _ _ _ _) ?_
    refine Y.pos (by omega) ?_
    rw [w64 (x := k * 4294967296) (by omega) (by omega), w64 (x := r + k * 4294967296) (by omega) (by omega), w64 (x := k + 1) (by omega) (by omega)]
    refine Y.bindS (in_is _ _ _ _ _) ?_
    have hq := hno (r + k * 4294967296)
    refine Y.neg (fun h => ?_) (ih (k + 1) (by omega) (by omega))
    obtain ⟨u, v⟩ := of_decide_eq_true h
    exact hq u v (by omega)
theorem near_loop (lo hi S a fr p : Int) (h0 : -17179869184 ≤ lo) (h1 : hi ≤ 17179869184) (hf0 : lo ≤ fr) (hf1 : fr ≤ hi) (hp0 : lo ≤ p) (hp1 : p ≤ hi)
    (hall : ∀ q, lo ≤ q → q ≤ hi → q % 4294967296 = p % 4294967296 → max (p - fr) (-(p - fr)) ≤ max (q - fr) (-(q - fr))) (d : Nat) :
    ∀ k : Int, k = 9 - (d : Int) → d ≤ 17 → Y (fun n => spykeep2_SlewNearest.l1 n k lo hi S a fr p) (fun b => b = true) := by
  induction d with
  | zero =>
    intro k hk _
    refine Y.step (fun n => spykeep2_SlewNearest.l1.eq_2 _ _ _ _ _ _ _ _) ?_
    exact Y.neg (by omega) (Y.now rfl)
  | succ d ih =>
    intro k hk hd
    refine Y.step (fun n => spykeep2_SlewNearest.l1.eq_2 _ _ _ _ _ _ _ _) ?_
    refine Y.pos (by omega) ?_
    rw [w64 (x := k * 4294967296) (by omega) (by omega), w64 (x := p + k * 4294967296) (by omega) (by omega), w64 (x := k + 1) (by omega) (by omega)]
    refine Y.bindS (in_is _ _ _ _ _) ?_
    have hq := hall (p + k * 4294967296)
    refine Y.ite (fun h => ?_) (fun _ => ih (k + 1) (by omega) (by omega))
    obtain ⟨u, v⟩ := of_decide_eq_true h
    have hq' := hq u v (by omega)
    have hn : spykeep2_near.f (p + k * 4294967296) p fr = some true := by
      unfold spykeep2_near.f
      rw [w64 (x := p - fr) (by omega) (by omega), w64 (x := fr - p) (by omega) (by omega), w64 (x := p + k * 4294967296 - fr) (by omega) (by omega), w64 (x := fr - (p + k * 4294967296)) (by omega) (by omega), mx_max, mx_max, decide_eq_true (by omega)]
    refine Y.bindS hn (Y.pos rfl (ih (k + 1) (by omega) (by omega)))
theorem SlewNearest : spykeep2_SlewNearest.Pure := by
  intro L a1 _ _ _ hw1
  obtain ⟨wa0, wa1⟩ := wf_int hw1
  apply Y.rounds
  unfold spykeep2_SlewNearest.f
  refine Y.bindE slews_spec (Y.pos rfl ?_)
  refine Y.bind _ (axis_draw L 0 (by omega) (by omega)) ?_
  rintro ⟨lo, hi, S, a, at_⟩ ⟨hA, ha0, ha1, _⟩
  dsimp only at hA ha0 ha1 ⊢
  have hA' := hA
  obtain ⟨g0, g1, g2, g3, g4, g5, g6, g7⟩ := hA'
  refine Y.inside L at_ lo hi S a (by omega) (by omega) g0 g1 g2 (fun fr at1 hp0 hp1 b0 b1 => ?_)
  dsimp only
  refine Y.bind _ (target_spec lo hi S a fr a1 hA hp0 hp1 wa0 wa1) ?_
  rintro ⟨p, e⟩ hx
  dsimp only
  have ht : -4294967296 < Int.tmod a1 4294967296 ∧ Int.tmod a1 4294967296 < 4294967296 ∧ Int.tmod a1 4294967296 % 4294967296 = a1 % 4294967296 := by
    by_cases c : 0 ≤ a1
    · rw [Int.tmod_eq_emod_of_nonneg c]
      omega
    · have : Int.tmod a1 4294967296 = -((-a1) % 4294967296) := by
        rw [← Int.tmod_eq_emod_of_nonneg (by omega), Int.neg_tmod, Int.neg_neg]
      omega
  rcases hx with ⟨he, hz, hno⟩ | ⟨he, hx0, hx1, hxm, hall⟩
  · dsimp only at he hz hno
    refine Y.neg (by omega) (none_loop e _ lo hi S a p g0 g1 ht.1 ht.2.1 he hz (fun q u v => ?_) 13 (-6) (by omega) (by omega))
    rw [ht.2.2]
    exact hno q u v
  · dsimp only at he hx0 hx1 hxm hall
    refine Y.pos he (Y.bindS (in_is _ _ _ _ _) (Y.pos (decide_eq_true ⟨hx0, hx1⟩) ?_))
    have hpm : Int.tmod (wrap64 (Int.tmod p 4294967296 - Int.tmod a1 4294967296)) 4294967296 = 0 := by
      have hp : -4294967296 < Int.tmod p 4294967296 ∧ Int.tmod p 4294967296 < 4294967296 ∧ Int.tmod p 4294967296 % 4294967296 = p % 4294967296 := by
        by_cases c : 0 ≤ p
        · rw [Int.tmod_eq_emod_of_nonneg c]
          omega
        · have : Int.tmod p 4294967296 = -((-p) % 4294967296) := by
            rw [← Int.tmod_eq_emod_of_nonneg (by omega), Int.neg_tmod, Int.neg_neg]
          omega
      rw [w64 (by omega) (by omega)]
      exact Int.tmod_eq_zero_of_dvd (by omega)
    rw [hpm]
    refine Y.step (fun n => spykeep2_SlewNearest.j1.eq_2 _ _ _ _ _ _ _ _) (Y.neg (by simp) ?_)
    exact near_loop lo hi S a fr p g0 g1 hp0 hp1 hx0 hx1 (fun q u v w => hall q u v (by omega)) 17 (-8) (by omega) (by omega)

end Go.Proofs.Ytmdphfjpocmooaa.Pure
