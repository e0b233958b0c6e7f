/- A frame is ready exactly after its beats and the reading, with its own number, and can be fetched once. The conditions are those of the row alone: the list of raw numbers takes at most 2^47 - 4096 bytes, and each number is an int. -/
import Derived.Test.YtdcciobkblpabaaPCameraTimesx3
set_option linter.unusedVariables false
set_option linter.unusedSimpArgs false
namespace Go.Proofs.Ytdcciobkblpabaa.Pure
open Go.RowKit Go.Proofs.Ytdcciobkblpabaa.PCameraTimes Go.Proofs.YtdcciobkblpabaaW.PrintWords Go.Proofs.YtdcciobkblpabaaW.PrintLast Go.Proofs.YtdcciobkblpabaaW.PrintMore

/-- With enough rounds g comes to a value that meets Q. -/
def Y {α : Type} (g : Nat → Option α) (Q : α → Prop) : Prop := ∃ r, Ev g r ∧ Q r
theorem Y.now {α : Type} {r : α} {Q : α → Prop} (h : Q r) : Y (fun _ => some r) Q := ⟨r, Ev.now r, h⟩
theorem Y.bind {α β : Type} {g : Nat → Option α} {f : Nat → α → Option β} {Q : β → Prop} (P : α → Prop) (h : Y g P) (k : ∀ a, P a → Y (fun n => f n a) Q) : Y (fun n => (g n).bind (f n)) Q := by
  obtain ⟨a, ha, hp⟩ := h
  obtain ⟨r, hr, hq⟩ := k a hp
  exact ⟨r, Ev.bind ha hr, hq⟩
theorem Y.bindE {α β : Type} {g : Nat → Option α} {f : Nat → α → Option β} {Q : β → Prop} {a : α} (h : Ev g a) (k : Y (fun n => f n a) Q) : Y (fun n => (g n).bind (f n)) Q := by
  obtain ⟨r, hr, hq⟩ := k
  exact ⟨r, Ev.bind h hr, hq⟩
theorem Y.bindS {α β : Type} {x : Option α} {f : Nat → α → Option β} {Q : β → Prop} {a : α} (h : x = some a) (k : Y (fun n => f n a) Q) : Y (fun n => x.bind (f n)) Q := by
  subst h
  exact k
theorem Y.pos {α : Type} {c : Prop} [Decidable c] {a b : Nat → Option α} {Q : α → Prop} (hc : c) (h : Y a Q) : Y (fun n => if c then a n else b n) Q := by
  simpa only [if_pos hc] using h
theorem Y.neg {α : Type} {c : Prop} [Decidable c] {a b : Nat → Option α} {Q : α → Prop} (hc : ¬ c) (h : Y b Q) : Y (fun n => if c then a n else b n) Q := by
  simpa only [if_neg hc] using h
theorem Y.ite {α : Type} {c : Prop} [Decidable c] {a b : Nat → Option α} {Q : α → Prop} (h : c → Y a Q) (k : ¬ c → Y b Q) : Y (fun n => if c then a n else b n) Q := by
  by_cases hc : c
  · exact Y.pos hc (h hc)
  · exact Y.neg hc (k hc)
theorem Y.step {α : Type} {g f : Nat → Option α} {Q : α → Prop} (h : ∀ k, g (k + 1) = f k) (k : Y f Q) : Y g Q := by
  obtain ⟨r, hr, hq⟩ := k
  exact ⟨r, Ev.step h hr, hq⟩
theorem Y.congr {α : Type} {g f : Nat → Option α} {Q : α → Prop} (h : ∀ k, g k = f k) (k : Y f Q) : Y g Q := by
  obtain ⟨r, hr, hq⟩ := k
  exact ⟨r, Ev.congr h hr, hq⟩
theorem Y.mono {α : Type} {g : Nat → Option α} {P Q : α → Prop} (h : Y g P) (k : ∀ r, P r → Q r) : Y g Q := by
  obtain ⟨r, hr, hq⟩ := h
  exact ⟨r, hr, k r hq⟩
theorem Y.is {α : Type} {g : Nat → Option α} {a : α} (h : Y g (fun r => r = a)) : Ev g a := by
  obtain ⟨r, hr, rfl⟩ := h
  exact hr
theorem Y.rounds {α : Type} {g : Nat → Option α} {a : α} (h : Y g (fun r => r = a)) : ∃ k, g k = some a := (Y.is h).rounds
theorem Y.ev {α : Type} {g : Nat → Option α} {a : α} {Q : α → Prop} (h : Ev g a) (q : Q a) : Y g Q := ⟨a, h, q⟩
theorem Y.S {α : Type} {x : Option α} {a : α} {Q : α → Prop} (h : x = some a) (q : Q a) : Y (fun _ => x) Q := by
  subst h
  exact Y.now q
/-- An int that fits is as it is. -/
theorem w64 {x : Int} (h0 : -9223372036854775808 ≤ x) (h1 : x ≤ 9223372036854775807) : wrap64 x = x := by
  unfold wrap64
  omega
theorem w64_range (x : Int) : -9223372036854775808 ≤ wrap64 x ∧ wrap64 x ≤ 9223372036854775807 := by
  unfold wrap64
  omega
theorem mx_max (a b : Int) : mx a b = max a b := by
  unfold mx
  split <;> omega
theorem mn_min (a b : Int) : mn a b = min a b := by
  unfold mn
  split <;> omega
theorem tmod_neg_add {x n : Int} (hn : 1 ≤ n) (h : Int.tmod x n < 0) : Int.tmod x n + n = x % n := by
  have h1 : Int.tmod x n = x % n - (if 0 ≤ x ∨ n ∣ x then 0 else Int.natAbs n : Nat) := Int.tmod_eq_emod
  have h2 := Int.emod_nonneg x (b := n) (by omega)
  have h3 : (n.natAbs : Int) = n := by omega
  rw [h1] at h ⊢
  split at h
  · exact absurd h (by omega)
  · rename_i h4
    rw [if_neg h4]
    omega
theorem tmod_of_nonneg {x n : Int} (hn : 1 ≤ n) (h : ¬ Int.tmod x n < 0) : Int.tmod x n = x % n := by
  have h1 : Int.tmod x n = x % n - (if 0 ≤ x ∨ n ∣ x then 0 else Int.natAbs n : Nat) := Int.tmod_eq_emod
  have h2 := Int.emod_lt_of_pos x (b := n) (by omega)
  have h3 : (n.natAbs : Int) = n := by omega
  rw [h1] at h ⊢
  split at h
  · rename_i h4
    rw [if_pos h4]
    omega
  · exact absurd (by omega) h
/-- Below reduces. -/
theorem below_spec (x n : Int) (h1 : 1 ≤ n) (h2 : n ≤ 4611686018427387904) : spymake_Below.f x n = some (x % n) := by
  unfold spymake_Below.f
  rw [if_neg (by omega), if_neg (by omega)]
  by_cases c : Int.tmod x n < 0
  · rw [if_pos c, tmod_neg_add h1 c, w64 (by have := Int.emod_nonneg x (b := n) (by omega); omega) (by have := Int.emod_lt_of_pos x (b := n) (by omega); omega)]
  · rw [if_neg c, tmod_of_nonneg h1 c]
theorem below_range (x n : Int) (h1 : 1 ≤ n) : 0 ≤ x % n ∧ x % n < n := ⟨Int.emod_nonneg x (by omega), Int.emod_lt_of_pos x (by omega)⟩
/-- Next gives a number below n, and counts. -/
theorem next_spec (L : List Int) (at_ n : Int) (ha : 0 ≤ at_) (hb : at_ ≤ 4611686018427387904) (h1 : 1 ≤ n) (h2 : n ≤ 4611686018427387904) :
    ∃ r, spymake_Stream_Next.f L at_ n = some (r, at_ + 1) ∧ 0 ≤ r ∧ r < n := by
  unfold spymake_Stream_Next.f
  rw [w64 (x := at_ + 1) (by omega) (by omega), w64 (x := at_ + 1 - 1) (by omega) (by omega)]
  by_cases c : (L.length : Int) = 0
  · rw [if_pos c, below_spec _ _ h1 h2]
    exact ⟨_, rfl, below_range _ _ h1⟩
  · rw [if_neg c, show at_ + 1 - 1 = at_ by omega]
    have e : Int.tmod at_ (L.length : Int) = at_ % (L.length : Int) := Int.tmod_eq_emod_of_nonneg ha
    have e1 := Int.emod_nonneg at_ (b := (L.length : Int)) c
    have e2 := Int.emod_lt_of_pos at_ (b := (L.length : Int)) (by omega)
    rw [e, if_pos e1, if_pos e2, below_spec _ 1073741824 (by omega) (by omega)]
    simp only [Option.bind_some]
    rw [below_spec _ _ h1 h2]
    exact ⟨_, rfl, below_range _ _ h1⟩
theorem Y.next {β : Type} {f : Nat → Int × Int → Option β} {Q : β → Prop} (L : List Int) (at_ n : Int) (ha : 0 ≤ at_) (hb : at_ ≤ 4611686018427387904) (h1 : 1 ≤ n) (h2 : n ≤ 4611686018427387904)
    (k : ∀ r, 0 ≤ r → r < n → Y (fun m => f m (r, at_ + 1)) Q) : Y (fun m => (spymake_Stream_Next.f L at_ n).bind (f m)) Q := by
  obtain ⟨r, hr, h3, h4⟩ := next_spec L at_ n ha hb h1 h2
  exact Y.bindS hr (k r h3 h4)
/-- Range gives a number from low to high. -/
theorem range_spec (L : List Int) (at_ lo hi : Int) (ha : 0 ≤ at_) (hb : at_ ≤ 4611686018427387904) (h1 : -1152921504606846976 ≤ lo) (h2 : lo ≤ hi) (h3 : hi ≤ 1152921504606846976) :
    ∃ r, spymake_Stream_Range.f L at_ lo hi = some (r, at_ + 1) ∧ lo ≤ r ∧ r ≤ hi := by
  unfold spymake_Stream_Range.f
  rw [if_neg (by omega), w64 (x := hi - lo) (by omega) (by omega), w64 (x := hi - lo + 1) (by omega) (by omega)]
  obtain ⟨r, hr, h4, h5⟩ := next_spec L at_ (hi - lo + 1) ha hb (by omega) (by omega)
  rw [hr]
  simp only [Option.bind_some]
  rw [w64 (x := lo + r) (by omega) (by omega)]
  exact ⟨_, rfl, by omega, by omega⟩
theorem Y.range {β : Type} {f : Nat → Int × Int → Option β} {Q : β → Prop} (L : List Int) (at_ lo hi : Int) (ha : 0 ≤ at_) (hb : at_ ≤ 4611686018427387904) (h1 : -1152921504606846976 ≤ lo) (h2 : lo ≤ hi) (h3 : hi ≤ 1152921504606846976)
    (k : ∀ r, lo ≤ r → r ≤ hi → Y (fun m => f m (r, at_ + 1)) Q) : Y (fun m => (spymake_Stream_Range.f L at_ lo hi).bind (f m)) Q := by
  obtain ⟨r, hr, h4, h5⟩ := range_spec L at_ lo hi ha hb h1 h2 h3
  exact Y.bindS hr (k r h4 h5)
/-- A camera's valid states, with a number below the last one. -/
def CamOk (m l b n : Int) : Prop := 0 ≤ n ∧ n ≤ 1000000 ∧ 0 ≤ b ∧ b ≤ 16 ∧ ((m = 0 ∧ l = 0 ∧ b = 0) ∨ (m = 1 ∧ 1 ≤ l ∧ l ≤ b ∧ n ≠ 0) ∨ (m = 2 ∧ 1 ≤ l ∧ l ≤ 3 ∧ n ≠ 0) ∨ (m = 3 ∧ l = 0 ∧ n ≠ 0))
theorem cam_check (m l b n : Int) (h : CamOk m l b n) : Ev (fun k => camera_Check.f k m l b n) 0 := by
  obtain ⟨h0, h1, h2, h3, h⟩ := h
  apply Y.is
  unfold camera_Check.f
  refine Y.neg (by omega) (Y.neg (by omega) (Y.neg (by omega) (Y.neg (by omega) (Y.neg (by omega) ?_))))
  refine Y.step (fun k => camera_Check.j0.eq_2 _ _ _ _ _ _) ?_
  refine Y.neg (by simp; omega) ?_
  rcases h with ⟨a, b, c⟩ | ⟨a, b, c, d⟩ | ⟨a, b, c, d⟩ | ⟨a, b, c⟩
  · exact Y.pos a (Y.pos b (Y.pos c (Y.now rfl)))
  · exact Y.neg (by omega) (Y.pos a (Y.pos b (Y.pos c (Y.neg d (Y.now rfl)))))
  · exact Y.neg (by omega) (Y.neg (by omega) (Y.pos a (Y.pos b (Y.pos c (Y.neg d (Y.now rfl))))))
  · exact Y.neg (by omega) (Y.neg (by omega) (Y.neg (by omega) (Y.pos a (Y.pos b (Y.neg c (Y.now rfl))))))
theorem expose_idle (n x : Int) (h0 : 0 ≤ n) (h1 : n ≤ 1000000) (h2 : 0 ≤ x) (h3 : x ≤ 16) :
    Ev (fun k => camera_Expose.f k 0 0 0 n x) (if x = 0 then (2, 3, x, n + 1, 0) else (1, x, x, n + 1, 0)) := by
  apply Y.is
  unfold camera_Expose.f
  refine Y.bindE (cam_check 0 0 0 n ⟨h0, h1, by omega, by omega, .inl ⟨rfl, rfl, rfl⟩⟩) ?_
  refine Y.pos rfl (Y.pos rfl (Y.neg (by omega) ?_))
  refine Y.step (fun k => camera_Expose.j0.eq_2 _ _ _ _ _ _ _) ?_
  rw [w64 (x := n + 1) (by omega) (by omega)]
  refine Y.neg (by simp; omega) (Y.neg (by omega) (Y.ite (fun h => ?_) (fun h => ?_)))
  · rw [if_pos h]
    exact Y.now rfl
  · rw [if_neg h]
    exact Y.now rfl
theorem expose_busy (m l b n x : Int) (h : CamOk m l b n) (hm : m ≠ 0) : Ev (fun k => camera_Expose.f k m l b n x) (0, 0, 0, 0, 10) := by
  apply Y.is
  unfold camera_Expose.f
  exact Y.bindE (cam_check _ _ _ _ h) (Y.pos rfl (Y.neg hm (Y.now rfl)))
/-- What a step does. -/
def camStep (m l b n : Int) : Int × Int × Int × Int :=
  if m = 1 then (if l - 1 = 0 then (2, 3, b, n) else (m, l - 1, b, n)) else if m = 2 then (if l - 1 = 0 then (3, l - 1, b, n) else (m, l - 1, b, n)) else (m, l, b, n)
theorem cam_step (m l b n : Int) (h : CamOk m l b n) : Ev (fun k => camera_Step.f k m l b n) (camStep m l b n) := by
  have hc := cam_check _ _ _ _ h
  obtain ⟨h0, h1, h2, h3, h⟩ := h
  apply Y.is
  unfold camera_Step.f camStep
  refine Y.bindE hc (Y.pos rfl ?_)
  rw [w64 (x := l - 1) (by omega) (by omega)]
  refine Y.ite (fun h => ?_) (fun h => ?_)
  · rw [if_pos h]
    refine Y.ite (fun h' => ?_) (fun h' => ?_)
    · rw [if_pos h']
      exact Y.now rfl
    · rw [if_neg h']
      exact Y.now rfl
  · rw [if_neg h]
    refine Y.ite (fun h' => ?_) (fun h' => ?_)
    · rw [if_pos h']
      refine Y.ite (fun h' => ?_) (fun h' => ?_)
      · rw [if_pos h']
        exact Y.now rfl
      · rw [if_neg h']
        exact Y.now rfl
    · rw [if_neg h']
      exact Y.now rfl
theorem exposes_spec : Ev (fun k => spykeep2_exposes.f k) true := by
  apply Y.is
  unfold spykeep2_exposes.f
  refine Y.bindE (expose_idle 0 2 (by omega) (by omega) (by omega) (by omega)) ?_
  refine Y.pos (by simp) (Y.pos (by simp) ?_)
  refine Y.bindE (cam_step _ _ _ _ ?_) (Y.now ?_)
  · simp [CamOk]
  · simp [camStep]
theorem fetch_ready (b n : Int) (h : CamOk 3 0 b n) : Ev (fun k => camera_Fetch.f k 3 0 b n) (0, 0, 0, n, n, b, 0) := by
  apply Y.is
  unfold camera_Fetch.f
  exact Y.bindE (cam_check _ _ _ _ h) (Y.pos rfl (Y.pos rfl (Y.now rfl)))
theorem fetch_not (m l b n : Int) (h : CamOk m l b n) (hm : m ≠ 3) : Ev (fun k => camera_Fetch.f k m l b n) (0, 0, 0, 0, 0, 0, 10) := by
  apply Y.is
  unfold camera_Fetch.f
  exact Y.bindE (cam_check _ _ _ _ h) (Y.pos rfl (Y.neg hm (Y.now rfl)))
/-- The camera's state, j steps behind the exposure's begin. -/
def at_step (b n j : Int) : Int × Int × Int × Int := if j < b then (1, b - j, b, n) else if j < b + 3 then (2, b + 3 - j, b, n) else (3, 0, b, n)
theorem at_step_ok (b n j : Int) (h0 : 0 ≤ b) (h1 : b ≤ 16) (h2 : 1 ≤ n) (h3 : n ≤ 1000000) (h4 : 0 ≤ j) (h5 : j ≤ b + 3) : CamOk (at_step b n j).1 (at_step b n j).2.1 (at_step b n j).2.2.1 (at_step b n j).2.2.2 := by
  unfold at_step CamOk
  by_cases c : j < b
  · simp only [if_pos c, true_and, and_true]
    omega
  · by_cases c2 : j < b + 3
    · simp only [if_neg c, if_pos c2, true_and, and_true]
      omega
    · simp only [if_neg c, if_neg c2, true_and, and_true]
      omega
theorem at_step_next (b n j : Int) (h0 : 0 ≤ b) (h4 : 0 ≤ j) (h5 : j < b + 3) : camStep (at_step b n j).1 (at_step b n j).2.1 (at_step b n j).2.2.1 (at_step b n j).2.2.2 = at_step b n (j + 1) := by
  unfold at_step camStep
  by_cases c : j < b
  · rw [if_pos c]
    simp only [if_true]
    by_cases c2 : j + 1 < b
    · rw [if_neg (by omega), if_pos c2, show b - j - 1 = b - (j + 1) by omega]
    · rw [if_pos (by omega), if_neg c2, if_pos (by omega), show b + 3 - (j + 1) = 3 by omega]
  · rw [if_neg c, if_pos h5]
    simp only [show ¬ ((2 : Int) = 1) by omega, if_false, if_true]
    by_cases c2 : j + 1 < b + 3
    · rw [if_neg (by omega), if_neg (by omega), if_pos c2, show b + 3 - j - 1 = b + 3 - (j + 1) by omega]
    · rw [if_pos (by omega), if_neg (by omega), if_neg c2, show b + 3 - j - 1 = 0 by omega]
theorem inner (L : List Int) (n i b at_ : Int) (h0 : 0 ≤ b) (h1 : b ≤ 16) (h2 : 0 ≤ i) (h3 : i < 100)
    (hnext : Ev (fun k => spykeep2_CameraTimes.l0 k n (i + 1) L at_ 0 0 0 (i + 1)) true) (d : Nat) : ∀ (j : Int), 0 ≤ j → b + 3 - j = d →
    Ev (fun k => spykeep2_CameraTimes.l1 k i b 0 n i (b + 3) j L at_ (at_step b (i + 1) j).1 (at_step b (i + 1) j).2.1 (at_step b (i + 1) j).2.2.1 (at_step b (i + 1) j).2.2.2) true := by
  induction d with
  | zero =>
    intro j hj hd
    apply Y.is
    refine Y.step (fun n => spykeep2_CameraTimes.l1.eq_2 _ _ _ _ _ _ _ _ _ _ _ _ _ _) ?_
    have e : at_step b (i + 1) j = (3, 0, b, i + 1) := by
      unfold at_step
      rw [if_neg (by omega), if_neg (by omega)]
    rw [e]
    refine Y.neg (by omega) ?_
    refine Y.bindE (fetch_ready b (i + 1) ⟨by omega, by omega, by omega, by omega, by omega⟩) ?_
    refine Y.bindE (fetch_not 0 0 0 (i + 1) ⟨by omega, by omega, by omega, by omega, by omega⟩ (by omega)) ?_
    rw [w64 (x := i + 1) (by omega) (by omega)]
    exact Y.pos rfl (Y.pos rfl (Y.pos rfl (Y.pos rfl (Y.ev hnext rfl))))
  | succ d ih =>
    intro j hj hd
    apply Y.is
    refine Y.step (fun n => spykeep2_CameraTimes.l1.eq_2 _ _ _ _ _ _ _ _ _ _ _ _ _ _) ?_
    rw [w64 (x := j + 1) (by omega) (by omega)]
    refine Y.pos (by omega) (Y.pos rfl (Y.neg ?_ (Y.neg ?_ ?_)))
    · unfold at_step
      by_cases c : j < b
      · rw [if_pos c]
        simp
      · rw [if_neg c, if_pos (by omega)]
        simp
    · unfold at_step
      by_cases c : j < b
      · rw [if_pos c]
        simp [c]
      · rw [if_neg c, if_pos (by omega)]
        simp [c]
    · refine Y.bindE (cam_step _ _ _ _ (at_step_ok b (i + 1) j h0 h1 (by omega) (by omega) hj (by omega))) ?_
      rw [at_step_next b (i + 1) j h0 hj (by omega)]
      exact Y.ev (ih (j + 1) (by omega) (by omega)) rfl
theorem outer (L : List Int) (n : Int) (hn : n ≤ 6) (d : Nat) : ∀ (i at_ : Int), 0 ≤ i → n - i = d → 0 ≤ at_ → at_ ≤ 10 + i →
    Ev (fun k => spykeep2_CameraTimes.l0 k n i L at_ 0 0 0 i) true := by
  induction d with
  | zero =>
    intro i at_ hi hd ha hb
    apply Y.is
    refine Y.step (fun n => spykeep2_CameraTimes.l0.eq_2 _ _ _ _ _ _ _ _ _) ?_
    exact Y.neg (by omega) (Y.now rfl)
  | succ d ih =>
    intro i at_ hi hd ha hb
    apply Y.is
    refine Y.step (fun n => spykeep2_CameraTimes.l0.eq_2 _ _ _ _ _ _ _ _ _) ?_
    refine Y.pos (by omega) (Y.next L at_ 17 ha (by omega) (by omega) (by omega) ?_)
    intro b hb1 hb2
    refine Y.bindE (expose_idle i b hi (by omega) hb1 (by omega)) ?_
    have hin := inner L n i b (at_ + 1) hb1 (by omega) hi (by omega) (ih (i + 1) (at_ + 1) (by omega) (by omega) (by omega) (by omega)) (b + 3).toNat 0 (by omega) (by omega)
    simp only []
    rw [w64 (x := b + 3) (by omega) (by omega)]
    by_cases c : b = 0
    · subst c
      exact Y.ev hin rfl
    · have e : at_step b (i + 1) 0 = (1, b, b, i + 1) := by
        unfold at_step
        rw [if_pos (by omega), show b - 0 = b by omega]
      rw [if_neg c]
      rw [e] at hin
      exact Y.ev hin rfl
theorem CameraTimes : spykeep2_CameraTimes.Pure := by
  intro L _ _ _
  apply Y.rounds
  unfold spykeep2_CameraTimes.f
  refine Y.bindE exposes_spec (Y.pos rfl ?_)
  refine Y.range L 0 1 6 (by omega) (by omega) (by omega) (by omega) (by omega) ?_
  intro n h0 h1
  exact Y.ev (outer L n h1 n.toNat 0 (0 + 1) (by omega) (by omega) (by omega) (by omega)) rfl

end Go.Proofs.Ytdcciobkblpabaa.Pure
