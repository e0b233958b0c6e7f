/- Whatever a camera is told, its states are valid, and frames that are fetched have increasing numbers. The conditions are those of the row alone: the list of raw numbers takes at most 2^47 - 4096 bytes, and each number is an int. -/
import Derived.Test.YtdcciobkblpabaaPCameraNumbersx3
set_option linter.unusedVariables false
set_option linter.unusedSimpArgs false
namespace Go.Proofs.Ytdcciobkblpabaa.Pure
open Go.RowKit Go.Proofs.Ytdcciobkblpabaa.PCameraNumbers Go.Proofs.YtdcciobkblpabaaW.PrintWords Go.Proofs.YtdcciobkblpabaaW.PrintLast Go.Proofs.YtdcciobkblpabaaW.PrintMore

/-- With enough rounds g comes to a value that meets Q. -/
def Y {α : Type} (g : Nat → Option α) (Q : α → Prop) : Prop := ∃ r, Ev g r ∧ Q r
theorem Y.now {α : Type} {r : α} {Q : α → Prop} (h : Q r) : Y (fun _ => some r) Q := ⟨r, Ev.now r, h⟩
theorem Y.bind {α β : Type} {g : Nat → Option α} {f : Nat → α → Option β} {Q : β → Prop} (P : α → Prop) (h : Y g P) (k : ∀ a, P a → Y (fun n => f n a) Q) : Y (fun n => (g n).bind (f n)) Q := by
  obtain ⟨a, ha, hp⟩ := h
  obtain ⟨r, hr, hq⟩ := k a hp
  exact ⟨r, Ev.bind ha hr, hq⟩
theorem Y.bindE {α β : Type} {g : Nat → Option α} {f : Nat → α → Option β} {Q : β → Prop} {a : α} (h : Ev g a) (k : Y (fun n => f n a) Q) : Y (fun n => (g n).bind (f n)) Q := by
  obtain ⟨r, hr, hq⟩ := k
  exact ⟨r, Ev.bind h hr, hq⟩
theorem Y.bindS {α β : Type} {x : Option α} {f : Nat → α → Option β} {Q : β → Prop} {a : α} (h : x = some a) (k : Y (fun n => f n a) Q) : Y (fun n => x.bind (f n)) Q := by
  subst h
  exact k
theorem Y.pos {α : Type} {c : Prop} [Decidable c] {a b : Nat → Option α} {Q : α → Prop} (hc : c) (h : Y a Q) : Y (fun n => if c then a n else b n) Q := by
  simpa only [if_pos hc] using h
theorem Y.neg {α : Type} {c : Prop} [Decidable c] {a b : Nat → Option α} {Q : α → Prop} (hc : ¬ c) (h : Y b Q) : Y (fun n => if c then a n else b n) Q := by
  simpa only [if_neg hc] using h
theorem Y.ite {α : Type} {c : Prop} [Decidable c] {a b : Nat → Option α} {Q : α → Prop} (h : c → Y a Q) (k : ¬ c → Y b Q) : Y (fun n => if c then a n else b n) Q := by
  by_cases hc : c
  · exact Y.pos hc (h hc)
  · exact Y.neg hc (k hc)
theorem Y.step {α : Type} {g f : Nat → Option α} {Q : α → Prop} (h : ∀ k, g (k + 1) = f k) (k : Y f Q) : Y g Q := by
  obtain ⟨r, hr, hq⟩ := k
  exact ⟨r, Ev.step h hr, hq⟩
theorem Y.congr {α : Type} {g f : Nat → Option α} {Q : α → Prop} (h : ∀ k, g k = f k) (k : Y f Q) : Y g Q := by
  obtain ⟨r, hr, hq⟩ := k
  exact ⟨r, Ev.congr h hr, hq⟩
theorem Y.mono {α : Type} {g : Nat → Option α} {P Q : α → Prop} (h : Y g P) (k : ∀ r, P r → Q r) : Y g Q := by
  obtain ⟨r, hr, hq⟩ := h
  exact ⟨r, hr, k r hq⟩
theorem Y.is {α : Type} {g : Nat → Option α} {a : α} (h : Y g (fun r => r = a)) : Ev g a := by
  obtain ⟨r, hr, rfl⟩ := h
  exact hr
theorem Y.rounds {α : Type} {g : Nat → Option α} {a : α} (h : Y g (fun r => r = a)) : ∃ k, g k = some a := (Y.is h).rounds
theorem Y.ev {α : Type} {g : Nat → Option α} {a : α} {Q : α → Prop} (h : Ev g a) (q : Q a) : Y g Q := ⟨a, h, q⟩
theorem Y.S {α : Type} {x : Option α} {a : α} {Q : α → Prop} (h : x = some a) (q : Q a) : Y (fun _ => x) Q := by
  subst h
  exact Y.now q
/-- An int that fits is as it is. -/
theorem w64 {x : Int} (h0 : -9223372036854775808 ≤ x) (h1 : x ≤ 9223372036854775807) : wrap64 x = x := by
  unfold wrap64
  omega
theorem w64_range (x : Int) : -9223372036854775808 ≤ wrap64 x ∧ wrap64 x ≤ 9223372036854775807 := by
  unfold wrap64
  omega
theorem mx_max (a b : Int) : mx a b = max a b := by
  unfold mx
  split <;> omega
theorem mn_min (a b : Int) : mn a b = min a b := by
  unfold mn
  split <;> omega
theorem tmod_neg_add {x n : Int} (hn : 1 ≤ n) (h : Int.tmod x n < 0) : Int.tmod x n + n = x % n := by
  have h1 : Int.tmod x n = x % n - (if 0 ≤ x ∨ n ∣ x then 0 else Int.natAbs n : Nat) := Int.tmod_eq_emod
  have h2 := Int.emod_nonneg x (b := n) (by omega)
  have h3 : (n.natAbs : Int) = n := by omega
  rw [h1] at h ⊢
  split at h
  · exact absurd h (by omega)
  · rename_i h4
    rw [if_neg h4]
    omega
theorem tmod_of_nonneg {x n : Int} (hn : 1 ≤ n) (h : ¬ Int.tmod x n < 0) : Int.tmod x n = x % n := by
  have h1 : Int.tmod x n = x % n - (if 0 ≤ x ∨ n ∣ x then 0 else Int.natAbs n : Nat) := Int.tmod_eq_emod
  have h2 := Int.emod_lt_of_pos x (b := n) (by omega)
  have h3 : (n.natAbs : Int) = n := by omega
  rw [h1] at h ⊢
  split at h
  · rename_i h4
    rw [if_pos h4]
    omega
  · exact absurd (by omega) h
/-- Below reduces. -/
theorem below_spec (x n : Int) (h1 : 1 ≤ n) (h2 : n ≤ 4611686018427387904) : spymake_Below.f x n = some (x % n) := by
  unfold spymake_Below.f
  rw [if_neg (by omega), if_neg (by omega)]
  by_cases c : Int.tmod x n < 0
  · rw [if_pos c, tmod_neg_add h1 c, w64 (by have := Int.emod_nonneg x (b := n) (by omega); omega) (by have := Int.emod_lt_of_pos x (b := n) (by omega); omega)]
  · rw [if_neg c, tmod_of_nonneg h1 c]
theorem below_range (x n : Int) (h1 : 1 ≤ n) : 0 ≤ x % n ∧ x % n < n := ⟨Int.emod_nonneg x (by omega), Int.emod_lt_of_pos x (by omega)⟩
/-- Next gives a number below n, and counts. -/
theorem next_spec (L : List Int) (at_ n : Int) (ha : 0 ≤ at_) (hb : at_ ≤ 4611686018427387904) (h1 : 1 ≤ n) (h2 : n ≤ 4611686018427387904) :
    ∃ r, spymake_Stream_Next.f L at_ n = some (r, at_ + 1) ∧ 0 ≤ r ∧ r < n := by
  unfold spymake_Stream_Next.f
  rw [w64 (x := at_ + 1) (by omega) (by omega), w64 (x := at_ + 1 - 1) (by omega) (by omega)]
  by_cases c : (L.length : Int) = 0
  · rw [if_pos c, below_spec _ _ h1 h2]
    exact ⟨_, rfl, below_range _ _ h1⟩
  · rw [if_neg c, show at_ + 1 - 1 = at_ by omega]
    have e : Int.tmod at_ (L.length : Int) = at_ % (L.length : Int) := Int.tmod_eq_emod_of_nonneg ha
    have e1 := Int.emod_nonneg at_ (b := (L.length : Int)) c
    have e2 := Int.emod_lt_of_pos at_ (b := (L.length : Int)) (by omega)
    rw [e, if_pos e1, if_pos e2, below_spec _ 1073741824 (by omega) (by omega)]
    simp only [Option.bind_some]
    rw [below_spec _ _ h1 h2]
    exact ⟨_, rfl, below_range _ _ h1⟩
theorem Y.next {β : Type} {f : Nat → Int × Int → Option β} {Q : β → Prop} (L : List Int) (at_ n : Int) (ha : 0 ≤ at_) (hb : at_ ≤ 4611686018427387904) (h1 : 1 ≤ n) (h2 : n ≤ 4611686018427387904)
    (k : ∀ r, 0 ≤ r → r < n → Y (fun m => f m (r, at_ + 1)) Q) : Y (fun m => (spymake_Stream_Next.f L at_ n).bind (f m)) Q := by
  obtain ⟨r, hr, h3, h4⟩ := next_spec L at_ n ha hb h1 h2
  exact Y.bindS hr (k r h3 h4)
/-- A camera's valid states, with a number below the last one. -/
def CamOk (m l b n : Int) : Prop := 0 ≤ n ∧ n ≤ 1000000 ∧ 0 ≤ b ∧ b ≤ 16 ∧ ((m = 0 ∧ l = 0 ∧ b = 0) ∨ (m = 1 ∧ 1 ≤ l ∧ l ≤ b ∧ n ≠ 0) ∨ (m = 2 ∧ 1 ≤ l ∧ l ≤ 3 ∧ n ≠ 0) ∨ (m = 3 ∧ l = 0 ∧ n ≠ 0))
theorem cam_check (m l b n : Int) (h : CamOk m l b n) : Ev (fun k => camera_Check.f k m l b n) 0 := by
  obtain ⟨h0, h1, h2, h3, h⟩ := h
  apply Y.is
  unfold camera_Check.f
  refine Y.neg (by omega) (Y.neg (by omega) (Y.neg (by omega) (Y.neg (by omega) (Y.neg (by omega) ?_))))
  refine Y.step (fun k => camera_Check.j0.eq_2 _ _ _ _ _ _) ?_
  refine Y.neg (by simp; omega) ?_
  rcases h with ⟨a, b, c⟩ | ⟨a, b, c, d⟩ | ⟨a, b, c, d⟩ | ⟨a, b, c⟩
  · exact Y.pos a (Y.pos b (Y.pos c (Y.now rfl)))
  · exact Y.neg (by omega) (Y.pos a (Y.pos b (Y.pos c (Y.neg d (Y.now rfl)))))
  · exact Y.neg (by omega) (Y.neg (by omega) (Y.pos a (Y.pos b (Y.pos c (Y.neg d (Y.now rfl))))))
  · exact Y.neg (by omega) (Y.neg (by omega) (Y.neg (by omega) (Y.pos a (Y.pos b (Y.neg c (Y.now rfl))))))
theorem expose_idle (n x : Int) (h0 : 0 ≤ n) (h1 : n ≤ 1000000) (h2 : 0 ≤ x) (h3 : x ≤ 16) :
    Ev (fun k => camera_Expose.f k 0 0 0 n x) (if x = 0 then (2, 3, x, n + 1, 0) else (1, x, x, n + 1, 0)) := by
  apply Y.is
  unfold camera_Expose.f
  refine Y.bindE (cam_check 0 0 0 n ⟨h0, h1, by omega, by omega, .inl ⟨rfl, rfl, rfl⟩⟩) ?_
  refine Y.pos rfl (Y.pos rfl (Y.neg (by omega) ?_))
  refine Y.step (fun k => camera_Expose.j0.eq_2 _ _ _ _ _ _ _) ?_
  rw [w64 (x := n + 1) (by omega) (by omega)]
  refine Y.neg (by simp; omega) (Y.neg (by omega) (Y.ite (fun h => ?_) (fun h => ?_)))
  · rw [if_pos h]
    exact Y.now rfl
  · rw [if_neg h]
    exact Y.now rfl
theorem expose_busy (m l b n x : Int) (h : CamOk m l b n) (hm : m ≠ 0) : Ev (fun k => camera_Expose.f k m l b n x) (0, 0, 0, 0, 10) := by
  apply Y.is
  unfold camera_Expose.f
  exact Y.bindE (cam_check _ _ _ _ h) (Y.pos rfl (Y.neg hm (Y.now rfl)))
/-- What a step does. -/
def camStep (m l b n : Int) : Int × Int × Int × Int :=
  if m = 1 then (if l - 1 = 0 then (2, 3, b, n) else (m, l - 1, b, n)) else if m = 2 then (if l - 1 = 0 then (3, l - 1, b, n) else (m, l - 1, b, n)) else (m, l, b, n)
theorem cam_step (m l b n : Int) (h : CamOk m l b n) : Ev (fun k => camera_Step.f k m l b n) (camStep m l b n) := by
  have hc := cam_check _ _ _ _ h
  obtain ⟨h0, h1, h2, h3, h⟩ := h
  apply Y.is
  unfold camera_Step.f camStep
  refine Y.bindE hc (Y.pos rfl ?_)
  rw [w64 (x := l - 1) (by omega) (by omega)]
  refine Y.ite (fun h => ?_) (fun h => ?_)
  · rw [if_pos h]
    refine Y.ite (fun h' => ?_) (fun h' => ?_)
    · rw [if_pos h']
      exact Y.now rfl
    · rw [if_neg h']
      exact Y.now rfl
  · rw [if_neg h]
    refine Y.ite (fun h' => ?_) (fun h' => ?_)
    · rw [if_pos h']
      refine Y.ite (fun h' => ?_) (fun h' => ?_)
      · rw [if_pos h']
        exact Y.now rfl
      · rw [if_neg h']
        exact Y.now rfl
    · rw [if_neg h']
      exact Y.now rfl
theorem exposes_spec : Ev (fun k => spykeep2_exposes.f k) true := by
  apply Y.is
  unfold spykeep2_exposes.f
  refine Y.bindE (expose_idle 0 2 (by omega) (by omega) (by omega) (by omega)) ?_
  refine Y.pos (by simp) (Y.pos (by simp) ?_)
  refine Y.bindE (cam_step _ _ _ _ ?_) (Y.now ?_)
  · simp [CamOk]
  · simp [camStep]
theorem fetch_ready (b n : Int) (h : CamOk 3 0 b n) : Ev (fun k => camera_Fetch.f k 3 0 b n) (0, 0, 0, n, n, b, 0) := by
  apply Y.is
  unfold camera_Fetch.f
  exact Y.bindE (cam_check _ _ _ _ h) (Y.pos rfl (Y.pos rfl (Y.now rfl)))
theorem fetch_not (m l b n : Int) (h : CamOk m l b n) (hm : m ≠ 3) : Ev (fun k => camera_Fetch.f k m l b n) (0, 0, 0, 0, 0, 0, 10) := by
  apply Y.is
  unfold camera_Fetch.f
  exact Y.bindE (cam_check _ _ _ _ h) (Y.pos rfl (Y.neg hm (Y.now rfl)))
theorem camStep_ok (m l b n : Int) (h : CamOk m l b n) : CamOk (camStep m l b n).1 (camStep m l b n).2.1 (camStep m l b n).2.2.1 (camStep m l b n).2.2.2 ∧ (camStep m l b n).2.2.2 = n ∧ ((camStep m l b n).1 ≠ 0 → m ≠ 0) := by
  unfold CamOk at *
  unfold camStep
  by_cases c1 : m = 1
  · by_cases c2 : l - 1 = 0
    · simp only [if_pos c1, if_pos c2, true_and, and_true]
      omega
    · simp only [if_pos c1, if_neg c2, true_and, and_true]
      omega
  · by_cases c2 : m = 2
    · by_cases c3 : l - 1 = 0
      · simp only [if_neg c1, if_pos c2, if_pos c3, true_and, and_true]
        omega
      · simp only [if_neg c1, if_pos c2, if_neg c3, true_and, and_true]
        omega
    · simp only [if_neg c1, if_neg c2, true_and, and_true]
      omega
theorem abort_spec (m l b n : Int) (h : CamOk m l b n) : Ev (fun k => camera_Abort.f k m l b n) (if m = 1 then (0, 0, 0, n, 0) else (0, 0, 0, 0, 10)) := by
  apply Y.is
  unfold camera_Abort.f
  refine Y.bindE (cam_check _ _ _ _ h) (Y.pos rfl ?_)
  refine Y.ite (fun h => ?_) (fun h => ?_)
  · rw [if_pos h]
    exact Y.now rfl
  · rw [if_neg h]
    exact Y.now rfl
/-- What holds at the head of a round. -/
def Inv (i m l b n last : Int) : Prop := CamOk m l b n ∧ last ≤ n ∧ (m ≠ 0 → last < n) ∧ n ≤ i
theorem loop (L : List Int) (d : Nat) : ∀ (i at_ m l b n last : Int), 0 ≤ i → 100 - i = d → 0 ≤ at_ → at_ ≤ 2 * i → Inv i m l b n last →
    Ev (fun k => spykeep2_CameraNumbers.l0 k last i L at_ m l b n) true := by
  induction d with
  | zero =>
    intro i at_ m l b n last hi hd ha hb hI
    apply Y.is
    refine Y.step (fun n => spykeep2_CameraNumbers.l0.eq_2 _ _ _ _ _ _ _ _ _) ?_
    exact Y.neg (by omega) (Y.now rfl)
  | succ d ih =>
    intro i at_ m l b n last hi hd ha hb hI
    -- the end of a round
    have hend : ∀ (at_ m l b n last : Int), 0 ≤ at_ → at_ ≤ 2 * (i + 1) → Inv (i + 1) m l b n last → Ev (fun k => spykeep2_CameraNumbers.j2 k last i L at_ m l b n) true := by
      intro at_ m l b n last ha hb hI
      apply Y.is
      refine Y.step (fun n => spykeep2_CameraNumbers.j2.eq_2 _ _ _ _ _ _ _ _ _) ?_
      obtain ⟨h1, h2, h3, h4⟩ := hI
      obtain ⟨s1, s2, s3⟩ := camStep_ok m l b n h1
      rw [w64 (x := i + 1) (by omega) (by omega)]
      refine Y.bindE (cam_step _ _ _ _ h1) (Y.bindE (cam_check _ _ _ _ s1) (Y.pos rfl ?_))
      exact Y.ev (ih (i + 1) at_ _ _ _ _ last (by omega) (by omega) ha hb ⟨s1, by omega, fun h => by have := h3 (s3 h); omega, by omega⟩) rfl
    obtain ⟨h1, h2, h3, h4⟩ := hI
    have h1' := h1
    unfold CamOk at h1'
    -- the round's choice
    have hj : ∀ (at_ r : Int) (t : Bool), 0 ≤ at_ → at_ ≤ 2 * i + 1 → Ev (fun k => spykeep2_CameraNumbers.j1 k last i r t L at_ m l b n) true := by
      intro at_ r t ha hb
      apply Y.is
      refine Y.step (fun n => spykeep2_CameraNumbers.j1.eq_2 _ _ _ _ _ _ _ _ _ _ _) ?_
      refine Y.ite (fun ht => ?_) (fun ht => ?_)
      · refine Y.next L at_ 8 ha (by omega) (by omega) (by omega) ?_
        intro x hx1 hx2
        by_cases c : m = 0
        · obtain ⟨rfl, rfl, rfl⟩ : m = 0 ∧ l = 0 ∧ b = 0 := by omega
          refine Y.bindE (expose_idle n x (by omega) (by omega) hx1 (by omega)) ?_
          by_cases cx : x = 0
          · rw [if_pos cx]
            exact Y.pos rfl (Y.ev (hend _ _ _ _ _ _ (by omega) (by show at_ + 1 ≤ _; omega) ⟨by unfold CamOk; dsimp only; omega, by show last ≤ n + 1; omega, fun _ => by show last < n + 1; omega, by show n + 1 ≤ i + 1; omega⟩) rfl)
          · rw [if_neg cx]
            exact Y.pos rfl (Y.ev (hend _ _ _ _ _ _ (by omega) (by show at_ + 1 ≤ _; omega) ⟨by unfold CamOk; dsimp only; omega, by show last ≤ n + 1; omega, fun _ => by show last < n + 1; omega, by show n + 1 ≤ i + 1; omega⟩) rfl)
        · refine Y.bindE (expose_busy _ _ _ _ _ h1 c) (Y.neg (by simp) ?_)
          exact Y.ev (hend _ _ _ _ _ _ (by omega) (by show at_ + 1 ≤ _; omega) ⟨h1, h2, h3, by omega⟩) rfl
      · refine Y.ite (fun hr => ?_) (fun hr => ?_)
        · refine Y.bindE (abort_spec _ _ _ _ h1) ?_
          by_cases c : m = 1
          · rw [if_pos c]
            exact Y.pos rfl (Y.ev (hend _ _ _ _ _ _ (by omega) (by omega) ⟨by unfold CamOk; dsimp only; omega, h2, fun h => absurd rfl h, by show n ≤ i + 1; omega⟩) rfl)
          · rw [if_neg c]
            refine Y.neg (by simp) ?_
            exact Y.ev (hend _ _ _ _ _ _ (by omega) (by omega) ⟨h1, h2, h3, by omega⟩) rfl
        · refine Y.ite (fun hr => ?_) (fun hr => ?_)
          · by_cases c : m = 3
            · obtain ⟨rfl, rfl⟩ : m = 3 ∧ l = 0 := by omega
              refine Y.bindE (fetch_ready _ _ h1) (Y.pos rfl (Y.neg (by have := h3 (by omega); show ¬ n ≤ last; omega) ?_))
              exact Y.ev (hend _ _ _ _ _ _ (by omega) (by omega) ⟨by unfold CamOk; dsimp only; omega, by show n ≤ n; omega, fun h => absurd rfl h, by show n ≤ i + 1; omega⟩) rfl
            · refine Y.bindE (fetch_not _ _ _ _ h1 c) (Y.neg (by simp) ?_)
              exact Y.ev (hend _ _ _ _ _ _ (by omega) (by omega) ⟨h1, h2, h3, by omega⟩) rfl
          · exact Y.ev (hend _ _ _ _ _ _ (by omega) (by omega) ⟨h1, h2, h3, by omega⟩) rfl
    apply Y.is
    refine Y.step (fun n => spykeep2_CameraNumbers.l0.eq_2 _ _ _ _ _ _ _ _ _) ?_
    refine Y.pos (by omega) (Y.next L at_ 6 ha (by omega) (by omega) (by omega) ?_)
    intro r hr1 hr2
    refine Y.ite (fun _ => ?_) (fun _ => ?_)
    · exact Y.ev (hj _ _ _ (by omega) (by show at_ + 1 ≤ _; omega)) rfl
    · exact Y.ev (hj _ _ _ (by omega) (by show at_ + 1 ≤ _; omega)) rfl
theorem CameraNumbers : spykeep2_CameraNumbers.Pure := by
  intro L _ _ _
  apply Y.rounds
  unfold spykeep2_CameraNumbers.f
  refine Y.bindE exposes_spec (Y.pos rfl ?_)
  exact Y.ev (loop L 100 0 0 0 0 0 0 0 (by omega) (by omega) (by omega) (by omega) ⟨by unfold CamOk; omega, by omega, by omega, by omega⟩) rfl

end Go.Proofs.Ytdcciobkblpabaa.Pure
