/- After the moves of Path, the lens is where it was to be and the motor Gap above it, whatever happened before. The conditions are those of the row alone: the list of raw numbers takes at most 2^47 - 4096 bytes, and each number is an int. -/
import Derived.Test.YtdcciobkblpabaaPGuidePathx3
set_option linter.unusedVariables false
set_option linter.unusedSimpArgs false
namespace Go.Proofs.Ytdcciobkblpabaa.Pure
open Go.RowKit Go.Proofs.Ytdcciobkblpabaa.PGuidePath Go.Proofs.YtdcciobkblpabaaW.PrintWords Go.Proofs.YtdcciobkblpabaaW.PrintLast Go.Proofs.YtdcciobkblpabaaW.PrintMore

/-- With enough rounds g comes to a value that meets Q. -/
def Y {α : Type} (g : Nat → Option α) (Q : α → Prop) : Prop := ∃ r, Ev g r ∧ Q r
theorem Y.now {α : Type} {r : α} {Q : α → Prop} (h : Q r) : Y (fun _ => some r) Q := ⟨r, Ev.now r, h⟩
theorem Y.bind {α β : Type} {g : Nat → Option α} {f : Nat → α → Option β} {Q : β → Prop} (P : α → Prop) (h : Y g P) (k : ∀ a, P a → Y (fun n => f n a) Q) : Y (fun n => (g n).bind (f n)) Q := by
  obtain ⟨a, ha, hp⟩ := h
  obtain ⟨r, hr, hq⟩ := k a hp
  exact ⟨r, Ev.bind ha hr, hq⟩
theorem Y.bindE {α β : Type} {g : Nat → Option α} {f : Nat → α → Option β} {Q : β → Prop} {a : α} (h : Ev g a) (k : Y (fun n => f n a) Q) : Y (fun n => (g n).bind (f n)) Q := by
  obtain ⟨r, hr, hq⟩ := k
  exact ⟨r, Ev.bind h hr, hq⟩
theorem Y.bindS {α β : Type} {x : Option α} {f : Nat → α → Option β} {Q : β → Prop} {a : α} (h : x = some a) (k : Y (fun n => f n a) Q) : Y (fun n => x.bind (f n)) Q := by
  subst h
  exact k
theorem Y.pos {α : Type} {c : Prop} [Decidable c] {a b : Nat → Option α} {Q : α → Prop} (hc : c) (h : Y a Q) : Y (fun n => if c then a n else b n) Q := by
  simpa only [if_pos hc] using h
theorem Y.neg {α : Type} {c : Prop} [Decidable c] {a b : Nat → Option α} {Q : α → Prop} (hc : ¬ c) (h : Y b Q) : Y (fun n => if c then a n else b n) Q := by
  simpa only [if_neg hc] using h
theorem Y.ite {α : Type} {c : Prop} [Decidable c] {a b : Nat → Option α} {Q : α → Prop} (h : c → Y a Q) (k : ¬ c → Y b Q) : Y (fun n => if c then a n else b n) Q := by
  by_cases hc : c
  · exact Y.pos hc (h hc)
  · exact Y.neg hc (k hc)
theorem Y.step {α : Type} {g f : Nat → Option α} {Q : α → Prop} (h : ∀ k, g (k + 1) = f k) (k : Y f Q) : Y g Q := by
  obtain ⟨r, hr, hq⟩ := k
  exact ⟨r, Ev.step h hr, hq⟩
theorem Y.congr {α : Type} {g f : Nat → Option α} {Q : α → Prop} (h : ∀ k, g k = f k) (k : Y f Q) : Y g Q := by
  obtain ⟨r, hr, hq⟩ := k
  exact ⟨r, Ev.congr h hr, hq⟩
theorem Y.mono {α : Type} {g : Nat → Option α} {P Q : α → Prop} (h : Y g P) (k : ∀ r, P r → Q r) : Y g Q := by
  obtain ⟨r, hr, hq⟩ := h
  exact ⟨r, hr, k r hq⟩
theorem Y.is {α : Type} {g : Nat → Option α} {a : α} (h : Y g (fun r => r = a)) : Ev g a := by
  obtain ⟨r, hr, rfl⟩ := h
  exact hr
theorem Y.rounds {α : Type} {g : Nat → Option α} {a : α} (h : Y g (fun r => r = a)) : ∃ k, g k = some a := (Y.is h).rounds
theorem Y.ev {α : Type} {g : Nat → Option α} {a : α} {Q : α → Prop} (h : Ev g a) (q : Q a) : Y g Q := ⟨a, h, q⟩
theorem Y.S {α : Type} {x : Option α} {a : α} {Q : α → Prop} (h : x = some a) (q : Q a) : Y (fun _ => x) Q := by
  subst h
  exact Y.now q
/-- An int that fits is as it is. -/
theorem w64 {x : Int} (h0 : -9223372036854775808 ≤ x) (h1 : x ≤ 9223372036854775807) : wrap64 x = x := by
  unfold wrap64
  omega
theorem w64_range (x : Int) : -9223372036854775808 ≤ wrap64 x ∧ wrap64 x ≤ 9223372036854775807 := by
  unfold wrap64
  omega
theorem mx_max (a b : Int) : mx a b = max a b := by
  unfold mx
  split <;> omega
theorem mn_min (a b : Int) : mn a b = min a b := by
  unfold mn
  split <;> omega
theorem tmod_neg_add {x n : Int} (hn : 1 ≤ n) (h : Int.tmod x n < 0) : Int.tmod x n + n = x % n := by
  have h1 : Int.tmod x n = x % n - (if 0 ≤ x ∨ n ∣ x then 0 else Int.natAbs n : Nat) := Int.tmod_eq_emod
  have h2 := Int.emod_nonneg x (b := n) (by omega)
  have h3 : (n.natAbs : Int) = n := by omega
  rw [h1] at h ⊢
  split at h
  · exact absurd h (by omega)
  · rename_i h4
    rw [if_neg h4]
    omega
theorem tmod_of_nonneg {x n : Int} (hn : 1 ≤ n) (h : ¬ Int.tmod x n < 0) : Int.tmod x n = x % n := by
  have h1 : Int.tmod x n = x % n - (if 0 ≤ x ∨ n ∣ x then 0 else Int.natAbs n : Nat) := Int.tmod_eq_emod
  have h2 := Int.emod_lt_of_pos x (b := n) (by omega)
  have h3 : (n.natAbs : Int) = n := by omega
  rw [h1] at h ⊢
  split at h
  · rename_i h4
    rw [if_pos h4]
    omega
  · exact absurd (by omega) h
/-- Below reduces. -/
theorem below_spec (x n : Int) (h1 : 1 ≤ n) (h2 : n ≤ 4611686018427387904) : spymake_Below.f x n = some (x % n) := by
  unfold spymake_Below.f
  rw [if_neg (by omega), if_neg (by omega)]
  by_cases c : Int.tmod x n < 0
  · rw [if_pos c, tmod_neg_add h1 c, w64 (by have := Int.emod_nonneg x (b := n) (by omega); omega) (by have := Int.emod_lt_of_pos x (b := n) (by omega); omega)]
  · rw [if_neg c, tmod_of_nonneg h1 c]
theorem below_range (x n : Int) (h1 : 1 ≤ n) : 0 ≤ x % n ∧ x % n < n := ⟨Int.emod_nonneg x (by omega), Int.emod_lt_of_pos x (by omega)⟩
/-- Next gives a number below n, and counts. -/
theorem next_spec (L : List Int) (at_ n : Int) (ha : 0 ≤ at_) (hb : at_ ≤ 4611686018427387904) (h1 : 1 ≤ n) (h2 : n ≤ 4611686018427387904) :
    ∃ r, spymake_Stream_Next.f L at_ n = some (r, at_ + 1) ∧ 0 ≤ r ∧ r < n := by
  unfold spymake_Stream_Next.f
  rw [w64 (x := at_ + 1) (by omega) (by omega), w64 (x := at_ + 1 - 1) (by omega) (by omega)]
  by_cases c : (L.length : Int) = 0
  · rw [if_pos c, below_spec _ _ h1 h2]
    exact ⟨_, rfl, below_range _ _ h1⟩
  · rw [if_neg c, show at_ + 1 - 1 = at_ by omega]
    have e : Int.tmod at_ (L.length : Int) = at_ % (L.length : Int) := Int.tmod_eq_emod_of_nonneg ha
    have e1 := Int.emod_nonneg at_ (b := (L.length : Int)) c
    have e2 := Int.emod_lt_of_pos at_ (b := (L.length : Int)) (by omega)
    rw [e, if_pos e1, if_pos e2, below_spec _ 1073741824 (by omega) (by omega)]
    simp only [Option.bind_some]
    rw [below_spec _ _ h1 h2]
    exact ⟨_, rfl, below_range _ _ h1⟩
theorem Y.next {β : Type} {f : Nat → Int × Int → Option β} {Q : β → Prop} (L : List Int) (at_ n : Int) (ha : 0 ≤ at_) (hb : at_ ≤ 4611686018427387904) (h1 : 1 ≤ n) (h2 : n ≤ 4611686018427387904)
    (k : ∀ r, 0 ≤ r → r < n → Y (fun m => f m (r, at_ + 1)) Q) : Y (fun m => (spymake_Stream_Next.f L at_ n).bind (f m)) Q := by
  obtain ⟨r, hr, h3, h4⟩ := next_spec L at_ n ha hb h1 h2
  exact Y.bindS hr (k r h3 h4)
theorem check_spec (m l : Int) (h0 : 0 ≤ m) (h1 : m ≤ 10000) (h2 : l ≤ m) (h3 : m - 40 ≤ l) : Ev (fun k => guide_Check.f k m l) 0 := by
  apply Y.is
  unfold guide_Check.f
  refine Y.neg (by omega) ?_
  refine Y.step (fun k => guide_Check.j0.eq_2 _ _ _ _) ?_
  refine Y.neg (by simp; omega) ?_
  refine Y.neg (by omega) ?_
  rw [w64 (by omega) (by omega)]
  exact Y.neg (by omega) (Y.now rfl)
theorem move_spec (m l p : Int) (h0 : 0 ≤ m) (h1 : m ≤ 10000) (h2 : l ≤ m) (h3 : m - 40 ≤ l) (h4 : 0 ≤ p) (h5 : p ≤ 10000) :
    Ev (fun k => guide_Move.f k m l p) (p, mn (mx l (p - 40)) p, 0) := by
  apply Y.is
  unfold guide_Move.f
  refine Y.bindE (check_spec m l h0 h1 h2 h3) ?_
  refine Y.pos rfl (Y.neg (by omega) (Y.neg (by omega) ?_))
  rw [w64 (by omega) (by omega)]
  exact Y.now rfl
theorem focuses_spec : Ev (fun k => spykeep2_focuses.f k) true := by
  apply Y.is
  unfold spykeep2_focuses.f
  refine Y.bindE (move_spec 100 100 50 (by omega) (by omega) (by omega) (by omega) (by omega) (by omega)) ?_
  exact Y.pos rfl (Y.now rfl)
theorem path_spec (m l x : Int) (h0 : 0 ≤ m) (h1 : m ≤ 10000) (h2 : l ≤ m) (h3 : m - 40 ≤ l) (h4 : 0 ≤ x) (h5 : x ≤ 9960) :
    Ev (fun k => guide_Path.f k m l x) (if l > x then [x, x + 40] else [x + 40], 0) := by
  apply Y.is
  unfold guide_Path.f
  refine Y.bindE (check_spec m l h0 h1 h2 h3) ?_
  refine Y.pos rfl (Y.neg (by omega) ?_)
  refine Y.step (fun k => guide_Path.j0.eq_2 _ _ _ _ _) ?_
  refine Y.neg (by simp; omega) ?_
  rw [w64 (x := x + 40) (by omega) (by omega)]
  refine Y.ite (fun h => ?_) (fun h => ?_)
  · rw [if_pos h]
    exact Y.now rfl
  · rw [if_neg h]
    exact Y.now rfl
/-- The moves of the path, with one or two points. -/
theorem walk_one (k0 : Int) (m l x : Int) (h0 : 0 ≤ m) (h1 : m ≤ 10000) (h2 : l ≤ m) (h3 : m - 40 ≤ l) (h4 : 0 ≤ x) (h5 : x ≤ 9960) (hl : l ≤ x) (xs : List Int) (i : Int) (hi : 0 ≤ i) (hi2 : i + 1 = xs.length) (hx : rd xs i = x + 40) (hi3 : i ≤ 5) :
    Ev (fun k => spykeep2_GuidePath.l1 k x xs (xs.length : Int) i m l) true := by
  apply Y.is
  refine Y.step (fun k => spykeep2_GuidePath.l1.eq_2 _ _ _ _ _ _ _) ?_
  refine Y.pos (by omega) (Y.pos hi (Y.pos (by omega) ?_))
  rw [hx]
  refine Y.bindE (move_spec m l (x + 40) h0 h1 h2 h3 (by omega) (by omega)) ?_
  refine Y.pos rfl ?_
  rw [w64 (x := i + 1) (by omega) (by omega)]
  refine Y.step (fun k => spykeep2_GuidePath.l1.eq_2 _ _ _ _ _ _ _) ?_
  refine Y.neg (by omega) (Y.now ?_)
  rw [w64 (x := x + 40) (by omega) (by omega)]
  have : mn (mx l (x + 40 - 40)) (x + 40) = x := by
    rw [mn_min, mx_max]
    omega
  rw [this]
  simp
theorem walk_path (m l x : Int) (h0 : 0 ≤ m) (h1 : m ≤ 10000) (h2 : l ≤ m) (h3 : m - 40 ≤ l) (h4 : 0 ≤ x) (h5 : x ≤ 9960) :
    Ev (fun k => spykeep2_GuidePath.l1 k x (if l > x then [x, x + 40] else [x + 40]) ((if l > x then [x, x + 40] else [x + 40]).length : Int) 0 m l) true := by
  by_cases c : l > x
  · rw [if_pos c]
    apply Y.is
    refine Y.step (fun k => spykeep2_GuidePath.l1.eq_2 _ _ _ _ _ _ _) ?_
    refine Y.pos (by simp) (Y.pos (by simp) (Y.pos (by simp) ?_))
    rw [show rd [x, x + 40] 0 = x from rfl]
    refine Y.bindE (move_spec m l x h0 h1 h2 h3 (by omega) (by omega)) ?_
    refine Y.pos rfl ?_
    have e : mn (mx l (x - 40)) x = x := by
      rw [mn_min, mx_max]
      omega
    simp only [e]
    rw [w64 (x := 0 + 1) (by omega) (by omega)]
    have := walk_one 0 x x x (by omega) (by omega) (by omega) (by omega) h4 h5 (by omega) [x, x + 40] 1 (by omega) (by simp) rfl (by omega)
    exact Y.ev this rfl
  · rw [if_neg c]
    exact walk_one 0 m l x h0 h1 h2 h3 h4 h5 (by omega) [x + 40] 0 (by omega) (by simp) rfl (by omega)
theorem loop_spec (L : List Int) (a1 n : Int) (hn : n ≤ 12) (d : Nat) : ∀ (i at_ m l : Int), 0 ≤ i → n - i = d → 0 ≤ at_ → at_ ≤ 100 + i → 0 ≤ m → m ≤ 10000 → l ≤ m → m - 40 ≤ l →
    Ev (fun k => spykeep2_GuidePath.l0 k a1 n i L at_ m l) true := by
  induction d with
  | zero =>
    intro i at_ m l hi hd ha hb h0 h1 h2 h3
    apply Y.is
    refine Y.step (fun k => spykeep2_GuidePath.l0.eq_2 _ _ _ _ _ _ _ _) ?_
    refine Y.neg (by omega) ?_
    refine Y.bindS (below_spec a1 9961 (by omega) (by omega)) ?_
    have hr := below_range a1 9961 (by omega)
    refine Y.bindE (path_spec m l (a1 % 9961) h0 h1 h2 h3 (by omega) (by omega)) ?_
    refine Y.pos rfl ?_
    refine Y.step (fun k => spykeep2_GuidePath.j1.eq_2 _ _ _ _ _ _) ?_
    refine Y.neg (by by_cases c : l > a1 % 9961 <;> simp [c]) ?_
    exact Y.ev (walk_path m l (a1 % 9961) h0 h1 h2 h3 (by omega) (by omega)) rfl
  | succ d ih =>
    intro i at_ m l hi hd ha hb h0 h1 h2 h3
    apply Y.is
    refine Y.step (fun k => spykeep2_GuidePath.l0.eq_2 _ _ _ _ _ _ _ _) ?_
    refine Y.pos (by omega) ?_
    refine Y.next L at_ 10001 ha (by omega) (by omega) (by omega) ?_
    intro r hr1 hr2
    refine Y.bindE (move_spec m l r h0 h1 h2 h3 (by omega) (by omega)) ?_
    refine Y.pos rfl ?_
    rw [w64 (x := i + 1) (by omega) (by omega)]
    refine Y.ev (ih (i + 1) (at_ + 1) r (mn (mx l (r - 40)) r) (by omega) (by omega) (by omega) (by omega) (by omega) (by omega) ?_ ?_) rfl
    · rw [mn_min, mx_max]
      omega
    · rw [mn_min, mx_max]
      omega
theorem GuidePath : spykeep2_GuidePath.Pure := by
  intro L a1 _ _ _ _
  apply Y.rounds
  unfold spykeep2_GuidePath.f
  refine Y.bindE focuses_spec (Y.pos rfl ?_)
  refine Y.next L 0 12 (by omega) (by omega) (by omega) (by omega) ?_
  intro r hr1 hr2
  exact Y.ev (loop_spec L a1 r (by omega) r.toNat 0 (0 + 1) 500 480 (by omega) (by omega) (by omega) (by omega) (by omega) (by omega) (by omega) (by omega)) rfl

end Go.Proofs.Ytdcciobkblpabaa.Pure
