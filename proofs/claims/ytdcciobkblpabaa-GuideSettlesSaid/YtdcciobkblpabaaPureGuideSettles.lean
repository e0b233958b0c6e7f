/- The errors of a guiding loop fall until they are at most Settle, and stay so. The conditions are those of the row alone: the list of raw numbers takes at most 2^47 - 4096 bytes, and each number is an int. -/
import Derived.Test.YtdcciobkblpabaaPGuideSettlesx3
set_option linter.unusedVariables false
set_option linter.unusedSimpArgs false
namespace Go.Proofs.Ytdcciobkblpabaa.Pure
open Go.RowKit Go.Proofs.Ytdcciobkblpabaa.PGuideSettles Go.Proofs.YtdcciobkblpabaaW.PrintWords Go.Proofs.YtdcciobkblpabaaW.PrintLast Go.Proofs.YtdcciobkblpabaaW.PrintMore

/-- With enough rounds g comes to a value that meets Q. -/
def Y {α : Type} (g : Nat → Option α) (Q : α → Prop) : Prop := ∃ r, Ev g r ∧ Q r
theorem Y.now {α : Type} {r : α} {Q : α → Prop} (h : Q r) : Y (fun _ => some r) Q := ⟨r, Ev.now r, h⟩
theorem Y.bind {α β : Type} {g : Nat → Option α} {f : Nat → α → Option β} {Q : β → Prop} (P : α → Prop) (h : Y g P) (k : ∀ a, P a → Y (fun n => f n a) Q) : Y (fun n => (g n).bind (f n)) Q := by
  obtain ⟨a, ha, hp⟩ := h
  obtain ⟨r, hr, hq⟩ := k a hp
  exact ⟨r, Ev.bind ha hr, hq⟩
theorem Y.bindE {α β : Type} {g : Nat → Option α} {f : Nat → α → Option β} {Q : β → Prop} {a : α} (h : Ev g a) (k : Y (fun n => f n a) Q) : Y (fun n => (g n).bind (f n)) Q := by
  obtain ⟨r, hr, hq⟩ := k
  exact ⟨r, Ev.bind h hr, hq⟩
theorem Y.bindS {α β : Type} {x : Option α} {f : Nat → α → Option β} {Q : β → Prop} {a : α} (h : x = some a) (k : Y (fun n => f n a) Q) : Y (fun n => x.bind (f n)) Q := by
  subst h
  exact k
theorem Y.pos {α : Type} {c : Prop} [Decidable c] {a b : Nat → Option α} {Q : α → Prop} (hc : c) (h : Y a Q) : Y (fun n => if c then a n else b n) Q := by
  simpa only [if_pos hc] using h
theorem Y.neg {α : Type} {c : Prop} [Decidable c] {a b : Nat → Option α} {Q : α → Prop} (hc : ¬ c) (h : Y b Q) : Y (fun n => if c then a n else b n) Q := by
  simpa only [if_neg hc] using h
theorem Y.ite {α : Type} {c : Prop} [Decidable c] {a b : Nat → Option α} {Q : α → Prop} (h : c → Y a Q) (k : ¬ c → Y b Q) : Y (fun n => if c then a n else b n) Q := by
  by_cases hc : c
  · exact Y.pos hc (h hc)
  · exact Y.neg hc (k hc)
theorem Y.step {α : Type} {g f : Nat → Option α} {Q : α → Prop} (h : ∀ k, g (k + 1) = f k) (k : Y f Q) : Y g Q := by
  obtain ⟨r, hr, hq⟩ := k
  exact ⟨r, Ev.step h hr, hq⟩
theorem Y.congr {α : Type} {g f : Nat → Option α} {Q : α → Prop} (h : ∀ k, g k = f k) (k : Y f Q) : Y g Q := by
  obtain ⟨r, hr, hq⟩ := k
  exact ⟨r, Ev.congr h hr, hq⟩
theorem Y.mono {α : Type} {g : Nat → Option α} {P Q : α → Prop} (h : Y g P) (k : ∀ r, P r → Q r) : Y g Q := by
  obtain ⟨r, hr, hq⟩ := h
  exact ⟨r, hr, k r hq⟩
theorem Y.is {α : Type} {g : Nat → Option α} {a : α} (h : Y g (fun r => r = a)) : Ev g a := by
  obtain ⟨r, hr, rfl⟩ := h
  exact hr
theorem Y.rounds {α : Type} {g : Nat → Option α} {a : α} (h : Y g (fun r => r = a)) : ∃ k, g k = some a := (Y.is h).rounds
theorem Y.ev {α : Type} {g : Nat → Option α} {a : α} {Q : α → Prop} (h : Ev g a) (q : Q a) : Y g Q := ⟨a, h, q⟩
theorem Y.S {α : Type} {x : Option α} {a : α} {Q : α → Prop} (h : x = some a) (q : Q a) : Y (fun _ => x) Q := by
  subst h
  exact Y.now q
/-- An int that fits is as it is. -/
theorem w64 {x : Int} (h0 : -9223372036854775808 ≤ x) (h1 : x ≤ 9223372036854775807) : wrap64 x = x := by
  unfold wrap64
  omega
theorem w64_range (x : Int) : -9223372036854775808 ≤ wrap64 x ∧ wrap64 x ≤ 9223372036854775807 := by
  unfold wrap64
  omega
theorem mx_max (a b : Int) : mx a b = max a b := by
  unfold mx
  split <;> omega
theorem mn_min (a b : Int) : mn a b = min a b := by
  unfold mn
  split <;> omega
theorem tmod_neg_add {x n : Int} (hn : 1 ≤ n) (h : Int.tmod x n < 0) : Int.tmod x n + n = x % n := by
  have h1 : Int.tmod x n = x % n - (if 0 ≤ x ∨ n ∣ x then 0 else Int.natAbs n : Nat) := Int.tmod_eq_emod
  have h2 := Int.emod_nonneg x (b := n) (by omega)
  have h3 : (n.natAbs : Int) = n := by omega
  rw [h1] at h ⊢
  split at h
  · exact absurd h (by omega)
  · rename_i h4
    rw [if_neg h4]
    omega
theorem tmod_of_nonneg {x n : Int} (hn : 1 ≤ n) (h : ¬ Int.tmod x n < 0) : Int.tmod x n = x % n := by
  have h1 : Int.tmod x n = x % n - (if 0 ≤ x ∨ n ∣ x then 0 else Int.natAbs n : Nat) := Int.tmod_eq_emod
  have h2 := Int.emod_lt_of_pos x (b := n) (by omega)
  have h3 : (n.natAbs : Int) = n := by omega
  rw [h1] at h ⊢
  split at h
  · rename_i h4
    rw [if_pos h4]
    omega
  · exact absurd (by omega) h
/-- Below reduces. -/
theorem below_spec (x n : Int) (h1 : 1 ≤ n) (h2 : n ≤ 4611686018427387904) : spymake_Below.f x n = some (x % n) := by
  unfold spymake_Below.f
  rw [if_neg (by omega), if_neg (by omega)]
  by_cases c : Int.tmod x n < 0
  · rw [if_pos c, tmod_neg_add h1 c, w64 (by have := Int.emod_nonneg x (b := n) (by omega); omega) (by have := Int.emod_lt_of_pos x (b := n) (by omega); omega)]
  · rw [if_neg c, tmod_of_nonneg h1 c]
theorem below_range (x n : Int) (h1 : 1 ≤ n) : 0 ≤ x % n ∧ x % n < n := ⟨Int.emod_nonneg x (by omega), Int.emod_lt_of_pos x (by omega)⟩
/-- Next gives a number below n, and counts. -/
theorem next_spec (L : List Int) (at_ n : Int) (ha : 0 ≤ at_) (hb : at_ ≤ 4611686018427387904) (h1 : 1 ≤ n) (h2 : n ≤ 4611686018427387904) :
    ∃ r, spymake_Stream_Next.f L at_ n = some (r, at_ + 1) ∧ 0 ≤ r ∧ r < n := by
  unfold spymake_Stream_Next.f
  rw [w64 (x := at_ + 1) (by omega) (by omega), w64 (x := at_ + 1 - 1) (by omega) (by omega)]
  by_cases c : (L.length : Int) = 0
  · rw [if_pos c, below_spec _ _ h1 h2]
    exact ⟨_, rfl, below_range _ _ h1⟩
  · rw [if_neg c, show at_ + 1 - 1 = at_ by omega]
    have e : Int.tmod at_ (L.length : Int) = at_ % (L.length : Int) := Int.tmod_eq_emod_of_nonneg ha
    have e1 := Int.emod_nonneg at_ (b := (L.length : Int)) c
    have e2 := Int.emod_lt_of_pos at_ (b := (L.length : Int)) (by omega)
    rw [e, if_pos e1, if_pos e2, below_spec _ 1073741824 (by omega) (by omega)]
    simp only [Option.bind_some]
    rw [below_spec _ _ h1 h2]
    exact ⟨_, rfl, below_range _ _ h1⟩
theorem Y.next {β : Type} {f : Nat → Int × Int → Option β} {Q : β → Prop} (L : List Int) (at_ n : Int) (ha : 0 ≤ at_) (hb : at_ ≤ 4611686018427387904) (h1 : 1 ≤ n) (h2 : n ≤ 4611686018427387904)
    (k : ∀ r, 0 ≤ r → r < n → Y (fun m => f m (r, at_ + 1)) Q) : Y (fun m => (spymake_Stream_Next.f L at_ n).bind (f m)) Q := by
  obtain ⟨r, hr, h3, h4⟩ := next_spec L at_ n ha hb h1 h2
  exact Y.bindS hr (k r h3 h4)
/-- Range gives a number from low to high. -/
theorem range_spec (L : List Int) (at_ lo hi : Int) (ha : 0 ≤ at_) (hb : at_ ≤ 4611686018427387904) (h1 : -1152921504606846976 ≤ lo) (h2 : lo ≤ hi) (h3 : hi ≤ 1152921504606846976) :
    ∃ r, spymake_Stream_Range.f L at_ lo hi = some (r, at_ + 1) ∧ lo ≤ r ∧ r ≤ hi := by
  unfold spymake_Stream_Range.f
  rw [if_neg (by omega), w64 (x := hi - lo) (by omega) (by omega), w64 (x := hi - lo + 1) (by omega) (by omega)]
  obtain ⟨r, hr, h4, h5⟩ := next_spec L at_ (hi - lo + 1) ha hb (by omega) (by omega)
  rw [hr]
  simp only [Option.bind_some]
  rw [w64 (x := lo + r) (by omega) (by omega)]
  exact ⟨_, rfl, by omega, by omega⟩
theorem Y.range {β : Type} {f : Nat → Int × Int → Option β} {Q : β → Prop} (L : List Int) (at_ lo hi : Int) (ha : 0 ≤ at_) (hb : at_ ≤ 4611686018427387904) (h1 : -1152921504606846976 ≤ lo) (h2 : lo ≤ hi) (h3 : hi ≤ 1152921504606846976)
    (k : ∀ r, lo ≤ r → r ≤ hi → Y (fun m => f m (r, at_ + 1)) Q) : Y (fun m => (spymake_Stream_Range.f L at_ lo hi).bind (f m)) Q := by
  obtain ⟨r, hr, h4, h5⟩ := range_spec L at_ lo hi ha hb h1 h2 h3
  exact Y.bindS hr (k r h4 h5)
theorem rd_set_eq (xs : List Int) (i v : Int) (h0 : 0 ≤ i) (h1 : i < xs.length) : rd (xs.set i.toNat v) i = v := by
  unfold rd
  rw [List.getD_eq_getElem?_getD, List.getElem?_set_self (by omega)]
  rfl
theorem rd_set_ne (xs : List Int) (i j v : Int) (h0 : 0 ≤ i) (h1 : 0 ≤ j) (h : i ≠ j) : rd (xs.set i.toNat v) j = rd xs j := by
  unfold rd
  rw [List.getD_eq_getElem?_getD, List.getD_eq_getElem?_getD, List.getElem?_set_ne (by omega)]
theorem rd_replicate (n : Nat) (i : Int) : rd (List.replicate n (0 : Int)) i = 0 := by
  unfold rd
  rw [List.getD_eq_getElem?_getD, List.getElem?_replicate]
  split <;> rfl
theorem tdiv_pos {a b : Int} (h : 0 ≤ a) : Int.tdiv a b = a / b := Int.tdiv_eq_ediv_of_nonneg h
theorem rd_app_lt (xs ys : List Int) (i : Int) (h0 : 0 ≤ i) (h : i < xs.length) : rd (xs ++ ys) i = rd xs i := by
  unfold rd
  rw [List.getD_eq_getElem?_getD, List.getD_eq_getElem?_getD, List.getElem?_append_left (by omega)]
theorem rd_app_eq (xs : List Int) (v i : Int) (h : i = xs.length) : rd (xs ++ [v]) i = v := by
  unfold rd
  rw [List.getD_eq_getElem?_getD, List.getElem?_append_right (by omega)]
  have : i.toNat - xs.length = 0 := by omega
  rw [this]
  rfl
theorem check_spec (m l : Int) (h0 : 0 ≤ m) (h1 : m ≤ 10000) (h2 : l ≤ m) (h3 : m - 40 ≤ l) : Ev (fun k => guide_Check.f k m l) 0 := by
  apply Y.is
  unfold guide_Check.f
  refine Y.neg (by omega) ?_
  refine Y.step (fun k => guide_Check.j0.eq_2 _ _ _ _) ?_
  refine Y.neg (by simp; omega) ?_
  refine Y.neg (by omega) ?_
  rw [w64 (by omega) (by omega)]
  exact Y.neg (by omega) (Y.now rfl)
theorem move_spec (m l p : Int) (h0 : 0 ≤ m) (h1 : m ≤ 10000) (h2 : l ≤ m) (h3 : m - 40 ≤ l) (h4 : 0 ≤ p) (h5 : p ≤ 10000) :
    Ev (fun k => guide_Move.f k m l p) (p, mn (mx l (p - 40)) p, 0) := by
  apply Y.is
  unfold guide_Move.f
  refine Y.bindE (check_spec m l h0 h1 h2 h3) ?_
  refine Y.pos rfl (Y.neg (by omega) (Y.neg (by omega) ?_))
  rw [w64 (by omega) (by omega)]
  exact Y.now rfl
theorem focuses_spec : Ev (fun k => spykeep2_focuses.f k) true := by
  apply Y.is
  unfold spykeep2_focuses.f
  refine Y.bindE (move_spec 100 100 50 (by omega) (by omega) (by omega) (by omega) (by omega) (by omega)) ?_
  exact Y.pos rfl (Y.now rfl)
/-- The correction: toward nought. -/
def corr (g x : Int) : Int := if 0 ≤ x then x * g / 16 else -((-x) * g / 16)
def settle (g D : Int) : Int := (16 * (D + 1) + g - 1) / g
theorem corr_spec (x g : Int) (h0 : 1 ≤ g) (h1 : g ≤ 16) (h2 : -1048576 ≤ x) (h3 : x ≤ 1048576) : guide_Correct.f x g = some (corr g x) := by
  have hb : -16777216 ≤ x * g ∧ x * g ≤ 16777216 := by
    constructor
    · have := Int.mul_le_mul_of_nonneg_right h2 (show 0 ≤ g by omega)
      omega
    · have := Int.mul_le_mul_of_nonneg_right h3 (show 0 ≤ g by omega)
      omega
  unfold guide_Correct.f corr
  rw [if_neg (by omega), if_neg (by omega), if_neg (by omega), if_neg (by omega), w64 (x := x * g) (by omega) (by omega)]
  by_cases c : 0 ≤ x
  · have : 0 ≤ x * g := Int.mul_nonneg c (by omega)
    rw [if_pos c, tdiv_pos this, w64 (by omega) (by omega)]
  · have : 0 ≤ -x * g := Int.mul_nonneg (by omega) (by omega)
    have e : Int.tdiv (x * g) 16 = -(-x * g / 16) := by
      rw [show x * g = -(-x * g) by rw [Int.neg_mul, Int.neg_neg], Int.neg_tdiv, tdiv_pos this]
    rw [if_neg c, e, w64 (by rw [Int.neg_mul] at this ⊢; omega) (by rw [Int.neg_mul] at this ⊢; omega)]
theorem settle_range (g D : Int) (h0 : 1 ≤ g) (h1 : g ≤ 16) (h2 : 0 ≤ D) (h3 : D ≤ 1048576) : D + 1 ≤ settle g D ∧ settle g D ≤ 16 * (D + 1) := by
  unfold settle
  have hc : g = 1 ∨ g = 2 ∨ g = 3 ∨ g = 4 ∨ g = 5 ∨ g = 6 ∨ g = 7 ∨ g = 8 ∨ g = 9 ∨ g = 10 ∨ g = 11 ∨ g = 12 ∨ g = 13 ∨ g = 14 ∨ g = 15 ∨ g = 16 := by omega
  rcases hc with h | h | h | h | h | h | h | h | h | h | h | h | h | h | h | h <;> subst h <;> omega
theorem settle_spec (g D : Int) (h0 : 1 ≤ g) (h1 : g ≤ 16) (h2 : 0 ≤ D) (h3 : D ≤ 1048576) : guide_Settle.f g D = some (settle g D, 0) := by
  have hr := settle_range g D h0 h1 h2 h3
  unfold guide_Settle.f
  rw [if_neg (by omega), if_neg (by omega), if_neg (by omega), if_neg (by omega), if_neg (by omega), w64 (x := D + 1) (by omega) (by omega), w64 (x := 16 * (D + 1)) (by omega) (by omega), w64 (x := 16 * (D + 1) + g) (by omega) (by omega),
    w64 (x := 16 * (D + 1) + g - 1) (by omega) (by omega), tdiv_pos (a := 16 * (D + 1) + g - 1) (by omega)]
  unfold settle at hr ⊢
  rw [w64 (by omega) (by omega)]
/-- One step of the loop. -/
theorem one_step (g D x d : Int) (h0 : 1 ≤ g) (h1 : g ≤ 16) (h2 : 0 ≤ D) (h3 : D ≤ 1048576) (h4 : -D ≤ d) (h5 : d ≤ D) (h6 : -1048576 ≤ x) (h7 : x ≤ 1048576) :
    (max x (-x) ≤ settle g D → max (x - corr g x + d) (-(x - corr g x + d)) ≤ settle g D) ∧ (settle g D < max x (-x) → max (x - corr g x + d) (-(x - corr g x + d)) < max x (-x)) := by
  unfold settle corr
  have hc : g = 1 ∨ g = 2 ∨ g = 3 ∨ g = 4 ∨ g = 5 ∨ g = 6 ∨ g = 7 ∨ g = 8 ∨ g = 9 ∨ g = 10 ∨ g = 11 ∨ g = 12 ∨ g = 13 ∨ g = 14 ∨ g = 15 ∨ g = 16 := by omega
  rcases hc with h | h | h | h | h | h | h | h | h | h | h | h | h | h | h | h <;> subst h <;> split <;> constructor <;> intro hx <;> omega
theorem step_range (g D x d : Int) (h0 : 1 ≤ g) (h1 : g ≤ 16) (h2 : 0 ≤ D) (h3 : D ≤ 300) (h4 : -D ≤ d) (h5 : d ≤ D) (h6 : -1048576 ≤ x) (h7 : x ≤ 1048576) :
    -1048576 ≤ x - corr g x + d ∧ x - corr g x + d ≤ 1048576 := by
  have h := one_step g D x d h0 h1 h2 (by omega) h4 h5 h6 h7
  have hr := settle_range g D h0 h1 h2 (by omega)
  by_cases c : max x (-x) ≤ settle g D
  · have := h.1 c
    omega
  · have := h.2 (by omega)
    omega
theorem corr_range (g x : Int) (h0 : 1 ≤ g) (h1 : g ≤ 16) (h6 : -1048576 ≤ x) (h7 : x ≤ 1048576) : -1048576 ≤ corr g x ∧ corr g x ≤ 1048576 := by
  unfold corr
  have hc : g = 1 ∨ g = 2 ∨ g = 3 ∨ g = 4 ∨ g = 5 ∨ g = 6 ∨ g = 7 ∨ g = 8 ∨ g = 9 ∨ g = 10 ∨ g = 11 ∨ g = 12 ∨ g = 13 ∨ g = 14 ∨ g = 15 ∨ g = 16 := by omega
  rcases hc with h | h | h | h | h | h | h | h | h | h | h | h | h | h | h | h <;> subst h <;> split <;> omega
/-- A list of errors, each out of the one before. -/
def Errs (g D : Int) (xs : List Int) : Prop := (∀ j : Int, 0 ≤ j → j < xs.length → -1048576 ≤ rd xs j ∧ rd xs j ≤ 1048576) ∧
  (∀ j : Int, 1 ≤ j → j < xs.length → ∃ d, -D ≤ d ∧ d ≤ D ∧ rd xs j = rd xs (j - 1) - corr g (rd xs (j - 1)) + d)
theorem loop_spec (g D : Int) (h0 : 1 ≤ g) (h1 : g ≤ 16) (h2 : 0 ≤ D) (h3 : D ≤ 300) (ds : List Int) (hds : ds.length ≤ 1000) (hd : ∀ j : Int, 0 ≤ j → j < ds.length → -D ≤ rd ds j ∧ rd ds j ≤ D) (d : Nat) :
    ∀ (i : Int) (xs : List Int), 0 ≤ i → ds.length - i = d → xs.length = i + 1 → Errs g D xs → Y (fun k => guide_Loop.l0 k g xs ds (ds.length : Int) i) (fun r => r.2 = 0 ∧ r.1.length = ds.length + 1 ∧ Errs g D r.1) := by
  induction d with
  | zero =>
    intro i xs hi hdd hx hE
    refine Y.step (fun n => guide_Loop.l0.eq_2 _ _ _ _ _ _) ?_
    exact Y.neg (by omega) (Y.now ⟨rfl, by show xs.length = ds.length + 1; omega, hE⟩)
  | succ d ih =>
    intro i xs hi hdd hx hE
    have hdi := hd i hi (by omega)
    have hxi := hE.1 i hi (by omega)
    refine Y.step (fun n => guide_Loop.l0.eq_2 _ _ _ _ _ _) ?_
    rw [w64 (x := (xs.length : Int) - 1) (by omega) (by omega), show (xs.length : Int) - 1 = i by omega, w64 (x := i + 1) (by omega) (by omega)]
    refine Y.pos (by omega) (Y.pos hi (Y.pos (by omega) (Y.neg (by omega) (Y.neg (by omega) (Y.pos hi (Y.pos (by omega) ?_))))))
    refine Y.bindS (corr_spec _ g h0 h1 hxi.1 hxi.2) ?_
    refine Y.pos (by omega) ?_
    have hcr := corr_range g (rd xs i) h0 h1 hxi.1 hxi.2
    have hsr := step_range g D (rd xs i) (rd ds i) h0 h1 h2 h3 hdi.1 hdi.2 hxi.1 hxi.2
    rw [w64 (x := rd xs i - corr g (rd xs i)) (by omega) (by omega), w64 (x := rd xs i - corr g (rd xs i) + rd ds i) (by omega) (by omega)]
    refine ih (i + 1) _ (by omega) (by omega) (by simp; omega) ⟨?_, ?_⟩
    · intro j hj1 hj2
      by_cases c : j = xs.length
      · rw [rd_app_eq _ _ _ c]
        exact hsr
      · rw [rd_app_lt _ _ _ hj1 (by simp at hj2; omega)]
        exact hE.1 j hj1 (by simp at hj2; omega)
    · intro j hj1 hj2
      by_cases c : j = xs.length
      · rw [rd_app_eq _ _ _ c, rd_app_lt _ _ _ (by omega) (by omega), show j - 1 = i by omega]
        exact ⟨_, hdi.1, hdi.2, rfl⟩
      · rw [rd_app_lt _ _ _ (by omega) (by simp at hj2; omega), rd_app_lt _ _ _ (by omega) (by simp at hj2; omega)]
        exact hE.2 j hj1 (by simp at hj2; omega)
theorem out_spec (g D : Int) (h0 : 1 ≤ g) (h1 : g ≤ 16) (h2 : 0 ≤ D) (h3 : D ≤ 300) (xs : List Int) (hE : Errs g D xs) (hx : xs.length = 61) (d : Nat) : ∀ (i : Int), 1 ≤ i → 61 - i = d →
    Ev (fun k => spykeep2_GuideSettles.l1 k xs (settle g D) i) true := by
  induction d with
  | zero =>
    intro i hi hd
    apply Y.is
    refine Y.step (fun n => spykeep2_GuideSettles.l1.eq_2 _ _ _ _) ?_
    exact Y.neg (by omega) (Y.now rfl)
  | succ d ih =>
    intro i hi hd
    apply Y.is
    refine Y.step (fun n => spykeep2_GuideSettles.l1.eq_2 _ _ _ _) ?_
    have ha := hE.1 (i - 1) (by omega) (by omega)
    have hb := hE.1 i (by omega) (by omega)
    obtain ⟨δ, hd1, hd2, he⟩ := hE.2 i hi (by omega)
    have hs := one_step g D (rd xs (i - 1)) δ h0 h1 h2 (by omega) hd1 hd2 ha.1 ha.2
    rw [← he] at hs
    rw [w64 (x := i - 1) (by omega) (by omega), w64 (x := i + 1) (by omega) (by omega), w64 (x := -(rd xs (i - 1))) (by omega) (by omega), w64 (x := -(rd xs i)) (by omega) (by omega)]
    simp only [mx_max]
    refine Y.pos (by omega) (Y.pos (by omega) (Y.pos (by omega) (Y.pos (by omega) ?_)))
    have hn := ih (i + 1) (by omega) (by omega)
    refine Y.ite (fun c => ?_) (fun c => ?_)
    · have := hs.1 c
      refine Y.neg (by omega) (Y.neg (by omega) (Y.ev hn rfl))
    · have := hs.2 (by omega)
      refine Y.pos (by omega) (Y.neg (by omega) (Y.ev hn rfl))
theorem draws (L : List Int) (a2 g D : Int) (h0 : 1 ≤ g) (h1 : g ≤ 16) (h2 : 0 ≤ D) (h3 : D ≤ 300) (d : Nat) : ∀ (i at_ : Int) (ds : List Int), 0 ≤ i → 60 - i = d → ds.length = i → 0 ≤ at_ → at_ ≤ 10 + i →
    (∀ j : Int, 0 ≤ j → j < ds.length → -D ≤ rd ds j ∧ rd ds j ≤ D) → Ev (fun k => spykeep2_GuideSettles.l0 k a2 g D ds i L at_) true := by
  induction d with
  | zero =>
    intro i at_ ds hi hd hl ha hb hD
    apply Y.is
    refine Y.step (fun n => spykeep2_GuideSettles.l0.eq_2 _ _ _ _ _ _ _ _) ?_
    refine Y.neg (by omega) (Y.bindS (below_spec a2 2097152 (by omega) (by omega)) ?_)
    have hr := below_range a2 2097152 (by omega)
    generalize a2 % 2097152 = s at hr ⊢
    rw [w64 (x := s - 1048576) (by omega) (by omega)]
    refine Y.bind (fun r => r.2 = 0 ∧ r.1.length = 61 ∧ Errs g D r.1) ?_ ?_
    · unfold guide_Loop.f
      refine Y.neg (by omega) (Y.neg (by omega) (Y.neg (by omega) ?_))
      refine Y.step (fun n => guide_Loop.j0.eq_2 _ _ _ _ _) ?_
      refine Y.neg (by simp; omega) (Y.neg (by omega) ?_)
      refine (loop_spec g D h0 h1 h2 h3 ds (by omega) hD ds.length 0 [s - 1048576] (by omega) (by omega) (by simp) ⟨?_, ?_⟩).mono ?_
      · intro j hj1 hj2
        have : j = 0 := by simp at hj2; omega
        subst this
        show -1048576 ≤ s - 1048576 ∧ s - 1048576 ≤ 1048576
        omega
      · intro j hj1 hj2
        simp at hj2
        omega
      · rintro ⟨r1, r2⟩ ⟨e1, e2, e3⟩
        exact ⟨e1, by have e2' : r1.length = ds.length + 1 := e2; show r1.length = 61; omega, e3⟩
    · rintro ⟨xs, e⟩ ⟨he, hx, hE⟩
      refine Y.bindS (settle_spec g D h0 h1 h2 (by omega)) ?_
      refine Y.pos he (Y.pos rfl ?_)
      refine Y.step (fun n => spykeep2_GuideSettles.j1.eq_2 _ _ _ _) ?_
      have hx' : xs.length = 61 := hx
      refine Y.neg (by simp [hx']) ?_
      exact Y.ev (out_spec g D h0 h1 h2 h3 xs hE hx 60 1 (by omega) (by omega)) rfl
  | succ d ih =>
    intro i at_ ds hi hd hl ha hb hD
    apply Y.is
    refine Y.step (fun n => spykeep2_GuideSettles.l0.eq_2 _ _ _ _ _ _ _ _) ?_
    rw [w64 (x := -D) (by omega) (by omega), w64 (x := i + 1) (by omega) (by omega)]
    refine Y.pos (by omega) (Y.range L at_ (-D) D ha (by omega) (by omega) (by omega) (by omega) ?_)
    intro r hr1 hr2
    refine Y.pos (by omega) ?_
    refine Y.ev (ih (i + 1) (at_ + 1) _ (by omega) (by omega) (by simp; omega) (by omega) (by omega) ?_) rfl
    intro j hj1 hj2
    by_cases c : j = ds.length
    · rw [rd_app_eq _ _ _ c]
      exact ⟨hr1, hr2⟩
    · rw [rd_app_lt _ _ _ hj1 (by simp at hj2; omega)]
      exact hD j hj1 (by simp at hj2; omega)
theorem GuideSettles : spykeep2_GuideSettles.Pure := by
  intro L a1 a2 _ _ _ _ _
  apply Y.rounds
  unfold spykeep2_GuideSettles.f
  refine Y.bindE focuses_spec (Y.pos rfl ?_)
  refine Y.bindS (below_spec a1 16 (by omega) (by omega)) ?_
  have hr := below_range a1 16 (by omega)
  rw [w64 (x := a1 % 16 + 1) (by omega) (by omega)]
  refine Y.next L 0 300 (by omega) (by omega) (by omega) (by omega) ?_
  intro D hD1 hD2
  exact Y.ev (draws L a2 (a1 % 16 + 1) D (by omega) (by omega) hD1 (by omega) 60 0 (0 + 1) [] (by omega) (by omega) rfl (by omega) (by omega) (by intro j h0 h1; simp at h1; omega)) rfl

end Go.Proofs.Ytdcciobkblpabaa.Pure
