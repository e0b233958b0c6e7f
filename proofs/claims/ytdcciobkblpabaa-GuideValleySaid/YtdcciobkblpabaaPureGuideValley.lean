/- In a table that falls strictly and then rises strictly, the least element is found after looking at few others. The conditions are those of the row alone: the list of raw numbers takes at most 2^47 - 4096 bytes, and each number is an int. -/
import Derived.Test.YtdcciobkblpabaaPGuideValleyx3
set_option linter.unusedVariables false
set_option linter.unusedSimpArgs false
namespace Go.Proofs.Ytdcciobkblpabaa.Pure
open Go.RowKit Go.Proofs.Ytdcciobkblpabaa.PGuideValley Go.Proofs.YtdcciobkblpabaaW.PrintWords Go.Proofs.YtdcciobkblpabaaW.PrintLast Go.Proofs.YtdcciobkblpabaaW.PrintMore

/-- With enough rounds g comes to a value that meets Q. -/
def Y {α : Type} (g : Nat → Option α) (Q : α → Prop) : Prop := ∃ r, Ev g r ∧ Q r
theorem Y.now {α : Type} {r : α} {Q : α → Prop} (h : Q r) : Y (fun _ => some r) Q := ⟨r, Ev.now r, h⟩
theorem Y.bind {α β : Type} {g : Nat → Option α} {f : Nat → α → Option β} {Q : β → Prop} (P : α → Prop) (h : Y g P) (k : ∀ a, P a → Y (fun n => f n a) Q) : Y (fun n => (g n).bind (f n)) Q := by
  obtain ⟨a, ha, hp⟩ := h
  obtain ⟨r, hr, hq⟩ := k a hp
  exact ⟨r, Ev.bind ha hr, hq⟩
theorem Y.bindE {α β : Type} {g : Nat → Option α} {f : Nat → α → Option β} {Q : β → Prop} {a : α} (h : Ev g a) (k : Y (fun n => f n a) Q) : Y (fun n => (g n).bind (f n)) Q := by
  obtain ⟨r, hr, hq⟩ := k
  exact ⟨r, Ev.bind h hr, hq⟩
theorem Y.bindS {α β : Type} {x : Option α} {f : Nat → α → Option β} {Q : β → Prop} {a : α} (h : x = some a) (k : Y (fun n => f n a) Q) : Y (fun n => x.bind (f n)) Q := by
  subst h
  exact k
theorem Y.pos {α : Type} {c : Prop} [Decidable c] {a b : Nat → Option α} {Q : α → Prop} (hc : c) (h : Y a Q) : Y (fun n => if c then a n else b n) Q := by
  simpa only [if_pos hc] using h
theorem Y.neg {α : Type} {c : Prop} [Decidable c] {a b : Nat → Option α} {Q : α → Prop} (hc : ¬ c) (h : Y b Q) : Y (fun n => if c then a n else b n) Q := by
  simpa only [if_neg hc] using h
theorem Y.ite {α : Type} {c : Prop} [Decidable c] {a b : Nat → Option α} {Q : α → Prop} (h : c → Y a Q) (k : ¬ c → Y b Q) : Y (fun n => if c then a n else b n) Q := by
  by_cases hc : c
  · exact Y.pos hc (h hc)
  · exact Y.neg hc (k hc)
theorem Y.step {α : Type} {g f : Nat → Option α} {Q : α → Prop} (h : ∀ k, g (k + 1) = f k) (k : Y f Q) : Y g Q := by
  obtain ⟨r, hr, hq⟩ := k
  exact ⟨r, Ev.step h hr, hq⟩
theorem Y.congr {α : Type} {g f : Nat → Option α} {Q : α → Prop} (h : ∀ k, g k = f k) (k : Y f Q) : Y g Q := by
  obtain ⟨r, hr, hq⟩ := k
  exact ⟨r, Ev.congr h hr, hq⟩
theorem Y.mono {α : Type} {g : Nat → Option α} {P Q : α → Prop} (h : Y g P) (k : ∀ r, P r → Q r) : Y g Q := by
  obtain ⟨r, hr, hq⟩ := h
  exact ⟨r, hr, k r hq⟩
theorem Y.is {α : Type} {g : Nat → Option α} {a : α} (h : Y g (fun r => r = a)) : Ev g a := by
  obtain ⟨r, hr, rfl⟩ := h
  exact hr
theorem Y.rounds {α : Type} {g : Nat → Option α} {a : α} (h : Y g (fun r => r = a)) : ∃ k, g k = some a := (Y.is h).rounds
theorem Y.ev {α : Type} {g : Nat → Option α} {a : α} {Q : α → Prop} (h : Ev g a) (q : Q a) : Y g Q := ⟨a, h, q⟩
theorem Y.S {α : Type} {x : Option α} {a : α} {Q : α → Prop} (h : x = some a) (q : Q a) : Y (fun _ => x) Q := by
  subst h
  exact Y.now q
/-- An int that fits is as it is. -/
theorem w64 {x : Int} (h0 : -9223372036854775808 ≤ x) (h1 : x ≤ 9223372036854775807) : wrap64 x = x := by
  unfold wrap64
  omega
theorem w64_range (x : Int) : -9223372036854775808 ≤ wrap64 x ∧ wrap64 x ≤ 9223372036854775807 := by
  unfold wrap64
  omega
theorem mx_max (a b : Int) : mx a b = max a b := by
  unfold mx
  split <;> omega
theorem mn_min (a b : Int) : mn a b = min a b := by
  unfold mn
  split <;> omega
theorem tmod_neg_add {x n : Int} (hn : 1 ≤ n) (h : Int.tmod x n < 0) : Int.tmod x n + n = x % n := by
  have h1 : Int.tmod x n = x % n - (if 0 ≤ x ∨ n ∣ x then 0 else Int.natAbs n : Nat) := Int.tmod_eq_emod
  have h2 := Int.emod_nonneg x (b := n) (by omega)
  have h3 : (n.natAbs : Int) = n := by omega
  rw [h1] at h ⊢
  split at h
  · exact absurd h (by omega)
  · rename_i h4
    rw [if_neg h4]
    omega
theorem tmod_of_nonneg {x n : Int} (hn : 1 ≤ n) (h : ¬ Int.tmod x n < 0) : Int.tmod x n = x % n := by
  have h1 : Int.tmod x n = x % n - (if 0 ≤ x ∨ n ∣ x then 0 else Int.natAbs n : Nat) := Int.tmod_eq_emod
  have h2 := Int.emod_lt_of_pos x (b := n) (by omega)
  have h3 : (n.natAbs : Int) = n := by omega
  rw [h1] at h ⊢
  split at h
  · rename_i h4
    rw [if_pos h4]
    omega
  · exact absurd (by omega) h
/-- Below reduces. -/
theorem below_spec (x n : Int) (h1 : 1 ≤ n) (h2 : n ≤ 4611686018427387904) : spymake_Below.f x n = some (x % n) := by
  unfold spymake_Below.f
  rw [if_neg (by omega), if_neg (by omega)]
  by_cases c : Int.tmod x n < 0
  · rw [if_pos c, tmod_neg_add h1 c, w64 (by have := Int.emod_nonneg x (b := n) (by omega); omega) (by have := Int.emod_lt_of_pos x (b := n) (by omega); omega)]
  · rw [if_neg c, tmod_of_nonneg h1 c]
theorem below_range (x n : Int) (h1 : 1 ≤ n) : 0 ≤ x % n ∧ x % n < n := ⟨Int.emod_nonneg x (by omega), Int.emod_lt_of_pos x (by omega)⟩
/-- Next gives a number below n, and counts. -/
theorem next_spec (L : List Int) (at_ n : Int) (ha : 0 ≤ at_) (hb : at_ ≤ 4611686018427387904) (h1 : 1 ≤ n) (h2 : n ≤ 4611686018427387904) :
    ∃ r, spymake_Stream_Next.f L at_ n = some (r, at_ + 1) ∧ 0 ≤ r ∧ r < n := by
  unfold spymake_Stream_Next.f
  rw [w64 (x := at_ + 1) (by omega) (by omega), w64 (x := at_ + 1 - 1) (by omega) (by omega)]
  by_cases c : (L.length : Int) = 0
  · rw [if_pos c, below_spec _ _ h1 h2]
    exact ⟨_, rfl, below_range _ _ h1⟩
  · rw [if_neg c, show at_ + 1 - 1 = at_ by omega]
    have e : Int.tmod at_ (L.length : Int) = at_ % (L.length : Int) := Int.tmod_eq_emod_of_nonneg ha
    have e1 := Int.emod_nonneg at_ (b := (L.length : Int)) c
    have e2 := Int.emod_lt_of_pos at_ (b := (L.length : Int)) (by omega)
    rw [e, if_pos e1, if_pos e2, below_spec _ 1073741824 (by omega) (by omega)]
    simp only [Option.bind_some]
    rw [below_spec _ _ h1 h2]
    exact ⟨_, rfl, below_range _ _ h1⟩
theorem Y.next {β : Type} {f : Nat → Int × Int → Option β} {Q : β → Prop} (L : List Int) (at_ n : Int) (ha : 0 ≤ at_) (hb : at_ ≤ 4611686018427387904) (h1 : 1 ≤ n) (h2 : n ≤ 4611686018427387904)
    (k : ∀ r, 0 ≤ r → r < n → Y (fun m => f m (r, at_ + 1)) Q) : Y (fun m => (spymake_Stream_Next.f L at_ n).bind (f m)) Q := by
  obtain ⟨r, hr, h3, h4⟩ := next_spec L at_ n ha hb h1 h2
  exact Y.bindS hr (k r h3 h4)
/-- Range gives a number from low to high. -/
theorem range_spec (L : List Int) (at_ lo hi : Int) (ha : 0 ≤ at_) (hb : at_ ≤ 4611686018427387904) (h1 : -1152921504606846976 ≤ lo) (h2 : lo ≤ hi) (h3 : hi ≤ 1152921504606846976) :
    ∃ r, spymake_Stream_Range.f L at_ lo hi = some (r, at_ + 1) ∧ lo ≤ r ∧ r ≤ hi := by
  unfold spymake_Stream_Range.f
  rw [if_neg (by omega), w64 (x := hi - lo) (by omega) (by omega), w64 (x := hi - lo + 1) (by omega) (by omega)]
  obtain ⟨r, hr, h4, h5⟩ := next_spec L at_ (hi - lo + 1) ha hb (by omega) (by omega)
  rw [hr]
  simp only [Option.bind_some]
  rw [w64 (x := lo + r) (by omega) (by omega)]
  exact ⟨_, rfl, by omega, by omega⟩
theorem Y.range {β : Type} {f : Nat → Int × Int → Option β} {Q : β → Prop} (L : List Int) (at_ lo hi : Int) (ha : 0 ≤ at_) (hb : at_ ≤ 4611686018427387904) (h1 : -1152921504606846976 ≤ lo) (h2 : lo ≤ hi) (h3 : hi ≤ 1152921504606846976)
    (k : ∀ r, lo ≤ r → r ≤ hi → Y (fun m => f m (r, at_ + 1)) Q) : Y (fun m => (spymake_Stream_Range.f L at_ lo hi).bind (f m)) Q := by
  obtain ⟨r, hr, h4, h5⟩ := range_spec L at_ lo hi ha hb h1 h2 h3
  exact Y.bindS hr (k r h4 h5)
theorem rd_set_eq (xs : List Int) (i v : Int) (h0 : 0 ≤ i) (h1 : i < xs.length) : rd (xs.set i.toNat v) i = v := by
  unfold rd
  rw [List.getD_eq_getElem?_getD, List.getElem?_set_self (by omega)]
  rfl
theorem rd_set_ne (xs : List Int) (i j v : Int) (h0 : 0 ≤ i) (h1 : 0 ≤ j) (h : i ≠ j) : rd (xs.set i.toNat v) j = rd xs j := by
  unfold rd
  rw [List.getD_eq_getElem?_getD, List.getD_eq_getElem?_getD, List.getElem?_set_ne (by omega)]
theorem rd_replicate (n : Nat) (i : Int) : rd (List.replicate n (0 : Int)) i = 0 := by
  unfold rd
  rw [List.getD_eq_getElem?_getD, List.getElem?_replicate]
  split <;> rfl
theorem tdiv_pos {a b : Int} (h : 0 ≤ a) : Int.tdiv a b = a / b := Int.tdiv_eq_ediv_of_nonneg h
theorem rd_app_lt (xs ys : List Int) (i : Int) (h0 : 0 ≤ i) (h : i < xs.length) : rd (xs ++ ys) i = rd xs i := by
  unfold rd
  rw [List.getD_eq_getElem?_getD, List.getD_eq_getElem?_getD, List.getElem?_append_left (by omega)]
theorem rd_app_eq (xs : List Int) (v i : Int) (h : i = xs.length) : rd (xs ++ [v]) i = v := by
  unfold rd
  rw [List.getD_eq_getElem?_getD, List.getElem?_append_right (by omega)]
  have : i.toNat - xs.length = 0 := by omega
  rw [this]
  rfl
theorem check_spec (m l : Int) (h0 : 0 ≤ m) (h1 : m ≤ 10000) (h2 : l ≤ m) (h3 : m - 40 ≤ l) : Ev (fun k => guide_Check.f k m l) 0 := by
  apply Y.is
  unfold guide_Check.f
  refine Y.neg (by omega) ?_
  refine Y.step (fun k => guide_Check.j0.eq_2 _ _ _ _) ?_
  refine Y.neg (by simp; omega) ?_
  refine Y.neg (by omega) ?_
  rw [w64 (by omega) (by omega)]
  exact Y.neg (by omega) (Y.now rfl)
theorem move_spec (m l p : Int) (h0 : 0 ≤ m) (h1 : m ≤ 10000) (h2 : l ≤ m) (h3 : m - 40 ≤ l) (h4 : 0 ≤ p) (h5 : p ≤ 10000) :
    Ev (fun k => guide_Move.f k m l p) (p, mn (mx l (p - 40)) p, 0) := by
  apply Y.is
  unfold guide_Move.f
  refine Y.bindE (check_spec m l h0 h1 h2 h3) ?_
  refine Y.pos rfl (Y.neg (by omega) (Y.neg (by omega) ?_))
  rw [w64 (by omega) (by omega)]
  exact Y.now rfl
theorem focuses_spec : Ev (fun k => spykeep2_focuses.f k) true := by
  apply Y.is
  unfold spykeep2_focuses.f
  refine Y.bindE (move_spec 100 100 50 (by omega) (by omega) (by omega) (by omega) (by omega) (by omega)) ?_
  exact Y.pos rfl (Y.now rfl)
theorem search_spec (w : List Int) (k : Int) (hw : w.length ≤ 200) (hv : ∀ j : Int, 0 ≤ j → j < w.length → 0 ≤ rd w j ∧ rd w j ≤ 3600)
    (hr : ∀ j : Int, k ≤ j → j + 1 < w.length → rd w j < rd w (j + 1)) (hl : ∀ j : Int, 0 ≤ j → j < k → rd w (j + 1) < rd w j) (d : Nat) :
    ∀ (lo hi : Int) (looks : List Int), 0 ≤ lo → lo ≤ k → k ≤ hi → hi < w.length → hi - lo + 1 ≤ 2 ^ d → looks.length + 2 * d ≤ 20 →
      Y (fun n => guide_Sharpest.l0 n w lo hi looks) (fun r => r.1 = k ∧ r.2.1.length ≤ 20 ∧ r.2.2 = 0) := by
  induction d with
  | zero =>
    intro lo hi looks h0 h1 h2 h3 h4 h5
    refine Y.step (fun n => guide_Sharpest.l0.eq_2 _ _ _ _ _) ?_
    simp only [Int.pow_zero] at h4
    refine Y.neg (by omega) (Y.now ⟨?_, ?_, rfl⟩)
    · show lo = k
      omega
    · show looks.length ≤ 20
      omega
  | succ d ih =>
    intro lo hi looks h0 h1 h2 h3 h4 h5
    refine Y.step (fun n => guide_Sharpest.l0.eq_2 _ _ _ _ _) ?_
    by_cases c : lo < hi
    · rw [w64 (x := lo + hi) (by omega) (by omega), tdiv_pos (a := lo + hi) (by omega)]
      rw [w64 (x := (lo + hi) / 2) (by omega) (by omega), w64 (x := (lo + hi) / 2 + 1) (by omega) (by omega)]
      rw [Int.pow_succ] at h4
      refine Y.pos c (Y.bindS rfl (Y.pos (by simp; omega) (Y.bindS rfl ?_)))
      refine Y.pos (by omega) (Y.pos (by omega) (Y.pos (by omega) (Y.pos (by omega) ?_)))
      generalize hm : (lo + hi) / 2 = m
      refine Y.ite (fun hlt => ?_) (fun hge => ?_)
      · refine ih lo m _ h0 h1 ?_ (by omega) (by omega) (by simp; omega)
        by_cases hk : k ≤ m
        · exact hk
        · exact absurd hlt (by have := hl m (by omega) (by omega); omega)
      · refine ih (m + 1) hi _ (by omega) ?_ h2 h3 (by omega) (by simp; omega)
        by_cases hk : m + 1 ≤ k
        · exact hk
        · exact absurd (hr m (by omega) (by omega)) hge
    · refine Y.neg c (Y.now ⟨?_, ?_, rfl⟩)
      · show lo = k
        omega
      · show looks.length ≤ 20
        omega
theorem sharpest_spec (w : List Int) (k : Int) (h0 : 0 ≤ k) (h1 : k < w.length) (hw : w.length ≤ 200) (hv : ∀ j : Int, 0 ≤ j → j < w.length → 0 ≤ rd w j ∧ rd w j ≤ 3600)
    (hr : ∀ j : Int, k ≤ j → j + 1 < w.length → rd w j < rd w (j + 1)) (hl : ∀ j : Int, 0 ≤ j → j < k → rd w (j + 1) < rd w j) :
    Y (fun n => guide_Sharpest.f n w) (fun r => r.1 = k ∧ r.2.1.length ≤ 20 ∧ r.2.2 = 0) := by
  unfold guide_Sharpest.f
  rw [w64 (by omega) (by omega)]
  refine Y.neg (by omega) (Y.neg (by omega) ?_)
  have h8 : (2 : Int) ^ 8 = 256 := by decide
  exact search_spec w k hw hv hr hl 8 0 _ [] (by omega) h0 (by omega) (by omega) (by omega) (by simp)
theorem down (L : List Int) (k : Int) (n : Nat) (hn : n ≤ 200) (hk0 : 0 ≤ k) (hk : k < n) (d : Nat) : ∀ (i at_ : Int) (w : List Int), i + 1 = d → i < k → w.length = n → 0 ≤ at_ → at_ ≤ 1000 - i →
    (∀ j : Int, i < j → j ≤ k → 0 ≤ rd w j ∧ rd w j ≤ 9 * (k - j)) → (∀ j : Int, k ≤ j → j < n → 0 ≤ rd w j ∧ rd w j ≤ 9 * (j - k)) →
    (∀ j : Int, k ≤ j → j + 1 < n → rd w j < rd w (j + 1)) → (∀ j : Int, i < j → j < k → rd w (j + 1) < rd w j) →
    Ev (fun m => spykeep2_GuideValley.l1 m w k i L at_) true := by
  induction d with
  | zero =>
    intro i at_ w hd hik hw ha hb hA hA2 hB hC
    apply Y.is
    refine Y.step (fun n => spykeep2_GuideValley.l1.eq_2 _ _ _ _ _ _) ?_
    refine Y.neg (by omega) ?_
    refine Y.bind _ (sharpest_spec w k hk0 (by omega) (by omega) ?_ ?_ ?_) ?_
    · intro j h0 h1
      by_cases c : j ≤ k
      · have := hA j (by omega) c
        omega
      · have := hA2 j (by omega) (by omega)
        omega
    · intro j h0 h1
      exact hB j h0 (by omega)
    · intro j h0 h1
      exact hC j (by omega) h1
    · rintro ⟨r1, r2, r3⟩ ⟨h1, h2, h3⟩
      refine Y.pos h3 (Y.pos h1 (Y.now ?_))
      have h2' : r2.length ≤ 20 := h2
      simp only [decide_eq_true_eq]
      omega
  | succ d ih =>
    intro i at_ w hd hik hw ha hb hA hA2 hB hC
    apply Y.is
    refine Y.step (fun n => spykeep2_GuideValley.l1.eq_2 _ _ _ _ _ _) ?_
    rw [w64 (x := i + 1) (by omega) (by omega), w64 (x := i - 1) (by omega) (by omega)]
    refine Y.pos (by omega) (Y.pos (by omega) (Y.pos (by omega) ?_))
    refine Y.range L at_ 1 9 ha (by omega) (by omega) (by omega) (by omega) ?_
    intro r hr1 hr2
    refine Y.pos (by omega) (Y.pos (by omega) ?_)
    have h1 := hA (i + 1) (by omega) (by omega)
    simp only []
    rw [w64 (x := rd w (i + 1) + r) (by omega) (by omega)]
    generalize hv : rd w (i + 1) + r = v
    refine Y.ev (ih (i - 1) (at_ + 1) (w.set i.toNat v) (by omega) (by omega) (by rw [List.length_set]; exact hw) (by omega) (by omega) ?_ ?_ ?_ ?_) rfl
    · intro j hj1 hj2
      by_cases c : j = i
      · rw [c, rd_set_eq w i v (by omega) (by omega)]
        omega
      · rw [rd_set_ne w i j v (by omega) (by omega) (by omega)]
        exact hA j (by omega) hj2
    · intro j hj1 hj2
      rw [rd_set_ne w i j v (by omega) (by omega) (by omega)]
      exact hA2 j hj1 hj2
    · intro j hj1 hj2
      rw [rd_set_ne w i j v (by omega) (by omega) (by omega), rd_set_ne w i (j + 1) v (by omega) (by omega) (by omega)]
      exact hB j hj1 hj2
    · intro j hj1 hj2
      rw [rd_set_ne w i (j + 1) v (by omega) (by omega) (by omega)]
      by_cases c : j = i
      · rw [c, rd_set_eq w i v (by omega) (by omega)]
        omega
      · rw [rd_set_ne w i j v (by omega) (by omega) (by omega)]
        exact hC j (by omega) hj2
theorem up (L : List Int) (k : Int) (n : Nat) (hn : n ≤ 200) (hk0 : 0 ≤ k) (hk : k < n) (d : Nat) : ∀ (i at_ : Int) (w : List Int), n - i = d → k < i → i ≤ n → w.length = n → 0 ≤ at_ → at_ ≤ i →
    (∀ j : Int, k ≤ j → j < i → 0 ≤ rd w j ∧ rd w j ≤ 9 * (j - k)) → rd w k = 0 →
    (∀ j : Int, k ≤ j → j + 1 < i → rd w j < rd w (j + 1)) →
    Ev (fun m => spykeep2_GuideValley.l0 m w k i L at_) true := by
  induction d with
  | zero =>
    intro i at_ w hd hki hin hw ha hb hA hz hB
    apply Y.is
    refine Y.step (fun n => spykeep2_GuideValley.l0.eq_2 _ _ _ _ _ _) ?_
    rw [w64 (x := k - 1) (by omega) (by omega)]
    refine Y.neg (by omega) ?_
    refine Y.ev (down L k n hn hk0 hk k.toNat (k - 1) at_ w (by omega) (by omega) hw ha (by omega) ?_ ?_ ?_ ?_) rfl
    · intro j h0 h1
      have : j = k := by omega
      rw [this, hz]
      omega
    · intro j h0 h1
      exact hA j h0 (by omega)
    · intro j h0 h1
      exact hB j h0 (by omega)
    · intro j h0 h1
      omega
  | succ d ih =>
    intro i at_ w hd hki hin hw ha hb hA hz hB
    apply Y.is
    refine Y.step (fun n => spykeep2_GuideValley.l0.eq_2 _ _ _ _ _ _) ?_
    rw [w64 (x := i - 1) (by omega) (by omega), w64 (x := i + 1) (by omega) (by omega)]
    refine Y.pos (by omega) (Y.pos (by omega) (Y.pos (by omega) ?_))
    refine Y.range L at_ 1 9 ha (by omega) (by omega) (by omega) (by omega) ?_
    intro r hr1 hr2
    refine Y.pos (by omega) ?_
    have h1 := hA (i - 1) (by omega) (by omega)
    simp only []
    rw [w64 (x := rd w (i - 1) + r) (by omega) (by omega)]
    generalize hv : rd w (i - 1) + r = v
    refine Y.ev (ih (i + 1) (at_ + 1) (w.set i.toNat v) (by omega) (by omega) (by omega) (by rw [List.length_set]; exact hw) (by omega) (by omega) ?_ ?_ ?_) rfl
    · intro j hj1 hj2
      by_cases c : j = i
      · rw [c, rd_set_eq w i v (by omega) (by omega)]
        omega
      · rw [rd_set_ne w i j v (by omega) (by omega) (by omega)]
        exact hA j (by omega) (by omega)
    · rw [rd_set_ne w i k v (by omega) (by omega) (by omega)]
      exact hz
    · intro j hj1 hj2
      rw [rd_set_ne w i j v (by omega) (by omega) (by omega)]
      by_cases c : j + 1 = i
      · rw [c, rd_set_eq w i v (by omega) (by omega), show j = i - 1 by omega]
        omega
      · rw [rd_set_ne w i (j + 1) v (by omega) (by omega) (by omega)]
        exact hB j hj1 (by omega)
theorem GuideValley : spykeep2_GuideValley.Pure := by
  intro L a1 a2 _ _ _ _ _
  apply Y.rounds
  unfold spykeep2_GuideValley.f
  refine Y.bindE focuses_spec (Y.pos rfl ?_)
  refine Y.bindS (below_spec a1 200 (by omega) (by omega)) ?_
  have hr := below_range a1 200 (by omega)
  generalize a1 % 200 = t at hr ⊢
  rw [w64 (x := t + 1) (by omega) (by omega)]
  refine Y.pos (by omega) (Y.pos (by omega) (Y.bindS rfl ?_))
  have hlen : ((List.replicate (t + 1).toNat (0 : Int)).length : Int) = t + 1 := by
    rw [List.length_replicate]
    omega
  rw [hlen]
  refine Y.bindS (below_spec a2 (t + 1) (by omega) (by omega)) ?_
  have hr2 := below_range a2 (t + 1) (by omega)
  generalize a2 % (t + 1) = k at hr2 ⊢
  rw [w64 (x := k + 1) (by omega) (by omega)]
  refine Y.ev (up L k (t + 1).toNat (by omega) (by omega) (by omega) (t - k).toNat (k + 1) 0 _ (by omega) (by omega) (by omega) (by rw [List.length_replicate]) (by omega) (by omega) ?_ (rd_replicate _ _) ?_) rfl
  · intro j h0 h1
    rw [rd_replicate]
    omega
  · intro j h0 h1
    omega

end Go.Proofs.Ytdcciobkblpabaa.Pure
