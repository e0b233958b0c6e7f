/- A packet as it is sent has flags at both ends and nowhere else, and at most twice as many bytes between them as its body. The conditions are those of the row alone: the list of raw numbers takes at most 2^47 - 4096 bytes, and each number is an int. -/
import Derived.Test.YtdnnjbokdckilaaPBusFlagsx5
set_option linter.unusedVariables false
set_option linter.unusedSimpArgs false
namespace Go.Proofs.Ytdnnjbokdckilaa.Pure
open Go.RowKit Go.Proofs.Ytdnnjbokdckilaa.PBusFlags Go.Proofs.YtdnnjbokdckilaaW.PrintWords Go.Proofs.YtdnnjbokdckilaaW.PrintLast Go.Proofs.YtdnnjbokdckilaaW.PrintMore

/-- From some number of rounds on. -/
def Eo {α : Type} (g : Nat → Option α) (r : α) : Prop := ∃ K, ∀ k, K ≤ k → g k = some r
theorem Eo.now {α : Type} (r : α) : Eo (fun _ => some r) r := ⟨0, fun _ _ => rfl⟩
theorem Eo.rounds {α : Type} {g : Nat → Option α} {r : α} (h : Eo g r) : ∃ k, g k = some r := by
  obtain ⟨K, h⟩ := h
  exact ⟨K, h K (Nat.le_refl _)⟩
theorem Eo.bind {α β : Type} {g : Nat → Option α} {f : Nat → α → Option β} {a : α} {r : β} (h : Eo g a) (k : Eo (fun n => f n a) r) : Eo (fun n => (g n).bind (f n)) r := by
  obtain ⟨K, h⟩ := h
  obtain ⟨K', k⟩ := k
  refine ⟨max K K', fun n hn => ?_⟩
  have h1 := h n (by omega)
  have h2 := k n (by omega)
  simp only [h1, Option.bind_some]
  exact h2
theorem Eo.step {α : Type} {g f : Nat → Option α} {r : α} (h : ∀ k, g (k + 1) = f k) (k : Eo f r) : Eo g r := by
  obtain ⟨K, k⟩ := k
  refine ⟨K + 1, fun n hn => ?_⟩
  obtain ⟨m, rfl⟩ : ∃ m, n = m + 1 := ⟨n - 1, by omega⟩
  rw [h]
  exact k m (by omega)
theorem more_of {α : Type} {g : Nat → Option α} (h : ∀ k, LeO (g k) (g (k + 1))) {k : Nat} {r : α} (hr : g k = some r) : Eo g r := by
  refine ⟨k, fun n hn => ?_⟩
  obtain ⟨d, rfl⟩ : ∃ d, n = k + d := ⟨n - k, by omega⟩
  induction d with
  | zero => exact hr
  | succ d ih => exact h _ r (ih (by omega))
/-- With enough rounds g comes to a value that meets Q. -/
def Y {α : Type} (g : Nat → Option α) (Q : α → Prop) : Prop := ∃ r, Eo g r ∧ Q r
theorem Y.now {α : Type} {r : α} {Q : α → Prop} (h : Q r) : Y (fun _ => some r) Q := ⟨r, Eo.now r, h⟩
theorem Y.bind {α β : Type} {g : Nat → Option α} {f : Nat → α → Option β} {Q : β → Prop} (P : α → Prop) (h : Y g P) (k : ∀ a, P a → Y (fun n => f n a) Q) : Y (fun n => (g n).bind (f n)) Q := by
  obtain ⟨a, ha, hp⟩ := h
  obtain ⟨r, hr, hq⟩ := k a hp
  exact ⟨r, Eo.bind ha hr, hq⟩
theorem Y.bindE {α β : Type} {g : Nat → Option α} {f : Nat → α → Option β} {Q : β → Prop} {a : α} (h : Eo g a) (k : Y (fun n => f n a) Q) : Y (fun n => (g n).bind (f n)) Q := by
  obtain ⟨r, hr, hq⟩ := k
  exact ⟨r, Eo.bind h hr, hq⟩
theorem Y.bindS {α β : Type} {x : Option α} {f : Nat → α → Option β} {Q : β → Prop} {a : α} (h : x = some a) (k : Y (fun n => f n a) Q) : Y (fun n => x.bind (f n)) Q := by
  subst h
  exact k
theorem Y.pos {α : Type} {c : Prop} [Decidable c] {a b : Nat → Option α} {Q : α → Prop} (hc : c) (h : Y a Q) : Y (fun n => if c then a n else b n) Q := by
  simpa only [if_pos hc] using h
theorem Y.neg {α : Type} {c : Prop} [Decidable c] {a b : Nat → Option α} {Q : α → Prop} (hc : ¬ c) (h : Y b Q) : Y (fun n => if c then a n else b n) Q := by
  simpa only [if_neg hc] using h
theorem Y.ite {α : Type} {c : Prop} [Decidable c] {a b : Nat → Option α} {Q : α → Prop} (h : c → Y a Q) (k : ¬ c → Y b Q) : Y (fun n => if c then a n else b n) Q := by
  by_cases hc : c
  · exact Y.pos hc (h hc)
  · exact Y.neg hc (k hc)
theorem Y.step {α : Type} {g f : Nat → Option α} {Q : α → Prop} (h : ∀ k, g (k + 1) = f k) (k : Y f Q) : Y g Q := by
  obtain ⟨r, hr, hq⟩ := k
  exact ⟨r, Eo.step h hr, hq⟩
theorem Y.mono {α : Type} {g : Nat → Option α} {P Q : α → Prop} (h : Y g P) (k : ∀ r, P r → Q r) : Y g Q := by
  obtain ⟨r, hr, hq⟩ := h
  exact ⟨r, hr, k r hq⟩
theorem Y.is {α : Type} {g : Nat → Option α} {a : α} (h : Y g (fun r => r = a)) : Eo g a := by
  obtain ⟨r, hr, rfl⟩ := h
  exact hr
theorem Y.rounds {α : Type} {g : Nat → Option α} {a : α} (h : Y g (fun r => r = a)) : ∃ k, g k = some a := (Y.is h).rounds
theorem Y.S {α : Type} {x : Option α} {a : α} {Q : α → Prop} (h : x = some a) (q : Q a) : Y (fun _ => x) Q := by
  subst h
  exact Y.now q
/-- An int that fits is as it is. -/
theorem w64 {x : Int} (h0 : -9223372036854775808 ≤ x) (h1 : x ≤ 9223372036854775807) : wrap64 x = x := by
  unfold wrap64
  omega
theorem tmod_neg_add {x n : Int} (hn : 1 ≤ n) (h : Int.tmod x n < 0) : Int.tmod x n + n = x % n := by
  have h1 : Int.tmod x n = x % n - (if 0 ≤ x ∨ n ∣ x then 0 else Int.natAbs n : Nat) := Int.tmod_eq_emod
  have h2 := Int.emod_nonneg x (b := n) (by omega)
  have h3 : (n.natAbs : Int) = n := by omega
  rw [h1] at h ⊢
  split at h
  · exact absurd h (by omega)
  · rename_i h4
    rw [if_neg h4]
    omega
theorem tmod_of_nonneg {x n : Int} (hn : 1 ≤ n) (h : ¬ Int.tmod x n < 0) : Int.tmod x n = x % n := by
  have h1 : Int.tmod x n = x % n - (if 0 ≤ x ∨ n ∣ x then 0 else Int.natAbs n : Nat) := Int.tmod_eq_emod
  have h2 := Int.emod_lt_of_pos x (b := n) (by omega)
  have h3 : (n.natAbs : Int) = n := by omega
  rw [h1] at h ⊢
  split at h
  · rename_i h4
    rw [if_pos h4]
    omega
  · exact absurd (by omega) h
/-- Below reduces. -/
theorem below_spec (x n : Int) (h1 : 1 ≤ n) (h2 : n ≤ 4611686018427387904) : spymake_Below.f x n = some (x % n) := by
  unfold spymake_Below.f
  rw [if_neg (by omega), if_neg (by omega)]
  by_cases c : Int.tmod x n < 0
  · rw [if_pos c, tmod_neg_add h1 c, w64 (by have := Int.emod_nonneg x (b := n) (by omega); omega) (by have := Int.emod_lt_of_pos x (b := n) (by omega); omega)]
  · rw [if_neg c, tmod_of_nonneg h1 c]
theorem below_range (x n : Int) (h1 : 1 ≤ n) : 0 ≤ x % n ∧ x % n < n := ⟨Int.emod_nonneg x (by omega), Int.emod_lt_of_pos x (by omega)⟩
/-- Next gives a number below n, and counts. -/
theorem next_spec (L : List Int) (at_ n : Int) (ha : 0 ≤ at_) (hb : at_ ≤ 4611686018427387904) (h1 : 1 ≤ n) (h2 : n ≤ 4611686018427387904) :
    ∃ r, spymake_Stream_Next.f L at_ n = some (r, at_ + 1) ∧ 0 ≤ r ∧ r < n := by
  unfold spymake_Stream_Next.f
  rw [w64 (x := at_ + 1) (by omega) (by omega), w64 (x := at_ + 1 - 1) (by omega) (by omega)]
  by_cases c : (L.length : Int) = 0
  · rw [if_pos c, below_spec _ _ h1 h2]
    exact ⟨_, rfl, below_range _ _ h1⟩
  · rw [if_neg c, show at_ + 1 - 1 = at_ by omega]
    have e : Int.tmod at_ (L.length : Int) = at_ % (L.length : Int) := Int.tmod_eq_emod_of_nonneg ha
    have e1 := Int.emod_nonneg at_ (b := (L.length : Int)) c
    have e2 := Int.emod_lt_of_pos at_ (b := (L.length : Int)) (by omega)
    rw [e, if_pos e1, if_pos e2, below_spec _ 1073741824 (by omega) (by omega)]
    simp only [Option.bind_some]
    rw [below_spec _ _ h1 h2]
    exact ⟨_, rfl, below_range _ _ h1⟩
theorem Y.next {β : Type} {f : Nat → Int × Int → Option β} {Q : β → Prop} (L : List Int) (at_ n : Int) (ha : 0 ≤ at_) (hb : at_ ≤ 4611686018427387904) (h1 : 1 ≤ n) (h2 : n ≤ 4611686018427387904)
    (k : ∀ r, 0 ≤ r → r < n → Y (fun m => f m (r, at_ + 1)) Q) : Y (fun m => (spymake_Stream_Next.f L at_ n).bind (f m)) Q := by
  obtain ⟨r, hr, h3, h4⟩ := next_spec L at_ n ha hb h1 h2
  exact Y.bindS hr (k r h3 h4)
theorem rd_app_eq (xs : List Int) (v i : Int) (h : i = xs.length) : rd (xs ++ [v]) i = v := by
  unfold rd
  rw [List.getD_eq_getElem?_getD, List.getElem?_append_right (by omega)]
  have : i.toNat - xs.length = 0 := by omega
  rw [this]
  rfl
/-- One bit of the check sum, one byte, all. -/
def crcBit (c : Int) : Int := if Go.bits .and .u16 c 32768 = 0 then IntKind.u16.wrap (c * 2) else Go.bits .xor .u16 (IntKind.u16.wrap (c * 2)) 4129
def crcBits : Nat → Int → Int
  | 0, c => c
  | d + 1, c => crcBits d (crcBit c)
def crcByte (c x : Int) : Int := crcBits 8 (Go.bits .xor .u16 c (IntKind.u16.wrap ((IntKind.u16.wrap x) * 256)))
def crc (l : List Int) : Int := l.foldl crcByte 65535
theorem rd_drop (l : List Int) (i : Nat) (h : i < l.length) : l.drop i = rd l (i : Int) :: l.drop (i + 1) := by
  rw [List.drop_eq_getElem_cons h]
  unfold rd
  rw [List.getD_eq_getElem?_getD, show ((i : Int).toNat) = i by omega, List.getElem?_eq_getElem h]
  rfl
theorem sum_bits {Q : Int → Prop} (l : List Int) (n i : Int) (d : Nat) : ∀ (c j : Int), j = 8 - (d : Int) → d ≤ 8 → Y (fun k => bus_Sum.l0 k (crcBits d c) l n (wrap64 (i + 1))) Q → Y (fun k => bus_Sum.l1 k c l n i j) Q := by
  induction d with
  | zero =>
    intro c j hj _ h
    refine Y.step (fun k => bus_Sum.l1.eq_2 _ _ _ _ _ _) (Y.neg (by omega) ?_)
    exact h
  | succ d ih =>
    intro c j hj hd h
    refine Y.step (fun k => bus_Sum.l1.eq_2 _ _ _ _ _ _) (Y.pos (by omega) ?_)
    rw [w64 (x := j + 1) (by omega) (by omega)]
    have e : crcBits (d + 1) c = crcBits d (crcBit c) := rfl
    rw [e] at h
    refine Y.ite (fun g => ?_) (fun g => ?_)
    · refine ih _ _ (by omega) (by omega) ?_
      unfold crcBit at h
      rw [if_pos g] at h
      exact h
    · refine ih _ _ (by omega) (by omega) ?_
      unfold crcBit at h
      rw [if_neg g] at h
      exact h
theorem sum_loop (l : List Int) (hl : l.length ≤ 1099511627776) (n : Nat) : ∀ (i : Nat) (c : Int), i + n = l.length → Y (fun k => bus_Sum.l0 k c l (l.length : Int) (i : Int)) (fun r => r = (l.drop i).foldl crcByte c) := by
  induction n with
  | zero =>
    intro i c h
    refine Y.step (fun k => bus_Sum.l0.eq_2 _ _ _ _ _) (Y.neg (by omega) (Y.now ?_))
    rw [List.drop_of_length_le (by omega)]
    rfl
  | succ n ih =>
    intro i c h
    refine Y.step (fun k => bus_Sum.l0.eq_2 _ _ _ _ _) (Y.pos (by omega) (Y.pos (by omega) (Y.pos (by omega) ?_)))
    refine sum_bits l _ _ 8 _ 0 (by omega) (by omega) ?_
    rw [w64 (x := (i : Int) + 1) (by omega) (by omega)]
    refine (ih (i + 1) _ (by omega)).mono (fun r hr => ?_)
    rw [hr, rd_drop l i (by omega), List.foldl_cons]
    rfl
theorem sum_spec (l : List Int) (hl : l.length ≤ 1099511627776) : Eo (fun k => bus_Sum.f k l) (crc l) := by
  apply Y.is
  unfold bus_Sum.f
  exact (sum_loop l hl l.length 0 65535 (by omega)).mono (fun r hr => hr)
/-- A packet in order. -/
structure PkOk (a b s : Int) (d : List Int) : Prop where
  a0 : 0 ≤ a
  a1 : a ≤ 15
  b0 : 0 ≤ b
  b1 : b ≤ 15
  s0 : 0 ≤ s
  s1 : s ≤ 65535
  n : d.length ≤ 16
  by0 : ∀ x ∈ d, 0 ≤ x ∧ x < 256
theorem check_spec (a b s : Int) (d : List Int) (h : PkOk a b s d) : Eo (fun k => bus_Check.f k a b s d) 0 := by
  obtain ⟨h0, h1, h2, h3, h4, h5, h6, _⟩ := h
  apply Y.is
  unfold bus_Check.f
  refine Y.neg (by omega) (Y.neg (by omega) (Y.neg (by omega) (Y.neg (by omega) (Y.neg (by omega) ?_))))
  refine Y.step (fun k => bus_Check.j0.eq_2 _ _ _ _ _ _) (Y.neg ?_ (Y.neg (by omega) (Y.now rfl)))
  rw [decide_eq_true_eq]
  omega
def head3 (a b s : Int) (d : List Int) : List Int := [(Go.bits .or .i64 (wrap64 (a * 16)) b) % 256, (s / 256) % 256, s % 256] ++ d
def bodyOf (a b s : Int) (d : List Int) : List Int := head3 a b s d ++ [(crc (head3 a b s d) / 256) % 256, (crc (head3 a b s d)) % 256]
theorem body_spec (a b s : Int) (d : List Int) (h : PkOk a b s d) : Eo (fun k => bus_Body.f k a b s d) (bodyOf a b s d, 0) := by
  have h6 := h.n
  apply Y.is
  unfold bus_Body.f
  refine Y.bindE (check_spec a b s d h) (Y.pos rfl (Y.bindS rfl (Y.pos (by simp; omega) (Y.bindS rfl (Y.bindE (sum_spec _ (by simp; omega)) (Y.bindS rfl (Y.pos (by simp; omega) (Y.now ?_))))))))
  rfl
theorem bodyOf_len (a b s : Int) (d : List Int) : (bodyOf a b s d).length = 5 + d.length := by
  unfold bodyOf head3
  simp
  omega
def stf (x : Int) : List Int := if x = 126 then [125, 94] else if x = 125 then [125, 93] else [x]
def stfs : List Int → List Int
  | [] => []
  | x :: l => stf x ++ stfs l
theorem stuff_loop (l : List Int) (hl : l.length ≤ 1099511627776) (n : Nat) : ∀ (i : Nat) (o : List Int), i + n = l.length → o.length ≤ 2 * i + 1 → Y (fun k => bus_Stuff.l0 k o l (l.length : Int) (i : Int)) (fun r => r = o ++ stfs (l.drop i) ++ [126]) := by
  induction n with
  | zero =>
    intro i o h ho
    refine Y.step (fun k => bus_Stuff.l0.eq_2 _ _ _ _ _) (Y.neg (by omega) (Y.pos (by omega) (Y.now ?_)))
    rw [List.drop_of_length_le (by omega)]
    simp [stfs]
  | succ n ih =>
    intro i o h ho
    refine Y.step (fun k => bus_Stuff.l0.eq_2 _ _ _ _ _) (Y.pos (by omega) (Y.pos (by omega) (Y.pos (by omega) ?_)))
    rw [w64 (x := (i : Int) + 1) (by omega) (by omega)]
    have e := rd_drop l i (by omega)
    refine Y.ite (fun g => ?_) (fun g => ?_)
    · refine Y.bindS rfl (Y.pos (by simp; omega) ?_)
      refine (ih (i + 1) _ (by omega) (by simp; omega)).mono (fun r hr => ?_)
      rw [hr, e, g]
      simp [stfs, stf, show Go.bits .xor .u8 126 32 = 94 by decide]
    · refine Y.ite (fun g2 => ?_) (fun g2 => ?_)
      · refine Y.bindS rfl (Y.pos (by simp; omega) ?_)
        refine (ih (i + 1) _ (by omega) (by simp; omega)).mono (fun r hr => ?_)
        rw [hr, e, g2]
        simp [stfs, stf, show Go.bits .xor .u8 125 32 = 93 by decide]
      · refine Y.pos (by omega) ?_
        refine (ih (i + 1) _ (by omega) (by simp; omega)).mono (fun r hr => ?_)
        rw [hr, e]
        simp [stfs, stf, g, g2]
theorem stuff_spec (l : List Int) (hl : l.length ≤ 1099511627776) : Eo (fun k => bus_Stuff.f k l) ([126] ++ stfs l ++ [126]) := by
  apply Y.is
  unfold bus_Stuff.f
  exact (stuff_loop l hl l.length 0 [126] (by omega) (by simp)).mono (fun r hr => hr)
theorem encode_spec (a b s : Int) (d : List Int) (h : PkOk a b s d) : Eo (fun k => bus_Encode.f k a b s d) ([126] ++ stfs (bodyOf a b s d) ++ [126], 0) := by
  have := bodyOf_len a b s d
  have := h.n
  apply Y.is
  unfold bus_Encode.f
  exact Y.bindE (body_spec a b s d h) (Y.pos rfl (Y.bindE (stuff_spec _ (by dsimp only; omega)) (Y.now rfl)))
theorem stfs_len (l : List Int) : l.length ≤ (stfs l).length ∧ (stfs l).length ≤ 2 * l.length := by
  induction l with
  | nil => simp [stfs]
  | cons x l ih =>
    have : (stf x).length = 1 ∨ (stf x).length = 2 := by
      unfold stf
      split
      · simp
      · split <;> simp
    simp only [stfs, List.length_append, List.length_cons]
    omega
theorem stfs_no (l : List Int) : ∀ x ∈ stfs l, x ≠ 126 := by
  induction l with
  | nil => simp [stfs]
  | cons y l ih =>
    intro x hx
    simp only [stfs, List.mem_append] at hx
    rcases hx with hx | hx
    · unfold stf at hx
      split at hx
      · simp at hx
        omega
      · split at hx <;> simp at hx <;> omega
    · exact ih x hx
theorem packet_loop (L : List Int) (m : Int) (hm : m ≤ 16) (a b s : Int) (n : Nat) : ∀ (i at_ : Int) (d : List Int), 0 ≤ i → m - i = n → 0 ≤ at_ → at_ ≤ 4611686018427387 + 2 * i → (d.length : Int) = i → (∀ x ∈ d, 0 ≤ x ∧ x < 256) →
    Y (fun k => spykeep2_packet.l0 k m i L at_ a b s d) (fun r => r.1 = a ∧ r.2.1 = b ∧ r.2.2.1 = s ∧ (r.2.2.2.1.length : Int) = m ∧ (∀ x ∈ r.2.2.2.1, 0 ≤ x ∧ x < 256) ∧ at_ ≤ r.2.2.2.2 ∧ r.2.2.2.2 = at_ + 2 * n) := by
  induction n with
  | zero =>
    intro i at_ d hi hn ha hb hd hx
    refine Y.step (fun k => spykeep2_packet.l0.eq_2 _ _ _ _ _ _ _ _ _) (Y.neg (by omega) (Y.now ?_))
    exact ⟨rfl, rfl, rfl, by show (d.length : Int) = m; omega, hx, Int.le_refl _, by show at_ = _; omega⟩
  | succ n ih =>
    intro i at_ d hi hn ha hb hd hx
    refine Y.step (fun k => spykeep2_packet.l0.eq_2 _ _ _ _ _ _ _ _ _) (Y.pos (by omega) ?_)
    refine Y.next L at_ 256 ha (by omega) (by omega) (by omega) (fun r hr0 hr1 => Y.bindS rfl ?_)
    refine Y.next L (at_ + 1) 5 (by omega) (by omega) (by omega) (by omega) (fun q hq0 hq1 => ?_)
    dsimp only
    refine Y.pos hq0 (Y.pos (by simp; omega) (Y.pos (by omega) ?_))
    rw [w64 (x := i + 1) (by omega) (by omega)]
    have hrd : 0 ≤ rd [126, 125, 94, 93, r % 256] q ∧ rd [126, 125, 94, 93, r % 256] q < 256 := by
      have hc : q = 0 ∨ q = 1 ∨ q = 2 ∨ q = 3 ∨ q = 4 := by omega
      have := Int.emod_nonneg r (b := 256) (by omega)
      have := Int.emod_lt_of_pos r (b := 256) (by omega)
      rcases hc with rfl | rfl | rfl | rfl | rfl <;> simp [rd] <;> omega
    refine (ih (i + 1) (at_ + 1 + 1) (d ++ [rd [126, 125, 94, 93, r % 256] q]) (by omega) (by omega) (by omega) (by omega) (by simp; omega) (fun x hx' => ?_)).mono (fun r' h => ?_)
    · simp only [List.mem_append, List.mem_singleton] at hx'
      rcases hx' with hx' | rfl
      · exact hx x hx'
      · exact hrd
    · obtain ⟨u0, u1, u2, u3, u4, u5, u6⟩ := h
      exact ⟨u0, u1, u2, u3, u4, by omega, by omega⟩
theorem packet_draw (L : List Int) (at_ : Int) (ha : 0 ≤ at_) (hb : at_ ≤ 461168601842738) :
    Y (fun k => spykeep2_packet.f k L at_) (fun r => PkOk r.1 r.2.1 r.2.2.1 r.2.2.2.1 ∧ at_ ≤ r.2.2.2.2 ∧ r.2.2.2.2 ≤ at_ + 40) := by
  unfold spykeep2_packet.f
  refine Y.next L at_ 16 ha (by omega) (by omega) (by omega) (fun a a0 a1 => ?_)
  refine Y.next L (at_ + 1) 16 (by omega) (by omega) (by omega) (by omega) (fun b b0 b1 => ?_)
  refine Y.next L (at_ + 1 + 1) 65536 (by omega) (by omega) (by omega) (by omega) (fun s s0 s1 => ?_)
  refine Y.next L (at_ + 1 + 1 + 1) 17 (by omega) (by omega) (by omega) (by omega) (fun m m0 m1 => ?_)
  dsimp only
  obtain ⟨n, hn⟩ : ∃ n : Nat, m = n := ⟨m.toNat, by omega⟩
  refine (packet_loop L m (by omega) a b s n 0 _ [] (by omega) (by omega) (by omega) (by omega) (by simp) (by simp)).mono (fun r h => ?_)
  obtain ⟨u0, u1, u2, u3, u4, u5, u6⟩ := h
  refine ⟨⟨by omega, by omega, by omega, by omega, by omega, by omega, by omega, u4⟩, by omega, by omega⟩
theorem carries_spec : Eo (fun k => spykeep2_carries.f k) true :=
  more_of spykeep2_carries.mono (k := 100) (by decide +kernel)
theorem index_no (x : Int) (l : List Int) (hl : l.length ≤ 1099511627776) (h : ∀ y ∈ l, y ≠ x) (n : Nat) : ∀ i : Nat, i + n = l.length → Y (fun k => slices_Index_byte_byte.l0 k l x (l.length : Int) (i : Int)) (fun r => r = -1) := by
  induction n with
  | zero =>
    intro i hi
    exact Y.step (fun k => slices_Index_byte_byte.l0.eq_2 _ _ _ _ _) (Y.neg (by omega) (Y.now rfl))
  | succ n ih =>
    intro i hi
    refine Y.step (fun k => slices_Index_byte_byte.l0.eq_2 _ _ _ _ _) (Y.pos (by omega) (Y.pos (by omega) (Y.pos (by omega) ?_)))
    rw [w64 (x := (i : Int) + 1) (by omega) (by omega)]
    have e := rd_drop l i (by omega)
    have hm : rd l (i : Int) ∈ l := by
      apply List.mem_of_mem_drop (i := i)
      rw [e]
      exact List.mem_cons_self
    exact Y.neg (fun g => h _ hm g.symm) (ih (i + 1) (by omega))
theorem BusFlags : spykeep2_BusFlags.Pure := by
  intro L _ _ _
  apply Y.rounds
  unfold spykeep2_BusFlags.f
  refine Y.bindE carries_spec (Y.pos rfl ?_)
  refine Y.bind _ (packet_draw L 0 (by omega) (by omega)) ?_
  rintro ⟨a, b, s, d, at_⟩ ⟨hP, _, _⟩
  dsimp only at hP ⊢
  have hn := hP.n
  have hl := bodyOf_len a b s d
  obtain ⟨h1, h2⟩ := stfs_len (bodyOf a b s d)
  have hno := stfs_no (bodyOf a b s d)
  refine Y.bindE (body_spec a b s d hP) (Y.bindE (encode_spec a b s d hP) (Y.pos rfl (Y.pos rfl ?_)))
  dsimp only
  generalize bodyOf a b s d = B at *
  generalize stfs B = S at *
  have hL : ([126] ++ S ++ [126] : List Int).length = S.length + 2 := by simp
  rw [hL]
  rw [w64 (x := 5 + (d.length : Int)) (by omega) (by omega), w64 (x := (B.length : Int) + 2) (by omega) (by omega), w64 (x := 2 * (B.length : Int)) (by omega) (by omega), w64 (x := 2 * (B.length : Int) + 2) (by omega) (by omega), w64 (x := ((S.length + 2 : Nat) : Int) - 1) (by omega) (by omega)]
  refine Y.pos (by omega) (Y.neg (by omega) (Y.neg (by omega) (Y.pos (by omega) (Y.pos rfl (Y.pos (by omega) (Y.pos (by omega) (Y.pos ?_ (Y.pos (by omega) (Y.pos (by omega) ?_)))))))))
  · exact rd_app_eq ([126] ++ S) 126 _ (by simp; omega)
  · have e : (([126] ++ S ++ [126] : List Int).take (((S.length + 2 : Nat) : Int) - 1).toNat).drop 1 = S := by
      rw [show (((S.length + 2 : Nat) : Int) - 1).toNat = ([126] ++ S : List Int).length by simp; omega, List.take_left']
      · rfl
      · rfl
    rw [e]
    have hc : Eo (fun k => slices_Contains_byte_byte.f k S 126) false := by
      apply Y.is
      unfold slices_Contains_byte_byte.f slices_Index_byte_byte.f
      refine Y.bind _ (index_no 126 S (by omega) hno S.length 0 (by omega)) ?_
      rintro r rfl
      exact Y.now rfl
    exact Y.bindE hc (Y.now rfl)

end Go.Proofs.Ytdnnjbokdckilaa.Pure
