import Derived.Test.YtmfmjdneljbmoaaRLinkLonger0
set_option linter.unusedVariables false
namespace Go.Proofs.RLink
open Go Go.Eng

theorem below_spec (x n : Int) (h1 : 1 ≤ n) (h2 : n ≤ 4611686018427387904) : spymake_Below.F (x, n) = some (x % n) := by
  apply Y.is
  refine Y.of (spymake_Below.F_of _) (Y.nd (by omega) (Y.np' (by omega) (Y.ite (fun c => ?_) (fun c => ?_))))
  · refine Y.of (spymake_Below.D0_of _) (Y.some ?_)
    rw [tmod_neg_add h1 c]
    exact w64 (by have := Int.emod_nonneg x (b := n) (by omega); omega) (by have := Int.emod_lt_of_pos x (b := n) (by omega); omega)
  · exact Y.of (spymake_Below.D0_of _) (Y.some (tmod_of_nonneg h1 c))
theorem below_range (x n : Int) (h1 : 1 ≤ n) : 0 ≤ x % n ∧ x % n < n := ⟨Int.emod_nonneg x (by omega), Int.emod_lt_of_pos x (by omega)⟩
/-- Next gives a number below n, and counts. -/
theorem next_spec (L : List Int) (at_ n : Int) (ha : 0 ≤ at_) (hb : at_ ≤ 4611686018427387904) (h1 : 1 ≤ n) (h2 : n ≤ 4611686018427387904) :
    Y (spymake_Stream_Next.F (n, L, at_)) fun r => ∃ x, r = (x, L, at_ + 1) ∧ 0 ≤ x ∧ x < n := by
  refine Y.of (spymake_Stream_Next.F_of _) ?_
  dsimp only [spymake_Stream_Next.d]
  rw [w64 (x := at_ + 1) (by omega) (by omega), w64 (x := at_ + 1 - 1) (by omega) (by omega)]
  refine Y.ite (fun c => ?_) (fun c => ?_)
  · refine Y.bE (below_spec _ _ h1 h2) (Y.some ⟨_, rfl, below_range _ _ h1⟩)
  · rw [show at_ + 1 - 1 = at_ by omega]
    have e : Int.tmod at_ (L.length : Int) = at_ % (L.length : Int) := Int.tmod_eq_emod_of_nonneg ha
    have e1 := Int.emod_nonneg at_ (b := (L.length : Int)) c
    have e2 := Int.emod_lt_of_pos at_ (b := (L.length : Int)) (by omega)
    rw [e]
    refine Y.np' c (Y.np' c (Y.pd ⟨e1, e2⟩ (Y.bE (below_spec _ 1073741824 (by omega) (by omega)) (Y.bE (below_spec _ _ h1 h2) (Y.some ⟨_, rfl, below_range _ _ h1⟩)))))
theorem Y.next {β : Type} {f : spymake_Stream_Next.R → Option β} {Q : β → Prop} (L : List Int) (at_ n : Int) (ha : 0 ≤ at_) (hb : at_ ≤ 4611686018427387904) (h1 : 1 ≤ n) (h2 : n ≤ 4611686018427387904)
    (k : ∀ r, 0 ≤ r → r < n → Y (f (r, L, at_ + 1)) Q) : Y (bnd (spymake_Stream_Next.F (n, L, at_)) f) Q := by
  obtain ⟨r, hr, x, rfl, h3, h4⟩ := next_spec L at_ n ha hb h1 h2
  exact Y.bE hr (k x h3 h4)
end Go.Proofs.RLink
namespace Go.Proofs.RLink
open Go Go.Eng

theorem shl_i64 (a : Int) (b : Int) : shl .i64 a b = wrap .i64 (a * 2 ^ min b.toNat 64) := rfl
theorem shl_u16 (a : Int) (b : Int) : shl .u16 a b = wrap .u16 (a * 2 ^ min b.toNat 16) := rfl
theorem shr_eq (k : IntKind) (a : Int) (b : Int) : shr k a b = a.fdiv (2 ^ min b.toNat k.bits) := rfl

/-- One bit of the check sum, one byte, all. -/
def crcBit (c : Int) : Int := if bAnd .u16 c 32768 = 0 then shl .u16 c 1 else bXor .u16 (shl .u16 c 1) 4129
def crcBits : Nat → Int → Int
  | 0, c => c
  | d + 1, c => crcBits d (crcBit c)
def crcByte (c x : Int) : Int := crcBits 8 (bXor .u16 c (shl .u16 (wrap .u16 x) 8))
def crc (l : List Int) : Int := l.foldl crcByte 65535

theorem sum_bits {Q : Int → Prop} (l : List Int) (n i : Int) (d : Nat) : ∀ (c j : Int), j = 8 - (d : Int) → d ≤ 8 → Y (bus_Sum.D0 (crcBits d c, l, n, wrap .i64 (i + 1))) Q → Y (bus_Sum.D1 (c, l, n, i, j)) Q := by
  induction d with
  | zero =>
    intro c j hj _ h
    exact Y.of (bus_Sum.D1_of _) (Y.nd (by omega) h)
  | succ d ih =>
    intro c j hj hd h
    refine Y.of (bus_Sum.D1_of _) (Y.pd (by omega) ?_)
    have e : crcBits (d + 1) c = crcBits d (crcBit c) := rfl
    rw [e] at h
    unfold crcBit at h
    refine Y.nite (fun g => ?_) (fun g => ?_)
    · rw [if_neg g] at h
      refine Y.pd (by omega) (Y.of (bus_Sum.D2_of _) ?_)
      dsimp only [bus_Sum.d2]
      rw [w64 (x := j + 1) (by omega) (by omega)]
      exact ih _ _ (by omega) (by omega) h
    · rw [if_pos g] at h
      refine Y.pd (by omega) (Y.of (bus_Sum.D2_of _) ?_)
      dsimp only [bus_Sum.d2]
      rw [w64 (x := j + 1) (by omega) (by omega)]
      exact ih _ _ (by omega) (by omega) h
theorem sum_loop (l : List Int) (hl : l.length ≤ 1099511627776) (n : Nat) : ∀ (i : Nat) (c : Int), i + n = l.length → Y (bus_Sum.D0 (c, l, (l.length : Int), (i : Int))) (fun r => r = (l.drop i).foldl crcByte c) := by
  induction n with
  | zero =>
    intro i c h
    refine Y.of (bus_Sum.D0_of _) (Y.nd (by omega) (Y.some ?_))
    rw [List.drop_of_length_le (by omega)]
    rfl
  | succ n ih =>
    intro i c h
    refine Y.of (bus_Sum.D0_of _) (Y.pd (by omega) (Y.pd (by omega) (Y.pd (by omega) ?_)))
    refine sum_bits l _ _ 8 _ 0 (by omega) (by omega) ?_
    rw [w64 (x := (i : Int) + 1) (by omega) (by omega)]
    refine (ih (i + 1) _ (by omega)).mono (fun r hr => ?_)
    rw [hr, rd_drop (t := .int .u8) l i (by omega), List.foldl_cons]
    rfl
theorem sum_spec (l : List Int) (hl : l.length ≤ 1099511627776) : bus_Sum.F l = some (crc l) := by
  apply Y.is
  exact Y.of (bus_Sum.F_of _) (sum_loop l hl l.length 0 65535 (by omega))

/-- A packet in order. -/
structure PkOk (a b s : Int) (d : List Int) : Prop where
  a0 : 0 ≤ a
  a1 : a ≤ 15
  b0 : 0 ≤ b
  b1 : b ≤ 15
  s0 : 0 ≤ s
  s1 : s ≤ 65535
  n : d.length ≤ 16
  by0 : ∀ x ∈ d, 0 ≤ x ∧ x < 256
theorem check_spec (a b s : Int) (d : List Int) (h : PkOk a b s d) : bus_Check.F (a, b, s, d) = some 0 := by
  obtain ⟨h0, h1, h2, h3, h4, h5, h6, _⟩ := h
  apply Y.is
  refine Y.of (bus_Check.F_of _) (Y.neg ?_ (Y.nd (by omega) (Y.some rfl)))
  simp only [Bool.or_eq_false_iff, decide_eq_false_iff_not]
  omega
def head3 (a b s : Int) (d : List Int) : List Int := [wrap .u8 (bOr .i64 (shl .i64 a 4) b), wrap .u8 (shr .i64 s 8), wrap .u8 s] ++ d
def bodyOf (a b s : Int) (d : List Int) : List Int := head3 a b s d ++ [wrap .u8 (shr .u16 (crc (head3 a b s d)) 8), wrap .u8 (crc (head3 a b s d))]
theorem body_spec (a b s : Int) (d : List Int) (h : PkOk a b s d) : bus_Body.F (a, b, s, d) = some (0, bodyOf a b s d) := by
  have h6 := h.n
  apply Y.is
  refine Y.of (bus_Body.F_of _) (Y.bE (check_spec a b s d h) (Y.np rfl (Y.pd (by omega) (Y.pd (by omega) (Y.pd (by simp; omega) (Y.bE (sum_spec _ (by simp; omega)) (Y.pd (by omega) (Y.pd (by simp; omega) (Y.some ?_)))))))))
  rfl
theorem bodyOf_len (a b s : Int) (d : List Int) : (bodyOf a b s d).length = 5 + d.length := by
  unfold bodyOf head3
  simp
  omega
theorem bodyOf_byte (a b s : Int) (d : List Int) (h : ∀ x ∈ d, 0 ≤ x ∧ x < 256) : ∀ x ∈ bodyOf a b s d, 0 ≤ x ∧ x < 256 := by
  intro x hx
  unfold bodyOf head3 at hx
  simp only [List.mem_append, List.mem_cons, List.not_mem_nil, or_false] at hx
  rcases hx with (hx | hx) | hx
  · rcases hx with rfl | rfl | rfl <;> rw [wr_u8] <;> omega
  · exact h x hx
  · rcases hx with rfl | rfl <;> rw [wr_u8] <;> omega
def stf (x : Int) : List Int := if x = 126 ∨ x = 125 then [125, bXor .u8 x 32] else [x]
def stfs : List Int → List Int
  | [] => []
  | x :: l => stf x ++ stfs l
theorem stfs_append (l m : List Int) : stfs (l ++ m) = stfs l ++ stfs m := by
  induction l with
  | nil => rfl
  | cons x l ih => simp [stfs, ih]
theorem stuff_loop (l : List Int) (hl : l.length ≤ 1099511627776) (n : Nat) : ∀ (i : Nat) (o : List Int), i + n = l.length → o.length ≤ 2 * i + 1 → Y (bus_Stuff.D0 (l, (l.length : Int), (i : Int), o)) (fun r => r = o ++ stfs (l.drop i) ++ [126]) := by
  induction n with
  | zero =>
    intro i o h ho
    refine Y.of (bus_Stuff.D0_of _) (Y.nd (by omega) (Y.pd (by simp; omega) (Y.some ?_)))
    rw [List.drop_of_length_le (by omega)]
    simp [stfs]
  | succ n ih =>
    intro i o h ho
    have e := rd_drop (t := .int .u8) l i (by omega)
    refine Y.of (bus_Stuff.D0_of _) (Y.pd (by omega) (Y.pd (by omega) (Y.bif (fun g => ?_) (fun g => ?_))))
    · refine Y.pd (by simp; omega) (Y.of (bus_Stuff.D1_of _) ?_)
      dsimp only [bus_Stuff.d1]
      rw [w64 (x := (i : Int) + 1) (by omega) (by omega)]
      refine (ih (i + 1) _ (by omega) (by simp; omega)).mono (fun r hr => ?_)
      simp only [Bool.or_eq_true, decide_eq_true_eq] at g
      rw [hr, e]
      simp only [stfs, stf, if_pos g, List.append_assoc]
    · refine Y.pd (by simp; omega) (Y.of (bus_Stuff.D1_of _) ?_)
      dsimp only [bus_Stuff.d1]
      rw [w64 (x := (i : Int) + 1) (by omega) (by omega)]
      refine (ih (i + 1) _ (by omega) (by simp; omega)).mono (fun r hr => ?_)
      simp only [Bool.or_eq_false_iff, decide_eq_false_iff_not] at g
      rw [hr, e]
      simp only [stfs, stf, if_neg (show ¬ (_ ∨ _) from fun h => h.elim g.1 g.2), List.append_assoc]
theorem stuff_spec (l : List Int) (hl : l.length ≤ 1099511627776) : bus_Stuff.F l = some ([126] ++ stfs l ++ [126]) := by
  apply Y.is
  exact Y.of (bus_Stuff.F_of _) (stuff_loop l hl l.length 0 [126] (by omega) (by simp))
def frame (b : List Int) : List Int := [126] ++ stfs b ++ [126]
theorem stfs_len (l : List Int) : l.length ≤ (stfs l).length ∧ (stfs l).length ≤ 2 * l.length := by
  induction l with
  | nil => simp [stfs]
  | cons x l ih =>
    have : (stf x).length = 1 ∨ (stf x).length = 2 := by
      unfold stf
      split <;> simp
    simp only [stfs, List.length_append, List.length_cons]
    omega

/-- Bits of whole numbers. -/
theorem bOr_nat (m n : Nat) (hm : m < 9223372036854775808) (hn : n < 9223372036854775808) : bOr .i64 (m : Int) (n : Int) = ((m ||| n : Nat) : Int) := by
  unfold bOr
  have h : ((BitVec.ofInt 64 (m : Int) ||| BitVec.ofInt 64 (n : Int)).toNat : Int) = ((m ||| n : Nat) : Int) := by
    rw [BitVec.toNat_or, BitVec.toNat_ofInt, BitVec.toNat_ofInt]
    have e1 : ((m : Int) % ((2 ^ 64 : Nat) : Int)).toNat = m := by omega
    have e2 : ((n : Int) % ((2 ^ 64 : Nat) : Int)).toNat = n := by omega
    rw [e1, e2]
  show IntKind.wrap .i64 ((BitVec.ofInt 64 (m : Int) ||| BitVec.ofInt 64 (n : Int)).toNat : Int) = _
  rw [h]
  have : m ||| n < 2 ^ 63 := Nat.or_lt_two_pow (by omega) (by omega)
  exact w64 (by omega) (by omega)
theorem bOr_add (a b : Int) (i : Nat) (hi : i ≤ 32) (ha : 0 ≤ a) (ha' : a < 1073741824) (hb : 0 ≤ b) (hb' : b < 2 ^ i) : bOr .i64 (a * 2 ^ i) b = a * 2 ^ i + b := by
  obtain ⟨m, rfl⟩ : ∃ m : Nat, a = m := ⟨a.toNat, by omega⟩
  obtain ⟨n, rfl⟩ : ∃ n : Nat, b = n := ⟨b.toNat, by omega⟩
  have hn : n < 2 ^ i := by exact_mod_cast hb'
  have hp : (2 : Nat) ^ i ≤ 2 ^ 32 := Nat.pow_le_pow_right (by omega) hi
  have hm : m * 2 ^ i ≤ 1073741824 * 2 ^ 32 := Nat.mul_le_mul (by omega) hp
  have e : ((m : Int) * 2 ^ i) = ((m * 2 ^ i : Nat) : Int) := by push_cast; rfl
  rw [e, bOr_nat _ _ (by omega) (by omega), ← Nat.shiftLeft_eq, ← Nat.shiftLeft_add_eq_or_of_lt hn]
  push_cast
  rfl

/-- The packet of a body, and what is wrong with it. -/
def parse (b : List Int) : Int × Int × Int × Int × List Int :=
  if (b.length : Int) < 5 then (0, 0, 0, 14, [])
  else if 21 < (b.length : Int) then (0, 0, 0, 2, [])
  else if rd (.int .u8) b ((b.length : Int) - 2) = wrap .u8 (shr .u16 (crc (b.take (b.length - 2))) 8) ∧ rd (.int .u8) b ((b.length : Int) - 1) = wrap .u8 (crc (b.take (b.length - 2))) then
    (wrap .i64 (shr .u8 (rd (.int .u8) b 0) 4), wrap .i64 (bAnd .u8 (rd (.int .u8) b 0) 15), bOr .i64 (shl .i64 (wrap .i64 (rd (.int .u8) b 1)) 8) (wrap .i64 (rd (.int .u8) b 2)), 0, (b.take (b.length - 2)).drop 3)
  else (0, 0, 0, 13, [])
theorem parse_spec (b : List Int) : bus_Parse.F b = some (parse b) := by
  apply Y.is
  refine Y.of (bus_Parse.F_of _) ?_
  dsimp only [bus_Parse.d]
  unfold parse
  by_cases h5 : (b.length : Int) < 5
  · rw [if_pos h5]
    exact Y.pd h5 (Y.some rfl)
  rw [if_neg h5]
  refine Y.nd h5 ?_
  by_cases h21 : 21 < (b.length : Int)
  · rw [if_pos h21]
    exact Y.pd h21 (Y.some rfl)
  rw [if_neg h21]
  refine Y.nd h21 ?_
  rw [w64 (x := (b.length : Int) - 2) (by omega) (by omega), w64 (x := (b.length : Int) - 2 + 1) (by omega) (by omega)]
  rw [show ((b.length : Int) - 2 + 1) = (b.length : Int) - 1 by omega, show ((b.length : Int) - 2).toNat = b.length - 2 by omega, show Int.toNat 0 = 0 from rfl, List.drop_zero]
  refine Y.pd (by omega) (Y.bE (sum_spec _ (by simp; omega)) (Y.pd (by omega) (Y.pd (by omega) (Y.pos ?_ ?_))))
  · simp only [Bool.or_eq_true, decide_eq_true_eq]
    exact .inr (by omega)
  by_cases hs : rd (.int .u8) b ((b.length : Int) - 2) = wrap .u8 (shr .u16 (crc (b.take (b.length - 2))) 8) ∧ rd (.int .u8) b ((b.length : Int) - 1) = wrap .u8 (crc (b.take (b.length - 2)))
  · rw [if_pos hs]
    refine Y.neg ?_ (Y.pd (by omega) (Y.pd (by omega) (Y.pd (by omega) (Y.pd (by omega) (Y.pd (by omega) (Y.pd (by omega) (Y.pd (by omega) (Y.pd ?_ (Y.some rfl)))))))))
    · simp [hs.1, hs.2]
    · simp only [List.length_drop, List.length_take]
      omega
  · rw [if_neg hs]
    refine Y.pos ?_ (Y.some rfl)
    simp only [Bool.or_eq_true, Bool.not_eq_true', decide_eq_false_iff_not]
    by_cases h1 : rd (.int .u8) b ((b.length : Int) - 2) = wrap .u8 (shr .u16 (crc (b.take (b.length - 2))) 8)
    · exact .inr fun h => hs ⟨h1, h⟩
    · exact .inl h1

theorem nib : ∀ a : Fin 16, ∀ b : Fin 16, wrap .i64 (shr .u8 (wrap .u8 (bOr .i64 (shl .i64 (a.val : Int) 4) (b.val : Int))) 4) = (a.val : Int) ∧ wrap .i64 (bAnd .u8 (wrap .u8 (bOr .i64 (shl .i64 (a.val : Int) 4) (b.val : Int))) 15) = (b.val : Int) := by decide +kernel
theorem parse_body (a b s : Int) (d : List Int) (h : PkOk a b s d) : parse (bodyOf a b s d) = (a, b, s, 0, d) := by
  have hl := bodyOf_len a b s d
  obtain ⟨h0, h1, h2, h3, h4, h5, h6, _⟩ := h
  have hH : (head3 a b s d).length = 3 + d.length := by unfold head3; simp; omega
  have ht : (bodyOf a b s d).take ((bodyOf a b s d).length - 2) = head3 a b s d := by
    rw [hl, show 5 + d.length - 2 = (head3 a b s d).length by omega]
    unfold bodyOf
    exact List.take_left' rfl
  have r0 : rd (.int .u8) (bodyOf a b s d) 0 = wrap .u8 (bOr .i64 (shl .i64 a 4) b) := rfl
  have r1 : rd (.int .u8) (bodyOf a b s d) 1 = wrap .u8 (shr .i64 s 8) := rfl
  have r2 : rd (.int .u8) (bodyOf a b s d) 2 = wrap .u8 s := rfl
  have r3 : rd (.int .u8) (bodyOf a b s d) (((bodyOf a b s d).length : Int) - 2) = wrap .u8 (shr .u16 (crc (head3 a b s d)) 8) := by
    rw [hl, show ((5 + d.length : Nat) : Int) - 2 = ((3 + d.length : Nat) : Int) by omega, rd_nat (t := .int .u8) _ _ (by rw [hl]; omega)]
    unfold bodyOf
    rw [List.getElem_append_right (by omega)]
    simp [hH]
  have r4 : rd (.int .u8) (bodyOf a b s d) (((bodyOf a b s d).length : Int) - 1) = wrap .u8 (crc (head3 a b s d)) := by
    rw [hl, show ((5 + d.length : Nat) : Int) - 1 = ((4 + d.length : Nat) : Int) by omega, rd_nat (t := .int .u8) _ _ (by rw [hl]; omega)]
    unfold bodyOf
    rw [List.getElem_append_right (by omega)]
    have : 4 + d.length - (head3 a b s d).length = 1 := by omega
    simp [this]
  unfold parse
  rw [if_neg (by omega), if_neg (by omega), ht, r3, r4, if_pos ⟨rfl, rfl⟩, r0, r1, r2]
  obtain ⟨A, rfl⟩ : ∃ A : Fin 16, a = A.val := ⟨⟨a.toNat, by omega⟩, by show a = ((a.toNat : Nat) : Int); omega⟩
  obtain ⟨B, rfl⟩ : ∃ B : Fin 16, b = B.val := ⟨⟨b.toNat, by omega⟩, by show b = ((b.toNat : Nat) : Int); omega⟩
  obtain ⟨e1, e2⟩ := nib A B
  rw [e1, e2]
  have e3 : bOr .i64 (shl .i64 (wrap .i64 (wrap .u8 (shr .i64 s 8))) 8) (wrap .i64 (wrap .u8 s)) = s := by
    have f1 : shr .i64 s 8 = s / 256 := by rw [shr_eq]; exact Int.fdiv_eq_ediv_of_nonneg _ (by decide)
    rw [f1, wr_u8, wr_u8, w64 (by omega) (by omega), w64 (x := s % 256) (by omega) (by omega), shl_i64]
    have f2 : wrap .i64 (s / 256 % 256 * 2 ^ min (Int.toNat 8) 64) = (s / 256 % 256) * 2 ^ 8 := by
      show wrap .i64 (s / 256 % 256 * 256) = (s / 256 % 256) * 256
      exact w64 (by omega) (by omega)
    rw [f2, bOr_add _ _ 8 (by omega) (by omega) (by omega) (by omega) (by omega)]
    omega
  rw [e3]
  have e4 : (head3 (A.val : Int) (B.val : Int) s d).drop 3 = d := rfl
  rw [e4]

/-- What a reader has. -/
structure Rdr where
  esc : Bool
  skip : Bool
  opn : Bool
  bad : Int
  body : List Int

abbrev Pk := Int × Int × Int × List Int

def Rdr.put (r : Rdr) (x : Int) : Rdr := if r.body.length = 21 then { r with skip := true } else { r with body := r.body ++ [x] }
/-- A byte is taken: a packet that it completes, and the reader. -/
def Rdr.feed (r : Rdr) (x : Int) : Option Pk × Rdr :=
  if x = 126 then
    if r.body.length = 0 ∧ r.skip = false ∧ r.esc = false then (none, ⟨false, false, true, r.bad, []⟩)
    else if r.skip = false ∧ r.esc = false ∧ (parse r.body).2.2.2.1 = 0 then (some ((parse r.body).1, (parse r.body).2.1, (parse r.body).2.2.1, (parse r.body).2.2.2.2), ⟨false, false, true, r.bad, []⟩)
    else (none, ⟨false, false, true, wrap .i64 (r.bad + 1), []⟩)
  else if r.skip = true ∨ r.opn = false then (none, r)
  else if r.esc = true then
    if bXor .u8 x 32 = 126 ∨ bXor .u8 x 32 = 125 then (none, { r with esc := false }.put (bXor .u8 x 32)) else (none, { r with esc := false, skip := true })
  else if x = 125 then (none, { r with esc := true })
  else (none, r.put x)

def feedR (r : Option Pk × Rdr) : bus_Reader_Feed.R := match r.1 with
  | some p => (p.1, p.2.1, p.2.2.1, true, r.2.esc, r.2.skip, r.2.opn, r.2.bad, p.2.2.2, r.2.body)
  | none => (0, 0, 0, false, r.2.esc, r.2.skip, r.2.opn, r.2.bad, [], r.2.body)

theorem put_spec (r : Rdr) (x : Int) (h : r.body.length ≤ 21) : bus_Reader_put.F (x, r.esc, r.skip, r.opn, r.bad, r.body) = some ((r.put x).esc, (r.put x).skip, (r.put x).opn, (r.put x).bad, (r.put x).body) := by
  apply Y.is
  refine Y.of (bus_Reader_put.F_of _) ?_
  dsimp only [bus_Reader_put.d]
  unfold Rdr.put
  by_cases c : r.body.length = 21
  · rw [if_pos c]
    exact Y.pd (by omega) (Y.some rfl)
  · rw [if_neg c]
    refine Y.nd (by omega) (Y.pd ?_ (Y.some rfl))
    simp
    omega
theorem flag_spec (r : Rdr) : bus_Reader_flag.F (r.esc, r.skip, r.opn, r.bad, r.body) = some (let q := r.feed 126; match q.1 with
    | some p => (p.1, p.2.1, p.2.2.1, true, false, false, true, q.2.bad, r.body, p.2.2.2, [])
    | none => (0, 0, 0, false, false, false, true, q.2.bad, r.body, [], [])) := by
  apply Y.is
  refine Y.of (bus_Reader_flag.F_of _) ?_
  dsimp only [bus_Reader_flag.d, Rdr.feed]
  rw [if_pos rfl]
  obtain ⟨esc, skip, opn, bad, body⟩ := r
  by_cases c : body.length = 0 ∧ skip = false ∧ esc = false
  · obtain ⟨c1, rfl, rfl⟩ := c
    rw [if_pos ⟨c1, rfl, rfl⟩]
    exact Y.pos (by simp [List.eq_nil_of_length_eq_zero c1]) (Y.some rfl)
  · rw [if_neg c]
    refine Y.neg ?_ (Y.bE (parse_spec _) ?_)
    · cases skip <;> cases esc <;> simp_all
    by_cases c2 : skip = false ∧ esc = false ∧ (parse body).2.2.2.1 = 0
    · rw [if_pos c2]
      obtain ⟨rfl, rfl, c3⟩ := c2
      exact Y.neg (by simp [c3]) (Y.some rfl)
    · rw [if_neg c2]
      refine Y.pos ?_ (Y.some rfl)
      cases skip <;> cases esc <;> simp_all
theorem feed_spec (r : Rdr) (x : Int) (h : r.body.length ≤ 21) : bus_Reader_Feed.F (x, r.esc, r.skip, r.opn, r.bad, r.body) = some (feedR (r.feed x)) := by
  apply Y.is
  refine Y.of (bus_Reader_Feed.F_of _) ?_
  by_cases c : x = 126
  · subst c
    refine Y.pd rfl (Y.bE (flag_spec r) (Y.some ?_))
    have hq : (r.feed 126).2.esc = false ∧ (r.feed 126).2.skip = false ∧ (r.feed 126).2.opn = true ∧ (r.feed 126).2.body = [] := by
      unfold Rdr.feed
      rw [if_pos rfl]
      split
      · exact ⟨rfl, rfl, rfl, rfl⟩
      · split <;> exact ⟨rfl, rfl, rfl, rfl⟩
    unfold feedR
    dsimp only
    obtain ⟨q1, q2, q3, q4⟩ := hq
    cases hp : (r.feed 126).1 with
    | none => simp [q1, q2, q3, q4]
    | some p => simp [q1, q2, q3, q4]
  · refine Y.nd c ?_
    unfold Rdr.feed
    rw [if_neg c]
    obtain ⟨esc, skip, opn, bad, body⟩ := r
    by_cases c1 : skip = true ∨ opn = false
    · rw [if_pos c1]
      refine Y.pos ?_ (Y.of (bus_Reader_Feed.D0_of _) (Y.some rfl))
      rcases c1 with rfl | rfl <;> simp
    · rw [if_neg c1]
      refine Y.neg ?_ ?_
      · cases skip <;> cases opn <;> simp_all
      cases esc with
      | true =>
        refine Y.pos rfl ?_
        rw [if_pos rfl]
        by_cases c2 : bXor .u8 x 32 = 126 ∨ bXor .u8 x 32 = 125
        · rw [if_pos c2]
          exact Y.pos (by simpa using c2) (Y.bE (put_spec ⟨false, skip, opn, bad, body⟩ _ h) (Y.of (bus_Reader_Feed.D1_of _) (Y.some rfl)))
        · rw [if_neg c2]
          exact Y.neg (by simpa using c2) (Y.of (bus_Reader_Feed.D0_of _) (Y.some rfl))
      | false =>
        refine Y.neg rfl ?_
        rw [if_neg Bool.false_ne_true]
        by_cases c2 : x = 125
        · rw [if_pos c2]
          exact Y.pd c2 (Y.of (bus_Reader_Feed.D0_of _) (Y.some rfl))
        · rw [if_neg c2]
          exact Y.nd c2 (Y.bE (put_spec ⟨false, skip, opn, bad, body⟩ _ h) (Y.of (bus_Reader_Feed.D1_of _) (Y.some rfl)))
theorem feed_len (r : Rdr) (x : Int) (h : r.body.length ≤ 21) : (r.feed x).2.body.length ≤ 21 := by
  have hput : ∀ (q : Rdr) y, q.body.length ≤ 21 → (q.put y).body.length ≤ 21 := by
    intro q y hq
    unfold Rdr.put
    split
    · exact hq
    · simp only [List.length_append, List.length_cons, List.length_nil]
      omega
  unfold Rdr.feed
  split
  · split
    · simp
    · split <;> simp
  · split
    · exact h
    · split
      · split
        · exact hput _ _ h
        · exact h
      · split
        · exact h
        · exact hput _ _ h

/-- A stream is taken: the packets, and the reader. -/
def decode : List Int → Rdr → List Pk → Rdr × List Pk
  | [], r, o => (r, o)
  | x :: l, r, o => decode l (r.feed x).2 (o ++ (r.feed x).1.toList)
theorem decode_append (l m : List Int) : ∀ (r : Rdr) (o : List Pk), decode (l ++ m) r o = decode m (decode l r o).1 (decode l r o).2 := by
  induction l with
  | nil => intro r o; rfl
  | cons x l ih => intro r o; exact ih _ _
theorem decode_more (l : List Int) : ∀ (r : Rdr) (o : List Pk), o.length ≤ (decode l r o).2.length := by
  induction l with
  | nil => intro r o; exact Nat.le_refl _
  | cons x l ih => intro r o; exact Nat.le_trans (by simp) (ih _ _)
theorem decode_loop (l : List Int) (hl : l.length ≤ 1125899906842624) (n : Nat) : ∀ (i : Nat) (r : Rdr) (o : List Pk), i + n = l.length → r.body.length ≤ 21 → (decode (l.drop i) r o).2.length ≤ 1048576 →
    Y (bus_Decode.D0 (l, (l.length : Int), (i : Int), r.esc, r.skip, r.opn, r.bad, o, r.body)) (fun q => q = ((decode (l.drop i) r o).1.bad, (decode (l.drop i) r o).2)) := by
  induction n with
  | zero =>
    intro i r o h hb ho
    refine Y.of (bus_Decode.D0_of _) (Y.nd (by omega) (Y.some ?_))
    rw [List.drop_of_length_le (by omega)]
    rfl
  | succ n ih =>
    intro i r o h hb ho
    have e := rd_drop (t := .int .u8) l i (by omega)
    refine Y.of (bus_Decode.D0_of _) (Y.pd (by omega) (Y.pd (by omega) (Y.bE (feed_spec r _ hb) ?_)))
    have hd : decode (l.drop i) r o = decode (l.drop (i + 1)) (r.feed (rd (.int .u8) l (i : Int))).2 (o ++ (r.feed (rd (.int .u8) l (i : Int))).1.toList) := by rw [e]; rfl
    rw [hd] at ho ⊢
    have hlen := feed_len r (rd (.int .u8) l (i : Int)) hb
    generalize r.feed (rd (.int .u8) l (i : Int)) = q at *
    obtain ⟨p, r'⟩ := q
    cases p with
    | none =>
      refine Y.neg rfl (Y.of (bus_Decode.D1_of _) ?_)
      dsimp only [bus_Decode.d1, feedR]
      rw [w64 (x := (i : Int) + 1) (by omega) (by omega)]
      have := ih (i + 1) r' o (by omega) hlen (by simpa using ho)
      simpa using this
    | some p =>
      have hm := decode_more (l.drop (i + 1)) r' (o ++ [p])
      simp only [Option.toList_some, List.length_append, List.length_cons, List.length_nil] at ho hm
      refine Y.pos rfl (Y.pd (by simp; omega) (Y.of (bus_Decode.D1_of _) ?_))
      dsimp only [bus_Decode.d1, feedR]
      rw [w64 (x := (i : Int) + 1) (by omega) (by omega)]
      exact ih (i + 1) r' (o ++ [p]) (by omega) hlen ho
def rdr0 : Rdr := ⟨false, false, false, 0, []⟩
theorem decode_spec (l : List Int) (hl : l.length ≤ 1125899906842624) (h : (decode l rdr0 []).2.length ≤ 1048576) : bus_Decode.F l = some ((decode l rdr0 []).1.bad, (decode l rdr0 []).2) := by
  apply Y.is
  exact Y.of (bus_Decode.F_of _) (decode_loop l hl l.length 0 rdr0 [] (by omega) (by decide) h)

/-- Bytes of a body, as they are sent, are taken into an open reader. -/
theorem decode_stf (x : Int) (hx : 0 ≤ x ∧ x < 256) (bad : Int) (acc : List Int) (o : List Pk) (h : acc.length < 21) : decode (stf x) ⟨false, false, true, bad, acc⟩ o = (⟨false, false, true, bad, acc ++ [x]⟩, o) := by
  have hne : acc.length ≠ 21 := by omega
  unfold stf
  by_cases c : x = 126 ∨ x = 125
  · rw [if_pos c]
    rcases c with rfl | rfl
    · simp [decode, Rdr.feed, Rdr.put, hne, show bXor .u8 126 32 = 94 by decide, show bXor .u8 94 32 = 126 by decide]
    · simp [decode, Rdr.feed, Rdr.put, hne, show bXor .u8 125 32 = 93 by decide, show bXor .u8 93 32 = 125 by decide]
  · rw [if_neg c]
    have c1 : ¬ x = 126 := fun h => c (.inl h)
    have c2 : ¬ x = 125 := fun h => c (.inr h)
    simp [decode, Rdr.feed, Rdr.put, hne, c1, c2]
theorem decode_stfs (b : List Int) : ∀ (bad : Int) (acc : List Int) (o : List Pk), (∀ x ∈ b, 0 ≤ x ∧ x < 256) → acc.length + b.length ≤ 21 → decode (stfs b) ⟨false, false, true, bad, acc⟩ o = (⟨false, false, true, bad, acc ++ b⟩, o) := by
  induction b with
  | nil => intro bad acc o _ _; simp [stfs, decode]
  | cons x b ih =>
    intro bad acc o hx h
    simp only [List.length_cons] at h
    simp only [stfs]
    rw [decode_append, decode_stf x (hx x List.mem_cons_self) bad acc o (by omega)]
    rw [ih bad (acc ++ [x]) o (fun y hy => hx y (List.mem_cons_of_mem _ hy)) (by simp; omega), List.append_assoc]
    rfl
/-- A reader that takes a flag. -/
def Rdr.clean (r : Rdr) : Bool := !r.skip && !r.esc && r.body.isEmpty
theorem feed_clean (r : Rdr) (h : r.clean = true) : r.feed 126 = (none, ⟨false, false, true, r.bad, []⟩) := by
  unfold Rdr.clean at h
  simp only [Bool.and_eq_true, Bool.not_eq_true', List.isEmpty_iff] at h
  obtain ⟨⟨h1, h2⟩, h3⟩ := h
  unfold Rdr.feed
  rw [if_pos rfl, if_pos ⟨by rw [h3]; rfl, h1, h2⟩]
/-- Whatever was taken, a flag opens anew. -/
theorem feed_flag (r : Rdr) : ∃ bad, (r.feed 126).2 = ⟨false, false, true, bad, []⟩ := by
  unfold Rdr.feed
  rw [if_pos rfl]
  split
  · exact ⟨_, rfl⟩
  · split <;> exact ⟨_, rfl⟩
theorem decode_frame (b : List Int) (bad : Int) (o : List Pk) (hx : ∀ x ∈ b, 0 ≤ x ∧ x < 256) (h : b.length ≤ 21) (r : Rdr) (hr : (r.feed 126) = (none, ⟨false, false, true, bad, []⟩)) :
    decode (frame b) r o = (((⟨false, false, true, bad, b⟩ : Rdr).feed 126).2, o ++ ((⟨false, false, true, bad, b⟩ : Rdr).feed 126).1.toList) := by
  unfold frame
  rw [decode_append, decode_append]
  have e1 : decode [126] r o = (⟨false, false, true, bad, []⟩, o) := by
    simp [decode, hr]
  rw [e1]
  dsimp only
  rw [decode_stfs b bad [] o hx (by simpa using h)]
  simp [decode]
theorem feed_body (a b s : Int) (d : List Int) (hp : PkOk a b s d) (bad : Int) : (⟨false, false, true, bad, bodyOf a b s d⟩ : Rdr).feed 126 = (some (a, b, s, d), ⟨false, false, true, bad, []⟩) := by
  have hl := bodyOf_len a b s d
  have hpb := parse_body a b s d hp
  unfold Rdr.feed
  rw [if_pos rfl, if_neg (by dsimp only; omega), hpb, if_pos ⟨rfl, rfl, rfl⟩]
theorem decode_packet (a b s : Int) (d : List Int) (hp : PkOk a b s d) (o : List Pk) (r : Rdr) (hr : r.clean = true) :
    decode (frame (bodyOf a b s d)) r o = (⟨false, false, true, r.bad, []⟩, o ++ [(a, b, s, d)]) := by
  have hl := bodyOf_len a b s d
  have := hp.n
  rw [decode_frame _ r.bad o (bodyOf_byte a b s d hp.by0) (by omega) r (feed_clean r hr), feed_body a b s d hp]
  rfl
/-- What is no flag is passed over until the first flag. -/
theorem decode_junk (l : List Int) : ∀ (r : Rdr) (o : List Pk), r.opn = false → (∀ x ∈ l, x ≠ 126) → decode l r o = (r, o) := by
  induction l with
  | nil => intro r o _ _; rfl
  | cons x l ih =>
    intro r o hr h
    have : r.feed x = (none, r) := by
      unfold Rdr.feed
      rw [if_neg (h x List.mem_cons_self), if_pos (.inr hr)]
    simp only [decode, this, Option.toList_none, List.append_nil]
    exact ih r o hr fun y hy => h y (List.mem_cons_of_mem _ hy)

end Go.Proofs.RLink
namespace Go.Proofs.RLink
open Go Go.Eng

/-- The check sum's step, over bits. -/
def stp (c : BitVec 16) : BitVec 16 := if c.msb then (c <<< 1) ^^^ 4129#16 else c <<< 1
def stps : Nat → BitVec 16 → BitVec 16
  | 0, c => c
  | n + 1, c => stps n (stp c)
theorem xor4 (a b p : BitVec 16) : a ^^^ p ^^^ (b ^^^ p) = a ^^^ b := by
  rw [BitVec.xor_assoc, BitVec.xor_comm b p, ← BitVec.xor_assoc p p b, BitVec.xor_self, BitVec.zero_xor]
theorem stp_xor (a b : BitVec 16) : stp (a ^^^ b) = stp a ^^^ stp b := by
  unfold stp
  rw [BitVec.msb_xor, BitVec.shiftLeft_xor_distrib]
  cases a.msb <;> cases b.msb
  · rfl
  · exact BitVec.xor_assoc _ _ _
  · show a <<< 1 ^^^ b <<< 1 ^^^ 4129#16 = a <<< 1 ^^^ 4129#16 ^^^ b <<< 1
    rw [BitVec.xor_assoc, BitVec.xor_assoc, BitVec.xor_comm (b <<< 1)]
  · exact (xor4 _ _ _).symm
theorem stps_xor (n : Nat) : ∀ a b : BitVec 16, stps n (a ^^^ b) = stps n a ^^^ stps n b := by
  induction n with
  | zero => intro a b; rfl
  | succ n ih => intro a b; simp only [stps, stp_xor, ih]
theorem stps_zero (n : Nat) : stps n 0#16 = 0#16 := by
  induction n with
  | zero => rfl
  | succ n ih => exact ih
theorem stps_add (m n : Nat) : ∀ c, stps (m + n) c = stps m (stps n c) := by
  induction n with
  | zero => intro c; rfl
  | succ n ih => intro c; exact ih _

/-- Whole numbers as bits. -/
theorem wrap_nat16 (n : Nat) (h : n < 65536) : IntKind.wrap .u16 (n : Int) = n := by
  show wrap .u16 (n : Int) = n
  rw [wr_u16]
  omega
theorem wrap_nat8 (n : Nat) (h : n < 256) : IntKind.wrap .u8 (n : Int) = n := by
  show wrap .u8 (n : Int) = n
  rw [wr_u8]
  omega
theorem ofInt_toNat (c : BitVec 16) : BitVec.ofInt 16 (c.toNat : Int) = c := by
  apply BitVec.eq_of_toNat_eq
  rw [BitVec.toNat_ofInt]
  have := c.isLt
  omega
theorem bXor16 (c d : BitVec 16) : bXor .u16 (c.toNat : Int) (d.toNat : Int) = ((c ^^^ d).toNat : Int) := by
  show IntKind.wrap .u16 ((BitVec.ofInt 16 (c.toNat : Int) ^^^ BitVec.ofInt 16 (d.toNat : Int)).toNat : Int) = _
  rw [ofInt_toNat, ofInt_toNat]
  exact wrap_nat16 _ (c ^^^ d).isLt
theorem shl16 (c : BitVec 16) : shl .u16 (c.toNat : Int) 1 = ((c <<< 1).toNat : Int) := by
  show wrap .u16 ((c.toNat : Int) * 2) = _
  rw [wr_u16, BitVec.toNat_shiftLeft]
  omega
theorem and16 (c : BitVec 16) : bAnd .u16 (c.toNat : Int) 32768 = 0 ↔ c.msb = false := by
  have e : bAnd .u16 (c.toNat : Int) 32768 = ((c &&& 32768#16).toNat : Int) := by
    show IntKind.wrap .u16 ((BitVec.ofInt 16 (c.toNat : Int) &&& BitVec.ofInt 16 32768).toNat : Int) = _
    rw [ofInt_toNat]
    exact wrap_nat16 _ (c &&& 32768#16).isLt
  rw [e, show (32768#16) = BitVec.twoPow 16 15 from by decide, BitVec.and_twoPow, BitVec.msb_eq_getLsbD_last]
  show _ ↔ c.getLsbD 15 = false
  cases c.getLsbD 15 <;> simp
theorem crcBit_bv (c : BitVec 16) : crcBit (c.toNat : Int) = ((stp c).toNat : Int) := by
  unfold crcBit stp
  rw [shl16]
  cases h : c.msb with
  | false => rw [if_pos ((and16 c).mpr h)]; rfl
  | true =>
    rw [if_neg fun h' => by rw [(and16 c).mp h'] at h; cases h]
    exact bXor16 (c <<< 1) 4129#16
theorem crcBits_bv (n : Nat) : ∀ c : BitVec 16, crcBits n (c.toNat : Int) = ((stps n c).toNat : Int) := by
  induction n with
  | zero => intro c; rfl
  | succ n ih => intro c; simp only [crcBits, stps, crcBit_bv, ih]
def bst (c : BitVec 16) (x : Int) : BitVec 16 := stps 8 (c ^^^ (BitVec.ofInt 16 x <<< 8))
def crcB (c : BitVec 16) (l : List Int) : BitVec 16 := l.foldl bst c
theorem crcByte_bv (c : BitVec 16) (x : Int) (h : 0 ≤ x ∧ x < 256) : crcByte (c.toNat : Int) x = ((bst c x).toNat : Int) := by
  have e : shl .u16 (wrap .u16 x) 8 = ((BitVec.ofInt 16 x <<< 8).toNat : Int) := by
    show wrap .u16 (wrap .u16 x * 256) = _
    rw [wr_u16, wr_u16, BitVec.toNat_shiftLeft, BitVec.toNat_ofInt]
    omega
  unfold crcByte bst
  rw [e, bXor16, crcBits_bv]
theorem crcB_bv (l : List Int) : ∀ c : BitVec 16, (∀ x ∈ l, 0 ≤ x ∧ x < 256) → l.foldl crcByte (c.toNat : Int) = ((crcB c l).toNat : Int) := by
  induction l with
  | nil => intro c _; rfl
  | cons x l ih =>
    intro c h
    simp only [List.foldl_cons, crcB]
    rw [crcByte_bv c x (h x List.mem_cons_self)]
    exact ih _ fun y hy => h y (List.mem_cons_of_mem _ hy)
theorem crc_bv (l : List Int) (h : ∀ x ∈ l, 0 ≤ x ∧ x < 256) : crc l = ((crcB 65535#16 l).toNat : Int) := crcB_bv l 65535#16 h
theorem bst_xor (c e : BitVec 16) (x : Int) : bst (c ^^^ e) x = bst c x ^^^ stps 8 e := by
  unfold bst
  rw [← stps_xor]
  congr 1
  rw [BitVec.xor_assoc, BitVec.xor_assoc, BitVec.xor_comm e]
theorem crcB_xor (l : List Int) : ∀ c e : BitVec 16, crcB (c ^^^ e) l = crcB c l ^^^ stps (8 * l.length) e := by
  induction l with
  | nil => intro c e; rfl
  | cons x l ih =>
    intro c e
    show crcB (bst (c ^^^ e) x) l = crcB (bst c x) l ^^^ _
    rw [bst_xor, ih, List.length_cons, Nat.mul_add, stps_add]
theorem bXor8 (x m : Int) (hx : 0 ≤ x ∧ x < 256) (hm : 0 ≤ m ∧ m < 256) : BitVec.ofInt 16 (bXor .u8 x m) = BitVec.ofInt 16 x ^^^ BitVec.ofInt 16 m ∧ 0 ≤ bXor .u8 x m ∧ bXor .u8 x m < 256 := by
  obtain ⟨a, rfl⟩ : ∃ a : Nat, x = a := ⟨x.toNat, by omega⟩
  obtain ⟨b, rfl⟩ : ∃ b : Nat, m = b := ⟨m.toNat, by omega⟩
  have hlt : a ^^^ b < 256 := Nat.xor_lt_two_pow (n := 8) (by omega) (by omega)
  have e : bXor .u8 (a : Int) (b : Int) = ((a ^^^ b : Nat) : Int) := by
    show IntKind.wrap .u8 ((BitVec.ofInt 8 (a : Int) ^^^ BitVec.ofInt 8 (b : Int)).toNat : Int) = _
    rw [BitVec.toNat_xor, BitVec.toNat_ofInt, BitVec.toNat_ofInt]
    have e1 : ((a : Int) % ((2 ^ 8 : Nat) : Int)).toNat = a := by omega
    have e2 : ((b : Int) % ((2 ^ 8 : Nat) : Int)).toNat = b := by omega
    rw [e1, e2]
    exact wrap_nat8 _ hlt
  refine ⟨?_, by omega, by omega⟩
  rw [e]
  apply BitVec.eq_of_toNat_eq
  rw [BitVec.toNat_xor, BitVec.toNat_ofInt, BitVec.toNat_ofInt, BitVec.toNat_ofInt]
  have e1 : ((a : Int) % ((2 ^ 16 : Nat) : Int)).toNat = a := by omega
  have e2 : ((b : Int) % ((2 ^ 16 : Nat) : Int)).toNat = b := by omega
  have e3 : (((a ^^^ b : Nat) : Int) % ((2 ^ 16 : Nat) : Int)).toNat = a ^^^ b := by omega
  rw [e1, e2, e3]
/-- A byte in which some bits are turned. -/
theorem crcB_set (l : List Int) : ∀ (k : Nat) (c : BitVec 16) (m : Int), (∀ x ∈ l, 0 ≤ x ∧ x < 256) → 0 ≤ m ∧ m < 256 → (h : k < l.length) →
    crcB c (l.set k (bXor .u8 l[k] m)) = crcB c l ^^^ stps (8 * (l.length - k)) (BitVec.ofInt 16 m <<< 8) := by
  induction l with
  | nil => intro k c m _ _ h; simp at h
  | cons x l ih =>
    intro k c m hb hm h
    cases k with
    | zero =>
      show crcB (bst c (bXor .u8 x m)) l = crcB (bst c x) l ^^^ _
      have e : bst c (bXor .u8 x m) = bst c x ^^^ stps 8 (BitVec.ofInt 16 m <<< 8) := by
        unfold bst
        rw [(bXor8 x m (hb x List.mem_cons_self) hm).1, BitVec.shiftLeft_xor_distrib, ← BitVec.xor_assoc, stps_xor]
      rw [e, crcB_xor, Nat.sub_zero, List.length_cons, Nat.mul_add, stps_add]
    | succ k =>
      have hk : k < l.length := by simpa using h
      show crcB (bst c x) (l.set k (bXor .u8 (l[k]'hk) m)) = crcB (bst c x) l ^^^ _
      rw [ih k _ m (fun y hy => hb y (List.mem_cons_of_mem _ hy)) hm (by simpa using h), List.length_cons]
      congr 2
      omega
/-- The trace of a single bit. -/
def pw (n : Nat) : BitVec 16 := stps n 1#16
theorem pw_shift : ∀ j : Fin 8, BitVec.ofInt 16 (shl .u8 1 (j.val : Int)) <<< 8 = pw (j.val + 8) := by decide +kernel
theorem shl8_lt : ∀ j : Fin 8, 0 ≤ shl .u8 1 (j.val : Int) ∧ shl .u8 1 (j.val : Int) < 256 := by decide +kernel

/-- A bit of a body is turned. -/
def flip (b : List Int) (i : Int) : List Int := if 0 ≤ i ∧ i < 8 * (b.length : Int) then b.set (i / 8).toNat (bXor .u8 (rd (.int .u8) b (i / 8)) (shl .u8 1 (i % 8))) else b
def flips (b : List Int) (l : List Int) : List Int := l.foldl flip b
theorem flip_len (b : List Int) (i : Int) : (flip b i).length = b.length := by
  unfold flip
  split <;> simp
theorem flips_len (l : List Int) : ∀ b : List Int, (flips b l).length = b.length := by
  induction l with
  | nil => intro b; rfl
  | cons i l ih => intro b; exact (ih _).trans (flip_len b i)
/-- How far a bit has to go. -/
def far (n : Nat) (i : Int) : Nat := 8 * (n - (i / 8).toNat) + (i % 8).toNat + 8
theorem flip_byte (b : List Int) (i : Int) (h : ∀ x ∈ b, 0 ≤ x ∧ x < 256) : ∀ x ∈ flip b i, 0 ≤ x ∧ x < 256 := by
  intro x hx
  unfold flip at hx
  split at hx
  · rename_i hi
    rcases List.mem_or_eq_of_mem_set hx with hx | rfl
    · exact h x hx
    · obtain ⟨j, hj⟩ : ∃ j : Fin 8, i % 8 = j.val := ⟨⟨(i % 8).toNat, by omega⟩, by show i % 8 = (((i % 8).toNat : Nat) : Int); omega⟩
      rw [hj]
      exact (bXor8 _ _ (h _ (rd_mem (t := .int .u8) b (i / 8) (by omega) (by omega))) (shl8_lt j)).2
  · exact h x hx
theorem crcB_flip (b : List Int) (i : Int) (c : BitVec 16) (h : ∀ x ∈ b, 0 ≤ x ∧ x < 256) (hi : 0 ≤ i ∧ i < 8 * (b.length : Int)) : crcB c (flip b i) = crcB c b ^^^ pw (far b.length i) := by
  unfold flip
  rw [if_pos hi]
  obtain ⟨j, hj⟩ : ∃ j : Fin 8, i % 8 = j.val := ⟨⟨(i % 8).toNat, by omega⟩, by show i % 8 = (((i % 8).toNat : Nat) : Int); omega⟩
  have hk : (i / 8).toNat < b.length := by omega
  have e := crcB_set b (i / 8).toNat c (shl .u8 1 (j.val : Int)) h (shl8_lt j) hk
  have er : rd (.int .u8) b (i / 8) = b[(i / 8).toNat] := by
    have := rd_nat (t := .int .u8) b _ hk
    rwa [show (((i / 8).toNat : Nat) : Int) = i / 8 by omega] at this
  rw [hj, er, e, pw_shift j]
  congr 1
  unfold pw far
  rw [← stps_add, hj]
  congr 1

/-- The trace of the bits of l, in a body of n bytes. -/
def trace (n : Nat) : List Int → BitVec 16
  | [] => 0#16
  | i :: l => pw (far n i) ^^^ trace n l
theorem crcB_flips (l : List Int) : ∀ (b : List Int) (c : BitVec 16), (∀ x ∈ b, 0 ≤ x ∧ x < 256) → (∀ i ∈ l, 0 ≤ i ∧ i < 8 * (b.length : Int)) → crcB c (flips b l) = crcB c b ^^^ trace b.length l := by
  induction l with
  | nil => intro b c _ _; exact (BitVec.xor_zero).symm
  | cons i l ih =>
    intro b c h hl
    show crcB c (flips (flip b i) l) = _
    rw [ih (flip b i) c (flip_byte b i h) (fun k hk => by rw [flip_len]; exact hl k (List.mem_cons_of_mem _ hk)), crcB_flip b i c h (hl i List.mem_cons_self), flip_len, BitVec.xor_assoc]
    rfl
theorem flips_byte (l : List Int) : ∀ (b : List Int), (∀ x ∈ b, 0 ≤ x ∧ x < 256) → ∀ x ∈ flips b l, 0 ≤ x ∧ x < 256 := by
  induction l with
  | nil => intro b h; exact h
  | cons i l ih => intro b h; exact ih _ (flip_byte b i h)

/-- The sum behind a body clears it. -/
theorem split16 (c : BitVec 16) : c ^^^ (BitVec.ofInt 16 (wrap .u8 (shr .u16 (c.toNat : Int) 8)) <<< 8) = BitVec.ofInt 16 (wrap .u8 (c.toNat : Int)) := by
  have h := c.isLt
  have e1 : shr .u16 (c.toNat : Int) 8 = ((c.toNat / 256 : Nat) : Int) := by
    rw [shr_eq]
    show Int.fdiv (c.toNat : Int) 256 = _
    rw [Int.fdiv_eq_ediv_of_nonneg _ (by decide)]
    rfl
  have e2 : BitVec.ofInt 16 (wrap .u8 (shr .u16 (c.toNat : Int) 8)) <<< 8 = (c >>> 8) <<< 8 := by
    congr 1
    apply BitVec.eq_of_toNat_eq
    rw [e1, wr_u8, BitVec.toNat_ofInt, BitVec.toNat_ushiftRight, Nat.shiftRight_eq_div_pow]
    omega
  rw [e2]
  apply BitVec.eq_of_toNat_eq
  have e3 : ((c >>> 8) <<< 8).toNat = c.toNat / 256 * 256 := by
    rw [BitVec.toNat_shiftLeft, BitVec.toNat_ushiftRight, Nat.shiftRight_eq_div_pow, Nat.shiftLeft_eq]
    omega
  rw [BitVec.toNat_xor, e3, BitVec.toNat_ofInt, wr_u8]
  have e4 : c.toNat = 2 ^ 8 * (c.toNat / 256) + c.toNat % 256 := by omega
  have e5 : c.toNat ^^^ (c.toNat / 256 * 256) = c.toNat % 256 := by
    apply Nat.eq_of_testBit_eq
    intro i
    rw [Nat.testBit_xor]
    have f1 : (c.toNat / 256 * 256).testBit i = (decide (8 ≤ i) && c.toNat.testBit i) := by
      rw [show c.toNat / 256 * 256 = (c.toNat >>> 8) <<< 8 by rw [Nat.shiftRight_eq_div_pow, Nat.shiftLeft_eq], Nat.testBit_shiftLeft, Nat.testBit_shiftRight]
      by_cases h8 : 8 ≤ i
      · rw [show 8 + (i - 8) = i by omega]
      · simp [h8]
    have f2 : (c.toNat % 256).testBit i = (decide (i < 8) && c.toNat.testBit i) := Nat.testBit_mod_two_pow c.toNat 8 i
    rw [f1, f2]
    by_cases h8 : 8 ≤ i
    · simp [h8, show ¬ i < 8 by omega]
    · simp [h8, show i < 8 by omega]
  rw [e5]
  omega
theorem stps8_low : ∀ x : Fin 256, stps 8 (BitVec.ofInt 16 (x.val : Int)) = BitVec.ofInt 16 (x.val : Int) <<< 8 := by decide +kernel
theorem crcB_clear (h : List Int) : crcB 65535#16 (h ++ [wrap .u8 (shr .u16 ((crcB 65535#16 h).toNat : Int) 8), wrap .u8 ((crcB 65535#16 h).toNat : Int)]) = 0#16 := by
  generalize hc : crcB 65535#16 h = c
  have e : crcB 65535#16 (h ++ [wrap .u8 (shr .u16 (c.toNat : Int) 8), wrap .u8 (c.toNat : Int)]) = bst (bst c (wrap .u8 (shr .u16 (c.toNat : Int) 8))) (wrap .u8 (c.toNat : Int)) := by
    unfold crcB
    rw [List.foldl_append]
    show bst (bst (crcB 65535#16 h) _) _ = _
    rw [hc]
  rw [e]
  have hx : ∃ x : Fin 256, wrap .u8 (c.toNat : Int) = x.val := ⟨⟨c.toNat % 256, by omega⟩, by rw [wr_u8]; show _ = ((c.toNat % 256 : Nat) : Int); omega⟩
  unfold bst
  rw [split16]
  obtain ⟨x, hx⟩ := hx
  rw [hx, stps8_low x, BitVec.xor_self]
  exact stps_zero 8

/-- Bits set, counted by twos. -/
def par (n : Nat) : Bool := (List.range 16).foldl (fun p i => p ^^ n.testBit i) false
theorem fold_xor (l : List Nat) (f g : Nat → Bool) : ∀ p q : Bool, l.foldl (fun a i => a ^^ (f i ^^ g i)) (p ^^ q) = (l.foldl (fun a i => a ^^ f i) p ^^ l.foldl (fun a i => a ^^ g i) q) := by
  induction l with
  | nil => intro p q; rfl
  | cons i l ih =>
    intro p q
    simp only [List.foldl_cons]
    rw [← ih]
    congr 1
    cases p <;> cases q <;> cases f i <;> cases g i <;> rfl
theorem par_xor (a b : Nat) : par (a ^^^ b) = (par a ^^ par b) := by
  unfold par
  rw [← fold_xor]
  simp only [Nat.testBit_xor, Bool.false_xor]
def pws : List Nat := (List.range 184).map fun n => (pw n).toNat
theorem pws_odd : ∀ n : Fin 184, par (pw n.val).toNat = true := by decide +kernel
theorem pws_ne : (List.range 184).all (fun a => (List.range a).all fun b => !Nat.beq (pws.getD a 0) (pws.getD b 0)) = true := by decide +kernel
theorem pw_ne (a b : Nat) (ha : a < 184) (h : b < a) : pw a ≠ pw b := by
  intro e
  have h1 := List.all_eq_true.mp pws_ne a (List.mem_range.mpr ha)
  have h2 := List.all_eq_true.mp h1 b (List.mem_range.mpr h)
  have ga : ∀ n, n < 184 → pws.getD n 0 = (pw n).toNat := by
    intro n hn
    unfold pws
    rw [List.getD_eq_getElem?_getD, List.getElem?_map, List.getElem?_range hn]
    rfl
  rw [ga a ha, ga b (by omega), e] at h2
  simp at h2
/-- One to three bits leave a trace. -/
theorem trace_ne (n : Nat) (hn : n ≤ 21) (l : List Int) (h0 : l ≠ []) (h3 : l.length ≤ 3) (hd : l.Nodup) (hl : ∀ i ∈ l, 0 ≤ i ∧ i < 8 * (n : Int)) : trace n l ≠ 0#16 := by
  have hf : ∀ i ∈ l, far n i < 184 := by
    intro i hi
    have := hl i hi
    unfold far
    omega
  have odd : ∀ i ∈ l, par (pw (far n i)).toNat = true := fun i hi => pws_odd ⟨far n i, hf i hi⟩
  have ne : ∀ i ∈ l, ∀ j ∈ l, i ≠ j → pw (far n i) ≠ pw (far n j) := by
    intro i hi j hj hij
    have a := hl i hi
    have b := hl j hj
    have hne : far n i ≠ far n j := by
      intro e
      apply hij
      unfold far at e
      omega
    rcases Nat.lt_or_gt_of_ne hne with hlt | hgt
    · exact (pw_ne _ _ (hf j hj) hlt).symm
    · exact pw_ne _ _ (hf i hi) hgt
  match l, h0, h3, hd, odd, ne with
  | [i], _, _, _, odd, _ =>
    intro e
    have h1 : trace n [i] = pw (far n i) := BitVec.xor_zero
    have := odd i (by simp)
    rw [← h1, e] at this
    exact absurd this (by decide)
  | [i, j], _, _, hd, _, ne =>
    intro e
    have h1 : trace n [i, j] = pw (far n i) ^^^ pw (far n j) := by
      show _ ^^^ (_ ^^^ 0#16) = _
      rw [BitVec.xor_zero]
    rw [h1] at e
    exact ne i (by simp) j (by simp) (by simpa using hd) (BitVec.xor_eq_zero_iff.mp e)
  | [i, j, k], _, _, _, odd, _ =>
    intro e
    have h1 : trace n [i, j, k] = pw (far n i) ^^^ (pw (far n j) ^^^ pw (far n k)) := by
      show _ ^^^ (_ ^^^ (_ ^^^ 0#16)) = _
      rw [BitVec.xor_zero]
    rw [h1] at e
    have h2 := congrArg (fun c : BitVec 16 => par c.toNat) e
    simp only [BitVec.toNat_xor, par_xor] at h2
    rw [odd i (by simp), odd j (by simp), odd k (by simp)] at h2
    exact absurd h2 (by decide)

/-- A body with one to three bits turned is no body. -/
theorem parse_bad (b : List Int) (hb : ∀ x ∈ b, 0 ≤ x ∧ x < 256) (h5 : 5 ≤ b.length) (h21 : b.length ≤ 21) (hne : crcB 65535#16 b ≠ 0#16) : (parse b).2.2.2.1 = 13 := by
  unfold parse
  rw [if_neg (by omega), if_neg (by omega)]
  split
  · rename_i hs
    exfalso
    apply hne
    have hH : ∀ x ∈ b.take (b.length - 2), 0 ≤ x ∧ x < 256 := fun x hx => hb x (List.mem_of_mem_take hx)
    rw [crc_bv _ hH] at hs
    have e : b = b.take (b.length - 2) ++ [wrap .u8 (shr .u16 ((crcB 65535#16 (b.take (b.length - 2))).toNat : Int) 8), wrap .u8 ((crcB 65535#16 (b.take (b.length - 2))).toNat : Int)] := by
      have d1 := rd_drop (t := .int .u8) b (b.length - 2) (by omega)
      have d2 := rd_drop (t := .int .u8) b (b.length - 2 + 1) (by omega)
      have d3 : b.drop (b.length - 2 + 1 + 1) = [] := List.drop_of_length_le (by omega)
      rw [d2, d3] at d1
      have e1 : ((b.length - 2 : Nat) : Int) = (b.length : Int) - 2 := by omega
      have e2 : ((b.length - 2 + 1 : Nat) : Int) = (b.length : Int) - 1 := by omega
      rw [e1, e2, hs.1, hs.2] at d1
      have := List.take_append_drop (b.length - 2) b
      rw [d1] at this
      exact this.symm
    rw [e]
    have hlen : (b.take (b.length - 2) ++ [wrap .u8 (shr .u16 ((crcB 65535#16 (b.take (b.length - 2))).toNat : Int) 8), wrap .u8 ((crcB 65535#16 (b.take (b.length - 2))).toNat : Int)]).length = b.length := by rw [← e]
    exact crcB_clear _
  · rfl
theorem body_clear (a b s : Int) (d : List Int) (hp : PkOk a b s d) : crcB 65535#16 (bodyOf a b s d) = 0#16 := by
  have hh : ∀ x ∈ head3 a b s d, 0 ≤ x ∧ x < 256 := fun x hx => bodyOf_byte a b s d hp.by0 x (by unfold bodyOf; exact List.mem_append_left _ hx)
  unfold bodyOf
  rw [crc_bv _ hh]
  exact crcB_clear _
theorem parse_flips (a b s : Int) (d : List Int) (hp : PkOk a b s d) (l : List Int) (h0 : l ≠ []) (h3 : l.length ≤ 3) (hd : l.Nodup) (hl : ∀ i ∈ l, 0 ≤ i ∧ i < 8 * ((bodyOf a b s d).length : Int)) :
    (parse (flips (bodyOf a b s d) l)).2.2.2.1 = 13 := by
  have hlen := bodyOf_len a b s d
  have hn := hp.n
  have hby := bodyOf_byte a b s d hp.by0
  refine parse_bad _ (flips_byte l _ hby) (by rw [flips_len]; omega) (by rw [flips_len]; omega) ?_
  rw [crcB_flips l _ _ hby hl, body_clear a b s d hp, BitVec.zero_xor]
  exact trace_ne _ (by omega) l h0 h3 hd hl

theorem noise_loop (l : List Int) (hl : l.length ≤ 1048576) (n : Nat) : ∀ (i : Nat) (b : List Int), i + n = l.length → b.length ≤ 1048576 → (∀ x ∈ l, -9223372036854775808 ≤ x ∧ x ≤ 9223372036854775807) →
    Y (bus_Noise.D0 (l, (l.length : Int), (i : Int), b)) (fun r => r = (0, frame (flips b (l.drop i)))) := by
  induction n with
  | zero =>
    intro i b h hb _
    refine Y.of (bus_Noise.D0_of _) (Y.nd (by omega) (Y.bE (stuff_spec b (by omega)) (Y.some ?_)))
    rw [List.drop_of_length_le (by omega)]
    rfl
  | succ n ih =>
    intro i b h hb hw
    have e := rd_drop (t := .int .i64) l i (by omega)
    have hm := hw _ (rd_mem (t := .int .i64) l (i : Int) (by omega) (by omega))
    have ef : flips b (l.drop i) = flips (flip b (rd (.int .i64) l (i : Int))) (l.drop (i + 1)) := by rw [e]; rfl
    rw [ef]
    refine Y.of (bus_Noise.D0_of _) (Y.pd (by omega) (Y.pd (by omega) ?_))
    rw [w64 (x := 8 * (b.length : Int)) (by omega) (by omega)]
    have next : ∀ b', b' = flip b (rd (.int .i64) l (i : Int)) → Y (bus_Noise.D1 (l, (l.length : Int), (i : Int), b')) (fun r => r = (0, frame (flips (flip b (rd (.int .i64) l (i : Int))) (l.drop (i + 1))))) := by
      rintro b' rfl
      refine Y.of (bus_Noise.D1_of _) ?_
      dsimp only [bus_Noise.d1]
      rw [w64 (x := (i : Int) + 1) (by omega) (by omega)]
      exact ih (i + 1) _ (by omega) (by rw [flip_len]; exact hb) hw
    generalize rd (.int .i64) l (i : Int) = x at *
    refine Y.bif (fun c => ?_) (fun c => ?_)
    · have c : @LE.le Int _ 0 x ∧ @LT.lt Int _ x (8 * (b.length : Int)) := by simpa only [Bool.and_eq_true, decide_eq_true_eq] using c
      have e1 : Int.tdiv x 8 = x / 8 := Int.tdiv_eq_ediv_of_nonneg c.1
      have e2 : Int.tmod x 8 = x % 8 := Int.tmod_eq_emod_of_nonneg c.1
      rw [e1, e2, w64 (x := x / 8) (by omega) (by omega)]
      refine Y.np' (by decide) (Y.pd (by omega) (Y.np' (by decide) (Y.pd (by omega) (Y.pd (by omega) (next _ ?_)))))
      unfold flip
      rw [if_pos c]
    · have c : ¬ @LE.le Int _ 0 x ∨ ¬ @LT.lt Int _ x (8 * (b.length : Int)) := by simpa only [Bool.and_eq_false_iff, decide_eq_false_iff_not] using c
      refine next _ ?_
      unfold flip
      rw [if_neg (by omega)]
theorem noise_spec (a b s : Int) (d : List Int) (hp : PkOk a b s d) (l : List Int) (hl : l.length ≤ 1048576) (hw : ∀ x ∈ l, -9223372036854775808 ≤ x ∧ x ≤ 9223372036854775807) :
    bus_Noise.F (a, b, s, d, l) = some (0, frame (flips (bodyOf a b s d) l)) := by
  have h1 := bodyOf_len a b s d
  have h2 := hp.n
  apply Y.is
  exact Y.of (bus_Noise.F_of _) (Y.bE (body_spec a b s d hp) (Y.np rfl (noise_loop l hl l.length 0 _ (by omega) (by dsimp only; omega) hw)))
end Go.Proofs.RLink
namespace Go.Proofs.RLink
open Go Go.Eng

/-! The line, the device and the controller as plain functions. -/
abbrev CmdT : Ty := .pair (.int .i64) (.pair (.int .i64) (.int .i64))
abbrev FateT : Ty := .pair .bool (.pair (.int .i64) (.pair (.int .i64) (.slice (.int .i64))))
abbrev ParT : Ty := .pair (.int .i64) (.slice (.int .u8))
abbrev Cmd := Int × Int × Int          -- operation, argument, due
abbrev Fate := Bool × Int × Int × List Int
abbrev Par := Int × List Int

/-- A fate that may be. -/
def FateOk (f : Fate) : Prop := (f.1 = true → f.2 = (0, 0, [])) ∧ (f.1 = false → 1 ≤ f.2.1 ∧ f.2.1 ≤ 8 ∧ 0 ≤ f.2.2.1 ∧ f.2.2.1 ≤ 8 ∧ f.2.2.2.length ≤ 3 ∧ f.2.2.2.Nodup ∧ ∀ x ∈ f.2.2.2, 0 ≤ x ∧ x ≤ 9223372036854775807)

def fateAt (fs : List Fate) (n : Int) : Fate := if n < (fs.length : Int) then rd FateT fs n else (false, 1, 0, [])
/-- What a line has after a packet was sent at step t. -/
def sendL (p : Pk) (t : Int) (fs : List Fate) (n : Int) (way : List Par) : List Par :=
  let f := fateAt fs n
  if f.1 = true then way else
    let b := frame (flips (bodyOf p.1 p.2.1 p.2.2.1 p.2.2.2) f.2.2.2)
    if 0 < f.2.2.1 then way ++ [(t + f.2.1, b)] ++ [(t + f.2.2.1, b)] else way ++ [(t + f.2.1, b)]
theorem send_core (D : link_line_send.T0 → Option link_line_send.R) (hD : ∀ v {r}, link_line_send.d0 bus_Noise.F v = some r → D v = some r)
    (p : Pk) (hp : PkOk p.1 p.2.1 p.2.2.1 p.2.2.2) (t : Int) (fs : List Fate) (n : Int) (way : List Par) (ht : 0 ≤ t ∧ t ≤ 1048576) (hn : 0 ≤ n ∧ n ≤ 1048576) (hw : way.length ≤ 1048576) (hF : FateOk (fateAt fs n)) :
    Y (D (t, fs, n, way, p.1, p.2.1, p.2.2.1, p.2.2.2, (fateAt fs n).1, (fateAt fs n).2.1, (fateAt fs n).2.2.1, (fateAt fs n).2.2.2)) fun r => r = (fs, n + 1, sendL p t fs n way) := by
  refine Y.of (hD _) ?_
  dsimp only [link_line_send.d0, sendL]
  generalize fateAt fs n = f at *
  obtain ⟨lost, delay, twice, bits⟩ := f
  rw [w64 (x := n + 1) (by omega) (by omega)]
  obtain ⟨h1, h2⟩ := hF
  cases lost with
  | true => exact Y.pos rfl (Y.some (by rw [if_pos rfl]))
  | false =>
    obtain ⟨d0, d1, t0, t1, b3, bn, bb⟩ := h2 rfl
    dsimp only at d0 d1 t0 t1 b3 bn bb ⊢
    refine Y.neg rfl (Y.bE (noise_spec _ _ _ _ hp bits (by omega) (fun x hx => by have := bb x hx; omega)) (Y.pd (by simp; omega) ?_))
    rw [w64 (x := t + delay) (by omega) (by omega), w64 (x := t + twice) (by omega) (by omega), if_neg Bool.false_ne_true]
    refine Y.ite (fun c => ?_) (fun c => ?_)
    · rw [if_pos c]
      exact Y.pd (by simp; omega) (Y.some rfl)
    · rw [if_neg c]
      exact Y.some rfl
theorem send_spec (p : Pk) (hp : PkOk p.1 p.2.1 p.2.2.1 p.2.2.2) (t : Int) (fs : List Fate) (n : Int) (way : List Par) (ht : 0 ≤ t ∧ t ≤ 1048576) (hn : 0 ≤ n ∧ n ≤ 1048576) (hw : way.length ≤ 1048576) (hf : ∀ f ∈ fs, FateOk f) :
    link_line_send.F (p.1, p.2.1, p.2.2.1, p.2.2.2, t, fs, n, way) = some (fs, n + 1, sendL p t fs n way) := by
  have hF : FateOk (fateAt fs n) := by
    unfold fateAt
    split
    · exact hf _ (rd_mem (t := FateT) fs n hn.1 (by assumption))
    · exact ⟨fun h => by simp at h, fun _ => by simp⟩
  apply Y.is
  refine Y.of (link_line_send.F_of _) ?_
  by_cases c : n < (fs.length : Int)
  · have e : fateAt fs n = rd FateT fs n := if_pos c
    have := send_core link_line_send.D0 (fun v {r} => link_line_send.D0_of v) p hp t fs n way ht hn hw hF
    rw [e] at this
    exact Y.pd c (Y.pd ⟨hn.1, c⟩ this)
  · have e : fateAt fs n = (false, 1, 0, []) := if_neg c
    have := send_core link_line_send.D1 (fun v {r} => link_line_send.D1_of v) p hp t fs n way ht hn hw hF
    rw [e] at this
    exact Y.nd c this

theorem decode_more_le (l : List Int) : (decode l rdr0 []).2.length ≤ l.length := by
  have h : ∀ (l : List Int) (r : Rdr) (o : List Pk), (decode l r o).2.length ≤ o.length + l.length := by
    intro l
    induction l with
    | nil => intro r o; simp [decode]
    | cons x l ih =>
      intro r o
      have := ih (r.feed x).2 (o ++ (r.feed x).1.toList)
      have h1 : (o ++ (r.feed x).1.toList).length ≤ o.length + 1 := by
        cases (r.feed x).1 <;> simp
      simp only [decode, List.length_cons]
      omega
  simpa using h l rdr0 []
/-- What arrives at step t; what is under way behind it. -/
def arrive (t : Int) (way : List Par) : List Int := ((way.filter fun q => q.1 == t).map (·.2)).flatten
def stay (t : Int) (way : List Par) : List Par := way.filter fun q => !(q.1 == t)
def takeL (t : Int) (way : List Par) : List Pk := (decode (arrive t way) rdr0 []).2
theorem arrive_cons (t : Int) (q : Par) (way : List Par) : arrive t (q :: way) = (if q.1 = t then q.2 else []) ++ arrive t way := by
  unfold arrive
  by_cases c : q.1 = t <;> simp [c]
theorem stay_cons (t : Int) (q : Par) (way : List Par) : stay t (q :: way) = (if q.1 = t then [] else [q]) ++ stay t way := by
  unfold stay
  by_cases c : q.1 = t <;> simp [c]
theorem take_loop (t : Int) (fs : List Fate) (k : Int) (way : List Par) (hw : way.length ≤ 10000) (hb : ∀ q ∈ way, q.2.length ≤ 100) (n : Nat) : ∀ (i : Nat) (acc : List Int) (rest : List Par), i + n = way.length → acc.length ≤ 100 * i → rest.length ≤ i →
    Y (link_line_take.D0 (t, (way.length : Int), (i : Int), fs, k, way, acc, rest)) fun r => r = (fs, k, way, (decode (acc ++ arrive t (way.drop i)) rdr0 []).2, rest ++ stay t (way.drop i)) := by
  induction n with
  | zero =>
    intro i acc rest h ha hr
    have hle := decode_more_le acc
    refine Y.of (link_line_take.D0_of _) (Y.nd (by omega) (Y.bE (decode_spec acc (by omega) (by omega)) (Y.some ?_)))
    rw [List.drop_of_length_le (by omega)]
    simp [arrive, stay]
  | succ n ih =>
    intro i acc rest h ha hr
    have e := rd_drop (t := ParT) way i (by omega)
    have hm : rd ParT way (i : Int) ∈ way := rd_mem (t := ParT) way (i : Int) (by omega) (by omega)
    have hq := hb _ hm
    have ea := arrive_cons t (rd ParT way (i : Int)) (way.drop (i + 1))
    have es := stay_cons t (rd ParT way (i : Int)) (way.drop (i + 1))
    rw [← e] at ea es
    rw [ea, es]
    have next : ∀ (acc' : List Int) (rest' : List Par), acc'.length ≤ 100 * (i + 1) → rest'.length ≤ i + 1 → Y (link_line_take.D1 (t, (way.length : Int), (i : Int), fs, k, way, acc', rest')) fun r => r = (fs, k, way, (decode (acc' ++ arrive t (way.drop (i + 1))) rdr0 []).2, rest' ++ stay t (way.drop (i + 1))) := by
      intro acc' rest' h1 h2
      refine Y.of (link_line_take.D1_of _) ?_
      dsimp only [link_line_take.d1]
      rw [w64 (x := (i : Int) + 1) (by omega) (by omega)]
      exact ih (i + 1) acc' rest' (by omega) h1 h2
    refine Y.of (link_line_take.D0_of _) (Y.pd (by omega) (Y.pd (by omega) (Y.ite (fun c => ?_) (fun c => ?_))))
    · have c : (rd ParT way (i : Int)).1 = t := c
      rw [if_pos c, if_pos c, ← List.append_assoc, List.nil_append]
      refine Y.pd ?_ (next _ rest ?_ (by omega))
      · show acc.length + (rd ParT way (i : Int)).2.length ≤ _
        omega
      · rw [List.length_append]
        show acc.length + (rd ParT way (i : Int)).2.length ≤ _
        omega
    · have c : ¬ (rd ParT way (i : Int)).1 = t := c
      rw [if_neg c, if_neg c, List.nil_append, ← List.append_assoc]
      exact Y.pd (by simp; omega) (next acc _ (by omega) (by simp; omega))
theorem take_spec (t : Int) (fs : List Fate) (k : Int) (way : List Par) (hw : way.length ≤ 10000) (hb : ∀ q ∈ way, q.2.length ≤ 100) :
    link_line_take.F (t, fs, k, way) = some (fs, k, way, takeL t way, stay t way) := by
  apply Y.is
  refine Y.of (link_line_take.F_of _) ?_
  refine Y.mono (take_loop t fs k way hw hb way.length 0 [] [] (by omega) (by simp) (by simp)) fun r h => ?_
  rw [h]
  rfl

/-- Bytes of a command: its operation, its last step, its argument. -/
def dataArg (a : Int) : List Int := [56, 48, 40, 32, 24, 16, 8, 0].map fun i => wrap .u8 (shr .u64 (wrap .u64 a) i)
def dataOf (c : Cmd) : List Int := [wrap .u8 c.1, wrap .u8 (shr .i64 c.2.2 8), wrap .u8 c.2.2] ++ dataArg c.2.1
theorem data_spec (c : Cmd) : link_data.F (c.1, c.2.1, c.2.2) = some (dataOf c) := by
  apply Y.is
  refine Y.of (link_data.F_of _) (Y.pd (by omega) ?_)
  have step : ∀ (i : Int) (acc : List Int) (Q : List Int → Prop), 0 ≤ i → i ≤ 56 → acc.length ≤ 100 → Y (link_data.D0 (i - 8, c.1, c.2.1, c.2.2, acc ++ [wrap .u8 (shr .u64 (wrap .u64 c.2.1) i)])) Q → Y (link_data.D0 (i, c.1, c.2.1, c.2.2, acc)) Q := by
    intro i acc Q h0 h1 h2 h
    refine Y.of (link_data.D0_of _) (Y.pd h0 (Y.pd h0 (Y.pd (by simp; omega) ?_)))
    rw [w64 (x := i - 8) (by omega) (by omega)]
    exact h
  refine step 56 _ _ (by omega) (by omega) (by simp) (step 48 _ _ (by omega) (by omega) (by simp) (step 40 _ _ (by omega) (by omega) (by simp) (step 32 _ _ (by omega) (by omega) (by simp) (step 24 _ _ (by omega) (by omega) (by simp) (step 16 _ _ (by omega) (by omega) (by simp) (step 8 _ _ (by omega) (by omega) (by simp) (step 0 _ _ (by omega) (by omega) (by simp) ?_)))))))
  exact Y.of (link_data.D0_of _) (Y.nd (by decide) (Y.some rfl))

def dueOf (d : List Int) : Int := if (d.length : Int) < 3 then -1 else bOr .i64 (shl .i64 (wrap .i64 (rd (.int .u8) d 1)) 8) (wrap .i64 (rd (.int .u8) d 2))
theorem due_spec (a b s : Int) (d : List Int) : link_due.F (a, b, s, d) = some (dueOf d) := by
  apply Y.is
  refine Y.of (link_due.F_of _) ?_
  unfold dueOf
  refine Y.ite (fun c => ?_) (fun c => ?_)
  · rw [if_pos c]
    exact Y.some rfl
  · rw [if_neg c]
    exact Y.pd (by omega) (Y.pd (by omega) (Y.pd (by omega) (Y.some rfl)))
theorem due_of (c : Cmd) (h0 : 0 ≤ c.2.2) (h1 : c.2.2 ≤ 65535) : dueOf (dataOf c) = c.2.2 := by
  have hl : (dataOf c).length = 11 := by simp [dataOf, dataArg]
  unfold dueOf
  rw [if_neg (by omega)]
  have r1 : rd (.int .u8) (dataOf c) 1 = wrap .u8 (shr .i64 c.2.2 8) := rfl
  have r2 : rd (.int .u8) (dataOf c) 2 = wrap .u8 c.2.2 := rfl
  have f1 : shr .i64 c.2.2 8 = c.2.2 / 256 := by rw [shr_eq]; exact Int.fdiv_eq_ediv_of_nonneg _ (by decide)
  rw [r1, r2, f1, wr_u8, wr_u8, w64 (by omega) (by omega), w64 (x := c.2.2 % 256) (by omega) (by omega), shl_i64]
  have f2 : wrap .i64 (c.2.2 / 256 % 256 * 2 ^ min (Int.toNat 8) 64) = (c.2.2 / 256 % 256) * 2 ^ 8 := by
    show wrap .i64 (c.2.2 / 256 % 256 * 256) = (c.2.2 / 256 % 256) * 256
    exact w64 (by omega) (by omega)
  rw [f2, bOr_add _ _ 8 (by omega) (by omega) (by omega) (by omega) (by omega)]
  omega

structure Dev where
  last : Int
  did : Bool
  log : List (Int × Int)
def Dev.after (v : Dev) (p : Pk) (t : Int) : Dev := if v.last < p.2.2.1 then (if p.2.1 = 1 ∧ t ≤ dueOf p.2.2.2 then ⟨p.2.2.1, true, v.log ++ [(p.2.2.1 - 1, t)]⟩ else ⟨p.2.2.1, false, v.log⟩) else v
/-- The device hears a packet. -/
def Dev.hear (v : Dev) (p : Pk) (t : Int) : Option Pk × Dev :=
  if (p.2.1 ≠ 1 ∧ p.2.1 ≠ 2) ∨ p.2.2.1 < v.last then (none, v)
  else (some (0, if (v.after p t).did then 3 else 4, p.2.2.1, []), v.after p t)
def hearR (r : Option Pk × Dev) : link_device_hear.R := match r.1 with
  | some p => (p.1, p.2.1, p.2.2.1, true, r.2.last, r.2.did, p.2.2.2, r.2.log)
  | none => (0, 0, 0, false, r.2.last, r.2.did, [], r.2.log)
theorem hear_spec (p : Pk) (hs : 0 ≤ p.2.2.1 ∧ p.2.2.1 ≤ 65535) (t : Int) (v : Dev) (hl : v.log.length ≤ 1048576) :
    link_device_hear.F (p.1, p.2.1, p.2.2.1, p.2.2.2, t, v.last, v.did, v.log) = some (hearR (v.hear p t)) := by
  obtain ⟨a, k, s, d⟩ := p
  obtain ⟨last, did, log⟩ := v
  dsimp only at hs hl ⊢
  have end0 : ∀ (l : Int) (b : Bool) (g : List (Int × Int)) (u1 u2 u3 : Int) (u4 : List Int), s = l → Y (link_device_hear.D0 (l, b, a, k, s, d, u1, u2, u3, g, u4)) fun r => r = (0, if b then 3 else 4, s, true, l, b, [], g) := by
    rintro l b g u1 u2 u3 u4 h
    refine Y.of (link_device_hear.D0_of _) ?_
    cases b with
    | true => exact Y.pos rfl (Y.of (link_device_hear.D1_of _) (Y.some rfl))
    | false => exact Y.neg rfl (Y.of (link_device_hear.D1_of _) (Y.some rfl))
  have end2 : ∀ (l : Int) (b : Bool) (g : List (Int × Int)) (u1 u2 u3 : Int) (u4 : List Int), Y (link_device_hear.D2 (l, b, g, a, k, s, d, u1, u2, u3, u4)) fun r => r = (0, if b then 3 else 4, s, true, l, b, [], g) := by
    rintro l b g u1 u2 u3 u4
    refine Y.of (link_device_hear.D2_of _) ?_
    cases b with
    | true => exact Y.pos rfl (Y.of (link_device_hear.D3_of _) (Y.some rfl))
    | false => exact Y.neg rfl (Y.of (link_device_hear.D3_of _) (Y.some rfl))
  apply Y.is
  refine Y.of (link_device_hear.F_of _) ?_
  dsimp only [link_device_hear.d, Dev.hear]
  by_cases c : (k ≠ 1 ∧ k ≠ 2) ∨ s < last
  · rw [if_pos c]
    exact Y.pos (by simpa using c) (Y.some rfl)
  · rw [if_neg c]
    refine Y.neg (by simpa using c) ?_
    by_cases c1 : last < s
    · refine Y.pd c1 ?_
      by_cases c2 : k = 1
      · refine Y.pos (by simpa using c2) (Y.bE (due_spec a k s d) ?_)
        by_cases c3 : t ≤ dueOf d
        · have ea : Dev.after ⟨last, did, log⟩ (a, k, s, d) t = ⟨s, true, log ++ [(s - 1, t)]⟩ := by
            unfold Dev.after
            rw [if_pos c1, if_pos ⟨c2, c3⟩]
          rw [ea]
          refine Y.pd c3 (Y.pd (by simp; omega) ?_)
          rw [w64 (x := s - 1) (by omega) (by omega)]
          exact end0 s true _ 0 0 0 [] rfl
        · have ea : Dev.after ⟨last, did, log⟩ (a, k, s, d) t = ⟨s, false, log⟩ := by
            unfold Dev.after
            rw [if_pos c1, if_neg fun h => c3 h.2]
          rw [ea]
          exact Y.nd c3 (end2 s false _ 0 0 0 [])
      · have ea : Dev.after ⟨last, did, log⟩ (a, k, s, d) t = ⟨s, false, log⟩ := by
          unfold Dev.after
          rw [if_pos c1, if_neg fun h => c2 h.1]
        rw [ea]
        exact Y.neg (by simpa using c2) (end2 s false _ 0 0 0 [])
    · have ea : Dev.after ⟨last, did, log⟩ (a, k, s, d) t = ⟨last, did, log⟩ := by
        unfold Dev.after
        rw [if_neg c1]
      rw [ea]
      exact Y.nd c1 (end2 last did _ 0 0 0 [])

structure Ctl where
  now : Int
  first : Int
  reps : List Int
  ats : List Int
/-- The controller hears a packet. -/
def Ctl.hear (n : Nat) (c : Ctl) (p : Pk) (t : Int) : Ctl :=
  if (n : Int) ≤ c.now ∨ p.2.2.1 ≠ c.now + 1 ∨ rd (.int .i64) c.reps c.now ≠ 1 then c
  else if p.2.1 = 3 then ⟨c.now + 1, c.first, c.reps.set c.now.toNat 2, c.ats.set c.now.toNat t⟩
  else if p.2.1 = 4 then ⟨c.now + 1, c.first, c.reps.set c.now.toNat 3, c.ats.set c.now.toNat t⟩
  else c
theorem chear_spec (l : List Cmd) (c : Ctl) (p : Pk) (t : Int) (x y : Int) (ex : List (Int × Int)) (h0 : 0 ≤ c.now) (h1 : c.now ≤ 1048576) (hr : c.reps.length = l.length) (ha : c.ats.length = l.length) :
    link_controller_hear.F (p.1, p.2.1, p.2.2.1, p.2.2.2, t, l, c.now, c.first, x, y, ex, c.reps, c.ats) = some (l, (c.hear l.length p t).now, (c.hear l.length p t).first, x, y, ex, (c.hear l.length p t).reps, (c.hear l.length p t).ats) := by
  obtain ⟨a, k, s, d⟩ := p
  obtain ⟨now, first, reps, ats⟩ := c
  dsimp only at h0 h1 hr ha ⊢
  apply Y.is
  refine Y.of (link_controller_hear.F_of _) ?_
  dsimp only [link_controller_hear.d]
  rw [w64 (x := now + 1) (by omega) (by omega)]
  have fin : ∀ q : Int, (now : Int) < (l.length : Int) → Y (link_controller_hear.D0 (t, l, now, first, x, y, ex, reps.set now.toNat q, ats)) fun r => r = (l, now + 1, first, x, y, ex, reps.set now.toNat q, ats.set now.toNat t) := by
    intro q hq
    refine Y.of (link_controller_hear.D0_of _) (Y.pd (by omega) (Y.some ?_))
    rw [w64 (x := now + 1) (by omega) (by omega)]
  by_cases c0 : (l.length : Int) ≤ now ∨ s ≠ now + 1 ∨ rd (.int .i64) reps now ≠ 1
  · have e : Ctl.hear l.length ⟨now, first, reps, ats⟩ (a, k, s, d) t = ⟨now, first, reps, ats⟩ := by
      unfold Ctl.hear
      rw [if_pos c0]
    rw [e]
    refine Y.pos ?_ (Y.pos ?_ (Y.some rfl))
    · by_cases g : (l.length : Int) ≤ now
      · simp [g]
      · by_cases g2 : s = now + 1
        · simp only [Bool.or_eq_true, decide_eq_true_eq]
          right
          omega
        · simp [g2]
    · simpa [or_assoc] using c0
  · have g : ¬ (l.length : Int) ≤ now := fun h => c0 (.inl h)
    refine Y.pos ?_ (Y.neg (by simpa [or_assoc, and_assoc] using c0) ?_)
    · simp only [Bool.or_eq_true, decide_eq_true_eq]
      right
      omega
    by_cases k3 : k = 3
    · have e : Ctl.hear l.length ⟨now, first, reps, ats⟩ (a, k, s, d) t = ⟨now + 1, first, reps.set now.toNat 2, ats.set now.toNat t⟩ := by
        unfold Ctl.hear
        rw [if_neg c0, if_pos k3]
      rw [e]
      exact Y.pd k3 (Y.pd (by omega) (fin 2 (by omega)))
    · by_cases k4 : k = 4
      · have e : Ctl.hear l.length ⟨now, first, reps, ats⟩ (a, k, s, d) t = ⟨now + 1, first, reps.set now.toNat 3, ats.set now.toNat t⟩ := by
          unfold Ctl.hear
          rw [if_neg c0, if_neg k3, if_pos k4]
        rw [e]
        exact Y.nd k3 (Y.pd k4 (Y.pd (by omega) (fin 3 (by omega))))
      · have e : Ctl.hear l.length ⟨now, first, reps, ats⟩ (a, k, s, d) t = ⟨now, first, reps, ats⟩ := by
          unfold Ctl.hear
          rw [if_neg c0, if_neg k3, if_neg k4]
        rw [e]
        exact Y.nd k3 (Y.nd k4 (Y.some rfl))

def Ctl.begin (c : Ctl) (t : Int) : Ctl := if rd (.int .i64) c.reps c.now = 0 then ⟨c.now, t, c.reps.set c.now.toNat 1, c.ats⟩ else c
/-- The controller's turn. -/
def Ctl.act (l : List Cmd) (c : Ctl) (t : Int) : Option Pk × Ctl :=
  if (l.length : Int) ≤ c.now then (none, c)
  else if Int.tmod (t - (c.begin t).first) 4 ≠ 0 then (none, c.begin t)
  else if (rd CmdT l c.now).2.2 < t then (some (0, 2, c.now + 1, []), c.begin t)
  else (some (0, 1, c.now + 1, dataOf (rd CmdT l c.now)), c.begin t)
def actR (l : List Cmd) (x y : Int) (ex : List (Int × Int)) (r : Option Pk × Ctl) : link_controller_act.R := match r.1 with
  | some p => (p.1, p.2.1, p.2.2.1, true, l, r.2.now, r.2.first, x, y, ex, r.2.reps, r.2.ats, p.2.2.2)
  | none => (0, 0, 0, false, l, r.2.now, r.2.first, x, y, ex, r.2.reps, r.2.ats, [])
theorem act_spec (l : List Cmd) (c : Ctl) (t : Int) (x y : Int) (ex : List (Int × Int)) (h0 : 0 ≤ c.now) (h1 : c.now ≤ 1048576) (ht : 0 ≤ t ∧ t ≤ 1048576) (hf : 0 ≤ c.first ∧ c.first ≤ 1048576) (hr : c.reps.length = l.length) :
    link_controller_act.F (t, l, c.now, c.first, x, y, ex, c.reps, c.ats) = some (actR l x y ex (c.act l t)) := by
  obtain ⟨now, first, reps, ats⟩ := c
  dsimp only at h0 h1 hf hr ⊢
  apply Y.is
  refine Y.of (link_controller_act.F_of _) ?_
  have fin : ∀ c : Ctl, c.now = now → 0 ≤ c.first ∧ c.first ≤ 1048576 → ¬ (l.length : Int) ≤ now → Y (link_controller_act.D0 (t, l, now, c.first, x, y, ex, c.reps, c.ats, 0, 0, 0, [])) fun r => r = actR l x y ex
      (if Int.tmod (t - c.first) 4 ≠ 0 then (none, c) else if (rd CmdT l now).2.2 < t then (some (0, 2, now + 1, []), c) else (some (0, 1, now + 1, dataOf (rd CmdT l now)), c)) := by
    rintro ⟨n', f', r', a'⟩ rfl hf' hl
    dsimp only at hf' hl h0 h1 ⊢
    refine Y.of (link_controller_act.D0_of _) (Y.np' (by decide) ?_)
    rw [w64 (x := t - f') (by omega) (by omega), w64 (x := n' + 1) (by omega) (by omega)]
    refine Y.nite (fun g => ?_) (fun g => ?_)
    · rw [if_pos g]
      exact Y.some rfl
    · rw [if_neg fun h => h g]
      refine Y.pd (by omega) (Y.ite (fun g2 => ?_) (fun g2 => ?_))
      · have g2 : (rd CmdT l n').2.2 < t := g2
        rw [if_pos g2]
        exact Y.some rfl
      · have g2 : ¬ (rd CmdT l n').2.2 < t := g2
        rw [if_neg g2]
        exact Y.pd (by omega) (Y.bE (data_spec (rd CmdT l n')) (Y.some rfl))
  dsimp only [link_controller_act.d]
  by_cases c0 : (l.length : Int) ≤ now
  · have e : Ctl.act l ⟨now, first, reps, ats⟩ t = (none, ⟨now, first, reps, ats⟩) := by
      unfold Ctl.act
      rw [if_pos c0]
    rw [e]
    exact Y.pd c0 (Y.some rfl)
  · refine Y.nd c0 (Y.pd (by omega) ?_)
    by_cases c1 : rd (.int .i64) reps now = 0
    · have eb : Ctl.begin ⟨now, first, reps, ats⟩ t = ⟨now, t, reps.set now.toNat 1, ats⟩ := by
        unfold Ctl.begin
        rw [if_pos c1]
      have := fin ⟨now, t, reps.set now.toNat 1, ats⟩ rfl ht c0
      refine Y.pd c1 (Y.pd (by omega) (this.mono fun r h => ?_))
      rw [h]
      unfold Ctl.act
      rw [if_neg c0, eb]
    · have eb : Ctl.begin ⟨now, first, reps, ats⟩ t = ⟨now, first, reps, ats⟩ := by
        unfold Ctl.begin
        rw [if_neg c1]
      have := fin ⟨now, first, reps, ats⟩ rfl hf c0
      refine Y.nd c1 (this.mono fun r h => ?_)
      rw [h]
      unfold Ctl.act
      rw [if_neg c0, eb]
end Go.Proofs.RLink
namespace Go.Proofs.RLink
open Go Go.Eng

/-- What is under way: when it arrives, the packet, the bits that are turned. -/
structure Wire where
  at_ : Int
  p : Pk
  bits : List Int
def Wire.bytes (w : Wire) : List Int := frame (flips (bodyOf w.p.1 w.p.2.1 w.p.2.2.1 w.p.2.2.2) w.bits)
def Wire.par (w : Wire) : Par := (w.at_, w.bytes)
structure Wire.Ok (w : Wire) : Prop where
  p : PkOk w.p.1 w.p.2.1 w.p.2.2.1 w.p.2.2.2
  few : w.bits.length ≤ 3
  nd : w.bits.Nodup
  pos : ∀ x ∈ w.bits, 0 ≤ x
/-- No bit of the body is turned. -/
def Wire.whole (w : Wire) : Bool := w.bits.all fun x => decide (8 * (5 + (w.p.2.2.2.length : Int)) ≤ x)
theorem flip_out (b : List Int) (i : Int) (h : 8 * (b.length : Int) ≤ i) : flip b i = b := by
  unfold flip
  rw [if_neg (by omega)]
theorem flips_filter (l : List Int) (n : Nat) : ∀ b : List Int, b.length = n → flips b l = flips b (l.filter fun x => !decide (8 * (n : Int) ≤ x)) := by
  induction l with
  | nil => intro b _; rfl
  | cons i l ih =>
    intro b hb
    by_cases c : 8 * (n : Int) ≤ i
    · have : (i :: l).filter (fun x => !decide (8 * (n : Int) ≤ x)) = l.filter fun x => !decide (8 * (n : Int) ≤ x) := by simp [c]
      rw [this, ← ih b hb]
      show flips (flip b i) l = _
      rw [flip_out b i (by omega)]
    · have : (i :: l).filter (fun x => !decide (8 * (n : Int) ≤ x)) = i :: l.filter fun x => !decide (8 * (n : Int) ≤ x) := by simp [c]
      rw [this]
      exact ih (flip b i) (by rw [flip_len]; exact hb)
theorem decode_wire (w : Wire) (hw : w.Ok) (r : Rdr) (hr : r.clean = true) (o : List Pk) : ∃ r', r'.clean = true ∧ decode w.bytes r o = (r', o ++ (if w.whole then [w.p] else [])) := by
  obtain ⟨at_, ⟨a, b, s, d⟩, bits⟩ := w
  obtain ⟨hp, h3, hd, h0⟩ := hw
  dsimp only at hp h3 hd h0
  have hl := bodyOf_len a b s d
  have hn := hp.n
  have hby := bodyOf_byte a b s d hp.by0
  unfold Wire.bytes Wire.whole
  dsimp only
  cases hg : bits.all fun x => decide (8 * (5 + (d.length : Int)) ≤ x) with
  | true =>
    have e : flips (bodyOf a b s d) bits = bodyOf a b s d := by
      rw [flips_filter bits (5 + d.length) _ hl]
      have : bits.filter (fun x => !decide (8 * ((5 + d.length : Nat) : Int) ≤ x)) = [] := by
        rw [List.filter_eq_nil_iff]
        intro x hx
        have := List.all_eq_true.mp hg x hx
        simp only [decide_eq_true_eq] at this
        simp
        omega
      rw [this]
      rfl
    rw [e, decode_packet a b s d hp o r hr]
    exact ⟨⟨false, false, true, r.bad, []⟩, rfl, by simp⟩
  | false =>
    have hne : bits.filter (fun x => !decide (8 * ((5 + d.length : Nat) : Int) ≤ x)) ≠ [] := by
      intro h
      rw [List.filter_eq_nil_iff] at h
      have : bits.all (fun x => decide (8 * (5 + (d.length : Int)) ≤ x)) = true := by
        rw [List.all_eq_true]
        intro x hx
        have := h x hx
        simp at this
        simp only [decide_eq_true_eq]
        omega
      rw [this] at hg
      cases hg
    have hpb := parse_flips a b s d hp (bits.filter fun x => !decide (8 * ((5 + d.length : Nat) : Int) ≤ x)) hne (Nat.le_trans (List.length_filter_le _ _) h3) (hd.filter _) (fun x hx => by
      have h1 := List.mem_filter.mp hx
      have h2 := h0 x h1.1
      have h4 := h1.2
      simp only [Bool.not_eq_true', decide_eq_false_iff_not] at h4
      omega)
    rw [← flips_filter bits (5 + d.length) _ hl] at hpb
    have hlen : (flips (bodyOf a b s d) bits).length = 5 + d.length := by rw [flips_len, hl]
    have hf : (⟨false, false, true, r.bad, flips (bodyOf a b s d) bits⟩ : Rdr).feed 126 = (none, ⟨false, false, true, wrap .i64 (r.bad + 1), []⟩) := by
      unfold Rdr.feed
      rw [if_pos rfl, if_neg (by dsimp only; omega), if_neg (by dsimp only; rw [hpb]; decide)]
    rw [decode_frame _ r.bad o (flips_byte bits _ hby) (by omega) r (feed_clean r hr), hf]
    exact ⟨⟨false, false, true, wrap .i64 (r.bad + 1), []⟩, rfl, by simp⟩
/-- The packets that arrive. -/
def takeW (t : Int) (ws : List Wire) : List Pk := (ws.filter fun w => w.at_ == t && w.whole).map (·.p)
theorem arrive_wires (t : Int) (ws : List Wire) (r : Rdr) (o : List Pk) (hr : r.clean = true) (h : ∀ w ∈ ws, w.Ok) : ∃ r', r'.clean = true ∧ decode (arrive t (ws.map Wire.par)) r o = (r', o ++ takeW t ws) := by
  induction ws generalizing r o with
  | nil => exact ⟨r, hr, by simp [arrive, decode, takeW]⟩
  | cons w ws ih =>
    rw [List.map_cons, arrive_cons, decode_append]
    by_cases c : w.at_ = t
    · have e : (if (Wire.par w).1 = t then (Wire.par w).2 else []) = w.bytes := if_pos c
      rw [e]
      obtain ⟨r1, h1, h2⟩ := decode_wire w (h w List.mem_cons_self) r hr o
      rw [h2]
      obtain ⟨r2, h3, h4⟩ := ih r1 (o ++ (if w.whole then [w.p] else [])) h1 fun q hq => h q (List.mem_cons_of_mem _ hq)
      refine ⟨r2, h3, ?_⟩
      rw [h4, List.append_assoc]
      congr 2
      unfold takeW
      cases hw : w.whole <;> simp [c, hw]
    · have e : (if (Wire.par w).1 = t then (Wire.par w).2 else []) = [] := if_neg c
      rw [e]
      obtain ⟨r2, h3, h4⟩ := ih r o hr fun q hq => h q (List.mem_cons_of_mem _ hq)
      refine ⟨r2, h3, ?_⟩
      show decode _ r o = _
      rw [h4]
      congr 2
      unfold takeW
      simp [c]
theorem take_wires (t : Int) (ws : List Wire) (h : ∀ w ∈ ws, w.Ok) : takeL t (ws.map Wire.par) = takeW t ws := by
  obtain ⟨r', _, e⟩ := arrive_wires t ws rdr0 [] rfl h
  unfold takeL
  rw [e]
  rfl
def stayW (t : Int) (ws : List Wire) : List Wire := ws.filter fun w => !(w.at_ == t)
theorem stay_wires (t : Int) (ws : List Wire) : stay t (ws.map Wire.par) = (stayW t ws).map Wire.par := by
  unfold stay stayW
  rw [List.filter_map]
  rfl
def sendW (p : Pk) (t : Int) (fs : List Fate) (n : Int) (ws : List Wire) : List Wire :=
  let f := fateAt fs n
  if f.1 = true then ws else if 0 < f.2.2.1 then ws ++ [⟨t + f.2.1, p, f.2.2.2⟩] ++ [⟨t + f.2.2.1, p, f.2.2.2⟩] else ws ++ [⟨t + f.2.1, p, f.2.2.2⟩]
theorem send_wires (p : Pk) (t : Int) (fs : List Fate) (n : Int) (ws : List Wire) : sendL p t fs n (ws.map Wire.par) = (sendW p t fs n ws).map Wire.par := by
  unfold sendL sendW
  dsimp only
  split
  · rfl
  · split <;> simp [Wire.par, Wire.bytes]
end Go.Proofs.RLink
namespace Go.Proofs.RLink
open Go Go.Eng

/-! The line, step by step, in plain words. -/
def Ctl.rep (c : Ctl) (i : Int) : Int := rd (.int .i64) c.reps i
def Ctl.time (c : Ctl) (i : Int) : Int := rd (.int .i64) c.ats i
theorem rd_set (l : List Int) (i j x : Int) (h0 : 0 ≤ i) (h1 : i < l.length) (h2 : 0 ≤ j) : rd (.int .i64) (l.set i.toNat x) j = if j = i then x else rd (.int .i64) l j := by
  obtain ⟨m, rfl⟩ : ∃ m : Nat, i = m := ⟨i.toNat, by omega⟩
  obtain ⟨n, rfl⟩ : ∃ n : Nat, j = n := ⟨j.toNat, by omega⟩
  have hm : m < l.length := by omega
  unfold rd
  simp only [Int.toNat_natCast, List.getD_eq_getElem?_getD]
  rw [List.getElem?_set]
  by_cases c : m = n
  · subst c
    simp [hm]
  · rw [if_neg c, if_neg (by omega)]
structure Net where
  dv : Dev
  ct : Ctl
  sent : Int
  heard : Int
  to : List Wire
  fro : List Wire
def Net.dev (back : List Fate) (t : Int) (x : Net) (p : Pk) : Net := match x.dv.hear p t with
  | (some q, v) => { x with dv := v, heard := x.heard + 1, fro := sendW q t back x.heard x.fro }
  | (none, v) => { x with dv := v }
def Net.con (n : Nat) (t : Int) (x : Net) (p : Pk) : Net := { x with ct := x.ct.hear n p t }
def Net.act (l : List Cmd) (there : List Fate) (t : Int) (x : Net) : Net := match x.ct.act l t with
  | (some p, c) => { x with ct := c, sent := x.sent + 1, to := sendW p t there x.sent x.to }
  | (none, c) => { x with ct := c }
def Net.one (back : List Fate) (t : Int) (x : Net) : Net := (takeW t x.to).foldl (Net.dev back t) { x with to := stayW t x.to }
def Net.two (n : Nat) (t : Int) (x : Net) : Net := (takeW t x.fro).foldl (Net.con n t) { x with fro := stayW t x.fro }
def Net.step (l : List Cmd) (there back : List Fate) (x : Net) (t : Int) : Net := ((x.one back t).two l.length t).act l there t
def Net.init (n : Nat) : Net := ⟨⟨0, false, []⟩, ⟨0, 0, List.replicate n 0, List.replicate n 0⟩, 0, 0, [], []⟩
def Net.run (l : List Cmd) (there back : List Fate) : Nat → Net
  | 0 => Net.init l.length
  | k + 1 => (Net.run l there back k).step l there back (k : Int)

/-- Commands that a line can carry. -/
structure CmdsOk (l : List Cmd) : Prop where
  few : l.length ≤ 16
  due0 : ∀ c ∈ l, 0 ≤ c.2.2
  due1 : ∀ c ∈ l, c.2.2 ≤ 65535
def Ran (v : Dev) (i : Int) : Prop := ∃ y ∈ v.log, y.1 = i
def dueAt (l : List Cmd) (i : Int) : Int := (rd CmdT l i).2.2
def Ask (l : List Cmd) (c : Ctl) (p : Pk) : Prop :=
  1 ≤ p.2.2.1 ∧ p.2.2.1 ≤ l.length ∧ (p.2.2.1 ≤ c.now ∨ p.2.2.1 = c.now + 1 ∧ c.rep c.now = 1) ∧ (p.2.1 = 2 ∨ p.2.1 = 1 ∧ dueOf p.2.2.2 = dueAt l (p.2.2.1 - 1))
def Reply (v : Dev) (p : Pk) : Prop := 1 ≤ p.2.2.1 ∧ p.2.2.1 ≤ v.last ∧ (p.2.1 = 3 ∧ Ran v (p.2.2.1 - 1) ∨ p.2.1 = 4 ∧ ¬ Ran v (p.2.2.1 - 1))
structure Core (l : List Cmd) (v : Dev) (c : Ctl) : Prop where
  n0 : 0 ≤ c.now
  n1 : c.now ≤ l.length
  lr : c.reps.length = l.length
  la : c.ats.length = l.length
  l0 : c.now ≤ v.last
  l1 : v.last ≤ c.now + 1
  opn : v.last = c.now + 1 → c.now < l.length ∧ c.rep c.now = 1
  rn : c.now < l.length → c.rep c.now = 0 ∨ c.rep c.now = 1
  old : ∀ i, 0 ≤ i → i < c.now → c.rep i = 2 ∧ Ran v i ∨ c.rep i = 3 ∧ ¬ Ran v i
  new : ∀ i, c.now < i → i < l.length → c.rep i = 0
  sorted : v.log.Pairwise fun a b => a.1 < b.1
  lt : ∀ y ∈ v.log, 0 ≤ y.1 ∧ y.1 < v.last ∧ y.2 ≤ dueAt l y.1
  did : 1 ≤ v.last → (v.did = true ↔ Ran v (v.last - 1))
  did0 : v.last = 0 → v.did = false
theorem Dev.hear_cases (v : Dev) (p : Pk) (t : Int) :
    (v.hear p t = (none, v) ∧ ((p.2.1 ≠ 1 ∧ p.2.1 ≠ 2) ∨ p.2.2.1 < v.last)) ∨
    ((p.2.1 = 1 ∨ p.2.1 = 2) ∧ p.2.2.1 = v.last ∧ v.hear p t = (some (0, if v.did then 3 else 4, p.2.2.1, []), v)) ∨
    (v.last < p.2.2.1 ∧ p.2.1 = 1 ∧ t ≤ dueOf p.2.2.2 ∧ v.hear p t = (some (0, 3, p.2.2.1, []), ⟨p.2.2.1, true, v.log ++ [(p.2.2.1 - 1, t)]⟩)) ∨
    (v.last < p.2.2.1 ∧ (p.2.1 = 2 ∨ p.2.1 = 1 ∧ ¬ t ≤ dueOf p.2.2.2) ∧ v.hear p t = (some (0, 4, p.2.2.1, []), ⟨p.2.2.1, false, v.log⟩)) := by
  unfold Dev.hear Dev.after
  by_cases c : (p.2.1 ≠ 1 ∧ p.2.1 ≠ 2) ∨ p.2.2.1 < v.last
  · left
    rw [if_pos c]
    exact ⟨rfl, c⟩
  · right
    rw [if_neg c]
    by_cases c1 : v.last < p.2.2.1
    · right
      rw [if_pos c1]
      by_cases c2 : p.2.1 = 1 ∧ t ≤ dueOf p.2.2.2
      · left
        rw [if_pos c2]
        exact ⟨c1, c2.1, c2.2, rfl⟩
      · right
        rw [if_neg c2]
        refine ⟨c1, ?_, by simp⟩
        by_cases g : p.2.1 = 1
        · exact .inr ⟨g, fun h => c2 ⟨g, h⟩⟩
        · left
          by_cases g2 : p.2.1 = 2
          · exact g2
          · exact absurd (.inl ⟨g, g2⟩) c
    · left
      rw [if_neg c1]
      refine ⟨?_, ?_, rfl⟩
      · by_cases g : p.2.1 = 1
        · exact .inl g
        · by_cases g2 : p.2.1 = 2
          · exact .inr g2
          · exact absurd (.inl ⟨g, g2⟩) c
      · have : ¬ p.2.2.1 < v.last := fun h => c (.inr h)
        omega
theorem Ctl.hear_cases (n : Nat) (c : Ctl) (p : Pk) (t : Int) :
    (c.hear n p t = c ∧ ¬ (c.now < n ∧ p.2.2.1 = c.now + 1 ∧ c.rep c.now = 1 ∧ (p.2.1 = 3 ∨ p.2.1 = 4))) ∨
    (c.now < n ∧ p.2.2.1 = c.now + 1 ∧ c.rep c.now = 1 ∧ ∃ q, (q = 2 ∨ q = 3) ∧ p.2.1 = q + 1 ∧ c.hear n p t = ⟨c.now + 1, c.first, c.reps.set c.now.toNat q, c.ats.set c.now.toNat t⟩) := by
  unfold Ctl.hear
  by_cases c0 : (n : Int) ≤ c.now ∨ p.2.2.1 ≠ c.now + 1 ∨ rd (.int .i64) c.reps c.now ≠ 1
  · left
    rw [if_pos c0]
    refine ⟨rfl, fun ⟨h1, h2, h3, _⟩ => ?_⟩
    rcases c0 with h | h | h
    · omega
    · exact h h2
    · exact h h3
  · rw [if_neg c0]
    have h1 : c.now < n := by
      have : ¬ (n : Int) ≤ c.now := fun h => c0 (.inl h)
      omega
    have h2 : p.2.2.1 = c.now + 1 := by
      by_cases g : p.2.2.1 = c.now + 1
      · exact g
      · exact absurd (.inr (.inl g)) c0
    have h3 : c.rep c.now = 1 := by
      by_cases g : c.rep c.now = 1
      · exact g
      · exact absurd (.inr (.inr g)) c0
    by_cases k3 : p.2.1 = 3
    · right
      rw [if_pos k3]
      exact ⟨h1, h2, h3, 2, .inl rfl, k3, rfl⟩
    · rw [if_neg k3]
      by_cases k4 : p.2.1 = 4
      · right
        rw [if_pos k4]
        exact ⟨h1, h2, h3, 3, .inr rfl, k4, rfl⟩
      · left
        rw [if_neg k4]
        exact ⟨rfl, fun ⟨_, _, _, h⟩ => h.elim k3 k4⟩
theorem ran_append (v : Dev) (l : Int) (b : Bool) (s t i : Int) : Ran ⟨l, b, v.log ++ [(s, t)]⟩ i ↔ Ran v i ∨ i = s := by
  unfold Ran
  simp only [List.mem_append, List.mem_singleton]
  constructor
  · rintro ⟨y, h | rfl, rfl⟩
    · exact .inl ⟨y, h, rfl⟩
    · exact .inr rfl
  · rintro (⟨y, h, rfl⟩ | rfl)
    · exact ⟨y, .inl h, rfl⟩
    · exact ⟨_, .inr rfl, rfl⟩
/-- What the device answers, and that all stays true. -/
theorem Core.hear {l : List Cmd} {v : Dev} {c : Ctl} (h : Core l v c) (p : Pk) (hp : Ask l c p) (t : Int) (q : Option Pk) (v' : Dev) (e : v.hear p t = (q, v')) :
    Core l v' c ∧ (∀ r, Reply v r → Reply v' r) ∧ ∀ r, q = some r → r.1 = 0 ∧ r.2.2.2 = [] ∧ Reply v' r := by
  obtain ⟨p1, p2, p3, p4⟩ := hp
  have hl0 := h.l0
  have hl1 := h.l1
  rcases v.hear_cases p t with ⟨e1, _⟩ | ⟨_, e2, e1⟩ | ⟨e2, e3, e4, e1⟩ | ⟨e2, e3, e1⟩
  · rw [e1] at e
    cases e
    exact ⟨h, fun _ => id, fun r hr => by cases hr⟩
  · rw [e1] at e
    cases e
    refine ⟨h, fun _ => id, fun r hr => ?_⟩
    cases hr
    refine ⟨rfl, rfl, p1, by dsimp only; omega, ?_⟩
    have := h.did (by omega)
    dsimp only
    rw [e2, ← this]
    cases v.did <;> simp
  · have hs : p.2.2.1 = c.now + 1 ∧ v.last = c.now := by omega
    have hopn : c.rep c.now = 1 := by
      rcases p3 with g | g
      · omega
      · exact g.2
    rw [e1] at e
    cases e
    have hran : ∀ i, i < v.last → (Ran ⟨p.2.2.1, true, v.log ++ [(p.2.2.1 - 1, t)]⟩ i ↔ Ran v i) := fun i hi => by
      rw [ran_append]
      constructor
      · rintro (g | g)
        · exact g
        · omega
      · exact .inl
    have hrs : Ran ⟨p.2.2.1, true, v.log ++ [(p.2.2.1 - 1, t)]⟩ (p.2.2.1 - 1) := (ran_append v _ _ _ _ _).mpr (.inr rfl)
    have hlt : ∀ y ∈ v.log, y.1 < v.last := fun y hy => (h.lt y hy).2.1
    refine ⟨⟨h.n0, h.n1, h.lr, h.la, by dsimp only; omega, by dsimp only; omega, fun _ => ⟨by omega, hopn⟩, h.rn, fun i h0 h1 => ?_, h.new, ?_, ?_, fun _ => ⟨fun _ => hrs, fun _ => rfl⟩, fun g => by dsimp only at g; omega⟩, fun r ⟨r1, r2, r3⟩ => ⟨r1, by dsimp only; omega, ?_⟩, fun r hr => ?_⟩
    · rw [hran i (by omega)]
      exact h.old i h0 h1
    · refine List.pairwise_append.mpr ⟨h.sorted, List.pairwise_singleton _ _, fun a ha b hb => ?_⟩
      have := hlt a ha
      rw [List.mem_singleton] at hb
      subst hb
      dsimp only
      omega
    · intro y hy
      rcases List.mem_append.mp hy with g | g
      · have := h.lt y g
        dsimp only
        omega
      · rw [List.mem_singleton] at g
        subst g
        have : dueOf p.2.2.2 = dueAt l (p.2.2.1 - 1) := by
          rcases p4 with g | g
          · omega
          · exact g.2
        dsimp only
        omega
    · rw [hran _ (by omega)]
      exact r3
    · cases hr
      exact ⟨rfl, rfl, p1, by dsimp only; omega, .inl ⟨rfl, hrs⟩⟩
  · have hs : p.2.2.1 = c.now + 1 ∧ v.last = c.now := by omega
    have hopn : c.rep c.now = 1 := by
      rcases p3 with g | g
      · omega
      · exact g.2
    rw [e1] at e
    cases e
    have hran : ∀ i, (Ran ⟨p.2.2.1, false, v.log⟩ i ↔ Ran v i) := fun i => Iff.rfl
    have hrs : ¬ Ran ⟨p.2.2.1, false, v.log⟩ (p.2.2.1 - 1) := fun ⟨y, hy, e⟩ => by
      have := (h.lt y hy).2.1
      omega
    refine ⟨⟨h.n0, h.n1, h.lr, h.la, by dsimp only; omega, by dsimp only; omega, fun _ => ⟨by omega, hopn⟩, h.rn, h.old, h.new, h.sorted, fun y hy => ?_, fun _ => ⟨fun g => (by cases g), fun g => absurd g hrs⟩, fun _ => rfl⟩, fun r ⟨r1, r2, r3⟩ => ⟨r1, by dsimp only; omega, r3⟩, fun r hr => ?_⟩
    · have := h.lt y hy
      dsimp only
      omega
    · cases hr
      exact ⟨rfl, rfl, p1, by dsimp only; omega, .inr ⟨rfl, hrs⟩⟩
/-- What the controller hears. -/
theorem Core.con {l : List Cmd} {v : Dev} {c : Ctl} (h : Core l v c) (p : Pk) (hp : Reply v p) (t : Int) :
    Core l v (c.hear l.length p t) ∧ ∀ r, Ask l c r → Ask l (c.hear l.length p t) r := by
  obtain ⟨p1, p2, p3⟩ := hp
  rcases c.hear_cases l.length p t with ⟨e, _⟩ | ⟨h1, h2, h3, q, hq, hk, e⟩
  · rw [e]
    exact ⟨h, fun _ => id⟩
  · have hl1 := h.l1
    have hn0 := h.n0
    have hlr := h.lr
    have hrep : ∀ j, 0 ≤ j → (c.hear l.length p t).rep j = if j = c.now then q else c.rep j := fun j hj => by
      rw [e]
      exact rd_set c.reps c.now j q hn0 (by omega) hj
    have hnow : (c.hear l.length p t).now = c.now + 1 := by rw [e]
    have hlr' : (c.hear l.length p t).reps.length = l.length := by rw [e]; simp [hlr]
    have hla' : (c.hear l.length p t).ats.length = l.length := by rw [e]; simp [h.la]
    have hnew : c.now + 1 < l.length → (c.hear l.length p t).rep (c.now + 1) = 0 := fun g => by
      rw [hrep _ (by omega), if_neg (by omega)]
      exact h.new _ (by omega) g
    generalize c.hear l.length p t = c' at *
    refine ⟨⟨by omega, by omega, hlr', hla', by omega, by omega, fun g => by omega, fun g => ?_, fun i h0 hi => ?_, fun i hi hn => ?_, h.sorted, h.lt, h.did, h.did0⟩, ?_⟩
    · left
      rw [hnow]
      exact hnew (by omega)
    · rw [hrep i h0]
      by_cases g : i = c.now
      · subst g
        rw [if_pos rfl]
        have : p.2.2.1 - 1 = c.now := by omega
        rw [this] at p3
        rcases p3 with ⟨g1, g2⟩ | ⟨g1, g2⟩
        · exact .inl ⟨by omega, g2⟩
        · exact .inr ⟨by omega, g2⟩
      · rw [if_neg g]
        exact h.old i h0 (by omega)
    · rw [hrep i (by omega), if_neg (by omega)]
      exact h.new i (by omega) hn
    · rintro r ⟨r1, r2, r3, r4⟩
      exact ⟨r1, r2, .inl (by omega), r4⟩
theorem Ctl.begin_rep (c : Ctl) (t : Int) (h0 : 0 ≤ c.now) (h1 : c.now < c.reps.length) (h : c.rep c.now = 0 ∨ c.rep c.now = 1) :
    (c.begin t).rep c.now = 1 ∧ (c.begin t).now = c.now ∧ (∀ j, 0 ≤ j → j ≠ c.now → (c.begin t).rep j = c.rep j) ∧ (c.begin t).reps.length = c.reps.length ∧ (c.begin t).ats = c.ats ∧ (c.rep c.now = 1 → c.begin t = c) ∧ (c.rep c.now = 0 → (c.begin t).first = t) := by
  unfold Ctl.begin
  by_cases g : rd (.int .i64) c.reps c.now = 0
  · rw [if_pos g]
    have g' : c.rep c.now = 0 := g
    have hs : ∀ j, 0 ≤ j → (⟨c.now, t, c.reps.set c.now.toNat 1, c.ats⟩ : Ctl).rep j = if j = c.now then 1 else c.rep j := fun j hj => rd_set c.reps c.now j 1 h0 h1 hj
    refine ⟨?_, rfl, fun j hj hne => ?_, by simp, rfl, fun e => by omega, fun _ => rfl⟩
    · rw [hs _ h0, if_pos rfl]
    · rw [hs j hj, if_neg hne]
  · rw [if_neg g]
    have g' : c.rep c.now = 1 := by
      rcases h with e | e
      · exact absurd e g
      · exact e
    exact ⟨g', rfl, fun _ _ _ => rfl, rfl, rfl, fun _ => rfl, fun e => by omega⟩
theorem Ctl.act_cases (l : List Cmd) (c : Ctl) (t : Int) :
    ((l.length : Int) ≤ c.now ∧ c.act l t = (none, c)) ∨
    (c.now < l.length ∧ Int.tmod (t - (c.begin t).first) 4 ≠ 0 ∧ c.act l t = (none, c.begin t)) ∨
    (c.now < l.length ∧ Int.tmod (t - (c.begin t).first) 4 = 0 ∧ ∃ k d, (k = 2 ∧ d = [] ∨ k = 1 ∧ d = dataOf (rd CmdT l c.now) ∧ t ≤ dueAt l c.now) ∧ (t ≤ dueAt l c.now → k = 1) ∧ c.act l t = (some (0, k, c.now + 1, d), c.begin t)) := by
  unfold Ctl.act
  by_cases c0 : (l.length : Int) ≤ c.now
  · rw [if_pos c0]
    exact .inl ⟨c0, rfl⟩
  · rw [if_neg c0]
    right
    by_cases c1 : Int.tmod (t - (c.begin t).first) 4 ≠ 0
    · rw [if_pos c1]
      exact .inl ⟨by omega, c1, rfl⟩
    · rw [if_neg c1]
      right
      refine ⟨by omega, by simpa using c1, ?_⟩
      by_cases c2 : (rd CmdT l c.now).2.2 < t
      · rw [if_pos c2]
        have c2' : dueAt l c.now < t := c2
        exact ⟨2, [], .inl ⟨rfl, rfl⟩, fun g => by omega, rfl⟩
      · rw [if_neg c2]
        have c2' : ¬ dueAt l c.now < t := c2
        exact ⟨1, _, .inr ⟨rfl, rfl, by omega⟩, fun _ => rfl, rfl⟩
theorem due_cmd {l : List Cmd} (hl : CmdsOk l) (i : Int) (h0 : 0 ≤ i) (h1 : i < l.length) : dueOf (dataOf (rd CmdT l i)) = dueAt l i :=
  due_of _ (hl.due0 _ (rd_mem (t := CmdT) l i h0 h1)) (hl.due1 _ (rd_mem (t := CmdT) l i h0 h1))
/-- What the controller does. -/
theorem Core.act {l : List Cmd} (hl : CmdsOk l) {v : Dev} {c : Ctl} (h : Core l v c) (t : Int) (q : Option Pk) (c' : Ctl) (e : c.act l t = (q, c')) :
    Core l v c' ∧ (∀ r, Ask l c r → Ask l c' r) ∧ ∀ r, q = some r → r.1 = 0 ∧ (r.2.2.2 = [] ∨ ∃ k, r.2.2.2 = dataOf k) ∧ Ask l c' r := by
  have hn0 := h.n0
  have hlr := h.lr
  rcases c.act_cases l t with ⟨h1, e1⟩ | h2
  · rw [e1] at e
    cases e
    exact ⟨h, fun _ => id, fun r hr => by cases hr⟩
  · have hn : c.now < l.length := by
      rcases h2 with g | g
      · exact g.1
      · exact g.1
    obtain ⟨b1, b2, b3, b4, b5, _, _⟩ := c.begin_rep t hn0 (by omega) (h.rn hn)
    have hcore : Core l v (c.begin t) := by
      refine ⟨by omega, by omega, by omega, by rw [b5]; exact h.la, by rw [b2]; exact h.l0, by rw [b2]; exact h.l1, fun _ => ⟨by omega, by rw [b2]; exact b1⟩, fun _ => .inr (by rw [b2]; exact b1), fun i i0 i1 => ?_, fun i i0 i1 => ?_, h.sorted, h.lt, h.did, h.did0⟩
      · rw [b3 i i0 (by omega)]
        exact h.old i i0 (by omega)
      · rw [b3 i (by omega) (by omega)]
        exact h.new i (by omega) i1
    have hask : ∀ r, Ask l c r → Ask l (c.begin t) r := by
      rintro r ⟨r1, r2, r3, r4⟩
      refine ⟨r1, r2, ?_, r4⟩
      rw [b2]
      rcases r3 with g | g
      · exact .inl g
      · exact .inr ⟨g.1, b1⟩
    rcases h2 with ⟨_, _, e1⟩ | ⟨_, _, k, d, g, _, e1⟩
    · rw [e1] at e
      cases e
      exact ⟨hcore, hask, fun r hr => by cases hr⟩
    · rw [e1] at e
      cases e
      refine ⟨hcore, hask, fun r hr => ?_⟩
      cases hr
      refine ⟨rfl, ?_, by dsimp only; omega, by dsimp only; omega, .inr ⟨by dsimp only; omega, by rw [b2]; exact b1⟩, ?_⟩
      · rcases g with ⟨_, g⟩ | ⟨_, g, _⟩
        · exact .inl g
        · exact .inr ⟨_, g⟩
      · dsimp only
        have e : c.now + 1 - 1 = c.now := by omega
        rw [e]
        rcases g with ⟨g, _⟩ | ⟨g, g2, _⟩
        · exact .inl g
        · exact .inr ⟨g, by rw [g2]; exact due_cmd hl c.now hn0 hn⟩
end Go.Proofs.RLink
namespace Go.Proofs.RLink
open Go Go.Eng

theorem fateAt_ok (fs : List Fate) (hf : ∀ f ∈ fs, FateOk f) (n : Int) (hn : 0 ≤ n) : FateOk (fateAt fs n) := by
  unfold fateAt
  split
  · exact hf _ (rd_mem (t := FateT) fs n hn (by assumption))
  · exact ⟨fun h => by simp at h, fun _ => by simp⟩
theorem sendW_mem (p : Pk) (hp : PkOk p.1 p.2.1 p.2.2.1 p.2.2.2) (t : Int) (fs : List Fate) (n : Int) (ws : List Wire) (hf : FateOk (fateAt fs n)) : ∀ w ∈ sendW p t fs n ws, w ∈ ws ∨ (w.p = p ∧ w.Ok) := by
  intro w hw
  unfold sendW at hw
  generalize fateAt fs n = f at *
  dsimp only at hw
  by_cases c : f.1 = true
  · rw [if_pos c] at hw
    exact .inl hw
  · rw [if_neg c] at hw
    have h := hf.2 (by simpa using c)
    have ok : ∀ a : Int, (⟨a, p, f.2.2.2⟩ : Wire).Ok := fun a => ⟨hp, h.2.2.2.2.1, h.2.2.2.2.2.1, fun x hx => (h.2.2.2.2.2.2 x hx).1⟩
    split at hw
    · rcases List.mem_append.mp hw with g | g
      · rcases List.mem_append.mp g with g | g
        · exact .inl g
        · rw [List.mem_singleton] at g
          subst g
          exact .inr ⟨rfl, ok _⟩
      · rw [List.mem_singleton] at g
        subst g
        exact .inr ⟨rfl, ok _⟩
    · rcases List.mem_append.mp hw with g | g
      · exact .inl g
      · rw [List.mem_singleton] at g
        subst g
        exact .inr ⟨rfl, ok _⟩
theorem sendW_len (p : Pk) (t : Int) (fs : List Fate) (n : Int) (ws : List Wire) : (sendW p t fs n ws).length ≤ ws.length + 2 := by
  unfold sendW
  dsimp only
  split
  · omega
  · split <;> simp
theorem dataOf_len (c : Cmd) : (dataOf c).length = 11 := by simp [dataOf, dataArg]
theorem dataOf_byte (c : Cmd) : ∀ x ∈ dataOf c, 0 ≤ x ∧ x < 256 := by
  intro x hx
  simp only [dataOf, dataArg, List.mem_append, List.mem_cons, List.mem_map, List.not_mem_nil, or_false] at hx
  rcases hx with (rfl | rfl | rfl) | ⟨i, _, rfl⟩
  all_goals rw [wr_u8]; omega
theorem take_len (t : Int) (ws : List Wire) : (takeW t ws).length + (stayW t ws).length ≤ ws.length := by
  unfold takeW stayW
  induction ws with
  | nil => simp
  | cons w ws ih =>
    rw [List.length_map] at ih ⊢
    simp only [List.filter_cons, List.length_cons]
    cases h : w.at_ == t <;> cases g : w.whole <;> simp only [Bool.true_and, Bool.false_and, Bool.not_true, Bool.not_false, if_true, List.length_cons, Bool.false_eq_true, if_false] <;> omega
theorem takeW_mem (t : Int) (ws : List Wire) (p : Pk) : p ∈ takeW t ws ↔ ∃ w ∈ ws, w.at_ = t ∧ w.whole = true ∧ w.p = p := by
  unfold takeW
  simp only [List.mem_map, List.mem_filter, Bool.and_eq_true, beq_iff_eq]
  constructor
  · rintro ⟨w, ⟨h1, h2, h3⟩, h4⟩
    exact ⟨w, h1, h2, h3, h4⟩
  · rintro ⟨w, h1, h2, h3, h4⟩
    exact ⟨w, ⟨h1, h2, h3⟩, h4⟩
theorem stayW_mem (t : Int) (ws : List Wire) (w : Wire) : w ∈ stayW t ws ↔ w ∈ ws ∧ w.at_ ≠ t := by
  unfold stayW
  simp [List.mem_filter]
/-- All that stays true; k packets are still to be heard. -/
structure Good (l : List Cmd) (t : Int) (k : Nat) (x : Net) : Prop where
  core : Core l x.dv x.ct
  to : ∀ w ∈ x.to, w.Ok ∧ Ask l x.ct w.p
  fro : ∀ w ∈ x.fro, w.Ok ∧ Reply x.dv w.p
  s0 : 0 ≤ x.sent
  s1 : x.sent ≤ t
  h0 : 0 ≤ x.heard
  nto : x.to.length + k + x.heard ≤ 2 * x.sent
  nfro : x.fro.length ≤ 2 * x.heard
  nlog : x.dv.log.length ≤ x.heard
  f0 : 0 ≤ x.ct.first
  f1 : x.ct.first ≤ t
theorem Dev.hear_log (v : Dev) (p : Pk) (t : Int) (q : Option Pk) (v' : Dev) (e : v.hear p t = (q, v')) : v'.log.length ≤ v.log.length + (if q.isSome then 1 else 0) := by
  rcases v.hear_cases p t with ⟨e1, _⟩ | ⟨_, e2, e1⟩ | ⟨e2, e3, e4, e1⟩ | ⟨e2, e3, e1⟩
  all_goals rw [e1] at e; cases e; simp
theorem Good.dev {l : List Cmd} (hl : CmdsOk l) {back : List Fate} (hb : ∀ f ∈ back, FateOk f) {t : Int} {k : Nat} {x : Net} (h : Good l t (k + 1) x) (p : Pk) (hp : Ask l x.ct p) :
    Good l t k (x.dev back t p) ∧ (x.dev back t p).ct = x.ct ∧ (x.dev back t p).to = x.to ∧ (x.dev back t p).sent = x.sent := by
  have h1 := h.nto
  have h2 := h.nfro
  have h3 := h.nlog
  have h4 := h.h0
  have hl16 := hl.few
  unfold Net.dev
  cases e : x.dv.hear p t with
  | mk q v =>
    obtain ⟨c1, c2, c3⟩ := h.core.hear p hp t q v e
    have c4 := Dev.hear_log _ _ _ _ _ e
    cases q with
    | none =>
      refine ⟨⟨c1, h.to, fun w hw => ⟨(h.fro w hw).1, c2 _ (h.fro w hw).2⟩, h.s0, h.s1, h4, by dsimp only; omega, h2, ?_, h.f0, h.f1⟩, rfl, rfl, rfl⟩
      simp only [Option.isSome_none, Bool.false_eq_true, if_false] at c4
      dsimp only
      omega
    | some q =>
      obtain ⟨q1, q2, q3⟩ := c3 q rfl
      have hq : PkOk q.1 q.2.1 q.2.2.1 q.2.2.2 := by
        obtain ⟨r1, r2, r3⟩ := q3
        have g1 := c1.l1
        have g2 := c1.n1
        have g3 := c1.opn
        have : q.2.1 = 3 ∨ q.2.1 = 4 := r3.elim (fun g => .inl g.1) fun g => .inr g.1
        exact ⟨by omega, by omega, by omega, by omega, by omega, by omega, by rw [q2]; simp, by rw [q2]; simp⟩
      have hlen := sendW_len q t back x.heard x.fro
      refine ⟨⟨c1, h.to, fun w hw => ?_, h.s0, h.s1, by dsimp only; omega, by dsimp only; omega, by dsimp only; omega, ?_, h.f0, h.f1⟩, rfl, rfl, rfl⟩
      · rcases sendW_mem q hq t back x.heard x.fro (fateAt_ok back hb _ h4) w hw with g | ⟨g1, g2⟩
        · exact ⟨(h.fro w g).1, c2 _ (h.fro w g).2⟩
        · exact ⟨g2, by rw [g1]; exact q3⟩
      · simp only [Option.isSome_some, if_true] at c4
        dsimp only
        omega
theorem Good.devs {l : List Cmd} (hl : CmdsOk l) {back : List Fate} (hb : ∀ f ∈ back, FateOk f) {t : Int} (ps : List Pk) : ∀ {x : Net}, Good l t ps.length x → (∀ p ∈ ps, Ask l x.ct p) →
    Good l t 0 (ps.foldl (Net.dev back t) x) ∧ (ps.foldl (Net.dev back t) x).ct = x.ct ∧ (ps.foldl (Net.dev back t) x).to = x.to ∧ (ps.foldl (Net.dev back t) x).sent = x.sent := by
  induction ps with
  | nil => intro x h _; exact ⟨h, rfl, rfl, rfl⟩
  | cons p ps ih =>
    intro x h hp
    obtain ⟨h1, h2, h3, h4⟩ := h.dev hl hb p (hp p List.mem_cons_self)
    obtain ⟨g1, g2, g3, g4⟩ := ih h1 fun q hq => by rw [h2]; exact hp q (List.mem_cons_of_mem _ hq)
    rw [List.foldl_cons]
    exact ⟨g1, g2.trans h2, g3.trans h3, g4.trans h4⟩
theorem Good.start {l : List Cmd} {t : Int} {x : Net} (h : Good l t 0 x) : Good l t (takeW t x.to).length { x with to := stayW t x.to } ∧ ∀ p ∈ takeW t x.to, Ask l x.ct p := by
  have h1 := h.nto
  have h2 := take_len t x.to
  refine ⟨⟨h.core, fun w hw => h.to w ((stayW_mem t x.to w).mp hw).1, h.fro, h.s0, h.s1, h.h0, by dsimp only; omega, h.nfro, h.nlog, h.f0, h.f1⟩, fun p hp => ?_⟩
  obtain ⟨w, hw, _, _, rfl⟩ := (takeW_mem t x.to p).mp hp
  exact (h.to w hw).2
theorem Good.one {l : List Cmd} (hl : CmdsOk l) {back : List Fate} (hb : ∀ f ∈ back, FateOk f) {t : Int} {x : Net} (h : Good l t 0 x) : Good l t 0 (x.one back t) ∧ (x.one back t).ct = x.ct ∧ (x.one back t).to = stayW t x.to ∧ (x.one back t).sent = x.sent :=
  h.start.1.devs hl hb _ h.start.2
theorem Good.con {l : List Cmd} {t : Int} {x : Net} (h : Good l t 0 x) (p : Pk) (hp : Reply x.dv p) : Good l t 0 (x.con l.length t p) := by
  obtain ⟨c1, c2⟩ := h.core.con p hp t
  have hfirst : (x.ct.hear l.length p t).first = x.ct.first := by
    rcases x.ct.hear_cases l.length p t with ⟨e, _⟩ | ⟨_, _, _, q, _, _, e⟩
    · rw [e]
    · rw [e]
  exact ⟨c1, fun w hw => ⟨(h.to w hw).1, c2 _ (h.to w hw).2⟩, h.fro, h.s0, h.s1, h.h0, h.nto, h.nfro, h.nlog, by unfold Net.con; dsimp only; rw [hfirst]; exact h.f0, by unfold Net.con; dsimp only; rw [hfirst]; exact h.f1⟩
theorem Good.cons {l : List Cmd} {t : Int} (ps : List Pk) : ∀ {x : Net}, Good l t 0 x → (∀ p ∈ ps, Reply x.dv p) → Good l t 0 (ps.foldl (Net.con l.length t) x) := by
  induction ps with
  | nil => intro x h _; exact h
  | cons p ps ih =>
    intro x h hp
    exact ih (h.con p (hp p List.mem_cons_self)) fun q hq => hp q (List.mem_cons_of_mem _ hq)
theorem Good.start2 {l : List Cmd} {t : Int} {x : Net} (h : Good l t 0 x) : Good l t 0 { x with fro := stayW t x.fro } ∧ ∀ p ∈ takeW t x.fro, Reply x.dv p := by
  have h1 := h.nfro
  have h2 := take_len t x.fro
  refine ⟨⟨h.core, h.to, fun w hw => h.fro w ((stayW_mem t x.fro w).mp hw).1, h.s0, h.s1, h.h0, h.nto, by dsimp only; omega, h.nlog, h.f0, h.f1⟩, fun p hp => ?_⟩
  obtain ⟨w, hw, _, _, rfl⟩ := (takeW_mem t x.fro p).mp hp
  exact (h.fro w hw).2
theorem Good.two {l : List Cmd} {t : Int} {x : Net} (h : Good l t 0 x) : Good l t 0 (x.two l.length t) := h.start2.1.cons _ h.start2.2
theorem Good.act {l : List Cmd} (hl : CmdsOk l) {there : List Fate} (hf : ∀ f ∈ there, FateOk f) {t : Int} (ht : 0 ≤ t) {x : Net} (h : Good l t 0 x) : Good l (t + 1) 0 (x.act l there t) := by
  have h1 := h.nto
  have h2 := h.s1
  have h3 := h.f0
  have h4 := h.f1
  have h5 := h.s0
  have hl16 := hl.few
  have hfirst : 0 ≤ (x.ct.act l t).2.first ∧ (x.ct.act l t).2.first ≤ t := by
    have hb : 0 ≤ (x.ct.begin t).first ∧ (x.ct.begin t).first ≤ t := by
      unfold Ctl.begin
      split
      · exact ⟨ht, Int.le_refl _⟩
      · exact ⟨h3, h4⟩
    rcases x.ct.act_cases l t with ⟨_, e⟩ | ⟨_, _, e⟩ | ⟨_, _, k, d, _, _, e⟩
    · rw [e]; exact ⟨h3, h4⟩
    · rw [e]; exact hb
    · rw [e]; exact hb
  unfold Net.act
  cases e : x.ct.act l t with
  | mk q c =>
    rw [e] at hfirst
    obtain ⟨c1, c2, c3⟩ := h.core.act hl t q c e
    cases q with
    | none => exact ⟨c1, fun w hw => ⟨(h.to w hw).1, c2 _ (h.to w hw).2⟩, h.fro, h.s0, by dsimp only; omega, h.h0, h1, h.nfro, h.nlog, hfirst.1, by have := hfirst.2; dsimp only at this ⊢; omega⟩
    | some q =>
      obtain ⟨q1, q2, q3⟩ := c3 q rfl
      have hq : PkOk q.1 q.2.1 q.2.2.1 q.2.2.2 := by
        obtain ⟨r1, r2, _, r3⟩ := q3
        have : q.2.1 = 1 ∨ q.2.1 = 2 := r3.elim .inr fun g => .inl g.1
        refine ⟨by omega, by omega, by omega, by omega, by omega, by omega, ?_, ?_⟩
        · rcases q2 with g | ⟨k, g⟩
          · rw [g]; simp
          · rw [g, dataOf_len]; omega
        · rcases q2 with g | ⟨k, g⟩
          · rw [g]; simp
          · rw [g]; exact dataOf_byte k
      have hlen := sendW_len q t there x.sent x.to
      refine ⟨c1, fun w hw => ?_, h.fro, by dsimp only; omega, by dsimp only; omega, h.h0, by dsimp only; omega, h.nfro, h.nlog, hfirst.1, by have := hfirst.2; dsimp only at this ⊢; omega⟩
      rcases sendW_mem q hq t there x.sent x.to (fateAt_ok there hf _ h5) w hw with g | ⟨g1, g2⟩
      · exact ⟨(h.to w g).1, c2 _ (h.to w g).2⟩
      · exact ⟨g2, by rw [g1]; exact q3⟩
theorem Good.init (l : List Cmd) : Good l 0 0 (Net.init l.length) := by
  have hz : ∀ i, rd (.int .i64) (List.replicate l.length 0) i = 0 := fun i => by
    unfold rd
    rw [List.getD_eq_getElem?_getD, List.getElem?_replicate]
    split <;> rfl
  refine ⟨⟨Int.le_refl _, by show (0 : Int) ≤ l.length; omega, by simp [Net.init], by simp [Net.init], Int.le_refl _, (by show (0 : Int) ≤ 0 + 1; decide), fun h => (by cases h), fun _ => .inl (hz _), fun i h0 h1 => ?_, fun i _ _ => hz i, List.Pairwise.nil, fun y hy => (by cases hy), fun h => absurd h (by show ¬ (1 : Int) ≤ 0; decide), fun _ => rfl⟩, fun w hw => (by cases hw), fun w hw => (by cases hw), Int.le_refl _, Int.le_refl _, Int.le_refl _, (by show ((0 : Nat) : Int) + ((0 : Nat) : Int) + 0 ≤ 2 * 0; decide), (by show ((0 : Nat) : Int) ≤ 2 * 0; decide), (by show ((0 : Nat) : Int) ≤ 0; decide), Int.le_refl _, Int.le_refl _⟩
  have : i < 0 := h1
  omega
theorem Good.step {l : List Cmd} (hl : CmdsOk l) {there back : List Fate} (ha : ∀ f ∈ there, FateOk f) (hb : ∀ f ∈ back, FateOk f) {t : Int} (ht : 0 ≤ t) {x : Net} (h : Good l t 0 x) : Good l (t + 1) 0 (x.step l there back t) :=
  ((h.one hl hb).1.two).act hl ha ht
theorem Good.run {l : List Cmd} (hl : CmdsOk l) {there back : List Fate} (ha : ∀ f ∈ there, FateOk f) (hb : ∀ f ∈ back, FateOk f) (k : Nat) : Good l (k : Int) 0 (Net.run l there back k) := by
  induction k with
  | zero => exact Good.init l
  | succ k ih =>
    have := ih.step hl ha hb (by omega)
    exact_mod_cast this
end Go.Proofs.RLink
namespace Go.Proofs.RLink
open Go Go.Eng

abbrev PkT : Ty := .pair (.int .i64) (.pair (.int .i64) (.pair (.int .i64) (.slice (.int .u8))))
theorem frame_len' (b : List Int) : b.length + 2 ≤ (frame b).length ∧ (frame b).length ≤ 2 * b.length + 2 := by
  have := stfs_len b
  unfold frame
  simp
  omega
/-- Whatever was taken before, the last packet is found. -/
theorem wire_len {w : Wire} (h : w.Ok) : w.par.2.length ≤ 100 := by
  have h1 := frame_len' (flips (bodyOf w.p.1 w.p.2.1 w.p.2.2.1 w.p.2.2.2) w.bits)
  have h2 := flips_len w.bits (bodyOf w.p.1 w.p.2.1 w.p.2.2.1 w.p.2.2.2)
  have h3 := bodyOf_len w.p.1 w.p.2.1 w.p.2.2.1 w.p.2.2.2
  have h4 := h.p.n
  show (frame (flips (bodyOf w.p.1 w.p.2.1 w.p.2.2.1 w.p.2.2.2) w.bits)).length ≤ 100
  omega
theorem takes (t : Int) (fs : List Fate) (k : Int) (ws : List Wire) (hn : ws.length ≤ 10000) (h : ∀ w ∈ ws, w.Ok) :
    link_line_take.F (t, fs, k, ws.map Wire.par) = some (fs, k, ws.map Wire.par, takeW t ws, (stayW t ws).map Wire.par) := by
  rw [← take_wires t ws h, ← stay_wires]
  refine take_spec t fs k _ (by simpa using hn) fun q hq => ?_
  obtain ⟨w, hw, rfl⟩ := List.mem_map.mp hq
  exact wire_len (h w hw)
theorem sends (p : Pk) (hp : PkOk p.1 p.2.1 p.2.2.1 p.2.2.2) (t : Int) (fs : List Fate) (n : Int) (ws : List Wire) (ht : 0 ≤ t ∧ t ≤ 1048576) (hn : 0 ≤ n ∧ n ≤ 1048576) (hw : ws.length ≤ 1048576) (hf : ∀ f ∈ fs, FateOk f) :
    link_line_send.F (p.1, p.2.1, p.2.2.1, p.2.2.2, t, fs, n, ws.map Wire.par) = some (fs, n + 1, (sendW p t fs n ws).map Wire.par) := by
  rw [← send_wires]
  exact send_spec p hp t fs n _ ht hn (by simpa using hw) hf
variable (l : List Cmd) (there back : List Fate) (T : Int)
def devS (t : Int) (ps : List Pk) (i : Nat) (x : Net) : link_Run.T1 := (t, T, t, (ps.length : Int), (i : Int), 0, 0, 0, 0, x.dv.last, x.dv.did, l, x.ct.now, x.ct.first, there, x.sent, back, x.heard, ps, [], [], [], [], x.ct.reps, x.ct.ats, x.dv.log, x.to.map Wire.par, x.fro.map Wire.par)
def devS2 (t : Int) (ps : List Pk) (i : Nat) (x : Net) : link_Run.T2 := devS l there back T t ps i x
def conS (t : Int) (ps : List Pk) (i : Nat) (x : Net) : link_Run.T3 := (t, T, t, (ps.length : Int), (i : Int), 0, 0, 0, 0, x.dv.last, x.dv.did, l, x.ct.now, x.ct.first, there, x.sent, back, x.heard, ps, [], [], [], [], x.ct.reps, x.ct.ats, x.dv.log, x.to.map Wire.par, x.fro.map Wire.par)
def endS (t : Int) (x : Net) : link_Run.T4 := (T, t, 0, 0, 0, 0, x.dv.last, x.dv.did, l, x.ct.now, x.ct.first, there, x.sent, back, x.heard, [], [], [], [], x.ct.reps, x.ct.ats, x.dv.log, x.to.map Wire.par, x.fro.map Wire.par)
def topS (t : Int) (x : Net) : link_Run.T0 := endS l there back T t x
def resS (x : Net) : link_Run.R := (x.sent, x.heard, 0, x.dv.log, x.ct.reps, x.ct.ats)
variable {l there back T}
theorem dev_loop (hl : CmdsOk l) (hb : ∀ f ∈ back, FateOk f) (t : Int) (ht : 0 ≤ t ∧ t ≤ 2000) (ps : List Pk) (hps : ps.length ≤ 10000) (Q : link_Run.R → Prop) (n : Nat) : ∀ (i : Nat) (x : Net), i + n = ps.length → Good l t n x → (∀ p ∈ ps, Ask l x.ct p) →
    Y (link_Run.D1 (devS l there back T t ps ps.length ((ps.drop i).foldl (Net.dev back t) x))) Q → Y (link_Run.D1 (devS l there back T t ps i x)) Q := by
  induction n with
  | zero =>
    intro i x h hg hp hy
    rw [List.drop_of_length_le (by omega)] at hy
    have : i = ps.length := by omega
    subst this
    exact hy
  | succ n ih =>
    intro i x h hg hp hy
    have e := rd_drop (t := PkT) ps i (by omega)
    have hm : rd PkT ps (i : Int) ∈ ps := rd_mem (t := PkT) ps (i : Int) (by omega) (by omega)
    rw [e, List.foldl_cons] at hy
    have hask := hp _ hm
    obtain ⟨g1, g2, _⟩ := hg.dev hl hb _ hask
    have hrec := ih (i + 1) (x.dev back t (rd PkT ps (i : Int))) (by omega) g1 (fun p hpm => by rw [g2]; exact hp p hpm) hy
    have hnext : Y (link_Run.D2 (devS2 l there back T t ps i (x.dev back t (rd PkT ps (i : Int))))) Q := by
      refine Y.of (link_Run.D2_of _) ?_
      unfold devS2 devS
      dsimp only [link_Run.d2]
      rw [w64 (x := (i : Int) + 1) (by omega) (by omega)]
      exact hrec
    have hlog := hg.nlog
    have hto := hg.nto
    have hs1 := hg.s1
    have hfr := hg.nfro
    have hh0 := hg.h0
    have h16 := hl.few
    obtain ⟨a1, a2, _⟩ := hask
    refine Y.of (link_Run.D1_of _) ?_
    unfold devS
    refine Y.pd (by omega) (Y.pd (by omega) ?_)
    refine Y.bE (hear_spec (rd PkT ps (i : Int)) (by omega) t x.dv (by omega)) ?_
    unfold Net.dev at hnext
    cases eh : x.dv.hear (rd PkT ps (i : Int)) t with
    | mk q v =>
      rw [eh] at hnext
      cases q with
      | none => exact Y.neg rfl hnext
      | some q =>
        have hq : PkOk q.1 q.2.1 q.2.2.1 q.2.2.2 := by
          obtain ⟨c1, c2, c3⟩ := hg.core.hear _ (hp _ hm) t _ v eh
          obtain ⟨q1, q2, q3⟩ := c3 q rfl
          obtain ⟨r1, r2, r3⟩ := q3
          have g1 := c1.l1
          have g2 := c1.n1
          have g3 := c1.opn
          have : q.2.1 = 3 ∨ q.2.1 = 4 := r3.elim (fun g => .inl g.1) fun g => .inr g.1
          exact ⟨by omega, by omega, by omega, by omega, by omega, by omega, by rw [q2]; simp, by rw [q2]; simp⟩
        exact Y.pos rfl (Y.bE (sends q hq t back x.heard x.fro ⟨ht.1, by omega⟩ ⟨hh0, by omega⟩ (by omega) hb) hnext)
theorem con_loop (t : Int) (hl : CmdsOk l) (ps : List Pk) (hps : ps.length ≤ 10000) (Q : link_Run.R → Prop) (n : Nat) : ∀ (i : Nat) (x : Net), i + n = ps.length → Good l t 0 x → (∀ p ∈ ps, Reply x.dv p) →
    Y (link_Run.D3 (conS l there back T t ps ps.length ((ps.drop i).foldl (Net.con l.length t) x))) Q → Y (link_Run.D3 (conS l there back T t ps i x)) Q := by
  induction n with
  | zero =>
    intro i x h hg hp hy
    rw [List.drop_of_length_le (by omega)] at hy
    have : i = ps.length := by omega
    subst this
    exact hy
  | succ n ih =>
    intro i x h hg hp hy
    have e := rd_drop (t := PkT) ps i (by omega)
    have hm : rd PkT ps (i : Int) ∈ ps := rd_mem (t := PkT) ps (i : Int) (by omega) (by omega)
    rw [e, List.foldl_cons] at hy
    have hrec := ih (i + 1) (x.con l.length t (rd PkT ps (i : Int))) (by omega) (hg.con _ (hp _ hm)) (fun p hpm => hp p hpm) hy
    have h0 := hg.core.n0
    have h1 := hg.core.n1
    have h16 := hl.few
    refine Y.of (link_Run.D3_of _) ?_
    unfold conS
    refine Y.pd (by omega) (Y.pd (by omega) ?_)
    refine Y.bE (chear_spec l x.ct (rd PkT ps (i : Int)) t 0 0 [] h0 (by omega) hg.core.lr hg.core.la) ?_
    rw [w64 (x := (i : Int) + 1) (by omega) (by omega)]
    exact hrec
theorem step_run (hl : CmdsOk l) (ha : ∀ f ∈ there, FateOk f) (hb : ∀ f ∈ back, FateOk f) (t : Int) (ht : 0 ≤ t ∧ t < T) (hT : T ≤ 2000) (Q : link_Run.R → Prop) (x : Net) (hg : Good l t 0 x)
    (hy : Y (link_Run.D0 (topS l there back T (t + 1) (x.step l there back t))) Q) : Y (link_Run.D0 (topS l there back T t x)) Q := by
  have h1 := hg.nto
  have h2 := hg.s1
  have h3 := hg.h0
  have h16 := hl.few
  have htl := take_len t x.to
  refine Y.of (link_Run.D0_of _) ?_
  unfold topS endS
  refine Y.pd ht.2 (Y.bE (takes t there x.sent x.to (by omega) fun w hw => (hg.to w hw).1) ?_)
  have hs := hg.start
  have hone := hg.one hl hb
  refine dev_loop hl hb t ⟨ht.1, by omega⟩ (takeW t x.to) (by omega) Q (takeW t x.to).length 0 { x with to := stayW t x.to } (by omega) hs.1 hs.2 ?_
  rw [List.drop_zero]
  show Y (link_Run.D1 (devS l there back T t (takeW t x.to) (takeW t x.to).length (x.one back t))) Q
  have hgo := hone.1
  have k1 := hgo.nto
  have k2 := hgo.nfro
  have k3 := hgo.s1
  have k4 := hgo.h0
  refine Y.of (link_Run.D1_of _) ?_
  unfold devS
  refine Y.nd (by omega) (Y.bE (takes t back (x.one back t).heard (x.one back t).fro (by omega) fun w hw => (hgo.fro w hw).1) ?_)
  have htl2 := take_len t (x.one back t).fro
  refine con_loop t hl (takeW t (x.one back t).fro) (by omega) Q _ 0 { x.one back t with fro := stayW t (x.one back t).fro } (Nat.zero_add _) hgo.start2.1 hgo.start2.2 ?_
  rw [List.drop_zero]
  show Y (link_Run.D3 (conS l there back T t (takeW t (x.one back t).fro) (takeW t (x.one back t).fro).length ((x.one back t).two l.length t))) Q
  have hgt := hgo.two
  have h0 := hgt.core.n0
  have hn1 := hgt.core.n1
  have hf0 := hgt.f0
  have hf1 := hgt.f1
  have m1 := hgt.nto
  have m2 := hgt.s1
  have m3 := hgt.s0
  have m4 := hgt.h0
  have hfin : Y (link_Run.D4 (endS l there back T t (((x.one back t).two l.length t).act l there t))) Q := by
    refine Y.of (link_Run.D4_of _) ?_
    unfold endS
    dsimp only [link_Run.d4]
    rw [w64 (x := t + 1) (by omega) (by omega)]
    exact hy
  refine Y.of (link_Run.D3_of _) ?_
  unfold conS
  refine Y.nd (by omega) ?_
  generalize hz : (x.one back t).two l.length t = z at *
  refine Y.bE (act_spec l z.ct t 0 0 [] h0 (by omega) ⟨ht.1, by omega⟩ ⟨hf0, by omega⟩ hgt.core.lr) ?_
  unfold Net.act at hfin
  cases eh : z.ct.act l t with
  | mk q c =>
    rw [eh] at hfin
    cases q with
    | none => exact Y.neg rfl hfin
    | some q =>
      have hq : PkOk q.1 q.2.1 q.2.2.1 q.2.2.2 := by
        obtain ⟨c1, c2, c3⟩ := hgt.core.act hl t _ c eh
        obtain ⟨q1, q2, q3⟩ := c3 q rfl
        obtain ⟨r1, r2, _, r3⟩ := q3
        have : q.2.1 = 1 ∨ q.2.1 = 2 := r3.elim .inr fun g => .inl g.1
        refine ⟨by omega, by omega, by omega, by omega, by omega, by omega, ?_, ?_⟩
        · rcases q2 with g | ⟨k, g⟩
          · rw [g]; simp
          · rw [g, dataOf_len]; omega
        · rcases q2 with g | ⟨k, g⟩
          · rw [g]; simp
          · rw [g]; exact dataOf_byte k
      exact Y.pos rfl (Y.bE (sends q hq t there z.sent z.to ⟨ht.1, by omega⟩ ⟨m3, by omega⟩ (by omega) ha) hfin)
theorem run_loop (hl : CmdsOk l) (ha : ∀ f ∈ there, FateOk f) (hb : ∀ f ∈ back, FateOk f) (N : Nat) (hN : N ≤ 2000) (n : Nat) : ∀ t : Nat, t + n = N → Y (link_Run.D0 (topS l there back (N : Int) (t : Int) (Net.run l there back t))) fun r => r = resS (Net.run l there back N) := by
  induction n with
  | zero =>
    intro t h
    have : t = N := by omega
    subst this
    refine Y.of (link_Run.D0_of _) ?_
    unfold topS endS
    exact Y.nd (by omega) (Y.some rfl)
  | succ n ih =>
    intro t h
    refine step_run hl ha hb (t : Int) (by omega) (by omega) _ _ (Good.run hl ha hb t) ?_
    have := ih (t + 1) (by omega)
    exact_mod_cast this
theorem run_spec (hc : link_Check.F (l, there, back) = some 0) (hl : CmdsOk l) (ha : ∀ f ∈ there, FateOk f) (hb : ∀ f ∈ back, FateOk f) (N : Nat) (hN : N ≤ 2000) :
    link_Run.F (l, there, back, (N : Int)) = some (resS (Net.run l there back N)) := by
  have h16 := hl.few
  apply Y.is
  refine Y.of (link_Run.F_of _) (Y.bE hc (Y.np rfl (Y.neg (by simp; omega) (Y.pd (by omega) (Y.pd (by omega) ?_)))))
  exact run_loop hl ha hb N hN N 0 (by omega)
end Go.Proofs.RLink
namespace Go.Proofs.RLink
open Go Go.Eng

theorem Y.range {β : Type} {f : spymake_Stream_Range.R → Option β} {Q : β → Prop} (a b : Int) (L : List Int) (at_ : Int) (ha : 0 ≤ at_) (hb : at_ ≤ 4611686018427387904) (h0 : 0 ≤ a) (h1 : a ≤ b) (h2 : b ≤ 1099511627776)
    (k : ∀ r, a ≤ r → r ≤ b → Y (f (r, L, at_ + 1)) Q) : Y (bnd (spymake_Stream_Range.F (a, b, L, at_)) f) Q := by
  have : Y (spymake_Stream_Range.F (a, b, L, at_)) fun r => ∃ x, r = (x, L, at_ + 1) ∧ a ≤ x ∧ x ≤ b := by
    refine Y.of (spymake_Stream_Range.F_of _) (Y.nd (by omega) ?_)
    rw [w64 (x := b - a) (by omega) (by omega), w64 (x := b - a + 1) (by omega) (by omega)]
    refine Y.next L at_ (b - a + 1) ha hb (by omega) (by omega) fun r r0 r1 => Y.some ?_
    exact ⟨_, by rw [w64 (x := a + r) (by omega) (by omega)], by omega, by omega⟩
  obtain ⟨r, hr, x, rfl, h3, h4⟩ := this
  exact Y.bE hr (k x h3 h4)
/-- A fate that may be is told to be fine. -/
theorem cf_inner (b : Int) (v0 : List Int) (v1 i : Int) (hi : 0 ≤ i ∧ i ≤ 100) (pre : List Int) (hb : b ∉ pre) (hp : pre.length ≤ 100) (v7 : Bool) (v8 v9 : Int) (v10 : List Int) (Q : Int → Prop)
    (h : Y (link_CheckFate.D0 (v0, v1, i + 1, v7, v8, v9, v10)) Q) (n : Nat) : ∀ j : Nat, j + n = pre.length → Y (link_CheckFate.D1 (b, v0, v1, i, pre, (pre.length : Int), (j : Int), v7, v8, v9, v10)) Q := by
  induction n with
  | zero =>
    intro j e
    refine Y.of (link_CheckFate.D1_of _) (Y.nd (by omega) ?_)
    rw [w64 (x := i + 1) (by omega) (by omega)]
    exact h
  | succ n ih =>
    intro j e
    refine Y.of (link_CheckFate.D1_of _) (Y.pd (by omega) (Y.pd (by omega) (Y.nd (fun g => hb ?_) ?_)))
    · have := rd_mem (t := .int .i64) pre (j : Int) (by omega) (by omega)
      rw [← g] at this
      exact this
    · rw [w64 (x := (j : Int) + 1) (by omega) (by omega)]
      exact ih (j + 1) (by omega)
theorem cf_loop (l : List Int) (hl : l.length ≤ 3) (hn : l.Nodup) (h0 : ∀ x ∈ l, 0 ≤ x) (v3 : Bool) (v4 v5 : Int) (n : Nat) : ∀ i : Nat, i + n = l.length → Y (link_CheckFate.D0 (l, (l.length : Int), (i : Int), v3, v4, v5, l)) fun r => r = 0 := by
  induction n with
  | zero =>
    intro i e
    exact Y.of (link_CheckFate.D0_of _) (Y.nd (by omega) (Y.some rfl))
  | succ n ih =>
    intro i e
    have hm := rd_mem (t := .int .i64) l (i : Int) (by omega) (by omega)
    have h1 := h0 _ hm
    refine Y.of (link_CheckFate.D0_of _) (Y.pd (by omega) (Y.pd (by omega) (Y.nd (Int.not_lt.mpr h1) (Y.pd (by omega) ?_))))
    refine cf_inner _ l _ _ (by omega) _ ?_ ?_ v3 v4 v5 l _ (ih (i + 1) (by omega)) _ 0 (Nat.zero_add _)
    · have e2 : (i : Int).toNat = i := by omega
      rw [e2]
      show rd (.int .i64) l (i : Int) ∉ List.drop 0 (List.take i l)
      rw [List.drop_zero, rd_nat (t := .int .i64) l i (by omega)]
      intro g
      obtain ⟨j, hj, ej⟩ := List.getElem_of_mem g
      rw [List.getElem_take] at ej
      have hj' : j < i := by
        rw [List.length_take] at hj
        omega
      have := (List.pairwise_iff_getElem.mp hn) j i (by omega) (by omega) hj'
      exact this ej
    · simp
      omega
theorem cf_spec (f : Fate) (h : FateOk f) : link_CheckFate.F (f.1, f.2.1, f.2.2.1, f.2.2.2) = some 0 := by
  obtain ⟨lost, delay, twice, bits⟩ := f
  apply Y.is
  refine Y.of (link_CheckFate.F_of _) ?_
  dsimp only [link_CheckFate.d]
  cases lost with
  | true =>
    have := h.1 rfl
    cases this
    exact Y.pos rfl (Y.neg (by decide) (Y.some rfl))
  | false =>
    obtain ⟨h1, h2, h3, h4, h5, h6, h7⟩ := h.2 rfl
    dsimp only at h1 h2 h3 h4 h5 h6 h7
    exact Y.neg rfl (Y.neg (by simp; omega) (Y.nd (by omega) (cf_loop bits h5 h6 (fun x hx => (h7 x hx).1) _ _ _ _ 0 (Nat.zero_add _))))
theorem ck_list (v0 v1 : Int) (l : List Fate) (hl : l.length ≤ 200) (h : ∀ f ∈ l, FateOk f) (ll : List (List Fate)) (hv : 0 ≤ v1 ∧ v1 ≤ 10) (Q : Int → Prop) (k : Y (link_Check.D1 (v0, v1 + 1, ll)) Q) (n : Nat) : ∀ i : Nat, i + n = l.length → Y (link_Check.D2 (v0, v1, l, (l.length : Int), (i : Int), ll)) Q := by
  induction n with
  | zero =>
    intro i e
    refine Y.of (link_Check.D2_of _) (Y.nd (by omega) ?_)
    rw [w64 (x := v1 + 1) (by omega) (by omega)]
    exact k
  | succ n ih =>
    intro i e
    have hm := rd_mem (t := FateT) l (i : Int) (by omega) (by omega)
    refine Y.of (link_Check.D2_of _) (Y.pd (by omega) (Y.pd (by omega) (Y.bE (cf_spec _ (h _ hm)) (Y.np rfl ?_))))
    rw [w64 (x := (i : Int) + 1) (by omega) (by omega)]
    exact ih (i + 1) (by omega)
theorem ck_cmds (a b : List Fate) (hla : a.length ≤ 200) (hlb : b.length ≤ 200) (ha : ∀ f ∈ a, FateOk f) (hb : ∀ f ∈ b, FateOk f) (l : List Cmd) (hl : l.length ≤ 16) (h : ∀ c ∈ l, (0 ≤ c.1 ∧ c.1 ≤ 255) ∧ 0 ≤ c.2.2 ∧ c.2.2 ≤ 2000) (n : Nat) :
    ∀ i : Nat, i + n = l.length → Y (link_Check.D0 (a, b, l, (l.length : Int), (i : Int))) fun r => r = 0 := by
  induction n with
  | zero =>
    intro i e
    refine Y.of (link_Check.D0_of _) (Y.nd (by omega) ?_)
    refine Y.of (link_Check.D1_of _) (Y.pd (by show (0 : Int) < 2; decide) (Y.pd (by show (0 : Int) ≤ 0 ∧ (0 : Int) < 2; decide) ?_))
    refine ck_list _ 0 a hla ha [a, b] (by omega) _ ?_ _ 0 (Nat.zero_add _)
    refine Y.of (link_Check.D1_of _) (Y.pd (by show (0 : Int) + 1 < 2; decide) (Y.pd (by show (0 : Int) ≤ 0 + 1 ∧ (0 : Int) + 1 < 2; decide) ?_))
    refine ck_list _ (0 + 1) b hlb hb [a, b] (by omega) _ ?_ _ 0 (Nat.zero_add _)
    exact Y.of (link_Check.D1_of _) (Y.nd (by show ¬ (0 : Int) + 1 + 1 < 2; decide) (Y.some rfl))
  | succ n ih =>
    intro i e
    have hm := rd_mem (t := CmdT) l (i : Int) (by omega) (by omega)
    obtain ⟨⟨h1, h2⟩, h3, h4⟩ := h _ hm
    refine Y.of (link_Check.D0_of _) (Y.pd (by omega) (Y.pd (by omega) (Y.neg ?_ ?_)))
    · simp only [Bool.or_eq_false_iff, decide_eq_false_iff_not]
      exact ⟨⟨⟨Int.not_lt.mpr h1, Int.not_lt.mpr h2⟩, Int.not_lt.mpr h3⟩, Int.not_lt.mpr h4⟩
    · rw [w64 (x := (i : Int) + 1) (by omega) (by omega)]
      exact ih (i + 1) (by omega)
theorem check_link (a b : List Fate) (hla : a.length ≤ 200) (hlb : b.length ≤ 200) (ha : ∀ f ∈ a, FateOk f) (hb : ∀ f ∈ b, FateOk f) (l : List Cmd) (hl : l.length ≤ 16) (h : ∀ c ∈ l, (0 ≤ c.1 ∧ c.1 ≤ 255) ∧ 0 ≤ c.2.2 ∧ c.2.2 ≤ 2000) :
    link_Check.F (l, a, b) = some 0 := by
  apply Y.is
  refine Y.of (link_Check.F_of _) (Y.neg ?_ (ck_cmds a b hla hlb ha hb l hl h _ 0 (Nat.zero_add _)))
  simp only [Bool.or_eq_false_iff, decide_eq_false_iff_not]
  exact ⟨⟨by omega, by omega⟩, by omega⟩
/-- A run of commands that may be over lines that may be. -/
structure Fine (l : List Cmd) (a b : List Fate) : Prop where
  nl : l.length ≤ 16
  na : a.length ≤ 200
  nb : b.length ≤ 200
  l : ∀ c ∈ l, (0 ≤ c.1 ∧ c.1 ≤ 255) ∧ 0 ≤ c.2.2 ∧ c.2.2 ≤ 2000
  a : ∀ f ∈ a, FateOk f
  b : ∀ f ∈ b, FateOk f
theorem Fine.cmds {l : List Cmd} {a b : List Fate} (h : Fine l a b) : CmdsOk l := ⟨h.nl, fun c hc => (h.l c hc).2.1, fun c hc => by have := (h.l c hc).2.2; omega⟩
theorem Fine.run {l : List Cmd} {a b : List Fate} (h : Fine l a b) (N : Nat) (hN : N ≤ 2000) : link_Run.F (l, a, b, (N : Int)) = some (resS (Net.run l a b N)) :=
  run_spec (check_link a b h.na h.nb h.a h.b l h.nl h.l) h.cmds h.a h.b N hN
theorem Fine.good {l : List Cmd} {a b : List Fate} (h : Fine l a b) (N : Nat) : Good l (N : Int) 0 (Net.run l a b N) := Good.run h.cmds h.a h.b N
theorem sends_spec : spykeep2_sends.F () = some true := by
  have h : Fine [(1, 0, 10)] [] [] := ⟨by decide, by decide, by decide, (by intro c hc; rw [List.mem_singleton] at hc; subst hc; decide), (by intro f hf; cases hf), (by intro f hf; cases hf)⟩
  have e := h.run 3 (by decide)
  apply Y.is
  refine Y.of (spykeep2_sends.F_of _) (Y.bE e ?_)
  have e2 : resS (Net.run [(1, 0, 10)] [] [] 3) = (1, 1, 0, [(0, 1)], [2], [2]) := by decide +kernel
  rw [e2]
  refine Y.pos rfl ?_
  have : slices_Equal_int.F ([2], [2]) = some true := by
    apply Y.is
    refine Y.of (slices_Equal_int.F_of _) (Y.np rfl ?_)
    refine Y.of (slices_Equal_int.D0_of _) (Y.pd (by decide) (Y.pd (by decide) (Y.pd (by decide) (Y.np rfl ?_))))
    exact Y.of (slices_Equal_int.D0_of _) (Y.nd (by decide) (Y.some rfl))
  exact Y.bE this (Y.some rfl)
theorem cmds_loop (L : List Int) (m : Int) (hm : m ≤ 6) (n : Nat) : ∀ (i at_ due : Int) (l : List Cmd), 0 ≤ i → m - i = n → 0 ≤ at_ → at_ ≤ 1 + 3 * i → 0 ≤ due → due ≤ 30 * i → (l.length : Int) = i → (∀ c ∈ l, (0 ≤ c.1 ∧ c.1 ≤ 255) ∧ 0 ≤ c.2.2 ∧ c.2.2 ≤ 1000) →
    Y (spykeep2_commands.D0 (due, m, i, L, at_, l)) fun r => ∃ at' l', r = (L, at', l') ∧ 0 ≤ at' ∧ at' ≤ 100 ∧ (l'.length : Int) = m ∧ ∀ c ∈ l', (0 ≤ c.1 ∧ c.1 ≤ 255) ∧ 0 ≤ c.2.2 ∧ c.2.2 ≤ 1000 := by
  induction n with
  | zero =>
    intro i at_ due l h0 h1 h2 h3 h4 h5 h6 h7
    exact Y.of (spykeep2_commands.D0_of _) (Y.nd (by omega) (Y.some ⟨at_, l, rfl, h2, by omega, by omega, h7⟩))
  | succ n ih =>
    intro i at_ due l h0 h1 h2 h3 h4 h5 h6 h7
    refine Y.of (spykeep2_commands.D0_of _) (Y.pd (by omega) ?_)
    refine Y.next L at_ 30 h2 (by omega) (by omega) (by omega) fun r r0 r1 => ?_
    refine Y.next L (at_ + 1) 14 (by omega) (by omega) (by omega) (by omega) fun s s0 s1 => ?_
    refine Y.next L (at_ + 1 + 1) 1048576 (by omega) (by omega) (by omega) (by omega) fun t t0 t1 => ?_
    dsimp only
    rw [w64 (x := due + r) (by omega) (by omega), w64 (x := i + 1) (by omega) (by omega)]
    refine Y.pd (by simp; omega) (ih (i + 1) _ _ _ (by omega) (by omega) (by omega) (by omega) (by omega) (by omega) (by simp; omega) fun c hc => ?_)
    rcases List.mem_append.mp hc with g | g
    · exact h7 c g
    · rw [List.mem_singleton] at g
      subst g
      dsimp only
      omega
theorem Y.cmds {β : Type} {f : spykeep2_commands.R → Option β} {Q : β → Prop} (L : List Int)
    (k : ∀ at' l', 0 ≤ at' → at' ≤ 100 → 1 ≤ l'.length → l'.length ≤ 6 → (∀ c ∈ l', ((0 : Int) ≤ c.1 ∧ c.1 ≤ 255) ∧ (0 : Int) ≤ c.2.2 ∧ c.2.2 ≤ 1000) → Y (f (L, at', l')) Q) : Y (bnd (spykeep2_commands.F (L, 0)) f) Q := by
  have : Y (spykeep2_commands.F (L, 0)) fun r => ∃ at' l', r = (L, at', l') ∧ (0 : Int) ≤ at' ∧ at' ≤ 100 ∧ 1 ≤ l'.length ∧ l'.length ≤ 6 ∧ ∀ c ∈ l', ((0 : Int) ≤ c.1 ∧ c.1 ≤ 255) ∧ (0 : Int) ≤ c.2.2 ∧ c.2.2 ≤ 1000 := by
    refine Y.of (spykeep2_commands.F_of _) (Y.range 1 6 L 0 (by omega) (by omega) (by omega) (by omega) (by omega) fun m m0 m1 => ?_)
    refine (cmds_loop L m m1 m.toNat 0 (0 + 1) 0 [] (by omega) (by omega) (by omega) (by omega) (by omega) (by omega) (by simp) (by simp)).mono fun r hr => ?_
    obtain ⟨at', l', e, h1, h2, h3, h4⟩ := hr
    exact ⟨at', l', e, h1, h2, by omega, by omega, h4⟩
  obtain ⟨r, hr, at', l', rfl, h1, h2, h3, h4, h5⟩ := this
  exact Y.bE hr (k at' l' h1 h2 h3 h4 h5)
theorem fates_loop (L : List Int) (B m : Int) (hB : 0 ≤ B ∧ B ≤ 1000000) (hm : m ≤ 19) (n : Nat) : ∀ (i at_ : Int) (l : List Fate), 0 ≤ i → m - i = n → 0 ≤ at_ → at_ ≤ B + 4 * i → (l.length : Int) = i → (∀ c ∈ l, FateOk c) →
    Y (spykeep2_fates.D0 (m, i, L, at_, l)) fun r => ∃ at' l', r = (L, at', l') ∧ 0 ≤ at' ∧ at' ≤ B + 4 * m ∧ (l'.length : Int) = m ∧ ∀ c ∈ l', FateOk c := by
  induction n with
  | zero =>
    intro i at_ l h0 h1 h2 h3 h6 h7
    exact Y.of (spykeep2_fates.D0_of _) (Y.nd (by omega) (Y.some ⟨at_, l, rfl, h2, by omega, by omega, h7⟩))
  | succ n ih =>
    intro i at_ l h0 h1 h2 h3 h6 h7
    have next : ∀ (at' : Int) (f : Fate), 0 ≤ at' → at' ≤ at_ + 4 → FateOk f → Y (spykeep2_fates.D1 (m, i, L, at', l, f.1, f.2.1, f.2.2.1, f.2.2.2)) fun r => ∃ at' l', r = (L, at', l') ∧ 0 ≤ at' ∧ at' ≤ B + 4 * m ∧ (l'.length : Int) = m ∧ ∀ c ∈ l', FateOk c := by
      intro at' f g0 g1 g2
      refine Y.of (spykeep2_fates.D1_of _) (Y.pd (by simp; omega) (Y.of (spykeep2_fates.D2_of _) ?_))
      dsimp only [spykeep2_fates.d2]
      rw [w64 (x := i + 1) (by omega) (by omega)]
      refine ih (i + 1) at' _ (by omega) (by omega) g0 (by omega) (by simp; omega) fun c hc => ?_
      rcases List.mem_append.mp hc with g | g
      · exact h7 c g
      · rw [List.mem_singleton] at g
        subst g
        exact g2
    refine Y.of (spykeep2_fates.D0_of _) (Y.pd (by omega) ?_)
    refine Y.range 1 8 L at_ h2 (by omega) (by omega) (by omega) (by omega) fun d d0 d1 => ?_
    refine Y.next L (at_ + 1) 5 (by omega) (by omega) (by omega) (by omega) fun s s0 s1 => ?_
    refine Y.ite (fun c => ?_) (fun c => ?_)
    · exact next _ (true, 0, 0, []) (by dsimp only; omega) (by dsimp only; omega) ⟨fun _ => rfl, fun h => (by cases h)⟩
    · refine Y.ite (fun c1 => ?_) (fun c1 => ?_)
      · refine Y.range 1 8 L (at_ + 1 + 1) (by omega) (by omega) (by omega) (by omega) (by omega) fun w w0 w1 => ?_
        exact next _ (false, d, w, []) (by dsimp only; omega) (by dsimp only; omega) ⟨fun h => (by cases h), fun _ => ⟨d0, d1, by dsimp only; omega, w1, by simp, by simp, by simp⟩⟩
      · refine Y.ite (fun c2 => ?_) (fun c2 => ?_)
        · refine Y.next L (at_ + 1 + 1) 40 (by omega) (by omega) (by omega) (by omega) fun x x0 x1 => ?_
          refine Y.next L (at_ + 1 + 1 + 1) 90 (by omega) (by omega) (by omega) (by omega) fun y y0 y1 => ?_
          dsimp only
          rw [w64 (x := 40 + y) (by omega) (by omega)]
          refine next _ (false, d, 0, [x, 40 + y]) (by omega) (by omega) ⟨fun h => (by cases h), fun _ => ⟨d0, d1, by dsimp only; omega, by dsimp only; omega, by simp, ?_, ?_⟩⟩
          · simp
            omega
          · intro z hz
            simp only [List.mem_cons, List.not_mem_nil, or_false] at hz
            omega
        · exact next _ (false, d, 0, []) (by dsimp only; omega) (by dsimp only; omega) ⟨fun h => (by cases h), fun _ => ⟨d0, d1, by dsimp only; omega, by dsimp only; omega, by simp, by simp, by simp⟩⟩
theorem Y.fates {β : Type} {f : spykeep2_fates.R → Option β} {Q : β → Prop} (L : List Int) (at_ : Int) (ha : 0 ≤ at_) (hb : at_ ≤ 1000)
    (k : ∀ at' l', 0 ≤ at' → at' ≤ at_ + 100 → l'.length ≤ 19 → (∀ c ∈ l', FateOk c) → Y (f (L, at', l')) Q) : Y (bnd (spykeep2_fates.F (L, at_)) f) Q := by
  have : Y (spykeep2_fates.F (L, at_)) fun r => ∃ at' l', r = (L, at', l') ∧ (0 : Int) ≤ at' ∧ at' ≤ at_ + 100 ∧ l'.length ≤ 19 ∧ ∀ c ∈ l', FateOk c := by
    refine Y.of (spykeep2_fates.F_of _) (Y.next L at_ 20 ha (by omega) (by omega) (by omega) fun m m0 m1 => ?_)
    refine (fates_loop L (at_ + 1) m (by omega) (by omega) m.toNat 0 (at_ + 1) [] (by omega) (by omega) (by omega) (by omega) (by simp) (by simp)).mono fun r hr => ?_
    obtain ⟨at', l', e, h1, h2, h3, h4⟩ := hr
    exact ⟨at', l', e, h1, by omega, by omega, h4⟩
  obtain ⟨r, hr, at', l', rfl, h1, h2, h3, h4⟩ := this
  exact Y.bE hr (k at' l' h1 h2 h3 h4)
end Go.Proofs.RLink
namespace Go.Proofs.RLink
open Go Go.Eng

/-- What comes later. -/
structure Later (v : Dev) (c : Ctl) (v' : Dev) (c' : Ctl) : Prop where
  log : v.log <+: v'.log
  done : ∀ i, 0 ≤ i → 2 ≤ c.rep i → c'.rep i = c.rep i ∧ c'.time i = c.time i
  grow : ∀ i, 0 ≤ i → c.rep i ≤ c'.rep i ∨ 2 ≤ c'.rep i
theorem Later.refl (v : Dev) (c : Ctl) : Later v c v c := ⟨List.prefix_refl _, fun _ _ _ => ⟨rfl, rfl⟩, fun _ _ => .inl (Int.le_refl _)⟩
theorem Later.trans {v1 v2 v3 : Dev} {c1 c2 c3 : Ctl} (h : Later v1 c1 v2 c2) (k : Later v2 c2 v3 c3) : Later v1 c1 v3 c3 := by
  refine ⟨h.log.trans k.log, fun i hi h2 => ?_, fun i hi => ?_⟩
  · have a := h.done i hi h2
    have b := k.done i hi (by omega)
    exact ⟨b.1.trans a.1, b.2.trans a.2⟩
  · have a := h.grow i hi
    have b := k.grow i hi
    rcases a with a | a
    · omega
    · have := k.done i hi a
      omega
def Net.later (x y : Net) : Prop := Later x.dv x.ct y.dv y.ct
variable {l : List Cmd} {there back : List Fate}
theorem dev_later (t : Int) (x : Net) (p : Pk) : x.later (x.dev back t p) := by
  unfold Net.later Net.dev
  rcases x.dv.hear_cases p t with ⟨e, _⟩ | ⟨_, _, e⟩ | ⟨_, _, _, e⟩ | ⟨_, _, e⟩
  · rw [e]
    exact Later.refl _ _
  · rw [e]
    exact Later.refl _ _
  · rw [e]
    exact ⟨List.prefix_append _ _, fun _ _ _ => ⟨rfl, rfl⟩, fun _ _ => .inl (Int.le_refl _)⟩
  · rw [e]
    exact ⟨List.prefix_refl _, fun _ _ _ => ⟨rfl, rfl⟩, fun _ _ => .inl (Int.le_refl _)⟩
theorem devs_later (t : Int) (ps : List Pk) : ∀ x : Net, x.later (ps.foldl (Net.dev back t) x) := by
  induction ps with
  | nil => intro x; exact Later.refl _ _
  | cons p ps ih => intro x; exact (dev_later t x p).trans (ih _)
theorem con_later {t : Int} {x : Net} (hg : Good l t 0 x) (p : Pk) : x.later (x.con l.length t p) := by
  unfold Net.later Net.con
  dsimp only
  rcases x.ct.hear_cases l.length p t with ⟨e, _⟩ | ⟨h1, h2, h3, q, hq, _, e⟩
  · rw [e]
    exact Later.refl _ _
  · have h0 := hg.core.n0
    have hlr := hg.core.lr
    have hla := hg.core.la
    have hr : ∀ j, 0 ≤ j → (x.ct.hear l.length p t).rep j = if j = x.ct.now then q else x.ct.rep j := fun j hj => by
      rw [e]
      exact rd_set x.ct.reps x.ct.now j q h0 (by omega) hj
    have ht : ∀ j, 0 ≤ j → (x.ct.hear l.length p t).time j = if j = x.ct.now then t else x.ct.time j := fun j hj => by
      rw [e]
      exact rd_set x.ct.ats x.ct.now j t h0 (by omega) hj
    refine ⟨List.prefix_refl _, fun i hi h4 => ?_, fun i hi => ?_⟩
    · have hne : i ≠ x.ct.now := fun g => by
        subst g
        omega
      rw [hr i hi, ht i hi, if_neg hne, if_neg hne]
      exact ⟨rfl, rfl⟩
    · rw [hr i hi]
      split
      · omega
      · exact .inl (Int.le_refl _)
theorem cons_later {t : Int} (ps : List Pk) : ∀ x : Net, Good l t 0 x → (∀ p ∈ ps, Reply x.dv p) → x.later (ps.foldl (Net.con l.length t) x) := by
  induction ps with
  | nil => intro x _ _; exact Later.refl _ _
  | cons p ps ih => intro x hg hp; exact (con_later hg p).trans (ih _ (hg.con p (hp p List.mem_cons_self)) fun q hq => hp q (List.mem_cons_of_mem _ hq))
theorem act_later {t : Int} {x : Net} (hg : Good l t 0 x) : x.later (x.act l there t) := by
  have h0 := hg.core.n0
  have hlr := hg.core.lr
  have key : ∀ c, c = x.ct ∨ x.ct.now < l.length ∧ c = x.ct.begin t → Later x.dv x.ct x.dv c := by
    rintro c (rfl | ⟨hn, rfl⟩)
    · exact Later.refl _ _
    · have hrn := hg.core.rn hn
      obtain ⟨b1, b2, b3, b4, b5, _, _⟩ := x.ct.begin_rep t h0 (by omega) hrn
      have ht : ∀ i, (x.ct.begin t).time i = x.ct.time i := fun i => by unfold Ctl.time; rw [b5]
      refine ⟨List.prefix_refl _, fun i hi h4 => ?_, fun i hi => ?_⟩
      · have hne : i ≠ x.ct.now := fun g => by
          subst g
          omega
        exact ⟨b3 i hi hne, ht i⟩
      · by_cases c : i = x.ct.now
        · subst c
          omega
        · rw [b3 i hi c]
          exact .inl (Int.le_refl _)
  unfold Net.later Net.act
  rcases x.ct.act_cases l t with ⟨_, e⟩ | ⟨g, _, e⟩ | ⟨g, _, k, d, _, _, e⟩
  · rw [e]
    exact key _ (.inl rfl)
  · rw [e]
    exact key _ (.inr ⟨g, rfl⟩)
  · rw [e]
    exact key _ (.inr ⟨g, rfl⟩)
theorem step_later (hl : CmdsOk l) (hb : ∀ f ∈ back, FateOk f) {t : Int} {x : Net} (hg : Good l t 0 x) : x.later (x.step l there back t) := by
  have h1 : x.later (x.one back t) := devs_later (back := back) t (takeW t x.to) { x with to := stayW t x.to }
  have g1 := (hg.one hl hb).1
  have h2 : (x.one back t).later ((x.one back t).two l.length t) := cons_later (takeW t (x.one back t).fro) _ g1.start2.1 g1.start2.2
  exact (h1.trans h2).trans (act_later g1.two)
theorem run_later (hF : Fine l there back) (n m : Nat) : (Net.run l there back n).later (Net.run l there back (n + m)) := by
  induction m with
  | zero => exact Later.refl _ _
  | succ m ih => exact ih.trans (step_later hF.cmds hF.b (hF.good (n + m)))
theorem eqx_loop (a b : List (Int × Int)) (h : a = b) (hl : a.length ≤ 1048576) (n : Nat) : ∀ i : Nat, i + n = a.length → Y (slices_Equal_Exec.D0 (a, b, (a.length : Int), (i : Int))) fun r => r = true := by
  subst h
  induction n with
  | zero =>
    intro i e
    exact Y.of (slices_Equal_Exec.D0_of _) (Y.nd (by omega) (Y.some rfl))
  | succ n ih =>
    intro i e
    refine Y.of (slices_Equal_Exec.D0_of _) (Y.pd (by omega) (Y.pd (by omega) (Y.pd (by omega) (Y.neg (by simp) ?_))))
    rw [w64 (x := (i : Int) + 1) (by omega) (by omega)]
    exact ih (i + 1) (by omega)
theorem eqx_spec (a b : List (Int × Int)) (h : a = b) (hl : a.length ≤ 1048576) : slices_Equal_Exec.F (a, b) = some true := by
  apply Y.is
  refine Y.of (slices_Equal_Exec.F_of _) (Y.np (by rw [h]) (eqx_loop a b h hl _ 0 (Nat.zero_add _)))
theorem long_loop (v2 v3 v4 v5 : Int) (r a : List Int) (x y : List (Int × Int)) (r' a' : List Int) (h1 : r'.length = r.length) (h2 : a.length = r.length) (h3 : a'.length = r.length) (h16 : r.length ≤ 16)
    (hd : ∀ i : Int, 0 ≤ i → i < r.length → @LE.le Int _ 2 (rd (.int .i64) r i) → rd (.int .i64) r' i = rd (.int .i64) r i ∧ rd (.int .i64) a' i = rd (.int .i64) a i)
    (hg : ∀ i : Int, 0 ≤ i → i < r.length → @LE.le Int _ (rd (.int .i64) r i) (rd (.int .i64) r' i) ∨ @LE.le Int _ 2 (rd (.int .i64) r' i)) (n : Nat) :
    ∀ i : Nat, i + n = r.length → Y (spykeep2_LinkLonger.D0 ((r.length : Int), (i : Int), v2, v3, v4, v5, r, x, a, y, r', a')) fun b => b = true := by
  induction n with
  | zero =>
    intro i e
    exact Y.of (spykeep2_LinkLonger.D0_of _) (Y.nd (by omega) (Y.some rfl))
  | succ n ih =>
    intro i e
    have b1 : decide ((0 : Int) ≤ (i : Int) ∧ (i : Int) < (r'.length : Int)) = true := by simp; omega
    have b2 : decide ((0 : Int) ≤ (i : Int) ∧ (i : Int) < (a.length : Int)) = true := by simp; omega
    have b3 : decide ((0 : Int) ≤ (i : Int) ∧ (i : Int) < (a'.length : Int)) = true := by simp; omega
    have d := hd (i : Int) (by omega) (by omega)
    have g := hg (i : Int) (by omega) (by omega)
    refine Y.of (spykeep2_LinkLonger.D0_of _) (Y.pd (by omega) (Y.pd (by omega) ?_))
    refine Y.pos (by rw [b1]; simp) (Y.pos (by rw [b3]; simp) (Y.pos (by rw [b2]; simp) (Y.pos (by rw [b1]; simp) (Y.pos (by rw [b1]; simp) (Y.neg ?_ ?_)))))
    · generalize rd (.int .i64) r (i : Int) = p at *
      generalize rd (.int .i64) r' (i : Int) = p' at *
      generalize rd (.int .i64) a (i : Int) = q at *
      generalize rd (.int .i64) a' (i : Int) = q' at *
      have key : ∀ p p' q q' : Int, (2 ≤ p → p' = p ∧ q' = q) → (p ≤ p' ∨ 2 ≤ p') → (decide (2 ≤ p) && (!decide (p' = p) || !decide (q' = q)) || decide (p' < p) && decide (p' < 2)) = false := by
        intro p p' q q' d g
        by_cases c : 2 ≤ p
        · obtain ⟨e1, e2⟩ := d c
          subst e1 e2
          have : ¬ p' < p' := by omega
          simp
        · have : ¬ (p' < p ∧ p' < 2) := by omega
          have c' : decide (2 ≤ p) = false := decide_eq_false c
          rw [c', Bool.false_and, Bool.false_or, ← Bool.decide_and]
          exact decide_eq_false this
      exact key p p' q q' d g
    · rw [w64 (x := (i : Int) + 1) (by omega) (by omega)]
      exact ih (i + 1) (by omega)
theorem linkLonger (J : List Int) (a0 b0 : Int) : Y (spykeep2_LinkLonger.F (J, a0, b0)) fun r => r = true := by
  refine Y.of (spykeep2_LinkLonger.F_of _) (Y.bE sends_spec (Y.neg rfl ?_))
  refine Y.cmds J fun at1 l a1 a2 l1 l2 hl => ?_
  refine Y.fates J at1 a1 (by omega) fun at2 a b1 b2 ha hfa => ?_
  refine Y.fates J at2 (by omega) (by omega) fun at3 b c1 c2 hb hfb => ?_
  have hF : Fine l a b := ⟨by omega, by omega, by omega, fun c hc => ⟨(hl c hc).1, (hl c hc).2.1, by have := (hl c hc).2.2; omega⟩, hfa, hfb⟩
  refine Y.bE (below_spec a0 200 (by omega) (by omega)) ?_
  obtain ⟨n0, n1⟩ := below_range a0 200 (by omega)
  obtain ⟨N, hN⟩ : ∃ N : Nat, a0 % 200 = (N : Int) := ⟨(a0 % 200).toNat, by omega⟩
  obtain ⟨m0, m1⟩ := below_range b0 200 (by omega)
  obtain ⟨M, hM⟩ : ∃ M : Nat, b0 % 200 = (M : Int) := ⟨(b0 % 200).toNat, by omega⟩
  dsimp only
  rw [hN] at n1 ⊢
  refine Y.bE (hF.run N (by omega)) (Y.bE (below_spec b0 200 (by omega) (by omega)) ?_)
  rw [hM] at m1 ⊢
  rw [w64 (x := (N : Int) + (M : Int)) (by omega) (by omega)]
  have e : (N : Int) + (M : Int) = ((N + M : Nat) : Int) := by omega
  rw [e]
  refine Y.bE (hF.run (N + M) (by omega)) ?_
  have hx := hF.good N
  have hy := hF.good (N + M)
  have hlt := run_later hF N M
  generalize Net.run l a b N = x at *
  generalize Net.run l a b (N + M) = y at *
  have h16 := hF.nl
  have x1 := hx.core.lr
  have x2 := hx.core.la
  have y1 := hy.core.lr
  have y2 := hy.core.la
  have x3 := hx.nlog
  have x4 := hx.nto
  have x5 := hx.s1
  have hp : x.dv.log = y.dv.log.take x.dv.log.length := List.prefix_iff_eq_take.mp hlt.log
  have hlen := hlt.log.length_le
  dsimp only [resS]
  have i1 : decide ((0 : Int) ≤ (x.dv.log.length : Int) ∧ (x.dv.log.length : Int) ≤ (y.dv.log.length : Int)) = true := by simp; omega
  have i2 : decide ((y.dv.log.length : Int) < (x.dv.log.length : Int)) = false := by simp; omega
  have i3 : ((!decide ((0 : Int) = 0) || !decide ((0 : Int) = 0) || decide ((y.dv.log.length : Int) < (x.dv.log.length : Int))) == false) = true := by rw [i2]; rfl
  refine Y.pos ((Bool.or_eq_true _ _).mpr (.inr i1)) (Y.pos i3 (Y.bE (eqx_spec _ _ ?_ (by omega)) (Y.neg ?_ ?_)))
  · have : (x.dv.log.length : Int).toNat = x.dv.log.length := by omega
    rw [this]
    show x.dv.log = List.drop 0 (List.take x.dv.log.length y.dv.log)
    rw [List.drop_zero, ← hp]
  · have i4 : (!decide ((0 : Int) = 0) || !decide ((0 : Int) = 0) || decide ((y.dv.log.length : Int) < (x.dv.log.length : Int)) || !true || !decide ((x.ct.reps.length : Int) = (y.ct.reps.length : Int)) || !decide ((x.ct.ats.length : Int) = (x.ct.reps.length : Int)) || !decide ((y.ct.ats.length : Int) = (x.ct.ats.length : Int))) = false := by
      rw [i2, x1, x2, y1, y2]
      simp
    exact i4
  · refine long_loop _ _ _ _ x.ct.reps x.ct.ats _ _ y.ct.reps y.ct.ats (by omega) (by omega) (by omega) (by omega) (fun i i0 _ h => hlt.done i i0 h) (fun i i0 _ => hlt.grow i i0) _ 0 (Nat.zero_add _)
end Go.Proofs.RLink
