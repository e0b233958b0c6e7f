import Derived.Test.YtmfmjdneljbmoaaRBusFlips0
set_option linter.unusedVariables false
namespace Go.Proofs.RBus
open Go Go.Eng

theorem below_spec (x n : Int) (h1 : 1 ≤ n) (h2 : n ≤ 4611686018427387904) : spymake_Below.F (x, n) = some (x % n) := by
  apply Y.is
  refine Y.of (spymake_Below.F_of _) (Y.nd (by omega) (Y.np' (by omega) (Y.ite (fun c => ?_) (fun c => ?_))))
  · refine Y.of (spymake_Below.D0_of _) (Y.some ?_)
    rw [tmod_neg_add h1 c]
    exact w64 (by have := Int.emod_nonneg x (b := n) (by omega); omega) (by have := Int.emod_lt_of_pos x (b := n) (by omega); omega)
  · exact Y.of (spymake_Below.D0_of _) (Y.some (tmod_of_nonneg h1 c))
theorem below_range (x n : Int) (h1 : 1 ≤ n) : 0 ≤ x % n ∧ x % n < n := ⟨Int.emod_nonneg x (by omega), Int.emod_lt_of_pos x (by omega)⟩
/-- Next gives a number below n, and counts. -/
theorem next_spec (L : List Int) (at_ n : Int) (ha : 0 ≤ at_) (hb : at_ ≤ 4611686018427387904) (h1 : 1 ≤ n) (h2 : n ≤ 4611686018427387904) :
    Y (spymake_Stream_Next.F (n, L, at_)) fun r => ∃ x, r = (x, L, at_ + 1) ∧ 0 ≤ x ∧ x < n := by
  refine Y.of (spymake_Stream_Next.F_of _) ?_
  dsimp only [spymake_Stream_Next.d]
  rw [w64 (x := at_ + 1) (by omega) (by omega), w64 (x := at_ + 1 - 1) (by omega) (by omega)]
  refine Y.ite (fun c => ?_) (fun c => ?_)
  · refine Y.bE (below_spec _ _ h1 h2) (Y.some ⟨_, rfl, below_range _ _ h1⟩)
  · rw [show at_ + 1 - 1 = at_ by omega]
    have e : Int.tmod at_ (L.length : Int) = at_ % (L.length : Int) := Int.tmod_eq_emod_of_nonneg ha
    have e1 := Int.emod_nonneg at_ (b := (L.length : Int)) c
    have e2 := Int.emod_lt_of_pos at_ (b := (L.length : Int)) (by omega)
    rw [e]
    refine Y.np' c (Y.np' c (Y.pd ⟨e1, e2⟩ (Y.bE (below_spec _ 1073741824 (by omega) (by omega)) (Y.bE (below_spec _ _ h1 h2) (Y.some ⟨_, rfl, below_range _ _ h1⟩)))))
theorem Y.next {β : Type} {f : spymake_Stream_Next.R → Option β} {Q : β → Prop} (L : List Int) (at_ n : Int) (ha : 0 ≤ at_) (hb : at_ ≤ 4611686018427387904) (h1 : 1 ≤ n) (h2 : n ≤ 4611686018427387904)
    (k : ∀ r, 0 ≤ r → r < n → Y (f (r, L, at_ + 1)) Q) : Y (bnd (spymake_Stream_Next.F (n, L, at_)) f) Q := by
  obtain ⟨r, hr, x, rfl, h3, h4⟩ := next_spec L at_ n ha hb h1 h2
  exact Y.bE hr (k x h3 h4)
end Go.Proofs.RBus
namespace Go.Proofs.RBus
open Go Go.Eng

theorem shl_i64 (a : Int) (b : Int) : shl .i64 a b = wrap .i64 (a * 2 ^ min b.toNat 64) := rfl
theorem shl_u16 (a : Int) (b : Int) : shl .u16 a b = wrap .u16 (a * 2 ^ min b.toNat 16) := rfl
theorem shr_eq (k : IntKind) (a : Int) (b : Int) : shr k a b = a.fdiv (2 ^ min b.toNat k.bits) := rfl

/-- One bit of the check sum, one byte, all. -/
def crcBit (c : Int) : Int := if bAnd .u16 c 32768 = 0 then shl .u16 c 1 else bXor .u16 (shl .u16 c 1) 4129
def crcBits : Nat → Int → Int
  | 0, c => c
  | d + 1, c => crcBits d (crcBit c)
def crcByte (c x : Int) : Int := crcBits 8 (bXor .u16 c (shl .u16 (wrap .u16 x) 8))
def crc (l : List Int) : Int := l.foldl crcByte 65535

theorem sum_bits {Q : Int → Prop} (l : List Int) (n i : Int) (d : Nat) : ∀ (c j : Int), j = 8 - (d : Int) → d ≤ 8 → Y (bus_Sum.D0 (crcBits d c, l, n, wrap .i64 (i + 1))) Q → Y (bus_Sum.D1 (c, l, n, i, j)) Q := by
  induction d with
  | zero =>
    intro c j hj _ h
    exact Y.of (bus_Sum.D1_of _) (Y.nd (by omega) h)
  | succ d ih =>
    intro c j hj hd h
    refine Y.of (bus_Sum.D1_of _) (Y.pd (by omega) ?_)
    have e : crcBits (d + 1) c = crcBits d (crcBit c) := rfl
    rw [e] at h
    unfold crcBit at h
    refine Y.nite (fun g => ?_) (fun g => ?_)
    · rw [if_neg g] at h
      refine Y.pd (by omega) (Y.of (bus_Sum.D2_of _) ?_)
      dsimp only [bus_Sum.d2]
      rw [w64 (x := j + 1) (by omega) (by omega)]
      exact ih _ _ (by omega) (by omega) h
    · rw [if_pos g] at h
      refine Y.pd (by omega) (Y.of (bus_Sum.D2_of _) ?_)
      dsimp only [bus_Sum.d2]
      rw [w64 (x := j + 1) (by omega) (by omega)]
      exact ih _ _ (by omega) (by omega) h
theorem sum_loop (l : List Int) (hl : l.length ≤ 1099511627776) (n : Nat) : ∀ (i : Nat) (c : Int), i + n = l.length → Y (bus_Sum.D0 (c, l, (l.length : Int), (i : Int))) (fun r => r = (l.drop i).foldl crcByte c) := by
  induction n with
  | zero =>
    intro i c h
    refine Y.of (bus_Sum.D0_of _) (Y.nd (by omega) (Y.some ?_))
    rw [List.drop_of_length_le (by omega)]
    rfl
  | succ n ih =>
    intro i c h
    refine Y.of (bus_Sum.D0_of _) (Y.pd (by omega) (Y.pd (by omega) (Y.pd (by omega) ?_)))
    refine sum_bits l _ _ 8 _ 0 (by omega) (by omega) ?_
    rw [w64 (x := (i : Int) + 1) (by omega) (by omega)]
    refine (ih (i + 1) _ (by omega)).mono (fun r hr => ?_)
    rw [hr, rd_drop (t := .int .u8) l i (by omega), List.foldl_cons]
    rfl
theorem sum_spec (l : List Int) (hl : l.length ≤ 1099511627776) : bus_Sum.F l = some (crc l) := by
  apply Y.is
  exact Y.of (bus_Sum.F_of _) (sum_loop l hl l.length 0 65535 (by omega))

/-- A packet in order. -/
structure PkOk (a b s : Int) (d : List Int) : Prop where
  a0 : 0 ≤ a
  a1 : a ≤ 15
  b0 : 0 ≤ b
  b1 : b ≤ 15
  s0 : 0 ≤ s
  s1 : s ≤ 65535
  n : d.length ≤ 16
  by0 : ∀ x ∈ d, 0 ≤ x ∧ x < 256
theorem check_spec (a b s : Int) (d : List Int) (h : PkOk a b s d) : bus_Check.F (a, b, s, d) = some 0 := by
  obtain ⟨h0, h1, h2, h3, h4, h5, h6, _⟩ := h
  apply Y.is
  refine Y.of (bus_Check.F_of _) (Y.neg ?_ (Y.nd (by omega) (Y.some rfl)))
  simp only [Bool.or_eq_false_iff, decide_eq_false_iff_not]
  omega
def head3 (a b s : Int) (d : List Int) : List Int := [wrap .u8 (bOr .i64 (shl .i64 a 4) b), wrap .u8 (shr .i64 s 8), wrap .u8 s] ++ d
def bodyOf (a b s : Int) (d : List Int) : List Int := head3 a b s d ++ [wrap .u8 (shr .u16 (crc (head3 a b s d)) 8), wrap .u8 (crc (head3 a b s d))]
theorem body_spec (a b s : Int) (d : List Int) (h : PkOk a b s d) : bus_Body.F (a, b, s, d) = some (0, bodyOf a b s d) := by
  have h6 := h.n
  apply Y.is
  refine Y.of (bus_Body.F_of _) (Y.bE (check_spec a b s d h) (Y.np rfl (Y.pd (by omega) (Y.pd (by omega) (Y.pd (by simp; omega) (Y.bE (sum_spec _ (by simp; omega)) (Y.pd (by omega) (Y.pd (by simp; omega) (Y.some ?_)))))))))
  rfl
theorem bodyOf_len (a b s : Int) (d : List Int) : (bodyOf a b s d).length = 5 + d.length := by
  unfold bodyOf head3
  simp
  omega
theorem bodyOf_byte (a b s : Int) (d : List Int) (h : ∀ x ∈ d, 0 ≤ x ∧ x < 256) : ∀ x ∈ bodyOf a b s d, 0 ≤ x ∧ x < 256 := by
  intro x hx
  unfold bodyOf head3 at hx
  simp only [List.mem_append, List.mem_cons, List.not_mem_nil, or_false] at hx
  rcases hx with (hx | hx) | hx
  · rcases hx with rfl | rfl | rfl <;> rw [wr_u8] <;> omega
  · exact h x hx
  · rcases hx with rfl | rfl <;> rw [wr_u8] <;> omega
def stf (x : Int) : List Int := if x = 126 ∨ x = 125 then [125, bXor .u8 x 32] else [x]
def stfs : List Int → List Int
  | [] => []
  | x :: l => stf x ++ stfs l
theorem stfs_append (l m : List Int) : stfs (l ++ m) = stfs l ++ stfs m := by
  induction l with
  | nil => rfl
  | cons x l ih => simp [stfs, ih]
theorem stuff_loop (l : List Int) (hl : l.length ≤ 1099511627776) (n : Nat) : ∀ (i : Nat) (o : List Int), i + n = l.length → o.length ≤ 2 * i + 1 → Y (bus_Stuff.D0 (l, (l.length : Int), (i : Int), o)) (fun r => r = o ++ stfs (l.drop i) ++ [126]) := by
  induction n with
  | zero =>
    intro i o h ho
    refine Y.of (bus_Stuff.D0_of _) (Y.nd (by omega) (Y.pd (by simp; omega) (Y.some ?_)))
    rw [List.drop_of_length_le (by omega)]
    simp [stfs]
  | succ n ih =>
    intro i o h ho
    have e := rd_drop (t := .int .u8) l i (by omega)
    refine Y.of (bus_Stuff.D0_of _) (Y.pd (by omega) (Y.pd (by omega) (Y.bif (fun g => ?_) (fun g => ?_))))
    · refine Y.pd (by simp; omega) (Y.of (bus_Stuff.D1_of _) ?_)
      dsimp only [bus_Stuff.d1]
      rw [w64 (x := (i : Int) + 1) (by omega) (by omega)]
      refine (ih (i + 1) _ (by omega) (by simp; omega)).mono (fun r hr => ?_)
      simp only [Bool.or_eq_true, decide_eq_true_eq] at g
      rw [hr, e]
      simp only [stfs, stf, if_pos g, List.append_assoc]
    · refine Y.pd (by simp; omega) (Y.of (bus_Stuff.D1_of _) ?_)
      dsimp only [bus_Stuff.d1]
      rw [w64 (x := (i : Int) + 1) (by omega) (by omega)]
      refine (ih (i + 1) _ (by omega) (by simp; omega)).mono (fun r hr => ?_)
      simp only [Bool.or_eq_false_iff, decide_eq_false_iff_not] at g
      rw [hr, e]
      simp only [stfs, stf, if_neg (show ¬ (_ ∨ _) from fun h => h.elim g.1 g.2), List.append_assoc]
theorem stuff_spec (l : List Int) (hl : l.length ≤ 1099511627776) : bus_Stuff.F l = some ([126] ++ stfs l ++ [126]) := by
  apply Y.is
  exact Y.of (bus_Stuff.F_of _) (stuff_loop l hl l.length 0 [126] (by omega) (by simp))
def frame (b : List Int) : List Int := [126] ++ stfs b ++ [126]
theorem encode_spec (a b s : Int) (d : List Int) (h : PkOk a b s d) : bus_Encode.F (a, b, s, d) = some (0, frame (bodyOf a b s d)) := by
  have := bodyOf_len a b s d
  have := h.n
  apply Y.is
  exact Y.of (bus_Encode.F_of _) (Y.bE (body_spec a b s d h) (Y.np rfl (Y.bE (stuff_spec _ (by dsimp only; omega)) (Y.some rfl))))
theorem stfs_len (l : List Int) : l.length ≤ (stfs l).length ∧ (stfs l).length ≤ 2 * l.length := by
  induction l with
  | nil => simp [stfs]
  | cons x l ih =>
    have : (stf x).length = 1 ∨ (stf x).length = 2 := by
      unfold stf
      split <;> simp
    simp only [stfs, List.length_append, List.length_cons]
    omega

/-- Bits of whole numbers. -/
theorem bOr_nat (m n : Nat) (hm : m < 9223372036854775808) (hn : n < 9223372036854775808) : bOr .i64 (m : Int) (n : Int) = ((m ||| n : Nat) : Int) := by
  unfold bOr
  have h : ((BitVec.ofInt 64 (m : Int) ||| BitVec.ofInt 64 (n : Int)).toNat : Int) = ((m ||| n : Nat) : Int) := by
    rw [BitVec.toNat_or, BitVec.toNat_ofInt, BitVec.toNat_ofInt]
    have e1 : ((m : Int) % ((2 ^ 64 : Nat) : Int)).toNat = m := by omega
    have e2 : ((n : Int) % ((2 ^ 64 : Nat) : Int)).toNat = n := by omega
    rw [e1, e2]
  show IntKind.wrap .i64 ((BitVec.ofInt 64 (m : Int) ||| BitVec.ofInt 64 (n : Int)).toNat : Int) = _
  rw [h]
  have : m ||| n < 2 ^ 63 := Nat.or_lt_two_pow (by omega) (by omega)
  exact w64 (by omega) (by omega)
theorem bOr_add (a b : Int) (i : Nat) (hi : i ≤ 32) (ha : 0 ≤ a) (ha' : a < 1073741824) (hb : 0 ≤ b) (hb' : b < 2 ^ i) : bOr .i64 (a * 2 ^ i) b = a * 2 ^ i + b := by
  obtain ⟨m, rfl⟩ : ∃ m : Nat, a = m := ⟨a.toNat, by omega⟩
  obtain ⟨n, rfl⟩ : ∃ n : Nat, b = n := ⟨b.toNat, by omega⟩
  have hn : n < 2 ^ i := by exact_mod_cast hb'
  have hp : (2 : Nat) ^ i ≤ 2 ^ 32 := Nat.pow_le_pow_right (by omega) hi
  have hm : m * 2 ^ i ≤ 1073741824 * 2 ^ 32 := Nat.mul_le_mul (by omega) hp
  have e : ((m : Int) * 2 ^ i) = ((m * 2 ^ i : Nat) : Int) := by push_cast; rfl
  rw [e, bOr_nat _ _ (by omega) (by omega), ← Nat.shiftLeft_eq, ← Nat.shiftLeft_add_eq_or_of_lt hn]
  push_cast
  rfl

/-- The packet of a body, and what is wrong with it. -/
def parse (b : List Int) : Int × Int × Int × Int × List Int :=
  if (b.length : Int) < 5 then (0, 0, 0, 14, [])
  else if 21 < (b.length : Int) then (0, 0, 0, 2, [])
  else if rd (.int .u8) b ((b.length : Int) - 2) = wrap .u8 (shr .u16 (crc (b.take (b.length - 2))) 8) ∧ rd (.int .u8) b ((b.length : Int) - 1) = wrap .u8 (crc (b.take (b.length - 2))) then
    (wrap .i64 (shr .u8 (rd (.int .u8) b 0) 4), wrap .i64 (bAnd .u8 (rd (.int .u8) b 0) 15), bOr .i64 (shl .i64 (wrap .i64 (rd (.int .u8) b 1)) 8) (wrap .i64 (rd (.int .u8) b 2)), 0, (b.take (b.length - 2)).drop 3)
  else (0, 0, 0, 13, [])
theorem parse_spec (b : List Int) : bus_Parse.F b = some (parse b) := by
  apply Y.is
  refine Y.of (bus_Parse.F_of _) ?_
  dsimp only [bus_Parse.d]
  unfold parse
  by_cases h5 : (b.length : Int) < 5
  · rw [if_pos h5]
    exact Y.pd h5 (Y.some rfl)
  rw [if_neg h5]
  refine Y.nd h5 ?_
  by_cases h21 : 21 < (b.length : Int)
  · rw [if_pos h21]
    exact Y.pd h21 (Y.some rfl)
  rw [if_neg h21]
  refine Y.nd h21 ?_
  rw [w64 (x := (b.length : Int) - 2) (by omega) (by omega), w64 (x := (b.length : Int) - 2 + 1) (by omega) (by omega)]
  rw [show ((b.length : Int) - 2 + 1) = (b.length : Int) - 1 by omega, show ((b.length : Int) - 2).toNat = b.length - 2 by omega, show Int.toNat 0 = 0 from rfl, List.drop_zero]
  refine Y.pd (by omega) (Y.bE (sum_spec _ (by simp; omega)) (Y.pd (by omega) (Y.pd (by omega) (Y.pos ?_ ?_))))
  · simp only [Bool.or_eq_true, decide_eq_true_eq]
    exact .inr (by omega)
  by_cases hs : rd (.int .u8) b ((b.length : Int) - 2) = wrap .u8 (shr .u16 (crc (b.take (b.length - 2))) 8) ∧ rd (.int .u8) b ((b.length : Int) - 1) = wrap .u8 (crc (b.take (b.length - 2)))
  · rw [if_pos hs]
    refine Y.neg ?_ (Y.pd (by omega) (Y.pd (by omega) (Y.pd (by omega) (Y.pd (by omega) (Y.pd (by omega) (Y.pd (by omega) (Y.pd (by omega) (Y.pd ?_ (Y.some rfl)))))))))
    · simp [hs.1, hs.2]
    · simp only [List.length_drop, List.length_take]
      omega
  · rw [if_neg hs]
    refine Y.pos ?_ (Y.some rfl)
    simp only [Bool.or_eq_true, Bool.not_eq_true', decide_eq_false_iff_not]
    by_cases h1 : rd (.int .u8) b ((b.length : Int) - 2) = wrap .u8 (shr .u16 (crc (b.take (b.length - 2))) 8)
    · exact .inr fun h => hs ⟨h1, h⟩
    · exact .inl h1

theorem nib : ∀ a : Fin 16, ∀ b : Fin 16, wrap .i64 (shr .u8 (wrap .u8 (bOr .i64 (shl .i64 (a.val : Int) 4) (b.val : Int))) 4) = (a.val : Int) ∧ wrap .i64 (bAnd .u8 (wrap .u8 (bOr .i64 (shl .i64 (a.val : Int) 4) (b.val : Int))) 15) = (b.val : Int) := by decide +kernel
theorem parse_body (a b s : Int) (d : List Int) (h : PkOk a b s d) : parse (bodyOf a b s d) = (a, b, s, 0, d) := by
  have hl := bodyOf_len a b s d
  obtain ⟨h0, h1, h2, h3, h4, h5, h6, _⟩ := h
  have hH : (head3 a b s d).length = 3 + d.length := by unfold head3; simp; omega
  have ht : (bodyOf a b s d).take ((bodyOf a b s d).length - 2) = head3 a b s d := by
    rw [hl, show 5 + d.length - 2 = (head3 a b s d).length by omega]
    unfold bodyOf
    exact List.take_left' rfl
  have r0 : rd (.int .u8) (bodyOf a b s d) 0 = wrap .u8 (bOr .i64 (shl .i64 a 4) b) := rfl
  have r1 : rd (.int .u8) (bodyOf a b s d) 1 = wrap .u8 (shr .i64 s 8) := rfl
  have r2 : rd (.int .u8) (bodyOf a b s d) 2 = wrap .u8 s := rfl
  have r3 : rd (.int .u8) (bodyOf a b s d) (((bodyOf a b s d).length : Int) - 2) = wrap .u8 (shr .u16 (crc (head3 a b s d)) 8) := by
    rw [hl, show ((5 + d.length : Nat) : Int) - 2 = ((3 + d.length : Nat) : Int) by omega, rd_nat (t := .int .u8) _ _ (by rw [hl]; omega)]
    unfold bodyOf
    rw [List.getElem_append_right (by omega)]
    simp [hH]
  have r4 : rd (.int .u8) (bodyOf a b s d) (((bodyOf a b s d).length : Int) - 1) = wrap .u8 (crc (head3 a b s d)) := by
    rw [hl, show ((5 + d.length : Nat) : Int) - 1 = ((4 + d.length : Nat) : Int) by omega, rd_nat (t := .int .u8) _ _ (by rw [hl]; omega)]
    unfold bodyOf
    rw [List.getElem_append_right (by omega)]
    have : 4 + d.length - (head3 a b s d).length = 1 := by omega
    simp [this]
  unfold parse
  rw [if_neg (by omega), if_neg (by omega), ht, r3, r4, if_pos ⟨rfl, rfl⟩, r0, r1, r2]
  obtain ⟨A, rfl⟩ : ∃ A : Fin 16, a = A.val := ⟨⟨a.toNat, by omega⟩, by show a = ((a.toNat : Nat) : Int); omega⟩
  obtain ⟨B, rfl⟩ : ∃ B : Fin 16, b = B.val := ⟨⟨b.toNat, by omega⟩, by show b = ((b.toNat : Nat) : Int); omega⟩
  obtain ⟨e1, e2⟩ := nib A B
  rw [e1, e2]
  have e3 : bOr .i64 (shl .i64 (wrap .i64 (wrap .u8 (shr .i64 s 8))) 8) (wrap .i64 (wrap .u8 s)) = s := by
    have f1 : shr .i64 s 8 = s / 256 := by rw [shr_eq]; exact Int.fdiv_eq_ediv_of_nonneg _ (by decide)
    rw [f1, wr_u8, wr_u8, w64 (by omega) (by omega), w64 (x := s % 256) (by omega) (by omega), shl_i64]
    have f2 : wrap .i64 (s / 256 % 256 * 2 ^ min (Int.toNat 8) 64) = (s / 256 % 256) * 2 ^ 8 := by
      show wrap .i64 (s / 256 % 256 * 256) = (s / 256 % 256) * 256
      exact w64 (by omega) (by omega)
    rw [f2, bOr_add _ _ 8 (by omega) (by omega) (by omega) (by omega) (by omega)]
    omega
  rw [e3]
  have e4 : (head3 (A.val : Int) (B.val : Int) s d).drop 3 = d := rfl
  rw [e4]

/-- What a reader has. -/
structure Rdr where
  esc : Bool
  skip : Bool
  opn : Bool
  bad : Int
  body : List Int

abbrev Pk := Int × Int × Int × List Int

def Rdr.put (r : Rdr) (x : Int) : Rdr := if r.body.length = 21 then { r with skip := true } else { r with body := r.body ++ [x] }
/-- A byte is taken: a packet that it completes, and the reader. -/
def Rdr.feed (r : Rdr) (x : Int) : Option Pk × Rdr :=
  if x = 126 then
    if r.body.length = 0 ∧ r.skip = false ∧ r.esc = false then (none, ⟨false, false, true, r.bad, []⟩)
    else if r.skip = false ∧ r.esc = false ∧ (parse r.body).2.2.2.1 = 0 then (some ((parse r.body).1, (parse r.body).2.1, (parse r.body).2.2.1, (parse r.body).2.2.2.2), ⟨false, false, true, r.bad, []⟩)
    else (none, ⟨false, false, true, wrap .i64 (r.bad + 1), []⟩)
  else if r.skip = true ∨ r.opn = false then (none, r)
  else if r.esc = true then
    if bXor .u8 x 32 = 126 ∨ bXor .u8 x 32 = 125 then (none, { r with esc := false }.put (bXor .u8 x 32)) else (none, { r with esc := false, skip := true })
  else if x = 125 then (none, { r with esc := true })
  else (none, r.put x)

def feedR (r : Option Pk × Rdr) : bus_Reader_Feed.R := match r.1 with
  | some p => (p.1, p.2.1, p.2.2.1, true, r.2.esc, r.2.skip, r.2.opn, r.2.bad, p.2.2.2, r.2.body)
  | none => (0, 0, 0, false, r.2.esc, r.2.skip, r.2.opn, r.2.bad, [], r.2.body)

theorem put_spec (r : Rdr) (x : Int) (h : r.body.length ≤ 21) : bus_Reader_put.F (x, r.esc, r.skip, r.opn, r.bad, r.body) = some ((r.put x).esc, (r.put x).skip, (r.put x).opn, (r.put x).bad, (r.put x).body) := by
  apply Y.is
  refine Y.of (bus_Reader_put.F_of _) ?_
  dsimp only [bus_Reader_put.d]
  unfold Rdr.put
  by_cases c : r.body.length = 21
  · rw [if_pos c]
    exact Y.pd (by omega) (Y.some rfl)
  · rw [if_neg c]
    refine Y.nd (by omega) (Y.pd ?_ (Y.some rfl))
    simp
    omega
theorem flag_spec (r : Rdr) : bus_Reader_flag.F (r.esc, r.skip, r.opn, r.bad, r.body) = some (let q := r.feed 126; match q.1 with
    | some p => (p.1, p.2.1, p.2.2.1, true, false, false, true, q.2.bad, r.body, p.2.2.2, [])
    | none => (0, 0, 0, false, false, false, true, q.2.bad, r.body, [], [])) := by
  apply Y.is
  refine Y.of (bus_Reader_flag.F_of _) ?_
  dsimp only [bus_Reader_flag.d, Rdr.feed]
  rw [if_pos rfl]
  obtain ⟨esc, skip, opn, bad, body⟩ := r
  by_cases c : body.length = 0 ∧ skip = false ∧ esc = false
  · obtain ⟨c1, rfl, rfl⟩ := c
    rw [if_pos ⟨c1, rfl, rfl⟩]
    exact Y.pos (by simp [List.eq_nil_of_length_eq_zero c1]) (Y.some rfl)
  · rw [if_neg c]
    refine Y.neg ?_ (Y.bE (parse_spec _) ?_)
    · cases skip <;> cases esc <;> simp_all
    by_cases c2 : skip = false ∧ esc = false ∧ (parse body).2.2.2.1 = 0
    · rw [if_pos c2]
      obtain ⟨rfl, rfl, c3⟩ := c2
      exact Y.neg (by simp [c3]) (Y.some rfl)
    · rw [if_neg c2]
      refine Y.pos ?_ (Y.some rfl)
      cases skip <;> cases esc <;> simp_all
theorem feed_spec (r : Rdr) (x : Int) (h : r.body.length ≤ 21) : bus_Reader_Feed.F (x, r.esc, r.skip, r.opn, r.bad, r.body) = some (feedR (r.feed x)) := by
  apply Y.is
  refine Y.of (bus_Reader_Feed.F_of _) ?_
  by_cases c : x = 126
  · subst c
    refine Y.pd rfl (Y.bE (flag_spec r) (Y.some ?_))
    have hq : (r.feed 126).2.esc = false ∧ (r.feed 126).2.skip = false ∧ (r.feed 126).2.opn = true ∧ (r.feed 126).2.body = [] := by
      unfold Rdr.feed
      rw [if_pos rfl]
      split
      · exact ⟨rfl, rfl, rfl, rfl⟩
      · split <;> exact ⟨rfl, rfl, rfl, rfl⟩
    unfold feedR
    dsimp only
    obtain ⟨q1, q2, q3, q4⟩ := hq
    cases hp : (r.feed 126).1 with
    | none => simp [q1, q2, q3, q4]
    | some p => simp [q1, q2, q3, q4]
  · refine Y.nd c ?_
    unfold Rdr.feed
    rw [if_neg c]
    obtain ⟨esc, skip, opn, bad, body⟩ := r
    by_cases c1 : skip = true ∨ opn = false
    · rw [if_pos c1]
      refine Y.pos ?_ (Y.of (bus_Reader_Feed.D0_of _) (Y.some rfl))
      rcases c1 with rfl | rfl <;> simp
    · rw [if_neg c1]
      refine Y.neg ?_ ?_
      · cases skip <;> cases opn <;> simp_all
      cases esc with
      | true =>
        refine Y.pos rfl ?_
        rw [if_pos rfl]
        by_cases c2 : bXor .u8 x 32 = 126 ∨ bXor .u8 x 32 = 125
        · rw [if_pos c2]
          exact Y.pos (by simpa using c2) (Y.bE (put_spec ⟨false, skip, opn, bad, body⟩ _ h) (Y.of (bus_Reader_Feed.D1_of _) (Y.some rfl)))
        · rw [if_neg c2]
          exact Y.neg (by simpa using c2) (Y.of (bus_Reader_Feed.D0_of _) (Y.some rfl))
      | false =>
        refine Y.neg rfl ?_
        rw [if_neg Bool.false_ne_true]
        by_cases c2 : x = 125
        · rw [if_pos c2]
          exact Y.pd c2 (Y.of (bus_Reader_Feed.D0_of _) (Y.some rfl))
        · rw [if_neg c2]
          exact Y.nd c2 (Y.bE (put_spec ⟨false, skip, opn, bad, body⟩ _ h) (Y.of (bus_Reader_Feed.D1_of _) (Y.some rfl)))
theorem feed_len (r : Rdr) (x : Int) (h : r.body.length ≤ 21) : (r.feed x).2.body.length ≤ 21 := by
  have hput : ∀ (q : Rdr) y, q.body.length ≤ 21 → (q.put y).body.length ≤ 21 := by
    intro q y hq
    unfold Rdr.put
    split
    · exact hq
    · simp only [List.length_append, List.length_cons, List.length_nil]
      omega
  unfold Rdr.feed
  split
  · split
    · simp
    · split <;> simp
  · split
    · exact h
    · split
      · split
        · exact hput _ _ h
        · exact h
      · split
        · exact h
        · exact hput _ _ h

/-- A stream is taken: the packets, and the reader. -/
def decode : List Int → Rdr → List Pk → Rdr × List Pk
  | [], r, o => (r, o)
  | x :: l, r, o => decode l (r.feed x).2 (o ++ (r.feed x).1.toList)
theorem decode_append (l m : List Int) : ∀ (r : Rdr) (o : List Pk), decode (l ++ m) r o = decode m (decode l r o).1 (decode l r o).2 := by
  induction l with
  | nil => intro r o; rfl
  | cons x l ih => intro r o; exact ih _ _
theorem decode_more (l : List Int) : ∀ (r : Rdr) (o : List Pk), o.length ≤ (decode l r o).2.length := by
  induction l with
  | nil => intro r o; exact Nat.le_refl _
  | cons x l ih => intro r o; exact Nat.le_trans (by simp) (ih _ _)
theorem decode_loop (l : List Int) (hl : l.length ≤ 1125899906842624) (n : Nat) : ∀ (i : Nat) (r : Rdr) (o : List Pk), i + n = l.length → r.body.length ≤ 21 → (decode (l.drop i) r o).2.length ≤ 1048576 →
    Y (bus_Decode.D0 (l, (l.length : Int), (i : Int), r.esc, r.skip, r.opn, r.bad, o, r.body)) (fun q => q = ((decode (l.drop i) r o).1.bad, (decode (l.drop i) r o).2)) := by
  induction n with
  | zero =>
    intro i r o h hb ho
    refine Y.of (bus_Decode.D0_of _) (Y.nd (by omega) (Y.some ?_))
    rw [List.drop_of_length_le (by omega)]
    rfl
  | succ n ih =>
    intro i r o h hb ho
    have e := rd_drop (t := .int .u8) l i (by omega)
    refine Y.of (bus_Decode.D0_of _) (Y.pd (by omega) (Y.pd (by omega) (Y.bE (feed_spec r _ hb) ?_)))
    have hd : decode (l.drop i) r o = decode (l.drop (i + 1)) (r.feed (rd (.int .u8) l (i : Int))).2 (o ++ (r.feed (rd (.int .u8) l (i : Int))).1.toList) := by rw [e]; rfl
    rw [hd] at ho ⊢
    have hlen := feed_len r (rd (.int .u8) l (i : Int)) hb
    generalize r.feed (rd (.int .u8) l (i : Int)) = q at *
    obtain ⟨p, r'⟩ := q
    cases p with
    | none =>
      refine Y.neg rfl (Y.of (bus_Decode.D1_of _) ?_)
      dsimp only [bus_Decode.d1, feedR]
      rw [w64 (x := (i : Int) + 1) (by omega) (by omega)]
      have := ih (i + 1) r' o (by omega) hlen (by simpa using ho)
      simpa using this
    | some p =>
      have hm := decode_more (l.drop (i + 1)) r' (o ++ [p])
      simp only [Option.toList_some, List.length_append, List.length_cons, List.length_nil] at ho hm
      refine Y.pos rfl (Y.pd (by simp; omega) (Y.of (bus_Decode.D1_of _) ?_))
      dsimp only [bus_Decode.d1, feedR]
      rw [w64 (x := (i : Int) + 1) (by omega) (by omega)]
      exact ih (i + 1) r' (o ++ [p]) (by omega) hlen ho
def rdr0 : Rdr := ⟨false, false, false, 0, []⟩
theorem decode_spec (l : List Int) (hl : l.length ≤ 1125899906842624) (h : (decode l rdr0 []).2.length ≤ 1048576) : bus_Decode.F l = some ((decode l rdr0 []).1.bad, (decode l rdr0 []).2) := by
  apply Y.is
  exact Y.of (bus_Decode.F_of _) (decode_loop l hl l.length 0 rdr0 [] (by omega) (by decide) h)

/-- Bytes of a body, as they are sent, are taken into an open reader. -/
theorem decode_stf (x : Int) (hx : 0 ≤ x ∧ x < 256) (bad : Int) (acc : List Int) (o : List Pk) (h : acc.length < 21) : decode (stf x) ⟨false, false, true, bad, acc⟩ o = (⟨false, false, true, bad, acc ++ [x]⟩, o) := by
  have hne : acc.length ≠ 21 := by omega
  unfold stf
  by_cases c : x = 126 ∨ x = 125
  · rw [if_pos c]
    rcases c with rfl | rfl
    · simp [decode, Rdr.feed, Rdr.put, hne, show bXor .u8 126 32 = 94 by decide, show bXor .u8 94 32 = 126 by decide]
    · simp [decode, Rdr.feed, Rdr.put, hne, show bXor .u8 125 32 = 93 by decide, show bXor .u8 93 32 = 125 by decide]
  · rw [if_neg c]
    have c1 : ¬ x = 126 := fun h => c (.inl h)
    have c2 : ¬ x = 125 := fun h => c (.inr h)
    simp [decode, Rdr.feed, Rdr.put, hne, c1, c2]
theorem decode_stfs (b : List Int) : ∀ (bad : Int) (acc : List Int) (o : List Pk), (∀ x ∈ b, 0 ≤ x ∧ x < 256) → acc.length + b.length ≤ 21 → decode (stfs b) ⟨false, false, true, bad, acc⟩ o = (⟨false, false, true, bad, acc ++ b⟩, o) := by
  induction b with
  | nil => intro bad acc o _ _; simp [stfs, decode]
  | cons x b ih =>
    intro bad acc o hx h
    simp only [List.length_cons] at h
    simp only [stfs]
    rw [decode_append, decode_stf x (hx x List.mem_cons_self) bad acc o (by omega)]
    rw [ih bad (acc ++ [x]) o (fun y hy => hx y (List.mem_cons_of_mem _ hy)) (by simp; omega), List.append_assoc]
    rfl
/-- A reader that takes a flag. -/
def Rdr.clean (r : Rdr) : Bool := !r.skip && !r.esc && r.body.isEmpty
theorem feed_clean (r : Rdr) (h : r.clean = true) : r.feed 126 = (none, ⟨false, false, true, r.bad, []⟩) := by
  unfold Rdr.clean at h
  simp only [Bool.and_eq_true, Bool.not_eq_true', List.isEmpty_iff] at h
  obtain ⟨⟨h1, h2⟩, h3⟩ := h
  unfold Rdr.feed
  rw [if_pos rfl, if_pos ⟨by rw [h3]; rfl, h1, h2⟩]
/-- Whatever was taken, a flag opens anew. -/
theorem feed_flag (r : Rdr) : ∃ bad, (r.feed 126).2 = ⟨false, false, true, bad, []⟩ := by
  unfold Rdr.feed
  rw [if_pos rfl]
  split
  · exact ⟨_, rfl⟩
  · split <;> exact ⟨_, rfl⟩
theorem decode_frame (b : List Int) (bad : Int) (o : List Pk) (hx : ∀ x ∈ b, 0 ≤ x ∧ x < 256) (h : b.length ≤ 21) (r : Rdr) (hr : (r.feed 126) = (none, ⟨false, false, true, bad, []⟩)) :
    decode (frame b) r o = (((⟨false, false, true, bad, b⟩ : Rdr).feed 126).2, o ++ ((⟨false, false, true, bad, b⟩ : Rdr).feed 126).1.toList) := by
  unfold frame
  rw [decode_append, decode_append]
  have e1 : decode [126] r o = (⟨false, false, true, bad, []⟩, o) := by
    simp [decode, hr]
  rw [e1]
  dsimp only
  rw [decode_stfs b bad [] o hx (by simpa using h)]
  simp [decode]
theorem feed_body (a b s : Int) (d : List Int) (hp : PkOk a b s d) (bad : Int) : (⟨false, false, true, bad, bodyOf a b s d⟩ : Rdr).feed 126 = (some (a, b, s, d), ⟨false, false, true, bad, []⟩) := by
  have hl := bodyOf_len a b s d
  have hpb := parse_body a b s d hp
  unfold Rdr.feed
  rw [if_pos rfl, if_neg (by dsimp only; omega), hpb, if_pos ⟨rfl, rfl, rfl⟩]
theorem decode_packet (a b s : Int) (d : List Int) (hp : PkOk a b s d) (o : List Pk) (r : Rdr) (hr : r.clean = true) :
    decode (frame (bodyOf a b s d)) r o = (⟨false, false, true, r.bad, []⟩, o ++ [(a, b, s, d)]) := by
  have hl := bodyOf_len a b s d
  have := hp.n
  rw [decode_frame _ r.bad o (bodyOf_byte a b s d hp.by0) (by omega) r (feed_clean r hr), feed_body a b s d hp]
  rfl
/-- What is no flag is passed over until the first flag. -/
theorem decode_junk (l : List Int) : ∀ (r : Rdr) (o : List Pk), r.opn = false → (∀ x ∈ l, x ≠ 126) → decode l r o = (r, o) := by
  induction l with
  | nil => intro r o _ _; rfl
  | cons x l ih =>
    intro r o hr h
    have : r.feed x = (none, r) := by
      unfold Rdr.feed
      rw [if_neg (h x List.mem_cons_self), if_pos (.inr hr)]
    simp only [decode, this, Option.toList_none, List.append_nil]
    exact ih r o hr fun y hy => h y (List.mem_cons_of_mem _ hy)

end Go.Proofs.RBus
namespace Go.Proofs.RBus
open Go Go.Eng

theorem carries_spec : spykeep2_carries.F () = some true := by
  have hp : PkOk 1 2 3 [] := ⟨by decide, by decide, by decide, by decide, by decide, by decide, by decide, by simp⟩
  have hl : (frame (bodyOf 1 2 3 [])).length = 7 := by decide +kernel
  have hd := decode_packet 1 2 3 [] hp [] rdr0 rfl
  apply Y.is
  refine Y.of (spykeep2_carries.F_of _) (Y.bE (encode_spec 1 2 3 [] hp) (Y.bE (decode_spec _ (by dsimp only; omega) (by dsimp only; rw [hd]; decide)) ?_))
  dsimp only
  rw [hd, hl]
  exact Y.pos rfl (Y.some rfl)

abbrev PkT : Ty := .pair (.int .i64) (.pair (.int .i64) (.pair (.int .i64) (.slice (.int .u8))))
theorem same_spec (p : Pk) : spykeep2_samePacket.F (p.1, p.2.1, p.2.2.1, p.2.2.2, p.1, p.2.1, p.2.2.1, p.2.2.2) = some true := by
  apply Y.is
  exact Y.of (spykeep2_samePacket.F_of _) (Y.some (by simp))
theorem equal_loop (l : List Pk) (hl : l.length ≤ 1099511627776) (n : Nat) : ∀ i : Nat, i + n = l.length → Y (slices_EqualFunc_Packet.D0 (l, l, (l.length : Int), (i : Int))) (fun r => r = true) := by
  induction n with
  | zero =>
    intro i h
    exact Y.of (slices_EqualFunc_Packet.D0_of _) (Y.nd (by omega) (Y.some rfl))
  | succ n ih =>
    intro i h
    refine Y.of (slices_EqualFunc_Packet.D0_of _) (Y.pd (by omega) (Y.pd (by omega) (Y.pd (by omega) (Y.bE (same_spec _) (Y.neg rfl ?_)))))
    rw [w64 (x := (i : Int) + 1) (by omega) (by omega)]
    exact ih (i + 1) (by omega)
theorem equal_spec (l : List Pk) (hl : l.length ≤ 1099511627776) : slices_EqualFunc_Packet.F (l, l) = some true := by
  apply Y.is
  exact Y.of (slices_EqualFunc_Packet.F_of _) (Y.np rfl (equal_loop l hl l.length 0 (by omega)))

theorem packet_loop (L : List Int) (m : Int) (hm : m ≤ 16) (x y z a b s : Int) (u : List Int) (n : Nat) : ∀ (i at_ : Int) (d : List Int), 0 ≤ i → m - i = n → 0 ≤ at_ → at_ ≤ 4611686018427387 + 2 * i → (d.length : Int) = i → (∀ x ∈ d, 0 ≤ x ∧ x < 256) →
    Y (spykeep2_packet.D0 (m, i, L, at_, x, y, z, a, b, s, u, d)) (fun r => ∃ d', r = (a, b, s, L, at_ + 2 * n, d') ∧ (d'.length : Int) = m ∧ (∀ x ∈ d', 0 ≤ x ∧ x < 256)) := by
  induction n with
  | zero =>
    intro i at_ d hi hn ha hb hd hx
    exact Y.of (spykeep2_packet.D0_of _) (Y.nd (by omega) (Y.some ⟨d, by simp, by omega, hx⟩))
  | succ n ih =>
    intro i at_ d hi hn ha hb hd hx
    refine Y.of (spykeep2_packet.D0_of _) (Y.pd (by omega) ?_)
    refine Y.next L at_ 256 ha (by omega) (by omega) (by omega) (fun r hr0 hr1 => ?_)
    refine Y.next L (at_ + 1) 5 (by omega) (by omega) (by omega) (by omega) (fun q hq0 hq1 => ?_)
    dsimp only
    refine Y.pd ⟨hq0, by simp; omega⟩ (Y.pd (by simp; omega) ?_)
    rw [w64 (x := i + 1) (by omega) (by omega)]
    have hrd : 0 ≤ rd (.int .u8) [126, 125, 94, 93, wrap .u8 r] q ∧ rd (.int .u8) [126, 125, 94, 93, wrap .u8 r] q < 256 := by
      have hc : q = 0 ∨ q = 1 ∨ q = 2 ∨ q = 3 ∨ q = 4 := by omega
      rcases hc with rfl | rfl | rfl | rfl | rfl
      · show (0 : Int) ≤ 126 ∧ (126 : Int) < 256
        omega
      · show (0 : Int) ≤ 125 ∧ (125 : Int) < 256
        omega
      · show (0 : Int) ≤ 94 ∧ (94 : Int) < 256
        omega
      · show (0 : Int) ≤ 93 ∧ (93 : Int) < 256
        omega
      · show 0 ≤ wrap .u8 r ∧ wrap .u8 r < 256
        rw [wr_u8]
        omega
    refine (ih (i + 1) (at_ + 1 + 1) (d ++ [rd (.int .u8) [126, 125, 94, 93, wrap .u8 r] q]) (by omega) (by omega) (by omega) (by omega) (by simp; omega) (fun x hx' => ?_)).mono (fun r' h => ?_)
    · simp only [List.mem_append, List.mem_singleton] at hx'
      rcases hx' with hx' | rfl
      · exact hx x hx'
      · exact hrd
    · obtain ⟨d', rfl, u4, u5⟩ := h
      exact ⟨d', by rw [show at_ + 1 + 1 + 2 * (n : Int) = at_ + 2 * ((n + 1 : Nat) : Int) by omega], u4, u5⟩
theorem packet_draw (L : List Int) (at_ : Int) (ha : 0 ≤ at_) (hb : at_ ≤ 461168601842738) :
    Y (spykeep2_packet.F (L, at_)) (fun r => ∃ a b s d at', r = (a, b, s, L, at', d) ∧ PkOk a b s d ∧ at_ ≤ at' ∧ at' ≤ at_ + 40) := by
  refine Y.of (spykeep2_packet.F_of _) ?_
  refine Y.next L at_ 16 ha (by omega) (by omega) (by omega) (fun a a0 a1 => ?_)
  refine Y.next L (at_ + 1) 16 (by omega) (by omega) (by omega) (by omega) (fun b b0 b1 => ?_)
  refine Y.next L (at_ + 1 + 1) 65536 (by omega) (by omega) (by omega) (by omega) (fun s s0 s1 => ?_)
  refine Y.next L (at_ + 1 + 1 + 1) 17 (by omega) (by omega) (by omega) (by omega) (fun m m0 m1 => ?_)
  dsimp only
  obtain ⟨n, hn⟩ : ∃ n : Nat, m = n := ⟨m.toNat, by omega⟩
  refine (packet_loop L m (by omega) 0 0 0 a b s [] n 0 _ [] (by omega) (by omega) (by omega) (by omega) (by simp) (by simp)).mono (fun r h => ?_)
  obtain ⟨d', rfl, u4, u5⟩ := h
  exact ⟨a, b, s, d', _, rfl, ⟨by omega, by omega, by omega, by omega, by omega, by omega, by omega, u5⟩, by omega, by omega⟩
end Go.Proofs.RBus
namespace Go.Proofs.RBus
open Go Go.Eng

theorem grow_spec (n : Int) (h0 : 0 ≤ n) (h1 : n ≤ 1048576) : slices_Grow_byte.F n = some [] := by
  apply Y.is
  refine Y.of (slices_Grow_byte.F_of _) (Y.nd (show ¬ n < 0 by omega) ?_)
  have e : wrap .i64 (n - wrap .i64 ((0 : Int) - 0)) = n := by
    rw [show wrap .i64 ((0 : Int) - 0) = 0 from by decide, Int.sub_zero]
    exact w64 (by omega) (by omega)
  refine Y.ite (fun c => ?_) (fun c => ?_)
  · refine Y.pd (by omega) (Y.pd ?_ (Y.pd ?_ (Y.of (slices_Grow_byte.D0_of _) (Y.some ?_))))
    · rw [e]
      omega
    · omega
    · rfl
  · exact Y.of (slices_Grow_byte.D0_of _) (Y.some rfl)
def total (ls : List (List Int)) : Nat := (ls.map List.length).sum
theorem total_drop (ls : List (List Int)) (i : Nat) (h : i < ls.length) : total (ls.drop i) = (rd (.slice (.int .u8)) ls (i : Int)).length + total (ls.drop (i + 1)) := by
  rw [rd_drop (t := .slice (.int .u8)) ls i h]
  simp [total]
theorem concat_tail (ls : List (List Int)) (hn : ls.length ≤ 1000) (n : Nat) : ∀ (i : Nat) (acc : List Int), i + n = ls.length → acc.length + total (ls.drop i) ≤ 1048576 →
    Y (slices_Concat_byte.D1 (ls, (ls.length : Int), (i : Int), acc)) (fun r => r = acc ++ (ls.drop i).flatten) := by
  induction n with
  | zero =>
    intro i acc h ht
    refine Y.of (slices_Concat_byte.D1_of _) (Y.nd (by omega) (Y.some ?_))
    rw [List.drop_of_length_le (by omega)]
    simp
  | succ n ih =>
    intro i acc h ht
    have e := rd_drop (t := .slice (.int .u8)) ls i (by omega)
    have et := total_drop ls i (by omega)
    refine Y.of (slices_Concat_byte.D1_of _) (Y.pd (by omega) (Y.pd (by omega) (Y.pd ?_ ?_)))
    · show acc.length + (rd (.slice (.int .u8)) ls (i : Int)).length ≤ _
      omega
    · rw [w64 (x := (i : Int) + 1) (by omega) (by omega)]
      refine (ih (i + 1) _ (by omega) ?_).mono (fun r hr => ?_)
      · rw [List.length_append]
        show acc.length + (rd (.slice (.int .u8)) ls (i : Int)).length + _ ≤ _
        omega
      · rw [hr, e, List.flatten_cons, List.append_assoc]
theorem concat_loop (ls : List (List Int)) (hn : ls.length ≤ 1000) (ht : total ls ≤ 1048576) (n : Nat) : ∀ (i : Nat) (c : Int), i + n = ls.length → 0 ≤ c → c + total (ls.drop i) ≤ 1048576 →
    Y (slices_Concat_byte.D0 (ls, c, ls, (ls.length : Int), (i : Int))) (fun r => r = ls.flatten) := by
  induction n with
  | zero =>
    intro i c h hc hl
    refine Y.of (slices_Concat_byte.D0_of _) (Y.nd (by omega) (Y.bE (grow_spec c hc (by omega)) ?_))
    refine (concat_tail ls hn ls.length 0 [] (by omega) (by simpa using ht)).mono (fun r hr => ?_)
    rw [hr]
    simp
  | succ n ih =>
    intro i c h hc hl
    have et := total_drop ls i (by omega)
    have e : wrap .i64 (c + ((rd (.slice (.int .u8)) ls (i : Int)).length : Int)) = c + ((rd (.slice (.int .u8)) ls (i : Int)).length : Int) := w64 (by omega) (by omega)
    refine Y.of (slices_Concat_byte.D0_of _) (Y.pd (by omega) (Y.pd (by omega) (Y.nd ?_ ?_)))
    · show ¬ wrap .i64 (c + ((rd (.slice (.int .u8)) ls (i : Int)).length : Int)) < 0
      rw [e]
      omega
    · have := ih (i + 1) (c + ((rd (.slice (.int .u8)) ls (i : Int)).length : Int)) (by omega) (by omega) (by omega)
      rw [← e] at this
      rw [w64 (x := (i : Int) + 1) (by omega) (by omega)]
      exact this
theorem concat_spec (ls : List (List Int)) (hn : ls.length ≤ 1000) (ht : total ls ≤ 1048576) : slices_Concat_byte.F ls = some ls.flatten := by
  apply Y.is
  exact Y.of (slices_Concat_byte.F_of _) (concat_loop ls hn ht ls.length 0 0 (by omega) (by omega) (by rw [List.drop_zero]; omega))

theorem decode_le (l : List Int) : ∀ (r : Rdr) (o : List Pk), (decode l r o).2.length ≤ o.length + l.length := by
  induction l with
  | nil => intro r o; simp [decode]
  | cons x l ih =>
    intro r o
    have := ih (r.feed x).2 (o ++ (r.feed x).1.toList)
    have h1 : (o ++ (r.feed x).1.toList).length ≤ o.length + 1 := by
      cases (r.feed x).1 <;> simp
    simp only [decode, List.length_cons]
    omega
theorem frame_len' (b : List Int) : b.length + 2 ≤ (frame b).length ∧ (frame b).length ≤ 2 * b.length + 2 := by
  have := stfs_len b
  unfold frame
  simp
  omega
/-- Whatever was taken before, the last packet is found. -/
theorem decode_last (a b s : Int) (d : List Int) (hp : PkOk a b s d) (r : Rdr) (o : List Pk) : ∃ o', (decode (frame (bodyOf a b s d)) r o).2 = o' ++ [(a, b, s, d)] := by
  obtain ⟨bad, hb⟩ := feed_flag r
  have hl := bodyOf_len a b s d
  have := hp.n
  unfold frame
  rw [decode_append, decode_append]
  have e1 : decode [126] r o = (⟨false, false, true, bad, []⟩, o ++ (r.feed 126).1.toList) := by
    simp [decode, hb]
  rw [e1]
  dsimp only
  rw [decode_stfs (bodyOf a b s d) bad [] _ (bodyOf_byte a b s d hp.by0) (by simp; omega)]
  refine ⟨o ++ (r.feed 126).1.toList, ?_⟩
  simp only [List.nil_append, decode, feed_body a b s d hp bad, Option.toList_some]

theorem busCut (L : List Int) (cut : Int) : spykeep2_BusCut.F (L, cut) = some true := by
  apply Y.is
  refine Y.of (spykeep2_BusCut.F_of _) (Y.bE carries_spec (Y.neg rfl ?_))
  refine Y.bnd _ (packet_draw L 0 (by omega) (by omega)) ?_
  rintro _ ⟨a, b, s, d, at1, rfl, hP, h1, h2⟩
  refine Y.bnd _ (packet_draw L at1 (by omega) (by omega)) ?_
  rintro _ ⟨a', b', s', d', at2, rfl, hQ, h3, h4⟩
  refine Y.bE (encode_spec a b s d hP) (Y.bE (encode_spec a' b' s' d' hQ) ?_)
  have l1 := bodyOf_len a b s d
  have l2 := bodyOf_len a' b' s' d'
  have n1 := hP.n
  have n2 := hQ.n
  obtain ⟨f1, f2⟩ := frame_len' (bodyOf a b s d)
  obtain ⟨f3, f4⟩ := frame_len' (bodyOf a' b' s' d')
  dsimp only
  refine Y.neg (by simp; omega) ?_
  rw [w64 (x := ((frame (bodyOf a b s d)).length : Int) - 3) (by omega) (by omega)]
  refine Y.bE (below_spec cut _ (by omega) (by omega)) ?_
  obtain ⟨g1, g2⟩ := below_range cut (((frame (bodyOf a b s d)).length : Int) - 3) (by omega)
  generalize cut % (((frame (bodyOf a b s d)).length : Int) - 3) = m at *
  rw [w64 (x := 2 + m) (by omega) (by omega)]
  refine Y.pd (by omega) (Y.bE (concat_spec _ (by simp) (by simp only [total, List.map_cons, List.map_nil, List.sum_cons, List.sum_nil, List.length_drop, List.length_take]; omega)) ?_)
  have hlast : ∃ o', (decode (((frame (bodyOf a b s d)).take (2 + m).toNat).drop (Int.toNat 0) ++ (frame (bodyOf a' b' s' d') ++ [])) rdr0 []).2 = o' ++ [(a', b', s', d')] := by
    rw [decode_append, List.append_nil]
    exact decode_last a' b' s' d' hQ _ _
  have hlen : (((frame (bodyOf a b s d)).take (2 + m).toNat).drop (Int.toNat 0) ++ (frame (bodyOf a' b' s' d') ++ [])).length ≤ 1000 := by
    simp only [List.length_append, List.length_drop, List.length_take, List.length_nil]
    omega
  have hle := decode_le (((frame (bodyOf a b s d)).take (2 + m).toNat).drop (Int.toNat 0) ++ (frame (bodyOf a' b' s' d') ++ [])) rdr0 []
  have ef : [((frame (bodyOf a b s d)).take (2 + m).toNat).drop (Int.toNat 0), frame (bodyOf a' b' s' d')].flatten = ((frame (bodyOf a b s d)).take (2 + m).toNat).drop (Int.toNat 0) ++ (frame (bodyOf a' b' s' d') ++ []) := rfl
  rw [ef]
  generalize ((frame (bodyOf a b s d)).take (2 + m).toNat).drop (Int.toNat 0) ++ (frame (bodyOf a' b' s' d') ++ []) = st at *
  obtain ⟨o', ho⟩ := hlast
  refine Y.bE (decode_spec st (by omega) (by simp only [List.length_nil] at hle; omega)) ?_
  dsimp only
  simp only [List.length_nil, Nat.zero_add] at hle
  rw [ho] at hle ⊢
  simp only [List.length_append, List.length_cons, List.length_nil] at hle
  have hL : ((o' ++ [(a', b', s', d')]).length : Int) = o'.length + 1 := by simp
  rw [hL, w64 (x := (o'.length : Int) + 1 - 1) (by omega) (by omega)]
  have hr : rd (.pair (.int .i64) (.pair (.int .i64) (.pair (.int .i64) (.slice (.int .u8))))) (o' ++ [(a', b', s', d')]) ((o'.length : Int) + 1 - 1) = (a', b', s', d') := by
    rw [show (o'.length : Int) + 1 - 1 = ((o'.length : Nat) : Int) by omega, rd_nat _ _ (by simp)]
    simp
  rw [hr]
  have hpos : decide (0 < (o'.length : Int) + 1) = true := decide_eq_true (by omega)
  simp only [hpos]
  refine Y.pos ?_ (Y.pos rfl (Y.pos rfl (Y.pos rfl (Y.bE (same_spec (a', b', s', d')) (Y.some rfl)))))
  simp only [Bool.or_eq_true, decide_eq_true_eq]
  right
  omega
end Go.Proofs.RBus
namespace Go.Proofs.RBus
open Go Go.Eng

/-- The check sum's step, over bits. -/
def stp (c : BitVec 16) : BitVec 16 := if c.msb then (c <<< 1) ^^^ 4129#16 else c <<< 1
def stps : Nat → BitVec 16 → BitVec 16
  | 0, c => c
  | n + 1, c => stps n (stp c)
theorem xor4 (a b p : BitVec 16) : a ^^^ p ^^^ (b ^^^ p) = a ^^^ b := by
  rw [BitVec.xor_assoc, BitVec.xor_comm b p, ← BitVec.xor_assoc p p b, BitVec.xor_self, BitVec.zero_xor]
theorem stp_xor (a b : BitVec 16) : stp (a ^^^ b) = stp a ^^^ stp b := by
  unfold stp
  rw [BitVec.msb_xor, BitVec.shiftLeft_xor_distrib]
  cases a.msb <;> cases b.msb
  · rfl
  · exact BitVec.xor_assoc _ _ _
  · show a <<< 1 ^^^ b <<< 1 ^^^ 4129#16 = a <<< 1 ^^^ 4129#16 ^^^ b <<< 1
    rw [BitVec.xor_assoc, BitVec.xor_assoc, BitVec.xor_comm (b <<< 1)]
  · exact (xor4 _ _ _).symm
theorem stps_xor (n : Nat) : ∀ a b : BitVec 16, stps n (a ^^^ b) = stps n a ^^^ stps n b := by
  induction n with
  | zero => intro a b; rfl
  | succ n ih => intro a b; simp only [stps, stp_xor, ih]
theorem stps_zero (n : Nat) : stps n 0#16 = 0#16 := by
  induction n with
  | zero => rfl
  | succ n ih => exact ih
theorem stps_add (m n : Nat) : ∀ c, stps (m + n) c = stps m (stps n c) := by
  induction n with
  | zero => intro c; rfl
  | succ n ih => intro c; exact ih _

/-- Whole numbers as bits. -/
theorem wrap_nat16 (n : Nat) (h : n < 65536) : IntKind.wrap .u16 (n : Int) = n := by
  show wrap .u16 (n : Int) = n
  rw [wr_u16]
  omega
theorem wrap_nat8 (n : Nat) (h : n < 256) : IntKind.wrap .u8 (n : Int) = n := by
  show wrap .u8 (n : Int) = n
  rw [wr_u8]
  omega
theorem ofInt_toNat (c : BitVec 16) : BitVec.ofInt 16 (c.toNat : Int) = c := by
  apply BitVec.eq_of_toNat_eq
  rw [BitVec.toNat_ofInt]
  have := c.isLt
  omega
theorem bXor16 (c d : BitVec 16) : bXor .u16 (c.toNat : Int) (d.toNat : Int) = ((c ^^^ d).toNat : Int) := by
  show IntKind.wrap .u16 ((BitVec.ofInt 16 (c.toNat : Int) ^^^ BitVec.ofInt 16 (d.toNat : Int)).toNat : Int) = _
  rw [ofInt_toNat, ofInt_toNat]
  exact wrap_nat16 _ (c ^^^ d).isLt
theorem shl16 (c : BitVec 16) : shl .u16 (c.toNat : Int) 1 = ((c <<< 1).toNat : Int) := by
  show wrap .u16 ((c.toNat : Int) * 2) = _
  rw [wr_u16, BitVec.toNat_shiftLeft]
  omega
theorem and16 (c : BitVec 16) : bAnd .u16 (c.toNat : Int) 32768 = 0 ↔ c.msb = false := by
  have e : bAnd .u16 (c.toNat : Int) 32768 = ((c &&& 32768#16).toNat : Int) := by
    show IntKind.wrap .u16 ((BitVec.ofInt 16 (c.toNat : Int) &&& BitVec.ofInt 16 32768).toNat : Int) = _
    rw [ofInt_toNat]
    exact wrap_nat16 _ (c &&& 32768#16).isLt
  rw [e, show (32768#16) = BitVec.twoPow 16 15 from by decide, BitVec.and_twoPow, BitVec.msb_eq_getLsbD_last]
  show _ ↔ c.getLsbD 15 = false
  cases c.getLsbD 15 <;> simp
theorem crcBit_bv (c : BitVec 16) : crcBit (c.toNat : Int) = ((stp c).toNat : Int) := by
  unfold crcBit stp
  rw [shl16]
  cases h : c.msb with
  | false => rw [if_pos ((and16 c).mpr h)]; rfl
  | true =>
    rw [if_neg fun h' => by rw [(and16 c).mp h'] at h; cases h]
    exact bXor16 (c <<< 1) 4129#16
theorem crcBits_bv (n : Nat) : ∀ c : BitVec 16, crcBits n (c.toNat : Int) = ((stps n c).toNat : Int) := by
  induction n with
  | zero => intro c; rfl
  | succ n ih => intro c; simp only [crcBits, stps, crcBit_bv, ih]
def bst (c : BitVec 16) (x : Int) : BitVec 16 := stps 8 (c ^^^ (BitVec.ofInt 16 x <<< 8))
def crcB (c : BitVec 16) (l : List Int) : BitVec 16 := l.foldl bst c
theorem crcByte_bv (c : BitVec 16) (x : Int) (h : 0 ≤ x ∧ x < 256) : crcByte (c.toNat : Int) x = ((bst c x).toNat : Int) := by
  have e : shl .u16 (wrap .u16 x) 8 = ((BitVec.ofInt 16 x <<< 8).toNat : Int) := by
    show wrap .u16 (wrap .u16 x * 256) = _
    rw [wr_u16, wr_u16, BitVec.toNat_shiftLeft, BitVec.toNat_ofInt]
    omega
  unfold crcByte bst
  rw [e, bXor16, crcBits_bv]
theorem crcB_bv (l : List Int) : ∀ c : BitVec 16, (∀ x ∈ l, 0 ≤ x ∧ x < 256) → l.foldl crcByte (c.toNat : Int) = ((crcB c l).toNat : Int) := by
  induction l with
  | nil => intro c _; rfl
  | cons x l ih =>
    intro c h
    simp only [List.foldl_cons, crcB]
    rw [crcByte_bv c x (h x List.mem_cons_self)]
    exact ih _ fun y hy => h y (List.mem_cons_of_mem _ hy)
theorem crc_bv (l : List Int) (h : ∀ x ∈ l, 0 ≤ x ∧ x < 256) : crc l = ((crcB 65535#16 l).toNat : Int) := crcB_bv l 65535#16 h
theorem bst_xor (c e : BitVec 16) (x : Int) : bst (c ^^^ e) x = bst c x ^^^ stps 8 e := by
  unfold bst
  rw [← stps_xor]
  congr 1
  rw [BitVec.xor_assoc, BitVec.xor_assoc, BitVec.xor_comm e]
theorem crcB_xor (l : List Int) : ∀ c e : BitVec 16, crcB (c ^^^ e) l = crcB c l ^^^ stps (8 * l.length) e := by
  induction l with
  | nil => intro c e; rfl
  | cons x l ih =>
    intro c e
    show crcB (bst (c ^^^ e) x) l = crcB (bst c x) l ^^^ _
    rw [bst_xor, ih, List.length_cons, Nat.mul_add, stps_add]
theorem bXor8 (x m : Int) (hx : 0 ≤ x ∧ x < 256) (hm : 0 ≤ m ∧ m < 256) : BitVec.ofInt 16 (bXor .u8 x m) = BitVec.ofInt 16 x ^^^ BitVec.ofInt 16 m ∧ 0 ≤ bXor .u8 x m ∧ bXor .u8 x m < 256 := by
  obtain ⟨a, rfl⟩ : ∃ a : Nat, x = a := ⟨x.toNat, by omega⟩
  obtain ⟨b, rfl⟩ : ∃ b : Nat, m = b := ⟨m.toNat, by omega⟩
  have hlt : a ^^^ b < 256 := Nat.xor_lt_two_pow (n := 8) (by omega) (by omega)
  have e : bXor .u8 (a : Int) (b : Int) = ((a ^^^ b : Nat) : Int) := by
    show IntKind.wrap .u8 ((BitVec.ofInt 8 (a : Int) ^^^ BitVec.ofInt 8 (b : Int)).toNat : Int) = _
    rw [BitVec.toNat_xor, BitVec.toNat_ofInt, BitVec.toNat_ofInt]
    have e1 : ((a : Int) % ((2 ^ 8 : Nat) : Int)).toNat = a := by omega
    have e2 : ((b : Int) % ((2 ^ 8 : Nat) : Int)).toNat = b := by omega
    rw [e1, e2]
    exact wrap_nat8 _ hlt
  refine ⟨?_, by omega, by omega⟩
  rw [e]
  apply BitVec.eq_of_toNat_eq
  rw [BitVec.toNat_xor, BitVec.toNat_ofInt, BitVec.toNat_ofInt, BitVec.toNat_ofInt]
  have e1 : ((a : Int) % ((2 ^ 16 : Nat) : Int)).toNat = a := by omega
  have e2 : ((b : Int) % ((2 ^ 16 : Nat) : Int)).toNat = b := by omega
  have e3 : (((a ^^^ b : Nat) : Int) % ((2 ^ 16 : Nat) : Int)).toNat = a ^^^ b := by omega
  rw [e1, e2, e3]
/-- A byte in which some bits are turned. -/
theorem crcB_set (l : List Int) : ∀ (k : Nat) (c : BitVec 16) (m : Int), (∀ x ∈ l, 0 ≤ x ∧ x < 256) → 0 ≤ m ∧ m < 256 → (h : k < l.length) →
    crcB c (l.set k (bXor .u8 l[k] m)) = crcB c l ^^^ stps (8 * (l.length - k)) (BitVec.ofInt 16 m <<< 8) := by
  induction l with
  | nil => intro k c m _ _ h; simp at h
  | cons x l ih =>
    intro k c m hb hm h
    cases k with
    | zero =>
      show crcB (bst c (bXor .u8 x m)) l = crcB (bst c x) l ^^^ _
      have e : bst c (bXor .u8 x m) = bst c x ^^^ stps 8 (BitVec.ofInt 16 m <<< 8) := by
        unfold bst
        rw [(bXor8 x m (hb x List.mem_cons_self) hm).1, BitVec.shiftLeft_xor_distrib, ← BitVec.xor_assoc, stps_xor]
      rw [e, crcB_xor, Nat.sub_zero, List.length_cons, Nat.mul_add, stps_add]
    | succ k =>
      have hk : k < l.length := by simpa using h
      show crcB (bst c x) (l.set k (bXor .u8 (l[k]'hk) m)) = crcB (bst c x) l ^^^ _
      rw [ih k _ m (fun y hy => hb y (List.mem_cons_of_mem _ hy)) hm (by simpa using h), List.length_cons]
      congr 2
      omega
/-- The trace of a single bit. -/
def pw (n : Nat) : BitVec 16 := stps n 1#16
theorem pw_shift : ∀ j : Fin 8, BitVec.ofInt 16 (shl .u8 1 (j.val : Int)) <<< 8 = pw (j.val + 8) := by decide +kernel
theorem shl8_lt : ∀ j : Fin 8, 0 ≤ shl .u8 1 (j.val : Int) ∧ shl .u8 1 (j.val : Int) < 256 := by decide +kernel

/-- A bit of a body is turned. -/
def flip (b : List Int) (i : Int) : List Int := if 0 ≤ i ∧ i < 8 * (b.length : Int) then b.set (i / 8).toNat (bXor .u8 (rd (.int .u8) b (i / 8)) (shl .u8 1 (i % 8))) else b
def flips (b : List Int) (l : List Int) : List Int := l.foldl flip b
theorem flip_len (b : List Int) (i : Int) : (flip b i).length = b.length := by
  unfold flip
  split <;> simp
theorem flips_len (l : List Int) : ∀ b : List Int, (flips b l).length = b.length := by
  induction l with
  | nil => intro b; rfl
  | cons i l ih => intro b; exact (ih _).trans (flip_len b i)
/-- How far a bit has to go. -/
def far (n : Nat) (i : Int) : Nat := 8 * (n - (i / 8).toNat) + (i % 8).toNat + 8
theorem flip_byte (b : List Int) (i : Int) (h : ∀ x ∈ b, 0 ≤ x ∧ x < 256) : ∀ x ∈ flip b i, 0 ≤ x ∧ x < 256 := by
  intro x hx
  unfold flip at hx
  split at hx
  · rename_i hi
    rcases List.mem_or_eq_of_mem_set hx with hx | rfl
    · exact h x hx
    · obtain ⟨j, hj⟩ : ∃ j : Fin 8, i % 8 = j.val := ⟨⟨(i % 8).toNat, by omega⟩, by show i % 8 = (((i % 8).toNat : Nat) : Int); omega⟩
      rw [hj]
      exact (bXor8 _ _ (h _ (rd_mem (t := .int .u8) b (i / 8) (by omega) (by omega))) (shl8_lt j)).2
  · exact h x hx
theorem crcB_flip (b : List Int) (i : Int) (c : BitVec 16) (h : ∀ x ∈ b, 0 ≤ x ∧ x < 256) (hi : 0 ≤ i ∧ i < 8 * (b.length : Int)) : crcB c (flip b i) = crcB c b ^^^ pw (far b.length i) := by
  unfold flip
  rw [if_pos hi]
  obtain ⟨j, hj⟩ : ∃ j : Fin 8, i % 8 = j.val := ⟨⟨(i % 8).toNat, by omega⟩, by show i % 8 = (((i % 8).toNat : Nat) : Int); omega⟩
  have hk : (i / 8).toNat < b.length := by omega
  have e := crcB_set b (i / 8).toNat c (shl .u8 1 (j.val : Int)) h (shl8_lt j) hk
  have er : rd (.int .u8) b (i / 8) = b[(i / 8).toNat] := by
    have := rd_nat (t := .int .u8) b _ hk
    rwa [show (((i / 8).toNat : Nat) : Int) = i / 8 by omega] at this
  rw [hj, er, e, pw_shift j]
  congr 1
  unfold pw far
  rw [← stps_add, hj]
  congr 1

/-- The trace of the bits of l, in a body of n bytes. -/
def trace (n : Nat) : List Int → BitVec 16
  | [] => 0#16
  | i :: l => pw (far n i) ^^^ trace n l
theorem crcB_flips (l : List Int) : ∀ (b : List Int) (c : BitVec 16), (∀ x ∈ b, 0 ≤ x ∧ x < 256) → (∀ i ∈ l, 0 ≤ i ∧ i < 8 * (b.length : Int)) → crcB c (flips b l) = crcB c b ^^^ trace b.length l := by
  induction l with
  | nil => intro b c _ _; exact (BitVec.xor_zero).symm
  | cons i l ih =>
    intro b c h hl
    show crcB c (flips (flip b i) l) = _
    rw [ih (flip b i) c (flip_byte b i h) (fun k hk => by rw [flip_len]; exact hl k (List.mem_cons_of_mem _ hk)), crcB_flip b i c h (hl i List.mem_cons_self), flip_len, BitVec.xor_assoc]
    rfl
theorem flips_byte (l : List Int) : ∀ (b : List Int), (∀ x ∈ b, 0 ≤ x ∧ x < 256) → ∀ x ∈ flips b l, 0 ≤ x ∧ x < 256 := by
  induction l with
  | nil => intro b h; exact h
  | cons i l ih => intro b h; exact ih _ (flip_byte b i h)

/-- The sum behind a body clears it. -/
theorem split16 (c : BitVec 16) : c ^^^ (BitVec.ofInt 16 (wrap .u8 (shr .u16 (c.toNat : Int) 8)) <<< 8) = BitVec.ofInt 16 (wrap .u8 (c.toNat : Int)) := by
  have h := c.isLt
  have e1 : shr .u16 (c.toNat : Int) 8 = ((c.toNat / 256 : Nat) : Int) := by
    rw [shr_eq]
    show Int.fdiv (c.toNat : Int) 256 = _
    rw [Int.fdiv_eq_ediv_of_nonneg _ (by decide)]
    rfl
  have e2 : BitVec.ofInt 16 (wrap .u8 (shr .u16 (c.toNat : Int) 8)) <<< 8 = (c >>> 8) <<< 8 := by
    congr 1
    apply BitVec.eq_of_toNat_eq
    rw [e1, wr_u8, BitVec.toNat_ofInt, BitVec.toNat_ushiftRight, Nat.shiftRight_eq_div_pow]
    omega
  rw [e2]
  apply BitVec.eq_of_toNat_eq
  have e3 : ((c >>> 8) <<< 8).toNat = c.toNat / 256 * 256 := by
    rw [BitVec.toNat_shiftLeft, BitVec.toNat_ushiftRight, Nat.shiftRight_eq_div_pow, Nat.shiftLeft_eq]
    omega
  rw [BitVec.toNat_xor, e3, BitVec.toNat_ofInt, wr_u8]
  have e4 : c.toNat = 2 ^ 8 * (c.toNat / 256) + c.toNat % 256 := by omega
  have e5 : c.toNat ^^^ (c.toNat / 256 * 256) = c.toNat % 256 := by
    apply Nat.eq_of_testBit_eq
    intro i
    rw [Nat.testBit_xor]
    have f1 : (c.toNat / 256 * 256).testBit i = (decide (8 ≤ i) && c.toNat.testBit i) := by
      rw [show c.toNat / 256 * 256 = (c.toNat >>> 8) <<< 8 by rw [Nat.shiftRight_eq_div_pow, Nat.shiftLeft_eq], Nat.testBit_shiftLeft, Nat.testBit_shiftRight]
      by_cases h8 : 8 ≤ i
      · rw [show 8 + (i - 8) = i by omega]
      · simp [h8]
    have f2 : (c.toNat % 256).testBit i = (decide (i < 8) && c.toNat.testBit i) := Nat.testBit_mod_two_pow c.toNat 8 i
    rw [f1, f2]
    by_cases h8 : 8 ≤ i
    · simp [h8, show ¬ i < 8 by omega]
    · simp [h8, show i < 8 by omega]
  rw [e5]
  omega
theorem stps8_low : ∀ x : Fin 256, stps 8 (BitVec.ofInt 16 (x.val : Int)) = BitVec.ofInt 16 (x.val : Int) <<< 8 := by decide +kernel
theorem crcB_clear (h : List Int) : crcB 65535#16 (h ++ [wrap .u8 (shr .u16 ((crcB 65535#16 h).toNat : Int) 8), wrap .u8 ((crcB 65535#16 h).toNat : Int)]) = 0#16 := by
  generalize hc : crcB 65535#16 h = c
  have e : crcB 65535#16 (h ++ [wrap .u8 (shr .u16 (c.toNat : Int) 8), wrap .u8 (c.toNat : Int)]) = bst (bst c (wrap .u8 (shr .u16 (c.toNat : Int) 8))) (wrap .u8 (c.toNat : Int)) := by
    unfold crcB
    rw [List.foldl_append]
    show bst (bst (crcB 65535#16 h) _) _ = _
    rw [hc]
  rw [e]
  have hx : ∃ x : Fin 256, wrap .u8 (c.toNat : Int) = x.val := ⟨⟨c.toNat % 256, by omega⟩, by rw [wr_u8]; show _ = ((c.toNat % 256 : Nat) : Int); omega⟩
  unfold bst
  rw [split16]
  obtain ⟨x, hx⟩ := hx
  rw [hx, stps8_low x, BitVec.xor_self]
  exact stps_zero 8

/-- Bits set, counted by twos. -/
def par (n : Nat) : Bool := (List.range 16).foldl (fun p i => p ^^ n.testBit i) false
theorem fold_xor (l : List Nat) (f g : Nat → Bool) : ∀ p q : Bool, l.foldl (fun a i => a ^^ (f i ^^ g i)) (p ^^ q) = (l.foldl (fun a i => a ^^ f i) p ^^ l.foldl (fun a i => a ^^ g i) q) := by
  induction l with
  | nil => intro p q; rfl
  | cons i l ih =>
    intro p q
    simp only [List.foldl_cons]
    rw [← ih]
    congr 1
    cases p <;> cases q <;> cases f i <;> cases g i <;> rfl
theorem par_xor (a b : Nat) : par (a ^^^ b) = (par a ^^ par b) := by
  unfold par
  rw [← fold_xor]
  simp only [Nat.testBit_xor, Bool.false_xor]
def pws : List Nat := (List.range 184).map fun n => (pw n).toNat
theorem pws_odd : ∀ n : Fin 184, par (pw n.val).toNat = true := by decide +kernel
theorem pws_ne : (List.range 184).all (fun a => (List.range a).all fun b => !Nat.beq (pws.getD a 0) (pws.getD b 0)) = true := by decide +kernel
theorem pw_ne (a b : Nat) (ha : a < 184) (h : b < a) : pw a ≠ pw b := by
  intro e
  have h1 := List.all_eq_true.mp pws_ne a (List.mem_range.mpr ha)
  have h2 := List.all_eq_true.mp h1 b (List.mem_range.mpr h)
  have ga : ∀ n, n < 184 → pws.getD n 0 = (pw n).toNat := by
    intro n hn
    unfold pws
    rw [List.getD_eq_getElem?_getD, List.getElem?_map, List.getElem?_range hn]
    rfl
  rw [ga a ha, ga b (by omega), e] at h2
  simp at h2
/-- One to three bits leave a trace. -/
theorem trace_ne (n : Nat) (hn : n ≤ 21) (l : List Int) (h0 : l ≠ []) (h3 : l.length ≤ 3) (hd : l.Nodup) (hl : ∀ i ∈ l, 0 ≤ i ∧ i < 8 * (n : Int)) : trace n l ≠ 0#16 := by
  have hf : ∀ i ∈ l, far n i < 184 := by
    intro i hi
    have := hl i hi
    unfold far
    omega
  have odd : ∀ i ∈ l, par (pw (far n i)).toNat = true := fun i hi => pws_odd ⟨far n i, hf i hi⟩
  have ne : ∀ i ∈ l, ∀ j ∈ l, i ≠ j → pw (far n i) ≠ pw (far n j) := by
    intro i hi j hj hij
    have a := hl i hi
    have b := hl j hj
    have hne : far n i ≠ far n j := by
      intro e
      apply hij
      unfold far at e
      omega
    rcases Nat.lt_or_gt_of_ne hne with hlt | hgt
    · exact (pw_ne _ _ (hf j hj) hlt).symm
    · exact pw_ne _ _ (hf i hi) hgt
  match l, h0, h3, hd, odd, ne with
  | [i], _, _, _, odd, _ =>
    intro e
    have h1 : trace n [i] = pw (far n i) := BitVec.xor_zero
    have := odd i (by simp)
    rw [← h1, e] at this
    exact absurd this (by decide)
  | [i, j], _, _, hd, _, ne =>
    intro e
    have h1 : trace n [i, j] = pw (far n i) ^^^ pw (far n j) := by
      show _ ^^^ (_ ^^^ 0#16) = _
      rw [BitVec.xor_zero]
    rw [h1] at e
    exact ne i (by simp) j (by simp) (by simpa using hd) (BitVec.xor_eq_zero_iff.mp e)
  | [i, j, k], _, _, _, odd, _ =>
    intro e
    have h1 : trace n [i, j, k] = pw (far n i) ^^^ (pw (far n j) ^^^ pw (far n k)) := by
      show _ ^^^ (_ ^^^ (_ ^^^ 0#16)) = _
      rw [BitVec.xor_zero]
    rw [h1] at e
    have h2 := congrArg (fun c : BitVec 16 => par c.toNat) e
    simp only [BitVec.toNat_xor, par_xor] at h2
    rw [odd i (by simp), odd j (by simp), odd k (by simp)] at h2
    exact absurd h2 (by decide)

/-- A body with one to three bits turned is no body. -/
theorem parse_bad (b : List Int) (hb : ∀ x ∈ b, 0 ≤ x ∧ x < 256) (h5 : 5 ≤ b.length) (h21 : b.length ≤ 21) (hne : crcB 65535#16 b ≠ 0#16) : (parse b).2.2.2.1 = 13 := by
  unfold parse
  rw [if_neg (by omega), if_neg (by omega)]
  split
  · rename_i hs
    exfalso
    apply hne
    have hH : ∀ x ∈ b.take (b.length - 2), 0 ≤ x ∧ x < 256 := fun x hx => hb x (List.mem_of_mem_take hx)
    rw [crc_bv _ hH] at hs
    have e : b = b.take (b.length - 2) ++ [wrap .u8 (shr .u16 ((crcB 65535#16 (b.take (b.length - 2))).toNat : Int) 8), wrap .u8 ((crcB 65535#16 (b.take (b.length - 2))).toNat : Int)] := by
      have d1 := rd_drop (t := .int .u8) b (b.length - 2) (by omega)
      have d2 := rd_drop (t := .int .u8) b (b.length - 2 + 1) (by omega)
      have d3 : b.drop (b.length - 2 + 1 + 1) = [] := List.drop_of_length_le (by omega)
      rw [d2, d3] at d1
      have e1 : ((b.length - 2 : Nat) : Int) = (b.length : Int) - 2 := by omega
      have e2 : ((b.length - 2 + 1 : Nat) : Int) = (b.length : Int) - 1 := by omega
      rw [e1, e2, hs.1, hs.2] at d1
      have := List.take_append_drop (b.length - 2) b
      rw [d1] at this
      exact this.symm
    rw [e]
    have hlen : (b.take (b.length - 2) ++ [wrap .u8 (shr .u16 ((crcB 65535#16 (b.take (b.length - 2))).toNat : Int) 8), wrap .u8 ((crcB 65535#16 (b.take (b.length - 2))).toNat : Int)]).length = b.length := by rw [← e]
    exact crcB_clear _
  · rfl
theorem body_clear (a b s : Int) (d : List Int) (hp : PkOk a b s d) : crcB 65535#16 (bodyOf a b s d) = 0#16 := by
  have hh : ∀ x ∈ head3 a b s d, 0 ≤ x ∧ x < 256 := fun x hx => bodyOf_byte a b s d hp.by0 x (by unfold bodyOf; exact List.mem_append_left _ hx)
  unfold bodyOf
  rw [crc_bv _ hh]
  exact crcB_clear _
theorem parse_flips (a b s : Int) (d : List Int) (hp : PkOk a b s d) (l : List Int) (h0 : l ≠ []) (h3 : l.length ≤ 3) (hd : l.Nodup) (hl : ∀ i ∈ l, 0 ≤ i ∧ i < 8 * ((bodyOf a b s d).length : Int)) :
    (parse (flips (bodyOf a b s d) l)).2.2.2.1 = 13 := by
  have hlen := bodyOf_len a b s d
  have hn := hp.n
  have hby := bodyOf_byte a b s d hp.by0
  refine parse_bad _ (flips_byte l _ hby) (by rw [flips_len]; omega) (by rw [flips_len]; omega) ?_
  rw [crcB_flips l _ _ hby hl, body_clear a b s d hp, BitVec.zero_xor]
  exact trace_ne _ (by omega) l h0 h3 hd hl

theorem noise_loop (l : List Int) (hl : l.length ≤ 1048576) (n : Nat) : ∀ (i : Nat) (b : List Int), i + n = l.length → b.length ≤ 1048576 → (∀ x ∈ l, -9223372036854775808 ≤ x ∧ x ≤ 9223372036854775807) →
    Y (bus_Noise.D0 (l, (l.length : Int), (i : Int), b)) (fun r => r = (0, frame (flips b (l.drop i)))) := by
  induction n with
  | zero =>
    intro i b h hb _
    refine Y.of (bus_Noise.D0_of _) (Y.nd (by omega) (Y.bE (stuff_spec b (by omega)) (Y.some ?_)))
    rw [List.drop_of_length_le (by omega)]
    rfl
  | succ n ih =>
    intro i b h hb hw
    have e := rd_drop (t := .int .i64) l i (by omega)
    have hm := hw _ (rd_mem (t := .int .i64) l (i : Int) (by omega) (by omega))
    have ef : flips b (l.drop i) = flips (flip b (rd (.int .i64) l (i : Int))) (l.drop (i + 1)) := by rw [e]; rfl
    rw [ef]
    refine Y.of (bus_Noise.D0_of _) (Y.pd (by omega) (Y.pd (by omega) ?_))
    rw [w64 (x := 8 * (b.length : Int)) (by omega) (by omega)]
    have next : ∀ b', b' = flip b (rd (.int .i64) l (i : Int)) → Y (bus_Noise.D1 (l, (l.length : Int), (i : Int), b')) (fun r => r = (0, frame (flips (flip b (rd (.int .i64) l (i : Int))) (l.drop (i + 1))))) := by
      rintro b' rfl
      refine Y.of (bus_Noise.D1_of _) ?_
      dsimp only [bus_Noise.d1]
      rw [w64 (x := (i : Int) + 1) (by omega) (by omega)]
      exact ih (i + 1) _ (by omega) (by rw [flip_len]; exact hb) hw
    generalize rd (.int .i64) l (i : Int) = x at *
    refine Y.bif (fun c => ?_) (fun c => ?_)
    · have c : @LE.le Int _ 0 x ∧ @LT.lt Int _ x (8 * (b.length : Int)) := by simpa only [Bool.and_eq_true, decide_eq_true_eq] using c
      have e1 : Int.tdiv x 8 = x / 8 := Int.tdiv_eq_ediv_of_nonneg c.1
      have e2 : Int.tmod x 8 = x % 8 := Int.tmod_eq_emod_of_nonneg c.1
      rw [e1, e2, w64 (x := x / 8) (by omega) (by omega)]
      refine Y.np' (by decide) (Y.pd (by omega) (Y.np' (by decide) (Y.pd (by omega) (Y.pd (by omega) (next _ ?_)))))
      unfold flip
      rw [if_pos c]
    · have c : ¬ @LE.le Int _ 0 x ∨ ¬ @LT.lt Int _ x (8 * (b.length : Int)) := by simpa only [Bool.and_eq_false_iff, decide_eq_false_iff_not] using c
      refine next _ ?_
      unfold flip
      rw [if_neg (by omega)]
theorem noise_spec (a b s : Int) (d : List Int) (hp : PkOk a b s d) (l : List Int) (hl : l.length ≤ 1048576) (hw : ∀ x ∈ l, -9223372036854775808 ≤ x ∧ x ≤ 9223372036854775807) :
    bus_Noise.F (a, b, s, d, l) = some (0, frame (flips (bodyOf a b s d) l)) := by
  have h1 := bodyOf_len a b s d
  have h2 := hp.n
  apply Y.is
  exact Y.of (bus_Noise.F_of _) (Y.bE (body_spec a b s d hp) (Y.np rfl (noise_loop l hl l.length 0 _ (by omega) (by dsimp only; omega) hw)))
end Go.Proofs.RBus
namespace Go.Proofs.RBus
open Go Go.Eng

theorem index_loop (l : List Int) (x : Int) (hl : l.length ≤ 1048576) (n : Nat) : ∀ i : Nat, i + n = l.length → Y (slices_Index_int.D0 (l, x, (l.length : Int), (i : Int))) (fun r => (0 ≤ r ↔ x ∈ l.drop i)) := by
  induction n with
  | zero =>
    intro i h
    refine Y.of (slices_Index_int.D0_of _) (Y.nd (by omega) (Y.some ?_))
    rw [List.drop_of_length_le (by omega)]
    simp
  | succ n ih =>
    intro i h
    have e := rd_drop (t := .int .i64) l i (by omega)
    refine Y.of (slices_Index_int.D0_of _) (Y.pd (by omega) (Y.pd (by omega) (Y.ite (fun g => ?_) (fun g => ?_))))
    · refine Y.some ?_
      rw [e, ← g]
      simp
    · rw [w64 (x := (i : Int) + 1) (by omega) (by omega)]
      refine (ih (i + 1) (by omega)).mono fun r hr => ?_
      rw [hr, e]
      simp [g]
theorem contains_spec (l : List Int) (x : Int) (hl : l.length ≤ 1048576) : slices_Contains_int.F (l, x) = some (decide (x ∈ l)) := by
  apply Y.is
  refine Y.of (slices_Contains_int.F_of _) ?_
  refine Y.bnd _ (Y.of (slices_Index_int.F_of _) (index_loop l x hl l.length 0 (by omega))) fun r hr => Y.some ?_
  rw [List.drop_zero] at hr
  exact decide_eq_decide.mpr hr

theorem flips_end (J : List Int) (a b s : Int) (d : List Int) (hp : PkOk a b s d) (a' b' s' : Int) (d' : List Int) (hq : PkOk a' b' s' d') (a'' b'' s'' : Int) (d'' : List Int) (hr : PkOk a'' b'' s'' d'') (i : Int) (hi : ¬ i < (J.length : Int))
    (l : List Int) (h3 : l.length ≤ 3) (hd : l.Nodup) (hl : ∀ x ∈ l, 0 ≤ x ∧ x < 8 * ((bodyOf a b s d).length : Int)) :
    Y (spykeep2_BusFlips.D0 (J, (J.length : Int), i, a, b, s, a', b', s', a'', b'', s'', bodyOf a b s d, l, d, d', d'')) (fun r => r = true) := by
  have lp := bodyOf_len a b s d
  have lq := bodyOf_len a' b' s' d'
  have lr := bodyOf_len a'' b'' s'' d''
  have np := hp.n
  have nq := hq.n
  have nr := hr.n
  have fq := frame_len' (bodyOf a' b' s' d')
  have fr := frame_len' (bodyOf a'' b'' s'' d'')
  have ff := frame_len' (flips (bodyOf a b s d) l)
  have lf : (flips (bodyOf a b s d) l).length = _ := flips_len l (bodyOf a b s d)
  have hby := flips_byte l _ (bodyOf_byte a b s d hp.by0)
  refine Y.of (spykeep2_BusFlips.D0_of _) (Y.nd hi (Y.bE (encode_spec a' b' s' d' hq) (Y.bE (noise_spec a b s d hp l (by omega) (fun x hx => by have := hl x hx; omega)) (Y.bE (encode_spec a'' b'' s'' d'' hr) ?_))))
  refine Y.bE (concat_spec _ (by simp) (by simp only [total, List.map_cons, List.map_nil, List.sum_cons, List.sum_nil]; omega)) ?_
  have ef : [frame (bodyOf a' b' s' d'), frame (flips (bodyOf a b s d) l), frame (bodyOf a'' b'' s'' d'')].flatten = frame (bodyOf a' b' s' d') ++ (frame (flips (bodyOf a b s d) l) ++ frame (bodyOf a'' b'' s'' d'')) := by simp
  dsimp only
  rw [ef]
  have d1 := decode_packet a' b' s' d' hq [] rdr0 rfl
  have hst : decode (frame (bodyOf a' b' s' d') ++ (frame (flips (bodyOf a b s d) l) ++ frame (bodyOf a'' b'' s'' d''))) rdr0 [] = decode (frame (bodyOf a'' b'' s'' d'')) (decode (frame (flips (bodyOf a b s d) l)) ⟨false, false, true, 0, []⟩ [(a', b', s', d')]).1 (decode (frame (flips (bodyOf a b s d) l)) ⟨false, false, true, 0, []⟩ [(a', b', s', d')]).2 := by
    rw [decode_append, d1, decode_append]
    rfl
  have hle := decode_le (frame (bodyOf a' b' s' d') ++ (frame (flips (bodyOf a b s d) l) ++ frame (bodyOf a'' b'' s'' d''))) rdr0 []
  have hlen : (frame (bodyOf a' b' s' d') ++ (frame (flips (bodyOf a b s d) l) ++ frame (bodyOf a'' b'' s'' d''))).length ≤ 1000 := by
    simp only [List.length_append]
    omega
  simp only [List.length_nil, Nat.zero_add] at hle
  refine Y.bE (decode_spec _ (by omega) (by omega)) ?_
  dsimp only
  rw [hst]
  by_cases h0 : l = []
  · subst h0
    have d2 := decode_packet a b s d hp [(a', b', s', d')] ⟨false, false, true, 0, []⟩ rfl
    have d3 := decode_packet a'' b'' s'' d'' hr ([(a', b', s', d')] ++ [(a, b, s, d)]) ⟨false, false, true, 0, []⟩ rfl
    have e : flips (bodyOf a b s d) [] = bodyOf a b s d := rfl
    rw [e, d2, d3]
    refine Y.pos rfl (Y.pos rfl (Y.bE (equal_spec [(a', b', s', d'), (a, b, s, d), (a'', b'', s'', d'')] (by simp)) (Y.some rfl)))
  · have hbad := parse_flips a b s d hp l h0 h3 hd hl
    have hf : (⟨false, false, true, 0, flips (bodyOf a b s d) l⟩ : Rdr).feed 126 = (none, ⟨false, false, true, 1, []⟩) := by
      unfold Rdr.feed
      rw [if_pos rfl, if_neg (by dsimp only; omega), if_neg (by dsimp only; rw [hbad]; decide)]
      rfl
    have d2 := decode_frame (flips (bodyOf a b s d) l) 0 [(a', b', s', d')] hby (by omega) ⟨false, false, true, 0, []⟩ rfl
    rw [hf] at d2
    have d3 := decode_packet a'' b'' s'' d'' hr ([(a', b', s', d')] ++ (none : Option Pk).toList) ⟨false, false, true, 1, []⟩ rfl
    rw [d2, d3]
    have hl0 : ¬ ((l.length : Int) = 0) := by
      intro h
      exact h0 (List.eq_nil_of_length_eq_zero (by omega))
    refine Y.neg (by simpa using h0) (Y.pos rfl (Y.bE (equal_spec [(a', b', s', d'), (a'', b'', s'', d'')] (by simp)) (Y.some rfl)))
theorem flips_loop (J : List Int) (hJ : J.length ≤ 1125899906842624) (a b s : Int) (d : List Int) (hp : PkOk a b s d) (a' b' s' : Int) (d' : List Int) (hq : PkOk a' b' s' d') (a'' b'' s'' : Int) (d'' : List Int) (hr : PkOk a'' b'' s'' d'') (n : Nat) :
    ∀ (i : Nat) (l : List Int), i + n = J.length → l.length ≤ 3 → l.Nodup → (∀ x ∈ l, 0 ≤ x ∧ x < 8 * ((bodyOf a b s d).length : Int)) →
    Y (spykeep2_BusFlips.D0 (J, (J.length : Int), (i : Int), a, b, s, a', b', s', a'', b'', s'', bodyOf a b s d, l, d, d', d'')) (fun r => r = true) := by
  have lp := bodyOf_len a b s d
  have np := hp.n
  induction n with
  | zero =>
    intro i l h h3 hd hl
    exact flips_end J a b s d hp a' b' s' d' hq a'' b'' s'' d'' hr i (by omega) l h3 hd hl
  | succ n ih =>
    intro i l h h3 hd hl
    have next : ∀ l' : List Int, l'.length ≤ 3 → l'.Nodup → (∀ x ∈ l', 0 ≤ x ∧ x < 8 * ((bodyOf a b s d).length : Int)) → Y (spykeep2_BusFlips.D1 (J, (J.length : Int), (i : Int), a, b, s, a', b', s', a'', b'', s'', bodyOf a b s d, l', d, d', d'')) (fun r => r = true) := by
      intro l' g1 g2 g3
      refine Y.of (spykeep2_BusFlips.D1_of _) ?_
      dsimp only [spykeep2_BusFlips.d1]
      rw [w64 (x := (i : Int) + 1) (by omega) (by omega)]
      exact ih (i + 1) l' (by omega) g1 g2 g3
    refine Y.of (spykeep2_BusFlips.D0_of _) (Y.pd (by omega) (Y.pd (by omega) ?_))
    rw [w64 (x := 8 * ((bodyOf a b s d).length : Int)) (by omega) (by omega)]
    refine Y.bE (below_spec _ _ (by omega) (by omega)) ?_
    have hrg := below_range (rd (.int .i64) J (i : Int)) (8 * ((bodyOf a b s d).length : Int)) (by omega)
    generalize rd (.int .i64) J (i : Int) % (8 * ((bodyOf a b s d).length : Int)) = x at *
    refine Y.bif (fun g => ?_) (fun g => next l h3 hd hl)
    have g : (l.length : Int) < 3 := by simpa using g
    refine Y.bE (contains_spec l x (by omega)) ?_
    by_cases hx : x ∈ l
    · refine Y.neg (by simpa using hx) (next l h3 hd hl)
    · refine Y.pos (by simpa using hx) (Y.pd (by simp; omega) (next _ (by simp; omega) ?_ ?_))
      · refine List.nodup_append.mpr ⟨hd, by simp, ?_⟩
        rintro y hy z hz rfl
        obtain rfl : y = x := by simpa using hz
        exact hx hy
      · intro y hy
        rcases List.mem_append.mp hy with hy | hy
        · exact hl y hy
        · obtain rfl : y = x := by simpa using hy
          exact hrg
theorem busFlips (L J : List Int) (hJ : J.length ≤ 1125899906842624) : spykeep2_BusFlips.F (L, J) = some true := by
  apply Y.is
  refine Y.of (spykeep2_BusFlips.F_of _) (Y.bE carries_spec (Y.neg rfl ?_))
  refine Y.bnd _ (packet_draw L 0 (by omega) (by omega)) ?_
  rintro _ ⟨a, b, s, d, at1, rfl, hP, h1, h2⟩
  refine Y.bnd _ (packet_draw L at1 (by omega) (by omega)) ?_
  rintro _ ⟨a', b', s', d', at2, rfl, hQ, h3, h4⟩
  refine Y.bnd _ (packet_draw L at2 (by omega) (by omega)) ?_
  rintro _ ⟨a'', b'', s'', d'', at3, rfl, hR, h5, h6⟩
  refine Y.bE (body_spec a b s d hP) (Y.np rfl ?_)
  exact flips_loop J hJ a b s d hP a' b' s' d' hQ a'' b'' s'' d'' hR J.length 0 [] (by omega) (by simp) (by simp) (by simp)
end Go.Proofs.RBus
