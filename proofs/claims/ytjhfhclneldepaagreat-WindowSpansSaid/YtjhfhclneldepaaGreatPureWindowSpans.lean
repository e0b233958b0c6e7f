import Derived.Test.YtjhfhclneldepaaGreatRWin2
set_option linter.unusedVariables false
namespace Go.Proofs.RWin
open Go Go.Eng

theorem below_spec (x n : Int) (h1 : 1 ≤ n) (h2 : n ≤ 4611686018427387904) : spymake_Below.F (x, n) = some (x % n) := by
  apply Y.is
  refine Y.of (spymake_Below.F_of _) (Y.nd (by omega) (Y.np' (by omega) (Y.ite (fun c => ?_) (fun c => ?_))))
  · refine Y.of (spymake_Below.D0_of _) (Y.some ?_)
    rw [tmod_neg_add h1 c]
    exact w64 (by have := Int.emod_nonneg x (b := n) (by omega); omega) (by have := Int.emod_lt_of_pos x (b := n) (by omega); omega)
  · exact Y.of (spymake_Below.D0_of _) (Y.some (tmod_of_nonneg h1 c))
theorem below_range (x n : Int) (h1 : 1 ≤ n) : 0 ≤ x % n ∧ x % n < n := ⟨Int.emod_nonneg x (by omega), Int.emod_lt_of_pos x (by omega)⟩
/-- Next gives a number below n, and counts. -/
theorem next_spec (L : List Int) (at_ n : Int) (ha : 0 ≤ at_) (hb : at_ ≤ 4611686018427387904) (h1 : 1 ≤ n) (h2 : n ≤ 4611686018427387904) :
    Y (spymake_Stream_Next.F (n, L, at_)) fun r => ∃ x, r = (x, L, at_ + 1) ∧ 0 ≤ x ∧ x < n := by
  refine Y.of (spymake_Stream_Next.F_of _) ?_
  dsimp only [spymake_Stream_Next.d]
  rw [w64 (x := at_ + 1) (by omega) (by omega), w64 (x := at_ + 1 - 1) (by omega) (by omega)]
  refine Y.ite (fun c => ?_) (fun c => ?_)
  · refine Y.bE (below_spec _ _ h1 h2) (Y.some ⟨_, rfl, below_range _ _ h1⟩)
  · rw [show at_ + 1 - 1 = at_ by omega]
    have e : Int.tmod at_ (L.length : Int) = at_ % (L.length : Int) := Int.tmod_eq_emod_of_nonneg ha
    have e1 := Int.emod_nonneg at_ (b := (L.length : Int)) c
    have e2 := Int.emod_lt_of_pos at_ (b := (L.length : Int)) (by omega)
    rw [e]
    refine Y.np' c (Y.np' c (Y.pd ⟨e1, e2⟩ (Y.bE (below_spec _ 1073741824 (by omega) (by omega)) (Y.bE (below_spec _ _ h1 h2) (Y.some ⟨_, rfl, below_range _ _ h1⟩)))))
theorem Y.next {β : Type} {f : spymake_Stream_Next.R → Option β} {Q : β → Prop} (L : List Int) (at_ n : Int) (ha : 0 ≤ at_) (hb : at_ ≤ 4611686018427387904) (h1 : 1 ≤ n) (h2 : n ≤ 4611686018427387904)
    (k : ∀ r, 0 ≤ r → r < n → Y (f (r, L, at_ + 1)) Q) : Y (bnd (spymake_Stream_Next.F (n, L, at_)) f) Q := by
  obtain ⟨r, hr, x, rfl, h3, h4⟩ := next_spec L at_ n ha hb h1 h2
  exact Y.bE hr (k x h3 h4)
end Go.Proofs.RWin
namespace Go.Eng
open Go
/-- An answer comes. -/
def Tot {α : Type} (o : Option α) : Prop := ∃ r, o = some r
variable {α β : Type}
theorem Tot.some {r : α} : Tot (Option.some r) := ⟨r, rfl⟩
theorem Tot.of {d D : Option α} (h : ∀ {r}, d = Option.some r → D = Option.some r) (k : Tot d) : Tot D := by
  obtain ⟨r, hr⟩ := k
  exact ⟨r, h hr⟩
theorem Tot.br {c : Bool} {a b : Option α} (h : Tot a) (k : Tot b) : Tot (br c a b) := by
  cases c with
  | true => exact h
  | false => exact k
theorem Tot.bnd {o : Option β} {k : β → Option α} (h : Tot o) (g : ∀ x, Tot (k x)) : Tot (bnd o k) := by
  obtain ⟨x, rfl⟩ := h
  exact g x
theorem Tot.y {o : Option α} (h : Tot o) : Y o fun _ => True := by
  obtain ⟨r, hr⟩ := h
  exact ⟨r, hr, trivial⟩
theorem Y.tot {o : Option α} (h : Y o fun _ => True) : Tot o := by
  obtain ⟨r, hr, _⟩ := h
  exact ⟨r, hr⟩
theorem Y.to {o : Option α} {Q : α → Prop} (h : Y o Q) : Tot o := by
  obtain ⟨r, hr, _⟩ := h
  exact ⟨r, hr⟩
end Go.Eng
namespace Go.Proofs.RWin
set_option linter.unusedVariables false
open Go Go.Eng
theorem window_when_tot (v : window_when.A) : Tot (window_when.F v) := Tot.of (window_when.F_of v) ((fun (v0, v1, v2, v3, v4, v5, v6, v7, v8, v9, v10, v11, v12, v13, v14, v15, v16, v17, v18) => Tot.some : ∀ v, Tot (window_when.d v)) v)
theorem bound_Check_Tick_tot (v : bound_Check_Tick.A) : Tot (bound_Check_Tick.F v) := Tot.of (bound_Check_Tick.F_of v) ((fun (v0, v1, v2) => (Tot.br Tot.some (Tot.br Tot.some (Tot.br Tot.some Tot.some))) : ∀ v, Tot (bound_Check_Tick.d v)) v)
theorem bound_None_Tick_tot (v : bound_None_Tick.A) : Tot (bound_None_Tick.F v) := Tot.of (bound_None_Tick.F_of v) ((fun _ => Tot.some : ∀ v, Tot (bound_None_Tick.d v)) v)
theorem bound_Norm_Tick_tot (v : bound_Norm_Tick.A) : Tot (bound_Norm_Tick.F v) := Tot.of (bound_Norm_Tick.F_of v) ((fun (v0, v1, v2) => (Tot.bnd (bound_Check_Tick_tot _) fun _ => (Tot.br (Tot.bnd (bound_None_Tick_tot _) fun _ => Tot.some) Tot.some)) : ∀ v, Tot (bound_Norm_Tick.d bound_Check_Tick.F bound_None_Tick.F v)) v)
theorem bound_Of_Tick_tot (v : bound_Of_Tick.A) : Tot (bound_Of_Tick.F v) := Tot.of (bound_Of_Tick.F_of v) ((fun (v0, v1) => (Tot.bnd (bound_Norm_Tick_tot _) fun _ => Tot.some) : ∀ v, Tot (bound_Of_Tick.d bound_Norm_Tick.F v)) v)
theorem bound_Exact_Tick_tot (v : bound_Exact_Tick.A) : Tot (bound_Exact_Tick.F v) := Tot.of (bound_Exact_Tick.F_of v) ((fun v0 => (Tot.bnd (bound_Of_Tick_tot _) fun _ => Tot.some) : ∀ v, Tot (bound_Exact_Tick.d bound_Of_Tick.F v)) v)
theorem bound_Neg_Tick_tot (v : bound_Neg_Tick.A) : Tot (bound_Neg_Tick.F v) := Tot.of (bound_Neg_Tick.F_of v) ((fun (v0, v1, v2) => (Tot.bnd (bound_Norm_Tick_tot _) fun _ => Tot.some) : ∀ v, Tot (bound_Neg_Tick.d bound_Norm_Tick.F v)) v)
theorem bound_vague_Tick_tot (v : bound_vague_Tick.A) : Tot (bound_vague_Tick.F v) := Tot.of (bound_vague_Tick.F_of v) ((fun (v0, v1, v2, v3, v4, v5) => (Tot.bnd (bound_Norm_Tick_tot _) fun _ => (Tot.br (Tot.bnd (bound_Norm_Tick_tot _) fun _ => Tot.some) Tot.some)) : ∀ v, Tot (bound_vague_Tick.d bound_Norm_Tick.F v)) v)
theorem bound_Add_Tick_tot (v : bound_Add_Tick.A) : Tot (bound_Add_Tick.F v) := Tot.of (bound_Add_Tick.F_of v) ((fun (v0, v1, v2, v3, v4, v5) => (Tot.bnd (bound_vague_Tick_tot _) fun _ => (Tot.br (Tot.bnd (bound_None_Tick_tot _) fun _ => Tot.some) (Tot.bnd (bound_Of_Tick_tot _) fun _ => Tot.some))) : ∀ v, Tot (bound_Add_Tick.d bound_vague_Tick.F bound_None_Tick.F bound_Of_Tick.F v)) v)
theorem bound_Sub_Tick_tot (v : bound_Sub_Tick.A) : Tot (bound_Sub_Tick.F v) := Tot.of (bound_Sub_Tick.F_of v) ((fun (v0, v1, v2, v3, v4, v5) => (Tot.bnd (bound_Neg_Tick_tot _) fun _ => (Tot.bnd (bound_Add_Tick_tot _) fun _ => Tot.some)) : ∀ v, Tot (bound_Sub_Tick.d bound_Neg_Tick.F bound_Add_Tick.F v)) v)
theorem num_size_tot (v : num_size.A) : Tot (num_size.F v) := Tot.of (num_size.F_of v) ((fun v0 => (Tot.br Tot.some Tot.some) : ∀ v, Tot (num_size.d v)) v)
theorem num_Gcd_tot_d0 (n : Nat) : ∀ a b : Int, b ≤ n → Tot (num_Gcd.D0 (a, b)) := by
  induction n with
  | zero => exact fun a b h => Y.tot (Y.of (num_Gcd.D0_of _) (Y.nd (by omega) (Y.some trivial)))
  | succ n ih =>
    intro a b h
    refine Y.tot (Y.of (num_Gcd.D0_of _) (Y.ite (fun c => Y.nn (by omega) (Tot.y (ih _ _ ?_))) fun _ => Y.some trivial))
    have := Int.tmod_lt_of_pos a c
    omega
theorem num_Gcd_tot (v : num_Gcd.A) : Tot (num_Gcd.F v) := Tot.of (num_Gcd.F_of v) (Tot.bnd (num_size_tot _) fun _ => Tot.bnd (num_size_tot _) fun _ => num_Gcd_tot_d0 _ _ _ (Int.self_le_toNat _))
theorem frac_Check_tot (v : frac_Check.A) : Tot (frac_Check.F v) := Tot.of (frac_Check.F_of v) ((fun (v0, v1) => (Tot.br Tot.some (Tot.bnd (num_Gcd_tot _) fun _ => (Tot.br Tot.some Tot.some))) : ∀ v, Tot (frac_Check.d num_Gcd.F v)) v)
theorem num_CeilDiv_tot_d0 (v : num_CeilDiv.T0) : Tot (num_CeilDiv.D0 v) := Tot.of (num_CeilDiv.D0_of v) Tot.some
theorem num_CeilDiv_tot (v : num_CeilDiv.A) : Tot (num_CeilDiv.F v) := Tot.of (num_CeilDiv.F_of v) (Y.tot (Y.ite (fun _ => Y.some trivial) fun c => Y.nn (by omega) (Y.nn (by omega) (Tot.y (Tot.br (num_CeilDiv_tot_d0 _) (num_CeilDiv_tot_d0 _))))))
theorem frac_rounded_tot (v : frac_rounded.A) : Tot (frac_rounded.F v) := Tot.of (frac_rounded.F_of v) ((fun (v0, v1) => (Tot.bnd (frac_Check_tot _) fun _ => (Tot.br Tot.some (Tot.bnd (num_CeilDiv_tot _) fun _ => Tot.some))) : ∀ v, Tot (frac_rounded.d frac_Check.F num_CeilDiv.F v)) v)
theorem frac_Ceil_tot (v : frac_Ceil.A) : Tot (frac_Ceil.F v) := Tot.of (frac_Ceil.F_of v) ((fun (v0, v1) => (Tot.bnd (frac_rounded_tot _) fun _ => Tot.some) : ∀ v, Tot (frac_Ceil.d frac_rounded.F v)) v)
theorem scale_CheckRate_tot (v : scale_CheckRate.A) : Tot (scale_CheckRate.F v) := Tot.of (scale_CheckRate.F_of v) ((fun (v0, v1, v2, v3) => (Tot.bnd (frac_Check_tot _) fun _ => (Tot.br Tot.some (Tot.br Tot.some (Tot.br (Tot.bnd (frac_Ceil_tot _) fun _ => (Tot.br Tot.some Tot.some)) Tot.some)))) : ∀ v, Tot (scale_CheckRate.d frac_Check.F frac_Ceil.F v)) v)
theorem bound_None_Arc_tot (v : bound_None_Arc.A) : Tot (bound_None_Arc.F v) := Tot.of (bound_None_Arc.F_of v) ((fun _ => Tot.some : ∀ v, Tot (bound_None_Arc.d v)) v)
theorem bits_Mul64_tot (v : bits_Mul64.A) : Tot (bits_Mul64.F v) := Tot.of (bits_Mul64.F_of v) (Y.tot (Y.pd (by decide) (Y.pd (by decide) (Y.pd (by decide) (Y.pd (by decide) (Y.pd (by decide) (Y.some trivial)))))))
theorem bits_Add64_spec (a b c : Int) (h1 : 0 ≤ a ∧ a < 18446744073709551616) (h2 : 0 ≤ b ∧ b ≤ 1) (h3 : 0 ≤ c ∧ c ≤ 1) : Y (bits_Add64.F (a, b, c)) fun r => 0 ≤ r.2 ∧ r.2 ≤ 1 := by
  show Y (add64D (a, b, c)) _
  refine Y.pos (by simp; omega) (Y.some ?_)
  show 0 ≤ (a + b + c) / 18446744073709551616 ∧ (a + b + c) / 18446744073709551616 ≤ 1
  omega
theorem bXor_u64 (a b : Int) : 0 ≤ bXor .u64 a b ∧ bXor .u64 a b < 18446744073709551616 := by
  unfold bXor
  show 0 ≤ wrap .u64 _ ∧ wrap .u64 _ < _
  rw [wr_u64]
  omega
theorem num_Wide_Neg_tot (v : num_Wide_Neg.A) : Tot (num_Wide_Neg.F v) := Tot.of (num_Wide_Neg.F_of v) (Y.tot (Y.bnd _ (bits_Add64_spec _ 1 0 (bXor_u64 _ _) (by decide) (by decide)) fun r h => Y.bnd _ (bits_Add64_spec _ 0 _ (bXor_u64 _ _) (by decide) h) fun _ _ => Y.some trivial))
theorem num_Product_tot (v : num_Product.A) : Tot (num_Product.F v) := Tot.of (num_Product.F_of v) ((fun (v0, v1) => (Tot.bnd (num_size_tot _) fun _ => (Tot.bnd (num_size_tot _) fun _ => (Tot.bnd (bits_Mul64_tot _) fun _ => (Tot.br (Tot.bnd (num_Wide_Neg_tot _) fun _ => Tot.some) Tot.some)))) : ∀ v, Tot (num_Product.d num_size.F bits_Mul64.F num_Wide_Neg.F v)) v)
theorem len8_spec (n : Nat) (h : n < 256) : 0 ≤ wrap .i64 ((bs0.data.getD n 0).toNat : Int) ∧ wrap .i64 ((bs0.data.getD n 0).toNat : Int) ≤ 8 ∧ n < 2 ^ (bs0.data.getD n 0).toNat ∧ (0 < n → 2 ^ ((bs0.data.getD n 0).toNat - 1) ≤ n ∧ 1 ≤ (bs0.data.getD n 0).toNat) := by
  have : ∀ n : Fin 256, 0 ≤ wrap .i64 ((bs0.data.getD n.1 0).toNat : Int) ∧ wrap .i64 ((bs0.data.getD n.1 0).toNat : Int) ≤ 8 ∧ n.1 < 2 ^ (bs0.data.getD n.1 0).toNat ∧ (0 < n.1 → 2 ^ ((bs0.data.getD n.1 0).toNat - 1) ≤ n.1 ∧ 1 ≤ (bs0.data.getD n.1 0).toNat) := by decide +kernel
  exact this ⟨n, h⟩
theorem shr_nat (k : IntKind) (y n : Nat) (h : n ≤ k.bits) : shr k (y : Int) (n : Int) = ((y / 2 ^ n : Nat) : Int) := by
  unfold shr
  rw [Int.toNat_natCast, Nat.min_eq_left h, Int.fdiv_eq_ediv_of_nonneg _ (Int.le_of_lt (Int.pow_pos (by decide))), Int.natCast_ediv, Int.natCast_pow]
  rfl
theorem bs0_size : (bs0.size : Int) = 256 := by decide +kernel
/-- The length of a number in bits. -/
def IsLen (y l : Nat) : Prop := y < 2 ^ l ∧ (0 < y → 1 ≤ l ∧ 2 ^ (l - 1) ≤ y)
theorem IsLen.up {y l : Nat} (n : Nat) (hy : 0 < y / 2 ^ n) (h : IsLen (y / 2 ^ n) l) : IsLen y (l + n) := by
  obtain ⟨h1, h2⟩ := h
  obtain ⟨h3, h4⟩ := h2 hy
  have hp : 0 < 2 ^ n := Nat.two_pow_pos _
  refine ⟨?_, fun _ => ⟨by omega, ?_⟩⟩
  · rw [Nat.pow_add]
    exact (Nat.div_lt_iff_lt_mul hp).mp h1
  · rw [show l + n - 1 = (l - 1) + n by omega, Nat.pow_add]
    exact (Nat.le_div_iff_mul_le hp).mp h4
theorem bits_Len64_d2 (y : Nat) (hy : y < 256) (m : Int) (m0 : 0 ≤ m) (m1 : m ≤ 56) : Y (bits_Len64.D2 ((y : Int), m)) fun r => ∃ l : Nat, @Eq Int r (m + l) ∧ l ≤ 8 ∧ IsLen y l := by
  have e : wrap .u8 (y : Int) = y := by
    rw [wr_u8]
    omega
  obtain ⟨h1, h2, h3, h4⟩ := len8_spec y hy
  refine Y.of (bits_Len64.D2_of _) (Y.pd (by rw [e, bs0_size]; omega) (Y.some ?_))
  rw [e, Int.toNat_natCast]
  have hb : (bs0.data.getD y 0).toNat < 256 := UInt8.toNat_lt _
  have e2 : wrap .i64 ((bs0.data.getD y 0).toNat : Int) = ((bs0.data.getD y 0).toNat : Int) := w64 (by omega) (by omega)
  rw [e2] at h1 h2
  refine ⟨(bs0.data.getD y 0).toNat, ?_, by omega, h3, fun k => ⟨(h4 k).2, (h4 k).1⟩⟩
  show wrap .i64 (m + wrap .i64 ((bs0.data.getD y 0).toNat : Int)) = _
  rw [e2, w64 (by omega) (by omega)]
theorem bits_Len64_d1 (y : Nat) (hy : y < 65536) (m : Int) (m0 : 0 ≤ m) (m1 : m ≤ 48) : Y (bits_Len64.D1 ((y : Int), m)) fun r => ∃ l : Nat, @Eq Int r (m + l) ∧ l ≤ 16 ∧ IsLen y l := by
  refine Y.of (bits_Len64.D1_of _) (Y.ite (fun c => Y.pd (by decide) ?_) fun c => Y.mono (bits_Len64_d2 y (by omega) m m0 (by omega)) fun r h => (by obtain ⟨l, h1, h2, h3⟩ := h; exact ⟨l, h1, by omega, h3⟩))
  have e := shr_nat .u64 y 8 (by decide)
  rw [show ((8 : Nat) : Int) = 8 from rfl] at e
  rw [e, w64 (x := m + 8) (by omega) (by omega)]
  refine Y.mono (bits_Len64_d2 (y / 2 ^ 8) (by omega) (m + 8) (by omega) (by omega)) fun r h => (by obtain ⟨l, h1, h2, h3⟩ := h; exact ⟨l + 8, by omega, by omega, h3.up 8 (by omega)⟩)
theorem bits_Len64_d0 (y : Nat) (hy : y < 4294967296) (m : Int) (m0 : 0 ≤ m) (m1 : m ≤ 32) : Y (bits_Len64.D0 ((y : Int), m)) fun r => ∃ l : Nat, @Eq Int r (m + l) ∧ l ≤ 32 ∧ IsLen y l := by
  refine Y.of (bits_Len64.D0_of _) (Y.ite (fun c => Y.pd (by decide) ?_) fun c => Y.mono (bits_Len64_d1 y (by omega) m m0 (by omega)) fun r h => (by obtain ⟨l, h1, h2, h3⟩ := h; exact ⟨l, h1, by omega, h3⟩))
  have e := shr_nat .u64 y 16 (by decide)
  rw [show ((16 : Nat) : Int) = 16 from rfl] at e
  rw [e, w64 (x := m + 16) (by omega) (by omega)]
  refine Y.mono (bits_Len64_d1 (y / 2 ^ 16) (by omega) (m + 16) (by omega) (by omega)) fun r h => (by obtain ⟨l, h1, h2, h3⟩ := h; exact ⟨l + 16, by omega, by omega, h3.up 16 (by omega)⟩)
theorem bits_Len64_spec (y : Nat) (hy : y < 18446744073709551616) : Y (bits_Len64.F (y : Int)) fun r => ∃ l : Nat, @Eq Int r l ∧ l ≤ 64 ∧ IsLen y l := by
  refine Y.of (bits_Len64.F_of _) (Y.ite (fun c => Y.pd (by decide) ?_) fun c => Y.mono (bits_Len64_d0 y (by have c' := Int.not_le.mp c; omega) 0 (by omega) (by omega)) fun r h => (by obtain ⟨l, h1, h2, h3⟩ := h; exact ⟨l, by omega, by omega, h3⟩))
  have e := shr_nat .u64 y 32 (by decide)
  rw [show ((32 : Nat) : Int) = 32 from rfl] at e
  rw [e]
  refine Y.mono (bits_Len64_d0 (y / 2 ^ 32) (by omega) 32 (by omega) (by omega)) fun r h => (by obtain ⟨l, h1, h2, h3⟩ := h; exact ⟨l + 32, by omega, by omega, h3.up 32 (by have c' : (4294967296 : Int) ≤ y := c; omega)⟩)

theorem bits_Div64_d3 (v : bits_Div64.T3) (h : 0 ≤ v.2.1) : Tot (bits_Div64.D3 v) := Tot.of (bits_Div64.D3_of v) (Y.tot (Y.pd h (Y.some trivial)))
theorem bits_Div64_d2 (n : Nat) : ∀ (a b c d e f g h i : Int) (_ : 0 ≤ b) (_ : 1 ≤ c ∧ c < 4294967296) (_ : 0 ≤ g ∧ g < 18446744073709551616) (_ : (g < 4294967296 → 4294967296 - g ≤ n) ∧ (4294967296 ≤ g → 4294967297 ≤ (n : Int))), Tot (bits_Div64.D2 (a, b, c, d, e, f, g, h, i)) := by
  induction n with
  | zero =>
    intro a b c d e f g h i h1 h2 h3 h4
    exact absurd h4 (by omega)
  | succ n ih =>
    intro a b c d e f g h i h1 h2 h3 h4
    refine Tot.of (bits_Div64.D2_of _) (Tot.br (Y.tot (Y.ite (fun _ => Tot.y (bits_Div64_d3 _ h1)) fun k => Tot.y (ih _ _ _ _ _ _ _ _ _ h1 h2 ?_ ?_))) (bits_Div64_d3 _ h1))
    · rw [wr_u64]
      omega
    · rw [wr_u64] at k ⊢
      omega
theorem bits_Div64_d1 (a b c d e f g h : Int) (h1 : 0 ≤ b) (h2 : 1 ≤ c ∧ c < 4294967296) : Tot (bits_Div64.D1 (a, b, c, d, e, f, g, h)) := by
  refine Tot.of (bits_Div64.D1_of _) (Y.tot (Y.nn (by omega) (Tot.y (bits_Div64_d2 4294967297 _ _ _ _ _ _ _ _ _ h1 h2 ?_ ?_))))
  · rw [wr_u64]
    omega
  · rw [wr_u64]
    omega
theorem bits_Div64_d0 (n : Nat) : ∀ (a b c d e f g h i : Int) (_ : 0 ≤ b) (_ : 1 ≤ c ∧ c < 4294967296) (_ : 0 ≤ i ∧ i < 18446744073709551616) (_ : (i < 4294967296 → 4294967296 - i ≤ n) ∧ (4294967296 ≤ i → 4294967297 ≤ (n : Int))), Tot (bits_Div64.D0 (a, b, c, d, e, f, g, h, i)) := by
  induction n with
  | zero =>
    intro a b c d e f g h i h1 h2 h3 h4
    exact absurd h4 (by omega)
  | succ n ih =>
    intro a b c d e f g h i h1 h2 h3 h4
    refine Tot.of (bits_Div64.D0_of _) (Tot.br (Y.tot (Y.ite (fun _ => Tot.y (bits_Div64_d1 _ _ _ _ _ _ _ _ h1 h2)) fun k => Tot.y (ih _ _ _ _ _ _ _ _ _ h1 h2 ?_ ?_))) (bits_Div64_d1 _ _ _ _ _ _ _ _ h1 h2))
    · rw [wr_u64]
      omega
    · rw [wr_u64] at k ⊢
      omega
theorem shl_norm {y l : Nat} (hy : 0 < y) (h : IsLen y l) (hl : l ≤ 64) : ∃ z : Nat, shl .u64 (y : Int) ((64 - l : Nat) : Int) = (z : Int) ∧ 9223372036854775808 ≤ z ∧ z < 18446744073709551616 := by
  obtain ⟨h1, h2⟩ := h
  obtain ⟨h3, h4⟩ := h2 hy
  refine ⟨y * 2 ^ (64 - l), ?_, ?_, ?_⟩
  · unfold shl
    rw [Int.toNat_natCast, Nat.min_eq_left (by show 64 - l ≤ 64; omega)]
    have : y * 2 ^ (64 - l) < 18446744073709551616 := by
      have := Nat.mul_lt_mul_of_pos_right h1 (show 0 < 2 ^ (64 - l) from Nat.two_pow_pos _)
      rw [← Nat.pow_add, show l + (64 - l) = 64 by omega] at this
      exact this
    have e : ((y : Int) * 2 ^ (64 - l)) = ((y * 2 ^ (64 - l) : Nat) : Int) := by simp
    rw [e]
    show wrap .u64 _ = _
    rw [wr_u64]
    omega
  · have := Nat.mul_le_mul_right (2 ^ (64 - l)) h4
    rw [← Nat.pow_add, show l - 1 + (64 - l) = 63 by omega] at this
    exact this
  · have := Nat.mul_lt_mul_of_pos_right h1 (show 0 < 2 ^ (64 - l) from Nat.two_pow_pos _)
    rw [← Nat.pow_add, show l + (64 - l) = 64 by omega] at this
    exact this
theorem bits_Div64_tot (hi lo y : Int) (h0 : 0 < y) (h1 : y < 18446744073709551616) (h2 : hi < y) : Tot (bits_Div64.F (hi, lo, y)) := by
  obtain ⟨n, rfl⟩ : ∃ n : Nat, y = n := ⟨y.toNat, by omega⟩
  refine Tot.of (bits_Div64.F_of _) (Y.tot (Y.nd (by omega) (Y.nd (by omega) (Y.ite (fun _ => Y.nn (by omega) (Y.nn (by omega) (Y.some trivial))) fun _ => ?_))))
  refine Y.bnd (fun r => ∃ l : Nat, @Eq Int r ((64 - l : Nat) : Int) ∧ l ≤ 64 ∧ IsLen n l) ?_ ?_
  · refine Y.of (bits_LeadingZeros64.F_of _) (Y.bnd _ (bits_Len64_spec n (by omega)) fun r ⟨l, h3, h4, h5⟩ => Y.some ⟨l, ?_, h4, h5⟩)
    subst h3
    rw [w64 (by omega) (by omega)]
    omega
  · intro r ⟨l, h3, h4, h5⟩
    obtain ⟨z, hz, z1, z2⟩ := shl_norm (by omega) h5 h4
    have er : wrap .u64 r = r := by
      rw [wr_u64, h3]
      omega
    have ez : shl .u64 (n : Int) (wrap .u64 r) = z := by rw [er, h3, hz]
    have es := shr_nat .u64 z 32 (by decide)
    rw [show ((32 : Nat) : Int) = 32 from rfl] at es
    have e0 : 0 ≤ wrap .u64 r := by omega
    refine Y.pd e0 (Y.pd (by decide) (Y.pd e0 (Y.pd ?_ (Y.pd e0 (Y.pd (by decide) (Y.nn ?_ (Tot.y ?_)))))))
    · rw [wr_u64]
      omega
    · rw [ez, es]
      omega
    · refine bits_Div64_d0 4294967297 _ _ _ _ _ _ _ _ _ e0 ?_ ?_ ?_
      · rw [ez, es]
        omega
      · rw [wr_u64]
        omega
      · rw [wr_u64]
        omega
theorem num_Wide_Div_d1 (v : num_Wide_Div.T1) : Tot (num_Wide_Div.D1 v) := Tot.of (num_Wide_Div.D1_of v) (Tot.br Tot.some (Tot.br Tot.some (Tot.br Tot.some Tot.some)))
theorem num_Wide_Div_spec (a b c : Int) : Y (num_Wide_Div.F (a, b, c)) fun r => r.2 = 0 → wrap .u64 c ≠ 0 := by
  have d0 (p q r s : Int) : Y (num_Wide_Div.D0 (c, p, q, r, s)) fun r => r.2 = 0 → wrap .u64 c ≠ 0 := by
    refine Y.of (num_Wide_Div.D0_of _) (Y.ite (fun _ => Y.some (fun h => absurd h (by decide))) fun k => ?_)
    have k0 := wr_u64 r
    have k1 := wr_u64 c
    have nz : wrap .u64 c ≠ 0 := by omega
    have d1 (v) : Y (num_Wide_Div.D1 v) fun r => r.2 = 0 → wrap .u64 c ≠ 0 := Y.mono (Tot.y (num_Wide_Div_d1 v)) fun _ _ _ => nz
    exact Y.bnd _ (Tot.y (bits_Div64_tot _ _ _ (by omega) (by omega) (by omega))) fun _ _ => Y.bif (fun _ => Y.bif (fun _ => d1 _) fun _ => d1 _) fun _ => d1 _
  exact Y.of (num_Wide_Div.F_of _) (Y.ite (fun _ => Y.some (fun h => absurd h (by decide))) fun _ => Y.bif (fun _ => Y.bnd _ (Tot.y (num_Wide_Neg_tot _)) fun _ _ => d0 _ _ _ _) fun _ => d0 _ _ _ _)
theorem num_Wide_Div_tot (v : num_Wide_Div.A) : Tot (num_Wide_Div.F v) := Y.to (num_Wide_Div_spec v.1 v.2.1 v.2.2)
theorem num_MulDiv_tot (v : num_MulDiv.A) : Tot (num_MulDiv.F v) := Tot.of (num_MulDiv.F_of v) ((fun (v0, v1, v2) => (Tot.bnd (num_Product_tot _) fun _ => (Tot.bnd (num_Wide_Div_tot _) fun _ => Tot.some)) : ∀ v, Tot (num_MulDiv.d num_Product.F num_Wide_Div.F v)) v)
theorem num_Wide_Mod_d1 (v : num_Wide_Mod.T1) : Tot (num_Wide_Mod.D1 v) := Tot.of (num_Wide_Mod.D1_of v) Tot.some
theorem num_Wide_Mod_spec (a b c : Int) (h : wrap .u64 c ≠ 0) : Tot (num_Wide_Mod.F (a, b, c)) := by
  have d0 (p q r s : Int) : Tot (num_Wide_Mod.D0 (c, p, q, r, s)) := by
    have k1 := wr_u64 c
    refine Tot.of (num_Wide_Mod.D0_of _) (Y.tot (Y.nn h (Tot.y (Tot.bnd (bits_Div64_tot _ _ _ (by omega) (by omega) (Int.tmod_lt_of_pos _ (by omega))) fun _ => Tot.br (num_Wide_Mod_d1 _) (num_Wide_Mod_d1 _)))))
  exact Tot.of (num_Wide_Mod.F_of _) (Tot.br Tot.some (Tot.br (Tot.bnd (num_Wide_Neg_tot _) fun _ => d0 _ _ _ _) (d0 _ _ _ _)))
theorem num_MulDivUp_tot (v : num_MulDivUp.A) : Tot (num_MulDivUp.F v) := by
  obtain ⟨a, b, c⟩ := v
  refine Tot.of (num_MulDivUp.F_of _) (Tot.bnd (num_Product_tot _) fun r => Y.tot (Y.bnd _ (num_Wide_Div_spec r.1 r.2 c) fun r1 h => Y.bif (fun k => Tot.y ?_) fun _ => Y.some trivial))
  refine Tot.bnd (num_Wide_Mod_spec _ _ _ (h ?_)) fun _ => Tot.br Tot.some (Tot.br Tot.some Tot.some)
  simpa using k
theorem bound_Check_Arc_tot (v : bound_Check_Arc.A) : Tot (bound_Check_Arc.F v) := Tot.of (bound_Check_Arc.F_of v) ((fun (v0, v1, v2) => (Tot.br Tot.some (Tot.br Tot.some (Tot.br Tot.some Tot.some))) : ∀ v, Tot (bound_Check_Arc.d v)) v)
theorem bound_Norm_Arc_tot (v : bound_Norm_Arc.A) : Tot (bound_Norm_Arc.F v) := Tot.of (bound_Norm_Arc.F_of v) ((fun (v0, v1, v2) => (Tot.bnd (bound_Check_Arc_tot _) fun _ => (Tot.br (Tot.bnd (bound_None_Arc_tot _) fun _ => Tot.some) Tot.some)) : ∀ v, Tot (bound_Norm_Arc.d bound_Check_Arc.F bound_None_Arc.F v)) v)
theorem bound_Of_Arc_tot (v : bound_Of_Arc.A) : Tot (bound_Of_Arc.F v) := Tot.of (bound_Of_Arc.F_of v) ((fun (v0, v1) => (Tot.bnd (bound_Norm_Arc_tot _) fun _ => Tot.some) : ∀ v, Tot (bound_Of_Arc.d bound_Norm_Arc.F v)) v)
theorem bound_Exact_Arc_tot (v : bound_Exact_Arc.A) : Tot (bound_Exact_Arc.F v) := Tot.of (bound_Exact_Arc.F_of v) ((fun v0 => (Tot.bnd (bound_Of_Arc_tot _) fun _ => Tot.some) : ∀ v, Tot (bound_Exact_Arc.d bound_Of_Arc.F v)) v)
theorem bound_vague_Arc_tot (v : bound_vague_Arc.A) : Tot (bound_vague_Arc.F v) := Tot.of (bound_vague_Arc.F_of v) ((fun (v0, v1, v2, v3, v4, v5) => (Tot.bnd (bound_Norm_Arc_tot _) fun _ => (Tot.br (Tot.bnd (bound_Norm_Arc_tot _) fun _ => Tot.some) Tot.some)) : ∀ v, Tot (bound_vague_Arc.d bound_Norm_Arc.F v)) v)
theorem bound_Add_Arc_tot (v : bound_Add_Arc.A) : Tot (bound_Add_Arc.F v) := Tot.of (bound_Add_Arc.F_of v) ((fun (v0, v1, v2, v3, v4, v5) => (Tot.bnd (bound_vague_Arc_tot _) fun _ => (Tot.br (Tot.bnd (bound_None_Arc_tot _) fun _ => Tot.some) (Tot.bnd (bound_Of_Arc_tot _) fun _ => Tot.some))) : ∀ v, Tot (bound_Add_Arc.d bound_vague_Arc.F bound_None_Arc.F bound_Of_Arc.F v)) v)
theorem scale_Sidereal_tot (v : scale_Sidereal.A) : Tot (scale_Sidereal.F v) := Tot.of (scale_Sidereal.F_of v) ((fun (v0, v1, v2, v3, v4, v5, v6) => (Tot.bnd (bound_Exact_Tick_tot _) fun _ => (Tot.bnd (bound_Sub_Tick_tot _) fun _ => (Tot.bnd (scale_CheckRate_tot _) fun _ => (Tot.br (Tot.bnd (bound_None_Arc_tot _) fun _ => Tot.some) (Tot.bnd (num_MulDiv_tot _) fun _ => (Tot.bnd (num_MulDivUp_tot _) fun _ => (Tot.br (Tot.bnd (bound_None_Arc_tot _) fun _ => Tot.some) (Tot.bnd (bound_Of_Arc_tot _) fun _ => (Tot.bnd (bound_Exact_Arc_tot _) fun _ => (Tot.bnd (bound_Add_Arc_tot _) fun _ => Tot.some)))))))))) : ∀ v, Tot (scale_Sidereal.d bound_Exact_Tick.F bound_Sub_Tick.F scale_CheckRate.F bound_None_Arc.F num_MulDiv.F num_MulDivUp.F bound_Of_Arc.F bound_Exact_Arc.F bound_Add_Arc.F v)) v)
theorem horizon_CheckSite_tot (v : horizon_CheckSite.A) : Tot (horizon_CheckSite.F v) := Tot.of (horizon_CheckSite.F_of v) ((fun (v0, v1) => (Tot.br Tot.some Tot.some) : ∀ v, Tot (horizon_CheckSite.d v)) v)
theorem sphere_Check_tot (v : sphere_Check.A) : Tot (sphere_Check.F v) := Tot.of (sphere_Check.F_of v) ((fun (v0, v1, v2) => (Tot.br Tot.some (Tot.br Tot.some Tot.some)) : ∀ v, Tot (sphere_Check.d v)) v)
theorem cmp_Or_Errno_d0 (l : List Int) (hl : l.length ≤ 1000) (n : Nat) : ∀ (j : Nat) (_ : j + n = l.length) (z : Int), Tot (cmp_Or_Errno.D0 (z, l, (l.length : Int), (j : Int))) := by
  induction n with
  | zero => exact fun j e z => Y.tot (Y.of (cmp_Or_Errno.D0_of _) (Y.nd (by omega) (Y.some trivial)))
  | succ n ih =>
    intro j e z
    refine Y.tot (Y.of (cmp_Or_Errno.D0_of _) (Y.pd (by omega) (Y.pd (by omega) (Y.bif (fun _ => Y.some trivial) fun _ => Tot.y ?_))))
    rw [w64 (x := (j : Int) + 1) (by omega) (by omega)]
    exact ih (j + 1) (by omega) _
theorem cmp_Or_Errno_tot (a b : Int) : Tot (cmp_Or_Errno.F [a, b]) := Tot.of (cmp_Or_Errno.F_of _) (cmp_Or_Errno_d0 [a, b] (by simp) 2 0 rfl _)
theorem bound_None_Fix_tot (v : bound_None_Fix.A) : Tot (bound_None_Fix.F v) := Tot.of (bound_None_Fix.F_of v) ((fun _ => Tot.some : ∀ v, Tot (bound_None_Fix.d v)) v)
theorem sphere_Check_spec (a b c : Int) : Y (sphere_Check.F (a, b, c)) fun r => r = 0 → (-1048576 ≤ a ∧ a ≤ 1048576 ∧ -1048576 ≤ b ∧ b ≤ 1048576 ∧ -1048576 ≤ c ∧ c ≤ 1048576) ∧ ¬ (a = 0 ∧ b = 0 ∧ c = 0) := by
  refine Y.of (sphere_Check.F_of _) (Y.bif (fun _ => Y.some (fun h => absurd h (by decide))) fun h1 => Y.bif (fun _ => Y.some (fun h => absurd h (by decide))) fun h2 => Y.some fun _ => ?_)
  simp only [Bool.or_eq_false_iff, decide_eq_false_iff_not] at h1
  simp only [Bool.and_true, Bool.and_eq_false_iff, decide_eq_false_iff_not] at h2
  refine ⟨by omega, by omega⟩
theorem sphere_Grow_d0 (n : Nat) : ∀ (a b c d e f : Int) (_ : -1048576 ≤ a ∧ a ≤ 1048576 ∧ -1048576 ≤ b ∧ b ≤ 1048576 ∧ -1048576 ≤ c ∧ c ≤ 1048576) (_ : ¬ (a = 0 ∧ b = 0 ∧ c = 0)) (_ : 1048577 - max (max a (-a)) (max (max b (-b)) (max c (-c))) ≤ n), Tot (sphere_Grow.D0 (a, b, c, d, e, f)) := by
  induction n with
  | zero =>
    intro a b c d e f h1 h2 h3
    exact absurd h3 (by omega)
  | succ n ih =>
    intro a b c d e f h1 h2 h3
    refine Tot.of (sphere_Grow.D0_of _) (Y.tot (Y.bnd _ (sphere_Check_spec _ _ _) fun r hr => Y.nite (fun _ => Y.some trivial) fun k => Tot.y ?_))
    obtain ⟨h4, h5⟩ := hr k
    rw [w64 (x := 2 * a) (by omega) (by omega), w64 (x := 2 * b) (by omega) (by omega), w64 (x := 2 * c) (by omega) (by omega)] at h4 h5 ⊢
    exact ih _ _ _ _ _ _ h4 h5 (by omega)
theorem sphere_Grow_tot (v : sphere_Grow.A) : Tot (sphere_Grow.F v) := by
  obtain ⟨a, b, c⟩ := v
  refine Tot.of (sphere_Grow.F_of _) (Y.tot (Y.bnd _ (sphere_Check_spec _ _ _) fun r hr => Y.nite (fun _ => Y.some trivial) fun k => Tot.y (sphere_Grow_d0 1048577 _ _ _ _ _ _ (hr k).1 (hr k).2 (by omega))))
theorem num_FloorDiv_tot_d0 (v : num_FloorDiv.T0) : Tot (num_FloorDiv.D0 v) := Tot.of (num_FloorDiv.D0_of v) Tot.some
theorem num_FloorDiv_tot (v : num_FloorDiv.A) : Tot (num_FloorDiv.F v) := Tot.of (num_FloorDiv.F_of v) (Y.tot (Y.ite (fun _ => Y.some trivial) fun c => Y.nn (by omega) (Y.nn (by omega) (Tot.y (Tot.br (num_FloorDiv_tot_d0 _) (num_FloorDiv_tot_d0 _))))))
theorem trig_meets_tot (v : trig_meets.A) : Tot (trig_meets.F v) := Tot.of (trig_meets.F_of v) ((fun (v0, v1, v2, v3) => (Tot.bnd (num_FloorDiv_tot _) fun _ => (Tot.bnd (num_CeilDiv_tot _) fun _ => Tot.some)) : ∀ v, Tot (trig_meets.d num_FloorDiv.F num_CeilDiv.F v)) v)
theorem bound_Check_Fix_tot (v : bound_Check_Fix.A) : Tot (bound_Check_Fix.F v) := Tot.of (bound_Check_Fix.F_of v) ((fun (v0, v1, v2) => (Tot.br Tot.some (Tot.br Tot.some (Tot.br Tot.some Tot.some))) : ∀ v, Tot (bound_Check_Fix.d v)) v)
theorem bound_Norm_Fix_tot (v : bound_Norm_Fix.A) : Tot (bound_Norm_Fix.F v) := Tot.of (bound_Norm_Fix.F_of v) ((fun (v0, v1, v2) => (Tot.bnd (bound_Check_Fix_tot _) fun _ => (Tot.br (Tot.bnd (bound_None_Fix_tot _) fun _ => Tot.some) Tot.some)) : ∀ v, Tot (bound_Norm_Fix.d bound_Check_Fix.F bound_None_Fix.F v)) v)
theorem bound_Of_Fix_tot (v : bound_Of_Fix.A) : Tot (bound_Of_Fix.F v) := Tot.of (bound_Of_Fix.F_of v) ((fun (v0, v1) => (Tot.bnd (bound_Norm_Fix_tot _) fun _ => Tot.some) : ∀ v, Tot (bound_Of_Fix.d bound_Norm_Fix.F v)) v)
theorem trig_times_tot (v : trig_times.A) : Tot (trig_times.F v) := Tot.of (trig_times.F_of v) ((fun (v0, v1) => (Tot.bnd (num_MulDiv_tot _) fun _ => Tot.some) : ∀ v, Tot (trig_times.d num_MulDiv.F v)) v)
theorem trig_series_d0 (l : List Int) (hl : l.length ≤ 1000) (hz : ∀ x ∈ l, x ≠ 0) (n : Nat) : ∀ (j : Nat) (_ : j + n = l.length) (x s : Int), Tot (trig_series.D0 (x, s, l, (l.length : Int), (j : Int))) := by
  induction n with
  | zero => exact fun j e x s => Y.tot (Y.of (trig_series.D0_of _) (Y.nd (by omega) (Y.some trivial)))
  | succ n ih =>
    intro j e x s
    refine Y.tot (Y.of (trig_series.D0_of _) (Y.pd (by omega) (Y.pd (by omega) (Y.bnd _ (Tot.y (trig_times_tot _)) fun r _ => Y.nn (hz _ (rd_mem (t := .int .i64) l (j : Int) (by omega) (by omega))) (Tot.y ?_)))))
    rw [w64 (x := (j : Int) + 1) (by omega) (by omega)]
    exact ih (j + 1) (by omega) _ _
theorem trig_series_tot (x : Int) (l : List Int) (hl : l.length ≤ 1000) (hz : ∀ x ∈ l, x ≠ 0) : Tot (trig_series.F (x, l)) := Tot.of (trig_series.F_of _) (trig_series_d0 l hl hz l.length 0 (by omega) _ _)
theorem num_RoundDiv_tot_d0 (v : num_RoundDiv.T0) : Tot (num_RoundDiv.D0 v) := Tot.of (num_RoundDiv.D0_of v) Tot.some
theorem num_RoundDiv_tot (v : num_RoundDiv.A) : Tot (num_RoundDiv.F v) := Tot.of (num_RoundDiv.F_of v) (Y.tot (Y.ite (fun _ => Y.some trivial) fun c => Y.nn (by omega) (Y.nn (by omega) (Tot.y (Tot.br (num_RoundDiv_tot_d0 _) (Tot.br (num_RoundDiv_tot_d0 _) (num_RoundDiv_tot_d0 _)))))))
theorem trig_quarter_tot_d0 (v : trig_quarter.T0) : Tot (trig_quarter.D0 v) := Tot.of (trig_quarter.D0_of v) (Tot.bnd (num_MulDiv_tot _) fun _ => Tot.bnd (trig_times_tot _) fun _ => Tot.br (Tot.bnd (trig_series_tot _ _ (by decide) (by decide)) fun _ => Tot.bnd (num_RoundDiv_tot _) fun _ => Tot.some) (Tot.bnd (trig_series_tot _ _ (by decide) (by decide)) fun _ => Tot.bnd (trig_times_tot _) fun _ => Tot.bnd (num_RoundDiv_tot _) fun _ => Tot.some))
theorem trig_quarter_tot (v : trig_quarter.A) : Tot (trig_quarter.F v) := Tot.of (trig_quarter.F_of v) (Tot.br (trig_quarter_tot_d0 _) (trig_quarter_tot_d0 _))
theorem trig_Sin_tot (v : trig_Sin.A) : Tot (trig_Sin.F v) := Tot.of (trig_Sin.F_of v) (Y.tot (Y.nn (by decide) (Tot.y (Tot.br (Tot.bnd (trig_quarter_tot _) fun _ => Tot.some) (Tot.br (Tot.bnd (trig_quarter_tot _) fun _ => Tot.some) (Tot.br (Tot.bnd (trig_quarter_tot _) fun _ => Tot.some) (Tot.bnd (trig_quarter_tot _) fun _ => Tot.some)))))))
theorem trig_Cos_tot (v : trig_Cos.A) : Tot (trig_Cos.F v) := Tot.of (trig_Cos.F_of v) ((fun v0 => (Tot.bnd (trig_Sin_tot _) fun _ => Tot.some) : ∀ v, Tot (trig_Cos.d trig_Sin.F v)) v)
theorem trig_wave_tot_d1 (v : trig_wave.T1) : Tot (trig_wave.D1 v) := Tot.of (trig_wave.D1_of v) ((fun (v0, v1, v2, v3, v4) => (Tot.bnd (bound_Of_Fix_tot _) fun _ => Tot.some) : ∀ v, Tot (trig_wave.d1 bound_Of_Fix.F v)) v)
theorem trig_wave_tot_d0 (v : trig_wave.T0) : Tot (trig_wave.D0 v) := Tot.of (trig_wave.D0_of v) ((fun (v0, v1, v2, v3, v4, v5, v6, v7, v8) => (Tot.bnd (trig_meets_tot _) fun _ => (Tot.br (trig_wave_tot_d1 _) (trig_wave_tot_d1 _))) : ∀ v, Tot (trig_wave.d0 trig_meets.F trig_wave.D1 v)) v)
theorem trig_wave_tot (v : trig_wave.A) : Tot (trig_wave.F v) := Tot.of (trig_wave.F_of v) ((fun (v0, v1, v2, v3) => (Tot.bnd (bound_Norm_Arc_tot _) fun _ => (Tot.br (Tot.bnd (bound_None_Fix_tot _) fun _ => Tot.some) (Tot.bnd (trig_Cos_tot _) fun _ => (Tot.bnd (trig_Cos_tot _) fun _ => (Tot.bnd (trig_meets_tot _) fun _ => (Tot.br (trig_wave_tot_d0 _) (trig_wave_tot_d0 _))))))) : ∀ v, Tot (trig_wave.d bound_Norm_Arc.F bound_None_Fix.F trig_Cos.F trig_meets.F trig_wave.D0 v)) v)
theorem trig_CosBound_tot (v : trig_CosBound.A) : Tot (trig_CosBound.F v) := Tot.of (trig_CosBound.F_of v) ((fun (v0, v1, v2) => (Tot.bnd (trig_wave_tot _) fun _ => Tot.some) : ∀ v, Tot (trig_CosBound.d trig_wave.F v)) v)
theorem bound_Exact_Fix_tot (v : bound_Exact_Fix.A) : Tot (bound_Exact_Fix.F v) := Tot.of (bound_Exact_Fix.F_of v) ((fun v0 => (Tot.bnd (bound_Of_Fix_tot _) fun _ => Tot.some) : ∀ v, Tot (bound_Exact_Fix.d bound_Of_Fix.F v)) v)
theorem bound_vague_Fix_tot (v : bound_vague_Fix.A) : Tot (bound_vague_Fix.F v) := Tot.of (bound_vague_Fix.F_of v) ((fun (v0, v1, v2, v3, v4, v5) => (Tot.bnd (bound_Norm_Fix_tot _) fun _ => (Tot.br (Tot.bnd (bound_Norm_Fix_tot _) fun _ => Tot.some) Tot.some)) : ∀ v, Tot (bound_vague_Fix.d bound_Norm_Fix.F v)) v)
theorem slices_Min_Fix_d0 (l : List Int) (hl : l.length ≤ 1000) (n : Nat) : ∀ (j : Nat) (_ : j + n = l.length) (z : Int), Tot (slices_Min_Fix.D0 (l, z, (j : Int))) := by
  induction n with
  | zero => exact fun j e z => Y.tot (Y.of (slices_Min_Fix.D0_of _) (Y.nd (by omega) (Y.some trivial)))
  | succ n ih =>
    intro j e z
    refine Y.tot (Y.of (slices_Min_Fix.D0_of _) (Y.pd (by omega) (Y.pd (by omega) (Tot.y ?_))))
    rw [w64 (x := (j : Int) + 1) (by omega) (by omega)]
    exact ih (j + 1) (by omega) _
theorem slices_Min_Fix_tot (l : List Int) (h0 : 0 < l.length) (h1 : l.length ≤ 1000) : Tot (slices_Min_Fix.F l) := Tot.of (slices_Min_Fix.F_of _) (Y.tot (Y.nd (by omega) (Y.pd (by omega) (Tot.y (slices_Min_Fix_d0 l h1 (l.length - 1) 1 (by omega) _)))))
theorem slices_Max_Fix_d0 (l : List Int) (hl : l.length ≤ 1000) (n : Nat) : ∀ (j : Nat) (_ : j + n = l.length) (z : Int), Tot (slices_Max_Fix.D0 (l, z, (j : Int))) := by
  induction n with
  | zero => exact fun j e z => Y.tot (Y.of (slices_Max_Fix.D0_of _) (Y.nd (by omega) (Y.some trivial)))
  | succ n ih =>
    intro j e z
    refine Y.tot (Y.of (slices_Max_Fix.D0_of _) (Y.pd (by omega) (Y.pd (by omega) (Tot.y ?_))))
    rw [w64 (x := (j : Int) + 1) (by omega) (by omega)]
    exact ih (j + 1) (by omega) _
theorem slices_Max_Fix_tot (l : List Int) (h0 : 0 < l.length) (h1 : l.length ≤ 1000) : Tot (slices_Max_Fix.F l) := Tot.of (slices_Max_Fix.F_of _) (Y.tot (Y.nd (by omega) (Y.pd (by omega) (Tot.y (slices_Max_Fix_d0 l h1 (l.length - 1) 1 (by omega) _)))))
theorem bound_Mul_FixS1_tot (v : bound_Mul_FixS1.A) : Tot (bound_Mul_FixS1.F v) := Tot.of (bound_Mul_FixS1.F_of v) ((fun (v0, v1, v2) => (Tot.bnd (num_MulDiv_tot _) fun _ => Tot.some) : ∀ v, Tot (bound_Mul_FixS1.d num_MulDiv.F v)) v)
theorem bound_Mul_FixS2_tot (v : bound_Mul_FixS2.A) : Tot (bound_Mul_FixS2.F v) := Tot.of (bound_Mul_FixS2.F_of v) ((fun (v0, v1, v2) => (Tot.bnd (num_MulDivUp_tot _) fun _ => Tot.some) : ∀ v, Tot (bound_Mul_FixS2.d num_MulDivUp.F v)) v)
theorem bound_corners_Fix_d1 (B : Nat) (hB : B ≤ 8) (n : Nat) (a0 a1 a2 a6 a7 : Int) (a8 : Bool) (a9 a10 : Int) (a11 : Bool) (a13 a14 : List Int) (h14 : a14.length = 2)
    (h : ∀ b2 (r : List Int), 0 < r.length → r.length ≤ B → Tot (bound_corners_Fix.D0 (a1, wrap .i64 (a2 + 1), b2, a6, a7, a8, a9, a10, a11, r, a13))) : ∀ (j : Nat) (_ : j + n = 2) (a5 : Int) (r : List Int), (0 < r.length ∨ j = 0) → r.length + 2 * n ≤ B → Tot (bound_corners_Fix.D1 (a0, a1, a2, 2, (j : Int), a5, a6, a7, a8, a9, a10, a11, r, a13, a14)) := by
  induction n with
  | zero =>
    intro j e a5 r h0 h1
    refine Y.tot (Y.of (bound_corners_Fix.D1_of _) (Y.nd (by omega) (Tot.y ?_)))
    exact h _ _ (by omega) (by omega)
  | succ n ih =>
    intro j e a5 r h0 h1
    refine Y.tot (Y.of (bound_corners_Fix.D1_of _) (Y.pd (by omega) (Y.pd (by omega) (Y.bnd _ (Tot.y (bound_Mul_FixS1_tot _)) fun x _ => Y.bnd _ (Tot.y (bound_Mul_FixS2_tot _)) fun y _ => Y.bif (fun _ => Tot.y (Tot.bnd (bound_None_Fix_tot _) fun _ => Tot.some)) fun _ => Y.pd ?_ (Tot.y ?_)))))
    · show r.length + 2 ≤ _
      omega
    · rw [w64 (x := (j : Int) + 1) (by omega) (by omega)]
      exact ih (j + 1) (by omega) _ _ (.inl (by rw [List.length_append]; simp)) (by rw [List.length_append]; simp only [List.length_cons, List.length_nil]; omega)
theorem bound_corners_Fix_tot (v : bound_corners_Fix.A) : Tot (bound_corners_Fix.F v) := by
  obtain ⟨a, b, c, d, e, f, g⟩ := v
  have f2 (b2 : Int) (r : List Int) (h0 : 0 < r.length) (h1 : r.length ≤ 8) : Tot (bound_corners_Fix.D0 (2, 2, b2, d, e, f, 0, 0, false, r, [a, b])) := Tot.of (bound_corners_Fix.D0_of _) (Y.tot (Y.nd (by decide) (Tot.y (Tot.bnd (slices_Min_Fix_tot _ h0 (by omega)) fun _ => Tot.bnd (slices_Max_Fix_tot _ h0 (by omega)) fun _ => Tot.bnd (bound_Of_Fix_tot _) fun _ => Tot.some))))
  have f1 (b2 : Int) (r : List Int) (h1 : r.length ≤ 4) : Tot (bound_corners_Fix.D0 (2, 1, b2, d, e, f, 0, 0, false, r, [a, b])) := Tot.of (bound_corners_Fix.D0_of _) (Y.tot (Y.pd (by decide) (Y.pd ⟨by decide, (by show (1 : Int) < 2; decide)⟩ (Tot.y (bound_corners_Fix_d1 8 (by decide) 2 _ 2 1 d e f 0 0 false [a, b] [d, e] rfl f2 0 rfl _ r (.inr rfl) (by omega))))))
  have f0 (b2 : Int) (r : List Int) (h1 : r.length = 0) : Tot (bound_corners_Fix.D0 (2, 0, b2, d, e, f, 0, 0, false, r, [a, b])) := Tot.of (bound_corners_Fix.D0_of _) (Y.tot (Y.pd (by decide) (Y.pd ⟨by decide, (by show (0 : Int) < 2; decide)⟩ (Tot.y (bound_corners_Fix_d1 4 (by decide) 2 _ 2 0 d e f 0 0 false [a, b] [d, e] rfl (fun b2 r _ h => f1 b2 r h) 0 rfl _ r (.inr rfl) (by omega))))))
  exact Tot.of (bound_corners_Fix.F_of _) (f0 g [] rfl)
theorem bound_Mul_Fix_tot (v : bound_Mul_Fix.A) : Tot (bound_Mul_Fix.F v) := Tot.of (bound_Mul_Fix.F_of v) ((fun (v0, v1, v2, v3, v4, v5, v6) => (Tot.bnd (bound_vague_Fix_tot _) fun _ => (Tot.br (Tot.bnd (bound_None_Fix_tot _) fun _ => Tot.some) (Tot.bnd (bound_corners_Fix_tot _) fun _ => Tot.some))) : ∀ v, Tot (bound_Mul_Fix.d bound_vague_Fix.F bound_None_Fix.F bound_corners_Fix.F v)) v)
theorem bound_Scale_Fix_tot (v : bound_Scale_Fix.A) : Tot (bound_Scale_Fix.F v) := Tot.of (bound_Scale_Fix.F_of v) ((fun (v0, v1, v2, v3, v4) => (Tot.bnd (bound_Exact_Fix_tot _) fun _ => (Tot.bnd (bound_Mul_Fix_tot _) fun _ => Tot.some)) : ∀ v, Tot (bound_Scale_Fix.d bound_Exact_Fix.F bound_Mul_Fix.F v)) v)
theorem trig_wave_1_tot_d1 (v : trig_wave_1.T1) : Tot (trig_wave_1.D1 v) := Tot.of (trig_wave_1.D1_of v) ((fun (v0, v1, v2, v3, v4) => (Tot.bnd (bound_Of_Fix_tot _) fun _ => Tot.some) : ∀ v, Tot (trig_wave_1.d1 bound_Of_Fix.F v)) v)
theorem trig_wave_1_tot_d0 (v : trig_wave_1.T0) : Tot (trig_wave_1.D0 v) := Tot.of (trig_wave_1.D0_of v) ((fun (v0, v1, v2, v3, v4, v5, v6, v7, v8) => (Tot.bnd (trig_meets_tot _) fun _ => (Tot.br (trig_wave_1_tot_d1 _) (trig_wave_1_tot_d1 _))) : ∀ v, Tot (trig_wave_1.d0 trig_meets.F trig_wave_1.D1 v)) v)
theorem trig_wave_1_tot (v : trig_wave_1.A) : Tot (trig_wave_1.F v) := Tot.of (trig_wave_1.F_of v) ((fun (v0, v1, v2, v3) => (Tot.bnd (bound_Norm_Arc_tot _) fun _ => (Tot.br (Tot.bnd (bound_None_Fix_tot _) fun _ => Tot.some) (Tot.bnd (trig_Sin_tot _) fun _ => (Tot.bnd (trig_Sin_tot _) fun _ => (Tot.bnd (trig_meets_tot _) fun _ => (Tot.br (trig_wave_1_tot_d0 _) (trig_wave_1_tot_d0 _))))))) : ∀ v, Tot (trig_wave_1.d bound_Norm_Arc.F bound_None_Fix.F trig_Sin.F trig_meets.F trig_wave_1.D0 v)) v)
theorem trig_SinBound_tot (v : trig_SinBound.A) : Tot (trig_SinBound.F v) := Tot.of (trig_SinBound.F_of v) ((fun (v0, v1, v2) => (Tot.bnd (trig_wave_1_tot _) fun _ => Tot.some) : ∀ v, Tot (trig_SinBound.d trig_wave_1.F v)) v)
theorem bound_Add_Fix_tot (v : bound_Add_Fix.A) : Tot (bound_Add_Fix.F v) := Tot.of (bound_Add_Fix.F_of v) ((fun (v0, v1, v2, v3, v4, v5) => (Tot.bnd (bound_vague_Fix_tot _) fun _ => (Tot.br (Tot.bnd (bound_None_Fix_tot _) fun _ => Tot.some) (Tot.bnd (bound_Of_Fix_tot _) fun _ => Tot.some))) : ∀ v, Tot (bound_Add_Fix.d bound_vague_Fix.F bound_None_Fix.F bound_Of_Fix.F v)) v)
theorem num_SqrtMul_d0 (n : Nat) : ∀ (a b c d : Int) (_ : d ≤ n), Tot (num_SqrtMul.D0 (a, b, c, d)) := by
  induction n with
  | zero => exact fun a b c d h => Y.tot (Y.of (num_SqrtMul.D0_of _) (Y.nd (by omega) (Y.some trivial)))
  | succ n ih =>
    intro a b c d h
    refine Tot.of (num_SqrtMul.D0_of _) (Y.tot (Y.ite (fun k => ?_) fun _ => Y.some trivial))
    obtain ⟨m, rfl⟩ : ∃ m : Nat, d = m := ⟨d.toNat, by omega⟩
    have d1 (x y z : Int) : Tot (num_SqrtMul.D1 (x, y, z, (m : Int))) := by
      refine Tot.of (num_SqrtMul.D1_of _) (Y.tot (Y.pd (by decide) (Tot.y ?_)))
      have e := shr_nat .u64 m 1 (by decide)
      rw [show ((1 : Nat) : Int) = 1 from rfl] at e
      rw [e]
      exact ih _ _ _ _ (by omega)
    exact Tot.y (Tot.bnd (bits_Mul64_tot _) fun _ => Tot.br (d1 _ _ _) (d1 _ _ _))
theorem num_SqrtMul_tot (v : num_SqrtMul.A) : Tot (num_SqrtMul.F v) := Tot.of (num_SqrtMul.F_of v) (Tot.br Tot.some (Tot.bnd (bits_Mul64_tot _) fun _ => num_SqrtMul_d0 4611686018427387904 _ _ _ _ (by decide)))
theorem cmp_isNaN_int64_tot (v : cmp_isNaN_int64.A) : Tot (cmp_isNaN_int64.F v) := Tot.of (cmp_isNaN_int64.F_of v) ((fun v0 => Tot.some : ∀ v, Tot (cmp_isNaN_int64.d v)) v)
theorem cmp_Compare_int64_tot (v : cmp_Compare_int64.A) : Tot (cmp_Compare_int64.F v) := Tot.of (cmp_Compare_int64.F_of v) ((fun (v0, v1) => (Tot.bnd (cmp_isNaN_int64_tot _) fun _ => (Tot.bnd (cmp_isNaN_int64_tot _) fun _ => (Tot.br (Tot.br Tot.some Tot.some) (Tot.br Tot.some (Tot.br Tot.some (Tot.br Tot.some Tot.some)))))) : ∀ v, Tot (cmp_Compare_int64.d cmp_isNaN_int64.F v)) v)
theorem cmp_isNaN_uint64_tot (v : cmp_isNaN_uint64.A) : Tot (cmp_isNaN_uint64.F v) := Tot.of (cmp_isNaN_uint64.F_of v) ((fun v0 => Tot.some : ∀ v, Tot (cmp_isNaN_uint64.d v)) v)
theorem cmp_Compare_uint64_tot (v : cmp_Compare_uint64.A) : Tot (cmp_Compare_uint64.F v) := Tot.of (cmp_Compare_uint64.F_of v) ((fun (v0, v1) => (Tot.bnd (cmp_isNaN_uint64_tot _) fun _ => (Tot.bnd (cmp_isNaN_uint64_tot _) fun _ => (Tot.br (Tot.br Tot.some Tot.some) (Tot.br Tot.some (Tot.br Tot.some (Tot.br Tot.some Tot.some)))))) : ∀ v, Tot (cmp_Compare_uint64.d cmp_isNaN_uint64.F v)) v)
theorem cmp_Or_int_d0 (l : List Int) (hl : l.length ≤ 1000) (n : Nat) : ∀ (j : Nat) (_ : j + n = l.length) (z : Int), Tot (cmp_Or_int.D0 (z, l, (l.length : Int), (j : Int))) := by
  induction n with
  | zero => exact fun j e z => Y.tot (Y.of (cmp_Or_int.D0_of _) (Y.nd (by omega) (Y.some trivial)))
  | succ n ih =>
    intro j e z
    refine Y.tot (Y.of (cmp_Or_int.D0_of _) (Y.pd (by omega) (Y.pd (by omega) (Y.bif (fun _ => Y.some trivial) fun _ => Tot.y ?_))))
    rw [w64 (x := (j : Int) + 1) (by omega) (by omega)]
    exact ih (j + 1) (by omega) _
theorem cmp_Or_int_tot (a b : Int) : Tot (cmp_Or_int.F [a, b]) := Tot.of (cmp_Or_int.F_of _) (cmp_Or_int_d0 [a, b] (by simp) 2 0 rfl _)
theorem num_Wide_Cmp_tot (v : num_Wide_Cmp.A) : Tot (num_Wide_Cmp.F v) := Tot.of (num_Wide_Cmp.F_of v) ((fun (v0, v1, v2, v3) => (Tot.bnd (cmp_Compare_int64_tot _) fun _ => (Tot.bnd (cmp_Compare_uint64_tot _) fun _ => (Tot.bnd (cmp_Or_int_tot _ _) fun _ => Tot.some))) : ∀ v, Tot (num_Wide_Cmp.d cmp_Compare_int64.F cmp_Compare_uint64.F cmp_Or_int.F v)) v)
theorem bound_Root_Fix_tot_d0 (v : bound_Root_Fix.T0) : Tot (bound_Root_Fix.D0 v) := Tot.of (bound_Root_Fix.D0_of v) ((fun (v0, v1, v2, v3, v4) => (Tot.bnd (bound_Of_Fix_tot _) fun _ => Tot.some) : ∀ v, Tot (bound_Root_Fix.d0 bound_Of_Fix.F v)) v)
theorem bound_Root_Fix_tot (v : bound_Root_Fix.A) : Tot (bound_Root_Fix.F v) := Tot.of (bound_Root_Fix.F_of v) ((fun (v0, v1, v2, v3) => (Tot.bnd (bound_vague_Fix_tot _) fun _ => (Tot.br (Tot.bnd (bound_None_Fix_tot _) fun _ => Tot.some) (Tot.bnd (num_SqrtMul_tot _) fun _ => (Tot.bnd (num_SqrtMul_tot _) fun _ => (Tot.bnd (num_Product_tot _) fun _ => (Tot.bnd (num_Product_tot _) fun _ => (Tot.bnd (num_Wide_Cmp_tot _) fun _ => (Tot.br (bound_Root_Fix_tot_d0 _) (bound_Root_Fix_tot_d0 _))))))))) : ∀ v, Tot (bound_Root_Fix.d bound_vague_Fix.F bound_None_Fix.F num_SqrtMul.F num_Product.F num_Wide_Cmp.F bound_Root_Fix.D0 v)) v)
theorem bound_Div_FixS1_tot (v : bound_Div_FixS1.A) : Tot (bound_Div_FixS1.F v) := Tot.of (bound_Div_FixS1.F_of v) ((fun (v0, v1, v2) => (Tot.bnd (num_MulDiv_tot _) fun _ => Tot.some) : ∀ v, Tot (bound_Div_FixS1.d num_MulDiv.F v)) v)
theorem bound_Div_FixS2_tot (v : bound_Div_FixS2.A) : Tot (bound_Div_FixS2.F v) := Tot.of (bound_Div_FixS2.F_of v) ((fun (v0, v1, v2) => (Tot.bnd (num_MulDivUp_tot _) fun _ => Tot.some) : ∀ v, Tot (bound_Div_FixS2.d num_MulDivUp.F v)) v)
theorem bound_corners_Fix_1_d1 (B : Nat) (hB : B ≤ 8) (n : Nat) (a0 a1 a2 a6 a7 : Int) (a8 : Bool) (a9 a10 : Int) (a11 : Bool) (a13 a14 : List Int) (h14 : a14.length = 2)
    (h : ∀ b2 (r : List Int), 0 < r.length → r.length ≤ B → Tot (bound_corners_Fix_1.D0 (a1, wrap .i64 (a2 + 1), b2, a6, a7, a8, a9, a10, a11, r, a13))) : ∀ (j : Nat) (_ : j + n = 2) (a5 : Int) (r : List Int), (0 < r.length ∨ j = 0) → r.length + 2 * n ≤ B → Tot (bound_corners_Fix_1.D1 (a0, a1, a2, 2, (j : Int), a5, a6, a7, a8, a9, a10, a11, r, a13, a14)) := by
  induction n with
  | zero =>
    intro j e a5 r h0 h1
    refine Y.tot (Y.of (bound_corners_Fix_1.D1_of _) (Y.nd (by omega) (Tot.y ?_)))
    exact h _ _ (by omega) (by omega)
  | succ n ih =>
    intro j e a5 r h0 h1
    refine Y.tot (Y.of (bound_corners_Fix_1.D1_of _) (Y.pd (by omega) (Y.pd (by omega) (Y.bnd _ (Tot.y (bound_Div_FixS1_tot _)) fun x _ => Y.bnd _ (Tot.y (bound_Div_FixS2_tot _)) fun y _ => Y.bif (fun _ => Tot.y (Tot.bnd (bound_None_Fix_tot _) fun _ => Tot.some)) fun _ => Y.pd ?_ (Tot.y ?_)))))
    · show r.length + 2 ≤ _
      omega
    · rw [w64 (x := (j : Int) + 1) (by omega) (by omega)]
      exact ih (j + 1) (by omega) _ _ (.inl (by rw [List.length_append]; simp)) (by rw [List.length_append]; simp only [List.length_cons, List.length_nil]; omega)
theorem bound_corners_Fix_1_tot (v : bound_corners_Fix_1.A) : Tot (bound_corners_Fix_1.F v) := by
  obtain ⟨a, b, c, d, e, f, g⟩ := v
  have f2 (b2 : Int) (r : List Int) (h0 : 0 < r.length) (h1 : r.length ≤ 8) : Tot (bound_corners_Fix_1.D0 (2, 2, b2, d, e, f, 0, 0, false, r, [a, b])) := Tot.of (bound_corners_Fix_1.D0_of _) (Y.tot (Y.nd (by decide) (Tot.y (Tot.bnd (slices_Min_Fix_tot _ h0 (by omega)) fun _ => Tot.bnd (slices_Max_Fix_tot _ h0 (by omega)) fun _ => Tot.bnd (bound_Of_Fix_tot _) fun _ => Tot.some))))
  have f1 (b2 : Int) (r : List Int) (h1 : r.length ≤ 4) : Tot (bound_corners_Fix_1.D0 (2, 1, b2, d, e, f, 0, 0, false, r, [a, b])) := Tot.of (bound_corners_Fix_1.D0_of _) (Y.tot (Y.pd (by decide) (Y.pd ⟨by decide, (by show (1 : Int) < 2; decide)⟩ (Tot.y (bound_corners_Fix_1_d1 8 (by decide) 2 _ 2 1 d e f 0 0 false [a, b] [d, e] rfl f2 0 rfl _ r (.inr rfl) (by omega))))))
  have f0 (b2 : Int) (r : List Int) (h1 : r.length = 0) : Tot (bound_corners_Fix_1.D0 (2, 0, b2, d, e, f, 0, 0, false, r, [a, b])) := Tot.of (bound_corners_Fix_1.D0_of _) (Y.tot (Y.pd (by decide) (Y.pd ⟨by decide, (by show (0 : Int) < 2; decide)⟩ (Tot.y (bound_corners_Fix_1_d1 4 (by decide) 2 _ 2 0 d e f 0 0 false [a, b] [d, e] rfl (fun b2 r _ h => f1 b2 r h) 0 rfl _ r (.inr rfl) (by omega))))))
  exact Tot.of (bound_corners_Fix_1.F_of _) (f0 g [] rfl)
theorem bound_Neg_Fix_tot (v : bound_Neg_Fix.A) : Tot (bound_Neg_Fix.F v) := Tot.of (bound_Neg_Fix.F_of v) ((fun (v0, v1, v2) => (Tot.bnd (bound_Norm_Fix_tot _) fun _ => Tot.some) : ∀ v, Tot (bound_Neg_Fix.d bound_Norm_Fix.F v)) v)
theorem bound_Div_Fix_tot_d0 (v : bound_Div_Fix.T0) : Tot (bound_Div_Fix.D0 v) := Tot.of (bound_Div_Fix.D0_of v) ((fun (v0, v1, v2, v3, v4, v5, v6, v7, v8, v9) => (Tot.bnd (bound_corners_Fix_1_tot _) fun _ => Tot.some) : ∀ v, Tot (bound_Div_Fix.d0 bound_corners_Fix_1.F v)) v)
theorem bound_Div_Fix_tot (v : bound_Div_Fix.A) : Tot (bound_Div_Fix.F v) := Tot.of (bound_Div_Fix.F_of v) ((fun (v0, v1, v2, v3, v4, v5, v6) => (Tot.bnd (bound_vague_Fix_tot _) fun _ => (Tot.br (Tot.bnd (bound_None_Fix_tot _) fun _ => Tot.some) (Tot.br (Tot.bnd (bound_Neg_Fix_tot _) fun _ => (Tot.bnd (bound_Neg_Fix_tot _) fun _ => (bound_Div_Fix_tot_d0 _))) (bound_Div_Fix_tot_d0 _)))) : ∀ v, Tot (bound_Div_Fix.d bound_vague_Fix.F bound_None_Fix.F bound_Neg_Fix.F bound_Div_Fix.D0 v)) v)
theorem bound_Meet_Fix_tot (v : bound_Meet_Fix.A) : Tot (bound_Meet_Fix.F v) := Tot.of (bound_Meet_Fix.F_of v) ((fun (v0, v1, v2, v3, v4, v5) => (Tot.bnd (bound_Norm_Fix_tot _) fun _ => (Tot.bnd (bound_Norm_Fix_tot _) fun _ => (Tot.br Tot.some (Tot.br Tot.some (Tot.br Tot.some (Tot.bnd (bound_Of_Fix_tot _) fun _ => Tot.some)))))) : ∀ v, Tot (bound_Meet_Fix.d bound_Norm_Fix.F bound_Of_Fix.F v)) v)
theorem horizon_Height_tot (v : horizon_Height.A) : Tot (horizon_Height.F v) := Tot.of (horizon_Height.F_of v) ((fun (v0, v1, v2, v3, v4, v5, v6, v7) => (Tot.bnd (horizon_CheckSite_tot _) fun _ => (Tot.bnd (sphere_Check_tot _) fun _ => (Tot.bnd (cmp_Or_Errno_tot _ _) fun _ => (Tot.br (Tot.bnd (bound_None_Fix_tot _) fun _ => Tot.some) (Tot.bnd (sphere_Grow_tot _) fun _ => (Tot.bnd (bound_Exact_Arc_tot _) fun _ => (Tot.bnd (bound_Add_Arc_tot _) fun _ => (Tot.bnd (bound_Exact_Arc_tot _) fun _ => (Tot.bnd (trig_CosBound_tot _) fun _ => (Tot.bnd (bound_Scale_Fix_tot _) fun _ => (Tot.bnd (trig_SinBound_tot _) fun _ => (Tot.bnd (bound_Scale_Fix_tot _) fun _ => (Tot.bnd (bound_Add_Fix_tot _) fun _ => (Tot.bnd (trig_SinBound_tot _) fun _ => (Tot.bnd (bound_Scale_Fix_tot _) fun _ => (Tot.bnd (trig_CosBound_tot _) fun _ => (Tot.bnd (bound_Mul_Fix_tot _) fun _ => (Tot.bnd (bound_Add_Fix_tot _) fun _ => (Tot.bnd (bound_Exact_Fix_tot _) fun _ => (Tot.bnd (bound_Root_Fix_tot _) fun _ => (Tot.bnd (bound_Div_Fix_tot _) fun _ => (Tot.br Tot.some (Tot.bnd (bound_Of_Fix_tot _) fun _ => (Tot.bnd (bound_Meet_Fix_tot _) fun _ => Tot.some)))))))))))))))))))))))) : ∀ v, Tot (horizon_Height.d horizon_CheckSite.F sphere_Check.F cmp_Or_Errno.F bound_None_Fix.F sphere_Grow.F bound_Exact_Arc.F bound_Add_Arc.F trig_CosBound.F bound_Scale_Fix.F trig_SinBound.F bound_Add_Fix.F bound_Mul_Fix.F bound_Exact_Fix.F bound_Root_Fix.F bound_Div_Fix.F bound_Of_Fix.F bound_Meet_Fix.F v)) v)
theorem window_height_tot (v : window_height.A) : Tot (window_height.F v) := Tot.of (window_height.F_of v) ((fun (v0, v1, v2, v3, v4, v5, v6, v7, v8, v9, v10, v11, v12, v13, v14, v15, v16, v17, v18, v19, v20) => (Tot.bnd (window_when_tot _) fun _ => (Tot.bnd (scale_Sidereal_tot _) fun _ => (Tot.bnd (horizon_Height_tot _) fun _ => Tot.some))) : ∀ v, Tot (window_height.d window_when.F scale_Sidereal.F horizon_Height.F v)) v)
theorem window_atMost_tot (v : window_atMost.A) : Tot (window_atMost.F v) := Tot.of (window_atMost.F_of v) ((fun (v0, v1, v2, v3) => Tot.some : ∀ v, Tot (window_atMost.d v)) v)
theorem window_dark_tot (v : window_dark.A) : Tot (window_dark.F v) := Tot.of (window_dark.F_of v) ((fun (v0, v1, v2, v3, v4, v5, v6, v7, v8, v9, v10, v11, v12, v13, v14, v15, v16, v17) => (Tot.bnd (window_height_tot _) fun _ => (Tot.bnd (window_atMost_tot _) fun _ => Tot.some)) : ∀ v, Tot (window_dark.d window_height.F window_atMost.F v)) v)
theorem window_atLeast_tot (v : window_atLeast.A) : Tot (window_atLeast.F v) := Tot.of (window_atLeast.F_of v) ((fun (v0, v1, v2, v3) => Tot.some : ∀ v, Tot (window_atLeast.d v)) v)
theorem big_trim_d1 (n : Nat) : ∀ (l : List Int) (_ : l.length ≤ n) (_ : n ≤ 1000), Y (big_trim.D1 l) fun r => r.length ≤ n := by
  induction n with
  | zero =>
    intro l h1 h2
    have e : l = [] := List.length_eq_zero_iff.mp (by omega)
    subst e
    exact Y.of (big_trim.D1_of _) (Y.pos (by decide) (Y.neg (by decide) (Y.some (by simp))))
  | succ n ih =>
    intro l h1 h2
    refine Y.of (big_trim.D1_of _) (Y.pos ?_ (Y.bif (fun k => ?_) fun _ => Y.some h1))
    · rw [w64 (x := (l.length : Int) - 1) (by omega) (by omega), Bool.or_eq_true]
      by_cases k : 0 < (l.length : Int)
      · exact .inr (decide_eq_true ⟨by omega, by omega⟩)
      · exact .inl (by simp only [k]; rfl)
    · have k1 : 0 < l.length := by
        simp only [Bool.and_eq_true, decide_eq_true_eq] at k
        omega
      rw [w64 (x := (l.length : Int) - 1) (by omega) (by omega)]
      refine Y.pd (by omega) (Y.mono (ih _ ?_ (by omega)) fun r h => by omega)
      simp only [List.length_drop, List.length_take]
      omega
theorem big_trim_spec (l : List Int) (n : Nat) (h1 : l.length ≤ n) (h2 : n ≤ 1000) : Y (big_trim.F l) fun r => r.length ≤ n := by
  refine Y.of (big_trim.F_of _) (Y.of (big_trim.D0_of _) (Y.pos ?_ (Y.bif (fun k => ?_) fun _ => Y.some h1)))
  · rw [w64 (x := (l.length : Int) - 1) (by omega) (by omega), Bool.or_eq_true]
    by_cases k : 0 < (l.length : Int)
    · exact .inr (decide_eq_true ⟨by omega, by omega⟩)
    · exact .inl (by simp only [k]; rfl)
  · have k1 : 0 < l.length := by
      simp only [Bool.and_eq_true, decide_eq_true_eq] at k
      omega
    rw [w64 (x := (l.length : Int) - 1) (by omega) (by omega)]
    refine Y.pd (by omega) (Y.mono (big_trim_d1 n _ ?_ (by omega)) fun r h => by omega)
    simp only [List.length_drop, List.length_take]
    omega
theorem big_made_spec (b : Bool) (l : List Int) (n : Nat) (h1 : l.length ≤ n) (h2 : n ≤ 1000) : Y (big_made.F (b, l)) fun r => r.2.length ≤ n := Y.of (big_made.F_of _) (Y.bnd _ (big_trim_spec l n h1 h2) fun r h => Y.some h)
theorem big_Of_d0 (v) : Y (big_Of.D0 v) fun r => r.2.length ≤ 2 := Y.of (big_Of.D0_of _) (Y.pd (by decide) (Y.bnd _ (big_made_spec _ _ 2 (by simp) (by decide)) fun r h => Y.some h))
theorem big_Of_spec (x : Int) : Y (big_Of.F x) fun r => r.2.length ≤ 2 := Y.of (big_Of.F_of _) (Y.bif (fun _ => big_Of_d0 _) fun _ => big_Of_d0 _)
theorem bits_Len32_d1 (v) : Tot (bits_Len32.D1 v) := by
  refine Tot.of (bits_Len32.D1_of _) (Y.tot (Y.pd ?_ (Y.some trivial)))
  rw [bs0_size, wr_u8]
  omega
theorem bits_Len32_d0 (v) : Tot (bits_Len32.D0 v) := Tot.of (bits_Len32.D0_of _) (Y.tot (Y.ite (fun _ => Y.pd (by decide) (Tot.y (bits_Len32_d1 _))) fun _ => Tot.y (bits_Len32_d1 _)))
theorem bits_Len32_tot (v) : Tot (bits_Len32.F v) := Tot.of (bits_Len32.F_of _) (Y.tot (Y.ite (fun _ => Y.pd (by decide) (Tot.y (bits_Len32_d0 _))) fun _ => Tot.y (bits_Len32_d0 _)))
theorem big_Bits_tot (b : Bool) (l : List Int) (h : l.length ≤ 1000) : Tot (big_Bits.F (b, l)) := by
  refine Tot.of (big_Bits.F_of _) (Y.tot (Y.ite (fun _ => Y.some trivial) fun k => Y.pd ?_ (Tot.y (Tot.bnd (bits_Len32_tot _) fun _ => Tot.some))))
  rw [w64 (by omega) (by omega)]
  omega
theorem big_limited_spec (b : Bool) (l : List Int) (n : Nat) (h1 : l.length ≤ n) (h2 : n ≤ 1000) : Y (big_limited.F (b, l)) fun r => r.2.2.length ≤ n :=
  Y.of (big_limited.F_of _) (Y.bnd _ (big_made_spec b l n h1 h2) fun r h => Y.bnd _ (Tot.y (big_Bits_tot _ _ (by omega))) fun _ _ => Y.bif (fun _ => Y.some (Nat.zero_le _)) fun _ => Y.some h)
theorem big_Mul_d1 (Q : big_Mul.R → Prop) (b : List Int) (i : Nat) (a a2 z : List Int) (na nb f : Bool) (N : Nat) (hN : i + b.length < N) (h2 : N ≤ 1000)
    (h : ∀ out : List Int, out.length = N → Y (big_Mul.D0 (a, (a.length : Int), ((i + 1 : Nat) : Int), na, a2, nb, b, f, out, z)) Q) (n : Nat) : ∀ (j : Nat) (_ : j + n = b.length) (x c : Int) (out : List Int) (_ : out.length = N), Y (big_Mul.D1 ((i : Int), x, c, a, (a.length : Int), (i : Int), b, (b.length : Int), (j : Int), na, a2, nb, b, f, out, z)) Q := by
  induction n with
  | zero =>
    intro j e x c out ho
    refine Y.of (big_Mul.D1_of _) (Y.nd (by omega) (Y.pd ?_ ?_))
    · rw [w64 (by omega) (by omega)]
      omega
    · rw [w64 (x := (i : Int) + 1) (by omega) (by omega)]
      exact h _ (by rw [List.length_set]; exact ho)
  | succ n ih =>
    intro j e x c out ho
    have k : 0 ≤ wrap .i64 ((i : Int) + (j : Int)) ∧ wrap .i64 ((i : Int) + (j : Int)) < (out.length : Int) := by
      rw [w64 (by omega) (by omega)]
      omega
    refine Y.of (big_Mul.D1_of _) (Y.pd (by omega) (Y.pd (by omega) (Y.pd k (Y.pd k (Y.pd (by decide) ?_)))))
    rw [w64 (x := (j : Int) + 1) (by omega) (by omega)]
    exact ih (j + 1) (by omega) _ _ _ (by rw [List.length_set]; exact ho)
theorem big_Mul_d0 (b a a2 z : List Int) (na nb f : Bool) (N : Nat) (hN : a.length + b.length = N) (h2 : N ≤ 1000) (n : Nat) : ∀ (i : Nat) (_ : i + n = a.length) (out : List Int) (_ : out.length = N), Y (big_Mul.D0 (a, (a.length : Int), (i : Int), na, a2, nb, b, f, out, z)) fun r => r.2.2.length ≤ N := by
  induction n with
  | zero =>
    intro i e out ho
    exact Y.of (big_Mul.D0_of _) (Y.nd (by omega) (Y.bnd _ (big_limited_spec _ _ N (by omega) h2) fun r h => Y.some h))
  | succ n ih =>
    intro i e out ho
    exact Y.of (big_Mul.D0_of _) (Y.pd (by omega) (Y.pd (by omega) (big_Mul_d1 _ b i a a2 z na nb f N (by omega) h2 (fun out ho => ih (i + 1) (by omega) out ho) b.length 0 (by omega) _ _ out ho)))
theorem big_Mul_spec (na nb : Bool) (a b : List Int) (N : Nat) (h1 : a.length + b.length ≤ N) (h2 : N ≤ 1000) : Y (big_Mul.F (na, a, nb, b)) fun r => r.2.2.length ≤ N := by
  have e : wrap .i64 ((a.length : Int) + (b.length : Int)) = (a.length : Int) + (b.length : Int) := w64 (by omega) (by omega)
  refine Y.of (big_Mul.F_of _) (Y.bnd _ (Tot.y (big_Bits_tot _ _ (by omega))) fun _ _ => Y.bnd _ (Tot.y (big_Bits_tot _ _ (by omega))) fun _ _ => Y.bif (fun _ => Y.some (Nat.zero_le _)) fun _ => Y.pd (by rw [e]; omega) ?_)
  rw [e]
  exact Y.mono (big_Mul_d0 b a a [] na nb false _ rfl (by omega) a.length 0 (by omega) _ (by rw [List.length_replicate]; omega)) fun r h => by omega
theorem sphere_mul_spec (na nb : Bool) (a b : List Int) (N : Nat) (h1 : a.length + b.length ≤ N) (h2 : N ≤ 1000) : Y (sphere_mul.F (na, a, nb, b)) fun r => r.2.length ≤ N := Y.of (sphere_mul.F_of _) (Y.bnd _ (big_Mul_spec na nb a b N h1 h2) fun r h => Y.some h)
theorem sphere_square_spec (x : Int) : Y (sphere_square.F x) fun r => r.2.length ≤ 4 := Y.of (sphere_square.F_of _) (Y.bnd _ (big_Of_spec _) fun r h => Y.bnd _ (big_Of_spec _) fun r1 h1 => Y.bnd _ (sphere_mul_spec _ _ _ _ 4 (by omega) (by decide)) fun r h => Y.some h)
theorem big_Sign_tot (v : big_Sign.A) : Tot (big_Sign.F v) := Tot.of (big_Sign.F_of v) ((fun (v0, v1) => (Tot.br Tot.some (Tot.br Tot.some Tot.some)) : ∀ v, Tot (big_Sign.d v)) v)
theorem cmp_isNaN_int_tot (v : cmp_isNaN_int.A) : Tot (cmp_isNaN_int.F v) := Tot.of (cmp_isNaN_int.F_of v) ((fun v0 => Tot.some : ∀ v, Tot (cmp_isNaN_int.d v)) v)
theorem cmp_Compare_int_tot (v : cmp_Compare_int.A) : Tot (cmp_Compare_int.F v) := Tot.of (cmp_Compare_int.F_of v) ((fun (v0, v1) => (Tot.bnd (cmp_isNaN_int_tot _) fun _ => (Tot.bnd (cmp_isNaN_int_tot _) fun _ => (Tot.br (Tot.br Tot.some Tot.some) (Tot.br Tot.some (Tot.br Tot.some (Tot.br Tot.some Tot.some)))))) : ∀ v, Tot (cmp_Compare_int.d cmp_isNaN_int.F v)) v)
theorem cmp_isNaN_uint32_tot (v : cmp_isNaN_uint32.A) : Tot (cmp_isNaN_uint32.F v) := Tot.of (cmp_isNaN_uint32.F_of v) ((fun v0 => Tot.some : ∀ v, Tot (cmp_isNaN_uint32.d v)) v)
theorem cmp_Compare_uint32_tot (v : cmp_Compare_uint32.A) : Tot (cmp_Compare_uint32.F v) := Tot.of (cmp_Compare_uint32.F_of v) ((fun (v0, v1) => (Tot.bnd (cmp_isNaN_uint32_tot _) fun _ => (Tot.bnd (cmp_isNaN_uint32_tot _) fun _ => (Tot.br (Tot.br Tot.some Tot.some) (Tot.br Tot.some (Tot.br Tot.some (Tot.br Tot.some Tot.some)))))) : ∀ v, Tot (cmp_Compare_uint32.d cmp_isNaN_uint32.F v)) v)
theorem big_cmpMag_d0 (a b : List Int) (h : a.length = b.length) (h1 : a.length ≤ 1000) (n : Nat) : ∀ (j : Int) (_ : j + 1 = n) (_ : j < a.length), Tot (big_cmpMag.D0 (a, b, j)) := by
  induction n with
  | zero => exact fun j e _ => Tot.of (big_cmpMag.D0_of _) (Y.tot (Y.nd (by omega) (Y.some trivial)))
  | succ n ih =>
    intro j e e1
    refine Tot.of (big_cmpMag.D0_of _) (Y.tot (Y.pd (by omega) (Y.pd (by omega) (Y.pd (by omega) (Y.bif (fun _ => Y.pd (by omega) (Y.pd (by omega) (Tot.y (Tot.bnd (cmp_Compare_uint32_tot _) fun _ => Tot.some)))) fun _ => Tot.y ?_)))))
    rw [w64 (x := j - 1) (by omega) (by omega)]
    exact ih _ (by omega) (by omega)
theorem big_cmpMag_tot (a b : List Int) (h1 : a.length ≤ 1000) : Tot (big_cmpMag.F (a, b)) := by
  refine Tot.of (big_cmpMag.F_of _) (Y.tot (Y.nite (fun _ => Tot.y (Tot.bnd (cmp_Compare_int_tot _) fun _ => Tot.some)) fun k => Tot.y ?_))
  rw [w64 (x := (a.length : Int) - 1) (by omega) (by omega)]
  exact big_cmpMag_d0 a b (by omega) h1 a.length _ (by omega) (by omega)
theorem big_Cmp_tot (x : Bool) (a : List Int) (y : Bool) (b : List Int) (h1 : a.length ≤ 1000) (h2 : b.length ≤ 1000) : Tot (big_Cmp.F (x, a, y, b)) := Tot.of (big_Cmp.F_of _) (Tot.br (Tot.bnd (big_Sign_tot _) fun _ => Tot.bnd (big_Sign_tot _) fun _ => Tot.bnd (cmp_Compare_int_tot _) fun _ => Tot.some) (Tot.br (Tot.bnd (big_cmpMag_tot _ _ h2) fun _ => Tot.some) (Tot.bnd (big_cmpMag_tot _ _ h1) fun _ => Tot.some)))
theorem sphere_both_tot (v : sphere_both.A) : Tot (sphere_both.F v) := Tot.of (sphere_both.F_of v) ((fun (v0, v1, v2, v3, v4, v5) => (Tot.bnd (sphere_Check_tot _) fun _ => (Tot.br (Tot.bnd (sphere_Check_tot _) fun _ => Tot.some) Tot.some)) : ∀ v, Tot (sphere_both.d sphere_Check.F v)) v)
theorem sphere_dot_tot (v : sphere_dot.A) : Tot (sphere_dot.F v) := Tot.of (sphere_dot.F_of v) ((fun (v0, v1, v2, v3, v4, v5) => Tot.some : ∀ v, Tot (sphere_dot.d v)) v)
theorem sphere_norms_spec (v) : Y (sphere_norms.F v) fun r => r.2.length ≤ 4 := Y.of (sphere_norms.F_of _) (Y.bnd _ (Tot.y (sphere_dot_tot _)) fun _ _ => Y.bnd _ (big_Of_spec _) fun r h => Y.bnd _ (Tot.y (sphere_dot_tot _)) fun _ _ => Y.bnd _ (big_Of_spec _) fun r1 h1 => Y.bnd _ (sphere_mul_spec _ _ _ _ 4 (by omega) (by decide)) fun r h => Y.some h)
theorem sphere_Cosine_d2 (v) : Tot (sphere_Cosine.D2 v) := Tot.of (sphere_Cosine.D2_of _) Tot.some
theorem sphere_Cosine_d1 (v) : Tot (sphere_Cosine.D1 v) := Tot.of (sphere_Cosine.D1_of _) (Tot.br (sphere_Cosine_d2 _) (sphere_Cosine_d2 _))
theorem sphere_Cosine_d0 (n : Nat) : ∀ (a b c d e : Int) (f g h : Bool) (p q : List Int) (_ : p.length ≤ 4) (_ : q.length ≤ 8) (_ : 0 ≤ b ∧ b ≤ c ∧ c ≤ 1099511627776) (_ : c - b ≤ n), Tot (sphere_Cosine.D0 (a, b, c, d, e, f, g, h, p, q)) := by
  have fin (x : Int) (g h : Bool) (p q : List Int) (hp : p.length ≤ 4) (hq : q.length ≤ 8) (k : Int → Option sphere_Cosine.R) (hk : ∀ x, Tot (k x)) : Tot (bnd (sphere_square.F x) fun r => bnd (sphere_mul.F (r.1, r.2, g, p)) fun r => bnd (big_Cmp.F (r.1, r.2, h, q)) k) :=
    Y.tot (Y.bnd _ (sphere_square_spec _) fun r hr => Y.bnd _ (sphere_mul_spec _ _ _ _ 8 (by omega) (by decide)) fun r1 h1 => Tot.y (Tot.bnd (big_Cmp_tot _ _ _ _ (by omega) (by omega)) fun _ => hk _))
  induction n with
  | zero =>
    intro a b c d e f g h p q hp hq h1 h2
    refine Tot.of (sphere_Cosine.D0_of _) (Y.tot (Y.nd (by rw [w64 (by omega) (by omega)]; omega) (Tot.y ?_)))
    exact fin _ _ _ _ _ hp hq _ fun _ => Tot.br (sphere_Cosine_d1 _) (sphere_Cosine_d1 _)
  | succ n ih =>
    intro a b c d e f g h p q hp hq h1 h2
    refine Tot.of (sphere_Cosine.D0_of _) (Y.tot (Y.ite (fun k => Y.nn (by decide) (Tot.y ?_)) fun _ => Tot.y ?_))
    · rw [w64 (x := c - b) (by omega) (by omega)] at k
      have em : wrap .i64 ((wrap .i64 (b + c)).tdiv 2) = (b + c) / 2 := by
        rw [w64 (x := b + c) (by omega) (by omega), Int.tdiv_eq_ediv_of_nonneg (by omega), w64 (by omega) (by omega)]
      refine fin _ _ _ _ _ hp hq _ fun _ => Tot.br ?_ ?_
      · rw [em]
        exact ih _ _ _ _ _ _ _ _ _ _ hp hq (by omega) (by omega)
      · rw [em]
        exact ih _ _ _ _ _ _ _ _ _ _ hp hq (by omega) (by omega)
    · exact fin _ _ _ _ _ hp hq _ fun _ => Tot.br (sphere_Cosine_d1 _) (sphere_Cosine_d1 _)
theorem sphere_Cosine_tot (v : sphere_Cosine.A) : Tot (sphere_Cosine.F v) := by
  obtain ⟨a, b, c, d, e, f⟩ := v
  exact Tot.of (sphere_Cosine.F_of _) (Tot.bnd (sphere_both_tot _) fun r => Tot.br Tot.some (Tot.bnd (sphere_dot_tot _) fun r => Y.tot (Y.bnd _ (sphere_norms_spec _) fun r1 h1 => Y.bnd _ (sphere_square_spec _) fun r2 h2 => Y.bnd _ (sphere_square_spec _) fun r3 h3 => Y.bnd _ (sphere_mul_spec _ _ _ _ 8 (by omega) (by decide)) fun r4 h4 => Tot.y (sphere_Cosine_d0 1073741825 _ _ _ _ _ _ _ _ _ _ h1 h4 (by decide) (by decide)))))
end Go.Proofs.RWin
namespace Go.Proofs.RWin
open Go Go.Eng
set_option linter.unusedVariables false
set_option maxRecDepth 100000
namespace window_when
def ev (k : Nat) : (A → Option R) := Nat.rec (motive := fun _ => (A → Option R)) (fun _ => none) (fun k e => d) k
theorem ev_ok (k : Nat) : (∀ v, Cn now ((ev k) v) fun _ => F v) := Nat.rec (motive := fun k => (∀ v, Cn now ((ev k) v) fun _ => F v)) (fun _ => .none) (fun k h => (fun v r q => F_of v (d_cn (E := now) v r q))) k
theorem ev_is {k : Nat} {v : A} {r : R} (h : (ev k) v = some r) : F v = some r := (ev_ok k) v r h
end window_when
namespace bound_Check_Tick
def ev (k : Nat) : (A → Option R) := Nat.rec (motive := fun _ => (A → Option R)) (fun _ => none) (fun k e => d) k
theorem ev_ok (k : Nat) : (∀ v, Cn now ((ev k) v) fun _ => F v) := Nat.rec (motive := fun k => (∀ v, Cn now ((ev k) v) fun _ => F v)) (fun _ => .none) (fun k h => (fun v r q => F_of v (d_cn (E := now) v r q))) k
theorem ev_is {k : Nat} {v : A} {r : R} (h : (ev k) v = some r) : F v = some r := (ev_ok k) v r h
end bound_Check_Tick
namespace bound_None_Tick
def ev (k : Nat) : (A → Option R) := Nat.rec (motive := fun _ => (A → Option R)) (fun _ => none) (fun k e => d) k
theorem ev_ok (k : Nat) : (∀ v, Cn now ((ev k) v) fun _ => F v) := Nat.rec (motive := fun k => (∀ v, Cn now ((ev k) v) fun _ => F v)) (fun _ => .none) (fun k h => (fun v r q => F_of v (d_cn (E := now) v r q))) k
theorem ev_is {k : Nat} {v : A} {r : R} (h : (ev k) v = some r) : F v = some r := (ev_ok k) v r h
end bound_None_Tick
namespace bound_Norm_Tick
def ev (k : Nat) : (A → Option R) := Nat.rec (motive := fun _ => (A → Option R)) (fun _ => none) (fun k e => d (fun v => (bound_Check_Tick.ev k) v) (fun v => (bound_None_Tick.ev k) v)) k
theorem ev_ok (k : Nat) : (∀ v, Cn now ((ev k) v) fun _ => F v) := Nat.rec (motive := fun k => (∀ v, Cn now ((ev k) v) fun _ => F v)) (fun _ => .none) (fun k h => (fun v r q => F_of v (d_cn (E := now) ((bound_Check_Tick.ev_ok k)) ((bound_None_Tick.ev_ok k)) v r q))) k
theorem ev_is {k : Nat} {v : A} {r : R} (h : (ev k) v = some r) : F v = some r := (ev_ok k) v r h
end bound_Norm_Tick
namespace bound_Of_Tick
def ev (k : Nat) : (A → Option R) := Nat.rec (motive := fun _ => (A → Option R)) (fun _ => none) (fun k e => d (fun v => (bound_Norm_Tick.ev k) v)) k
theorem ev_ok (k : Nat) : (∀ v, Cn now ((ev k) v) fun _ => F v) := Nat.rec (motive := fun k => (∀ v, Cn now ((ev k) v) fun _ => F v)) (fun _ => .none) (fun k h => (fun v r q => F_of v (d_cn (E := now) ((bound_Norm_Tick.ev_ok k)) v r q))) k
theorem ev_is {k : Nat} {v : A} {r : R} (h : (ev k) v = some r) : F v = some r := (ev_ok k) v r h
end bound_Of_Tick
namespace bound_Exact_Tick
def ev (k : Nat) : (A → Option R) := Nat.rec (motive := fun _ => (A → Option R)) (fun _ => none) (fun k e => d (fun v => (bound_Of_Tick.ev k) v)) k
theorem ev_ok (k : Nat) : (∀ v, Cn now ((ev k) v) fun _ => F v) := Nat.rec (motive := fun k => (∀ v, Cn now ((ev k) v) fun _ => F v)) (fun _ => .none) (fun k h => (fun v r q => F_of v (d_cn (E := now) ((bound_Of_Tick.ev_ok k)) v r q))) k
theorem ev_is {k : Nat} {v : A} {r : R} (h : (ev k) v = some r) : F v = some r := (ev_ok k) v r h
end bound_Exact_Tick
namespace bound_Neg_Tick
def ev (k : Nat) : (A → Option R) := Nat.rec (motive := fun _ => (A → Option R)) (fun _ => none) (fun k e => d (fun v => (bound_Norm_Tick.ev k) v)) k
theorem ev_ok (k : Nat) : (∀ v, Cn now ((ev k) v) fun _ => F v) := Nat.rec (motive := fun k => (∀ v, Cn now ((ev k) v) fun _ => F v)) (fun _ => .none) (fun k h => (fun v r q => F_of v (d_cn (E := now) ((bound_Norm_Tick.ev_ok k)) v r q))) k
theorem ev_is {k : Nat} {v : A} {r : R} (h : (ev k) v = some r) : F v = some r := (ev_ok k) v r h
end bound_Neg_Tick
namespace bound_vague_Tick
def ev (k : Nat) : (A → Option R) := Nat.rec (motive := fun _ => (A → Option R)) (fun _ => none) (fun k e => d (fun v => (bound_Norm_Tick.ev k) v)) k
theorem ev_ok (k : Nat) : (∀ v, Cn now ((ev k) v) fun _ => F v) := Nat.rec (motive := fun k => (∀ v, Cn now ((ev k) v) fun _ => F v)) (fun _ => .none) (fun k h => (fun v r q => F_of v (d_cn (E := now) ((bound_Norm_Tick.ev_ok k)) v r q))) k
theorem ev_is {k : Nat} {v : A} {r : R} (h : (ev k) v = some r) : F v = some r := (ev_ok k) v r h
end bound_vague_Tick
namespace bound_Add_Tick
def ev (k : Nat) : (A → Option R) := Nat.rec (motive := fun _ => (A → Option R)) (fun _ => none) (fun k e => d (fun v => (bound_vague_Tick.ev k) v) (fun v => (bound_None_Tick.ev k) v) (fun v => (bound_Of_Tick.ev k) v)) k
theorem ev_ok (k : Nat) : (∀ v, Cn now ((ev k) v) fun _ => F v) := Nat.rec (motive := fun k => (∀ v, Cn now ((ev k) v) fun _ => F v)) (fun _ => .none) (fun k h => (fun v r q => F_of v (d_cn (E := now) ((bound_vague_Tick.ev_ok k)) ((bound_None_Tick.ev_ok k)) ((bound_Of_Tick.ev_ok k)) v r q))) k
theorem ev_is {k : Nat} {v : A} {r : R} (h : (ev k) v = some r) : F v = some r := (ev_ok k) v r h
end bound_Add_Tick
namespace bound_Sub_Tick
def ev (k : Nat) : (A → Option R) := Nat.rec (motive := fun _ => (A → Option R)) (fun _ => none) (fun k e => d (fun v => (bound_Neg_Tick.ev k) v) (fun v => (bound_Add_Tick.ev k) v)) k
theorem ev_ok (k : Nat) : (∀ v, Cn now ((ev k) v) fun _ => F v) := Nat.rec (motive := fun k => (∀ v, Cn now ((ev k) v) fun _ => F v)) (fun _ => .none) (fun k h => (fun v r q => F_of v (d_cn (E := now) ((bound_Neg_Tick.ev_ok k)) ((bound_Add_Tick.ev_ok k)) v r q))) k
theorem ev_is {k : Nat} {v : A} {r : R} (h : (ev k) v = some r) : F v = some r := (ev_ok k) v r h
end bound_Sub_Tick
namespace num_size
def ev (k : Nat) : (A → Option R) := Nat.rec (motive := fun _ => (A → Option R)) (fun _ => none) (fun k e => d) k
theorem ev_ok (k : Nat) : (∀ v, Cn now ((ev k) v) fun _ => F v) := Nat.rec (motive := fun k => (∀ v, Cn now ((ev k) v) fun _ => F v)) (fun _ => .none) (fun k h => (fun v r q => F_of v (d_cn (E := now) v r q))) k
theorem ev_is {k : Nat} {v : A} {r : R} (h : (ev k) v = some r) : F v = some r := (ev_ok k) v r h
end num_size
namespace num_Gcd
def ev (k : Nat) : (A → Option R) × (T0 → Option R) := Nat.rec (motive := fun _ => (A → Option R) × (T0 → Option R)) ((fun _ => none), (fun _ => none)) (fun k e => (d (fun v => (num_size.ev k) v) (e.2), d0 (e.2))) k
theorem ev_ok (k : Nat) : (∀ v, Cn now ((ev k).1 v) fun _ => F v) ∧ (∀ v, Cn now ((ev k).2 v) fun _ => D0 v) := Nat.rec (motive := fun k => (∀ v, Cn now ((ev k).1 v) fun _ => F v) ∧ (∀ v, Cn now ((ev k).2 v) fun _ => D0 v)) ⟨(fun _ => .none), (fun _ => .none)⟩ (fun k h => ⟨(fun v r q => F_of v (d_cn (E := now) ((num_size.ev_ok k)) (h.2) v r q)), (fun v r q => D0_of v (d0_cn (E := now) (h.2) v r q))⟩) k
theorem ev_is {k : Nat} {v : A} {r : R} (h : (ev k).1 v = some r) : F v = some r := (ev_ok k).1 v r h
end num_Gcd
namespace frac_Check
def ev (k : Nat) : (A → Option R) := Nat.rec (motive := fun _ => (A → Option R)) (fun _ => none) (fun k e => d (fun v => (num_Gcd.ev k).1 v)) k
theorem ev_ok (k : Nat) : (∀ v, Cn now ((ev k) v) fun _ => F v) := Nat.rec (motive := fun k => (∀ v, Cn now ((ev k) v) fun _ => F v)) (fun _ => .none) (fun k h => (fun v r q => F_of v (d_cn (E := now) ((num_Gcd.ev_ok k).1) v r q))) k
theorem ev_is {k : Nat} {v : A} {r : R} (h : (ev k) v = some r) : F v = some r := (ev_ok k) v r h
end frac_Check
namespace num_CeilDiv
def ev (k : Nat) : (A → Option R) × (T0 → Option R) := Nat.rec (motive := fun _ => (A → Option R) × (T0 → Option R)) ((fun _ => none), (fun _ => none)) (fun k e => (d (e.2), d0)) k
theorem ev_ok (k : Nat) : (∀ v, Cn now ((ev k).1 v) fun _ => F v) ∧ (∀ v, Cn now ((ev k).2 v) fun _ => D0 v) := Nat.rec (motive := fun k => (∀ v, Cn now ((ev k).1 v) fun _ => F v) ∧ (∀ v, Cn now ((ev k).2 v) fun _ => D0 v)) ⟨(fun _ => .none), (fun _ => .none)⟩ (fun k h => ⟨(fun v r q => F_of v (d_cn (E := now) (h.2) v r q)), (fun v r q => D0_of v (d0_cn (E := now) v r q))⟩) k
theorem ev_is {k : Nat} {v : A} {r : R} (h : (ev k).1 v = some r) : F v = some r := (ev_ok k).1 v r h
end num_CeilDiv
namespace frac_rounded
def ev (k : Nat) : (A → Option R) := Nat.rec (motive := fun _ => (A → Option R)) (fun _ => none) (fun k e => d (fun v => (frac_Check.ev k) v) (fun v => (num_CeilDiv.ev k).1 v)) k
theorem ev_ok (k : Nat) : (∀ v, Cn now ((ev k) v) fun _ => F v) := Nat.rec (motive := fun k => (∀ v, Cn now ((ev k) v) fun _ => F v)) (fun _ => .none) (fun k h => (fun v r q => F_of v (d_cn (E := now) ((frac_Check.ev_ok k)) ((num_CeilDiv.ev_ok k).1) v r q))) k
theorem ev_is {k : Nat} {v : A} {r : R} (h : (ev k) v = some r) : F v = some r := (ev_ok k) v r h
end frac_rounded
namespace frac_Ceil
def ev (k : Nat) : (A → Option R) := Nat.rec (motive := fun _ => (A → Option R)) (fun _ => none) (fun k e => d (fun v => (frac_rounded.ev k) v)) k
theorem ev_ok (k : Nat) : (∀ v, Cn now ((ev k) v) fun _ => F v) := Nat.rec (motive := fun k => (∀ v, Cn now ((ev k) v) fun _ => F v)) (fun _ => .none) (fun k h => (fun v r q => F_of v (d_cn (E := now) ((frac_rounded.ev_ok k)) v r q))) k
theorem ev_is {k : Nat} {v : A} {r : R} (h : (ev k) v = some r) : F v = some r := (ev_ok k) v r h
end frac_Ceil
namespace scale_CheckRate
def ev (k : Nat) : (A → Option R) := Nat.rec (motive := fun _ => (A → Option R)) (fun _ => none) (fun k e => d (fun v => (frac_Check.ev k) v) (fun v => (frac_Ceil.ev k) v)) k
theorem ev_ok (k : Nat) : (∀ v, Cn now ((ev k) v) fun _ => F v) := Nat.rec (motive := fun k => (∀ v, Cn now ((ev k) v) fun _ => F v)) (fun _ => .none) (fun k h => (fun v r q => F_of v (d_cn (E := now) ((frac_Check.ev_ok k)) ((frac_Ceil.ev_ok k)) v r q))) k
theorem ev_is {k : Nat} {v : A} {r : R} (h : (ev k) v = some r) : F v = some r := (ev_ok k) v r h
end scale_CheckRate
namespace bound_None_Arc
def ev (k : Nat) : (A → Option R) := Nat.rec (motive := fun _ => (A → Option R)) (fun _ => none) (fun k e => d) k
theorem ev_ok (k : Nat) : (∀ v, Cn now ((ev k) v) fun _ => F v) := Nat.rec (motive := fun k => (∀ v, Cn now ((ev k) v) fun _ => F v)) (fun _ => .none) (fun k h => (fun v r q => F_of v (d_cn (E := now) v r q))) k
theorem ev_is {k : Nat} {v : A} {r : R} (h : (ev k) v = some r) : F v = some r := (ev_ok k) v r h
end bound_None_Arc
namespace bits_Mul64
def ev (k : Nat) : (A → Option R) := Nat.rec (motive := fun _ => (A → Option R)) (fun _ => none) (fun k e => d) k
theorem ev_ok (k : Nat) : (∀ v, Cn now ((ev k) v) fun _ => F v) := Nat.rec (motive := fun k => (∀ v, Cn now ((ev k) v) fun _ => F v)) (fun _ => .none) (fun k h => (fun v r q => F_of v (d_cn (E := now) v r q))) k
theorem ev_is {k : Nat} {v : A} {r : R} (h : (ev k) v = some r) : F v = some r := (ev_ok k) v r h
end bits_Mul64
namespace bits_Add64
def ev (k : Nat) : (A → Option R) := Nat.rec (motive := fun _ => (A → Option R)) (fun _ => none) (fun k e => d) k
theorem ev_ok (k : Nat) : (∀ v, Cn now ((ev k) v) fun _ => F v) := Nat.rec (motive := fun k => (∀ v, Cn now ((ev k) v) fun _ => F v)) (fun _ => .none) (fun k h => (fun v r q => F_of v (d_cn (E := now) v r q))) k
theorem ev_is {k : Nat} {v : A} {r : R} (h : (ev k) v = some r) : F v = some r := (ev_ok k) v r h
end bits_Add64
namespace num_Wide_Neg
def ev (k : Nat) : (A → Option R) := Nat.rec (motive := fun _ => (A → Option R)) (fun _ => none) (fun k e => d (fun v => (bits_Add64.ev k) v)) k
theorem ev_ok (k : Nat) : (∀ v, Cn now ((ev k) v) fun _ => F v) := Nat.rec (motive := fun k => (∀ v, Cn now ((ev k) v) fun _ => F v)) (fun _ => .none) (fun k h => (fun v r q => F_of v (d_cn (E := now) ((bits_Add64.ev_ok k)) v r q))) k
theorem ev_is {k : Nat} {v : A} {r : R} (h : (ev k) v = some r) : F v = some r := (ev_ok k) v r h
end num_Wide_Neg
namespace num_Product
def ev (k : Nat) : (A → Option R) := Nat.rec (motive := fun _ => (A → Option R)) (fun _ => none) (fun k e => d (fun v => (num_size.ev k) v) (fun v => (bits_Mul64.ev k) v) (fun v => (num_Wide_Neg.ev k) v)) k
theorem ev_ok (k : Nat) : (∀ v, Cn now ((ev k) v) fun _ => F v) := Nat.rec (motive := fun k => (∀ v, Cn now ((ev k) v) fun _ => F v)) (fun _ => .none) (fun k h => (fun v r q => F_of v (d_cn (E := now) ((num_size.ev_ok k)) ((bits_Mul64.ev_ok k)) ((num_Wide_Neg.ev_ok k)) v r q))) k
theorem ev_is {k : Nat} {v : A} {r : R} (h : (ev k) v = some r) : F v = some r := (ev_ok k) v r h
end num_Product
namespace bits_Len64
def ev (k : Nat) : (A → Option R) × (T0 → Option R) × (T1 → Option R) × (T2 → Option R) := Nat.rec (motive := fun _ => (A → Option R) × (T0 → Option R) × (T1 → Option R) × (T2 → Option R)) ((fun _ => none), (fun _ => none), (fun _ => none), (fun _ => none)) (fun k e => (d (e.2.1), d0 (e.2.2.1), d1 (e.2.2.2), d2)) k
theorem ev_ok (k : Nat) : (∀ v, Cn now ((ev k).1 v) fun _ => F v) ∧ (∀ v, Cn now ((ev k).2.1 v) fun _ => D0 v) ∧ (∀ v, Cn now ((ev k).2.2.1 v) fun _ => D1 v) ∧ (∀ v, Cn now ((ev k).2.2.2 v) fun _ => D2 v) := Nat.rec (motive := fun k => (∀ v, Cn now ((ev k).1 v) fun _ => F v) ∧ (∀ v, Cn now ((ev k).2.1 v) fun _ => D0 v) ∧ (∀ v, Cn now ((ev k).2.2.1 v) fun _ => D1 v) ∧ (∀ v, Cn now ((ev k).2.2.2 v) fun _ => D2 v)) ⟨(fun _ => .none), (fun _ => .none), (fun _ => .none), (fun _ => .none)⟩ (fun k h => ⟨(fun v r q => F_of v (d_cn (E := now) (h.2.1) v r q)), (fun v r q => D0_of v (d0_cn (E := now) (h.2.2.1) v r q)), (fun v r q => D1_of v (d1_cn (E := now) (h.2.2.2) v r q)), (fun v r q => D2_of v (d2_cn (E := now) v r q))⟩) k
theorem ev_is {k : Nat} {v : A} {r : R} (h : (ev k).1 v = some r) : F v = some r := (ev_ok k).1 v r h
end bits_Len64
namespace bits_LeadingZeros64
def ev (k : Nat) : (A → Option R) := Nat.rec (motive := fun _ => (A → Option R)) (fun _ => none) (fun k e => d (fun v => (bits_Len64.ev k).1 v)) k
theorem ev_ok (k : Nat) : (∀ v, Cn now ((ev k) v) fun _ => F v) := Nat.rec (motive := fun k => (∀ v, Cn now ((ev k) v) fun _ => F v)) (fun _ => .none) (fun k h => (fun v r q => F_of v (d_cn (E := now) ((bits_Len64.ev_ok k).1) v r q))) k
theorem ev_is {k : Nat} {v : A} {r : R} (h : (ev k) v = some r) : F v = some r := (ev_ok k) v r h
end bits_LeadingZeros64
namespace bits_Div64
def ev (k : Nat) : (A → Option R) × (T0 → Option R) × (T1 → Option R) × (T2 → Option R) × (T3 → Option R) := Nat.rec (motive := fun _ => (A → Option R) × (T0 → Option R) × (T1 → Option R) × (T2 → Option R) × (T3 → Option R)) ((fun _ => none), (fun _ => none), (fun _ => none), (fun _ => none), (fun _ => none)) (fun k e => (d (fun v => (bits_LeadingZeros64.ev k) v) (e.2.1), d0 (e.2.2.1) (e.2.1), d1 (e.2.2.2.1), d2 (e.2.2.2.2) (e.2.2.2.1), d3)) k
theorem ev_ok (k : Nat) : (∀ v, Cn now ((ev k).1 v) fun _ => F v) ∧ (∀ v, Cn now ((ev k).2.1 v) fun _ => D0 v) ∧ (∀ v, Cn now ((ev k).2.2.1 v) fun _ => D1 v) ∧ (∀ v, Cn now ((ev k).2.2.2.1 v) fun _ => D2 v) ∧ (∀ v, Cn now ((ev k).2.2.2.2 v) fun _ => D3 v) := Nat.rec (motive := fun k => (∀ v, Cn now ((ev k).1 v) fun _ => F v) ∧ (∀ v, Cn now ((ev k).2.1 v) fun _ => D0 v) ∧ (∀ v, Cn now ((ev k).2.2.1 v) fun _ => D1 v) ∧ (∀ v, Cn now ((ev k).2.2.2.1 v) fun _ => D2 v) ∧ (∀ v, Cn now ((ev k).2.2.2.2 v) fun _ => D3 v)) ⟨(fun _ => .none), (fun _ => .none), (fun _ => .none), (fun _ => .none), (fun _ => .none)⟩ (fun k h => ⟨(fun v r q => F_of v (d_cn (E := now) ((bits_LeadingZeros64.ev_ok k)) (h.2.1) v r q)), (fun v r q => D0_of v (d0_cn (E := now) (h.2.2.1) (h.2.1) v r q)), (fun v r q => D1_of v (d1_cn (E := now) (h.2.2.2.1) v r q)), (fun v r q => D2_of v (d2_cn (E := now) (h.2.2.2.2) (h.2.2.2.1) v r q)), (fun v r q => D3_of v (d3_cn (E := now) v r q))⟩) k
theorem ev_is {k : Nat} {v : A} {r : R} (h : (ev k).1 v = some r) : F v = some r := (ev_ok k).1 v r h
end bits_Div64
namespace num_Wide_Div
def ev (k : Nat) : (A → Option R) × (T0 → Option R) × (T1 → Option R) := Nat.rec (motive := fun _ => (A → Option R) × (T0 → Option R) × (T1 → Option R)) ((fun _ => none), (fun _ => none), (fun _ => none)) (fun k e => (d (fun v => (num_Wide_Neg.ev k) v) (e.2.1), d0 (fun v => (bits_Div64.ev k).1 v) (e.2.2), d1)) k
theorem ev_ok (k : Nat) : (∀ v, Cn now ((ev k).1 v) fun _ => F v) ∧ (∀ v, Cn now ((ev k).2.1 v) fun _ => D0 v) ∧ (∀ v, Cn now ((ev k).2.2 v) fun _ => D1 v) := Nat.rec (motive := fun k => (∀ v, Cn now ((ev k).1 v) fun _ => F v) ∧ (∀ v, Cn now ((ev k).2.1 v) fun _ => D0 v) ∧ (∀ v, Cn now ((ev k).2.2 v) fun _ => D1 v)) ⟨(fun _ => .none), (fun _ => .none), (fun _ => .none)⟩ (fun k h => ⟨(fun v r q => F_of v (d_cn (E := now) ((num_Wide_Neg.ev_ok k)) (h.2.1) v r q)), (fun v r q => D0_of v (d0_cn (E := now) ((bits_Div64.ev_ok k).1) (h.2.2) v r q)), (fun v r q => D1_of v (d1_cn (E := now) v r q))⟩) k
theorem ev_is {k : Nat} {v : A} {r : R} (h : (ev k).1 v = some r) : F v = some r := (ev_ok k).1 v r h
end num_Wide_Div
namespace num_MulDiv
def ev (k : Nat) : (A → Option R) := Nat.rec (motive := fun _ => (A → Option R)) (fun _ => none) (fun k e => d (fun v => (num_Product.ev k) v) (fun v => (num_Wide_Div.ev k).1 v)) k
theorem ev_ok (k : Nat) : (∀ v, Cn now ((ev k) v) fun _ => F v) := Nat.rec (motive := fun k => (∀ v, Cn now ((ev k) v) fun _ => F v)) (fun _ => .none) (fun k h => (fun v r q => F_of v (d_cn (E := now) ((num_Product.ev_ok k)) ((num_Wide_Div.ev_ok k).1) v r q))) k
theorem ev_is {k : Nat} {v : A} {r : R} (h : (ev k) v = some r) : F v = some r := (ev_ok k) v r h
end num_MulDiv
namespace num_Wide_Mod
def ev (k : Nat) : (A → Option R) × (T0 → Option R) × (T1 → Option R) := Nat.rec (motive := fun _ => (A → Option R) × (T0 → Option R) × (T1 → Option R)) ((fun _ => none), (fun _ => none), (fun _ => none)) (fun k e => (d (fun v => (num_Wide_Neg.ev k) v) (e.2.1), d0 (fun v => (bits_Div64.ev k).1 v) (e.2.2), d1)) k
theorem ev_ok (k : Nat) : (∀ v, Cn now ((ev k).1 v) fun _ => F v) ∧ (∀ v, Cn now ((ev k).2.1 v) fun _ => D0 v) ∧ (∀ v, Cn now ((ev k).2.2 v) fun _ => D1 v) := Nat.rec (motive := fun k => (∀ v, Cn now ((ev k).1 v) fun _ => F v) ∧ (∀ v, Cn now ((ev k).2.1 v) fun _ => D0 v) ∧ (∀ v, Cn now ((ev k).2.2 v) fun _ => D1 v)) ⟨(fun _ => .none), (fun _ => .none), (fun _ => .none)⟩ (fun k h => ⟨(fun v r q => F_of v (d_cn (E := now) ((num_Wide_Neg.ev_ok k)) (h.2.1) v r q)), (fun v r q => D0_of v (d0_cn (E := now) ((bits_Div64.ev_ok k).1) (h.2.2) v r q)), (fun v r q => D1_of v (d1_cn (E := now) v r q))⟩) k
theorem ev_is {k : Nat} {v : A} {r : R} (h : (ev k).1 v = some r) : F v = some r := (ev_ok k).1 v r h
end num_Wide_Mod
namespace num_MulDivUp
def ev (k : Nat) : (A → Option R) := Nat.rec (motive := fun _ => (A → Option R)) (fun _ => none) (fun k e => d (fun v => (num_Product.ev k) v) (fun v => (num_Wide_Div.ev k).1 v) (fun v => (num_Wide_Mod.ev k).1 v)) k
theorem ev_ok (k : Nat) : (∀ v, Cn now ((ev k) v) fun _ => F v) := Nat.rec (motive := fun k => (∀ v, Cn now ((ev k) v) fun _ => F v)) (fun _ => .none) (fun k h => (fun v r q => F_of v (d_cn (E := now) ((num_Product.ev_ok k)) ((num_Wide_Div.ev_ok k).1) ((num_Wide_Mod.ev_ok k).1) v r q))) k
theorem ev_is {k : Nat} {v : A} {r : R} (h : (ev k) v = some r) : F v = some r := (ev_ok k) v r h
end num_MulDivUp
namespace bound_Check_Arc
def ev (k : Nat) : (A → Option R) := Nat.rec (motive := fun _ => (A → Option R)) (fun _ => none) (fun k e => d) k
theorem ev_ok (k : Nat) : (∀ v, Cn now ((ev k) v) fun _ => F v) := Nat.rec (motive := fun k => (∀ v, Cn now ((ev k) v) fun _ => F v)) (fun _ => .none) (fun k h => (fun v r q => F_of v (d_cn (E := now) v r q))) k
theorem ev_is {k : Nat} {v : A} {r : R} (h : (ev k) v = some r) : F v = some r := (ev_ok k) v r h
end bound_Check_Arc
namespace bound_Norm_Arc
def ev (k : Nat) : (A → Option R) := Nat.rec (motive := fun _ => (A → Option R)) (fun _ => none) (fun k e => d (fun v => (bound_Check_Arc.ev k) v) (fun v => (bound_None_Arc.ev k) v)) k
theorem ev_ok (k : Nat) : (∀ v, Cn now ((ev k) v) fun _ => F v) := Nat.rec (motive := fun k => (∀ v, Cn now ((ev k) v) fun _ => F v)) (fun _ => .none) (fun k h => (fun v r q => F_of v (d_cn (E := now) ((bound_Check_Arc.ev_ok k)) ((bound_None_Arc.ev_ok k)) v r q))) k
theorem ev_is {k : Nat} {v : A} {r : R} (h : (ev k) v = some r) : F v = some r := (ev_ok k) v r h
end bound_Norm_Arc
namespace bound_Of_Arc
def ev (k : Nat) : (A → Option R) := Nat.rec (motive := fun _ => (A → Option R)) (fun _ => none) (fun k e => d (fun v => (bound_Norm_Arc.ev k) v)) k
theorem ev_ok (k : Nat) : (∀ v, Cn now ((ev k) v) fun _ => F v) := Nat.rec (motive := fun k => (∀ v, Cn now ((ev k) v) fun _ => F v)) (fun _ => .none) (fun k h => (fun v r q => F_of v (d_cn (E := now) ((bound_Norm_Arc.ev_ok k)) v r q))) k
theorem ev_is {k : Nat} {v : A} {r : R} (h : (ev k) v = some r) : F v = some r := (ev_ok k) v r h
end bound_Of_Arc
namespace bound_Exact_Arc
def ev (k : Nat) : (A → Option R) := Nat.rec (motive := fun _ => (A → Option R)) (fun _ => none) (fun k e => d (fun v => (bound_Of_Arc.ev k) v)) k
theorem ev_ok (k : Nat) : (∀ v, Cn now ((ev k) v) fun _ => F v) := Nat.rec (motive := fun k => (∀ v, Cn now ((ev k) v) fun _ => F v)) (fun _ => .none) (fun k h => (fun v r q => F_of v (d_cn (E := now) ((bound_Of_Arc.ev_ok k)) v r q))) k
theorem ev_is {k : Nat} {v : A} {r : R} (h : (ev k) v = some r) : F v = some r := (ev_ok k) v r h
end bound_Exact_Arc
namespace bound_vague_Arc
def ev (k : Nat) : (A → Option R) := Nat.rec (motive := fun _ => (A → Option R)) (fun _ => none) (fun k e => d (fun v => (bound_Norm_Arc.ev k) v)) k
theorem ev_ok (k : Nat) : (∀ v, Cn now ((ev k) v) fun _ => F v) := Nat.rec (motive := fun k => (∀ v, Cn now ((ev k) v) fun _ => F v)) (fun _ => .none) (fun k h => (fun v r q => F_of v (d_cn (E := now) ((bound_Norm_Arc.ev_ok k)) v r q))) k
theorem ev_is {k : Nat} {v : A} {r : R} (h : (ev k) v = some r) : F v = some r := (ev_ok k) v r h
end bound_vague_Arc
namespace bound_Add_Arc
def ev (k : Nat) : (A → Option R) := Nat.rec (motive := fun _ => (A → Option R)) (fun _ => none) (fun k e => d (fun v => (bound_vague_Arc.ev k) v) (fun v => (bound_None_Arc.ev k) v) (fun v => (bound_Of_Arc.ev k) v)) k
theorem ev_ok (k : Nat) : (∀ v, Cn now ((ev k) v) fun _ => F v) := Nat.rec (motive := fun k => (∀ v, Cn now ((ev k) v) fun _ => F v)) (fun _ => .none) (fun k h => (fun v r q => F_of v (d_cn (E := now) ((bound_vague_Arc.ev_ok k)) ((bound_None_Arc.ev_ok k)) ((bound_Of_Arc.ev_ok k)) v r q))) k
theorem ev_is {k : Nat} {v : A} {r : R} (h : (ev k) v = some r) : F v = some r := (ev_ok k) v r h
end bound_Add_Arc
namespace scale_Sidereal
def ev (k : Nat) : (A → Option R) := Nat.rec (motive := fun _ => (A → Option R)) (fun _ => none) (fun k e => d (fun v => (bound_Exact_Tick.ev k) v) (fun v => (bound_Sub_Tick.ev k) v) (fun v => (scale_CheckRate.ev k) v) (fun v => (bound_None_Arc.ev k) v) (fun v => (num_MulDiv.ev k) v) (fun v => (num_MulDivUp.ev k) v) (fun v => (bound_Of_Arc.ev k) v) (fun v => (bound_Exact_Arc.ev k) v) (fun v => (bound_Add_Arc.ev k) v)) k
theorem ev_ok (k : Nat) : (∀ v, Cn now ((ev k) v) fun _ => F v) := Nat.rec (motive := fun k => (∀ v, Cn now ((ev k) v) fun _ => F v)) (fun _ => .none) (fun k h => (fun v r q => F_of v (d_cn (E := now) ((bound_Exact_Tick.ev_ok k)) ((bound_Sub_Tick.ev_ok k)) ((scale_CheckRate.ev_ok k)) ((bound_None_Arc.ev_ok k)) ((num_MulDiv.ev_ok k)) ((num_MulDivUp.ev_ok k)) ((bound_Of_Arc.ev_ok k)) ((bound_Exact_Arc.ev_ok k)) ((bound_Add_Arc.ev_ok k)) v r q))) k
theorem ev_is {k : Nat} {v : A} {r : R} (h : (ev k) v = some r) : F v = some r := (ev_ok k) v r h
end scale_Sidereal
namespace horizon_CheckSite
def ev (k : Nat) : (A → Option R) := Nat.rec (motive := fun _ => (A → Option R)) (fun _ => none) (fun k e => d) k
theorem ev_ok (k : Nat) : (∀ v, Cn now ((ev k) v) fun _ => F v) := Nat.rec (motive := fun k => (∀ v, Cn now ((ev k) v) fun _ => F v)) (fun _ => .none) (fun k h => (fun v r q => F_of v (d_cn (E := now) v r q))) k
theorem ev_is {k : Nat} {v : A} {r : R} (h : (ev k) v = some r) : F v = some r := (ev_ok k) v r h
end horizon_CheckSite
namespace sphere_Check
def ev (k : Nat) : (A → Option R) := Nat.rec (motive := fun _ => (A → Option R)) (fun _ => none) (fun k e => d) k
theorem ev_ok (k : Nat) : (∀ v, Cn now ((ev k) v) fun _ => F v) := Nat.rec (motive := fun k => (∀ v, Cn now ((ev k) v) fun _ => F v)) (fun _ => .none) (fun k h => (fun v r q => F_of v (d_cn (E := now) v r q))) k
theorem ev_is {k : Nat} {v : A} {r : R} (h : (ev k) v = some r) : F v = some r := (ev_ok k) v r h
end sphere_Check
namespace cmp_Or_Errno
def ev (k : Nat) : (A → Option R) × (T0 → Option R) := Nat.rec (motive := fun _ => (A → Option R) × (T0 → Option R)) ((fun _ => none), (fun _ => none)) (fun k e => (d (e.2), d0 (e.2))) k
theorem ev_ok (k : Nat) : (∀ v, Cn now ((ev k).1 v) fun _ => F v) ∧ (∀ v, Cn now ((ev k).2 v) fun _ => D0 v) := Nat.rec (motive := fun k => (∀ v, Cn now ((ev k).1 v) fun _ => F v) ∧ (∀ v, Cn now ((ev k).2 v) fun _ => D0 v)) ⟨(fun _ => .none), (fun _ => .none)⟩ (fun k h => ⟨(fun v r q => F_of v (d_cn (E := now) (h.2) v r q)), (fun v r q => D0_of v (d0_cn (E := now) (h.2) v r q))⟩) k
theorem ev_is {k : Nat} {v : A} {r : R} (h : (ev k).1 v = some r) : F v = some r := (ev_ok k).1 v r h
end cmp_Or_Errno
namespace bound_None_Fix
def ev (k : Nat) : (A → Option R) := Nat.rec (motive := fun _ => (A → Option R)) (fun _ => none) (fun k e => d) k
theorem ev_ok (k : Nat) : (∀ v, Cn now ((ev k) v) fun _ => F v) := Nat.rec (motive := fun k => (∀ v, Cn now ((ev k) v) fun _ => F v)) (fun _ => .none) (fun k h => (fun v r q => F_of v (d_cn (E := now) v r q))) k
theorem ev_is {k : Nat} {v : A} {r : R} (h : (ev k) v = some r) : F v = some r := (ev_ok k) v r h
end bound_None_Fix
namespace sphere_Grow
def ev (k : Nat) : (A → Option R) × (T0 → Option R) := Nat.rec (motive := fun _ => (A → Option R) × (T0 → Option R)) ((fun _ => none), (fun _ => none)) (fun k e => (d (fun v => (sphere_Check.ev k) v) (e.2), d0 (fun v => (sphere_Check.ev k) v) (e.2))) k
theorem ev_ok (k : Nat) : (∀ v, Cn now ((ev k).1 v) fun _ => F v) ∧ (∀ v, Cn now ((ev k).2 v) fun _ => D0 v) := Nat.rec (motive := fun k => (∀ v, Cn now ((ev k).1 v) fun _ => F v) ∧ (∀ v, Cn now ((ev k).2 v) fun _ => D0 v)) ⟨(fun _ => .none), (fun _ => .none)⟩ (fun k h => ⟨(fun v r q => F_of v (d_cn (E := now) ((sphere_Check.ev_ok k)) (h.2) v r q)), (fun v r q => D0_of v (d0_cn (E := now) ((sphere_Check.ev_ok k)) (h.2) v r q))⟩) k
theorem ev_is {k : Nat} {v : A} {r : R} (h : (ev k).1 v = some r) : F v = some r := (ev_ok k).1 v r h
end sphere_Grow
namespace num_FloorDiv
def ev (k : Nat) : (A → Option R) × (T0 → Option R) := Nat.rec (motive := fun _ => (A → Option R) × (T0 → Option R)) ((fun _ => none), (fun _ => none)) (fun k e => (d (e.2), d0)) k
theorem ev_ok (k : Nat) : (∀ v, Cn now ((ev k).1 v) fun _ => F v) ∧ (∀ v, Cn now ((ev k).2 v) fun _ => D0 v) := Nat.rec (motive := fun k => (∀ v, Cn now ((ev k).1 v) fun _ => F v) ∧ (∀ v, Cn now ((ev k).2 v) fun _ => D0 v)) ⟨(fun _ => .none), (fun _ => .none)⟩ (fun k h => ⟨(fun v r q => F_of v (d_cn (E := now) (h.2) v r q)), (fun v r q => D0_of v (d0_cn (E := now) v r q))⟩) k
theorem ev_is {k : Nat} {v : A} {r : R} (h : (ev k).1 v = some r) : F v = some r := (ev_ok k).1 v r h
end num_FloorDiv
namespace trig_meets
def ev (k : Nat) : (A → Option R) := Nat.rec (motive := fun _ => (A → Option R)) (fun _ => none) (fun k e => d (fun v => (num_FloorDiv.ev k).1 v) (fun v => (num_CeilDiv.ev k).1 v)) k
theorem ev_ok (k : Nat) : (∀ v, Cn now ((ev k) v) fun _ => F v) := Nat.rec (motive := fun k => (∀ v, Cn now ((ev k) v) fun _ => F v)) (fun _ => .none) (fun k h => (fun v r q => F_of v (d_cn (E := now) ((num_FloorDiv.ev_ok k).1) ((num_CeilDiv.ev_ok k).1) v r q))) k
theorem ev_is {k : Nat} {v : A} {r : R} (h : (ev k) v = some r) : F v = some r := (ev_ok k) v r h
end trig_meets
namespace bound_Check_Fix
def ev (k : Nat) : (A → Option R) := Nat.rec (motive := fun _ => (A → Option R)) (fun _ => none) (fun k e => d) k
theorem ev_ok (k : Nat) : (∀ v, Cn now ((ev k) v) fun _ => F v) := Nat.rec (motive := fun k => (∀ v, Cn now ((ev k) v) fun _ => F v)) (fun _ => .none) (fun k h => (fun v r q => F_of v (d_cn (E := now) v r q))) k
theorem ev_is {k : Nat} {v : A} {r : R} (h : (ev k) v = some r) : F v = some r := (ev_ok k) v r h
end bound_Check_Fix
namespace bound_Norm_Fix
def ev (k : Nat) : (A → Option R) := Nat.rec (motive := fun _ => (A → Option R)) (fun _ => none) (fun k e => d (fun v => (bound_Check_Fix.ev k) v) (fun v => (bound_None_Fix.ev k) v)) k
theorem ev_ok (k : Nat) : (∀ v, Cn now ((ev k) v) fun _ => F v) := Nat.rec (motive := fun k => (∀ v, Cn now ((ev k) v) fun _ => F v)) (fun _ => .none) (fun k h => (fun v r q => F_of v (d_cn (E := now) ((bound_Check_Fix.ev_ok k)) ((bound_None_Fix.ev_ok k)) v r q))) k
theorem ev_is {k : Nat} {v : A} {r : R} (h : (ev k) v = some r) : F v = some r := (ev_ok k) v r h
end bound_Norm_Fix
namespace bound_Of_Fix
def ev (k : Nat) : (A → Option R) := Nat.rec (motive := fun _ => (A → Option R)) (fun _ => none) (fun k e => d (fun v => (bound_Norm_Fix.ev k) v)) k
theorem ev_ok (k : Nat) : (∀ v, Cn now ((ev k) v) fun _ => F v) := Nat.rec (motive := fun k => (∀ v, Cn now ((ev k) v) fun _ => F v)) (fun _ => .none) (fun k h => (fun v r q => F_of v (d_cn (E := now) ((bound_Norm_Fix.ev_ok k)) v r q))) k
theorem ev_is {k : Nat} {v : A} {r : R} (h : (ev k) v = some r) : F v = some r := (ev_ok k) v r h
end bound_Of_Fix
namespace trig_times
def ev (k : Nat) : (A → Option R) := Nat.rec (motive := fun _ => (A → Option R)) (fun _ => none) (fun k e => d (fun v => (num_MulDiv.ev k) v)) k
theorem ev_ok (k : Nat) : (∀ v, Cn now ((ev k) v) fun _ => F v) := Nat.rec (motive := fun k => (∀ v, Cn now ((ev k) v) fun _ => F v)) (fun _ => .none) (fun k h => (fun v r q => F_of v (d_cn (E := now) ((num_MulDiv.ev_ok k)) v r q))) k
theorem ev_is {k : Nat} {v : A} {r : R} (h : (ev k) v = some r) : F v = some r := (ev_ok k) v r h
end trig_times
namespace trig_series
def ev (k : Nat) : (A → Option R) × (T0 → Option R) := Nat.rec (motive := fun _ => (A → Option R) × (T0 → Option R)) ((fun _ => none), (fun _ => none)) (fun k e => (d (e.2), d0 (fun v => (trig_times.ev k) v) (e.2))) k
theorem ev_ok (k : Nat) : (∀ v, Cn now ((ev k).1 v) fun _ => F v) ∧ (∀ v, Cn now ((ev k).2 v) fun _ => D0 v) := Nat.rec (motive := fun k => (∀ v, Cn now ((ev k).1 v) fun _ => F v) ∧ (∀ v, Cn now ((ev k).2 v) fun _ => D0 v)) ⟨(fun _ => .none), (fun _ => .none)⟩ (fun k h => ⟨(fun v r q => F_of v (d_cn (E := now) (h.2) v r q)), (fun v r q => D0_of v (d0_cn (E := now) ((trig_times.ev_ok k)) (h.2) v r q))⟩) k
theorem ev_is {k : Nat} {v : A} {r : R} (h : (ev k).1 v = some r) : F v = some r := (ev_ok k).1 v r h
end trig_series
namespace num_RoundDiv
def ev (k : Nat) : (A → Option R) × (T0 → Option R) := Nat.rec (motive := fun _ => (A → Option R) × (T0 → Option R)) ((fun _ => none), (fun _ => none)) (fun k e => (d (e.2), d0)) k
theorem ev_ok (k : Nat) : (∀ v, Cn now ((ev k).1 v) fun _ => F v) ∧ (∀ v, Cn now ((ev k).2 v) fun _ => D0 v) := Nat.rec (motive := fun k => (∀ v, Cn now ((ev k).1 v) fun _ => F v) ∧ (∀ v, Cn now ((ev k).2 v) fun _ => D0 v)) ⟨(fun _ => .none), (fun _ => .none)⟩ (fun k h => ⟨(fun v r q => F_of v (d_cn (E := now) (h.2) v r q)), (fun v r q => D0_of v (d0_cn (E := now) v r q))⟩) k
theorem ev_is {k : Nat} {v : A} {r : R} (h : (ev k).1 v = some r) : F v = some r := (ev_ok k).1 v r h
end num_RoundDiv
namespace trig_quarter
def ev (k : Nat) : (A → Option R) × (T0 → Option R) := Nat.rec (motive := fun _ => (A → Option R) × (T0 → Option R)) ((fun _ => none), (fun _ => none)) (fun k e => (d (e.2), d0 (fun v => (num_MulDiv.ev k) v) (fun v => (trig_times.ev k) v) (fun v => (trig_series.ev k).1 v) (fun v => (num_RoundDiv.ev k).1 v))) k
theorem ev_ok (k : Nat) : (∀ v, Cn now ((ev k).1 v) fun _ => F v) ∧ (∀ v, Cn now ((ev k).2 v) fun _ => D0 v) := Nat.rec (motive := fun k => (∀ v, Cn now ((ev k).1 v) fun _ => F v) ∧ (∀ v, Cn now ((ev k).2 v) fun _ => D0 v)) ⟨(fun _ => .none), (fun _ => .none)⟩ (fun k h => ⟨(fun v r q => F_of v (d_cn (E := now) (h.2) v r q)), (fun v r q => D0_of v (d0_cn (E := now) ((num_MulDiv.ev_ok k)) ((trig_times.ev_ok k)) ((trig_series.ev_ok k).1) ((num_RoundDiv.ev_ok k).1) v r q))⟩) k
theorem ev_is {k : Nat} {v : A} {r : R} (h : (ev k).1 v = some r) : F v = some r := (ev_ok k).1 v r h
end trig_quarter
namespace trig_Sin
def ev (k : Nat) : (A → Option R) := Nat.rec (motive := fun _ => (A → Option R)) (fun _ => none) (fun k e => d (fun v => (trig_quarter.ev k).1 v)) k
theorem ev_ok (k : Nat) : (∀ v, Cn now ((ev k) v) fun _ => F v) := Nat.rec (motive := fun k => (∀ v, Cn now ((ev k) v) fun _ => F v)) (fun _ => .none) (fun k h => (fun v r q => F_of v (d_cn (E := now) ((trig_quarter.ev_ok k).1) v r q))) k
theorem ev_is {k : Nat} {v : A} {r : R} (h : (ev k) v = some r) : F v = some r := (ev_ok k) v r h
end trig_Sin
namespace trig_Cos
def ev (k : Nat) : (A → Option R) := Nat.rec (motive := fun _ => (A → Option R)) (fun _ => none) (fun k e => d (fun v => (trig_Sin.ev k) v)) k
theorem ev_ok (k : Nat) : (∀ v, Cn now ((ev k) v) fun _ => F v) := Nat.rec (motive := fun k => (∀ v, Cn now ((ev k) v) fun _ => F v)) (fun _ => .none) (fun k h => (fun v r q => F_of v (d_cn (E := now) ((trig_Sin.ev_ok k)) v r q))) k
theorem ev_is {k : Nat} {v : A} {r : R} (h : (ev k) v = some r) : F v = some r := (ev_ok k) v r h
end trig_Cos
namespace trig_wave
def ev (k : Nat) : (A → Option R) × (T0 → Option R) × (T1 → Option R) := Nat.rec (motive := fun _ => (A → Option R) × (T0 → Option R) × (T1 → Option R)) ((fun _ => none), (fun _ => none), (fun _ => none)) (fun k e => (d (fun v => (bound_Norm_Arc.ev k) v) (fun v => (bound_None_Fix.ev k) v) (fun v => (trig_Cos.ev k) v) (fun v => (trig_meets.ev k) v) (e.2.1), d0 (fun v => (trig_meets.ev k) v) (e.2.2), d1 (fun v => (bound_Of_Fix.ev k) v))) k
theorem ev_ok (k : Nat) : (∀ v, Cn now ((ev k).1 v) fun _ => F v) ∧ (∀ v, Cn now ((ev k).2.1 v) fun _ => D0 v) ∧ (∀ v, Cn now ((ev k).2.2 v) fun _ => D1 v) := Nat.rec (motive := fun k => (∀ v, Cn now ((ev k).1 v) fun _ => F v) ∧ (∀ v, Cn now ((ev k).2.1 v) fun _ => D0 v) ∧ (∀ v, Cn now ((ev k).2.2 v) fun _ => D1 v)) ⟨(fun _ => .none), (fun _ => .none), (fun _ => .none)⟩ (fun k h => ⟨(fun v r q => F_of v (d_cn (E := now) ((bound_Norm_Arc.ev_ok k)) ((bound_None_Fix.ev_ok k)) ((trig_Cos.ev_ok k)) ((trig_meets.ev_ok k)) (h.2.1) v r q)), (fun v r q => D0_of v (d0_cn (E := now) ((trig_meets.ev_ok k)) (h.2.2) v r q)), (fun v r q => D1_of v (d1_cn (E := now) ((bound_Of_Fix.ev_ok k)) v r q))⟩) k
theorem ev_is {k : Nat} {v : A} {r : R} (h : (ev k).1 v = some r) : F v = some r := (ev_ok k).1 v r h
end trig_wave
namespace trig_CosBound
def ev (k : Nat) : (A → Option R) := Nat.rec (motive := fun _ => (A → Option R)) (fun _ => none) (fun k e => d (fun v => (trig_wave.ev k).1 v)) k
theorem ev_ok (k : Nat) : (∀ v, Cn now ((ev k) v) fun _ => F v) := Nat.rec (motive := fun k => (∀ v, Cn now ((ev k) v) fun _ => F v)) (fun _ => .none) (fun k h => (fun v r q => F_of v (d_cn (E := now) ((trig_wave.ev_ok k).1) v r q))) k
theorem ev_is {k : Nat} {v : A} {r : R} (h : (ev k) v = some r) : F v = some r := (ev_ok k) v r h
end trig_CosBound
namespace bound_Exact_Fix
def ev (k : Nat) : (A → Option R) := Nat.rec (motive := fun _ => (A → Option R)) (fun _ => none) (fun k e => d (fun v => (bound_Of_Fix.ev k) v)) k
theorem ev_ok (k : Nat) : (∀ v, Cn now ((ev k) v) fun _ => F v) := Nat.rec (motive := fun k => (∀ v, Cn now ((ev k) v) fun _ => F v)) (fun _ => .none) (fun k h => (fun v r q => F_of v (d_cn (E := now) ((bound_Of_Fix.ev_ok k)) v r q))) k
theorem ev_is {k : Nat} {v : A} {r : R} (h : (ev k) v = some r) : F v = some r := (ev_ok k) v r h
end bound_Exact_Fix
namespace bound_vague_Fix
def ev (k : Nat) : (A → Option R) := Nat.rec (motive := fun _ => (A → Option R)) (fun _ => none) (fun k e => d (fun v => (bound_Norm_Fix.ev k) v)) k
theorem ev_ok (k : Nat) : (∀ v, Cn now ((ev k) v) fun _ => F v) := Nat.rec (motive := fun k => (∀ v, Cn now ((ev k) v) fun _ => F v)) (fun _ => .none) (fun k h => (fun v r q => F_of v (d_cn (E := now) ((bound_Norm_Fix.ev_ok k)) v r q))) k
theorem ev_is {k : Nat} {v : A} {r : R} (h : (ev k) v = some r) : F v = some r := (ev_ok k) v r h
end bound_vague_Fix
namespace slices_Min_Fix
def ev (k : Nat) : (A → Option R) × (T0 → Option R) := Nat.rec (motive := fun _ => (A → Option R) × (T0 → Option R)) ((fun _ => none), (fun _ => none)) (fun k e => (d (e.2), d0 (e.2))) k
theorem ev_ok (k : Nat) : (∀ v, Cn now ((ev k).1 v) fun _ => F v) ∧ (∀ v, Cn now ((ev k).2 v) fun _ => D0 v) := Nat.rec (motive := fun k => (∀ v, Cn now ((ev k).1 v) fun _ => F v) ∧ (∀ v, Cn now ((ev k).2 v) fun _ => D0 v)) ⟨(fun _ => .none), (fun _ => .none)⟩ (fun k h => ⟨(fun v r q => F_of v (d_cn (E := now) (h.2) v r q)), (fun v r q => D0_of v (d0_cn (E := now) (h.2) v r q))⟩) k
theorem ev_is {k : Nat} {v : A} {r : R} (h : (ev k).1 v = some r) : F v = some r := (ev_ok k).1 v r h
end slices_Min_Fix
namespace slices_Max_Fix
def ev (k : Nat) : (A → Option R) × (T0 → Option R) := Nat.rec (motive := fun _ => (A → Option R) × (T0 → Option R)) ((fun _ => none), (fun _ => none)) (fun k e => (d (e.2), d0 (e.2))) k
theorem ev_ok (k : Nat) : (∀ v, Cn now ((ev k).1 v) fun _ => F v) ∧ (∀ v, Cn now ((ev k).2 v) fun _ => D0 v) := Nat.rec (motive := fun k => (∀ v, Cn now ((ev k).1 v) fun _ => F v) ∧ (∀ v, Cn now ((ev k).2 v) fun _ => D0 v)) ⟨(fun _ => .none), (fun _ => .none)⟩ (fun k h => ⟨(fun v r q => F_of v (d_cn (E := now) (h.2) v r q)), (fun v r q => D0_of v (d0_cn (E := now) (h.2) v r q))⟩) k
theorem ev_is {k : Nat} {v : A} {r : R} (h : (ev k).1 v = some r) : F v = some r := (ev_ok k).1 v r h
end slices_Max_Fix
namespace bound_Mul_FixS1
def ev (k : Nat) : (A → Option R) := Nat.rec (motive := fun _ => (A → Option R)) (fun _ => none) (fun k e => d (fun v => (num_MulDiv.ev k) v)) k
theorem ev_ok (k : Nat) : (∀ v, Cn now ((ev k) v) fun _ => F v) := Nat.rec (motive := fun k => (∀ v, Cn now ((ev k) v) fun _ => F v)) (fun _ => .none) (fun k h => (fun v r q => F_of v (d_cn (E := now) ((num_MulDiv.ev_ok k)) v r q))) k
theorem ev_is {k : Nat} {v : A} {r : R} (h : (ev k) v = some r) : F v = some r := (ev_ok k) v r h
end bound_Mul_FixS1
namespace bound_Mul_FixS2
def ev (k : Nat) : (A → Option R) := Nat.rec (motive := fun _ => (A → Option R)) (fun _ => none) (fun k e => d (fun v => (num_MulDivUp.ev k) v)) k
theorem ev_ok (k : Nat) : (∀ v, Cn now ((ev k) v) fun _ => F v) := Nat.rec (motive := fun k => (∀ v, Cn now ((ev k) v) fun _ => F v)) (fun _ => .none) (fun k h => (fun v r q => F_of v (d_cn (E := now) ((num_MulDivUp.ev_ok k)) v r q))) k
theorem ev_is {k : Nat} {v : A} {r : R} (h : (ev k) v = some r) : F v = some r := (ev_ok k) v r h
end bound_Mul_FixS2
namespace bound_corners_Fix
def ev (k : Nat) : (A → Option R) × (T0 → Option R) × (T1 → Option R) := Nat.rec (motive := fun _ => (A → Option R) × (T0 → Option R) × (T1 → Option R)) ((fun _ => none), (fun _ => none), (fun _ => none)) (fun k e => (d (e.2.1), d0 (e.2.2) (fun v => (slices_Min_Fix.ev k).1 v) (fun v => (slices_Max_Fix.ev k).1 v) (fun v => (bound_Of_Fix.ev k) v), d1 (fun v => (bound_Mul_FixS1.ev k) v) (fun v => (bound_Mul_FixS2.ev k) v) (fun v => (bound_None_Fix.ev k) v) (e.2.2) (e.2.1))) k
theorem ev_ok (k : Nat) : (∀ v, Cn now ((ev k).1 v) fun _ => F v) ∧ (∀ v, Cn now ((ev k).2.1 v) fun _ => D0 v) ∧ (∀ v, Cn now ((ev k).2.2 v) fun _ => D1 v) := Nat.rec (motive := fun k => (∀ v, Cn now ((ev k).1 v) fun _ => F v) ∧ (∀ v, Cn now ((ev k).2.1 v) fun _ => D0 v) ∧ (∀ v, Cn now ((ev k).2.2 v) fun _ => D1 v)) ⟨(fun _ => .none), (fun _ => .none), (fun _ => .none)⟩ (fun k h => ⟨(fun v r q => F_of v (d_cn (E := now) (h.2.1) v r q)), (fun v r q => D0_of v (d0_cn (E := now) (h.2.2) ((slices_Min_Fix.ev_ok k).1) ((slices_Max_Fix.ev_ok k).1) ((bound_Of_Fix.ev_ok k)) v r q)), (fun v r q => D1_of v (d1_cn (E := now) ((bound_Mul_FixS1.ev_ok k)) ((bound_Mul_FixS2.ev_ok k)) ((bound_None_Fix.ev_ok k)) (h.2.2) (h.2.1) v r q))⟩) k
theorem ev_is {k : Nat} {v : A} {r : R} (h : (ev k).1 v = some r) : F v = some r := (ev_ok k).1 v r h
end bound_corners_Fix
namespace bound_Mul_Fix
def ev (k : Nat) : (A → Option R) := Nat.rec (motive := fun _ => (A → Option R)) (fun _ => none) (fun k e => d (fun v => (bound_vague_Fix.ev k) v) (fun v => (bound_None_Fix.ev k) v) (fun v => (bound_corners_Fix.ev k).1 v)) k
theorem ev_ok (k : Nat) : (∀ v, Cn now ((ev k) v) fun _ => F v) := Nat.rec (motive := fun k => (∀ v, Cn now ((ev k) v) fun _ => F v)) (fun _ => .none) (fun k h => (fun v r q => F_of v (d_cn (E := now) ((bound_vague_Fix.ev_ok k)) ((bound_None_Fix.ev_ok k)) ((bound_corners_Fix.ev_ok k).1) v r q))) k
theorem ev_is {k : Nat} {v : A} {r : R} (h : (ev k) v = some r) : F v = some r := (ev_ok k) v r h
end bound_Mul_Fix
namespace bound_Scale_Fix
def ev (k : Nat) : (A → Option R) := Nat.rec (motive := fun _ => (A → Option R)) (fun _ => none) (fun k e => d (fun v => (bound_Exact_Fix.ev k) v) (fun v => (bound_Mul_Fix.ev k) v)) k
theorem ev_ok (k : Nat) : (∀ v, Cn now ((ev k) v) fun _ => F v) := Nat.rec (motive := fun k => (∀ v, Cn now ((ev k) v) fun _ => F v)) (fun _ => .none) (fun k h => (fun v r q => F_of v (d_cn (E := now) ((bound_Exact_Fix.ev_ok k)) ((bound_Mul_Fix.ev_ok k)) v r q))) k
theorem ev_is {k : Nat} {v : A} {r : R} (h : (ev k) v = some r) : F v = some r := (ev_ok k) v r h
end bound_Scale_Fix
namespace trig_wave_1
def ev (k : Nat) : (A → Option R) × (T0 → Option R) × (T1 → Option R) := Nat.rec (motive := fun _ => (A → Option R) × (T0 → Option R) × (T1 → Option R)) ((fun _ => none), (fun _ => none), (fun _ => none)) (fun k e => (d (fun v => (bound_Norm_Arc.ev k) v) (fun v => (bound_None_Fix.ev k) v) (fun v => (trig_Sin.ev k) v) (fun v => (trig_meets.ev k) v) (e.2.1), d0 (fun v => (trig_meets.ev k) v) (e.2.2), d1 (fun v => (bound_Of_Fix.ev k) v))) k
theorem ev_ok (k : Nat) : (∀ v, Cn now ((ev k).1 v) fun _ => F v) ∧ (∀ v, Cn now ((ev k).2.1 v) fun _ => D0 v) ∧ (∀ v, Cn now ((ev k).2.2 v) fun _ => D1 v) := Nat.rec (motive := fun k => (∀ v, Cn now ((ev k).1 v) fun _ => F v) ∧ (∀ v, Cn now ((ev k).2.1 v) fun _ => D0 v) ∧ (∀ v, Cn now ((ev k).2.2 v) fun _ => D1 v)) ⟨(fun _ => .none), (fun _ => .none), (fun _ => .none)⟩ (fun k h => ⟨(fun v r q => F_of v (d_cn (E := now) ((bound_Norm_Arc.ev_ok k)) ((bound_None_Fix.ev_ok k)) ((trig_Sin.ev_ok k)) ((trig_meets.ev_ok k)) (h.2.1) v r q)), (fun v r q => D0_of v (d0_cn (E := now) ((trig_meets.ev_ok k)) (h.2.2) v r q)), (fun v r q => D1_of v (d1_cn (E := now) ((bound_Of_Fix.ev_ok k)) v r q))⟩) k
theorem ev_is {k : Nat} {v : A} {r : R} (h : (ev k).1 v = some r) : F v = some r := (ev_ok k).1 v r h
end trig_wave_1
namespace trig_SinBound
def ev (k : Nat) : (A → Option R) := Nat.rec (motive := fun _ => (A → Option R)) (fun _ => none) (fun k e => d (fun v => (trig_wave_1.ev k).1 v)) k
theorem ev_ok (k : Nat) : (∀ v, Cn now ((ev k) v) fun _ => F v) := Nat.rec (motive := fun k => (∀ v, Cn now ((ev k) v) fun _ => F v)) (fun _ => .none) (fun k h => (fun v r q => F_of v (d_cn (E := now) ((trig_wave_1.ev_ok k).1) v r q))) k
theorem ev_is {k : Nat} {v : A} {r : R} (h : (ev k) v = some r) : F v = some r := (ev_ok k) v r h
end trig_SinBound
namespace bound_Add_Fix
def ev (k : Nat) : (A → Option R) := Nat.rec (motive := fun _ => (A → Option R)) (fun _ => none) (fun k e => d (fun v => (bound_vague_Fix.ev k) v) (fun v => (bound_None_Fix.ev k) v) (fun v => (bound_Of_Fix.ev k) v)) k
theorem ev_ok (k : Nat) : (∀ v, Cn now ((ev k) v) fun _ => F v) := Nat.rec (motive := fun k => (∀ v, Cn now ((ev k) v) fun _ => F v)) (fun _ => .none) (fun k h => (fun v r q => F_of v (d_cn (E := now) ((bound_vague_Fix.ev_ok k)) ((bound_None_Fix.ev_ok k)) ((bound_Of_Fix.ev_ok k)) v r q))) k
theorem ev_is {k : Nat} {v : A} {r : R} (h : (ev k) v = some r) : F v = some r := (ev_ok k) v r h
end bound_Add_Fix
namespace num_SqrtMul
def ev (k : Nat) : (A → Option R) × (T0 → Option R) × (T1 → Option R) := Nat.rec (motive := fun _ => (A → Option R) × (T0 → Option R) × (T1 → Option R)) ((fun _ => none), (fun _ => none), (fun _ => none)) (fun k e => (d (fun v => (bits_Mul64.ev k) v) (e.2.1), d0 (fun v => (bits_Mul64.ev k) v) (e.2.2), d1 (e.2.1))) k
theorem ev_ok (k : Nat) : (∀ v, Cn now ((ev k).1 v) fun _ => F v) ∧ (∀ v, Cn now ((ev k).2.1 v) fun _ => D0 v) ∧ (∀ v, Cn now ((ev k).2.2 v) fun _ => D1 v) := Nat.rec (motive := fun k => (∀ v, Cn now ((ev k).1 v) fun _ => F v) ∧ (∀ v, Cn now ((ev k).2.1 v) fun _ => D0 v) ∧ (∀ v, Cn now ((ev k).2.2 v) fun _ => D1 v)) ⟨(fun _ => .none), (fun _ => .none), (fun _ => .none)⟩ (fun k h => ⟨(fun v r q => F_of v (d_cn (E := now) ((bits_Mul64.ev_ok k)) (h.2.1) v r q)), (fun v r q => D0_of v (d0_cn (E := now) ((bits_Mul64.ev_ok k)) (h.2.2) v r q)), (fun v r q => D1_of v (d1_cn (E := now) (h.2.1) v r q))⟩) k
theorem ev_is {k : Nat} {v : A} {r : R} (h : (ev k).1 v = some r) : F v = some r := (ev_ok k).1 v r h
end num_SqrtMul
namespace cmp_isNaN_int64
def ev (k : Nat) : (A → Option R) := Nat.rec (motive := fun _ => (A → Option R)) (fun _ => none) (fun k e => d) k
theorem ev_ok (k : Nat) : (∀ v, Cn now ((ev k) v) fun _ => F v) := Nat.rec (motive := fun k => (∀ v, Cn now ((ev k) v) fun _ => F v)) (fun _ => .none) (fun k h => (fun v r q => F_of v (d_cn (E := now) v r q))) k
theorem ev_is {k : Nat} {v : A} {r : R} (h : (ev k) v = some r) : F v = some r := (ev_ok k) v r h
end cmp_isNaN_int64
namespace cmp_Compare_int64
def ev (k : Nat) : (A → Option R) := Nat.rec (motive := fun _ => (A → Option R)) (fun _ => none) (fun k e => d (fun v => (cmp_isNaN_int64.ev k) v)) k
theorem ev_ok (k : Nat) : (∀ v, Cn now ((ev k) v) fun _ => F v) := Nat.rec (motive := fun k => (∀ v, Cn now ((ev k) v) fun _ => F v)) (fun _ => .none) (fun k h => (fun v r q => F_of v (d_cn (E := now) ((cmp_isNaN_int64.ev_ok k)) v r q))) k
theorem ev_is {k : Nat} {v : A} {r : R} (h : (ev k) v = some r) : F v = some r := (ev_ok k) v r h
end cmp_Compare_int64
namespace cmp_isNaN_uint64
def ev (k : Nat) : (A → Option R) := Nat.rec (motive := fun _ => (A → Option R)) (fun _ => none) (fun k e => d) k
theorem ev_ok (k : Nat) : (∀ v, Cn now ((ev k) v) fun _ => F v) := Nat.rec (motive := fun k => (∀ v, Cn now ((ev k) v) fun _ => F v)) (fun _ => .none) (fun k h => (fun v r q => F_of v (d_cn (E := now) v r q))) k
theorem ev_is {k : Nat} {v : A} {r : R} (h : (ev k) v = some r) : F v = some r := (ev_ok k) v r h
end cmp_isNaN_uint64
namespace cmp_Compare_uint64
def ev (k : Nat) : (A → Option R) := Nat.rec (motive := fun _ => (A → Option R)) (fun _ => none) (fun k e => d (fun v => (cmp_isNaN_uint64.ev k) v)) k
theorem ev_ok (k : Nat) : (∀ v, Cn now ((ev k) v) fun _ => F v) := Nat.rec (motive := fun k => (∀ v, Cn now ((ev k) v) fun _ => F v)) (fun _ => .none) (fun k h => (fun v r q => F_of v (d_cn (E := now) ((cmp_isNaN_uint64.ev_ok k)) v r q))) k
theorem ev_is {k : Nat} {v : A} {r : R} (h : (ev k) v = some r) : F v = some r := (ev_ok k) v r h
end cmp_Compare_uint64
namespace cmp_Or_int
def ev (k : Nat) : (A → Option R) × (T0 → Option R) := Nat.rec (motive := fun _ => (A → Option R) × (T0 → Option R)) ((fun _ => none), (fun _ => none)) (fun k e => (d (e.2), d0 (e.2))) k
theorem ev_ok (k : Nat) : (∀ v, Cn now ((ev k).1 v) fun _ => F v) ∧ (∀ v, Cn now ((ev k).2 v) fun _ => D0 v) := Nat.rec (motive := fun k => (∀ v, Cn now ((ev k).1 v) fun _ => F v) ∧ (∀ v, Cn now ((ev k).2 v) fun _ => D0 v)) ⟨(fun _ => .none), (fun _ => .none)⟩ (fun k h => ⟨(fun v r q => F_of v (d_cn (E := now) (h.2) v r q)), (fun v r q => D0_of v (d0_cn (E := now) (h.2) v r q))⟩) k
theorem ev_is {k : Nat} {v : A} {r : R} (h : (ev k).1 v = some r) : F v = some r := (ev_ok k).1 v r h
end cmp_Or_int
namespace num_Wide_Cmp
def ev (k : Nat) : (A → Option R) := Nat.rec (motive := fun _ => (A → Option R)) (fun _ => none) (fun k e => d (fun v => (cmp_Compare_int64.ev k) v) (fun v => (cmp_Compare_uint64.ev k) v) (fun v => (cmp_Or_int.ev k).1 v)) k
theorem ev_ok (k : Nat) : (∀ v, Cn now ((ev k) v) fun _ => F v) := Nat.rec (motive := fun k => (∀ v, Cn now ((ev k) v) fun _ => F v)) (fun _ => .none) (fun k h => (fun v r q => F_of v (d_cn (E := now) ((cmp_Compare_int64.ev_ok k)) ((cmp_Compare_uint64.ev_ok k)) ((cmp_Or_int.ev_ok k).1) v r q))) k
theorem ev_is {k : Nat} {v : A} {r : R} (h : (ev k) v = some r) : F v = some r := (ev_ok k) v r h
end num_Wide_Cmp
namespace bound_Root_Fix
def ev (k : Nat) : (A → Option R) × (T0 → Option R) := Nat.rec (motive := fun _ => (A → Option R) × (T0 → Option R)) ((fun _ => none), (fun _ => none)) (fun k e => (d (fun v => (bound_vague_Fix.ev k) v) (fun v => (bound_None_Fix.ev k) v) (fun v => (num_SqrtMul.ev k).1 v) (fun v => (num_Product.ev k) v) (fun v => (num_Wide_Cmp.ev k) v) (e.2), d0 (fun v => (bound_Of_Fix.ev k) v))) k
theorem ev_ok (k : Nat) : (∀ v, Cn now ((ev k).1 v) fun _ => F v) ∧ (∀ v, Cn now ((ev k).2 v) fun _ => D0 v) := Nat.rec (motive := fun k => (∀ v, Cn now ((ev k).1 v) fun _ => F v) ∧ (∀ v, Cn now ((ev k).2 v) fun _ => D0 v)) ⟨(fun _ => .none), (fun _ => .none)⟩ (fun k h => ⟨(fun v r q => F_of v (d_cn (E := now) ((bound_vague_Fix.ev_ok k)) ((bound_None_Fix.ev_ok k)) ((num_SqrtMul.ev_ok k).1) ((num_Product.ev_ok k)) ((num_Wide_Cmp.ev_ok k)) (h.2) v r q)), (fun v r q => D0_of v (d0_cn (E := now) ((bound_Of_Fix.ev_ok k)) v r q))⟩) k
theorem ev_is {k : Nat} {v : A} {r : R} (h : (ev k).1 v = some r) : F v = some r := (ev_ok k).1 v r h
end bound_Root_Fix
namespace bound_Div_FixS1
def ev (k : Nat) : (A → Option R) := Nat.rec (motive := fun _ => (A → Option R)) (fun _ => none) (fun k e => d (fun v => (num_MulDiv.ev k) v)) k
theorem ev_ok (k : Nat) : (∀ v, Cn now ((ev k) v) fun _ => F v) := Nat.rec (motive := fun k => (∀ v, Cn now ((ev k) v) fun _ => F v)) (fun _ => .none) (fun k h => (fun v r q => F_of v (d_cn (E := now) ((num_MulDiv.ev_ok k)) v r q))) k
theorem ev_is {k : Nat} {v : A} {r : R} (h : (ev k) v = some r) : F v = some r := (ev_ok k) v r h
end bound_Div_FixS1
namespace bound_Div_FixS2
def ev (k : Nat) : (A → Option R) := Nat.rec (motive := fun _ => (A → Option R)) (fun _ => none) (fun k e => d (fun v => (num_MulDivUp.ev k) v)) k
theorem ev_ok (k : Nat) : (∀ v, Cn now ((ev k) v) fun _ => F v) := Nat.rec (motive := fun k => (∀ v, Cn now ((ev k) v) fun _ => F v)) (fun _ => .none) (fun k h => (fun v r q => F_of v (d_cn (E := now) ((num_MulDivUp.ev_ok k)) v r q))) k
theorem ev_is {k : Nat} {v : A} {r : R} (h : (ev k) v = some r) : F v = some r := (ev_ok k) v r h
end bound_Div_FixS2
namespace bound_corners_Fix_1
def ev (k : Nat) : (A → Option R) × (T0 → Option R) × (T1 → Option R) := Nat.rec (motive := fun _ => (A → Option R) × (T0 → Option R) × (T1 → Option R)) ((fun _ => none), (fun _ => none), (fun _ => none)) (fun k e => (d (e.2.1), d0 (e.2.2) (fun v => (slices_Min_Fix.ev k).1 v) (fun v => (slices_Max_Fix.ev k).1 v) (fun v => (bound_Of_Fix.ev k) v), d1 (fun v => (bound_Div_FixS1.ev k) v) (fun v => (bound_Div_FixS2.ev k) v) (fun v => (bound_None_Fix.ev k) v) (e.2.2) (e.2.1))) k
theorem ev_ok (k : Nat) : (∀ v, Cn now ((ev k).1 v) fun _ => F v) ∧ (∀ v, Cn now ((ev k).2.1 v) fun _ => D0 v) ∧ (∀ v, Cn now ((ev k).2.2 v) fun _ => D1 v) := Nat.rec (motive := fun k => (∀ v, Cn now ((ev k).1 v) fun _ => F v) ∧ (∀ v, Cn now ((ev k).2.1 v) fun _ => D0 v) ∧ (∀ v, Cn now ((ev k).2.2 v) fun _ => D1 v)) ⟨(fun _ => .none), (fun _ => .none), (fun _ => .none)⟩ (fun k h => ⟨(fun v r q => F_of v (d_cn (E := now) (h.2.1) v r q)), (fun v r q => D0_of v (d0_cn (E := now) (h.2.2) ((slices_Min_Fix.ev_ok k).1) ((slices_Max_Fix.ev_ok k).1) ((bound_Of_Fix.ev_ok k)) v r q)), (fun v r q => D1_of v (d1_cn (E := now) ((bound_Div_FixS1.ev_ok k)) ((bound_Div_FixS2.ev_ok k)) ((bound_None_Fix.ev_ok k)) (h.2.2) (h.2.1) v r q))⟩) k
theorem ev_is {k : Nat} {v : A} {r : R} (h : (ev k).1 v = some r) : F v = some r := (ev_ok k).1 v r h
end bound_corners_Fix_1
namespace bound_Neg_Fix
def ev (k : Nat) : (A → Option R) := Nat.rec (motive := fun _ => (A → Option R)) (fun _ => none) (fun k e => d (fun v => (bound_Norm_Fix.ev k) v)) k
theorem ev_ok (k : Nat) : (∀ v, Cn now ((ev k) v) fun _ => F v) := Nat.rec (motive := fun k => (∀ v, Cn now ((ev k) v) fun _ => F v)) (fun _ => .none) (fun k h => (fun v r q => F_of v (d_cn (E := now) ((bound_Norm_Fix.ev_ok k)) v r q))) k
theorem ev_is {k : Nat} {v : A} {r : R} (h : (ev k) v = some r) : F v = some r := (ev_ok k) v r h
end bound_Neg_Fix
namespace bound_Div_Fix
def ev (k : Nat) : (A → Option R) × (T0 → Option R) := Nat.rec (motive := fun _ => (A → Option R) × (T0 → Option R)) ((fun _ => none), (fun _ => none)) (fun k e => (d (fun v => (bound_vague_Fix.ev k) v) (fun v => (bound_None_Fix.ev k) v) (fun v => (bound_Neg_Fix.ev k) v) (e.2), d0 (fun v => (bound_corners_Fix_1.ev k).1 v))) k
theorem ev_ok (k : Nat) : (∀ v, Cn now ((ev k).1 v) fun _ => F v) ∧ (∀ v, Cn now ((ev k).2 v) fun _ => D0 v) := Nat.rec (motive := fun k => (∀ v, Cn now ((ev k).1 v) fun _ => F v) ∧ (∀ v, Cn now ((ev k).2 v) fun _ => D0 v)) ⟨(fun _ => .none), (fun _ => .none)⟩ (fun k h => ⟨(fun v r q => F_of v (d_cn (E := now) ((bound_vague_Fix.ev_ok k)) ((bound_None_Fix.ev_ok k)) ((bound_Neg_Fix.ev_ok k)) (h.2) v r q)), (fun v r q => D0_of v (d0_cn (E := now) ((bound_corners_Fix_1.ev_ok k).1) v r q))⟩) k
theorem ev_is {k : Nat} {v : A} {r : R} (h : (ev k).1 v = some r) : F v = some r := (ev_ok k).1 v r h
end bound_Div_Fix
namespace bound_Meet_Fix
def ev (k : Nat) : (A → Option R) := Nat.rec (motive := fun _ => (A → Option R)) (fun _ => none) (fun k e => d (fun v => (bound_Norm_Fix.ev k) v) (fun v => (bound_Of_Fix.ev k) v)) k
theorem ev_ok (k : Nat) : (∀ v, Cn now ((ev k) v) fun _ => F v) := Nat.rec (motive := fun k => (∀ v, Cn now ((ev k) v) fun _ => F v)) (fun _ => .none) (fun k h => (fun v r q => F_of v (d_cn (E := now) ((bound_Norm_Fix.ev_ok k)) ((bound_Of_Fix.ev_ok k)) v r q))) k
theorem ev_is {k : Nat} {v : A} {r : R} (h : (ev k) v = some r) : F v = some r := (ev_ok k) v r h
end bound_Meet_Fix
namespace horizon_Height
def ev (k : Nat) : (A → Option R) := Nat.rec (motive := fun _ => (A → Option R)) (fun _ => none) (fun k e => d (fun v => (horizon_CheckSite.ev k) v) (fun v => (sphere_Check.ev k) v) (fun v => (cmp_Or_Errno.ev k).1 v) (fun v => (bound_None_Fix.ev k) v) (fun v => (sphere_Grow.ev k).1 v) (fun v => (bound_Exact_Arc.ev k) v) (fun v => (bound_Add_Arc.ev k) v) (fun v => (trig_CosBound.ev k) v) (fun v => (bound_Scale_Fix.ev k) v) (fun v => (trig_SinBound.ev k) v) (fun v => (bound_Add_Fix.ev k) v) (fun v => (bound_Mul_Fix.ev k) v) (fun v => (bound_Exact_Fix.ev k) v) (fun v => (bound_Root_Fix.ev k).1 v) (fun v => (bound_Div_Fix.ev k).1 v) (fun v => (bound_Of_Fix.ev k) v) (fun v => (bound_Meet_Fix.ev k) v)) k
theorem ev_ok (k : Nat) : (∀ v, Cn now ((ev k) v) fun _ => F v) := Nat.rec (motive := fun k => (∀ v, Cn now ((ev k) v) fun _ => F v)) (fun _ => .none) (fun k h => (fun v r q => F_of v (d_cn (E := now) ((horizon_CheckSite.ev_ok k)) ((sphere_Check.ev_ok k)) ((cmp_Or_Errno.ev_ok k).1) ((bound_None_Fix.ev_ok k)) ((sphere_Grow.ev_ok k).1) ((bound_Exact_Arc.ev_ok k)) ((bound_Add_Arc.ev_ok k)) ((trig_CosBound.ev_ok k)) ((bound_Scale_Fix.ev_ok k)) ((trig_SinBound.ev_ok k)) ((bound_Add_Fix.ev_ok k)) ((bound_Mul_Fix.ev_ok k)) ((bound_Exact_Fix.ev_ok k)) ((bound_Root_Fix.ev_ok k).1) ((bound_Div_Fix.ev_ok k).1) ((bound_Of_Fix.ev_ok k)) ((bound_Meet_Fix.ev_ok k)) v r q))) k
theorem ev_is {k : Nat} {v : A} {r : R} (h : (ev k) v = some r) : F v = some r := (ev_ok k) v r h
end horizon_Height
namespace window_height
def ev (k : Nat) : (A → Option R) := Nat.rec (motive := fun _ => (A → Option R)) (fun _ => none) (fun k e => d (fun v => (window_when.ev k) v) (fun v => (scale_Sidereal.ev k) v) (fun v => (horizon_Height.ev k) v)) k
theorem ev_ok (k : Nat) : (∀ v, Cn now ((ev k) v) fun _ => F v) := Nat.rec (motive := fun k => (∀ v, Cn now ((ev k) v) fun _ => F v)) (fun _ => .none) (fun k h => (fun v r q => F_of v (d_cn (E := now) ((window_when.ev_ok k)) ((scale_Sidereal.ev_ok k)) ((horizon_Height.ev_ok k)) v r q))) k
theorem ev_is {k : Nat} {v : A} {r : R} (h : (ev k) v = some r) : F v = some r := (ev_ok k) v r h
end window_height
namespace window_atMost
def ev (k : Nat) : (A → Option R) := Nat.rec (motive := fun _ => (A → Option R)) (fun _ => none) (fun k e => d) k
theorem ev_ok (k : Nat) : (∀ v, Cn now ((ev k) v) fun _ => F v) := Nat.rec (motive := fun k => (∀ v, Cn now ((ev k) v) fun _ => F v)) (fun _ => .none) (fun k h => (fun v r q => F_of v (d_cn (E := now) v r q))) k
theorem ev_is {k : Nat} {v : A} {r : R} (h : (ev k) v = some r) : F v = some r := (ev_ok k) v r h
end window_atMost
namespace window_dark
def ev (k : Nat) : (A → Option R) := Nat.rec (motive := fun _ => (A → Option R)) (fun _ => none) (fun k e => d (fun v => (window_height.ev k) v) (fun v => (window_atMost.ev k) v)) k
theorem ev_ok (k : Nat) : (∀ v, Cn now ((ev k) v) fun _ => F v) := Nat.rec (motive := fun k => (∀ v, Cn now ((ev k) v) fun _ => F v)) (fun _ => .none) (fun k h => (fun v r q => F_of v (d_cn (E := now) ((window_height.ev_ok k)) ((window_atMost.ev_ok k)) v r q))) k
theorem ev_is {k : Nat} {v : A} {r : R} (h : (ev k) v = some r) : F v = some r := (ev_ok k) v r h
end window_dark
namespace window_atLeast
def ev (k : Nat) : (A → Option R) := Nat.rec (motive := fun _ => (A → Option R)) (fun _ => none) (fun k e => d) k
theorem ev_ok (k : Nat) : (∀ v, Cn now ((ev k) v) fun _ => F v) := Nat.rec (motive := fun k => (∀ v, Cn now ((ev k) v) fun _ => F v)) (fun _ => .none) (fun k h => (fun v r q => F_of v (d_cn (E := now) v r q))) k
theorem ev_is {k : Nat} {v : A} {r : R} (h : (ev k) v = some r) : F v = some r := (ev_ok k) v r h
end window_atLeast
namespace big_trim
def ev (k : Nat) : (A → Option R) × (T0 → Option R) × (T1 → Option R) := Nat.rec (motive := fun _ => (A → Option R) × (T0 → Option R) × (T1 → Option R)) ((fun _ => none), (fun _ => none), (fun _ => none)) (fun k e => (d (e.2.1), d0 (e.2.2), d1 (e.2.2))) k
theorem ev_ok (k : Nat) : (∀ v, Cn now ((ev k).1 v) fun _ => F v) ∧ (∀ v, Cn now ((ev k).2.1 v) fun _ => D0 v) ∧ (∀ v, Cn now ((ev k).2.2 v) fun _ => D1 v) := Nat.rec (motive := fun k => (∀ v, Cn now ((ev k).1 v) fun _ => F v) ∧ (∀ v, Cn now ((ev k).2.1 v) fun _ => D0 v) ∧ (∀ v, Cn now ((ev k).2.2 v) fun _ => D1 v)) ⟨(fun _ => .none), (fun _ => .none), (fun _ => .none)⟩ (fun k h => ⟨(fun v r q => F_of v (d_cn (E := now) (h.2.1) v r q)), (fun v r q => D0_of v (d0_cn (E := now) (h.2.2) v r q)), (fun v r q => D1_of v (d1_cn (E := now) (h.2.2) v r q))⟩) k
theorem ev_is {k : Nat} {v : A} {r : R} (h : (ev k).1 v = some r) : F v = some r := (ev_ok k).1 v r h
end big_trim
namespace big_made
def ev (k : Nat) : (A → Option R) := Nat.rec (motive := fun _ => (A → Option R)) (fun _ => none) (fun k e => d (fun v => (big_trim.ev k).1 v)) k
theorem ev_ok (k : Nat) : (∀ v, Cn now ((ev k) v) fun _ => F v) := Nat.rec (motive := fun k => (∀ v, Cn now ((ev k) v) fun _ => F v)) (fun _ => .none) (fun k h => (fun v r q => F_of v (d_cn (E := now) ((big_trim.ev_ok k).1) v r q))) k
theorem ev_is {k : Nat} {v : A} {r : R} (h : (ev k) v = some r) : F v = some r := (ev_ok k) v r h
end big_made
namespace big_Of
def ev (k : Nat) : (A → Option R) × (T0 → Option R) := Nat.rec (motive := fun _ => (A → Option R) × (T0 → Option R)) ((fun _ => none), (fun _ => none)) (fun k e => (d (e.2), d0 (fun v => (big_made.ev k) v))) k
theorem ev_ok (k : Nat) : (∀ v, Cn now ((ev k).1 v) fun _ => F v) ∧ (∀ v, Cn now ((ev k).2 v) fun _ => D0 v) := Nat.rec (motive := fun k => (∀ v, Cn now ((ev k).1 v) fun _ => F v) ∧ (∀ v, Cn now ((ev k).2 v) fun _ => D0 v)) ⟨(fun _ => .none), (fun _ => .none)⟩ (fun k h => ⟨(fun v r q => F_of v (d_cn (E := now) (h.2) v r q)), (fun v r q => D0_of v (d0_cn (E := now) ((big_made.ev_ok k)) v r q))⟩) k
theorem ev_is {k : Nat} {v : A} {r : R} (h : (ev k).1 v = some r) : F v = some r := (ev_ok k).1 v r h
end big_Of
namespace bits_Len32
def ev (k : Nat) : (A → Option R) × (T0 → Option R) × (T1 → Option R) := Nat.rec (motive := fun _ => (A → Option R) × (T0 → Option R) × (T1 → Option R)) ((fun _ => none), (fun _ => none), (fun _ => none)) (fun k e => (d (e.2.1), d0 (e.2.2), d1)) k
theorem ev_ok (k : Nat) : (∀ v, Cn now ((ev k).1 v) fun _ => F v) ∧ (∀ v, Cn now ((ev k).2.1 v) fun _ => D0 v) ∧ (∀ v, Cn now ((ev k).2.2 v) fun _ => D1 v) := Nat.rec (motive := fun k => (∀ v, Cn now ((ev k).1 v) fun _ => F v) ∧ (∀ v, Cn now ((ev k).2.1 v) fun _ => D0 v) ∧ (∀ v, Cn now ((ev k).2.2 v) fun _ => D1 v)) ⟨(fun _ => .none), (fun _ => .none), (fun _ => .none)⟩ (fun k h => ⟨(fun v r q => F_of v (d_cn (E := now) (h.2.1) v r q)), (fun v r q => D0_of v (d0_cn (E := now) (h.2.2) v r q)), (fun v r q => D1_of v (d1_cn (E := now) v r q))⟩) k
theorem ev_is {k : Nat} {v : A} {r : R} (h : (ev k).1 v = some r) : F v = some r := (ev_ok k).1 v r h
end bits_Len32
namespace big_Bits
def ev (k : Nat) : (A → Option R) := Nat.rec (motive := fun _ => (A → Option R)) (fun _ => none) (fun k e => d (fun v => (bits_Len32.ev k).1 v)) k
theorem ev_ok (k : Nat) : (∀ v, Cn now ((ev k) v) fun _ => F v) := Nat.rec (motive := fun k => (∀ v, Cn now ((ev k) v) fun _ => F v)) (fun _ => .none) (fun k h => (fun v r q => F_of v (d_cn (E := now) ((bits_Len32.ev_ok k).1) v r q))) k
theorem ev_is {k : Nat} {v : A} {r : R} (h : (ev k) v = some r) : F v = some r := (ev_ok k) v r h
end big_Bits
namespace big_limited
def ev (k : Nat) : (A → Option R) := Nat.rec (motive := fun _ => (A → Option R)) (fun _ => none) (fun k e => d (fun v => (big_made.ev k) v) (fun v => (big_Bits.ev k) v)) k
theorem ev_ok (k : Nat) : (∀ v, Cn now ((ev k) v) fun _ => F v) := Nat.rec (motive := fun k => (∀ v, Cn now ((ev k) v) fun _ => F v)) (fun _ => .none) (fun k h => (fun v r q => F_of v (d_cn (E := now) ((big_made.ev_ok k)) ((big_Bits.ev_ok k)) v r q))) k
theorem ev_is {k : Nat} {v : A} {r : R} (h : (ev k) v = some r) : F v = some r := (ev_ok k) v r h
end big_limited
namespace big_Mul
def ev (k : Nat) : (A → Option R) × (T0 → Option R) × (T1 → Option R) := Nat.rec (motive := fun _ => (A → Option R) × (T0 → Option R) × (T1 → Option R)) ((fun _ => none), (fun _ => none), (fun _ => none)) (fun k e => (d (fun v => (big_Bits.ev k) v) (e.2.1), d0 (e.2.2) (fun v => (big_limited.ev k) v), d1 (e.2.2) (e.2.1))) k
theorem ev_ok (k : Nat) : (∀ v, Cn now ((ev k).1 v) fun _ => F v) ∧ (∀ v, Cn now ((ev k).2.1 v) fun _ => D0 v) ∧ (∀ v, Cn now ((ev k).2.2 v) fun _ => D1 v) := Nat.rec (motive := fun k => (∀ v, Cn now ((ev k).1 v) fun _ => F v) ∧ (∀ v, Cn now ((ev k).2.1 v) fun _ => D0 v) ∧ (∀ v, Cn now ((ev k).2.2 v) fun _ => D1 v)) ⟨(fun _ => .none), (fun _ => .none), (fun _ => .none)⟩ (fun k h => ⟨(fun v r q => F_of v (d_cn (E := now) ((big_Bits.ev_ok k)) (h.2.1) v r q)), (fun v r q => D0_of v (d0_cn (E := now) (h.2.2) ((big_limited.ev_ok k)) v r q)), (fun v r q => D1_of v (d1_cn (E := now) (h.2.2) (h.2.1) v r q))⟩) k
theorem ev_is {k : Nat} {v : A} {r : R} (h : (ev k).1 v = some r) : F v = some r := (ev_ok k).1 v r h
end big_Mul
namespace sphere_mul
def ev (k : Nat) : (A → Option R) := Nat.rec (motive := fun _ => (A → Option R)) (fun _ => none) (fun k e => d (fun v => (big_Mul.ev k).1 v)) k
theorem ev_ok (k : Nat) : (∀ v, Cn now ((ev k) v) fun _ => F v) := Nat.rec (motive := fun k => (∀ v, Cn now ((ev k) v) fun _ => F v)) (fun _ => .none) (fun k h => (fun v r q => F_of v (d_cn (E := now) ((big_Mul.ev_ok k).1) v r q))) k
theorem ev_is {k : Nat} {v : A} {r : R} (h : (ev k) v = some r) : F v = some r := (ev_ok k) v r h
end sphere_mul
namespace sphere_square
def ev (k : Nat) : (A → Option R) := Nat.rec (motive := fun _ => (A → Option R)) (fun _ => none) (fun k e => d (fun v => (big_Of.ev k).1 v) (fun v => (sphere_mul.ev k) v)) k
theorem ev_ok (k : Nat) : (∀ v, Cn now ((ev k) v) fun _ => F v) := Nat.rec (motive := fun k => (∀ v, Cn now ((ev k) v) fun _ => F v)) (fun _ => .none) (fun k h => (fun v r q => F_of v (d_cn (E := now) ((big_Of.ev_ok k).1) ((sphere_mul.ev_ok k)) v r q))) k
theorem ev_is {k : Nat} {v : A} {r : R} (h : (ev k) v = some r) : F v = some r := (ev_ok k) v r h
end sphere_square
namespace big_Sign
def ev (k : Nat) : (A → Option R) := Nat.rec (motive := fun _ => (A → Option R)) (fun _ => none) (fun k e => d) k
theorem ev_ok (k : Nat) : (∀ v, Cn now ((ev k) v) fun _ => F v) := Nat.rec (motive := fun k => (∀ v, Cn now ((ev k) v) fun _ => F v)) (fun _ => .none) (fun k h => (fun v r q => F_of v (d_cn (E := now) v r q))) k
theorem ev_is {k : Nat} {v : A} {r : R} (h : (ev k) v = some r) : F v = some r := (ev_ok k) v r h
end big_Sign
namespace cmp_isNaN_int
def ev (k : Nat) : (A → Option R) := Nat.rec (motive := fun _ => (A → Option R)) (fun _ => none) (fun k e => d) k
theorem ev_ok (k : Nat) : (∀ v, Cn now ((ev k) v) fun _ => F v) := Nat.rec (motive := fun k => (∀ v, Cn now ((ev k) v) fun _ => F v)) (fun _ => .none) (fun k h => (fun v r q => F_of v (d_cn (E := now) v r q))) k
theorem ev_is {k : Nat} {v : A} {r : R} (h : (ev k) v = some r) : F v = some r := (ev_ok k) v r h
end cmp_isNaN_int
namespace cmp_Compare_int
def ev (k : Nat) : (A → Option R) := Nat.rec (motive := fun _ => (A → Option R)) (fun _ => none) (fun k e => d (fun v => (cmp_isNaN_int.ev k) v)) k
theorem ev_ok (k : Nat) : (∀ v, Cn now ((ev k) v) fun _ => F v) := Nat.rec (motive := fun k => (∀ v, Cn now ((ev k) v) fun _ => F v)) (fun _ => .none) (fun k h => (fun v r q => F_of v (d_cn (E := now) ((cmp_isNaN_int.ev_ok k)) v r q))) k
theorem ev_is {k : Nat} {v : A} {r : R} (h : (ev k) v = some r) : F v = some r := (ev_ok k) v r h
end cmp_Compare_int
namespace cmp_isNaN_uint32
def ev (k : Nat) : (A → Option R) := Nat.rec (motive := fun _ => (A → Option R)) (fun _ => none) (fun k e => d) k
theorem ev_ok (k : Nat) : (∀ v, Cn now ((ev k) v) fun _ => F v) := Nat.rec (motive := fun k => (∀ v, Cn now ((ev k) v) fun _ => F v)) (fun _ => .none) (fun k h => (fun v r q => F_of v (d_cn (E := now) v r q))) k
theorem ev_is {k : Nat} {v : A} {r : R} (h : (ev k) v = some r) : F v = some r := (ev_ok k) v r h
end cmp_isNaN_uint32
namespace cmp_Compare_uint32
def ev (k : Nat) : (A → Option R) := Nat.rec (motive := fun _ => (A → Option R)) (fun _ => none) (fun k e => d (fun v => (cmp_isNaN_uint32.ev k) v)) k
theorem ev_ok (k : Nat) : (∀ v, Cn now ((ev k) v) fun _ => F v) := Nat.rec (motive := fun k => (∀ v, Cn now ((ev k) v) fun _ => F v)) (fun _ => .none) (fun k h => (fun v r q => F_of v (d_cn (E := now) ((cmp_isNaN_uint32.ev_ok k)) v r q))) k
theorem ev_is {k : Nat} {v : A} {r : R} (h : (ev k) v = some r) : F v = some r := (ev_ok k) v r h
end cmp_Compare_uint32
namespace big_cmpMag
def ev (k : Nat) : (A → Option R) × (T0 → Option R) := Nat.rec (motive := fun _ => (A → Option R) × (T0 → Option R)) ((fun _ => none), (fun _ => none)) (fun k e => (d (fun v => (cmp_Compare_int.ev k) v) (e.2), d0 (fun v => (cmp_Compare_uint32.ev k) v) (e.2))) k
theorem ev_ok (k : Nat) : (∀ v, Cn now ((ev k).1 v) fun _ => F v) ∧ (∀ v, Cn now ((ev k).2 v) fun _ => D0 v) := Nat.rec (motive := fun k => (∀ v, Cn now ((ev k).1 v) fun _ => F v) ∧ (∀ v, Cn now ((ev k).2 v) fun _ => D0 v)) ⟨(fun _ => .none), (fun _ => .none)⟩ (fun k h => ⟨(fun v r q => F_of v (d_cn (E := now) ((cmp_Compare_int.ev_ok k)) (h.2) v r q)), (fun v r q => D0_of v (d0_cn (E := now) ((cmp_Compare_uint32.ev_ok k)) (h.2) v r q))⟩) k
theorem ev_is {k : Nat} {v : A} {r : R} (h : (ev k).1 v = some r) : F v = some r := (ev_ok k).1 v r h
end big_cmpMag
namespace big_Cmp
def ev (k : Nat) : (A → Option R) := Nat.rec (motive := fun _ => (A → Option R)) (fun _ => none) (fun k e => d (fun v => (big_Sign.ev k) v) (fun v => (cmp_Compare_int.ev k) v) (fun v => (big_cmpMag.ev k).1 v)) k
theorem ev_ok (k : Nat) : (∀ v, Cn now ((ev k) v) fun _ => F v) := Nat.rec (motive := fun k => (∀ v, Cn now ((ev k) v) fun _ => F v)) (fun _ => .none) (fun k h => (fun v r q => F_of v (d_cn (E := now) ((big_Sign.ev_ok k)) ((cmp_Compare_int.ev_ok k)) ((big_cmpMag.ev_ok k).1) v r q))) k
theorem ev_is {k : Nat} {v : A} {r : R} (h : (ev k) v = some r) : F v = some r := (ev_ok k) v r h
end big_Cmp
namespace sphere_both
def ev (k : Nat) : (A → Option R) := Nat.rec (motive := fun _ => (A → Option R)) (fun _ => none) (fun k e => d (fun v => (sphere_Check.ev k) v)) k
theorem ev_ok (k : Nat) : (∀ v, Cn now ((ev k) v) fun _ => F v) := Nat.rec (motive := fun k => (∀ v, Cn now ((ev k) v) fun _ => F v)) (fun _ => .none) (fun k h => (fun v r q => F_of v (d_cn (E := now) ((sphere_Check.ev_ok k)) v r q))) k
theorem ev_is {k : Nat} {v : A} {r : R} (h : (ev k) v = some r) : F v = some r := (ev_ok k) v r h
end sphere_both
namespace sphere_dot
def ev (k : Nat) : (A → Option R) := Nat.rec (motive := fun _ => (A → Option R)) (fun _ => none) (fun k e => d) k
theorem ev_ok (k : Nat) : (∀ v, Cn now ((ev k) v) fun _ => F v) := Nat.rec (motive := fun k => (∀ v, Cn now ((ev k) v) fun _ => F v)) (fun _ => .none) (fun k h => (fun v r q => F_of v (d_cn (E := now) v r q))) k
theorem ev_is {k : Nat} {v : A} {r : R} (h : (ev k) v = some r) : F v = some r := (ev_ok k) v r h
end sphere_dot
namespace sphere_norms
def ev (k : Nat) : (A → Option R) := Nat.rec (motive := fun _ => (A → Option R)) (fun _ => none) (fun k e => d (fun v => (sphere_dot.ev k) v) (fun v => (big_Of.ev k).1 v) (fun v => (sphere_mul.ev k) v)) k
theorem ev_ok (k : Nat) : (∀ v, Cn now ((ev k) v) fun _ => F v) := Nat.rec (motive := fun k => (∀ v, Cn now ((ev k) v) fun _ => F v)) (fun _ => .none) (fun k h => (fun v r q => F_of v (d_cn (E := now) ((sphere_dot.ev_ok k)) ((big_Of.ev_ok k).1) ((sphere_mul.ev_ok k)) v r q))) k
theorem ev_is {k : Nat} {v : A} {r : R} (h : (ev k) v = some r) : F v = some r := (ev_ok k) v r h
end sphere_norms
namespace sphere_Cosine
def ev (k : Nat) : (A → Option R) × (T0 → Option R) × (T1 → Option R) × (T2 → Option R) := Nat.rec (motive := fun _ => (A → Option R) × (T0 → Option R) × (T1 → Option R) × (T2 → Option R)) ((fun _ => none), (fun _ => none), (fun _ => none), (fun _ => none)) (fun k e => (d (fun v => (sphere_both.ev k) v) (fun v => (sphere_dot.ev k) v) (fun v => (sphere_norms.ev k) v) (fun v => (sphere_square.ev k) v) (fun v => (sphere_mul.ev k) v) (e.2.1), d0 (fun v => (sphere_square.ev k) v) (fun v => (sphere_mul.ev k) v) (fun v => (big_Cmp.ev k) v) (e.2.1) (fun v => (sphere_square.ev k) v) (fun v => (sphere_mul.ev k) v) (fun v => (big_Cmp.ev k) v) (e.2.2.1), d1 (e.2.2.2), d2)) k
theorem ev_ok (k : Nat) : (∀ v, Cn now ((ev k).1 v) fun _ => F v) ∧ (∀ v, Cn now ((ev k).2.1 v) fun _ => D0 v) ∧ (∀ v, Cn now ((ev k).2.2.1 v) fun _ => D1 v) ∧ (∀ v, Cn now ((ev k).2.2.2 v) fun _ => D2 v) := Nat.rec (motive := fun k => (∀ v, Cn now ((ev k).1 v) fun _ => F v) ∧ (∀ v, Cn now ((ev k).2.1 v) fun _ => D0 v) ∧ (∀ v, Cn now ((ev k).2.2.1 v) fun _ => D1 v) ∧ (∀ v, Cn now ((ev k).2.2.2 v) fun _ => D2 v)) ⟨(fun _ => .none), (fun _ => .none), (fun _ => .none), (fun _ => .none)⟩ (fun k h => ⟨(fun v r q => F_of v (d_cn (E := now) ((sphere_both.ev_ok k)) ((sphere_dot.ev_ok k)) ((sphere_norms.ev_ok k)) ((sphere_square.ev_ok k)) ((sphere_mul.ev_ok k)) (h.2.1) v r q)), (fun v r q => D0_of v (d0_cn (E := now) ((sphere_square.ev_ok k)) ((sphere_mul.ev_ok k)) ((big_Cmp.ev_ok k)) (h.2.1) ((sphere_square.ev_ok k)) ((sphere_mul.ev_ok k)) ((big_Cmp.ev_ok k)) (h.2.2.1) v r q)), (fun v r q => D1_of v (d1_cn (E := now) (h.2.2.2) v r q)), (fun v r q => D2_of v (d2_cn (E := now) v r q))⟩) k
theorem ev_is {k : Nat} {v : A} {r : R} (h : (ev k).1 v = some r) : F v = some r := (ev_ok k).1 v r h
end sphere_Cosine
namespace window_why
def ev (k : Nat) : (A → Option R) := Nat.rec (motive := fun _ => (A → Option R)) (fun _ => none) (fun k e => d (fun v => (window_dark.ev k) v) (fun v => (window_height.ev k) v) (fun v => (window_atLeast.ev k) v) (fun v => (sphere_Cosine.ev k).1 v) (fun v => (window_atMost.ev k) v)) k
theorem ev_ok (k : Nat) : (∀ v, Cn now ((ev k) v) fun _ => F v) := Nat.rec (motive := fun k => (∀ v, Cn now ((ev k) v) fun _ => F v)) (fun _ => .none) (fun k h => (fun v r q => F_of v (d_cn (E := now) ((window_dark.ev_ok k)) ((window_height.ev_ok k)) ((window_atLeast.ev_ok k)) ((sphere_Cosine.ev_ok k).1) ((window_atMost.ev_ok k)) v r q))) k
theorem ev_is {k : Nat} {v : A} {r : R} (h : (ev k) v = some r) : F v = some r := (ev_ok k) v r h
end window_why
namespace prop_within
def ev (k : Nat) : (A → Option R) := Nat.rec (motive := fun _ => (A → Option R)) (fun _ => none) (fun k e => d) k
theorem ev_ok (k : Nat) : (∀ v, Cn now ((ev k) v) fun _ => F v) := Nat.rec (motive := fun k => (∀ v, Cn now ((ev k) v) fun _ => F v)) (fun _ => .none) (fun k h => (fun v r q => F_of v (d_cn (E := now) v r q))) k
theorem ev_is {k : Nat} {v : A} {r : R} (h : (ev k) v = some r) : F v = some r := (ev_ok k) v r h
end prop_within
namespace frac_both
def ev (k : Nat) : (A → Option R) := Nat.rec (motive := fun _ => (A → Option R)) (fun _ => none) (fun k e => d (fun v => (frac_Check.ev k) v) (fun v => (cmp_Or_Errno.ev k).1 v)) k
theorem ev_ok (k : Nat) : (∀ v, Cn now ((ev k) v) fun _ => F v) := Nat.rec (motive := fun k => (∀ v, Cn now ((ev k) v) fun _ => F v)) (fun _ => .none) (fun k h => (fun v r q => F_of v (d_cn (E := now) ((frac_Check.ev_ok k)) ((cmp_Or_Errno.ev_ok k).1) v r q))) k
theorem ev_is {k : Nat} {v : A} {r : R} (h : (ev k) v = some r) : F v = some r := (ev_ok k) v r h
end frac_both
namespace frac_Cmp
def ev (k : Nat) : (A → Option R) := Nat.rec (motive := fun _ => (A → Option R)) (fun _ => none) (fun k e => d (fun v => (frac_both.ev k) v) (fun v => (num_Product.ev k) v) (fun v => (num_Wide_Cmp.ev k) v)) k
theorem ev_ok (k : Nat) : (∀ v, Cn now ((ev k) v) fun _ => F v) := Nat.rec (motive := fun k => (∀ v, Cn now ((ev k) v) fun _ => F v)) (fun _ => .none) (fun k h => (fun v r q => F_of v (d_cn (E := now) ((frac_both.ev_ok k)) ((num_Product.ev_ok k)) ((num_Wide_Cmp.ev_ok k)) v r q))) k
theorem ev_is {k : Nat} {v : A} {r : R} (h : (ev k) v = some r) : F v = some r := (ev_ok k) v r h
end frac_Cmp
namespace prop_CheckSpin
def ev (k : Nat) : (A → Option R) := Nat.rec (motive := fun _ => (A → Option R)) (fun _ => none) (fun k e => d (fun v => (scale_CheckRate.ev k) v) (fun v => (frac_Cmp.ev k) v)) k
theorem ev_ok (k : Nat) : (∀ v, Cn now ((ev k) v) fun _ => F v) := Nat.rec (motive := fun k => (∀ v, Cn now ((ev k) v) fun _ => F v)) (fun _ => .none) (fun k h => (fun v r q => F_of v (d_cn (E := now) ((scale_CheckRate.ev_ok k)) ((frac_Cmp.ev_ok k)) v r q))) k
theorem ev_is {k : Nat} {v : A} {r : R} (h : (ev k) v = some r) : F v = some r := (ev_ok k) v r h
end prop_CheckSpin
namespace prop_CheckNight
def ev (k : Nat) : (A → Option R) × (T0 → Option R) := Nat.rec (motive := fun _ => (A → Option R) × (T0 → Option R)) ((fun _ => none), (fun _ => none)) (fun k e => (d (fun v => (prop_within.ev k) v) (fun v => (prop_CheckSpin.ev k) v) (fun v => (sphere_Check.ev k) v) (e.2), d0 (fun v => (prop_within.ev k) v) (e.2))) k
theorem ev_ok (k : Nat) : (∀ v, Cn now ((ev k).1 v) fun _ => F v) ∧ (∀ v, Cn now ((ev k).2 v) fun _ => D0 v) := Nat.rec (motive := fun k => (∀ v, Cn now ((ev k).1 v) fun _ => F v) ∧ (∀ v, Cn now ((ev k).2 v) fun _ => D0 v)) ⟨(fun _ => .none), (fun _ => .none)⟩ (fun k h => ⟨(fun v r q => F_of v (d_cn (E := now) ((prop_within.ev_ok k)) ((prop_CheckSpin.ev_ok k)) ((sphere_Check.ev_ok k)) (h.2) v r q)), (fun v r q => D0_of v (d0_cn (E := now) ((prop_within.ev_ok k)) (h.2) v r q))⟩) k
theorem ev_is {k : Nat} {v : A} {r : R} (h : (ev k).1 v = some r) : F v = some r := (ev_ok k).1 v r h
end prop_CheckNight
namespace prop_CheckRequest
def ev (k : Nat) : (A → Option R) × (T0 → Option R) := Nat.rec (motive := fun _ => (A → Option R) × (T0 → Option R)) ((fun _ => none), (fun _ => none)) (fun k e => (d (fun v => (prop_within.ev k) v) (fun v => (sphere_Check.ev k) v) (e.2), d0 (fun v => (prop_within.ev k) v))) k
theorem ev_ok (k : Nat) : (∀ v, Cn now ((ev k).1 v) fun _ => F v) ∧ (∀ v, Cn now ((ev k).2 v) fun _ => D0 v) := Nat.rec (motive := fun k => (∀ v, Cn now ((ev k).1 v) fun _ => F v) ∧ (∀ v, Cn now ((ev k).2 v) fun _ => D0 v)) ⟨(fun _ => .none), (fun _ => .none)⟩ (fun k h => ⟨(fun v r q => F_of v (d_cn (E := now) ((prop_within.ev_ok k)) ((sphere_Check.ev_ok k)) (h.2) v r q)), (fun v r q => D0_of v (d0_cn (E := now) ((prop_within.ev_ok k)) v r q))⟩) k
theorem ev_is {k : Nat} {v : A} {r : R} (h : (ev k).1 v = some r) : F v = some r := (ev_ok k).1 v r h
end prop_CheckRequest
namespace window_both
def ev (k : Nat) : (A → Option R) := Nat.rec (motive := fun _ => (A → Option R)) (fun _ => none) (fun k e => d (fun v => (prop_CheckNight.ev k).1 v) (fun v => (prop_CheckRequest.ev k).1 v)) k
theorem ev_ok (k : Nat) : (∀ v, Cn now ((ev k) v) fun _ => F v) := Nat.rec (motive := fun k => (∀ v, Cn now ((ev k) v) fun _ => F v)) (fun _ => .none) (fun k h => (fun v r q => F_of v (d_cn (E := now) ((prop_CheckNight.ev_ok k).1) ((prop_CheckRequest.ev_ok k).1) v r q))) k
theorem ev_is {k : Nat} {v : A} {r : R} (h : (ev k) v = some r) : F v = some r := (ev_ok k) v r h
end window_both
namespace window_Slots
def ev (k : Nat) : (A → Option R) × (T0 → Option R) := Nat.rec (motive := fun _ => (A → Option R) × (T0 → Option R)) ((fun _ => none), (fun _ => none)) (fun k e => (d (fun v => (window_both.ev k) v) (e.2), d0 (fun v => (window_why.ev k) v) (e.2))) k
theorem ev_ok (k : Nat) : (∀ v, Cn now ((ev k).1 v) fun _ => F v) ∧ (∀ v, Cn now ((ev k).2 v) fun _ => D0 v) := Nat.rec (motive := fun k => (∀ v, Cn now ((ev k).1 v) fun _ => F v) ∧ (∀ v, Cn now ((ev k).2 v) fun _ => D0 v)) ⟨(fun _ => .none), (fun _ => .none)⟩ (fun k h => ⟨(fun v r q => F_of v (d_cn (E := now) ((window_both.ev_ok k)) (h.2) v r q)), (fun v r q => D0_of v (d0_cn (E := now) ((window_why.ev_ok k)) (h.2) v r q))⟩) k
theorem ev_is {k : Nat} {v : A} {r : R} (h : (ev k).1 v = some r) : F v = some r := (ev_ok k).1 v r h
end window_Slots
namespace slices_Equal_int
def ev (k : Nat) : (A → Option R) × (T0 → Option R) := Nat.rec (motive := fun _ => (A → Option R) × (T0 → Option R)) ((fun _ => none), (fun _ => none)) (fun k e => (d (e.2), d0 (e.2))) k
theorem ev_ok (k : Nat) : (∀ v, Cn now ((ev k).1 v) fun _ => F v) ∧ (∀ v, Cn now ((ev k).2 v) fun _ => D0 v) := Nat.rec (motive := fun k => (∀ v, Cn now ((ev k).1 v) fun _ => F v) ∧ (∀ v, Cn now ((ev k).2 v) fun _ => D0 v)) ⟨(fun _ => .none), (fun _ => .none)⟩ (fun k h => ⟨(fun v r q => F_of v (d_cn (E := now) (h.2) v r q)), (fun v r q => D0_of v (d0_cn (E := now) (h.2) v r q))⟩) k
theorem ev_is {k : Nat} {v : A} {r : R} (h : (ev k).1 v = some r) : F v = some r := (ev_ok k).1 v r h
end slices_Equal_int
namespace spykeep2_opens
def ev (k : Nat) : (A → Option R) := Nat.rec (motive := fun _ => (A → Option R)) (fun _ => none) (fun k e => d (fun v => (window_Slots.ev k).1 v) (fun v => (slices_Equal_int.ev k).1 v)) k
theorem ev_ok (k : Nat) : (∀ v, Cn now ((ev k) v) fun _ => F v) := Nat.rec (motive := fun k => (∀ v, Cn now ((ev k) v) fun _ => F v)) (fun _ => .none) (fun k h => (fun v r q => F_of v (d_cn (E := now) ((window_Slots.ev_ok k).1) ((slices_Equal_int.ev_ok k).1) v r q))) k
theorem ev_is {k : Nat} {v : A} {r : R} (h : (ev k) v = some r) : F v = some r := (ev_ok k) v r h
end spykeep2_opens
end Go.Proofs.RWin
namespace Go.Proofs.RWin
open Go Go.Eng
set_option linter.unusedVariables false

theorem Y.range {β : Type} {f : spymake_Stream_Range.R → Option β} {Q : β → Prop} (a b : Int) (L : List Int) (at_ : Int) (ha : 0 ≤ at_) (hb : at_ ≤ 4611686018427387904) (h0 : -1099511627776 ≤ a) (h1 : a ≤ b) (h2 : b ≤ 1099511627776)
    (k : ∀ r, a ≤ r → r ≤ b → Y (f (r, L, at_ + 1)) Q) : Y (bnd (spymake_Stream_Range.F (a, b, L, at_)) f) Q := by
  have : Y (spymake_Stream_Range.F (a, b, L, at_)) fun r => ∃ x, r = (x, L, at_ + 1) ∧ a ≤ x ∧ x ≤ b := by
    refine Y.of (spymake_Stream_Range.F_of _) (Y.nd (by omega) ?_)
    rw [w64 (x := b - a) (by omega) (by omega), w64 (x := b - a + 1) (by omega) (by omega)]
    refine Y.next L at_ (b - a + 1) ha hb (by omega) (by omega) fun r r0 r1 => Y.some ?_
    exact ⟨_, by rw [w64 (x := a + r) (by omega) (by omega)], by omega, by omega⟩
  obtain ⟨r, hr, x, rfl, h3, h4⟩ := this
  exact Y.bE hr (k x h3 h4)
/-- A night. -/
structure Nt where
  (lat lon sat ang num den beg lng sl sx sy sz mx my mz dusk : Int)
  cl : List Int
@[reducible] def Nt.w {β : Type} (n : Nt) (b : β) : Int × Int × Int × Int × Int × Int × Int × Int × Int × Int × Int × Int × Int × Int × Int × Int × List Int × β := (n.lat, n.lon, n.sat, n.ang, n.num, n.den, n.beg, n.lng, n.sl, n.sx, n.sy, n.sz, n.mx, n.my, n.mz, n.dusk, n.cl, b)
@[reducible] def Nt.v {β : Type} (n : Nt) (b : β) : Int × Int × Int × Int × Int × Int × Int × Int × Int × Int × Int × Int × Int × Int × Int × Int × β := (n.lat, n.lon, n.sat, n.ang, n.num, n.den, n.beg, n.lng, n.sl, n.sx, n.sy, n.sz, n.mx, n.my, n.mz, n.dusk, b)
@[reducible] def Nt.e (n : Nt) : prop_CheckNight.A := (n.lat, n.lon, n.sat, n.ang, n.num, n.den, n.beg, n.lng, n.sl, n.sx, n.sy, n.sz, n.mx, n.my, n.mz, n.dusk, n.cl)
@[reducible] def Nt.r (n : Nt) (L : List Int) (at_ : Int) : spymake_Stream_Night.R := (n.lat, n.lon, n.sat, n.ang, n.num, n.den, n.beg, n.lng, n.sl, n.sx, n.sy, n.sz, n.mx, n.my, n.mz, n.dusk, L, at_, n.cl)
/-- A request. -/
structure Rq where
  (id prop ax ay az len vis least most height moon cloud weight : Int)
@[reducible] def Rq.w {β : Type} (q : Rq) (b : β) : Int × Int × Int × Int × Int × Int × Int × Int × Int × Int × Int × Int × Int × β := (q.id, q.prop, q.ax, q.ay, q.az, q.len, q.vis, q.least, q.most, q.height, q.moon, q.cloud, q.weight, b)
@[reducible] def Rq.e (q : Rq) : prop_CheckRequest.A := (q.id, q.prop, q.ax, q.ay, q.az, q.len, q.vis, q.least, q.most, q.height, q.moon, q.cloud, q.weight)
def Vok (x y z : Int) : Prop := (-1048576 ≤ x ∧ x ≤ 1048576 ∧ -1048576 ≤ y ∧ y ≤ 1048576 ∧ -1048576 ≤ z ∧ z ≤ 1048576) ∧ ¬ (x = 0 ∧ y = 0 ∧ z = 0)
def RateOk (a b : Int) : Prop := (a = 99429 ∧ b = 1994) ∨ (a = 50 ∧ b = 1) ∨ (a = 1 ∧ b = 1) ∨ (a = 100 ∧ b = 1)
structure Nt.Ok (most : Int) (n : Nt) : Prop where
  sl : 1 ≤ n.sl ∧ n.sl ≤ most
  lng : 60000 ≤ n.lng ∧ n.lng ≤ 1800000
  beg : -997000000 ≤ n.beg ∧ n.beg ≤ 997000000
  lat : -1073741824 ≤ n.lat ∧ n.lat ≤ 1073741824
  lon : 0 ≤ n.lon ∧ n.lon < 4294967296
  sat : -1000 ≤ n.sat ∧ n.sat ≤ 1000
  ang : 0 ≤ n.ang ∧ n.ang < 1073741824
  rate : RateOk n.num n.den
  sun : Vok n.sx n.sy n.sz
  moon : Vok n.mx n.my n.mz
  dusk : -1073741824 ≤ n.dusk ∧ n.dusk ≤ 0
  cn : (n.cl.length : Int) = n.sl
  cl : ∀ c ∈ n.cl, 0 ≤ c ∧ c ≤ 4
structure Rq.Ok (q : Rq) : Prop where
  id : 1 ≤ q.id ∧ q.id ≤ 999999
  v : Vok q.ax q.ay q.az
  len : 1 ≤ q.len ∧ q.len ≤ 3
  vis : 1 ≤ q.vis ∧ q.vis ≤ 3
  one : q.vis = 1 → q.least = 0 ∧ q.most = 0
  more : q.vis ≠ 1 → 1 ≤ q.least ∧ q.least ≤ q.most ∧ q.most ≤ 64
  height : -1073741824 ≤ q.height ∧ q.height ≤ 1073741824
  moon : -1073741824 ≤ q.moon ∧ q.moon ≤ 1073741824
  cloud : 0 ≤ q.cloud ∧ q.cloud ≤ 4
  weight : 1 ≤ q.weight ∧ q.weight ≤ 100

theorem vec_ok {x y z : Int} (h : Vok x y z) : sphere_Check.F (x, y, z) = some 0 := by
  obtain ⟨h1, h2⟩ := h
  refine Y.is (Y.of (sphere_Check.F_of _) (Y.neg ?_ (Y.neg ?_ (Y.some rfl))))
  · simp only [Bool.or_eq_false_iff, decide_eq_false_iff_not]
    omega
  · simp only [Bool.and_true, Bool.and_eq_false_iff, decide_eq_false_iff_not]
    omega
theorem within_ok {x a b : Int} (h : a ≤ x ∧ x ≤ b) : prop_within.F (x, a, b) = some true := Y.is (Y.of (prop_within.F_of _) (Y.some (by simp [h.1, h.2])))
theorem rate_ok {a b : Int} (h : RateOk a b) : frac_Check.F (a, b) = some 0 ∧ 1 ≤ a ∧ (∃ c : Int, frac_Ceil.F (a, b) = some c ∧ c ≤ 65536) ∧ (∃ c : Int, frac_Cmp.F (a, b, 1, 1) = some c ∧ 0 ≤ c) ∧ ∃ c : Int, frac_Cmp.F (a, b, 100, 1) = some c ∧ c ≤ 0 := by
  rcases h with ⟨rfl, rfl⟩ | ⟨rfl, rfl⟩ | ⟨rfl, rfl⟩ | ⟨rfl, rfl⟩
  · exact ⟨frac_Check.ev_is (k := 40) (by decide +kernel), by decide, ⟨50, frac_Ceil.ev_is (k := 40) (by decide +kernel), by decide⟩, ⟨1, frac_Cmp.ev_is (k := 60) (by decide +kernel), by decide⟩, ⟨-1, frac_Cmp.ev_is (k := 60) (by decide +kernel), by decide⟩⟩
  · exact ⟨frac_Check.ev_is (k := 40) (by decide +kernel), by decide, ⟨50, frac_Ceil.ev_is (k := 40) (by decide +kernel), by decide⟩, ⟨1, frac_Cmp.ev_is (k := 60) (by decide +kernel), by decide⟩, ⟨-1, frac_Cmp.ev_is (k := 60) (by decide +kernel), by decide⟩⟩
  · exact ⟨frac_Check.ev_is (k := 40) (by decide +kernel), by decide, ⟨1, frac_Ceil.ev_is (k := 40) (by decide +kernel), by decide⟩, ⟨0, frac_Cmp.ev_is (k := 60) (by decide +kernel), by decide⟩, ⟨-1, frac_Cmp.ev_is (k := 60) (by decide +kernel), by decide⟩⟩
  · exact ⟨frac_Check.ev_is (k := 40) (by decide +kernel), by decide, ⟨100, frac_Ceil.ev_is (k := 40) (by decide +kernel), by decide⟩, ⟨1, frac_Cmp.ev_is (k := 60) (by decide +kernel), by decide⟩, ⟨0, frac_Cmp.ev_is (k := 60) (by decide +kernel), by decide⟩⟩
theorem spin_ok {t a x y : Int} (h1 : -1000 ≤ t ∧ t ≤ 1000) (h2 : 0 ≤ a ∧ a < 1073741824) (h : RateOk x y) : prop_CheckSpin.F (t, a, x, y) = some 0 := by
  obtain ⟨f1, f2, ⟨c, f3, f4⟩, ⟨d, f5, f6⟩, e, f7, f8⟩ := rate_ok h
  have g : scale_CheckRate.F (t, a, x, y) = some 0 := by
    refine Y.is (Y.of (scale_CheckRate.F_of _) (Y.bE f1 (Y.neg ?_ (Y.neg (by decide) (Y.pos (by simp; omega) (Y.bE f3 (Y.nd (Int.not_lt.mpr f4) (Y.some rfl))))))))
    simp only [Bool.or_eq_false_iff, decide_eq_false_iff_not]
    omega
  exact Y.is (Y.of (prop_CheckSpin.F_of _) (Y.bE g (Y.neg (by decide) (Y.bE f5 (Y.pos (by simp; omega) (Y.bE f7 (Y.nd (Int.not_lt.mpr f8) (Y.some rfl))))))))
theorem night_ok {most : Int} {n : Nt} (h : n.Ok most) (hm : most ≤ 64) : prop_CheckNight.F n.e = some 0 := by
  have loop (m : Nat) : ∀ j : Nat, j + m = n.cl.length → prop_CheckNight.D0 (n.cl, (n.cl.length : Int), (j : Int)) = some 0 := by
    have := h.sl
    have := h.cn
    induction m with
    | zero => exact fun j e => Y.is (Y.of (prop_CheckNight.D0_of _) (Y.nd (by omega) (Y.some rfl)))
    | succ m ih =>
      intro j e
      refine Y.is (Y.of (prop_CheckNight.D0_of _) (Y.pd (by omega) (Y.pd (by omega) (Y.bE (within_ok (h.cl _ (rd_mem (t := .int .i64) n.cl (j : Int) (by omega) (by omega)))) (Y.neg (by decide) ?_)))))
      rw [w64 (x := (j : Int) + 1) (by omega) (by omega)]
      exact Y.ev (ih (j + 1) (by omega)) rfl
  have := h.sl
  have h2 := h.lng
  have h3 := h.beg
  have h4 := h.lat
  have h5 := h.lon
  have h6 := h.dusk
  refine Y.is (Y.of (prop_CheckNight.F_of _) (Y.bE (within_ok (by omega)) (Y.neg ?_ (Y.neg ?_ (Y.neg ?_ (Y.bE (spin_ok h.sat h.ang h.rate) (Y.neg (by decide) (Y.bE (vec_ok h.sun) (Y.pos (by decide) (Y.bE (vec_ok h.moon) (Y.neg (by decide) (Y.neg ?_ (Y.neg ?_ (Y.ev (loop n.cl.length 0 (by omega)) rfl))))))))))))))
  · simp only [Bool.or_eq_false_iff, decide_eq_false_iff_not, Bool.not_true, true_and]
    omega
  · simp only [Bool.or_eq_false_iff, decide_eq_false_iff_not]
    omega
  · simp only [Bool.or_eq_false_iff, decide_eq_false_iff_not]
    omega
  · simp only [Bool.or_eq_false_iff, decide_eq_false_iff_not]
    omega
  · simp [h.cn]
theorem request_ok {q : Rq} (h : q.Ok) : prop_CheckRequest.F q.e = some 0 := by
  have h1 := h.height
  have h2 := h.moon
  have h3 := h.len
  have h4 := h.vis
  have d0 : prop_CheckRequest.D0 q.e = some 0 := by
    refine Y.is (Y.of (prop_CheckRequest.D0_of _) (Y.neg ?_ (Y.bE (within_ok h.cloud) (Y.pos (by decide) (Y.bE (within_ok h.weight) (Y.neg (by decide) (Y.some rfl)))))))
    simp only [Bool.or_eq_false_iff, decide_eq_false_iff_not]
    omega
  refine Y.is (Y.of (prop_CheckRequest.F_of _) (Y.bE (within_ok h.id) (Y.neg (by decide) (Y.bE (vec_ok h.v) (Y.neg (by decide) (Y.bE (within_ok (by omega)) (Y.pos (by decide) (Y.bE (within_ok (by omega)) (Y.neg (by decide) (Y.ite (fun c => Y.neg ?_ (Y.ev d0 rfl)) fun c => ?_))))))))))
  · obtain ⟨e1, e2⟩ := h.one c
    simp [e1, e2]
  · obtain ⟨e1, e2, e3⟩ := h.more c
    exact Y.bE (within_ok (by omega)) (Y.pos (by decide) (Y.bE (within_ok ⟨e2, e3⟩) (Y.neg (by decide) (Y.ev d0 rfl))))
end Go.Proofs.RWin
namespace Go.Proofs.RWin
open Go Go.Eng
set_option linter.unusedVariables false

/-- The reason, of what was measured. -/
def whyV (dk : Bool) (c : Int) (h cb mb : Int × Int × Bool) (H M C : Int) : Int :=
  if dk = false then 1 else if C < c then 2 else if (!h.2.2 && decide (H ≤ h.1)) = false then 3
  else if (!cb.2.2 && decide (cb.2.1 ≤ M)) = false ∧ (!mb.2.2 && decide (mb.2.1 ≤ -1)) = false then 4 else 0
theorem whyV_zero {dk : Bool} {c : Int} {h cb mb : Int × Int × Bool} {H M C : Int} : whyV dk c h cb mb H M C = 0 ↔ dk = true ∧ c ≤ C ∧ (!h.2.2 && decide (H ≤ h.1)) = true ∧ ((!cb.2.2 && decide (cb.2.1 ≤ M)) = true ∨ (!mb.2.2 && decide (mb.2.1 ≤ -1)) = true) := by
  unfold whyV
  cases dk with
  | false => simp
  | true =>
    by_cases k : C < c
    · simp only [reduceCtorEq, if_false, k, if_true]
      constructor
      · intro h; exact absurd h (by decide)
      · intro h; exact absurd h.2.1 (by omega)
    · cases (!h.2.2 && decide (H ≤ h.1)) with
      | false => simp [k]
      | true =>
        cases (!cb.2.2 && decide (cb.2.1 ≤ M)) with
        | true => simp [k]; omega
        | false => cases (!mb.2.2 && decide (mb.2.1 ≤ -1)) <;> simp [k] <;> omega
theorem atLeast_is (b : Int × Int × Bool) (x : Int) : window_atLeast.F (b.1, b.2.1, b.2.2, x) = some (!b.2.2 && decide (x ≤ b.1)) := Y.is (Y.of (window_atLeast.F_of _) (Y.some rfl))
theorem atMost_is (b : Int × Int × Bool) (x : Int) : window_atMost.F (b.1, b.2.1, b.2.2, x) = some (!b.2.2 && decide (b.2.1 ≤ x)) := Y.is (Y.of (window_atMost.F_of _) (Y.some rfl))
theorem why_spec (n : Nt) (q : Rq) (k : Int) (h0 : 0 ≤ k) (h1 : k < n.cl.length) : ∃ (dk : Bool) (h cb mb : Int × Int × Bool), window_dark.F (n.w k) = some dk ∧ window_height.F (n.w (q.ax, q.ay, q.az, k)) = some h ∧ sphere_Cosine.F (q.ax, q.ay, q.az, n.mx, n.my, n.mz) = some cb ∧ window_height.F (n.w (n.mx, n.my, n.mz, k)) = some mb ∧ window_why.F (n.w (q.w k)) = some (whyV dk (rd (.int .i64) n.cl k) h cb mb q.height q.moon q.cloud) := by
  obtain ⟨dk, e1⟩ := window_dark_tot (n.w k)
  obtain ⟨h, e2⟩ := window_height_tot (n.w (q.ax, q.ay, q.az, k))
  obtain ⟨cb, e3⟩ := sphere_Cosine_tot (q.ax, q.ay, q.az, n.mx, n.my, n.mz)
  obtain ⟨mb, e4⟩ := window_height_tot (n.w (n.mx, n.my, n.mz, k))
  refine ⟨dk, h, cb, mb, e1, e2, e3, e4, Y.is (Y.of (window_why.F_of _) (Y.bE e1 ?_))⟩
  cases dk with
  | false => exact Y.pos rfl (Y.some rfl)
  | true =>
    refine Y.neg rfl (Y.pd ⟨h0, h1⟩ (Y.ite (fun c => Y.some ?_) fun c => Y.bE e2 (Y.bE (atLeast_is _ _) ?_)))
    · show 2 = whyV _ _ _ _ _ _ _ _
      unfold whyV
      rw [if_neg (by decide), if_pos c]
    · have f1 : ∀ x, whyV true (rd (.int .i64) n.cl k) h cb mb q.height q.moon q.cloud = x ↔ (if (!h.2.2 && decide (q.height ≤ h.1)) = false then 3
  else if (!cb.2.2 && decide (cb.2.1 ≤ q.moon)) = false ∧ (!mb.2.2 && decide (mb.2.1 ≤ -1)) = false then 4 else 0) = x := by
        intro x
        unfold whyV
        rw [if_neg (by decide), if_neg c]
      cases g : (!h.2.2 && decide (q.height ≤ h.1)) with
      | false => exact Y.pos rfl (Y.some ((f1 3).mpr (if_pos g)).symm)
      | true =>
        refine Y.neg rfl (Y.bE e3 (Y.bE (atMost_is _ _) ?_))
        cases g2 : (!cb.2.2 && decide (cb.2.1 ≤ q.moon)) with
        | true =>
          refine Y.neg (by decide) (Y.neg (by decide) (Y.neg (by decide) (Y.neg (by decide) (Y.pos (by decide) (Y.pos (by decide) (Y.some ?_))))))
          exact ((f1 0).mpr (by rw [if_neg (by rw [g]; decide), if_neg (by rw [g2]; simp)])).symm
        | false =>
          refine Y.pos (by decide) (Y.pos (by decide) (Y.pos (by decide) (Y.bE e4 (Y.pos (by decide) (Y.bE (atMost_is _ _) ?_)))))
          cases g3 : (!mb.2.2 && decide (mb.2.1 ≤ -1)) with
          | true => exact Y.neg (by decide) (Y.some ((f1 0).mpr (by rw [if_neg (by rw [g]; decide), if_neg (by rw [g3]; simp)])).symm)
          | false => exact Y.pos (by decide) (Y.some ((f1 4).mpr (by rw [if_neg (by rw [g]; decide), if_pos ⟨g2, g3⟩])).symm)
/-- The slots' reasons. -/
def Codes (n : Nt) (q : Rq) (l : List Int) : Prop := (l.length : Int) = n.sl ∧ ∀ j : Nat, j < l.length → window_why.F (n.w (q.w (j : Int))) = l[j]?
theorem slots_spec {most : Int} {n : Nt} {q : Rq} (hn : n.Ok most) (hm : most ≤ 64) (hq : q.Ok) : ∃ l, window_Slots.F (n.w q.e) = some (0, l) ∧ Codes n q l := by
  have hsl := hn.sl
  have hcn := hn.cn
  have loop (m : Nat) : ∀ (j : Nat) (out : List Int) (_ : j + m = out.length) (_ : (out.length : Int) = n.sl) (_ : ∀ i : Nat, i < j → window_why.F (n.w (q.w (i : Int))) = out[i]?), Y (window_Slots.D0 ((out.length : Int), (j : Int), n.w (q.w out))) fun r => ∃ l, r = (0, l) ∧ Codes n q l := by
    induction m with
    | zero => exact fun j out e e1 h => Y.of (window_Slots.D0_of _) (Y.nd (by omega) (Y.some ⟨out, rfl, e1, fun i hi => h i (by omega)⟩))
    | succ m ih =>
      intro j out e e1 h
      obtain ⟨dk, a, b, c, _, _, _, _, e2⟩ := why_spec n q j (by omega) (by omega)
      refine Y.of (window_Slots.D0_of _) (Y.pd (by omega) (Y.bE e2 (Y.pd (by omega) ?_)))
      rw [w64 (x := (j : Int) + 1) (by omega) (by omega)]
      have := ih (j + 1) (out.set j (whyV dk (rd (.int .i64) n.cl j) a b c q.height q.moon q.cloud)) (by rw [List.length_set]; omega) (by rw [List.length_set]; omega) ?_
      · rw [List.length_set] at this
        exact this
      · intro i hi
        by_cases k : i = j
        · subst k
          rw [List.getElem?_set_self (by omega)]
          exact e2
        · rw [List.getElem?_set_ne (by omega)]
          exact h i (by omega)
  have hb : window_both.F (n.w q.e) = some 0 := Y.is (Y.of (window_both.F_of _) (Y.bE (night_ok hn hm) (Y.neg (by decide) (Y.bE (request_ok hq) (Y.some rfl)))))
  have : Y (window_Slots.F (n.w q.e)) fun r => ∃ l, r = (0, l) ∧ Codes n q l := by
    refine Y.of (window_Slots.F_of _) (Y.bE hb (Y.neg (by decide) (Y.pd (by omega) ?_)))
    exact loop n.sl.toNat 0 _ (by rw [List.length_replicate]; omega) (by rw [List.length_replicate]; omega) (fun i hi => absurd hi (by omega))
  obtain ⟨_, h1, l, rfl, h2⟩ := this
  exact ⟨l, h1, h2⟩
end Go.Proofs.RWin
namespace Go.Proofs.RWin
open Go Go.Eng
set_option linter.unusedVariables false

theorem Y.vec {β : Type} {f : spymake_Stream_Vec.R → Option β} {Q : β → Prop} (L : List Int) (at_ : Int) (ha : 0 ≤ at_) (hb : at_ ≤ 4611686018427000000)
    (k : ∀ x y z, Vok x y z → Y (f (x, y, z, L, at_ + 4)) Q) : Y (bnd (spymake_Stream_Vec.F (L, at_)) f) Q := by
  have : Y (spymake_Stream_Vec.F (L, at_)) fun r => ∃ x y z, r = (x, y, z, L, at_ + 4) ∧ Vok x y z := by
    refine Y.of (spymake_Stream_Vec.F_of _) (Y.next L at_ 4 ha (by omega) (by omega) (by omega) fun i i0 i1 => ?_)
    obtain ⟨m, hm, m0, m1⟩ : ∃ m : Int, rd (.int .i64) [3, 100, 5000, 1048576] i = m ∧ 3 ≤ m ∧ m ≤ 1048576 := by
      rcases (show i = 0 ∨ i = 1 ∨ i = 2 ∨ i = 3 by omega) with rfl | rfl | rfl | rfl
      · exact ⟨3, rfl, by decide, by decide⟩
      · exact ⟨100, rfl, by decide, by decide⟩
      · exact ⟨5000, rfl, by decide, by decide⟩
      · exact ⟨1048576, rfl, by decide, by decide⟩
    refine Y.pd ⟨i0, i1⟩ ?_
    dsimp only
    rw [hm, w64 (x := 0 - m) (by omega) (by omega)]
    refine Y.range (0 - m) m L (at_ + 1) (by omega) (by omega) (by omega) (by omega) (by omega) fun x x0 x1 => Y.range (0 - m) m L (at_ + 1 + 1) (by omega) (by omega) (by omega) (by omega) (by omega) fun y y0 y1 => Y.range (0 - m) m L (at_ + 1 + 1 + 1) (by omega) (by omega) (by omega) (by omega) (by omega) fun z z0 z1 => ?_
    refine Y.bif (fun c => Y.of (spymake_Stream_Vec.D0_of _) (Y.some ?_)) fun c => Y.of (spymake_Stream_Vec.D0_of _) (Y.some ?_)
    · simp only [Bool.and_true, Bool.and_eq_true, decide_eq_true_eq] at c
      exact ⟨1, y, z, by rw [show at_ + 1 + 1 + 1 + 1 = at_ + 4 by omega], ⟨by omega, by omega⟩⟩
    · simp only [Bool.and_true, Bool.and_eq_false_iff, decide_eq_false_iff_not] at c
      exact ⟨x, y, z, by rw [show at_ + 1 + 1 + 1 + 1 = at_ + 4 by omega], ⟨by omega, by omega⟩⟩
  obtain ⟨r, hr, x, y, z, rfl, h⟩ := this
  exact Y.bE hr (k x y z h)
/-- The clouds are drawn. -/
theorem clouds_spec (most : Int) (hm : 1 ≤ most ∧ most ≤ 64) (n : Nt) (L : List Int) (z0 z1 z2 z3 z4 z5 z6 z7 z8 z9 z10 z11 z12 z13 z14 z15 : Int) (zl : List Int) (hsl : 1 ≤ n.sl ∧ n.sl ≤ most) (m : Nat) : ∀ (j : Nat) (_ : ((j + m : Nat) : Int) = n.sl) (at_ : Int) (_ : 0 ≤ at_) (_ : at_ + 2 * m ≤ 1000) (c : List Int) (_ : c.length = j) (_ : ∀ x ∈ c, 0 ≤ x ∧ x ≤ 4),
    Y (spymake_Stream_Night.D1 (n.sl, (j : Int), L, at_, z0, z1, z2, z3, z4, z5, z6, z7, z8, z9, z10, z11, z12, z13, z14, z15, n.lat, n.lon, n.sat, n.ang, n.num, n.den, n.beg, n.lng, n.sl, n.sx, n.sy, n.sz, n.mx, n.my, n.mz, n.dusk, zl, c)) fun r => ∃ (c' : List Int) (at' : Int), r = ({ n with cl := c' } : Nt).r L at' ∧ (c'.length : Int) = n.sl ∧ (∀ x ∈ c', 0 ≤ x ∧ x ≤ 4) ∧ 0 ≤ at' ∧ at' ≤ 1000 := by
  induction m with
  | zero => exact fun j e at_ a0 a1 c h1 h2 => Y.of (spymake_Stream_Night.D1_of _) (Y.nd (by omega) (Y.some ⟨c, at_, rfl, by omega, h2, a0, by omega⟩))
  | succ m ih =>
    intro j e at_ a0 a1 c h1 h2
    have step (x : Int) (hx : 0 ≤ x ∧ x ≤ 4) (at' : Int) (b0 : 0 ≤ at') (b1 : at' + 2 * m ≤ 1000) : Y (spymake_Stream_Night.D2 (x, n.sl, (j : Int), L, at', z0, z1, z2, z3, z4, z5, z6, z7, z8, z9, z10, z11, z12, z13, z14, z15, n.lat, n.lon, n.sat, n.ang, n.num, n.den, n.beg, n.lng, n.sl, n.sx, n.sy, n.sz, n.mx, n.my, n.mz, n.dusk, zl, c)) fun r => ∃ (c' : List Int) (at' : Int), r = ({ n with cl := c' } : Nt).r L at' ∧ (c'.length : Int) = n.sl ∧ (∀ x ∈ c', 0 ≤ x ∧ x ≤ 4) ∧ 0 ≤ at' ∧ at' ≤ 1000 := by
      refine Y.of (spymake_Stream_Night.D2_of _) (Y.pd ?_ (Y.of (spymake_Stream_Night.D3_of _) ?_))
      · show c.length + 1 ≤ _
        omega
      · dsimp only [spymake_Stream_Night.d3]
        rw [w64 (x := (j : Int) + 1) (by omega) (by omega)]
        refine ih (j + 1) (by omega) at' b0 b1 (c ++ [x]) (by rw [List.length_append, h1]; rfl) fun y hy => ?_
        rcases List.mem_append.mp hy with hy | hy
        · exact h2 y hy
        · rw [List.mem_singleton.mp hy]
          exact hx
    refine Y.of (spymake_Stream_Night.D1_of _) (Y.pd (by omega) (Y.next L at_ 5 (by omega) (by omega) (by omega) (by omega) fun x x0 x1 => Y.ite (fun _ => Y.next L (at_ + 1) 5 (by omega) (by omega) (by omega) (by omega) fun y y0 y1 => step y ⟨y0, by omega⟩ (at_ + 1 + 1) (by omega) (by omega)) fun _ => step 0 (by decide) (at_ + 1) (by omega) (by omega)))
theorem Y.night {β : Type} {f : spymake_Stream_Night.R → Option β} {Q : β → Prop} (most : Int) (hm : 1 ≤ most ∧ most ≤ 64) (L : List Int)
    (k : ∀ (n : Nt) (at_ : Int), n.Ok most → 0 ≤ at_ → at_ ≤ 1000 → Y (f (n.r L at_)) Q) : Y (bnd (spymake_Stream_Night.F (most, L, 0)) f) Q := by
  have : Y (spymake_Stream_Night.F (most, L, 0)) fun r => ∃ (n : Nt) (at_ : Int), r = n.r L at_ ∧ n.Ok most ∧ 0 ≤ at_ ∧ at_ ≤ 1000 := by
    refine Y.of (spymake_Stream_Night.F_of _) ?_
    refine Y.range 1 most L (0) (by omega) (by omega) (by omega) (by omega) (by omega) fun sl s0 s1 => ?_
    refine Y.range 60 1800 L (0 + 1) (by omega) (by omega) (by omega) (by omega) (by omega) fun lg g0 g1 => ?_
    refine Y.range (-1000) 1000 L (0 + 1 + 1) (by omega) (by omega) (by omega) (by omega) (by omega) fun bg b0 b1 => ?_
    refine Y.range (-16) 16 L (0 + 1 + 1 + 1) (by omega) (by omega) (by omega) (by omega) (by omega) fun la l0 l1 => ?_
    refine Y.next L (0 + 1 + 1 + 1 + 1) 64 (by omega) (by omega) (by omega) (by omega) fun lo o0 o1 => ?_
    refine Y.range (-1000) 1000 L (0 + 1 + 1 + 1 + 1 + 1) (by omega) (by omega) (by omega) (by omega) (by omega) fun sa t0 t1 => ?_
    refine Y.next L (0 + 1 + 1 + 1 + 1 + 1 + 1) 1073741824 (by omega) (by omega) (by omega) (by omega) fun an n0 n1 => ?_
    refine Y.next L (0 + 1 + 1 + 1 + 1 + 1 + 1 + 1) 4 (by omega) (by omega) (by omega) (by omega) fun i i0 i1 => Y.pd ⟨i0, i1⟩ ?_
    have hr : RateOk (rd (.pair (.int .i64) (.int .i64)) [(99429, 1994), (50, 1), (1, 1), (100, 1)] i).1 (rd (.pair (.int .i64) (.int .i64)) [(99429, 1994), (50, 1), (1, 1), (100, 1)] i).2 := by
      rcases (show i = 0 ∨ i = 1 ∨ i = 2 ∨ i = 3 by omega) with rfl | rfl | rfl | rfl
      · exact .inl ⟨rfl, rfl⟩
      · exact .inr (.inl ⟨rfl, rfl⟩)
      · exact .inr (.inr (.inl ⟨rfl, rfl⟩))
      · exact .inr (.inr (.inr ⟨rfl, rfl⟩))
    refine Y.vec L (0 + 1 + 1 + 1 + 1 + 1 + 1 + 1 + 1) (by omega) (by omega) fun sx sy sz hs => ?_
    refine Y.vec L (0 + 1 + 1 + 1 + 1 + 1 + 1 + 1 + 1 + 4) (by omega) (by omega) fun mx my mz hm' => ?_
    refine Y.next L (0 + 1 + 1 + 1 + 1 + 1 + 1 + 1 + 1 + 4 + 4) 3 (by omega) (by omega) (by omega) (by omega) fun du d0 d1 => ?_
    refine Y.next L (0 + 1 + 1 + 1 + 1 + 1 + 1 + 1 + 1 + 4 + 4 + 1) 4 (by omega) (by omega) (by omega) (by omega) fun x x0 x1 => ?_
    dsimp only
    rw [w64 (x := la * 67108864) (by omega) (by omega), w64 (x := lo * 67108864) (by omega) (by omega), w64 (x := bg * 997000) (by omega) (by omega), w64 (x := lg * 1000) (by omega) (by omega), w64 (x := 0 - du) (by omega) (by omega), w64 (x := (0 - du) * 134217728) (by omega) (by omega)]
    have fin (lat sx sy sz dusk : Int) (h1 : -1073741824 ≤ lat ∧ lat ≤ 1073741824) (h2 : Vok sx sy sz) (h3 : -1073741824 ≤ dusk ∧ dusk ≤ 0) (at_ : Int) (a0 : 0 ≤ at_) (a1 : at_ ≤ 800) (z0 z1 z2 z3 z4 z5 z6 z7 z8 z9 z10 z11 z12 z13 z14 z15 : Int) (zl : List Int) (num den : Int) (hr : RateOk num den) :
        Y (spymake_Stream_Night.D0 (L, at_, z0, z1, z2, z3, z4, z5, z6, z7, z8, z9, z10, z11, z12, z13, z14, z15, lat, lo * 67108864, sa, an, num, den, bg * 997000, lg * 1000, sl, sx, sy, sz, mx, my, mz, dusk, zl, [])) fun r => ∃ (n : Nt) (at_ : Int), r = n.r L at_ ∧ n.Ok most ∧ 0 ≤ at_ ∧ at_ ≤ 1000 := by
      refine Y.of (spymake_Stream_Night.D0_of _) ?_
      refine Y.mono (clouds_spec most hm ⟨lat, lo * 67108864, sa, an, num, den, bg * 997000, lg * 1000, sl, sx, sy, sz, mx, my, mz, dusk, []⟩ L z0 z1 z2 z3 z4 z5 z6 z7 z8 z9 z10 z11 z12 z13 z14 z15 zl ⟨s0, s1⟩ sl.toNat 0 (by show ((0 + sl.toNat : Nat) : Int) = sl; omega) at_ a0 (by omega) [] rfl (fun x hx => absurd hx (by simp))) ?_
      rintro r ⟨c', at', rfl, h4, h5, h6, h7⟩
      refine ⟨_, at', rfl, ?_, h6, h7⟩
      exact ⟨⟨s0, s1⟩, (by show 60000 ≤ lg * 1000 ∧ lg * 1000 ≤ 1800000; omega), (by show -997000000 ≤ bg * 997000 ∧ bg * 997000 ≤ 997000000; omega), h1, (by show 0 ≤ lo * 67108864 ∧ lo * 67108864 < 4294967296; omega), ⟨t0, t1⟩, ⟨n0, n1⟩, hr, h2, hm', h3, h4, h5⟩
    refine Y.ite (fun _ => Y.ite (fun _ => ?_) fun _ => ?_) fun _ => ?_
    · exact fin _ _ _ _ _ (by decide) ⟨by decide, by decide⟩ (by decide) _ (by omega) (by omega) _ _ _ _ _ _ _ _ _ _ _ _ _ _ _ _ _ _ _ hr
    · exact fin _ _ _ _ _ (by decide) ⟨by decide, by decide⟩ (by decide) _ (by omega) (by omega) _ _ _ _ _ _ _ _ _ _ _ _ _ _ _ _ _ _ _ hr
    · exact fin _ _ _ _ _ (by omega) hs (by omega) _ (by omega) (by omega) _ _ _ _ _ _ _ _ _ _ _ _ _ _ _ _ _ _ _ hr
  obtain ⟨r, hr, n, at_, rfl, h1, h2, h3⟩ := this
  exact Y.bE hr (k n at_ h1 h2 h3)
theorem Y.request {β : Type} {f : spymake_Stream_Request.R → Option β} {Q : β → Prop} {most : Int} {n : Nt} (hn : n.Ok most) (id np : Int) (hid : 1 ≤ id ∧ id ≤ 999999) (hnp : 1 ≤ np ∧ np ≤ 1000) (L : List Int) (B : Int) (a0 : 0 ≤ B) (a1 : B ≤ 1000000)
    (k : ∀ (q : Rq) (at_ : Int), q.Ok → q.id = id → 0 ≤ q.prop → q.prop < np → 0 ≤ at_ → at_ ≤ B + 40 → Y (f (q.w (L, at_))) Q) : Y (bnd (spymake_Stream_Request.F (n.v (id, np, L, B))) f) Q := by
  have : Y (spymake_Stream_Request.F (n.v (id, np, L, B))) fun r => ∃ (q : Rq) (at_ : Int), r = q.w (L, at_) ∧ (q.Ok ∧ q.id = id ∧ 0 ≤ q.prop ∧ q.prop < np) ∧ 0 ≤ at_ ∧ at_ ≤ B + 40 := by
    have f5 (q : Rq) (hq : q.Ok ∧ q.id = id ∧ 0 ≤ q.prop ∧ q.prop < np) (at_ : Int) (a0 : 0 ≤ at_) (a1 : at_ ≤ B + 40) (z0 z1 z2 z3 z4 z5 z6 z7 z8 z9 z10 z11 z12 : Int) : Y (spymake_Stream_Request.D5 (L, at_, z0, z1, z2, z3, z4, z5, z6, z7, z8, z9, z10, z11, z12, q.e)) fun r => ∃ (q : Rq) (at_ : Int), r = q.w (L, at_) ∧ (q.Ok ∧ q.id = id ∧ 0 ≤ q.prop ∧ q.prop < np) ∧ 0 ≤ at_ ∧ at_ ≤ B + 40 := Y.of (spymake_Stream_Request.D5_of _) (Y.some ⟨q, at_, rfl, hq, a0, a1⟩)
    have f4 (q : Rq) (hq : q.Ok ∧ q.id = id ∧ 0 ≤ q.prop ∧ q.prop < np) (at_ : Int) (a0 : 0 ≤ at_) (a1 : at_ ≤ B + 36) (z0 z1 z2 z3 z4 z5 z6 z7 z8 z9 z10 z11 z12 : Int) : Y (spymake_Stream_Request.D4 (L, at_, z0, z1, z2, z3, z4, z5, z6, z7, z8, z9, z10, z11, z12, q.e)) fun r => ∃ (q : Rq) (at_ : Int), r = q.w (L, at_) ∧ (q.Ok ∧ q.id = id ∧ 0 ≤ q.prop ∧ q.prop < np) ∧ 0 ≤ at_ ∧ at_ ≤ B + 40 := by
      refine Y.of (spymake_Stream_Request.D4_of _) (Y.next L _ 6 (by omega) (by omega) (by omega) (by omega) fun x x0 x1 => Y.ite (fun _ => Y.range (-8) 8 L (at_ + 1) (by omega) (by omega) (by omega) (by omega) (by omega) fun y y0 y1 => ?_) fun _ => f5 q hq (at_ + 1) (by omega) (by omega) _ _ _ _ _ _ _ _ _ _ _ _ _)
      dsimp only
      rw [w64 (x := y * 134217728) (by omega) (by omega)]
      exact f5 { q with height := y * 134217728 } ⟨⟨hq.1.id, hq.1.v, hq.1.len, hq.1.vis, hq.1.one, hq.1.more, (by show -1073741824 ≤ y * 134217728 ∧ y * 134217728 ≤ 1073741824; omega), hq.1.moon, hq.1.cloud, hq.1.weight⟩, hq.2⟩ (at_ + 1 + 1) (by omega) (by omega) _ _ _ _ _ _ _ _ _ _ _ _ _
    have f3 (q : Rq) (hq : q.Ok ∧ q.id = id ∧ 0 ≤ q.prop ∧ q.prop < np) (at_ : Int) (a0 : 0 ≤ at_) (a1 : at_ ≤ B + 33) (z0 z1 z2 z3 z4 z5 z6 z7 z8 z9 z10 z11 z12 : Int) : Y (spymake_Stream_Request.D3 (L, at_, z0, z1, z2, z3, z4, z5, z6, z7, z8, z9, z10, z11, z12, q.e)) fun r => ∃ (q : Rq) (at_ : Int), r = q.w (L, at_) ∧ (q.Ok ∧ q.id = id ∧ 0 ≤ q.prop ∧ q.prop < np) ∧ 0 ≤ at_ ∧ at_ ≤ B + 40 := by
      refine Y.of (spymake_Stream_Request.D3_of _) (Y.next L _ 4 (by omega) (by omega) (by omega) (by omega) fun x x0 x1 => Y.ite (fun _ => Y.range (-8) 8 L (at_ + 1) (by omega) (by omega) (by omega) (by omega) (by omega) fun y y0 y1 => ?_) fun _ => f4 q hq (at_ + 1) (by omega) (by omega) _ _ _ _ _ _ _ _ _ _ _ _ _)
      dsimp only
      rw [w64 (x := y * 134217728) (by omega) (by omega)]
      exact f4 { q with moon := y * 134217728 } ⟨⟨hq.1.id, hq.1.v, hq.1.len, hq.1.vis, hq.1.one, hq.1.more, hq.1.height, (by show -1073741824 ≤ y * 134217728 ∧ y * 134217728 ≤ 1073741824; omega), hq.1.cloud, hq.1.weight⟩, hq.2⟩ (at_ + 1 + 1) (by omega) (by omega) _ _ _ _ _ _ _ _ _ _ _ _ _
    have f2 (q : Rq) (hq : q.Ok ∧ q.id = id ∧ 0 ≤ q.prop ∧ q.prop < np) (at_ : Int) (a0 : 0 ≤ at_) (a1 : at_ ≤ B + 30) (z0 z1 z2 z3 z4 z5 z6 z7 z8 z9 z10 z11 z12 : Int) : Y (spymake_Stream_Request.D2 (L, at_, z0, z1, z2, z3, z4, z5, z6, z7, z8, z9, z10, z11, z12, q.e)) fun r => ∃ (q : Rq) (at_ : Int), r = q.w (L, at_) ∧ (q.Ok ∧ q.id = id ∧ 0 ≤ q.prop ∧ q.prop < np) ∧ 0 ≤ at_ ∧ at_ ≤ B + 40 := by
      refine Y.of (spymake_Stream_Request.D2_of _) (Y.next L _ 3 (by omega) (by omega) (by omega) (by omega) fun x x0 x1 => Y.ite (fun _ => Y.next L (at_ + 1) 4 (by omega) (by omega) (by omega) (by omega) fun y y0 y1 => ?_) fun _ => f3 q hq (at_ + 1) (by omega) (by omega) _ _ _ _ _ _ _ _ _ _ _ _ _)
      exact f3 { q with cloud := y } ⟨⟨hq.1.id, hq.1.v, hq.1.len, hq.1.vis, hq.1.one, hq.1.more, hq.1.height, hq.1.moon, ⟨y0, (by show y ≤ 4; omega)⟩, hq.1.weight⟩, hq.2⟩ (at_ + 1 + 1) (by omega) (by omega) _ _ _ _ _ _ _ _ _ _ _ _ _
    have f1 (prop ax ay az len vis height moon cloud weight : Int) (h1 : 0 ≤ prop ∧ prop < np) (h2 : Vok ax ay az) (h3 : 1 ≤ len ∧ len ≤ 3) (h4 : 1 ≤ vis ∧ vis ≤ 3) (h5 : -1073741824 ≤ height ∧ height ≤ 1073741824) (h6 : -1073741824 ≤ moon ∧ moon ≤ 1073741824) (h7 : 0 ≤ cloud ∧ cloud ≤ 4) (h8 : 1 ≤ weight ∧ weight ≤ 100) (at_ : Int) (a0 : 0 ≤ at_) (a1 : at_ ≤ B + 27) (z0 z1 z2 z3 z4 z5 z6 z7 z8 z9 z10 z11 z12 : Int) : Y (spymake_Stream_Request.D1 (L, at_, z0, z1, z2, z3, z4, z5, z6, z7, z8, z9, z10, z11, z12, id, prop, ax, ay, az, len, vis, 0, 0, height, moon, cloud, weight)) fun r => ∃ (q : Rq) (at_ : Int), r = q.w (L, at_) ∧ (q.Ok ∧ q.id = id ∧ 0 ≤ q.prop ∧ q.prop < np) ∧ 0 ≤ at_ ∧ at_ ≤ B + 40 := by
      refine Y.of (spymake_Stream_Request.D1_of _) (Y.ite (fun c => Y.range 1 6 L at_ (by omega) (by omega) (by omega) (by omega) (by omega) fun x x0 x1 => Y.next L (at_ + 1) 12 (by omega) (by omega) (by omega) (by omega) fun y y0 y1 => ?_) fun c => ?_)
      · dsimp only
        rw [w64 (x := x + y) (by omega) (by omega)]
        exact f2 ⟨id, prop, ax, ay, az, len, vis, x, min 64 (x + y), height, moon, cloud, weight⟩ ⟨⟨hid, h2, h3, h4, fun e => absurd e (by show ¬ vis = 1; omega), fun _ => (by show 1 ≤ x ∧ x ≤ min 64 (x + y) ∧ min 64 (x + y) ≤ 64; omega), h5, h6, h7, h8⟩, rfl, h1⟩ (at_ + 1 + 1) (by omega) (by omega) _ _ _ _ _ _ _ _ _ _ _ _ _
      · exact f2 ⟨id, prop, ax, ay, az, len, vis, 0, 0, height, moon, cloud, weight⟩ ⟨⟨hid, h2, h3, h4, fun _ => ⟨rfl, rfl⟩, fun e => absurd (show vis = 1 by omega) e, h5, h6, h7, h8⟩, rfl, h1⟩ at_ (by omega) (by omega) _ _ _ _ _ _ _ _ _ _ _ _ _
    have f0 (prop ax ay az len vis height moon cloud weight : Int) (h1 : 0 ≤ prop ∧ prop < np) (h2 : Vok ax ay az) (h3 : 1 ≤ len ∧ len ≤ 3) (h4 : 1 ≤ vis ∧ vis ≤ 3) (h6 : -1073741824 ≤ moon ∧ moon ≤ 1073741824) (h7 : 0 ≤ cloud ∧ cloud ≤ 4) (h8 : 1 ≤ weight ∧ weight ≤ 100) (at_ : Int) (a0 : 0 ≤ at_) (a1 : at_ ≤ B + 24) (z0 z1 z2 z3 z4 z5 z6 z7 z8 z9 z10 z11 z12 : Int) : Y (spymake_Stream_Request.D0 (L, at_, z0, z1, z2, z3, z4, z5, z6, z7, z8, z9, z10, z11, z12, id, prop, ax, ay, az, len, vis, 0, 0, height, moon, cloud, weight)) fun r => ∃ (q : Rq) (at_ : Int), r = q.w (L, at_) ∧ (q.Ok ∧ q.id = id ∧ 0 ≤ q.prop ∧ q.prop < np) ∧ 0 ≤ at_ ∧ at_ ≤ B + 40 := by
      refine Y.of (spymake_Stream_Request.D0_of _) (Y.range 0 4 L at_ (by omega) (by omega) (by omega) (by omega) (by omega) fun x x0 x1 => ?_)
      dsimp only
      rw [w64 (x := x * 134217728) (by omega) (by omega)]
      exact f1 _ _ _ _ _ _ _ _ _ _ h1 h2 h3 h4 (by omega) h6 h7 h8 (at_ + 1) (by omega) (by omega) _ _ _ _ _ _ _ _ _ _ _ _ _
    refine Y.of (spymake_Stream_Request.F_of _) ?_
    refine Y.next L B np (by omega) (by omega) (by omega) (by omega) fun p p0 p1 => ?_
    refine Y.vec L (B + 1) (by omega) (by omega) fun ax ay az hv => ?_
    refine Y.range 1 3 L (B + 1 + 4) (by omega) (by omega) (by omega) (by omega) (by omega) fun len e0 e1 => ?_
    refine Y.range 1 3 L (B + 1 + 4 + 1) (by omega) (by omega) (by omega) (by omega) (by omega) fun vis v0 v1 => ?_
    refine Y.range 1 5 L (B + 1 + 4 + 1 + 1) (by omega) (by omega) (by omega) (by omega) (by omega) fun wt w0 w1 => ?_
    refine Y.next L (B + 1 + 4 + 1 + 1 + 1) 2 (by omega) (by omega) (by omega) (by omega) fun c c0 c1 => Y.ite (fun _ => ?_) fun _ => ?_
    · refine Y.range (-9) 9 L (B + 1 + 4 + 1 + 1 + 1 + 1) (by omega) (by omega) (by omega) (by omega) (by omega) fun x x0 x1 => ?_
      refine Y.range (-9) 9 L (B + 1 + 4 + 1 + 1 + 1 + 1 + 1) (by omega) (by omega) (by omega) (by omega) (by omega) fun y y0 y1 => ?_
      refine Y.ite (fun _ => ?_) fun _ => ?_
      · exact f0 _ _ _ _ _ _ _ _ _ _ ⟨p0, p1⟩ ⟨by omega, by omega⟩ ⟨e0, e1⟩ ⟨v0, v1⟩ (by decide) (by decide) ⟨w0, by omega⟩ (B + 1 + 4 + 1 + 1 + 1 + 1 + 1 + 1) (by omega) (by omega) _ _ _ _ _ _ _ _ _ _ _ _ _
      · exact f0 _ _ _ _ _ _ _ _ _ _ ⟨p0, p1⟩ ⟨by omega, by omega⟩ ⟨e0, e1⟩ ⟨v0, v1⟩ (by decide) (by decide) ⟨w0, by omega⟩ (B + 1 + 4 + 1 + 1 + 1 + 1 + 1 + 1) (by omega) (by omega) _ _ _ _ _ _ _ _ _ _ _ _ _
    · exact f1 _ _ _ _ _ _ _ _ _ _ ⟨p0, p1⟩ hv ⟨e0, e1⟩ ⟨v0, v1⟩ (by decide) (by decide) (by decide) ⟨w0, by omega⟩ (B + 1 + 4 + 1 + 1 + 1 + 1) (by omega) (by omega) _ _ _ _ _ _ _ _ _ _ _ _ _
  obtain ⟨r, hr, q, at_, rfl, ⟨h1, h4, h5, h6⟩, h2, h3⟩ := this
  exact Y.bE hr (k q at_ h1 h4 h5 h6 h2 h3)
theorem opens_is : spykeep2_opens.F () = some true := spykeep2_opens.ev_is (k := 150) (by decide +kernel)
end Go.Proofs.RWin
namespace Go.Proofs.RWin
open Go Go.Eng
set_option linter.unusedVariables false

/-- The span at a place. -/
def sp (S : List (Int × Int)) (j : Nat) : Int × Int := S.getD j (0, 0)
theorem sp_set (S : List (Int × Int)) (i j : Nat) (x : Int × Int) (h : i < S.length) : sp (S.set i x) j = if j = i then x else sp S j := by
  unfold sp
  rw [List.getD_eq_getElem?_getD, List.getD_eq_getElem?_getD]
  by_cases e : j = i
  · subst e; rw [if_pos rfl, List.getElem?_set_self h]; rfl
  · rw [if_neg e, List.getElem?_set_ne (by omega)]
theorem sp_app (S : List (Int × Int)) (j : Nat) (x : Int × Int) (h : j ≤ S.length) : sp (S ++ [x]) j = if j = S.length then x else sp S j := by
  unfold sp
  rw [List.getD_eq_getElem?_getD, List.getD_eq_getElem?_getD]
  by_cases e : j = S.length
  · subst e; rw [if_pos rfl]; simp
  · rw [if_neg e, List.getElem?_append_left (by omega)]
theorem sp_rd (S : List (Int × Int)) (j : Nat) : rd (.pair (.int .i64) (.int .i64)) S (j : Int) = sp S j := by
  unfold rd sp
  rw [show ((j : Int).toNat) = j by omega]
  rfl
structure SpOk (S : List (Int × Int)) (i : Int) : Prop where
  each : ∀ j : Nat, j < S.length → 0 ≤ (sp S j).1 ∧ (sp S j).1 < (sp S j).2 ∧ (sp S j).2 ≤ i
  next : ∀ j : Nat, j + 1 < S.length → (sp S j).2 < (sp S (j + 1)).1
def InSp (S : List (Int × Int)) (n : Nat) (k : Int) : Prop := ∃ j : Nat, j < n ∧ (sp S j).1 ≤ k ∧ k < (sp S j).2
def Cover (l : List Int) (S : List (Int × Int)) (i : Nat) : Prop := ∀ k : Nat, k < i → (l[k]? = some 0 ↔ InSp S S.length k)
theorem SpOk.mono {S : List (Int × Int)} {i j : Int} (h : SpOk S i) (k : i ≤ j) : SpOk S j := ⟨fun a ha => ⟨(h.each a ha).1, (h.each a ha).2.1, by have := (h.each a ha).2.2; omega⟩, h.next⟩
theorem of_loop (l : List Int) (hl : l.length ≤ 64) (m : Nat) : ∀ (j : Nat) (S : List (Int × Int)), j + m = l.length → S.length ≤ j → SpOk S j → Cover l S j →
    Y (window_Of.D0 ((l.length : Int), (j : Int), S, l)) fun r => ∃ S', r = (0, S') ∧ SpOk S' l.length ∧ Cover l S' l.length ∧ S'.length ≤ l.length := by
  induction m with
  | zero =>
    intro j S e h1 h2 h3
    have e' : j = l.length := by omega
    subst e'
    exact Y.of (window_Of.D0_of _) (Y.nd (by omega) (Y.some ⟨S, rfl, h2, h3, by omega⟩))
  | succ m ih =>
    intro j S e h1 h2 h3
    have hj : j < l.length := by omega
    have hr : rd (.int .i64) l (j : Int) = l[j] := rd_nat (t := .int .i64) l j hj
    have hg : l[j]? = some l[j] := List.getElem?_eq_getElem hj
    have step (S' : List (Int × Int)) (k1 : S'.length ≤ j + 1) (k2 : SpOk S' ((j + 1 : Nat) : Int)) (k3 : Cover l S' (j + 1)) : Y (window_Of.D1 ((l.length : Int), (j : Int), S', l)) fun r => ∃ S', r = (0, S') ∧ SpOk S' l.length ∧ Cover l S' l.length ∧ S'.length ≤ l.length := by
      refine Y.of (window_Of.D1_of _) ?_
      dsimp only [window_Of.d1]
      rw [w64 (x := (j : Int) + 1) (by omega) (by omega)]
      exact ih (j + 1) S' (by omega) k1 k2 k3
    refine Y.of (window_Of.D0_of _) (Y.pd (by omega) (Y.pd ⟨by omega, by omega⟩ (Y.nite (fun c => ?_) fun c => ?_)))
    · rw [hr] at c
      refine step S (by omega) (h2.mono (by omega)) fun k hk => ?_
      by_cases e1 : k = j
      · subst e1
        rw [hg]
        constructor
        · intro z; exact absurd (Option.some.inj z) c
        · rintro ⟨i, i1, i2, i3⟩
          have := (h2.each i i1).2.2
          omega
      · exact h3 k (by omega)
    · rw [hr] at c
      have hw : 0 < S.length → wrap .i64 ((S.length : Int) - 1) = ((S.length - 1 : Nat) : Int) := by
        intro h
        rw [w64 (x := (S.length : Int) - 1) (by omega) (by omega)]
        omega
      refine Y.pos ?_ (Y.bif (fun k => ?_) fun k => ?_)
      · by_cases h0 : 0 < S.length
        · rw [hw h0]
          have q1 : (0 : Int) ≤ ((S.length - 1 : Nat) : Int) ∧ ((S.length - 1 : Nat) : Int) < (S.length : Int) := by omega
          rw [decide_eq_true q1, Bool.or_true]
        · have h0' : ¬ (0 : Int) < (S.length : Int) := by omega
          rw [decide_eq_false h0']
          rfl
      · simp only [Bool.and_eq_true, decide_eq_true_eq] at k
        have h0 : 0 < S.length := by omega
        rw [hw h0] at k ⊢
        rw [sp_rd] at k ⊢
        have q1 : (0 : Int) ≤ ((S.length - 1 : Nat) : Int) ∧ ((S.length - 1 : Nat) : Int) < (S.length : Int) := by omega
        refine Y.pd q1 ?_
        rw [w64 (x := (j : Int) + 1) (by omega) (by omega), show (((S.length - 1 : Nat) : Int)).toNat = S.length - 1 by omega]
        obtain ⟨_, k2⟩ := k
        have hz := h2.each (S.length - 1) (by omega)
        refine step _ (by rw [List.length_set]; omega) ⟨fun i hi => ?_, fun i hi => ?_⟩ fun q hq => ?_
        · rw [List.length_set] at hi
          rw [sp_set _ _ _ _ (by omega)]
          by_cases e1 : i = S.length - 1
          · rw [if_pos e1]
            refine ⟨hz.1, ?_, ?_⟩
            · show (sp S (S.length - 1)).1 < (j : Int) + 1; omega
            · show (j : Int) + 1 ≤ ((j + 1 : Nat) : Int); omega
          · rw [if_neg e1]
            have := h2.each i hi
            exact ⟨this.1, this.2.1, by omega⟩
        · rw [List.length_set] at hi
          rw [sp_set _ _ _ _ (by omega), sp_set _ _ _ _ (by omega), if_neg (by omega)]
          have := h2.next i hi
          by_cases e1 : i + 1 = S.length - 1
          · rw [if_pos e1]; rw [e1] at this; exact this
          · rw [if_neg e1]; exact this
        · have key : InSp (S.set (S.length - 1) ((sp S (S.length - 1)).1, (j : Int) + 1)) S.length (q : Int) ↔ (InSp S S.length q ∨ q = j) := by
            constructor
            · rintro ⟨i, i1, i2, i3⟩
              rw [sp_set _ _ _ _ (by omega)] at i2 i3
              by_cases e1 : i = S.length - 1
              · rw [if_pos e1] at i2 i3
                by_cases e2 : q = j
                · exact .inr e2
                · refine .inl ⟨S.length - 1, by omega, i2, ?_⟩
                  rw [k2]; omega
              · rw [if_neg e1] at i2 i3
                exact .inl ⟨i, i1, i2, i3⟩
            · rintro (⟨i, i1, i2, i3⟩ | rfl)
              · refine ⟨i, i1, ?_, ?_⟩ <;> rw [sp_set _ _ _ _ (by omega)]
                · by_cases e1 : i = S.length - 1
                  · rw [if_pos e1]; rw [e1] at i2; exact i2
                  · rw [if_neg e1]; exact i2
                · by_cases e1 : i = S.length - 1
                  · rw [if_pos e1]; show (q : Int) < (j : Int) + 1; omega
                  · rw [if_neg e1]; exact i3
              · refine ⟨S.length - 1, by omega, ?_, ?_⟩ <;> rw [sp_set _ _ _ _ (by omega), if_pos rfl]
                · show (sp S (S.length - 1)).1 ≤ (q : Int); omega
                · show (q : Int) < (q : Int) + 1; omega
          rw [List.length_set, key]
          by_cases e1 : q = j
          · subst e1; rw [hg, c]; simp
          · rw [h3 q (by omega)]; simp [e1]
      · refine Y.pd (by show S.length + 1 ≤ 8796093022208; omega) ?_
        rw [w64 (x := (j : Int) + 1) (by omega) (by omega)]
        have hlast : 0 < S.length → (sp S (S.length - 1)).2 < j := by
          intro h0
          have hz := h2.each (S.length - 1) (by omega)
          rw [hw h0, sp_rd] at k
          have q0 : (0 : Int) < (S.length : Int) := by omega
          rw [decide_eq_true q0, Bool.true_and, decide_eq_false_iff_not] at k
          have k' : ¬ (sp S (S.length - 1)).2 = (j : Int) := k
          omega
        refine step _ (by rw [List.length_append]; show S.length + 1 ≤ j + 1; omega) ⟨fun i hi => ?_, fun i hi => ?_⟩ fun q hq => ?_
        · rw [List.length_append] at hi
          replace hi : i < S.length + 1 := hi
          rw [sp_app _ _ _ (by omega)]
          by_cases e1 : i = S.length
          · rw [if_pos e1]
            refine ⟨?_, ?_, ?_⟩
            · show (0 : Int) ≤ j; omega
            · show (j : Int) < (j : Int) + 1; omega
            · show (j : Int) + 1 ≤ ((j + 1 : Nat) : Int); omega
          · rw [if_neg e1]
            have := h2.each i (by omega)
            exact ⟨this.1, this.2.1, by omega⟩
        · rw [List.length_append] at hi
          replace hi : i + 1 < S.length + 1 := hi
          rw [sp_app _ _ _ (by omega), sp_app _ _ _ (by omega), if_neg (by omega)]
          by_cases e1 : i + 1 = S.length
          · rw [if_pos e1]
            have := hlast (by omega)
            rw [show i = S.length - 1 by omega]
            exact this
          · rw [if_neg e1]; exact h2.next i (by omega)
        · have key : InSp (S ++ [((j : Int), (j : Int) + 1)]) (S.length + 1) (q : Int) ↔ (InSp S S.length q ∨ q = j) := by
            constructor
            · rintro ⟨i, i1, i2, i3⟩
              rw [sp_app _ _ _ (by omega)] at i2 i3
              by_cases e1 : i = S.length
              · rw [if_pos e1] at i2 i3
                right
                replace i2 : (j : Int) ≤ q := i2
                replace i3 : (q : Int) < (j : Int) + 1 := i3
                omega
              · rw [if_neg e1] at i2 i3
                exact .inl ⟨i, by omega, i2, i3⟩
            · rintro (⟨i, i1, i2, i3⟩ | rfl)
              · refine ⟨i, by omega, ?_, ?_⟩ <;> rw [sp_app _ _ _ (by omega), if_neg (by omega)]
                · exact i2
                · exact i3
              · refine ⟨S.length, by omega, ?_, ?_⟩ <;> rw [sp_app _ _ _ (by omega), if_pos rfl]
                · show (q : Int) ≤ q; omega
                · show (q : Int) < (q : Int) + 1; omega
          rw [List.length_append, show S.length + [((j : Int), (j : Int) + 1)].length = S.length + 1 from rfl, key]
          by_cases e1 : q = j
          · subst e1; rw [hg, c]; simp
          · rw [h3 q (by omega)]; simp [e1]
theorem of_spec {most : Int} {n : Nt} {q : Rq} (hn : n.Ok most) (hm : most ≤ 64) (hq : q.Ok) : ∃ l S, window_Slots.F (n.w q.e) = some (0, l) ∧ (l.length : Int) = n.sl ∧ window_Of.F (n.w q.e) = some (0, S) ∧ SpOk S l.length ∧ Cover l S l.length ∧ S.length ≤ l.length := by
  have hsl := hn.sl
  obtain ⟨l, e1, e2, _⟩ := slots_spec hn hm hq
  have : Y (window_Of.F (n.w q.e)) fun r => ∃ S', r = (0, S') ∧ SpOk S' l.length ∧ Cover l S' l.length ∧ S'.length ≤ l.length := by
    refine Y.of (window_Of.F_of _) (Y.bE e1 (Y.np rfl ?_))
    exact of_loop l (by omega) l.length 0 [] (by omega) (Nat.le_refl _) ⟨fun j hj => absurd hj (by simp), fun j hj => absurd hj (by simp)⟩ fun k hk => absurd hk (by omega)
  obtain ⟨_, h, S, rfl, h1, h2, h3⟩ := this
  exact ⟨l, S, e1, e2, h, h1, h2, h3⟩
/-- Places from k on, m of them. -/
def setR : List Bool → Nat → Nat → List Bool
  | O, _, 0 => O
  | O, k, m + 1 => setR (O.set k true) (k + 1) m
theorem setR_length : ∀ (m : Nat) (O : List Bool) (k : Nat), (setR O k m).length = O.length
  | 0, _, _ => rfl
  | m + 1, O, k => by rw [setR, setR_length m, List.length_set]
theorem setR_get : ∀ (m : Nat) (O : List Bool) (k i : Nat), k + m ≤ O.length → i < O.length → ((setR O k m)[i]? = some true ↔ (O[i]? = some true ∨ (k ≤ i ∧ i < k + m)))
  | 0, O, k, i, _, _ => by simp only [setR]; constructor
                           · exact .inl
                           · rintro (h | h)
                             · exact h
                             · omega
  | m + 1, O, k, i, h, hi => by
    rw [setR, setR_get m _ _ _ (by rw [List.length_set]; omega) (by rw [List.length_set]; exact hi)]
    by_cases e : i = k
    · subst e
      rw [List.getElem?_set_self hi]
      simp
    · rw [List.getElem?_set_ne (by omega)]
      constructor
      · rintro (h | h)
        · exact .inl h
        · exact .inr (by omega)
      · rintro (h | h)
        · exact .inl h
        · exact .inr (by omega)
theorem spans_codes (l : List Int) (O : List Bool) (hO : O.length = l.length) (hl : l.length ≤ 64) (h : ∀ i : Nat, i < l.length → (O[i]? = some true ↔ l[i]? = some 0)) (m : Nat) : ∀ j : Nat, j + m = l.length → Y (spykeep2_WindowSpans.D2 ((l.length : Int), (j : Int), l, O)) fun r => r = true := by
  induction m with
  | zero => exact fun j e => Y.of (spykeep2_WindowSpans.D2_of _) (Y.nd (by omega) (Y.some rfl))
  | succ m ih =>
    intro j e
    have h1 := h j (by omega)
    rw [List.getElem?_eq_getElem (show j < O.length by omega), List.getElem?_eq_getElem (show j < l.length by omega)] at h1
    refine Y.of (spykeep2_WindowSpans.D2_of _) (Y.pd (by omega) (Y.pd ⟨by omega, by omega⟩ (Y.pd ⟨by omega, by omega⟩ (Y.neg ?_ ?_))))
    · rw [rd_nat (t := .bool) O j (by omega), rd_nat (t := .int .i64) l j (by omega)]
      simp only [Option.some.injEq] at h1
      cases k : O[j] with
      | true => rw [k] at h1; rw [decide_eq_true (h1.mp rfl)]; rfl
      | false =>
        have h2 : ¬ l[j] = 0 := fun z => by rw [k] at h1; exact absurd (h1.mpr z) (by decide)
        rw [decide_eq_false h2]; rfl
    · rw [w64 (x := (j : Int) + 1) (by omega) (by omega)]
      exact ih (j + 1) (by omega)
theorem spans (L : List Int) : spykeep2_WindowSpans.F L = some true := by
  apply Y.is
  refine Y.of (spykeep2_WindowSpans.F_of _) (Y.bE opens_is (Y.neg rfl (Y.night 24 (by decide) L fun n at_ hn a0 a1 => Y.request hn 1 1 (by decide) (by decide) L at_ a0 (by omega) fun q at2 hq _ _ _ b0 b1 => ?_)))
  have hsl := hn.sl
  obtain ⟨l, S, e1, e2, e3, h1, h2, h3⟩ := of_spec hn (by decide) hq
  refine Y.bE e3 (Y.bE e1 (Y.neg (by simp [e2]) (Y.pd (by dsimp only; omega) ?_)))
  dsimp only
  have inner (last len j : Int) (sx sy : Int) (m : Nat) : ∀ (k : Nat) (O : List Bool), O.length = l.length → k + m ≤ l.length → sy = ((k + m : Nat) : Int) → (Y (spykeep2_WindowSpans.D0 (last, len, wrap .i64 (j + 1), n.lat, n.lon, n.sat, n.ang, n.num, n.den, n.beg, n.lng, n.sl, n.sx, n.sy, n.sz, n.mx, n.my, n.mz, n.dusk, l, setR O k m, S, n.cl)) fun r => r = true) →
      Y (spykeep2_WindowSpans.D1 (last, (k : Int), len, j, n.lat, n.lon, n.sat, n.ang, n.num, n.den, n.beg, n.lng, n.sl, n.sx, n.sy, n.sz, n.mx, n.my, n.mz, n.dusk, l, O, sx, sy, S, n.cl)) fun r => r = true := by
    induction m with
    | zero => exact fun k O hO hk e h => Y.of (spykeep2_WindowSpans.D1_of _) (Y.nd (by omega) h)
    | succ m ih =>
      intro k O hO hk e h
      refine Y.of (spykeep2_WindowSpans.D1_of _) (Y.pd (by omega) (Y.pd ⟨by omega, by omega⟩ ?_))
      rw [w64 (x := (k : Int) + 1) (by omega) (by omega)]
      exact ih (k + 1) (O.set k true) (by rw [List.length_set]; exact hO) (by omega) (by omega) h
  have outer (m : Nat) : ∀ (j : Nat) (O : List Bool) (last : Int), j + m = S.length → O.length = l.length → last = (if j = 0 then -1 else (sp S (j - 1)).2) → (∀ i : Nat, i < l.length → (O[i]? = some true ↔ InSp S j i)) →
      Y (spykeep2_WindowSpans.D0 (last, (S.length : Int), (j : Int), n.lat, n.lon, n.sat, n.ang, n.num, n.den, n.beg, n.lng, n.sl, n.sx, n.sy, n.sz, n.mx, n.my, n.mz, n.dusk, l, O, S, n.cl)) fun r => r = true := by
    induction m with
    | zero =>
      intro j O last e hO hlast h
      refine Y.of (spykeep2_WindowSpans.D0_of _) (Y.nd (by omega) ?_)
      refine spans_codes l O hO (by omega) (fun i hi => ?_) l.length 0 (by omega)
      rw [h i hi, h2 i hi, show j = S.length by omega]
    | succ m ih =>
      intro j O last e hO hlast h
      have hz := h1.each j (by omega)
      have hn0 : last < (sp S j).1 := by
        rw [hlast]
        by_cases e0 : j = 0
        · rw [if_pos e0]; omega
        · rw [if_neg e0]
          have := h1.next (j - 1) (by omega)
          rw [show j - 1 + 1 = j by omega] at this
          exact this
      refine Y.of (spykeep2_WindowSpans.D0_of _) (Y.pd (by omega) (Y.pd ⟨by omega, by omega⟩ ?_))
      rw [sp_rd]
      refine Y.neg ?_ ?_
      · have z1 : ¬ (sp S j).1 ≤ last := by omega
        have z2 : ¬ (sp S j).2 ≤ (sp S j).1 := by omega
        have z3 : ¬ n.sl < (sp S j).2 := by omega
        rw [decide_eq_false z1, decide_eq_false z2, decide_eq_false z3]
        rfl
      · obtain ⟨k, hk⟩ : ∃ k : Nat, (sp S j).1 = k := ⟨(sp S j).1.toNat, by omega⟩
        obtain ⟨d, hd⟩ : ∃ d : Nat, (sp S j).2 = ((k + d : Nat) : Int) := ⟨((sp S j).2 - k).toNat, by omega⟩
        rw [hk]
        refine inner _ _ _ _ _ d k O hO (by omega) hd ?_
        rw [w64 (x := (j : Int) + 1) (by omega) (by omega)]
        refine ih (j + 1) _ _ (by omega) (by rw [setR_length]; exact hO) (by rw [if_neg (by omega)]; rfl) fun i hi => ?_
        rw [setR_get _ _ _ _ (by omega) (by omega), h i hi]
        constructor
        · rintro (⟨a, a1, a2⟩ | ⟨a1, a2⟩)
          · exact ⟨a, by omega, a2⟩
          · exact ⟨j, by omega, by omega, by omega⟩
        · rintro ⟨a, a1, a2, a3⟩
          by_cases e1 : a = j
          · subst e1; exact .inr ⟨by omega, by omega⟩
          · exact .inl ⟨a, by omega, a2, a3⟩
  refine outer S.length 0 _ (-1) (by omega) (by rw [List.length_replicate]; omega) rfl fun i hi => ?_
  rw [List.getElem?_replicate]
  constructor
  · intro z
    split at z
    · cases z
    · cases z
  · rintro ⟨a, a1, _⟩
    omega
end Go.Proofs.RWin
