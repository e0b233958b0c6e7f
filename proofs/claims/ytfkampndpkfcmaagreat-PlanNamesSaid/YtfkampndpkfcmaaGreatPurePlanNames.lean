import Derived.Test.YtfkampndpkfcmaaGreatRPn3
set_option linter.unusedVariables false
namespace Go.Proofs.RPn
open Go Go.Eng
theorem below_spec (x n:Int) (h1:1≤n) (h2:n≤4611686018427387904):g0.F (x,n)=some (x % n):=by
 apply Y.is
 refine Y.of (g0.F_of _) (Y.nd (by omega) (Y.np' (by omega) (Y.ite (fun c=>?_) (fun c=>?_))))
 ·refine Y.of (g0.D0_of _) (Y.some ?_)
  rw [tmod_neg_add h1 c]
  exact w64 (by have:=Int.emod_nonneg x (b:=n) (by omega); omega) (by have:=Int.emod_lt_of_pos x (b:=n) (by omega); omega)
 ·exact Y.of (g0.D0_of _) (Y.some (tmod_of_nonneg h1 c))
theorem below_range (x n:Int) (h1:1≤n):0≤x % n∧x % n < n:=⟨Int.emod_nonneg x (by omega),Int.emod_lt_of_pos x (by omega)⟩
theorem next_spec (L:List Int) (at_ n:Int) (ha:0≤at_) (hb:at_≤4611686018427387904) (h1:1≤n) (h2:n≤4611686018427387904) :
  Y (g1.F (n,L,at_)) fun r=>∃ x,r=(x,L,at_ + 1)∧0≤x∧x < n:=by
 refine Y.of (g1.F_of _) ?_
 dsimp only [g1.d]
 rw [w64 (x:=at_ + 1) (by omega) (by omega),w64 (x:=at_ + 1 - 1) (by omega) (by omega)]
 refine Y.ite (fun c=>?_) (fun c=>?_)
 ·refine Y.bE (below_spec _ _ h1 h2) (Y.some ⟨_,rfl,below_range _ _ h1⟩)
 ·rw [show at_ + 1 - 1=at_ by omega]
  have e:Int.tmod at_ (L.length:Int)=at_ % (L.length:Int):=Int.tmod_eq_emod_of_nonneg ha
  have e1:=Int.emod_nonneg at_ (b:=(L.length:Int)) c
  have e2:=Int.emod_lt_of_pos at_ (b:=(L.length:Int)) (by omega)
  rw [e]
  refine Y.np' c (Y.np' c (Y.pd ⟨e1,e2⟩ (Y.bE (below_spec _ 1073741824 (by omega) (by omega)) (Y.bE (below_spec _ _ h1 h2) (Y.some ⟨_,rfl,below_range _ _ h1⟩)))))
theorem Y.next {β:Type} {f:g1.R→Option β} {Q:β→Prop} (L:List Int) (at_ n:Int) (ha:0≤at_) (hb:at_≤4611686018427387904) (h1:1≤n) (h2:n≤4611686018427387904)
  (k:∀ r,0≤r→r < n→Y (f (r,L,at_ + 1)) Q):Y (bnd (g1.F (n,L,at_)) f) Q:=by
 obtain ⟨r,hr,x,rfl,h3,h4⟩:=next_spec L at_ n ha hb h1 h2
 exact Y.bE hr (k x h3 h4)
end Go.Proofs.RPn
namespace Go.Eng
open Go
def Tot {α:Type} (o:Option α):Prop:=∃ r,o=some r
variable {α β:Type}
theorem Tot.some {r:α}:Tot (Option.some r):=⟨r,rfl⟩
theorem Tot.of {d D:Option α} (h:∀ {r},d=Option.some r→D=Option.some r) (k:Tot d):Tot D:=by
 obtain ⟨r,hr⟩:=k
 exact ⟨r,h hr⟩
theorem Tot.br {c:Bool} {a b:Option α} (h:Tot a) (k:Tot b):Tot (br c a b):=by
 cases c with
 | true=>exact h
 | false=>exact k
theorem Tot.bnd {o:Option β} {k:β→Option α} (h:Tot o) (g:∀ x,Tot (k x)):Tot (bnd o k):=by
 obtain ⟨x,rfl⟩:=h
 exact g x
theorem Tot.y {o:Option α} (h:Tot o):Y o fun _=>True:=by
 obtain ⟨r,hr⟩:=h
 exact ⟨r,hr,trivial⟩
theorem Y.tot {o:Option α} (h:Y o fun _=>True):Tot o:=by
 obtain ⟨r,hr,_⟩:=h
 exact ⟨r,hr⟩
theorem Y.to {o:Option α} {Q:α→Prop} (h:Y o Q):Tot o:=by
 obtain ⟨r,hr,_⟩:=h
 exact ⟨r,hr⟩
end Go.Eng
namespace Go.Proofs.RPn
set_option linter.unusedVariables false
open Go Go.Eng
theorem window_when_tot (v:g48.A):Tot (g48.F v):=Tot.of (g48.F_of v) ((fun (v0,v1,v2,v3,v4,v5,v6,v7,v8,v9,v10,v11,v12,v13,v14,v15,v16,v17,v18)=>Tot.some:∀ v,Tot (g48.d v)) v)
theorem bound_Check_Tick_tot (v:g49.A):Tot (g49.F v):=Tot.of (g49.F_of v) ((fun (v0,v1,v2)=>(Tot.br Tot.some (Tot.br Tot.some (Tot.br Tot.some Tot.some))):∀ v,Tot (g49.d v)) v)
theorem bound_None_Tick_tot (v:g50.A):Tot (g50.F v):=Tot.of (g50.F_of v) ((fun _=>Tot.some:∀ v,Tot (g50.d v)) v)
theorem bound_Norm_Tick_tot (v:g51.A):Tot (g51.F v):=Tot.of (g51.F_of v) ((fun (v0,v1,v2)=>(Tot.bnd (bound_Check_Tick_tot _) fun _=>(Tot.br (Tot.bnd (bound_None_Tick_tot _) fun _=>Tot.some) Tot.some)):∀ v,Tot (g51.d g49.F g50.F v)) v)
theorem bound_Of_Tick_tot (v:g52.A):Tot (g52.F v):=Tot.of (g52.F_of v) ((fun (v0,v1)=>(Tot.bnd (bound_Norm_Tick_tot _) fun _=>Tot.some):∀ v,Tot (g52.d g51.F v)) v)
theorem bound_Exact_Tick_tot (v:g53.A):Tot (g53.F v):=Tot.of (g53.F_of v) ((fun v0=>(Tot.bnd (bound_Of_Tick_tot _) fun _=>Tot.some):∀ v,Tot (g53.d g52.F v)) v)
theorem bound_Neg_Tick_tot (v:g54.A):Tot (g54.F v):=Tot.of (g54.F_of v) ((fun (v0,v1,v2)=>(Tot.bnd (bound_Norm_Tick_tot _) fun _=>Tot.some):∀ v,Tot (g54.d g51.F v)) v)
theorem bound_vague_Tick_tot (v:g55.A):Tot (g55.F v):=Tot.of (g55.F_of v) ((fun (v0,v1,v2,v3,v4,v5)=>(Tot.bnd (bound_Norm_Tick_tot _) fun _=>(Tot.br (Tot.bnd (bound_Norm_Tick_tot _) fun _=>Tot.some) Tot.some)):∀ v,Tot (g55.d g51.F v)) v)
theorem bound_Add_Tick_tot (v:g56.A):Tot (g56.F v):=Tot.of (g56.F_of v) ((fun (v0,v1,v2,v3,v4,v5)=>(Tot.bnd (bound_vague_Tick_tot _) fun _=>(Tot.br (Tot.bnd (bound_None_Tick_tot _) fun _=>Tot.some) (Tot.bnd (bound_Of_Tick_tot _) fun _=>Tot.some))):∀ v,Tot (g56.d g55.F g50.F g52.F v)) v)
theorem bound_Sub_Tick_tot (v:g57.A):Tot (g57.F v):=Tot.of (g57.F_of v) ((fun (v0,v1,v2,v3,v4,v5)=>(Tot.bnd (bound_Neg_Tick_tot _) fun _=>(Tot.bnd (bound_Add_Tick_tot _) fun _=>Tot.some)):∀ v,Tot (g57.d g54.F g56.F v)) v)
theorem num_size_tot (v:g13.A):Tot (g13.F v):=Tot.of (g13.F_of v) ((fun v0=>(Tot.br Tot.some Tot.some):∀ v,Tot (g13.d v)) v)
theorem num_Gcd_tot_d0 (n:Nat):∀ a b:Int,b≤n→Tot (g14.D0 (a,b)):=by
 induction n with
 | zero=>exact fun a b h=>Y.tot (Y.of (g14.D0_of _) (Y.nd (by omega) (Y.some trivial)))
 | succ n ih=>
  intro a b h
  refine Y.tot (Y.of (g14.D0_of _) (Y.ite (fun c=>Y.nn (by omega) (Tot.y (ih _ _ ?_))) fun _=>Y.some trivial))
  have:=Int.tmod_lt_of_pos a c
  omega
theorem num_Gcd_tot (v:g14.A):Tot (g14.F v):=Tot.of (g14.F_of v) (Tot.bnd (num_size_tot _) fun _=>Tot.bnd (num_size_tot _) fun _=>num_Gcd_tot_d0 _ _ _ (Int.self_le_toNat _))
theorem frac_Check_tot (v:g15.A):Tot (g15.F v):=Tot.of (g15.F_of v) ((fun (v0,v1)=>(Tot.br Tot.some (Tot.bnd (num_Gcd_tot _) fun _=>(Tot.br Tot.some Tot.some))):∀ v,Tot (g15.d g14.F v)) v)
theorem num_CeilDiv_tot_d0 (v:g16.T0):Tot (g16.D0 v):=Tot.of (g16.D0_of v) Tot.some
theorem num_CeilDiv_tot (v:g16.A):Tot (g16.F v):=Tot.of (g16.F_of v) (Y.tot (Y.ite (fun _=>Y.some trivial) fun c=>Y.nn (by omega) (Y.nn (by omega) (Tot.y (Tot.br (num_CeilDiv_tot_d0 _) (num_CeilDiv_tot_d0 _))))))
theorem frac_rounded_tot (v:g17.A):Tot (g17.F v):=Tot.of (g17.F_of v) ((fun (v0,v1)=>(Tot.bnd (frac_Check_tot _) fun _=>(Tot.br Tot.some (Tot.bnd (num_CeilDiv_tot _) fun _=>Tot.some))):∀ v,Tot (g17.d g15.F g16.F v)) v)
theorem frac_Ceil_tot (v:g18.A):Tot (g18.F v):=Tot.of (g18.F_of v) ((fun (v0,v1)=>(Tot.bnd (frac_rounded_tot _) fun _=>Tot.some):∀ v,Tot (g18.d g17.F v)) v)
theorem scale_CheckRate_tot (v:g19.A):Tot (g19.F v):=Tot.of (g19.F_of v) ((fun (v0,v1,v2,v3)=>(Tot.bnd (frac_Check_tot _) fun _=>(Tot.br Tot.some (Tot.br Tot.some (Tot.br (Tot.bnd (frac_Ceil_tot _) fun _=>(Tot.br Tot.some Tot.some)) Tot.some)))):∀ v,Tot (g19.d g15.F g18.F v)) v)
theorem bound_None_Arc_tot (v:g58.A):Tot (g58.F v):=Tot.of (g58.F_of v) ((fun _=>Tot.some:∀ v,Tot (g58.d v)) v)
theorem bits_Mul64_tot (v:g22.A):Tot (g22.F v):=Tot.of (g22.F_of v) (Y.tot (Y.pd (by decide) (Y.pd (by decide) (Y.pd (by decide) (Y.pd (by decide) (Y.pd (by decide) (Y.some trivial)))))))
theorem bits_Add64_spec (a b c:Int) (h1:0≤a∧a < 18446744073709551616) (h2:0≤b∧b≤1) (h3:0≤c∧c≤1):Y (g23.F (a,b,c)) fun r=>0≤r.2∧r.2≤1:=by
 refine Y.of (g23.F_of _) ?_
 show Y (add64D (a,b,c)) _
 refine Y.pos (by simp; omega) (Y.some ?_)
 show 0≤(a + b + c) / 18446744073709551616∧(a + b + c) / 18446744073709551616≤1
 omega
theorem bXor_u64 (a b:Int):0≤bXor .u64 a b∧bXor .u64 a b < 18446744073709551616:=by
 unfold bXor
 show 0≤wrap .u64 _∧wrap .u64 _ < _
 rw [wr_u64]
 omega
theorem num_Wide_Neg_tot (v:g24.A):Tot (g24.F v):=Tot.of (g24.F_of v) (Y.tot (Y.bnd _ (bits_Add64_spec _ 1 0 (bXor_u64 _ _) (by decide) (by decide)) fun r h=>Y.bnd _ (bits_Add64_spec _ 0 _ (bXor_u64 _ _) (by decide) h) fun _ _=>Y.some trivial))
theorem num_Product_tot (v:g25.A):Tot (g25.F v):=Tot.of (g25.F_of v) ((fun (v0,v1)=>(Tot.bnd (num_size_tot _) fun _=>(Tot.bnd (num_size_tot _) fun _=>(Tot.bnd (bits_Mul64_tot _) fun _=>(Tot.br (Tot.bnd (num_Wide_Neg_tot _) fun _=>Tot.some) Tot.some)))):∀ v,Tot (g25.d g13.F g22.F g24.F v)) v)
theorem len8_spec (n:Nat) (h:n < 256):0≤wrap .i64 ((bs0.data.getD n 0).toNat:Int)∧wrap .i64 ((bs0.data.getD n 0).toNat:Int)≤8∧n < 2 ^ (bs0.data.getD n 0).toNat∧(0 < n→2 ^ ((bs0.data.getD n 0).toNat - 1)≤n∧1≤(bs0.data.getD n 0).toNat):=by
 have:∀ n:Fin 256,0≤wrap .i64 ((bs0.data.getD n.1 0).toNat:Int)∧wrap .i64 ((bs0.data.getD n.1 0).toNat:Int)≤8∧n.1 < 2 ^ (bs0.data.getD n.1 0).toNat∧(0 < n.1→2 ^ ((bs0.data.getD n.1 0).toNat - 1)≤n.1∧1≤(bs0.data.getD n.1 0).toNat):=by decide +kernel
 exact this ⟨n,h⟩
theorem shr_nat (k:IntKind) (y n:Nat) (h:n≤k.bits):shr k (y:Int) (n:Int)=((y / 2 ^ n:Nat):Int):=by
 unfold shr
 rw [Int.toNat_natCast,Nat.min_eq_left h,Int.fdiv_eq_ediv_of_nonneg _ (Int.le_of_lt (Int.pow_pos (by decide))),Int.natCast_ediv,Int.natCast_pow]
 rfl
theorem bs0_size:(bs0.size:Int)=256:=by decide +kernel
def IsLen (y l:Nat):Prop:=y < 2 ^ l∧(0 < y→1≤l∧2 ^ (l - 1)≤y)
theorem IsLen.up {y l:Nat} (n:Nat) (hy:0 < y / 2 ^ n) (h:IsLen (y / 2 ^ n) l):IsLen y (l + n):=by
 obtain ⟨h1,h2⟩:=h
 obtain ⟨h3,h4⟩:=h2 hy
 have hp:0 < 2 ^ n:=Nat.two_pow_pos _
 refine ⟨?_,fun _=>⟨by omega,?_⟩⟩
 ·rw [Nat.pow_add]
  exact (Nat.div_lt_iff_lt_mul hp).mp h1
 ·rw [show l + n - 1=(l - 1) + n by omega,Nat.pow_add]
  exact (Nat.le_div_iff_mul_le hp).mp h4
theorem bits_Len64_d2 (y:Nat) (hy:y < 256) (m:Int) (m0:0≤m) (m1:m≤56):Y (g59.D2 ((y:Int),m)) fun r=>∃ l:Nat,@Eq Int r (m + l)∧l≤8∧IsLen y l:=by
 have e:wrap .u8 (y:Int)=y:=by
  rw [wr_u8]
  omega
 obtain ⟨h1,h2,h3,h4⟩:=len8_spec y hy
 refine Y.of (g59.D2_of _) (Y.pd (by rw [e,bs0_size]; omega) (Y.some ?_))
 rw [e,Int.toNat_natCast]
 have hb:(bs0.data.getD y 0).toNat < 256:=UInt8.toNat_lt _
 have e2:wrap .i64 ((bs0.data.getD y 0).toNat:Int)=((bs0.data.getD y 0).toNat:Int):=w64 (by omega) (by omega)
 rw [e2] at h1 h2
 refine ⟨(bs0.data.getD y 0).toNat,?_,by omega,h3,fun k=>⟨(h4 k).2,(h4 k).1⟩⟩
 show wrap .i64 (m + wrap .i64 ((bs0.data.getD y 0).toNat:Int))=_
 rw [e2,w64 (by omega) (by omega)]
theorem bits_Len64_d1 (y:Nat) (hy:y < 65536) (m:Int) (m0:0≤m) (m1:m≤48):Y (g59.D1 ((y:Int),m)) fun r=>∃ l:Nat,@Eq Int r (m + l)∧l≤16∧IsLen y l:=by
 refine Y.of (g59.D1_of _) (Y.ite (fun c=>Y.pd (by decide) ?_) fun c=>Y.mono (bits_Len64_d2 y (by omega) m m0 (by omega)) fun r h=>(by obtain ⟨l,h1,h2,h3⟩:=h; exact ⟨l,h1,by omega,h3⟩))
 have e:=shr_nat .u64 y 8 (by decide)
 rw [show ((8:Nat):Int)=8 from rfl] at e
 rw [e,w64 (x:=m + 8) (by omega) (by omega)]
 refine Y.mono (bits_Len64_d2 (y / 2 ^ 8) (by omega) (m + 8) (by omega) (by omega)) fun r h=>(by obtain ⟨l,h1,h2,h3⟩:=h; exact ⟨l + 8,by omega,by omega,h3.up 8 (by omega)⟩)
theorem bits_Len64_d0 (y:Nat) (hy:y < 4294967296) (m:Int) (m0:0≤m) (m1:m≤32):Y (g59.D0 ((y:Int),m)) fun r=>∃ l:Nat,@Eq Int r (m + l)∧l≤32∧IsLen y l:=by
 refine Y.of (g59.D0_of _) (Y.ite (fun c=>Y.pd (by decide) ?_) fun c=>Y.mono (bits_Len64_d1 y (by omega) m m0 (by omega)) fun r h=>(by obtain ⟨l,h1,h2,h3⟩:=h; exact ⟨l,h1,by omega,h3⟩))
 have e:=shr_nat .u64 y 16 (by decide)
 rw [show ((16:Nat):Int)=16 from rfl] at e
 rw [e,w64 (x:=m + 16) (by omega) (by omega)]
 refine Y.mono (bits_Len64_d1 (y / 2 ^ 16) (by omega) (m + 16) (by omega) (by omega)) fun r h=>(by obtain ⟨l,h1,h2,h3⟩:=h; exact ⟨l + 16,by omega,by omega,h3.up 16 (by omega)⟩)
theorem bits_Len64_spec (y:Nat) (hy:y < 18446744073709551616):Y (g59.F (y:Int)) fun r=>∃ l:Nat,@Eq Int r l∧l≤64∧IsLen y l:=by
 refine Y.of (g59.F_of _) (Y.ite (fun c=>Y.pd (by decide) ?_) fun c=>Y.mono (bits_Len64_d0 y (by have c':=Int.not_le.mp c; omega) 0 (by omega) (by omega)) fun r h=>(by obtain ⟨l,h1,h2,h3⟩:=h; exact ⟨l,by omega,by omega,h3⟩))
 have e:=shr_nat .u64 y 32 (by decide)
 rw [show ((32:Nat):Int)=32 from rfl] at e
 rw [e]
 refine Y.mono (bits_Len64_d0 (y / 2 ^ 32) (by omega) 32 (by omega) (by omega)) fun r h=>(by obtain ⟨l,h1,h2,h3⟩:=h; exact ⟨l + 32,by omega,by omega,h3.up 32 (by have c':(4294967296:Int)≤y:=c; omega)⟩)
theorem bits_Div64_d3 (v:g61.T3) (h:0≤v.2.1):Tot (g61.D3 v):=Tot.of (g61.D3_of v) (Y.tot (Y.pd h (Y.some trivial)))
theorem bits_Div64_d2 (n:Nat):∀ (a b c d e f g h i:Int) (_:0≤b) (_:1≤c∧c < 4294967296) (_:0≤g∧g < 18446744073709551616) (_:(g < 4294967296→4294967296 - g≤n)∧(4294967296≤g→4294967297≤(n:Int))),Tot (g61.D2 (a,b,c,d,e,f,g,h,i)):=by
 induction n with
 | zero=>
  intro a b c d e f g h i h1 h2 h3 h4
  exact absurd h4 (by omega)
 | succ n ih=>
  intro a b c d e f g h i h1 h2 h3 h4
  refine Tot.of (g61.D2_of _) (Tot.br (Y.tot (Y.ite (fun _=>Tot.y (bits_Div64_d3 _ h1)) fun k=>Tot.y (ih _ _ _ _ _ _ _ _ _ h1 h2 ?_ ?_))) (bits_Div64_d3 _ h1))
  ·rw [wr_u64]
   omega
  ·rw [wr_u64] at k ⊢
   omega
theorem bits_Div64_d1 (a b c d e f g h:Int) (h1:0≤b) (h2:1≤c∧c < 4294967296):Tot (g61.D1 (a,b,c,d,e,f,g,h)):=by
 refine Tot.of (g61.D1_of _) (Y.tot (Y.nn (by omega) (Tot.y (bits_Div64_d2 4294967297 _ _ _ _ _ _ _ _ _ h1 h2 ?_ ?_))))
 ·rw [wr_u64]
  omega
 ·rw [wr_u64]
  omega
theorem bits_Div64_d0 (n:Nat):∀ (a b c d e f g h i:Int) (_:0≤b) (_:1≤c∧c < 4294967296) (_:0≤i∧i < 18446744073709551616) (_:(i < 4294967296→4294967296 - i≤n)∧(4294967296≤i→4294967297≤(n:Int))),Tot (g61.D0 (a,b,c,d,e,f,g,h,i)):=by
 induction n with
 | zero=>
  intro a b c d e f g h i h1 h2 h3 h4
  exact absurd h4 (by omega)
 | succ n ih=>
  intro a b c d e f g h i h1 h2 h3 h4
  refine Tot.of (g61.D0_of _) (Tot.br (Y.tot (Y.ite (fun _=>Tot.y (bits_Div64_d1 _ _ _ _ _ _ _ _ h1 h2)) fun k=>Tot.y (ih _ _ _ _ _ _ _ _ _ h1 h2 ?_ ?_))) (bits_Div64_d1 _ _ _ _ _ _ _ _ h1 h2))
  ·rw [wr_u64]
   omega
  ·rw [wr_u64] at k ⊢
   omega
theorem shl_norm {y l:Nat} (hy:0 < y) (h:IsLen y l) (hl:l≤64):∃ z:Nat,shl .u64 (y:Int) ((64 - l:Nat):Int)=(z:Int)∧9223372036854775808≤z∧z < 18446744073709551616:=by
 obtain ⟨h1,h2⟩:=h
 obtain ⟨h3,h4⟩:=h2 hy
 refine ⟨y * 2 ^ (64 - l),?_,?_,?_⟩
 ·unfold shl
  rw [Int.toNat_natCast,Nat.min_eq_left (by show 64 - l≤64; omega)]
  have:y * 2 ^ (64 - l) < 18446744073709551616:=by
   have:=Nat.mul_lt_mul_of_pos_right h1 (show 0 < 2 ^ (64 - l) from Nat.two_pow_pos _)
   rw [← Nat.pow_add,show l + (64 - l)=64 by omega] at this
   exact this
  have e:((y:Int) * 2 ^ (64 - l))=((y * 2 ^ (64 - l):Nat):Int):=by simp
  rw [e]
  show wrap .u64 _=_
  rw [wr_u64]
  omega
 ·have:=Nat.mul_le_mul_right (2 ^ (64 - l)) h4
  rw [← Nat.pow_add,show l - 1 + (64 - l)=63 by omega] at this
  exact this
 ·have:=Nat.mul_lt_mul_of_pos_right h1 (show 0 < 2 ^ (64 - l) from Nat.two_pow_pos _)
  rw [← Nat.pow_add,show l + (64 - l)=64 by omega] at this
  exact this
theorem bits_Div64_tot (hi lo y:Int) (h0:0 < y) (h1:y < 18446744073709551616) (h2:hi < y):Tot (g61.F (hi,lo,y)):=by
 obtain ⟨n,rfl⟩:∃ n:Nat,y=n:=⟨y.toNat,by omega⟩
 refine Tot.of (g61.F_of _) (Y.tot (Y.nd (by omega) (Y.nd (by omega) (Y.ite (fun _=>Y.nn (by omega) (Y.nn (by omega) (Y.some trivial))) fun _=>?_))))
 refine Y.bnd (fun r=>∃ l:Nat,@Eq Int r ((64 - l:Nat):Int)∧l≤64∧IsLen n l) ?_ ?_
 ·refine Y.of (g60.F_of _) (Y.bnd _ (bits_Len64_spec n (by omega)) fun r ⟨l,h3,h4,h5⟩=>Y.some ⟨l,?_,h4,h5⟩)
  subst h3
  rw [w64 (by omega) (by omega)]
  omega
 ·intro r ⟨l,h3,h4,h5⟩
  obtain ⟨z,hz,z1,z2⟩:=shl_norm (by omega) h5 h4
  have er:wrap .u64 r=r:=by
   rw [wr_u64,h3]
   omega
  have ez:shl .u64 (n:Int) (wrap .u64 r)=z:=by rw [er,h3,hz]
  have es:=shr_nat .u64 z 32 (by decide)
  rw [show ((32:Nat):Int)=32 from rfl] at es
  have e0:0≤wrap .u64 r:=by omega
  refine Y.pd e0 (Y.pd (by decide) (Y.pd e0 (Y.pd ?_ (Y.pd e0 (Y.pd (by decide) (Y.nn ?_ (Tot.y ?_)))))))
  ·rw [wr_u64]
   omega
  ·rw [ez,es]
   omega
  ·refine bits_Div64_d0 4294967297 _ _ _ _ _ _ _ _ _ e0 ?_ ?_ ?_
   ·rw [ez,es]
    omega
   ·rw [wr_u64]
    omega
   ·rw [wr_u64]
    omega
theorem num_Wide_Div_d1 (v:g62.T1):Tot (g62.D1 v):=Tot.of (g62.D1_of v) (Tot.br Tot.some (Tot.br Tot.some (Tot.br Tot.some Tot.some)))
theorem num_Wide_Div_spec (a b c:Int):Y (g62.F (a,b,c)) fun r=>r.2=0→wrap .u64 c≠0:=by
 have d0 (p q r s:Int):Y (g62.D0 (c,p,q,r,s)) fun r=>r.2=0→wrap .u64 c≠0:=by
  refine Y.of (g62.D0_of _) (Y.ite (fun _=>Y.some (fun h=>absurd h (by decide))) fun k=>?_)
  have k0:=wr_u64 r
  have k1:=wr_u64 c
  have nz:wrap .u64 c≠0:=by omega
  have d1 (v):Y (g62.D1 v) fun r=>r.2=0→wrap .u64 c≠0:=Y.mono (Tot.y (num_Wide_Div_d1 v)) fun _ _ _=>nz
  exact Y.bnd _ (Tot.y (bits_Div64_tot _ _ _ (by omega) (by omega) (by omega))) fun _ _=>Y.bif (fun _=>Y.bif (fun _=>d1 _) fun _=>d1 _) fun _=>d1 _
 exact Y.of (g62.F_of _) (Y.ite (fun _=>Y.some (fun h=>absurd h (by decide))) fun _=>Y.bif (fun _=>Y.bnd _ (Tot.y (num_Wide_Neg_tot _)) fun _ _=>d0 _ _ _ _) fun _=>d0 _ _ _ _)
theorem num_Wide_Div_tot (v:g62.A):Tot (g62.F v):=Y.to (num_Wide_Div_spec v.1 v.2.1 v.2.2)
theorem num_MulDiv_tot (v:g63.A):Tot (g63.F v):=Tot.of (g63.F_of v) ((fun (v0,v1,v2)=>(Tot.bnd (num_Product_tot _) fun _=>(Tot.bnd (num_Wide_Div_tot _) fun _=>Tot.some)):∀ v,Tot (g63.d g25.F g62.F v)) v)
theorem num_Wide_Mod_d1 (v:g64.T1):Tot (g64.D1 v):=Tot.of (g64.D1_of v) Tot.some
theorem num_Wide_Mod_spec (a b c:Int) (h:wrap .u64 c≠0):Tot (g64.F (a,b,c)):=by
 have d0 (p q r s:Int):Tot (g64.D0 (c,p,q,r,s)):=by
  have k1:=wr_u64 c
  refine Tot.of (g64.D0_of _) (Y.tot (Y.nn h (Tot.y (Tot.bnd (bits_Div64_tot _ _ _ (by omega) (by omega) (Int.tmod_lt_of_pos _ (by omega))) fun _=>Tot.br (num_Wide_Mod_d1 _) (num_Wide_Mod_d1 _)))))
 exact Tot.of (g64.F_of _) (Tot.br Tot.some (Tot.br (Tot.bnd (num_Wide_Neg_tot _) fun _=>d0 _ _ _ _) (d0 _ _ _ _)))
theorem num_MulDivUp_tot (v:g65.A):Tot (g65.F v):=by
 obtain ⟨a,b,c⟩:=v
 refine Tot.of (g65.F_of _) (Tot.bnd (num_Product_tot _) fun r=>Y.tot (Y.bnd _ (num_Wide_Div_spec r.1 r.2 c) fun r1 h=>Y.bif (fun k=>Tot.y ?_) fun _=>Y.some trivial))
 refine Tot.bnd (num_Wide_Mod_spec _ _ _ (h ?_)) fun _=>Tot.br Tot.some (Tot.br Tot.some Tot.some)
 simpa using k
theorem bound_Check_Arc_tot (v:g66.A):Tot (g66.F v):=Tot.of (g66.F_of v) ((fun (v0,v1,v2)=>(Tot.br Tot.some (Tot.br Tot.some (Tot.br Tot.some Tot.some))):∀ v,Tot (g66.d v)) v)
theorem bound_Norm_Arc_tot (v:g67.A):Tot (g67.F v):=Tot.of (g67.F_of v) ((fun (v0,v1,v2)=>(Tot.bnd (bound_Check_Arc_tot _) fun _=>(Tot.br (Tot.bnd (bound_None_Arc_tot _) fun _=>Tot.some) Tot.some)):∀ v,Tot (g67.d g66.F g58.F v)) v)
theorem bound_Of_Arc_tot (v:g68.A):Tot (g68.F v):=Tot.of (g68.F_of v) ((fun (v0,v1)=>(Tot.bnd (bound_Norm_Arc_tot _) fun _=>Tot.some):∀ v,Tot (g68.d g67.F v)) v)
theorem bound_Exact_Arc_tot (v:g69.A):Tot (g69.F v):=Tot.of (g69.F_of v) ((fun v0=>(Tot.bnd (bound_Of_Arc_tot _) fun _=>Tot.some):∀ v,Tot (g69.d g68.F v)) v)
theorem bound_vague_Arc_tot (v:g70.A):Tot (g70.F v):=Tot.of (g70.F_of v) ((fun (v0,v1,v2,v3,v4,v5)=>(Tot.bnd (bound_Norm_Arc_tot _) fun _=>(Tot.br (Tot.bnd (bound_Norm_Arc_tot _) fun _=>Tot.some) Tot.some)):∀ v,Tot (g70.d g67.F v)) v)
theorem bound_Add_Arc_tot (v:g71.A):Tot (g71.F v):=Tot.of (g71.F_of v) ((fun (v0,v1,v2,v3,v4,v5)=>(Tot.bnd (bound_vague_Arc_tot _) fun _=>(Tot.br (Tot.bnd (bound_None_Arc_tot _) fun _=>Tot.some) (Tot.bnd (bound_Of_Arc_tot _) fun _=>Tot.some))):∀ v,Tot (g71.d g70.F g58.F g68.F v)) v)
theorem scale_Sidereal_tot (v:g72.A):Tot (g72.F v):=Tot.of (g72.F_of v) ((fun (v0,v1,v2,v3,v4,v5,v6)=>(Tot.bnd (bound_Exact_Tick_tot _) fun _=>(Tot.bnd (bound_Sub_Tick_tot _) fun _=>(Tot.bnd (scale_CheckRate_tot _) fun _=>(Tot.br (Tot.bnd (bound_None_Arc_tot _) fun _=>Tot.some) (Tot.bnd (num_MulDiv_tot _) fun _=>(Tot.bnd (num_MulDivUp_tot _) fun _=>(Tot.br (Tot.bnd (bound_None_Arc_tot _) fun _=>Tot.some) (Tot.bnd (bound_Of_Arc_tot _) fun _=>(Tot.bnd (bound_Exact_Arc_tot _) fun _=>(Tot.bnd (bound_Add_Arc_tot _) fun _=>Tot.some)))))))))):∀ v,Tot (g72.d g53.F g57.F g19.F g58.F g63.F g65.F g68.F g69.F g71.F v)) v)
theorem horizon_CheckSite_tot (v:g73.A):Tot (g73.F v):=Tot.of (g73.F_of v) ((fun (v0,v1)=>(Tot.br Tot.some Tot.some):∀ v,Tot (g73.d v)) v)
theorem sphere_Check_tot (v:g34.A):Tot (g34.F v):=Tot.of (g34.F_of v) ((fun (v0,v1,v2)=>(Tot.br Tot.some (Tot.br Tot.some Tot.some)):∀ v,Tot (g34.d v)) v)
theorem cmp_Or_Errno_d0 (l:List Int) (hl:l.length≤1000) (n:Nat):∀ (j:Nat) (_:j + n=l.length) (z:Int),Tot (g20.D0 (z,l,(l.length:Int),(j:Int))):=by
 induction n with
 | zero=>exact fun j e z=>Y.tot (Y.of (g20.D0_of _) (Y.nd (by omega) (Y.some trivial)))
 | succ n ih=>
  intro j e z
  refine Y.tot (Y.of (g20.D0_of _) (Y.pd (by omega) (Y.pd (by omega) (Y.bif (fun _=>Y.some trivial) fun _=>Tot.y ?_))))
  rw [w64 (x:=(j:Int) + 1) (by omega) (by omega)]
  exact ih (j + 1) (by omega) _
theorem cmp_Or_Errno_tot (a b:Int):Tot (g20.F [a,b]):=Tot.of (g20.F_of _) (cmp_Or_Errno_d0 [a,b] (by simp) 2 0 rfl _)
theorem bound_None_Fix_tot (v:g74.A):Tot (g74.F v):=Tot.of (g74.F_of v) ((fun _=>Tot.some:∀ v,Tot (g74.d v)) v)
theorem sphere_Check_spec (a b c:Int):Y (g34.F (a,b,c)) fun r=>r=0→(-1048576≤a∧a≤1048576∧-1048576≤b∧b≤1048576∧-1048576≤c∧c≤1048576)∧¬ (a=0∧b=0∧c=0):=by
 refine Y.of (g34.F_of _) (Y.bif (fun _=>Y.some (fun h=>absurd h (by decide))) fun h1=>Y.bif (fun _=>Y.some (fun h=>absurd h (by decide))) fun h2=>Y.some fun _=>?_)
 simp only [Bool.or_eq_false_iff,decide_eq_false_iff_not] at h1
 simp only [Bool.and_true,Bool.and_eq_false_iff,decide_eq_false_iff_not] at h2
 refine ⟨by omega,by omega⟩
theorem sphere_Grow_d0 (n:Nat):∀ (a b c d e f:Int) (_:-1048576≤a∧a≤1048576∧-1048576≤b∧b≤1048576∧-1048576≤c∧c≤1048576) (_:¬ (a=0∧b=0∧c=0)) (_:1048577 - max (max a (-a)) (max (max b (-b)) (max c (-c)))≤n),Tot (g75.D0 (a,b,c,d,e,f)):=by
 induction n with
 | zero=>
  intro a b c d e f h1 h2 h3
  exact absurd h3 (by omega)
 | succ n ih=>
  intro a b c d e f h1 h2 h3
  refine Tot.of (g75.D0_of _) (Y.tot (Y.bnd _ (sphere_Check_spec _ _ _) fun r hr=>Y.nite (fun _=>Y.some trivial) fun k=>Tot.y ?_))
  obtain ⟨h4,h5⟩:=hr k
  rw [w64 (x:=2 * a) (by omega) (by omega),w64 (x:=2 * b) (by omega) (by omega),w64 (x:=2 * c) (by omega) (by omega)] at h4 h5 ⊢
  exact ih _ _ _ _ _ _ h4 h5 (by omega)
theorem sphere_Grow_tot (v:g75.A):Tot (g75.F v):=by
 obtain ⟨a,b,c⟩:=v
 refine Tot.of (g75.F_of _) (Y.tot (Y.bnd _ (sphere_Check_spec _ _ _) fun r hr=>Y.nite (fun _=>Y.some trivial) fun k=>Tot.y (sphere_Grow_d0 1048577 _ _ _ _ _ _ (hr k).1 (hr k).2 (by omega))))
theorem num_FloorDiv_tot_d0 (v:g82.T0):Tot (g82.D0 v):=Tot.of (g82.D0_of v) Tot.some
theorem num_FloorDiv_tot (v:g82.A):Tot (g82.F v):=Tot.of (g82.F_of v) (Y.tot (Y.ite (fun _=>Y.some trivial) fun c=>Y.nn (by omega) (Y.nn (by omega) (Tot.y (Tot.br (num_FloorDiv_tot_d0 _) (num_FloorDiv_tot_d0 _))))))
theorem trig_meets_tot (v:g83.A):Tot (g83.F v):=Tot.of (g83.F_of v) ((fun (v0,v1,v2,v3)=>(Tot.bnd (num_FloorDiv_tot _) fun _=>(Tot.bnd (num_CeilDiv_tot _) fun _=>Tot.some)):∀ v,Tot (g83.d g82.F g16.F v)) v)
theorem bound_Check_Fix_tot (v:g84.A):Tot (g84.F v):=Tot.of (g84.F_of v) ((fun (v0,v1,v2)=>(Tot.br Tot.some (Tot.br Tot.some (Tot.br Tot.some Tot.some))):∀ v,Tot (g84.d v)) v)
theorem bound_Norm_Fix_tot (v:g85.A):Tot (g85.F v):=Tot.of (g85.F_of v) ((fun (v0,v1,v2)=>(Tot.bnd (bound_Check_Fix_tot _) fun _=>(Tot.br (Tot.bnd (bound_None_Fix_tot _) fun _=>Tot.some) Tot.some)):∀ v,Tot (g85.d g84.F g74.F v)) v)
theorem bound_Of_Fix_tot (v:g86.A):Tot (g86.F v):=Tot.of (g86.F_of v) ((fun (v0,v1)=>(Tot.bnd (bound_Norm_Fix_tot _) fun _=>Tot.some):∀ v,Tot (g86.d g85.F v)) v)
theorem trig_times_tot (v:g76.A):Tot (g76.F v):=Tot.of (g76.F_of v) ((fun (v0,v1)=>(Tot.bnd (num_MulDiv_tot _) fun _=>Tot.some):∀ v,Tot (g76.d g63.F v)) v)
theorem trig_series_d0 (l:List Int) (hl:l.length≤1000) (hz:∀ x ∈ l,x≠0) (n:Nat):∀ (j:Nat) (_:j + n=l.length) (x s:Int),Tot (g77.D0 (x,s,l,(l.length:Int),(j:Int))):=by
 induction n with
 | zero=>exact fun j e x s=>Y.tot (Y.of (g77.D0_of _) (Y.nd (by omega) (Y.some trivial)))
 | succ n ih=>
  intro j e x s
  refine Y.tot (Y.of (g77.D0_of _) (Y.pd (by omega) (Y.pd (by omega) (Y.bnd _ (Tot.y (trig_times_tot _)) fun r _=>Y.nn (hz _ (rd_mem (t:=.int .i64) l (j:Int) (by omega) (by omega))) (Tot.y ?_)))))
  rw [w64 (x:=(j:Int) + 1) (by omega) (by omega)]
  exact ih (j + 1) (by omega) _ _
theorem trig_series_tot (x:Int) (l:List Int) (hl:l.length≤1000) (hz:∀ x ∈ l,x≠0):Tot (g77.F (x,l)):=Tot.of (g77.F_of _) (trig_series_d0 l hl hz l.length 0 (by omega) _ _)
theorem num_RoundDiv_tot_d0 (v:g78.T0):Tot (g78.D0 v):=Tot.of (g78.D0_of v) Tot.some
theorem num_RoundDiv_tot (v:g78.A):Tot (g78.F v):=Tot.of (g78.F_of v) (Y.tot (Y.ite (fun _=>Y.some trivial) fun c=>Y.nn (by omega) (Y.nn (by omega) (Tot.y (Tot.br (num_RoundDiv_tot_d0 _) (Tot.br (num_RoundDiv_tot_d0 _) (num_RoundDiv_tot_d0 _)))))))
theorem trig_quarter_tot_d0 (v:g79.T0):Tot (g79.D0 v):=Tot.of (g79.D0_of v) (Tot.bnd (num_MulDiv_tot _) fun _=>Tot.bnd (trig_times_tot _) fun _=>Tot.br (Tot.bnd (trig_series_tot _ _ (by decide) (by decide)) fun _=>Tot.bnd (num_RoundDiv_tot _) fun _=>Tot.some) (Tot.bnd (trig_series_tot _ _ (by decide) (by decide)) fun _=>Tot.bnd (trig_times_tot _) fun _=>Tot.bnd (num_RoundDiv_tot _) fun _=>Tot.some))
theorem trig_quarter_tot (v:g79.A):Tot (g79.F v):=Tot.of (g79.F_of v) (Tot.br (trig_quarter_tot_d0 _) (trig_quarter_tot_d0 _))
theorem trig_Sin_tot (v:g80.A):Tot (g80.F v):=Tot.of (g80.F_of v) (Y.tot (Y.nn (by decide) (Tot.y (Tot.br (Tot.bnd (trig_quarter_tot _) fun _=>Tot.some) (Tot.br (Tot.bnd (trig_quarter_tot _) fun _=>Tot.some) (Tot.br (Tot.bnd (trig_quarter_tot _) fun _=>Tot.some) (Tot.bnd (trig_quarter_tot _) fun _=>Tot.some)))))))
theorem trig_Cos_tot (v:g81.A):Tot (g81.F v):=Tot.of (g81.F_of v) ((fun v0=>(Tot.bnd (trig_Sin_tot _) fun _=>Tot.some):∀ v,Tot (g81.d g80.F v)) v)
theorem trig_wave_tot_d1 (v:g87.T1):Tot (g87.D1 v):=Tot.of (g87.D1_of v) ((fun (v0,v1,v2,v3,v4)=>(Tot.bnd (bound_Of_Fix_tot _) fun _=>Tot.some):∀ v,Tot (g87.d1 g86.F v)) v)
theorem trig_wave_tot_d0 (v:g87.T0):Tot (g87.D0 v):=Tot.of (g87.D0_of v) ((fun (v0,v1,v2,v3,v4,v5,v6,v7,v8)=>(Tot.bnd (trig_meets_tot _) fun _=>(Tot.br (trig_wave_tot_d1 _) (trig_wave_tot_d1 _))):∀ v,Tot (g87.d0 g83.F g87.D1 v)) v)
theorem trig_wave_tot (v:g87.A):Tot (g87.F v):=Tot.of (g87.F_of v) ((fun (v0,v1,v2,v3)=>(Tot.bnd (bound_Norm_Arc_tot _) fun _=>(Tot.br (Tot.bnd (bound_None_Fix_tot _) fun _=>Tot.some) (Tot.bnd (trig_Cos_tot _) fun _=>(Tot.bnd (trig_Cos_tot _) fun _=>(Tot.bnd (trig_meets_tot _) fun _=>(Tot.br (trig_wave_tot_d0 _) (trig_wave_tot_d0 _))))))):∀ v,Tot (g87.d g67.F g74.F g81.F g83.F g87.D0 v)) v)
theorem trig_CosBound_tot (v:g88.A):Tot (g88.F v):=Tot.of (g88.F_of v) ((fun (v0,v1,v2)=>(Tot.bnd (trig_wave_tot _) fun _=>Tot.some):∀ v,Tot (g88.d g87.F v)) v)
theorem bound_Exact_Fix_tot (v:g89.A):Tot (g89.F v):=Tot.of (g89.F_of v) ((fun v0=>(Tot.bnd (bound_Of_Fix_tot _) fun _=>Tot.some):∀ v,Tot (g89.d g86.F v)) v)
theorem bound_vague_Fix_tot (v:g90.A):Tot (g90.F v):=Tot.of (g90.F_of v) ((fun (v0,v1,v2,v3,v4,v5)=>(Tot.bnd (bound_Norm_Fix_tot _) fun _=>(Tot.br (Tot.bnd (bound_Norm_Fix_tot _) fun _=>Tot.some) Tot.some)):∀ v,Tot (g90.d g85.F v)) v)
theorem slices_Min_Fix_d0 (l:List Int) (hl:l.length≤1000) (n:Nat):∀ (j:Nat) (_:j + n=l.length) (z:Int),Tot (g93.D0 (l,z,(j:Int))):=by
 induction n with
 | zero=>exact fun j e z=>Y.tot (Y.of (g93.D0_of _) (Y.nd (by omega) (Y.some trivial)))
 | succ n ih=>
  intro j e z
  refine Y.tot (Y.of (g93.D0_of _) (Y.pd (by omega) (Y.pd (by omega) (Tot.y ?_))))
  rw [w64 (x:=(j:Int) + 1) (by omega) (by omega)]
  exact ih (j + 1) (by omega) _
theorem slices_Min_Fix_tot (l:List Int) (h0:0 < l.length) (h1:l.length≤1000):Tot (g93.F l):=Tot.of (g93.F_of _) (Y.tot (Y.nd (by omega) (Y.pd (by omega) (Tot.y (slices_Min_Fix_d0 l h1 (l.length - 1) 1 (by omega) _)))))
theorem slices_Max_Fix_d0 (l:List Int) (hl:l.length≤1000) (n:Nat):∀ (j:Nat) (_:j + n=l.length) (z:Int),Tot (g94.D0 (l,z,(j:Int))):=by
 induction n with
 | zero=>exact fun j e z=>Y.tot (Y.of (g94.D0_of _) (Y.nd (by omega) (Y.some trivial)))
 | succ n ih=>
  intro j e z
  refine Y.tot (Y.of (g94.D0_of _) (Y.pd (by omega) (Y.pd (by omega) (Tot.y ?_))))
  rw [w64 (x:=(j:Int) + 1) (by omega) (by omega)]
  exact ih (j + 1) (by omega) _
theorem slices_Max_Fix_tot (l:List Int) (h0:0 < l.length) (h1:l.length≤1000):Tot (g94.F l):=Tot.of (g94.F_of _) (Y.tot (Y.nd (by omega) (Y.pd (by omega) (Tot.y (slices_Max_Fix_d0 l h1 (l.length - 1) 1 (by omega) _)))))
theorem bound_Mul_FixS1_tot (v:g91.A):Tot (g91.F v):=Tot.of (g91.F_of v) ((fun (v0,v1,v2)=>(Tot.bnd (num_MulDiv_tot _) fun _=>Tot.some):∀ v,Tot (g91.d g63.F v)) v)
theorem bound_Mul_FixS2_tot (v:g92.A):Tot (g92.F v):=Tot.of (g92.F_of v) ((fun (v0,v1,v2)=>(Tot.bnd (num_MulDivUp_tot _) fun _=>Tot.some):∀ v,Tot (g92.d g65.F v)) v)
theorem bound_corners_Fix_d1 (B:Nat) (hB:B≤8) (n:Nat) (a0 a1 a2 a6 a7:Int) (a8:Bool) (a9 a10:Int) (a11:Bool) (a13 a14:List Int) (h14:a14.length=2)
  (h:∀ b2 (r:List Int),0 < r.length→r.length≤B→Tot (g95.D0 (a1,wrap .i64 (a2 + 1),b2,a6,a7,a8,a9,a10,a11,r,a13))):∀ (j:Nat) (_:j + n=2) (a5:Int) (r:List Int),(0 < r.length∨j=0)→r.length + 2 * n≤B→Tot (g95.D1 (a0,a1,a2,2,(j:Int),a5,a6,a7,a8,a9,a10,a11,r,a13,a14)):=by
 induction n with
 | zero=>
  intro j e a5 r h0 h1
  refine Y.tot (Y.of (g95.D1_of _) (Y.nd (by omega) (Tot.y ?_)))
  exact h _ _ (by omega) (by omega)
 | succ n ih=>
  intro j e a5 r h0 h1
  refine Y.tot (Y.of (g95.D1_of _) (Y.pd (by omega) (Y.pd (by omega) (Y.bnd _ (Tot.y (bound_Mul_FixS1_tot _)) fun x _=>Y.bnd _ (Tot.y (bound_Mul_FixS2_tot _)) fun y _=>Y.bif (fun _=>Tot.y (Tot.bnd (bound_None_Fix_tot _) fun _=>Tot.some)) fun _=>Y.pd ?_ (Tot.y ?_)))))
  ·show r.length + 2≤_
   omega
  ·rw [w64 (x:=(j:Int) + 1) (by omega) (by omega)]
   exact ih (j + 1) (by omega) _ _ (.inl (by rw [List.length_append]; simp)) (by rw [List.length_append]; simp only [List.length_cons,List.length_nil]; omega)
theorem bound_corners_Fix_tot (v:g95.A):Tot (g95.F v):=by
 obtain ⟨a,b,c,d,e,f,g⟩:=v
 have f2 (b2:Int) (r:List Int) (h0:0 < r.length) (h1:r.length≤8):Tot (g95.D0 (2,2,b2,d,e,f,0,0,false,r,[a,b])):=Tot.of (g95.D0_of _) (Y.tot (Y.nd (by decide) (Tot.y (Tot.bnd (slices_Min_Fix_tot _ h0 (by omega)) fun _=>Tot.bnd (slices_Max_Fix_tot _ h0 (by omega)) fun _=>Tot.bnd (bound_Of_Fix_tot _) fun _=>Tot.some))))
 have f1 (b2:Int) (r:List Int) (h1:r.length≤4):Tot (g95.D0 (2,1,b2,d,e,f,0,0,false,r,[a,b])):=Tot.of (g95.D0_of _) (Y.tot (Y.pd (by decide) (Y.pd ⟨by decide,(by show (1:Int) < 2; decide)⟩ (Tot.y (bound_corners_Fix_d1 8 (by decide) 2 _ 2 1 d e f 0 0 false [a,b] [d,e] rfl f2 0 rfl _ r (.inr rfl) (by omega))))))
 have f0 (b2:Int) (r:List Int) (h1:r.length=0):Tot (g95.D0 (2,0,b2,d,e,f,0,0,false,r,[a,b])):=Tot.of (g95.D0_of _) (Y.tot (Y.pd (by decide) (Y.pd ⟨by decide,(by show (0:Int) < 2; decide)⟩ (Tot.y (bound_corners_Fix_d1 4 (by decide) 2 _ 2 0 d e f 0 0 false [a,b] [d,e] rfl (fun b2 r _ h=>f1 b2 r h) 0 rfl _ r (.inr rfl) (by omega))))))
 exact Tot.of (g95.F_of _) (f0 g [] rfl)
theorem bound_Mul_Fix_tot (v:g96.A):Tot (g96.F v):=Tot.of (g96.F_of v) ((fun (v0,v1,v2,v3,v4,v5,v6)=>(Tot.bnd (bound_vague_Fix_tot _) fun _=>(Tot.br (Tot.bnd (bound_None_Fix_tot _) fun _=>Tot.some) (Tot.bnd (bound_corners_Fix_tot _) fun _=>Tot.some))):∀ v,Tot (g96.d g90.F g74.F g95.F v)) v)
theorem bound_Scale_Fix_tot (v:g97.A):Tot (g97.F v):=Tot.of (g97.F_of v) ((fun (v0,v1,v2,v3,v4)=>(Tot.bnd (bound_Exact_Fix_tot _) fun _=>(Tot.bnd (bound_Mul_Fix_tot _) fun _=>Tot.some)):∀ v,Tot (g97.d g89.F g96.F v)) v)
theorem trig_wave_1_tot_d1 (v:g98.T1):Tot (g98.D1 v):=Tot.of (g98.D1_of v) ((fun (v0,v1,v2,v3,v4)=>(Tot.bnd (bound_Of_Fix_tot _) fun _=>Tot.some):∀ v,Tot (g98.d1 g86.F v)) v)
theorem trig_wave_1_tot_d0 (v:g98.T0):Tot (g98.D0 v):=Tot.of (g98.D0_of v) ((fun (v0,v1,v2,v3,v4,v5,v6,v7,v8)=>(Tot.bnd (trig_meets_tot _) fun _=>(Tot.br (trig_wave_1_tot_d1 _) (trig_wave_1_tot_d1 _))):∀ v,Tot (g98.d0 g83.F g98.D1 v)) v)
theorem trig_wave_1_tot (v:g98.A):Tot (g98.F v):=Tot.of (g98.F_of v) ((fun (v0,v1,v2,v3)=>(Tot.bnd (bound_Norm_Arc_tot _) fun _=>(Tot.br (Tot.bnd (bound_None_Fix_tot _) fun _=>Tot.some) (Tot.bnd (trig_Sin_tot _) fun _=>(Tot.bnd (trig_Sin_tot _) fun _=>(Tot.bnd (trig_meets_tot _) fun _=>(Tot.br (trig_wave_1_tot_d0 _) (trig_wave_1_tot_d0 _))))))):∀ v,Tot (g98.d g67.F g74.F g80.F g83.F g98.D0 v)) v)
theorem trig_SinBound_tot (v:g99.A):Tot (g99.F v):=Tot.of (g99.F_of v) ((fun (v0,v1,v2)=>(Tot.bnd (trig_wave_1_tot _) fun _=>Tot.some):∀ v,Tot (g99.d g98.F v)) v)
theorem bound_Add_Fix_tot (v:g100.A):Tot (g100.F v):=Tot.of (g100.F_of v) ((fun (v0,v1,v2,v3,v4,v5)=>(Tot.bnd (bound_vague_Fix_tot _) fun _=>(Tot.br (Tot.bnd (bound_None_Fix_tot _) fun _=>Tot.some) (Tot.bnd (bound_Of_Fix_tot _) fun _=>Tot.some))):∀ v,Tot (g100.d g90.F g74.F g86.F v)) v)
theorem num_SqrtMul_d0 (n:Nat):∀ (a b c d:Int) (_:d≤n),Tot (g101.D0 (a,b,c,d)):=by
 induction n with
 | zero=>exact fun a b c d h=>Y.tot (Y.of (g101.D0_of _) (Y.nd (by omega) (Y.some trivial)))
 | succ n ih=>
  intro a b c d h
  refine Tot.of (g101.D0_of _) (Y.tot (Y.ite (fun k=>?_) fun _=>Y.some trivial))
  obtain ⟨m,rfl⟩:∃ m:Nat,d=m:=⟨d.toNat,by omega⟩
  have d1 (x y z:Int):Tot (g101.D1 (x,y,z,(m:Int))):=by
   refine Tot.of (g101.D1_of _) (Y.tot (Y.pd (by decide) (Tot.y ?_)))
   have e:=shr_nat .u64 m 1 (by decide)
   rw [show ((1:Nat):Int)=1 from rfl] at e
   rw [e]
   exact ih _ _ _ _ (by omega)
  exact Tot.y (Tot.bnd (bits_Mul64_tot _) fun _=>Tot.br (d1 _ _ _) (d1 _ _ _))
theorem num_SqrtMul_tot (v:g101.A):Tot (g101.F v):=Tot.of (g101.F_of v) (Tot.br Tot.some (Tot.bnd (bits_Mul64_tot _) fun _=>num_SqrtMul_d0 4611686018427387904 _ _ _ _ (by decide)))
theorem cmp_isNaN_int64_tot (v:g26.A):Tot (g26.F v):=Tot.of (g26.F_of v) ((fun v0=>Tot.some:∀ v,Tot (g26.d v)) v)
theorem cmp_Compare_int64_tot (v:g27.A):Tot (g27.F v):=Tot.of (g27.F_of v) ((fun (v0,v1)=>(Tot.bnd (cmp_isNaN_int64_tot _) fun _=>(Tot.bnd (cmp_isNaN_int64_tot _) fun _=>(Tot.br (Tot.br Tot.some Tot.some) (Tot.br Tot.some (Tot.br Tot.some (Tot.br Tot.some Tot.some)))))):∀ v,Tot (g27.d g26.F v)) v)
theorem cmp_isNaN_uint64_tot (v:g28.A):Tot (g28.F v):=Tot.of (g28.F_of v) ((fun v0=>Tot.some:∀ v,Tot (g28.d v)) v)
theorem cmp_Compare_uint64_tot (v:g29.A):Tot (g29.F v):=Tot.of (g29.F_of v) ((fun (v0,v1)=>(Tot.bnd (cmp_isNaN_uint64_tot _) fun _=>(Tot.bnd (cmp_isNaN_uint64_tot _) fun _=>(Tot.br (Tot.br Tot.some Tot.some) (Tot.br Tot.some (Tot.br Tot.some (Tot.br Tot.some Tot.some)))))):∀ v,Tot (g29.d g28.F v)) v)
theorem cmp_Or_int_d0 (l:List Int) (hl:l.length≤1000) (n:Nat):∀ (j:Nat) (_:j + n=l.length) (z:Int),Tot (g30.D0 (z,l,(l.length:Int),(j:Int))):=by
 induction n with
 | zero=>exact fun j e z=>Y.tot (Y.of (g30.D0_of _) (Y.nd (by omega) (Y.some trivial)))
 | succ n ih=>
  intro j e z
  refine Y.tot (Y.of (g30.D0_of _) (Y.pd (by omega) (Y.pd (by omega) (Y.bif (fun _=>Y.some trivial) fun _=>Tot.y ?_))))
  rw [w64 (x:=(j:Int) + 1) (by omega) (by omega)]
  exact ih (j + 1) (by omega) _
theorem cmp_Or_int_tot (a b:Int):Tot (g30.F [a,b]):=Tot.of (g30.F_of _) (cmp_Or_int_d0 [a,b] (by simp) 2 0 rfl _)
theorem num_Wide_Cmp_tot (v:g31.A):Tot (g31.F v):=Tot.of (g31.F_of v) ((fun (v0,v1,v2,v3)=>(Tot.bnd (cmp_Compare_int64_tot _) fun _=>(Tot.bnd (cmp_Compare_uint64_tot _) fun _=>(Tot.bnd (cmp_Or_int_tot _ _) fun _=>Tot.some))):∀ v,Tot (g31.d g27.F g29.F g30.F v)) v)
theorem bound_Root_Fix_tot_d0 (v:g102.T0):Tot (g102.D0 v):=Tot.of (g102.D0_of v) ((fun (v0,v1,v2,v3,v4)=>(Tot.bnd (bound_Of_Fix_tot _) fun _=>Tot.some):∀ v,Tot (g102.d0 g86.F v)) v)
theorem bound_Root_Fix_tot (v:g102.A):Tot (g102.F v):=Tot.of (g102.F_of v) ((fun (v0,v1,v2,v3)=>(Tot.bnd (bound_vague_Fix_tot _) fun _=>(Tot.br (Tot.bnd (bound_None_Fix_tot _) fun _=>Tot.some) (Tot.bnd (num_SqrtMul_tot _) fun _=>(Tot.bnd (num_SqrtMul_tot _) fun _=>(Tot.bnd (num_Product_tot _) fun _=>(Tot.bnd (num_Product_tot _) fun _=>(Tot.bnd (num_Wide_Cmp_tot _) fun _=>(Tot.br (bound_Root_Fix_tot_d0 _) (bound_Root_Fix_tot_d0 _))))))))):∀ v,Tot (g102.d g90.F g74.F g101.F g25.F g31.F g102.D0 v)) v)
theorem bound_Div_FixS1_tot (v:g104.A):Tot (g104.F v):=Tot.of (g104.F_of v) ((fun (v0,v1,v2)=>(Tot.bnd (num_MulDiv_tot _) fun _=>Tot.some):∀ v,Tot (g104.d g63.F v)) v)
theorem bound_Div_FixS2_tot (v:g105.A):Tot (g105.F v):=Tot.of (g105.F_of v) ((fun (v0,v1,v2)=>(Tot.bnd (num_MulDivUp_tot _) fun _=>Tot.some):∀ v,Tot (g105.d g65.F v)) v)
theorem bound_corners_Fix_1_d1 (B:Nat) (hB:B≤8) (n:Nat) (a0 a1 a2 a6 a7:Int) (a8:Bool) (a9 a10:Int) (a11:Bool) (a13 a14:List Int) (h14:a14.length=2)
  (h:∀ b2 (r:List Int),0 < r.length→r.length≤B→Tot (g106.D0 (a1,wrap .i64 (a2 + 1),b2,a6,a7,a8,a9,a10,a11,r,a13))):∀ (j:Nat) (_:j + n=2) (a5:Int) (r:List Int),(0 < r.length∨j=0)→r.length + 2 * n≤B→Tot (g106.D1 (a0,a1,a2,2,(j:Int),a5,a6,a7,a8,a9,a10,a11,r,a13,a14)):=by
 induction n with
 | zero=>
  intro j e a5 r h0 h1
  refine Y.tot (Y.of (g106.D1_of _) (Y.nd (by omega) (Tot.y ?_)))
  exact h _ _ (by omega) (by omega)
 | succ n ih=>
  intro j e a5 r h0 h1
  refine Y.tot (Y.of (g106.D1_of _) (Y.pd (by omega) (Y.pd (by omega) (Y.bnd _ (Tot.y (bound_Div_FixS1_tot _)) fun x _=>Y.bnd _ (Tot.y (bound_Div_FixS2_tot _)) fun y _=>Y.bif (fun _=>Tot.y (Tot.bnd (bound_None_Fix_tot _) fun _=>Tot.some)) fun _=>Y.pd ?_ (Tot.y ?_)))))
  ·show r.length + 2≤_
   omega
  ·rw [w64 (x:=(j:Int) + 1) (by omega) (by omega)]
   exact ih (j + 1) (by omega) _ _ (.inl (by rw [List.length_append]; simp)) (by rw [List.length_append]; simp only [List.length_cons,List.length_nil]; omega)
theorem bound_corners_Fix_1_tot (v:g106.A):Tot (g106.F v):=by
 obtain ⟨a,b,c,d,e,f,g⟩:=v
 have f2 (b2:Int) (r:List Int) (h0:0 < r.length) (h1:r.length≤8):Tot (g106.D0 (2,2,b2,d,e,f,0,0,false,r,[a,b])):=Tot.of (g106.D0_of _) (Y.tot (Y.nd (by decide) (Tot.y (Tot.bnd (slices_Min_Fix_tot _ h0 (by omega)) fun _=>Tot.bnd (slices_Max_Fix_tot _ h0 (by omega)) fun _=>Tot.bnd (bound_Of_Fix_tot _) fun _=>Tot.some))))
 have f1 (b2:Int) (r:List Int) (h1:r.length≤4):Tot (g106.D0 (2,1,b2,d,e,f,0,0,false,r,[a,b])):=Tot.of (g106.D0_of _) (Y.tot (Y.pd (by decide) (Y.pd ⟨by decide,(by show (1:Int) < 2; decide)⟩ (Tot.y (bound_corners_Fix_1_d1 8 (by decide) 2 _ 2 1 d e f 0 0 false [a,b] [d,e] rfl f2 0 rfl _ r (.inr rfl) (by omega))))))
 have f0 (b2:Int) (r:List Int) (h1:r.length=0):Tot (g106.D0 (2,0,b2,d,e,f,0,0,false,r,[a,b])):=Tot.of (g106.D0_of _) (Y.tot (Y.pd (by decide) (Y.pd ⟨by decide,(by show (0:Int) < 2; decide)⟩ (Tot.y (bound_corners_Fix_1_d1 4 (by decide) 2 _ 2 0 d e f 0 0 false [a,b] [d,e] rfl (fun b2 r _ h=>f1 b2 r h) 0 rfl _ r (.inr rfl) (by omega))))))
 exact Tot.of (g106.F_of _) (f0 g [] rfl)
theorem bound_Neg_Fix_tot (v:g103.A):Tot (g103.F v):=Tot.of (g103.F_of v) ((fun (v0,v1,v2)=>(Tot.bnd (bound_Norm_Fix_tot _) fun _=>Tot.some):∀ v,Tot (g103.d g85.F v)) v)
theorem bound_Div_Fix_tot_d0 (v:g107.T0):Tot (g107.D0 v):=Tot.of (g107.D0_of v) ((fun (v0,v1,v2,v3,v4,v5,v6,v7,v8,v9)=>(Tot.bnd (bound_corners_Fix_1_tot _) fun _=>Tot.some):∀ v,Tot (g107.d0 g106.F v)) v)
theorem bound_Div_Fix_tot (v:g107.A):Tot (g107.F v):=Tot.of (g107.F_of v) ((fun (v0,v1,v2,v3,v4,v5,v6)=>(Tot.bnd (bound_vague_Fix_tot _) fun _=>(Tot.br (Tot.bnd (bound_None_Fix_tot _) fun _=>Tot.some) (Tot.br (Tot.bnd (bound_Neg_Fix_tot _) fun _=>(Tot.bnd (bound_Neg_Fix_tot _) fun _=>(bound_Div_Fix_tot_d0 _))) (bound_Div_Fix_tot_d0 _)))):∀ v,Tot (g107.d g90.F g74.F g103.F g107.D0 v)) v)
theorem bound_Meet_Fix_tot (v:g108.A):Tot (g108.F v):=Tot.of (g108.F_of v) ((fun (v0,v1,v2,v3,v4,v5)=>(Tot.bnd (bound_Norm_Fix_tot _) fun _=>(Tot.bnd (bound_Norm_Fix_tot _) fun _=>(Tot.br Tot.some (Tot.br Tot.some (Tot.br Tot.some (Tot.bnd (bound_Of_Fix_tot _) fun _=>Tot.some)))))):∀ v,Tot (g108.d g85.F g86.F v)) v)
theorem horizon_Height_tot (v:g109.A):Tot (g109.F v):=Tot.of (g109.F_of v) ((fun (v0,v1,v2,v3,v4,v5,v6,v7)=>(Tot.bnd (horizon_CheckSite_tot _) fun _=>(Tot.bnd (sphere_Check_tot _) fun _=>(Tot.bnd (cmp_Or_Errno_tot _ _) fun _=>(Tot.br (Tot.bnd (bound_None_Fix_tot _) fun _=>Tot.some) (Tot.bnd (sphere_Grow_tot _) fun _=>(Tot.bnd (bound_Exact_Arc_tot _) fun _=>(Tot.bnd (bound_Add_Arc_tot _) fun _=>(Tot.bnd (bound_Exact_Arc_tot _) fun _=>(Tot.bnd (trig_CosBound_tot _) fun _=>(Tot.bnd (bound_Scale_Fix_tot _) fun _=>(Tot.bnd (trig_SinBound_tot _) fun _=>(Tot.bnd (bound_Scale_Fix_tot _) fun _=>(Tot.bnd (bound_Add_Fix_tot _) fun _=>(Tot.bnd (trig_SinBound_tot _) fun _=>(Tot.bnd (bound_Scale_Fix_tot _) fun _=>(Tot.bnd (trig_CosBound_tot _) fun _=>(Tot.bnd (bound_Mul_Fix_tot _) fun _=>(Tot.bnd (bound_Add_Fix_tot _) fun _=>(Tot.bnd (bound_Exact_Fix_tot _) fun _=>(Tot.bnd (bound_Root_Fix_tot _) fun _=>(Tot.bnd (bound_Div_Fix_tot _) fun _=>(Tot.br Tot.some (Tot.bnd (bound_Of_Fix_tot _) fun _=>(Tot.bnd (bound_Meet_Fix_tot _) fun _=>Tot.some)))))))))))))))))))))))):∀ v,Tot (g109.d g73.F g34.F g20.F g74.F g75.F g69.F g71.F g88.F g97.F g99.F g100.F g96.F g89.F g102.F g107.F g86.F g108.F v)) v)
theorem window_height_tot (v:g110.A):Tot (g110.F v):=Tot.of (g110.F_of v) ((fun (v0,v1,v2,v3,v4,v5,v6,v7,v8,v9,v10,v11,v12,v13,v14,v15,v16,v17,v18,v19,v20)=>(Tot.bnd (window_when_tot _) fun _=>(Tot.bnd (scale_Sidereal_tot _) fun _=>(Tot.bnd (horizon_Height_tot _) fun _=>Tot.some))):∀ v,Tot (g110.d g48.F g72.F g109.F v)) v)
theorem window_atMost_tot (v:g111.A):Tot (g111.F v):=Tot.of (g111.F_of v) ((fun (v0,v1,v2,v3)=>Tot.some:∀ v,Tot (g111.d v)) v)
theorem window_dark_tot (v:g112.A):Tot (g112.F v):=Tot.of (g112.F_of v) ((fun (v0,v1,v2,v3,v4,v5,v6,v7,v8,v9,v10,v11,v12,v13,v14,v15,v16,v17)=>(Tot.bnd (window_height_tot _) fun _=>(Tot.bnd (window_atMost_tot _) fun _=>Tot.some)):∀ v,Tot (g112.d g110.F g111.F v)) v)
theorem big_trim_d1 (n:Nat):∀ (l:List Int) (_:l.length≤n) (_:n≤1000),Y (g116.D1 l) fun r=>r.length≤n:=by
 induction n with
 | zero=>
  intro l h1 h2
  have e:l=[]:=List.length_eq_zero_iff.mp (by omega)
  subst e
  exact Y.of (g116.D1_of _) (Y.pos (by decide) (Y.neg (by decide) (Y.some (by simp))))
 | succ n ih=>
  intro l h1 h2
  refine Y.of (g116.D1_of _) (Y.pos ?_ (Y.bif (fun k=>?_) fun _=>Y.some h1))
  ·rw [w64 (x:=(l.length:Int) - 1) (by omega) (by omega),Bool.or_eq_true]
   by_cases k:0 < (l.length:Int)
   ·exact .inr (decide_eq_true ⟨by omega,by omega⟩)
   ·exact .inl (by simp only [k]; rfl)
  ·have k1:0 < l.length:=by
    simp only [Bool.and_eq_true,decide_eq_true_eq] at k
    omega
   rw [w64 (x:=(l.length:Int) - 1) (by omega) (by omega)]
   refine Y.pd (by omega) (Y.mono (ih _ ?_ (by omega)) fun r h=>by omega)
   simp only [List.length_drop,List.length_take]
   omega
theorem big_trim_spec (l:List Int) (n:Nat) (h1:l.length≤n) (h2:n≤1000):Y (g116.F l) fun r=>r.length≤n:=by
 refine Y.of (g116.F_of _) (Y.of (g116.D0_of _) (Y.pos ?_ (Y.bif (fun k=>?_) fun _=>Y.some h1)))
 ·rw [w64 (x:=(l.length:Int) - 1) (by omega) (by omega),Bool.or_eq_true]
  by_cases k:0 < (l.length:Int)
  ·exact .inr (decide_eq_true ⟨by omega,by omega⟩)
  ·exact .inl (by simp only [k]; rfl)
 ·have k1:0 < l.length:=by
   simp only [Bool.and_eq_true,decide_eq_true_eq] at k
   omega
  rw [w64 (x:=(l.length:Int) - 1) (by omega) (by omega)]
  refine Y.pd (by omega) (Y.mono (big_trim_d1 n _ ?_ (by omega)) fun r h=>by omega)
  simp only [List.length_drop,List.length_take]
  omega
theorem big_made_spec (b:Bool) (l:List Int) (n:Nat) (h1:l.length≤n) (h2:n≤1000):Y (g117.F (b,l)) fun r=>r.2.length≤n:=Y.of (g117.F_of _) (Y.bnd _ (big_trim_spec l n h1 h2) fun r h=>Y.some h)
theorem big_Of_d0 (v):Y (g118.D0 v) fun r=>r.2.length≤2:=Y.of (g118.D0_of _) (Y.pd (by decide) (Y.bnd _ (big_made_spec _ _ 2 (by simp) (by decide)) fun r h=>Y.some h))
theorem big_Of_spec (x:Int):Y (g118.F x) fun r=>r.2.length≤2:=Y.of (g118.F_of _) (Y.bif (fun _=>big_Of_d0 _) fun _=>big_Of_d0 _)
theorem bits_Len32_d1 (v):Tot (g119.D1 v):=by
 refine Tot.of (g119.D1_of _) (Y.tot (Y.pd ?_ (Y.some trivial)))
 rw [bs0_size,wr_u8]
 omega
theorem bits_Len32_d0 (v):Tot (g119.D0 v):=Tot.of (g119.D0_of _) (Y.tot (Y.ite (fun _=>Y.pd (by decide) (Tot.y (bits_Len32_d1 _))) fun _=>Tot.y (bits_Len32_d1 _)))
theorem bits_Len32_tot (v):Tot (g119.F v):=Tot.of (g119.F_of _) (Y.tot (Y.ite (fun _=>Y.pd (by decide) (Tot.y (bits_Len32_d0 _))) fun _=>Tot.y (bits_Len32_d0 _)))
theorem big_Bits_tot (b:Bool) (l:List Int) (h:l.length≤1000):Tot (g120.F (b,l)):=by
 refine Tot.of (g120.F_of _) (Y.tot (Y.ite (fun _=>Y.some trivial) fun k=>Y.pd ?_ (Tot.y (Tot.bnd (bits_Len32_tot _) fun _=>Tot.some))))
 rw [w64 (by omega) (by omega)]
 omega
theorem big_limited_spec (b:Bool) (l:List Int) (n:Nat) (h1:l.length≤n) (h2:n≤1000):Y (g121.F (b,l)) fun r=>r.2.2.length≤n:=
 Y.of (g121.F_of _) (Y.bnd _ (big_made_spec b l n h1 h2) fun r h=>Y.bnd _ (Tot.y (big_Bits_tot _ _ (by omega))) fun _ _=>Y.bif (fun _=>Y.some (Nat.zero_le _)) fun _=>Y.some h)
theorem big_Mul_d1 (Q:g122.R→Prop) (b:List Int) (i:Nat) (a a2 z:List Int) (na nb f:Bool) (N:Nat) (hN:i + b.length < N) (h2:N≤1000)
  (h:∀ out:List Int,out.length=N→Y (g122.D0 (a,(a.length:Int),((i + 1:Nat):Int),na,a2,nb,b,f,out,z)) Q) (n:Nat):∀ (j:Nat) (_:j + n=b.length) (x c:Int) (out:List Int) (_:out.length=N),Y (g122.D1 ((i:Int),x,c,a,(a.length:Int),(i:Int),b,(b.length:Int),(j:Int),na,a2,nb,b,f,out,z)) Q:=by
 induction n with
 | zero=>
  intro j e x c out ho
  refine Y.of (g122.D1_of _) (Y.nd (by omega) (Y.pd ?_ ?_))
  ·rw [w64 (by omega) (by omega)]
   omega
  ·rw [w64 (x:=(i:Int) + 1) (by omega) (by omega)]
   exact h _ (by rw [List.length_set]; exact ho)
 | succ n ih=>
  intro j e x c out ho
  have k:0≤wrap .i64 ((i:Int) + (j:Int))∧wrap .i64 ((i:Int) + (j:Int)) < (out.length:Int):=by
   rw [w64 (by omega) (by omega)]
   omega
  refine Y.of (g122.D1_of _) (Y.pd (by omega) (Y.pd (by omega) (Y.pd k (Y.pd k (Y.pd (by decide) ?_)))))
  rw [w64 (x:=(j:Int) + 1) (by omega) (by omega)]
  exact ih (j + 1) (by omega) _ _ _ (by rw [List.length_set]; exact ho)
theorem big_Mul_d0 (b a a2 z:List Int) (na nb f:Bool) (N:Nat) (hN:a.length + b.length=N) (h2:N≤1000) (n:Nat):∀ (i:Nat) (_:i + n=a.length) (out:List Int) (_:out.length=N),Y (g122.D0 (a,(a.length:Int),(i:Int),na,a2,nb,b,f,out,z)) fun r=>r.2.2.length≤N:=by
 induction n with
 | zero=>
  intro i e out ho
  exact Y.of (g122.D0_of _) (Y.nd (by omega) (Y.bnd _ (big_limited_spec _ _ N (by omega) h2) fun r h=>Y.some h))
 | succ n ih=>
  intro i e out ho
  exact Y.of (g122.D0_of _) (Y.pd (by omega) (Y.pd (by omega) (big_Mul_d1 _ b i a a2 z na nb f N (by omega) h2 (fun out ho=>ih (i + 1) (by omega) out ho) b.length 0 (by omega) _ _ out ho)))
theorem big_Mul_spec (na nb:Bool) (a b:List Int) (N:Nat) (h1:a.length + b.length≤N) (h2:N≤1000):Y (g122.F (na,a,nb,b)) fun r=>r.2.2.length≤N:=by
 have e:wrap .i64 ((a.length:Int) + (b.length:Int))=(a.length:Int) + (b.length:Int):=w64 (by omega) (by omega)
 refine Y.of (g122.F_of _) (Y.bnd _ (Tot.y (big_Bits_tot _ _ (by omega))) fun _ _=>Y.bnd _ (Tot.y (big_Bits_tot _ _ (by omega))) fun _ _=>Y.bif (fun _=>Y.some (Nat.zero_le _)) fun _=>Y.pd (by rw [e]; omega) ?_)
 rw [e]
 exact Y.mono (big_Mul_d0 b a a [] na nb false _ rfl (by omega) a.length 0 (by omega) _ (by rw [List.length_replicate]; omega)) fun r h=>by omega
theorem sphere_mul_spec (na nb:Bool) (a b:List Int) (N:Nat) (h1:a.length + b.length≤N) (h2:N≤1000):Y (g123.F (na,a,nb,b)) fun r=>r.2.length≤N:=Y.of (g123.F_of _) (Y.bnd _ (big_Mul_spec na nb a b N h1 h2) fun r h=>Y.some h)
theorem sphere_square_spec (x:Int):Y (g125.F x) fun r=>r.2.length≤4:=Y.of (g125.F_of _) (Y.bnd _ (big_Of_spec _) fun r h=>Y.bnd _ (big_Of_spec _) fun r1 h1=>Y.bnd _ (sphere_mul_spec _ _ _ _ 4 (by omega) (by decide)) fun r h=>Y.some h)
theorem big_Sign_tot (v:g126.A):Tot (g126.F v):=Tot.of (g126.F_of v) ((fun (v0,v1)=>(Tot.br Tot.some (Tot.br Tot.some Tot.some)):∀ v,Tot (g126.d v)) v)
theorem cmp_isNaN_int_tot (v:g127.A):Tot (g127.F v):=Tot.of (g127.F_of v) ((fun v0=>Tot.some:∀ v,Tot (g127.d v)) v)
theorem cmp_Compare_int_tot (v:g128.A):Tot (g128.F v):=Tot.of (g128.F_of v) ((fun (v0,v1)=>(Tot.bnd (cmp_isNaN_int_tot _) fun _=>(Tot.bnd (cmp_isNaN_int_tot _) fun _=>(Tot.br (Tot.br Tot.some Tot.some) (Tot.br Tot.some (Tot.br Tot.some (Tot.br Tot.some Tot.some)))))):∀ v,Tot (g128.d g127.F v)) v)
theorem cmp_isNaN_uint32_tot (v:g129.A):Tot (g129.F v):=Tot.of (g129.F_of v) ((fun v0=>Tot.some:∀ v,Tot (g129.d v)) v)
theorem cmp_Compare_uint32_tot (v:g130.A):Tot (g130.F v):=Tot.of (g130.F_of v) ((fun (v0,v1)=>(Tot.bnd (cmp_isNaN_uint32_tot _) fun _=>(Tot.bnd (cmp_isNaN_uint32_tot _) fun _=>(Tot.br (Tot.br Tot.some Tot.some) (Tot.br Tot.some (Tot.br Tot.some (Tot.br Tot.some Tot.some)))))):∀ v,Tot (g130.d g129.F v)) v)
theorem big_cmpMag_d0 (a b:List Int) (h:a.length=b.length) (h1:a.length≤1000) (n:Nat):∀ (j:Int) (_:j + 1=n) (_:j < a.length),Tot (g131.D0 (a,b,j)):=by
 induction n with
 | zero=>exact fun j e _=>Tot.of (g131.D0_of _) (Y.tot (Y.nd (by omega) (Y.some trivial)))
 | succ n ih=>
  intro j e e1
  refine Tot.of (g131.D0_of _) (Y.tot (Y.pd (by omega) (Y.pd (by omega) (Y.pd (by omega) (Y.bif (fun _=>Y.pd (by omega) (Y.pd (by omega) (Tot.y (Tot.bnd (cmp_Compare_uint32_tot _) fun _=>Tot.some)))) fun _=>Tot.y ?_)))))
  rw [w64 (x:=j - 1) (by omega) (by omega)]
  exact ih _ (by omega) (by omega)
theorem big_cmpMag_tot (a b:List Int) (h1:a.length≤1000):Tot (g131.F (a,b)):=by
 refine Tot.of (g131.F_of _) (Y.tot (Y.nite (fun _=>Tot.y (Tot.bnd (cmp_Compare_int_tot _) fun _=>Tot.some)) fun k=>Tot.y ?_))
 rw [w64 (x:=(a.length:Int) - 1) (by omega) (by omega)]
 exact big_cmpMag_d0 a b (by omega) h1 a.length _ (by omega) (by omega)
theorem big_Cmp_tot (x:Bool) (a:List Int) (y:Bool) (b:List Int) (h1:a.length≤1000) (h2:b.length≤1000):Tot (g132.F (x,a,y,b)):=Tot.of (g132.F_of _) (Tot.br (Tot.bnd (big_Sign_tot _) fun _=>Tot.bnd (big_Sign_tot _) fun _=>Tot.bnd (cmp_Compare_int_tot _) fun _=>Tot.some) (Tot.br (Tot.bnd (big_cmpMag_tot _ _ h2) fun _=>Tot.some) (Tot.bnd (big_cmpMag_tot _ _ h1) fun _=>Tot.some)))
theorem sphere_both_tot (v:g114.A):Tot (g114.F v):=Tot.of (g114.F_of v) ((fun (v0,v1,v2,v3,v4,v5)=>(Tot.bnd (sphere_Check_tot _) fun _=>(Tot.br (Tot.bnd (sphere_Check_tot _) fun _=>Tot.some) Tot.some)):∀ v,Tot (g114.d g34.F v)) v)
theorem sphere_dot_tot (v:g115.A):Tot (g115.F v):=Tot.of (g115.F_of v) ((fun (v0,v1,v2,v3,v4,v5)=>Tot.some:∀ v,Tot (g115.d v)) v)
theorem sphere_norms_spec (v):Y (g124.F v) fun r=>r.2.length≤4:=Y.of (g124.F_of _) (Y.bnd _ (Tot.y (sphere_dot_tot _)) fun _ _=>Y.bnd _ (big_Of_spec _) fun r h=>Y.bnd _ (Tot.y (sphere_dot_tot _)) fun _ _=>Y.bnd _ (big_Of_spec _) fun r1 h1=>Y.bnd _ (sphere_mul_spec _ _ _ _ 4 (by omega) (by decide)) fun r h=>Y.some h)
theorem sphere_Cosine_d2 (v):Tot (g133.D2 v):=Tot.of (g133.D2_of _) Tot.some
theorem sphere_Cosine_d1 (v):Tot (g133.D1 v):=Tot.of (g133.D1_of _) (Tot.br (sphere_Cosine_d2 _) (sphere_Cosine_d2 _))
theorem sphere_Cosine_d0 (n:Nat):∀ (a b c d e:Int) (f g h:Bool) (p q:List Int) (_:p.length≤4) (_:q.length≤8) (_:0≤b∧b≤c∧c≤1099511627776) (_:c - b≤n),Tot (g133.D0 (a,b,c,d,e,f,g,h,p,q)):=by
 have fin (x:Int) (g h:Bool) (p q:List Int) (hp:p.length≤4) (hq:q.length≤8) (k:Int→Option g133.R) (hk:∀ x,Tot (k x)):Tot (bnd (g125.F x) fun r=>bnd (g123.F (r.1,r.2,g,p)) fun r=>bnd (g132.F (r.1,r.2,h,q)) k):=
  Y.tot (Y.bnd _ (sphere_square_spec _) fun r hr=>Y.bnd _ (sphere_mul_spec _ _ _ _ 8 (by omega) (by decide)) fun r1 h1=>Tot.y (Tot.bnd (big_Cmp_tot _ _ _ _ (by omega) (by omega)) fun _=>hk _))
 induction n with
 | zero=>
  intro a b c d e f g h p q hp hq h1 h2
  refine Tot.of (g133.D0_of _) (Y.tot (Y.nd (by rw [w64 (by omega) (by omega)]; omega) (Tot.y ?_)))
  exact fin _ _ _ _ _ hp hq _ fun _=>Tot.br (sphere_Cosine_d1 _) (sphere_Cosine_d1 _)
 | succ n ih=>
  intro a b c d e f g h p q hp hq h1 h2
  refine Tot.of (g133.D0_of _) (Y.tot (Y.ite (fun k=>Y.nn (by decide) (Tot.y ?_)) fun _=>Tot.y ?_))
  ·rw [w64 (x:=c - b) (by omega) (by omega)] at k
   have em:wrap .i64 ((wrap .i64 (b + c)).tdiv 2)=(b + c) / 2:=by
    rw [w64 (x:=b + c) (by omega) (by omega),Int.tdiv_eq_ediv_of_nonneg (by omega),w64 (by omega) (by omega)]
   refine fin _ _ _ _ _ hp hq _ fun _=>Tot.br ?_ ?_
   ·rw [em]
    exact ih _ _ _ _ _ _ _ _ _ _ hp hq (by omega) (by omega)
   ·rw [em]
    exact ih _ _ _ _ _ _ _ _ _ _ hp hq (by omega) (by omega)
  ·exact fin _ _ _ _ _ hp hq _ fun _=>Tot.br (sphere_Cosine_d1 _) (sphere_Cosine_d1 _)
theorem sphere_Cosine_tot (v:g133.A):Tot (g133.F v):=by
 obtain ⟨a,b,c,d,e,f⟩:=v
 exact Tot.of (g133.F_of _) (Tot.bnd (sphere_both_tot _) fun r=>Tot.br Tot.some (Tot.bnd (sphere_dot_tot _) fun r=>Y.tot (Y.bnd _ (sphere_norms_spec _) fun r1 h1=>Y.bnd _ (sphere_square_spec _) fun r2 h2=>Y.bnd _ (sphere_square_spec _) fun r3 h3=>Y.bnd _ (sphere_mul_spec _ _ _ _ 8 (by omega) (by decide)) fun r4 h4=>Tot.y (sphere_Cosine_d0 1073741825 _ _ _ _ _ _ _ _ _ _ h1 h4 (by decide) (by decide)))))
end Go.Proofs.RPn
namespace Go.Proofs.RPn
open Go Go.Eng
set_option linter.unusedVariables false
set_option maxRecDepth 100000
abbrev Ev {α ρ:Type} (D F:α→Option ρ):Prop:=∀ v,Cn now (D v) fun _=>F v
def rc {X:Type} (z:X) (s:Nat→X→X) (k:Nat):X:=Nat.rec (motive:=fun _=>X) z s k
theorem rp {P:Nat→Prop} (z:P 0) (s:∀ k,P k→P (k + 1)):∀ k,P k:=fun k=>Nat.rec z s k
abbrev nn {α ρ:Type}:α→Option ρ:=fun _=>none
theorem n0 {α ρ:Type} {F:α→Option ρ}:Ev nn F:=fun _=>.none
theorem of {α ρ:Type} {D G F:α→Option ρ} (h:∀ v,Cn now (D v) fun _=>G v) (g:∀ v {r:ρ},G v=some r→F v=some r):Ev D F:=fun v r q=>g v (h v r q)
namespace g13
noncomputable def ev (k:Nat):(A→Option R):=rc nn (fun k e=>d) k
theorem ev_ok:∀ k,Ev (ev k) F:=rp n0 (fun k h=>(of (d_cn) F_of))
end g13
namespace g14
noncomputable def ev (k:Nat):(A→Option R)×(T0→Option R):=rc (nn,nn) (fun k e=>(d (g13.ev k) (e.2),d0 (e.2))) k
theorem ev_ok:∀ k,Ev (ev k).1 F∧Ev (ev k).2 D0:=rp ⟨n0,n0⟩ (fun k h=>⟨(of (d_cn (.mk ((g13.ev_ok k))) (.mk (h.2))) F_of),(of (d0_cn (.mk (h.2))) D0_of)⟩)
end g14
namespace g15
noncomputable def ev (k:Nat):(A→Option R):=rc nn (fun k e=>d (g14.ev k).1) k
theorem ev_ok:∀ k,Ev (ev k) F:=rp n0 (fun k h=>(of (d_cn (.mk ((g14.ev_ok k).1))) F_of))
theorem ev_is {k:Nat} {v:A} {r:R} (h:(ev k) v=some r):F v=some r:=(ev_ok k) v r h
end g15
namespace g16
noncomputable def ev (k:Nat):(A→Option R)×(T0→Option R):=rc (nn,nn) (fun k e=>(d (e.2),d0)) k
theorem ev_ok:∀ k,Ev (ev k).1 F∧Ev (ev k).2 D0:=rp ⟨n0,n0⟩ (fun k h=>⟨(of (d_cn (.mk (h.2))) F_of),(of (d0_cn) D0_of)⟩)
end g16
namespace g17
noncomputable def ev (k:Nat):(A→Option R):=rc nn (fun k e=>d (g15.ev k) (g16.ev k).1) k
theorem ev_ok:∀ k,Ev (ev k) F:=rp n0 (fun k h=>(of (d_cn (.mk ((g15.ev_ok k))) (.mk ((g16.ev_ok k).1))) F_of))
end g17
namespace g18
noncomputable def ev (k:Nat):(A→Option R):=rc nn (fun k e=>d (g17.ev k)) k
theorem ev_ok:∀ k,Ev (ev k) F:=rp n0 (fun k h=>(of (d_cn (.mk ((g17.ev_ok k)))) F_of))
theorem ev_is {k:Nat} {v:A} {r:R} (h:(ev k) v=some r):F v=some r:=(ev_ok k) v r h
end g18
namespace g20
noncomputable def ev (k:Nat):(A→Option R)×(T0→Option R):=rc (nn,nn) (fun k e=>(d (e.2),d0 (e.2))) k
theorem ev_ok:∀ k,Ev (ev k).1 F∧Ev (ev k).2 D0:=rp ⟨n0,n0⟩ (fun k h=>⟨(of (d_cn (.mk (h.2))) F_of),(of (d0_cn (.mk (h.2))) D0_of)⟩)
end g20
namespace g21
noncomputable def ev (k:Nat):(A→Option R):=rc nn (fun k e=>d (g15.ev k) (g20.ev k).1) k
theorem ev_ok:∀ k,Ev (ev k) F:=rp n0 (fun k h=>(of (d_cn (.mk ((g15.ev_ok k))) (.mk ((g20.ev_ok k).1))) F_of))
end g21
namespace g22
noncomputable def ev (k:Nat):(A→Option R):=rc nn (fun k e=>d) k
theorem ev_ok:∀ k,Ev (ev k) F:=rp n0 (fun k h=>(of (d_cn) F_of))
end g22
namespace g23
noncomputable def ev (k:Nat):(A→Option R):=rc nn (fun k e=>d) k
theorem ev_ok:∀ k,Ev (ev k) F:=rp n0 (fun k h=>(of (d_cn) F_of))
end g23
namespace g24
noncomputable def ev (k:Nat):(A→Option R):=rc nn (fun k e=>d (g23.ev k)) k
theorem ev_ok:∀ k,Ev (ev k) F:=rp n0 (fun k h=>(of (d_cn (.mk ((g23.ev_ok k)))) F_of))
end g24
namespace g25
noncomputable def ev (k:Nat):(A→Option R):=rc nn (fun k e=>d (g13.ev k) (g22.ev k) (g24.ev k)) k
theorem ev_ok:∀ k,Ev (ev k) F:=rp n0 (fun k h=>(of (d_cn (.mk ((g13.ev_ok k))) (.mk ((g22.ev_ok k))) (.mk ((g24.ev_ok k)))) F_of))
end g25
namespace g26
noncomputable def ev (k:Nat):(A→Option R):=rc nn (fun k e=>d) k
theorem ev_ok:∀ k,Ev (ev k) F:=rp n0 (fun k h=>(of (d_cn) F_of))
end g26
namespace g27
noncomputable def ev (k:Nat):(A→Option R):=rc nn (fun k e=>d (g26.ev k)) k
theorem ev_ok:∀ k,Ev (ev k) F:=rp n0 (fun k h=>(of (d_cn (.mk ((g26.ev_ok k)))) F_of))
end g27
namespace g28
noncomputable def ev (k:Nat):(A→Option R):=rc nn (fun k e=>d) k
theorem ev_ok:∀ k,Ev (ev k) F:=rp n0 (fun k h=>(of (d_cn) F_of))
end g28
namespace g29
noncomputable def ev (k:Nat):(A→Option R):=rc nn (fun k e=>d (g28.ev k)) k
theorem ev_ok:∀ k,Ev (ev k) F:=rp n0 (fun k h=>(of (d_cn (.mk ((g28.ev_ok k)))) F_of))
end g29
namespace g30
noncomputable def ev (k:Nat):(A→Option R)×(T0→Option R):=rc (nn,nn) (fun k e=>(d (e.2),d0 (e.2))) k
theorem ev_ok:∀ k,Ev (ev k).1 F∧Ev (ev k).2 D0:=rp ⟨n0,n0⟩ (fun k h=>⟨(of (d_cn (.mk (h.2))) F_of),(of (d0_cn (.mk (h.2))) D0_of)⟩)
end g30
namespace g31
noncomputable def ev (k:Nat):(A→Option R):=rc nn (fun k e=>d (g27.ev k) (g29.ev k) (g30.ev k).1) k
theorem ev_ok:∀ k,Ev (ev k) F:=rp n0 (fun k h=>(of (d_cn (.mk ((g27.ev_ok k))) (.mk ((g29.ev_ok k))) (.mk ((g30.ev_ok k).1))) F_of))
end g31
namespace g32
noncomputable def ev (k:Nat):(A→Option R):=rc nn (fun k e=>d (g21.ev k) (g25.ev k) (g31.ev k)) k
theorem ev_ok:∀ k,Ev (ev k) F:=rp n0 (fun k h=>(of (d_cn (.mk ((g21.ev_ok k))) (.mk ((g25.ev_ok k))) (.mk ((g31.ev_ok k)))) F_of))
theorem ev_is {k:Nat} {v:A} {r:R} (h:(ev k) v=some r):F v=some r:=(ev_ok k) v r h
end g32
namespace g11
noncomputable def ev (k:Nat):(A→Option R):=rc nn (fun k e=>d) k
theorem ev_ok:∀ k,Ev (ev k) F:=rp n0 (fun k h=>(of (d_cn) F_of))
end g11
namespace g48
noncomputable def ev (k:Nat):(A→Option R):=rc nn (fun k e=>d) k
theorem ev_ok:∀ k,Ev (ev k) F:=rp n0 (fun k h=>(of (d_cn) F_of))
end g48
namespace g49
noncomputable def ev (k:Nat):(A→Option R):=rc nn (fun k e=>d) k
theorem ev_ok:∀ k,Ev (ev k) F:=rp n0 (fun k h=>(of (d_cn) F_of))
end g49
namespace g50
noncomputable def ev (k:Nat):(A→Option R):=rc nn (fun k e=>d) k
theorem ev_ok:∀ k,Ev (ev k) F:=rp n0 (fun k h=>(of (d_cn) F_of))
end g50
namespace g51
noncomputable def ev (k:Nat):(A→Option R):=rc nn (fun k e=>d (g49.ev k) (g50.ev k)) k
theorem ev_ok:∀ k,Ev (ev k) F:=rp n0 (fun k h=>(of (d_cn (.mk ((g49.ev_ok k))) (.mk ((g50.ev_ok k)))) F_of))
end g51
namespace g52
noncomputable def ev (k:Nat):(A→Option R):=rc nn (fun k e=>d (g51.ev k)) k
theorem ev_ok:∀ k,Ev (ev k) F:=rp n0 (fun k h=>(of (d_cn (.mk ((g51.ev_ok k)))) F_of))
end g52
namespace g53
noncomputable def ev (k:Nat):(A→Option R):=rc nn (fun k e=>d (g52.ev k)) k
theorem ev_ok:∀ k,Ev (ev k) F:=rp n0 (fun k h=>(of (d_cn (.mk ((g52.ev_ok k)))) F_of))
end g53
namespace g54
noncomputable def ev (k:Nat):(A→Option R):=rc nn (fun k e=>d (g51.ev k)) k
theorem ev_ok:∀ k,Ev (ev k) F:=rp n0 (fun k h=>(of (d_cn (.mk ((g51.ev_ok k)))) F_of))
end g54
namespace g55
noncomputable def ev (k:Nat):(A→Option R):=rc nn (fun k e=>d (g51.ev k)) k
theorem ev_ok:∀ k,Ev (ev k) F:=rp n0 (fun k h=>(of (d_cn (.mk ((g51.ev_ok k)))) F_of))
end g55
namespace g56
noncomputable def ev (k:Nat):(A→Option R):=rc nn (fun k e=>d (g55.ev k) (g50.ev k) (g52.ev k)) k
theorem ev_ok:∀ k,Ev (ev k) F:=rp n0 (fun k h=>(of (d_cn (.mk ((g55.ev_ok k))) (.mk ((g50.ev_ok k))) (.mk ((g52.ev_ok k)))) F_of))
end g56
namespace g57
noncomputable def ev (k:Nat):(A→Option R):=rc nn (fun k e=>d (g54.ev k) (g56.ev k)) k
theorem ev_ok:∀ k,Ev (ev k) F:=rp n0 (fun k h=>(of (d_cn (.mk ((g54.ev_ok k))) (.mk ((g56.ev_ok k)))) F_of))
end g57
namespace g19
noncomputable def ev (k:Nat):(A→Option R):=rc nn (fun k e=>d (g15.ev k) (g18.ev k)) k
theorem ev_ok:∀ k,Ev (ev k) F:=rp n0 (fun k h=>(of (d_cn (.mk ((g15.ev_ok k))) (.mk ((g18.ev_ok k)))) F_of))
end g19
namespace g58
noncomputable def ev (k:Nat):(A→Option R):=rc nn (fun k e=>d) k
theorem ev_ok:∀ k,Ev (ev k) F:=rp n0 (fun k h=>(of (d_cn) F_of))
end g58
namespace g59
noncomputable def ev (k:Nat):(A→Option R)×(T0→Option R)×(T1→Option R)×(T2→Option R):=rc (nn,nn,nn,nn) (fun k e=>(d (e.2.1),d0 (e.2.2.1),d1 (e.2.2.2),d2)) k
theorem ev_ok:∀ k,Ev (ev k).1 F∧Ev (ev k).2.1 D0∧Ev (ev k).2.2.1 D1∧Ev (ev k).2.2.2 D2:=rp ⟨n0,n0,n0,n0⟩ (fun k h=>⟨(of (d_cn (.mk (h.2.1))) F_of),(of (d0_cn (.mk (h.2.2.1))) D0_of),(of (d1_cn (.mk (h.2.2.2))) D1_of),(of (d2_cn) D2_of)⟩)
end g59
namespace g60
noncomputable def ev (k:Nat):(A→Option R):=rc nn (fun k e=>d (g59.ev k).1) k
theorem ev_ok:∀ k,Ev (ev k) F:=rp n0 (fun k h=>(of (d_cn (.mk ((g59.ev_ok k).1))) F_of))
end g60
namespace g61
noncomputable def ev (k:Nat):(A→Option R)×(T0→Option R)×(T1→Option R)×(T2→Option R)×(T3→Option R):=rc (nn,nn,nn,nn,nn) (fun k e=>(d (g60.ev k) (e.2.1),d0 (e.2.2.1) (e.2.1),d1 (e.2.2.2.1),d2 (e.2.2.2.2) (e.2.2.2.1),d3)) k
theorem ev_ok:∀ k,Ev (ev k).1 F∧Ev (ev k).2.1 D0∧Ev (ev k).2.2.1 D1∧Ev (ev k).2.2.2.1 D2∧Ev (ev k).2.2.2.2 D3:=rp ⟨n0,n0,n0,n0,n0⟩ (fun k h=>⟨(of (d_cn (.mk ((g60.ev_ok k))) (.mk (h.2.1))) F_of),(of (d0_cn (.mk (h.2.2.1)) (.mk (h.2.1))) D0_of),(of (d1_cn (.mk (h.2.2.2.1))) D1_of),(of (d2_cn (.mk (h.2.2.2.2)) (.mk (h.2.2.2.1))) D2_of),(of (d3_cn) D3_of)⟩)
end g61
namespace g62
noncomputable def ev (k:Nat):(A→Option R)×(T0→Option R)×(T1→Option R):=rc (nn,nn,nn) (fun k e=>(d (g24.ev k) (e.2.1),d0 (g61.ev k).1 (e.2.2),d1)) k
theorem ev_ok:∀ k,Ev (ev k).1 F∧Ev (ev k).2.1 D0∧Ev (ev k).2.2 D1:=rp ⟨n0,n0,n0⟩ (fun k h=>⟨(of (d_cn (.mk ((g24.ev_ok k))) (.mk (h.2.1))) F_of),(of (d0_cn (.mk ((g61.ev_ok k).1)) (.mk (h.2.2))) D0_of),(of (d1_cn) D1_of)⟩)
end g62
namespace g63
noncomputable def ev (k:Nat):(A→Option R):=rc nn (fun k e=>d (g25.ev k) (g62.ev k).1) k
theorem ev_ok:∀ k,Ev (ev k) F:=rp n0 (fun k h=>(of (d_cn (.mk ((g25.ev_ok k))) (.mk ((g62.ev_ok k).1))) F_of))
end g63
namespace g64
noncomputable def ev (k:Nat):(A→Option R)×(T0→Option R)×(T1→Option R):=rc (nn,nn,nn) (fun k e=>(d (g24.ev k) (e.2.1),d0 (g61.ev k).1 (e.2.2),d1)) k
theorem ev_ok:∀ k,Ev (ev k).1 F∧Ev (ev k).2.1 D0∧Ev (ev k).2.2 D1:=rp ⟨n0,n0,n0⟩ (fun k h=>⟨(of (d_cn (.mk ((g24.ev_ok k))) (.mk (h.2.1))) F_of),(of (d0_cn (.mk ((g61.ev_ok k).1)) (.mk (h.2.2))) D0_of),(of (d1_cn) D1_of)⟩)
end g64
namespace g65
noncomputable def ev (k:Nat):(A→Option R):=rc nn (fun k e=>d (g25.ev k) (g62.ev k).1 (g64.ev k).1) k
theorem ev_ok:∀ k,Ev (ev k) F:=rp n0 (fun k h=>(of (d_cn (.mk ((g25.ev_ok k))) (.mk ((g62.ev_ok k).1)) (.mk ((g64.ev_ok k).1))) F_of))
end g65
namespace g66
noncomputable def ev (k:Nat):(A→Option R):=rc nn (fun k e=>d) k
theorem ev_ok:∀ k,Ev (ev k) F:=rp n0 (fun k h=>(of (d_cn) F_of))
end g66
namespace g67
noncomputable def ev (k:Nat):(A→Option R):=rc nn (fun k e=>d (g66.ev k) (g58.ev k)) k
theorem ev_ok:∀ k,Ev (ev k) F:=rp n0 (fun k h=>(of (d_cn (.mk ((g66.ev_ok k))) (.mk ((g58.ev_ok k)))) F_of))
end g67
namespace g68
noncomputable def ev (k:Nat):(A→Option R):=rc nn (fun k e=>d (g67.ev k)) k
theorem ev_ok:∀ k,Ev (ev k) F:=rp n0 (fun k h=>(of (d_cn (.mk ((g67.ev_ok k)))) F_of))
end g68
namespace g69
noncomputable def ev (k:Nat):(A→Option R):=rc nn (fun k e=>d (g68.ev k)) k
theorem ev_ok:∀ k,Ev (ev k) F:=rp n0 (fun k h=>(of (d_cn (.mk ((g68.ev_ok k)))) F_of))
end g69
namespace g70
noncomputable def ev (k:Nat):(A→Option R):=rc nn (fun k e=>d (g67.ev k)) k
theorem ev_ok:∀ k,Ev (ev k) F:=rp n0 (fun k h=>(of (d_cn (.mk ((g67.ev_ok k)))) F_of))
end g70
namespace g71
noncomputable def ev (k:Nat):(A→Option R):=rc nn (fun k e=>d (g70.ev k) (g58.ev k) (g68.ev k)) k
theorem ev_ok:∀ k,Ev (ev k) F:=rp n0 (fun k h=>(of (d_cn (.mk ((g70.ev_ok k))) (.mk ((g58.ev_ok k))) (.mk ((g68.ev_ok k)))) F_of))
end g71
namespace g72
noncomputable def ev (k:Nat):(A→Option R):=rc nn (fun k e=>d (g53.ev k) (g57.ev k) (g19.ev k) (g58.ev k) (g63.ev k) (g65.ev k) (g68.ev k) (g69.ev k) (g71.ev k)) k
theorem ev_ok:∀ k,Ev (ev k) F:=rp n0 (fun k h=>(of (d_cn (.mk ((g53.ev_ok k))) (.mk ((g57.ev_ok k))) (.mk ((g19.ev_ok k))) (.mk ((g58.ev_ok k))) (.mk ((g63.ev_ok k))) (.mk ((g65.ev_ok k))) (.mk ((g68.ev_ok k))) (.mk ((g69.ev_ok k))) (.mk ((g71.ev_ok k)))) F_of))
end g72
namespace g73
noncomputable def ev (k:Nat):(A→Option R):=rc nn (fun k e=>d) k
theorem ev_ok:∀ k,Ev (ev k) F:=rp n0 (fun k h=>(of (d_cn) F_of))
end g73
namespace g34
noncomputable def ev (k:Nat):(A→Option R):=rc nn (fun k e=>d) k
theorem ev_ok:∀ k,Ev (ev k) F:=rp n0 (fun k h=>(of (d_cn) F_of))
end g34
namespace g74
noncomputable def ev (k:Nat):(A→Option R):=rc nn (fun k e=>d) k
theorem ev_ok:∀ k,Ev (ev k) F:=rp n0 (fun k h=>(of (d_cn) F_of))
end g74
namespace g75
noncomputable def ev (k:Nat):(A→Option R)×(T0→Option R):=rc (nn,nn) (fun k e=>(d (g34.ev k) (e.2),d0 (g34.ev k) (e.2))) k
theorem ev_ok:∀ k,Ev (ev k).1 F∧Ev (ev k).2 D0:=rp ⟨n0,n0⟩ (fun k h=>⟨(of (d_cn (.mk ((g34.ev_ok k))) (.mk (h.2))) F_of),(of (d0_cn (.mk ((g34.ev_ok k))) (.mk (h.2))) D0_of)⟩)
end g75
namespace g82
noncomputable def ev (k:Nat):(A→Option R)×(T0→Option R):=rc (nn,nn) (fun k e=>(d (e.2),d0)) k
theorem ev_ok:∀ k,Ev (ev k).1 F∧Ev (ev k).2 D0:=rp ⟨n0,n0⟩ (fun k h=>⟨(of (d_cn (.mk (h.2))) F_of),(of (d0_cn) D0_of)⟩)
end g82
namespace g83
noncomputable def ev (k:Nat):(A→Option R):=rc nn (fun k e=>d (g82.ev k).1 (g16.ev k).1) k
theorem ev_ok:∀ k,Ev (ev k) F:=rp n0 (fun k h=>(of (d_cn (.mk ((g82.ev_ok k).1)) (.mk ((g16.ev_ok k).1))) F_of))
end g83
namespace g84
noncomputable def ev (k:Nat):(A→Option R):=rc nn (fun k e=>d) k
theorem ev_ok:∀ k,Ev (ev k) F:=rp n0 (fun k h=>(of (d_cn) F_of))
end g84
namespace g85
noncomputable def ev (k:Nat):(A→Option R):=rc nn (fun k e=>d (g84.ev k) (g74.ev k)) k
theorem ev_ok:∀ k,Ev (ev k) F:=rp n0 (fun k h=>(of (d_cn (.mk ((g84.ev_ok k))) (.mk ((g74.ev_ok k)))) F_of))
end g85
namespace g86
noncomputable def ev (k:Nat):(A→Option R):=rc nn (fun k e=>d (g85.ev k)) k
theorem ev_ok:∀ k,Ev (ev k) F:=rp n0 (fun k h=>(of (d_cn (.mk ((g85.ev_ok k)))) F_of))
end g86
namespace g76
noncomputable def ev (k:Nat):(A→Option R):=rc nn (fun k e=>d (g63.ev k)) k
theorem ev_ok:∀ k,Ev (ev k) F:=rp n0 (fun k h=>(of (d_cn (.mk ((g63.ev_ok k)))) F_of))
end g76
namespace g77
noncomputable def ev (k:Nat):(A→Option R)×(T0→Option R):=rc (nn,nn) (fun k e=>(d (e.2),d0 (g76.ev k) (e.2))) k
theorem ev_ok:∀ k,Ev (ev k).1 F∧Ev (ev k).2 D0:=rp ⟨n0,n0⟩ (fun k h=>⟨(of (d_cn (.mk (h.2))) F_of),(of (d0_cn (.mk ((g76.ev_ok k))) (.mk (h.2))) D0_of)⟩)
end g77
namespace g78
noncomputable def ev (k:Nat):(A→Option R)×(T0→Option R):=rc (nn,nn) (fun k e=>(d (e.2),d0)) k
theorem ev_ok:∀ k,Ev (ev k).1 F∧Ev (ev k).2 D0:=rp ⟨n0,n0⟩ (fun k h=>⟨(of (d_cn (.mk (h.2))) F_of),(of (d0_cn) D0_of)⟩)
end g78
namespace g79
noncomputable def ev (k:Nat):(A→Option R)×(T0→Option R):=rc (nn,nn) (fun k e=>(d (e.2),d0 (g63.ev k) (g76.ev k) (g77.ev k).1 (g78.ev k).1)) k
theorem ev_ok:∀ k,Ev (ev k).1 F∧Ev (ev k).2 D0:=rp ⟨n0,n0⟩ (fun k h=>⟨(of (d_cn (.mk (h.2))) F_of),(of (d0_cn (.mk ((g63.ev_ok k))) (.mk ((g76.ev_ok k))) (.mk ((g77.ev_ok k).1)) (.mk ((g78.ev_ok k).1))) D0_of)⟩)
end g79
namespace g80
noncomputable def ev (k:Nat):(A→Option R):=rc nn (fun k e=>d (g79.ev k).1) k
theorem ev_ok:∀ k,Ev (ev k) F:=rp n0 (fun k h=>(of (d_cn (.mk ((g79.ev_ok k).1))) F_of))
end g80
namespace g81
noncomputable def ev (k:Nat):(A→Option R):=rc nn (fun k e=>d (g80.ev k)) k
theorem ev_ok:∀ k,Ev (ev k) F:=rp n0 (fun k h=>(of (d_cn (.mk ((g80.ev_ok k)))) F_of))
end g81
namespace g87
noncomputable def ev (k:Nat):(A→Option R)×(T0→Option R)×(T1→Option R):=rc (nn,nn,nn) (fun k e=>(d (g67.ev k) (g74.ev k) (g81.ev k) (g83.ev k) (e.2.1),d0 (g83.ev k) (e.2.2),d1 (g86.ev k))) k
theorem ev_ok:∀ k,Ev (ev k).1 F∧Ev (ev k).2.1 D0∧Ev (ev k).2.2 D1:=rp ⟨n0,n0,n0⟩ (fun k h=>⟨(of (d_cn (.mk ((g67.ev_ok k))) (.mk ((g74.ev_ok k))) (.mk ((g81.ev_ok k))) (.mk ((g83.ev_ok k))) (.mk (h.2.1))) F_of),(of (d0_cn (.mk ((g83.ev_ok k))) (.mk (h.2.2))) D0_of),(of (d1_cn (.mk ((g86.ev_ok k)))) D1_of)⟩)
end g87
namespace g88
noncomputable def ev (k:Nat):(A→Option R):=rc nn (fun k e=>d (g87.ev k).1) k
theorem ev_ok:∀ k,Ev (ev k) F:=rp n0 (fun k h=>(of (d_cn (.mk ((g87.ev_ok k).1))) F_of))
end g88
namespace g89
noncomputable def ev (k:Nat):(A→Option R):=rc nn (fun k e=>d (g86.ev k)) k
theorem ev_ok:∀ k,Ev (ev k) F:=rp n0 (fun k h=>(of (d_cn (.mk ((g86.ev_ok k)))) F_of))
end g89
namespace g90
noncomputable def ev (k:Nat):(A→Option R):=rc nn (fun k e=>d (g85.ev k)) k
theorem ev_ok:∀ k,Ev (ev k) F:=rp n0 (fun k h=>(of (d_cn (.mk ((g85.ev_ok k)))) F_of))
end g90
namespace g93
noncomputable def ev (k:Nat):(A→Option R)×(T0→Option R):=rc (nn,nn) (fun k e=>(d (e.2),d0 (e.2))) k
theorem ev_ok:∀ k,Ev (ev k).1 F∧Ev (ev k).2 D0:=rp ⟨n0,n0⟩ (fun k h=>⟨(of (d_cn (.mk (h.2))) F_of),(of (d0_cn (.mk (h.2))) D0_of)⟩)
end g93
namespace g94
noncomputable def ev (k:Nat):(A→Option R)×(T0→Option R):=rc (nn,nn) (fun k e=>(d (e.2),d0 (e.2))) k
theorem ev_ok:∀ k,Ev (ev k).1 F∧Ev (ev k).2 D0:=rp ⟨n0,n0⟩ (fun k h=>⟨(of (d_cn (.mk (h.2))) F_of),(of (d0_cn (.mk (h.2))) D0_of)⟩)
end g94
namespace g91
noncomputable def ev (k:Nat):(A→Option R):=rc nn (fun k e=>d (g63.ev k)) k
theorem ev_ok:∀ k,Ev (ev k) F:=rp n0 (fun k h=>(of (d_cn (.mk ((g63.ev_ok k)))) F_of))
end g91
namespace g92
noncomputable def ev (k:Nat):(A→Option R):=rc nn (fun k e=>d (g65.ev k)) k
theorem ev_ok:∀ k,Ev (ev k) F:=rp n0 (fun k h=>(of (d_cn (.mk ((g65.ev_ok k)))) F_of))
end g92
namespace g95
noncomputable def ev (k:Nat):(A→Option R)×(T0→Option R)×(T1→Option R):=rc (nn,nn,nn) (fun k e=>(d (e.2.1),d0 (e.2.2) (g93.ev k).1 (g94.ev k).1 (g86.ev k),d1 (g91.ev k) (g92.ev k) (g74.ev k) (e.2.2) (e.2.1))) k
theorem ev_ok:∀ k,Ev (ev k).1 F∧Ev (ev k).2.1 D0∧Ev (ev k).2.2 D1:=rp ⟨n0,n0,n0⟩ (fun k h=>⟨(of (d_cn (.mk (h.2.1))) F_of),(of (d0_cn (.mk (h.2.2)) (.mk ((g93.ev_ok k).1)) (.mk ((g94.ev_ok k).1)) (.mk ((g86.ev_ok k)))) D0_of),(of (d1_cn (.mk ((g91.ev_ok k))) (.mk ((g92.ev_ok k))) (.mk ((g74.ev_ok k))) (.mk (h.2.2)) (.mk (h.2.1))) D1_of)⟩)
end g95
namespace g96
noncomputable def ev (k:Nat):(A→Option R):=rc nn (fun k e=>d (g90.ev k) (g74.ev k) (g95.ev k).1) k
theorem ev_ok:∀ k,Ev (ev k) F:=rp n0 (fun k h=>(of (d_cn (.mk ((g90.ev_ok k))) (.mk ((g74.ev_ok k))) (.mk ((g95.ev_ok k).1))) F_of))
end g96
namespace g97
noncomputable def ev (k:Nat):(A→Option R):=rc nn (fun k e=>d (g89.ev k) (g96.ev k)) k
theorem ev_ok:∀ k,Ev (ev k) F:=rp n0 (fun k h=>(of (d_cn (.mk ((g89.ev_ok k))) (.mk ((g96.ev_ok k)))) F_of))
end g97
namespace g98
noncomputable def ev (k:Nat):(A→Option R)×(T0→Option R)×(T1→Option R):=rc (nn,nn,nn) (fun k e=>(d (g67.ev k) (g74.ev k) (g80.ev k) (g83.ev k) (e.2.1),d0 (g83.ev k) (e.2.2),d1 (g86.ev k))) k
theorem ev_ok:∀ k,Ev (ev k).1 F∧Ev (ev k).2.1 D0∧Ev (ev k).2.2 D1:=rp ⟨n0,n0,n0⟩ (fun k h=>⟨(of (d_cn (.mk ((g67.ev_ok k))) (.mk ((g74.ev_ok k))) (.mk ((g80.ev_ok k))) (.mk ((g83.ev_ok k))) (.mk (h.2.1))) F_of),(of (d0_cn (.mk ((g83.ev_ok k))) (.mk (h.2.2))) D0_of),(of (d1_cn (.mk ((g86.ev_ok k)))) D1_of)⟩)
end g98
namespace g99
noncomputable def ev (k:Nat):(A→Option R):=rc nn (fun k e=>d (g98.ev k).1) k
theorem ev_ok:∀ k,Ev (ev k) F:=rp n0 (fun k h=>(of (d_cn (.mk ((g98.ev_ok k).1))) F_of))
end g99
namespace g100
noncomputable def ev (k:Nat):(A→Option R):=rc nn (fun k e=>d (g90.ev k) (g74.ev k) (g86.ev k)) k
theorem ev_ok:∀ k,Ev (ev k) F:=rp n0 (fun k h=>(of (d_cn (.mk ((g90.ev_ok k))) (.mk ((g74.ev_ok k))) (.mk ((g86.ev_ok k)))) F_of))
end g100
namespace g101
noncomputable def ev (k:Nat):(A→Option R)×(T0→Option R)×(T1→Option R):=rc (nn,nn,nn) (fun k e=>(d (g22.ev k) (e.2.1),d0 (g22.ev k) (e.2.2),d1 (e.2.1))) k
theorem ev_ok:∀ k,Ev (ev k).1 F∧Ev (ev k).2.1 D0∧Ev (ev k).2.2 D1:=rp ⟨n0,n0,n0⟩ (fun k h=>⟨(of (d_cn (.mk ((g22.ev_ok k))) (.mk (h.2.1))) F_of),(of (d0_cn (.mk ((g22.ev_ok k))) (.mk (h.2.2))) D0_of),(of (d1_cn (.mk (h.2.1))) D1_of)⟩)
end g101
namespace g102
noncomputable def ev (k:Nat):(A→Option R)×(T0→Option R):=rc (nn,nn) (fun k e=>(d (g90.ev k) (g74.ev k) (g101.ev k).1 (g25.ev k) (g31.ev k) (e.2),d0 (g86.ev k))) k
theorem ev_ok:∀ k,Ev (ev k).1 F∧Ev (ev k).2 D0:=rp ⟨n0,n0⟩ (fun k h=>⟨(of (d_cn (.mk ((g90.ev_ok k))) (.mk ((g74.ev_ok k))) (.mk ((g101.ev_ok k).1)) (.mk ((g25.ev_ok k))) (.mk ((g31.ev_ok k))) (.mk (h.2))) F_of),(of (d0_cn (.mk ((g86.ev_ok k)))) D0_of)⟩)
end g102
namespace g104
noncomputable def ev (k:Nat):(A→Option R):=rc nn (fun k e=>d (g63.ev k)) k
theorem ev_ok:∀ k,Ev (ev k) F:=rp n0 (fun k h=>(of (d_cn (.mk ((g63.ev_ok k)))) F_of))
end g104
namespace g105
noncomputable def ev (k:Nat):(A→Option R):=rc nn (fun k e=>d (g65.ev k)) k
theorem ev_ok:∀ k,Ev (ev k) F:=rp n0 (fun k h=>(of (d_cn (.mk ((g65.ev_ok k)))) F_of))
end g105
namespace g106
noncomputable def ev (k:Nat):(A→Option R)×(T0→Option R)×(T1→Option R):=rc (nn,nn,nn) (fun k e=>(d (e.2.1),d0 (e.2.2) (g93.ev k).1 (g94.ev k).1 (g86.ev k),d1 (g104.ev k) (g105.ev k) (g74.ev k) (e.2.2) (e.2.1))) k
theorem ev_ok:∀ k,Ev (ev k).1 F∧Ev (ev k).2.1 D0∧Ev (ev k).2.2 D1:=rp ⟨n0,n0,n0⟩ (fun k h=>⟨(of (d_cn (.mk (h.2.1))) F_of),(of (d0_cn (.mk (h.2.2)) (.mk ((g93.ev_ok k).1)) (.mk ((g94.ev_ok k).1)) (.mk ((g86.ev_ok k)))) D0_of),(of (d1_cn (.mk ((g104.ev_ok k))) (.mk ((g105.ev_ok k))) (.mk ((g74.ev_ok k))) (.mk (h.2.2)) (.mk (h.2.1))) D1_of)⟩)
end g106
namespace g103
noncomputable def ev (k:Nat):(A→Option R):=rc nn (fun k e=>d (g85.ev k)) k
theorem ev_ok:∀ k,Ev (ev k) F:=rp n0 (fun k h=>(of (d_cn (.mk ((g85.ev_ok k)))) F_of))
end g103
namespace g107
noncomputable def ev (k:Nat):(A→Option R)×(T0→Option R):=rc (nn,nn) (fun k e=>(d (g90.ev k) (g74.ev k) (g103.ev k) (e.2),d0 (g106.ev k).1)) k
theorem ev_ok:∀ k,Ev (ev k).1 F∧Ev (ev k).2 D0:=rp ⟨n0,n0⟩ (fun k h=>⟨(of (d_cn (.mk ((g90.ev_ok k))) (.mk ((g74.ev_ok k))) (.mk ((g103.ev_ok k))) (.mk (h.2))) F_of),(of (d0_cn (.mk ((g106.ev_ok k).1))) D0_of)⟩)
end g107
namespace g108
noncomputable def ev (k:Nat):(A→Option R):=rc nn (fun k e=>d (g85.ev k) (g86.ev k)) k
theorem ev_ok:∀ k,Ev (ev k) F:=rp n0 (fun k h=>(of (d_cn (.mk ((g85.ev_ok k))) (.mk ((g86.ev_ok k)))) F_of))
end g108
namespace g109
noncomputable def ev (k:Nat):(A→Option R):=rc nn (fun k e=>d (g73.ev k) (g34.ev k) (g20.ev k).1 (g74.ev k) (g75.ev k).1 (g69.ev k) (g71.ev k) (g88.ev k) (g97.ev k) (g99.ev k) (g100.ev k) (g96.ev k) (g89.ev k) (g102.ev k).1 (g107.ev k).1 (g86.ev k) (g108.ev k)) k
theorem ev_ok:∀ k,Ev (ev k) F:=rp n0 (fun k h=>(of (d_cn (.mk ((g73.ev_ok k))) (.mk ((g34.ev_ok k))) (.mk ((g20.ev_ok k).1)) (.mk ((g74.ev_ok k))) (.mk ((g75.ev_ok k).1)) (.mk ((g69.ev_ok k))) (.mk ((g71.ev_ok k))) (.mk ((g88.ev_ok k))) (.mk ((g97.ev_ok k))) (.mk ((g99.ev_ok k))) (.mk ((g100.ev_ok k))) (.mk ((g96.ev_ok k))) (.mk ((g89.ev_ok k))) (.mk ((g102.ev_ok k).1)) (.mk ((g107.ev_ok k).1)) (.mk ((g86.ev_ok k))) (.mk ((g108.ev_ok k)))) F_of))
end g109
namespace g110
noncomputable def ev (k:Nat):(A→Option R):=rc nn (fun k e=>d (g48.ev k) (g72.ev k) (g109.ev k)) k
theorem ev_ok:∀ k,Ev (ev k) F:=rp n0 (fun k h=>(of (d_cn (.mk ((g48.ev_ok k))) (.mk ((g72.ev_ok k))) (.mk ((g109.ev_ok k)))) F_of))
end g110
namespace g111
noncomputable def ev (k:Nat):(A→Option R):=rc nn (fun k e=>d) k
theorem ev_ok:∀ k,Ev (ev k) F:=rp n0 (fun k h=>(of (d_cn) F_of))
end g111
namespace g112
noncomputable def ev (k:Nat):(A→Option R):=rc nn (fun k e=>d (g110.ev k) (g111.ev k)) k
theorem ev_ok:∀ k,Ev (ev k) F:=rp n0 (fun k h=>(of (d_cn (.mk ((g110.ev_ok k))) (.mk ((g111.ev_ok k)))) F_of))
end g112
namespace g113
noncomputable def ev (k:Nat):(A→Option R):=rc nn (fun k e=>d) k
theorem ev_ok:∀ k,Ev (ev k) F:=rp n0 (fun k h=>(of (d_cn) F_of))
end g113
namespace g116
noncomputable def ev (k:Nat):(A→Option R)×(T0→Option R)×(T1→Option R):=rc (nn,nn,nn) (fun k e=>(d (e.2.1),d0 (e.2.2),d1 (e.2.2))) k
theorem ev_ok:∀ k,Ev (ev k).1 F∧Ev (ev k).2.1 D0∧Ev (ev k).2.2 D1:=rp ⟨n0,n0,n0⟩ (fun k h=>⟨(of (d_cn (.mk (h.2.1))) F_of),(of (d0_cn (.mk (h.2.2))) D0_of),(of (d1_cn (.mk (h.2.2))) D1_of)⟩)
end g116
namespace g117
noncomputable def ev (k:Nat):(A→Option R):=rc nn (fun k e=>d (g116.ev k).1) k
theorem ev_ok:∀ k,Ev (ev k) F:=rp n0 (fun k h=>(of (d_cn (.mk ((g116.ev_ok k).1))) F_of))
end g117
namespace g118
noncomputable def ev (k:Nat):(A→Option R)×(T0→Option R):=rc (nn,nn) (fun k e=>(d (e.2),d0 (g117.ev k))) k
theorem ev_ok:∀ k,Ev (ev k).1 F∧Ev (ev k).2 D0:=rp ⟨n0,n0⟩ (fun k h=>⟨(of (d_cn (.mk (h.2))) F_of),(of (d0_cn (.mk ((g117.ev_ok k)))) D0_of)⟩)
end g118
namespace g119
noncomputable def ev (k:Nat):(A→Option R)×(T0→Option R)×(T1→Option R):=rc (nn,nn,nn) (fun k e=>(d (e.2.1),d0 (e.2.2),d1)) k
theorem ev_ok:∀ k,Ev (ev k).1 F∧Ev (ev k).2.1 D0∧Ev (ev k).2.2 D1:=rp ⟨n0,n0,n0⟩ (fun k h=>⟨(of (d_cn (.mk (h.2.1))) F_of),(of (d0_cn (.mk (h.2.2))) D0_of),(of (d1_cn) D1_of)⟩)
end g119
namespace g120
noncomputable def ev (k:Nat):(A→Option R):=rc nn (fun k e=>d (g119.ev k).1) k
theorem ev_ok:∀ k,Ev (ev k) F:=rp n0 (fun k h=>(of (d_cn (.mk ((g119.ev_ok k).1))) F_of))
end g120
namespace g121
noncomputable def ev (k:Nat):(A→Option R):=rc nn (fun k e=>d (g117.ev k) (g120.ev k)) k
theorem ev_ok:∀ k,Ev (ev k) F:=rp n0 (fun k h=>(of (d_cn (.mk ((g117.ev_ok k))) (.mk ((g120.ev_ok k)))) F_of))
end g121
namespace g122
noncomputable def ev (k:Nat):(A→Option R)×(T0→Option R)×(T1→Option R):=rc (nn,nn,nn) (fun k e=>(d (g120.ev k) (e.2.1),d0 (e.2.2) (g121.ev k),d1 (e.2.2) (e.2.1))) k
theorem ev_ok:∀ k,Ev (ev k).1 F∧Ev (ev k).2.1 D0∧Ev (ev k).2.2 D1:=rp ⟨n0,n0,n0⟩ (fun k h=>⟨(of (d_cn (.mk ((g120.ev_ok k))) (.mk (h.2.1))) F_of),(of (d0_cn (.mk (h.2.2)) (.mk ((g121.ev_ok k)))) D0_of),(of (d1_cn (.mk (h.2.2)) (.mk (h.2.1))) D1_of)⟩)
end g122
namespace g123
noncomputable def ev (k:Nat):(A→Option R):=rc nn (fun k e=>d (g122.ev k).1) k
theorem ev_ok:∀ k,Ev (ev k) F:=rp n0 (fun k h=>(of (d_cn (.mk ((g122.ev_ok k).1))) F_of))
end g123
namespace g125
noncomputable def ev (k:Nat):(A→Option R):=rc nn (fun k e=>d (g118.ev k).1 (g123.ev k)) k
theorem ev_ok:∀ k,Ev (ev k) F:=rp n0 (fun k h=>(of (d_cn (.mk ((g118.ev_ok k).1)) (.mk ((g123.ev_ok k)))) F_of))
end g125
namespace g126
noncomputable def ev (k:Nat):(A→Option R):=rc nn (fun k e=>d) k
theorem ev_ok:∀ k,Ev (ev k) F:=rp n0 (fun k h=>(of (d_cn) F_of))
end g126
namespace g127
noncomputable def ev (k:Nat):(A→Option R):=rc nn (fun k e=>d) k
theorem ev_ok:∀ k,Ev (ev k) F:=rp n0 (fun k h=>(of (d_cn) F_of))
end g127
namespace g128
noncomputable def ev (k:Nat):(A→Option R):=rc nn (fun k e=>d (g127.ev k)) k
theorem ev_ok:∀ k,Ev (ev k) F:=rp n0 (fun k h=>(of (d_cn (.mk ((g127.ev_ok k)))) F_of))
end g128
namespace g129
noncomputable def ev (k:Nat):(A→Option R):=rc nn (fun k e=>d) k
theorem ev_ok:∀ k,Ev (ev k) F:=rp n0 (fun k h=>(of (d_cn) F_of))
end g129
namespace g130
noncomputable def ev (k:Nat):(A→Option R):=rc nn (fun k e=>d (g129.ev k)) k
theorem ev_ok:∀ k,Ev (ev k) F:=rp n0 (fun k h=>(of (d_cn (.mk ((g129.ev_ok k)))) F_of))
end g130
namespace g131
noncomputable def ev (k:Nat):(A→Option R)×(T0→Option R):=rc (nn,nn) (fun k e=>(d (g128.ev k) (e.2),d0 (g130.ev k) (e.2))) k
theorem ev_ok:∀ k,Ev (ev k).1 F∧Ev (ev k).2 D0:=rp ⟨n0,n0⟩ (fun k h=>⟨(of (d_cn (.mk ((g128.ev_ok k))) (.mk (h.2))) F_of),(of (d0_cn (.mk ((g130.ev_ok k))) (.mk (h.2))) D0_of)⟩)
end g131
namespace g132
noncomputable def ev (k:Nat):(A→Option R):=rc nn (fun k e=>d (g126.ev k) (g128.ev k) (g131.ev k).1) k
theorem ev_ok:∀ k,Ev (ev k) F:=rp n0 (fun k h=>(of (d_cn (.mk ((g126.ev_ok k))) (.mk ((g128.ev_ok k))) (.mk ((g131.ev_ok k).1))) F_of))
end g132
namespace g114
noncomputable def ev (k:Nat):(A→Option R):=rc nn (fun k e=>d (g34.ev k)) k
theorem ev_ok:∀ k,Ev (ev k) F:=rp n0 (fun k h=>(of (d_cn (.mk ((g34.ev_ok k)))) F_of))
end g114
namespace g115
noncomputable def ev (k:Nat):(A→Option R):=rc nn (fun k e=>d) k
theorem ev_ok:∀ k,Ev (ev k) F:=rp n0 (fun k h=>(of (d_cn) F_of))
end g115
namespace g124
noncomputable def ev (k:Nat):(A→Option R):=rc nn (fun k e=>d (g115.ev k) (g118.ev k).1 (g123.ev k)) k
theorem ev_ok:∀ k,Ev (ev k) F:=rp n0 (fun k h=>(of (d_cn (.mk ((g115.ev_ok k))) (.mk ((g118.ev_ok k).1)) (.mk ((g123.ev_ok k)))) F_of))
end g124
namespace g133
noncomputable def ev (k:Nat):(A→Option R)×(T0→Option R)×(T1→Option R)×(T2→Option R):=rc (nn,nn,nn,nn) (fun k e=>(d (g114.ev k) (g115.ev k) (g124.ev k) (g125.ev k) (g123.ev k) (e.2.1),d0 (g125.ev k) (g123.ev k) (g132.ev k) (e.2.1) (g125.ev k) (g123.ev k) (g132.ev k) (e.2.2.1),d1 (e.2.2.2),d2)) k
theorem ev_ok:∀ k,Ev (ev k).1 F∧Ev (ev k).2.1 D0∧Ev (ev k).2.2.1 D1∧Ev (ev k).2.2.2 D2:=rp ⟨n0,n0,n0,n0⟩ (fun k h=>⟨(of (d_cn (.mk ((g114.ev_ok k))) (.mk ((g115.ev_ok k))) (.mk ((g124.ev_ok k))) (.mk ((g125.ev_ok k))) (.mk ((g123.ev_ok k))) (.mk (h.2.1))) F_of),(of (d0_cn (.mk ((g125.ev_ok k))) (.mk ((g123.ev_ok k))) (.mk ((g132.ev_ok k))) (.mk (h.2.1)) (.mk ((g125.ev_ok k))) (.mk ((g123.ev_ok k))) (.mk ((g132.ev_ok k))) (.mk (h.2.2.1))) D0_of),(of (d1_cn (.mk (h.2.2.2))) D1_of),(of (d2_cn) D2_of)⟩)
end g133
namespace g134
noncomputable def ev (k:Nat):(A→Option R):=rc nn (fun k e=>d (g112.ev k) (g110.ev k) (g113.ev k) (g133.ev k).1 (g111.ev k)) k
theorem ev_ok:∀ k,Ev (ev k) F:=rp n0 (fun k h=>(of (d_cn (.mk ((g112.ev_ok k))) (.mk ((g110.ev_ok k))) (.mk ((g113.ev_ok k))) (.mk ((g133.ev_ok k).1)) (.mk ((g111.ev_ok k)))) F_of))
end g134
namespace g12
noncomputable def ev (k:Nat):(A→Option R):=rc nn (fun k e=>d) k
theorem ev_ok:∀ k,Ev (ev k) F:=rp n0 (fun k h=>(of (d_cn) F_of))
end g12
namespace g33
noncomputable def ev (k:Nat):(A→Option R):=rc nn (fun k e=>d (g19.ev k) (g32.ev k)) k
theorem ev_ok:∀ k,Ev (ev k) F:=rp n0 (fun k h=>(of (d_cn (.mk ((g19.ev_ok k))) (.mk ((g32.ev_ok k)))) F_of))
end g33
namespace g35
noncomputable def ev (k:Nat):(A→Option R)×(T0→Option R):=rc (nn,nn) (fun k e=>(d (g12.ev k) (g33.ev k) (g34.ev k) (e.2),d0 (g12.ev k) (e.2))) k
theorem ev_ok:∀ k,Ev (ev k).1 F∧Ev (ev k).2 D0:=rp ⟨n0,n0⟩ (fun k h=>⟨(of (d_cn (.mk ((g12.ev_ok k))) (.mk ((g33.ev_ok k))) (.mk ((g34.ev_ok k))) (.mk (h.2))) F_of),(of (d0_cn (.mk ((g12.ev_ok k))) (.mk (h.2))) D0_of)⟩)
end g35
namespace g41
noncomputable def ev (k:Nat):(A→Option R)×(T0→Option R):=rc (nn,nn) (fun k e=>(d (g12.ev k) (g34.ev k) (e.2),d0 (g12.ev k))) k
theorem ev_ok:∀ k,Ev (ev k).1 F∧Ev (ev k).2 D0:=rp ⟨n0,n0⟩ (fun k h=>⟨(of (d_cn (.mk ((g12.ev_ok k))) (.mk ((g34.ev_ok k))) (.mk (h.2))) F_of),(of (d0_cn (.mk ((g12.ev_ok k)))) D0_of)⟩)
end g41
namespace g47
noncomputable def ev (k:Nat):(A→Option R):=rc nn (fun k e=>d (g35.ev k).1 (g41.ev k).1) k
theorem ev_ok:∀ k,Ev (ev k) F:=rp n0 (fun k h=>(of (d_cn (.mk ((g35.ev_ok k).1)) (.mk ((g41.ev_ok k).1))) F_of))
end g47
namespace g135
noncomputable def ev (k:Nat):(A→Option R)×(T0→Option R):=rc (nn,nn) (fun k e=>(d (g47.ev k) (e.2),d0 (g134.ev k) (e.2))) k
theorem ev_ok:∀ k,Ev (ev k).1 F∧Ev (ev k).2 D0:=rp ⟨n0,n0⟩ (fun k h=>⟨(of (d_cn (.mk ((g47.ev_ok k))) (.mk (h.2))) F_of),(of (d0_cn (.mk ((g134.ev_ok k))) (.mk (h.2))) D0_of)⟩)
end g135
namespace g136
noncomputable def ev (k:Nat):(A→Option R):=rc nn (fun k e=>d (g63.ev k)) k
theorem ev_ok:∀ k,Ev (ev k) F:=rp n0 (fun k h=>(of (d_cn (.mk ((g63.ev_ok k)))) F_of))
end g136
namespace g137
noncomputable def ev (k:Nat):(A→Option R)×(T0→Option R):=rc (nn,nn) (fun k e=>(d (e.2),d0)) k
theorem ev_ok:∀ k,Ev (ev k).1 F∧Ev (ev k).2 D0:=rp ⟨n0,n0⟩ (fun k h=>⟨(of (d_cn (.mk (h.2))) F_of),(of (d0_cn) D0_of)⟩)
end g137
namespace g138
noncomputable def ev (k:Nat):(A→Option R):=rc nn (fun k e=>d (g19.ev k) (g136.ev k) (g137.ev k).1) k
theorem ev_ok:∀ k,Ev (ev k) F:=rp n0 (fun k h=>(of (d_cn (.mk ((g19.ev_ok k))) (.mk ((g136.ev_ok k))) (.mk ((g137.ev_ok k).1))) F_of))
end g138
namespace g139
noncomputable def ev (k:Nat):(A→Option R):=rc nn (fun k e=>d (g81.ev k)) k
theorem ev_ok:∀ k,Ev (ev k) F:=rp n0 (fun k h=>(of (d_cn (.mk ((g81.ev_ok k)))) F_of))
end g139
namespace g140
noncomputable def ev (k:Nat):(A→Option R):=rc nn (fun k e=>d (g80.ev k)) k
theorem ev_ok:∀ k,Ev (ev k) F:=rp n0 (fun k h=>(of (d_cn (.mk ((g80.ev_ok k)))) F_of))
end g140
namespace g141
noncomputable def ev (k:Nat):(A→Option R)×(T0→Option R):=rc (nn,nn) (fun k e=>(d (e.2),d0 (g80.ev k) (g81.ev k) (e.2))) k
theorem ev_ok:∀ k,Ev (ev k).1 F∧Ev (ev k).2 D0:=rp ⟨n0,n0⟩ (fun k h=>⟨(of (d_cn (.mk (h.2))) F_of),(of (d0_cn (.mk ((g80.ev_ok k))) (.mk ((g81.ev_ok k))) (.mk (h.2))) D0_of)⟩)
end g141
namespace g142
noncomputable def ev (k:Nat):(A→Option R)×(T0→Option R)×(T1→Option R)×(T2→Option R):=rc (nn,nn,nn,nn) (fun k e=>(d (g141.ev k).1 (e.2.1),d0 (e.2.2.1),d1 (e.2.2.2),d2)) k
theorem ev_ok:∀ k,Ev (ev k).1 F∧Ev (ev k).2.1 D0∧Ev (ev k).2.2.1 D1∧Ev (ev k).2.2.2 D2:=rp ⟨n0,n0,n0,n0⟩ (fun k h=>⟨(of (d_cn (.mk ((g141.ev_ok k).1)) (.mk (h.2.1))) F_of),(of (d0_cn (.mk (h.2.2.1))) D0_of),(of (d1_cn (.mk (h.2.2.2))) D1_of),(of (d2_cn) D2_of)⟩)
end g142
namespace g143
noncomputable def ev (k:Nat):(A→Option R):=rc nn (fun k e=>d (g101.ev k).1) k
theorem ev_ok:∀ k,Ev (ev k) F:=rp n0 (fun k h=>(of (d_cn (.mk ((g101.ev_ok k).1))) F_of))
end g143
namespace g144
noncomputable def ev (k:Nat):(A→Option R)×(T0→Option R):=rc (nn,nn) (fun k e=>(d (g73.ev k) (g34.ev k) (g20.ev k).1 (g75.ev k).1 (g139.ev k) (g140.ev k) (g78.ev k).1 (g142.ev k).1 (g143.ev k) (e.2),d0)) k
theorem ev_ok:∀ k,Ev (ev k).1 F∧Ev (ev k).2 D0:=rp ⟨n0,n0⟩ (fun k h=>⟨(of (d_cn (.mk ((g73.ev_ok k))) (.mk ((g34.ev_ok k))) (.mk ((g20.ev_ok k).1)) (.mk ((g75.ev_ok k).1)) (.mk ((g139.ev_ok k))) (.mk ((g140.ev_ok k))) (.mk ((g78.ev_ok k).1)) (.mk ((g142.ev_ok k).1)) (.mk ((g143.ev_ok k))) (.mk (h.2))) F_of),(of (d0_cn) D0_of)⟩)
end g144
namespace g145
noncomputable def ev (k:Nat):(A→Option R):=rc nn (fun k e=>d (g35.ev k).1 (g138.ev k) (g144.ev k).1) k
theorem ev_ok:∀ k,Ev (ev k) F:=rp n0 (fun k h=>(of (d_cn (.mk ((g35.ev_ok k).1)) (.mk ((g138.ev_ok k))) (.mk ((g144.ev_ok k).1))) F_of))
end g145
namespace g36
noncomputable def ev (k:Nat):(A→Option R):=rc nn (fun k e=>d) k
theorem ev_ok:∀ k,Ev (ev k) F:=rp n0 (fun k h=>(of (d_cn) F_of))
end g36
namespace g37
noncomputable def ev (k:Nat):(A→Option R):=rc nn (fun k e=>d) k
theorem ev_ok:∀ k,Ev (ev k) F:=rp n0 (fun k h=>(of (d_cn) F_of))
end g37
namespace g38
noncomputable def ev (k:Nat):(A→Option R):=rc nn (fun k e=>d (g36.ev k) (g37.ev k)) k
theorem ev_ok:∀ k,Ev (ev k) F:=rp n0 (fun k h=>(of (d_cn (.mk ((g36.ev_ok k))) (.mk ((g37.ev_ok k)))) F_of))
end g38
namespace g39
noncomputable def ev (k:Nat):(A→Option R)×(T0→Option R):=rc (nn,nn) (fun k e=>(d (e.2),d0 (e.2))) k
theorem ev_ok:∀ k,Ev (ev k).1 F∧Ev (ev k).2 D0:=rp ⟨n0,n0⟩ (fun k h=>⟨(of (d_cn (.mk (h.2))) F_of),(of (d0_cn (.mk (h.2))) D0_of)⟩)
end g39
namespace g40
noncomputable def ev (k:Nat):(A→Option R):=rc nn (fun k e=>d (g39.ev k).1 (g12.ev k)) k
theorem ev_ok:∀ k,Ev (ev k) F:=rp n0 (fun k h=>(of (d_cn (.mk ((g39.ev_ok k).1)) (.mk ((g12.ev_ok k)))) F_of))
end g40
namespace g42
noncomputable def ev (k:Nat):(A→Option R)×(T0→Option R)×(T1→Option R):=rc (nn,nn,nn) (fun k e=>(d (e.2.1),d0 (g40.ev k) (e.2.1) (e.2.2),d1 (g41.ev k).1 (g12.ev k) (e.2.2))) k
theorem ev_ok:∀ k,Ev (ev k).1 F∧Ev (ev k).2.1 D0∧Ev (ev k).2.2 D1:=rp ⟨n0,n0,n0⟩ (fun k h=>⟨(of (d_cn (.mk (h.2.1))) F_of),(of (d0_cn (.mk ((g40.ev_ok k))) (.mk (h.2.1)) (.mk (h.2.2))) D0_of),(of (d1_cn (.mk ((g41.ev_ok k).1)) (.mk ((g12.ev_ok k))) (.mk (h.2.2))) D1_of)⟩)
end g42
namespace g43
noncomputable def ev (k:Nat):(A→Option R):=rc nn (fun k e=>d (g35.ev k).1 (g38.ev k) (g42.ev k).1) k
theorem ev_ok:∀ k,Ev (ev k) F:=rp n0 (fun k h=>(of (d_cn (.mk ((g35.ev_ok k).1)) (.mk ((g38.ev_ok k))) (.mk ((g42.ev_ok k).1))) F_of))
end g43
namespace g44
theorem clone_is (l:A) (h:l.length≤1000000):F l=some l:=by
 refine Go.Eng.Y.is (Go.Eng.Y.of (F_of _) (Go.Eng.Y.ite (fun c=>?_) fun _=>Go.Eng.Y.pd (by omega) (Go.Eng.Y.some rfl)))
 have:l=[]:=List.length_eq_zero_iff.mp c
 subst this
 exact Go.Eng.Y.both rfl (by rw [br_pos (by simp)]; rfl) rfl
noncomputable def ev (k:Nat):(A→Option R):=fun v=>br (decide (v.length≤1000000)) (some v) none
theorem ev_ok (k:Nat):(∀ v,Cn now ((ev k) v) fun _=>F v):=fun v r q=>by
 have q:br (decide (v.length≤1000000)) (some v) none=some r:=q
 by_cases h:v.length≤1000000
 ·rw [br_pos (by simpa using h)] at q
  cases q
  exact clone_is v h
 ·rw [br_neg (by simpa using h)] at q
  cases q
end g44
namespace g45
theorem clone_is (l:A) (h:l.length≤1000000):F l=some l:=by
 refine Go.Eng.Y.is (Go.Eng.Y.of (F_of _) (Go.Eng.Y.ite (fun c=>?_) fun _=>Go.Eng.Y.pd (by omega) (Go.Eng.Y.some rfl)))
 have:l=[]:=List.length_eq_zero_iff.mp c
 subst this
 exact Go.Eng.Y.both rfl (by rw [br_pos (by simp)]; rfl) rfl
noncomputable def ev (k:Nat):(A→Option R):=fun v=>br (decide (v.length≤1000000)) (some v) none
theorem ev_ok (k:Nat):(∀ v,Cn now ((ev k) v) fun _=>F v):=fun v r q=>by
 have q:br (decide (v.length≤1000000)) (some v) none=some r:=q
 by_cases h:v.length≤1000000
 ·rw [br_pos (by simpa using h)] at q
  cases q
  exact clone_is v h
 ·rw [br_neg (by simpa using h)] at q
  cases q
end g45
namespace g46
theorem clone_is (l:A) (h:l.length≤1000000):F l=some l:=by
 refine Go.Eng.Y.is (Go.Eng.Y.of (F_of _) (Go.Eng.Y.ite (fun c=>?_) fun _=>Go.Eng.Y.pd (by omega) (Go.Eng.Y.some rfl)))
 have:l=[]:=List.length_eq_zero_iff.mp c
 subst this
 exact Go.Eng.Y.both rfl (by rw [br_pos (by simp)]; rfl) rfl
noncomputable def ev (k:Nat):(A→Option R):=fun v=>br (decide (v.length≤1000000)) (some v) none
theorem ev_ok (k:Nat):(∀ v,Cn now ((ev k) v) fun _=>F v):=fun v r q=>by
 have q:br (decide (v.length≤1000000)) (some v) none=some r:=q
 by_cases h:v.length≤1000000
 ·rw [br_pos (by simpa using h)] at q
  cases q
  exact clone_is v h
 ·rw [br_neg (by simpa using h)] at q
  cases q
end g46
namespace g146
noncomputable def ev (k:Nat):(A→Option R)×(T0→Option R)×(T1→Option R):=rc (nn,nn,nn) (fun k e=>(d (g43.ev k) (g44.ev k) (g45.ev k) (g46.ev k) (e.2.1),d0 (g135.ev k).1 (e.2.2),d1 (g145.ev k) (e.2.2) (e.2.1))) k
theorem ev_ok:∀ k,Ev (ev k).1 F∧Ev (ev k).2.1 D0∧Ev (ev k).2.2 D1:=rp ⟨n0,n0,n0⟩ (fun k h=>⟨(of (d_cn (.mk ((g43.ev_ok k))) (.mk ((g44.ev_ok k))) (.mk ((g45.ev_ok k))) (.mk ((g46.ev_ok k))) (.mk (h.2.1))) F_of),(of (d0_cn (.mk ((g135.ev_ok k).1)) (.mk (h.2.2))) D0_of),(of (d1_cn (.mk ((g145.ev_ok k))) (.mk (h.2.2)) (.mk (h.2.1))) D1_of)⟩)
end g146
namespace g152
noncomputable def ev (k:Nat):(A→Option R):=rc nn (fun k e=>d) k
theorem ev_ok:∀ k,Ev (ev k) F:=rp n0 (fun k h=>(of (d_cn) F_of))
end g152
namespace g151
noncomputable def ev (k:Nat):(A→Option R)×(T0→Option R):=rc (nn,nn) (fun k e=>(d (e.2),d0)) k
theorem ev_ok:∀ k,Ev (ev k).1 F∧Ev (ev k).2 D0:=rp ⟨n0,n0⟩ (fun k h=>⟨(of (d_cn (.mk (h.2))) F_of),(of (d0_cn) D0_of)⟩)
end g151
namespace g153
noncomputable def ev (k:Nat):(A→Option R)×(T0→Option R)×(T1→Option R):=rc (nn,nn,nn) (fun k e=>(d (g36.ev k) (g37.ev k) (g151.ev k).1 (e.2.1),d0 (g152.ev k) (e.2.2),d1 (e.2.1))) k
theorem ev_ok:∀ k,Ev (ev k).1 F∧Ev (ev k).2.1 D0∧Ev (ev k).2.2 D1:=rp ⟨n0,n0,n0⟩ (fun k h=>⟨(of (d_cn (.mk ((g36.ev_ok k))) (.mk ((g37.ev_ok k))) (.mk ((g151.ev_ok k).1)) (.mk (h.2.1))) F_of),(of (d0_cn (.mk ((g152.ev_ok k))) (.mk (h.2.2))) D0_of),(of (d1_cn (.mk (h.2.1))) D1_of)⟩)
end g153
namespace g154
noncomputable def ev (k:Nat):(A→Option R)×(T0→Option R):=rc (nn,nn) (fun k e=>(d (e.2),d0 (e.2))) k
theorem ev_ok:∀ k,Ev (ev k).1 F∧Ev (ev k).2 D0:=rp ⟨n0,n0⟩ (fun k h=>⟨(of (d_cn (.mk (h.2))) F_of),(of (d0_cn (.mk (h.2))) D0_of)⟩)
end g154
namespace g155
noncomputable def ev (k:Nat):(A→Option R):=rc nn (fun k e=>d) k
theorem ev_ok:∀ k,Ev (ev k) F:=rp n0 (fun k h=>(of (d_cn) F_of))
end g155
namespace g156
noncomputable def ev (k:Nat):(A→Option R)×(T0→Option R)×(T1→Option R)×(T2→Option R):=rc (nn,nn,nn,nn) (fun k e=>(d (g36.ev k) (g37.ev k) (g152.ev k) (e.2.1),d0 (g154.ev k).1 (g155.ev k) (e.2.2.1) (e.2.2.2),d1 (e.2.1),d2)) k
theorem ev_ok:∀ k,Ev (ev k).1 F∧Ev (ev k).2.1 D0∧Ev (ev k).2.2.1 D1∧Ev (ev k).2.2.2 D2:=rp ⟨n0,n0,n0,n0⟩ (fun k h=>⟨(of (d_cn (.mk ((g36.ev_ok k))) (.mk ((g37.ev_ok k))) (.mk ((g152.ev_ok k))) (.mk (h.2.1))) F_of),(of (d0_cn (.mk ((g154.ev_ok k).1)) (.mk ((g155.ev_ok k))) (.mk (h.2.2.1)) (.mk (h.2.2.2))) D0_of),(of (d1_cn (.mk (h.2.1))) D1_of),(of (d2_cn) D2_of)⟩)
end g156
namespace g157
noncomputable def ev (k:Nat):(A→Option R):=rc nn (fun k e=>d (g38.ev k) (g153.ev k).1 (g156.ev k).1) k
theorem ev_ok:∀ k,Ev (ev k) F:=rp n0 (fun k h=>(of (d_cn (.mk ((g38.ev_ok k))) (.mk ((g153.ev_ok k).1)) (.mk ((g156.ev_ok k).1))) F_of))
end g157
namespace g160
noncomputable def ev (k:Nat):(A→Option R)×(T0→Option R):=rc (nn,nn) (fun k e=>(d (g38.ev k) (g35.ev k).1 (g37.ev k) (e.2),d0 (g145.ev k) (g157.ev k) (g152.ev k) (e.2))) k
theorem ev_ok:∀ k,Ev (ev k).1 F∧Ev (ev k).2 D0:=rp ⟨n0,n0⟩ (fun k h=>⟨(of (d_cn (.mk ((g38.ev_ok k))) (.mk ((g35.ev_ok k).1)) (.mk ((g37.ev_ok k))) (.mk (h.2))) F_of),(of (d0_cn (.mk ((g145.ev_ok k))) (.mk ((g157.ev_ok k))) (.mk ((g152.ev_ok k))) (.mk (h.2))) D0_of)⟩)
end g160
namespace g158
noncomputable def ev (k:Nat):(A→Option R):=rc nn (fun k e=>d (g35.ev k).1) k
theorem ev_ok:∀ k,Ev (ev k) F:=rp n0 (fun k h=>(of (d_cn (.mk ((g35.ev_ok k).1))) F_of))
end g158
namespace g159
noncomputable def ev (k:Nat):(A→Option R)×(T0→Option R):=rc (nn,nn) (fun k e=>(d (e.2),d0 (g157.ev k) (g158.ev k) (e.2))) k
theorem ev_ok:∀ k,Ev (ev k).1 F∧Ev (ev k).2 D0:=rp ⟨n0,n0⟩ (fun k h=>⟨(of (d_cn (.mk (h.2))) F_of),(of (d0_cn (.mk ((g157.ev_ok k))) (.mk ((g158.ev_ok k))) (.mk (h.2))) D0_of)⟩)
end g159
namespace g161
noncomputable def ev (k:Nat):(A→Option R)×(T0→Option R)×(T1→Option R):=rc (nn,nn,nn) (fun k e=>(d (g159.ev k).1 (e.2.1),d0 (e.2.2),d1 (e.2.2) (g160.ev k).1)) k
theorem ev_ok:∀ k,Ev (ev k).1 F∧Ev (ev k).2.1 D0∧Ev (ev k).2.2 D1:=rp ⟨n0,n0,n0⟩ (fun k h=>⟨(of (d_cn (.mk ((g159.ev_ok k).1)) (.mk (h.2.1))) F_of),(of (d0_cn (.mk (h.2.2))) D0_of),(of (d1_cn (.mk (h.2.2)) (.mk ((g160.ev_ok k).1))) D1_of)⟩)
end g161
namespace g162
noncomputable def ev (k:Nat):(A→Option R):=rc nn (fun k e=>d) k
theorem ev_ok:∀ k,Ev (ev k) F:=rp n0 (fun k h=>(of (d_cn) F_of))
end g162
namespace g163
noncomputable def ev (k:Nat):(A→Option R):=rc nn (fun k e=>d) k
theorem ev_ok:∀ k,Ev (ev k) F:=rp n0 (fun k h=>(of (d_cn) F_of))
end g163
namespace g164
noncomputable def ev (k:Nat):(A→Option R):=rc nn (fun k e=>d) k
theorem ev_ok:∀ k,Ev (ev k) F:=rp n0 (fun k h=>(of (d_cn) F_of))
end g164
namespace g165
noncomputable def ev (k:Nat):(A→Option R):=rc nn (fun k e=>d (g164.ev k)) k
theorem ev_ok:∀ k,Ev (ev k) F:=rp n0 (fun k h=>(of (d_cn (.mk ((g164.ev_ok k)))) F_of))
end g165
namespace g166
noncomputable def ev (k:Nat):(A→Option R):=rc nn (fun k e=>d) k
theorem ev_ok:∀ k,Ev (ev k) F:=rp n0 (fun k h=>(of (d_cn) F_of))
end g166
namespace g167
noncomputable def ev (k:Nat):(A→Option R)×(T0→Option R):=rc (nn,nn) (fun k e=>(d (e.2),d0 (g165.ev k) (g166.ev k) (e.2))) k
theorem ev_ok:∀ k,Ev (ev k).1 F∧Ev (ev k).2 D0:=rp ⟨n0,n0⟩ (fun k h=>⟨(of (d_cn (.mk (h.2))) F_of),(of (d0_cn (.mk ((g165.ev_ok k))) (.mk ((g166.ev_ok k))) (.mk (h.2))) D0_of)⟩)
end g167
namespace g168
noncomputable def ev (k:Nat):(A→Option R):=rc nn (fun k e=>d (g162.ev k) (g163.ev k) (g167.ev k).1) k
theorem ev_ok:∀ k,Ev (ev k) F:=rp n0 (fun k h=>(of (d_cn (.mk ((g162.ev_ok k))) (.mk ((g163.ev_ok k))) (.mk ((g167.ev_ok k).1))) F_of))
end g168
namespace g169
noncomputable def ev (k:Nat):(A→Option R)×(T0→Option R)×(T1→Option R)×(T2→Option R):=rc (nn,nn,nn,nn) (fun k e=>(d (e.2.1),d0 (e.2.2.1) (g165.ev k) (e.2.2.2),d1,d2 (g165.ev k) (e.2.2.1) (g166.ev k) (e.2.1))) k
theorem ev_ok:∀ k,Ev (ev k).1 F∧Ev (ev k).2.1 D0∧Ev (ev k).2.2.1 D1∧Ev (ev k).2.2.2 D2:=rp ⟨n0,n0,n0,n0⟩ (fun k h=>⟨(of (d_cn (.mk (h.2.1))) F_of),(of (d0_cn (.mk (h.2.2.1)) (.mk ((g165.ev_ok k))) (.mk (h.2.2.2))) D0_of),(of (d1_cn) D1_of),(of (d2_cn (.mk ((g165.ev_ok k))) (.mk (h.2.2.1)) (.mk ((g166.ev_ok k))) (.mk (h.2.1))) D2_of)⟩)
end g169
namespace g170
noncomputable def ev (k:Nat):(A→Option R):=rc nn (fun k e=>d) k
theorem ev_ok:∀ k,Ev (ev k) F:=rp n0 (fun k h=>(of (d_cn) F_of))
end g170
namespace g171
noncomputable def ev (k:Nat):(A→Option R):=rc nn (fun k e=>d (g163.ev k) (g166.ev k) (g169.ev k).1 (g170.ev k)) k
theorem ev_ok:∀ k,Ev (ev k) F:=rp n0 (fun k h=>(of (d_cn (.mk ((g163.ev_ok k))) (.mk ((g166.ev_ok k))) (.mk ((g169.ev_ok k).1)) (.mk ((g170.ev_ok k)))) F_of))
end g171
namespace g150
noncomputable def ev (k:Nat):(A→Option R)×(T0→Option R):=rc (nn,nn) (fun k e=>(d (g42.ev k).1 (e.2),d0 (e.2))) k
theorem ev_ok:∀ k,Ev (ev k).1 F∧Ev (ev k).2 D0:=rp ⟨n0,n0⟩ (fun k h=>⟨(of (d_cn (.mk ((g42.ev_ok k).1)) (.mk (h.2))) F_of),(of (d0_cn (.mk (h.2))) D0_of)⟩)
end g150
namespace g172
noncomputable def ev (k:Nat):(A→Option R)×(T0→Option R)×(T1→Option R):=rc (nn,nn,nn) (fun k e=>(d (g150.ev k).1 (e.2.1),d0 (g161.ev k).1 (g168.ev k) (e.2.2) (g163.ev k) (g171.ev k),d1 (e.2.1))) k
theorem ev_ok:∀ k,Ev (ev k).1 F∧Ev (ev k).2.1 D0∧Ev (ev k).2.2 D1:=rp ⟨n0,n0,n0⟩ (fun k h=>⟨(of (d_cn (.mk ((g150.ev_ok k).1)) (.mk (h.2.1))) F_of),(of (d0_cn (.mk ((g161.ev_ok k).1)) (.mk ((g168.ev_ok k))) (.mk (h.2.2)) (.mk ((g163.ev_ok k))) (.mk ((g171.ev_ok k)))) D0_of),(of (d1_cn (.mk (h.2.1))) D1_of)⟩)
end g172
namespace g173
noncomputable def ev (k:Nat):(A→Option R):=rc nn (fun k e=>d) k
theorem ev_ok:∀ k,Ev (ev k) F:=rp n0 (fun k h=>(of (d_cn) F_of))
end g173
namespace g147
noncomputable def ev (k:Nat):(A→Option R)×(T0→Option R)×(T1→Option R):=rc (nn,nn,nn) (fun k e=>(d (g37.ev k) (e.2.1),d0 (e.2.2),d1 (e.2.2) (e.2.1))) k
theorem ev_ok:∀ k,Ev (ev k).1 F∧Ev (ev k).2.1 D0∧Ev (ev k).2.2 D1:=rp ⟨n0,n0,n0⟩ (fun k h=>⟨(of (d_cn (.mk ((g37.ev_ok k))) (.mk (h.2.1))) F_of),(of (d0_cn (.mk (h.2.2))) D0_of),(of (d1_cn (.mk (h.2.2)) (.mk (h.2.1))) D1_of)⟩)
end g147
namespace g148
noncomputable def ev (k:Nat):(A→Option R):=rc nn (fun k e=>d (g147.ev k).1) k
theorem ev_ok:∀ k,Ev (ev k) F:=rp n0 (fun k h=>(of (d_cn (.mk ((g147.ev_ok k).1))) F_of))
end g148
namespace g149
noncomputable def ev (k:Nat):(A→Option R)×(T0→Option R):=rc (nn,nn) (fun k e=>(d (e.2),d0 (g44.ev k) (e.2))) k
theorem ev_ok:∀ k,Ev (ev k).1 F∧Ev (ev k).2 D0:=rp ⟨n0,n0⟩ (fun k h=>⟨(of (d_cn (.mk (h.2))) F_of),(of (d0_cn (.mk ((g44.ev_ok k))) (.mk (h.2))) D0_of)⟩)
end g149
namespace g174
noncomputable def ev (k:Nat):(A→Option R)×(T0→Option R):=rc (nn,nn) (fun k e=>(d (g148.ev k) (g149.ev k).1 (e.2),d0 (g172.ev k).1 (e.2) (g173.ev k))) k
theorem ev_ok:∀ k,Ev (ev k).1 F∧Ev (ev k).2 D0:=rp ⟨n0,n0⟩ (fun k h=>⟨(of (d_cn (.mk ((g148.ev_ok k))) (.mk ((g149.ev_ok k).1)) (.mk (h.2))) F_of),(of (d0_cn (.mk ((g172.ev_ok k).1)) (.mk (h.2)) (.mk ((g173.ev_ok k)))) D0_of)⟩)
end g174
namespace g175
noncomputable def ev (k:Nat):(A→Option R):=rc nn (fun k e=>d (g146.ev k).1 (g174.ev k).1) k
theorem ev_ok:∀ k,Ev (ev k) F:=rp n0 (fun k h=>(of (d_cn (.mk ((g146.ev_ok k).1)) (.mk ((g174.ev_ok k).1))) F_of))
end g175
namespace g176
noncomputable def ev (k:Nat):(A→Option R):=rc nn (fun k e=>d (g11.ev k) (g175.ev k)) k
theorem ev_ok:∀ k,Ev (ev k) F:=rp n0 (fun k h=>(of (d_cn (.mk ((g11.ev_ok k))) (.mk ((g175.ev_ok k)))) F_of))
end g176
namespace g177
noncomputable def ev (k:Nat):(A→Option R):=rc nn (fun k e=>d (g176.ev k)) k
theorem ev_ok:∀ k,Ev (ev k) F:=rp n0 (fun k h=>(of (d_cn (.mk ((g176.ev_ok k)))) F_of))
theorem ev_is {k:Nat} {v:A} {r:R} (h:(ev k) v=some r):F v=some r:=(ev_ok k) v r h
end g177
end Go.Proofs.RPn
namespace Go.Proofs.RPn
open Go Go.Eng
set_option linter.unusedVariables false
theorem Y.range {β:Type} {f:g2.R→Option β} {Q:β→Prop} (a b:Int) (L:List Int) (at_:Int) (ha:0≤at_) (hb:at_≤4611686018427387904) (h0:-1099511627776≤a) (h1:a≤b) (h2:b≤1099511627776)
  (k:∀ r,a≤r→r≤b→Y (f (r,L,at_ + 1)) Q):Y (bnd (g2.F (a,b,L,at_)) f) Q:=by
 have:Y (g2.F (a,b,L,at_)) fun r=>∃ x,r=(x,L,at_ + 1)∧a≤x∧x≤b:=by
  refine Y.of (g2.F_of _) (Y.nd (by omega) ?_)
  rw [w64 (x:=b - a) (by omega) (by omega),w64 (x:=b - a + 1) (by omega) (by omega)]
  refine Y.next L at_ (b - a + 1) ha hb (by omega) (by omega) fun r r0 r1=>Y.some ?_
  exact ⟨_,by rw [w64 (x:=a + r) (by omega) (by omega)],by omega,by omega⟩
 obtain ⟨r,hr,x,rfl,h3,h4⟩:=this
 exact Y.bE hr (k x h3 h4)
structure Nt where
 (lat lon sat ang num den beg lng sl sx sy sz mx my mz dusk:Int)
 cl:List Int
@[reducible] def Nt.w {β:Type} (n:Nt) (b:β):Int×Int×Int×Int×Int×Int×Int×Int×Int×Int×Int×Int×Int×Int×Int×Int×List Int×β:=(n.lat,n.lon,n.sat,n.ang,n.num,n.den,n.beg,n.lng,n.sl,n.sx,n.sy,n.sz,n.mx,n.my,n.mz,n.dusk,n.cl,b)
@[reducible] def Nt.v {β:Type} (n:Nt) (b:β):Int×Int×Int×Int×Int×Int×Int×Int×Int×Int×Int×Int×Int×Int×Int×Int×β:=(n.lat,n.lon,n.sat,n.ang,n.num,n.den,n.beg,n.lng,n.sl,n.sx,n.sy,n.sz,n.mx,n.my,n.mz,n.dusk,b)
@[reducible] def Nt.e (n:Nt):g35.A:=(n.lat,n.lon,n.sat,n.ang,n.num,n.den,n.beg,n.lng,n.sl,n.sx,n.sy,n.sz,n.mx,n.my,n.mz,n.dusk,n.cl)
@[reducible] def Nt.r (n:Nt) (L:List Int) (at_:Int):g4.R:=(n.lat,n.lon,n.sat,n.ang,n.num,n.den,n.beg,n.lng,n.sl,n.sx,n.sy,n.sz,n.mx,n.my,n.mz,n.dusk,L,at_,n.cl)
structure Rq where
 (id prop ax ay az len vis least most height moon cloud weight:Int)
@[reducible] def Rq.w {β:Type} (q:Rq) (b:β):Int×Int×Int×Int×Int×Int×Int×Int×Int×Int×Int×Int×Int×β:=(q.id,q.prop,q.ax,q.ay,q.az,q.len,q.vis,q.least,q.most,q.height,q.moon,q.cloud,q.weight,b)
@[reducible] def Rq.e (q:Rq):g41.A:=(q.id,q.prop,q.ax,q.ay,q.az,q.len,q.vis,q.least,q.most,q.height,q.moon,q.cloud,q.weight)
def Vok (x y z:Int):Prop:=(-1048576≤x∧x≤1048576∧-1048576≤y∧y≤1048576∧-1048576≤z∧z≤1048576)∧¬ (x=0∧y=0∧z=0)
def RateOk (a b:Int):Prop:=(a=99429∧b=1994)∨(a=50∧b=1)∨(a=1∧b=1)∨(a=100∧b=1)
structure Nt.Ok (most:Int) (n:Nt):Prop where
 sl:1≤n.sl∧n.sl≤most
 lng:60000≤n.lng∧n.lng≤1800000
 beg:-997000000≤n.beg∧n.beg≤997000000
 lat:-1073741824≤n.lat∧n.lat≤1073741824
 lon:0≤n.lon∧n.lon < 4294967296
 sat:-1000≤n.sat∧n.sat≤1000
 ang:0≤n.ang∧n.ang < 1073741824
 rate:RateOk n.num n.den
 sun:Vok n.sx n.sy n.sz
 moon:Vok n.mx n.my n.mz
 dusk:-1073741824≤n.dusk∧n.dusk≤0
 cn:(n.cl.length:Int)=n.sl
 cl:∀ c ∈ n.cl,0≤c∧c≤4
structure Rq.Ok (q:Rq):Prop where
 id:1≤q.id∧q.id≤999999
 v:Vok q.ax q.ay q.az
 len:1≤q.len∧q.len≤3
 vis:1≤q.vis∧q.vis≤3
 one:q.vis=1→q.least=0∧q.most=0
 more:q.vis≠1→1≤q.least∧q.least≤q.most∧q.most≤64
 height:-1073741824≤q.height∧q.height≤1073741824
 moon:-1073741824≤q.moon∧q.moon≤1073741824
 cloud:0≤q.cloud∧q.cloud≤4
 weight:1≤q.weight∧q.weight≤100
theorem vec_ok {x y z:Int} (h:Vok x y z):g34.F (x,y,z)=some 0:=by
 obtain ⟨h1,h2⟩:=h
 refine Y.is (Y.of (g34.F_of _) (Y.neg ?_ (Y.neg ?_ (Y.some rfl))))
 ·simp only [Bool.or_eq_false_iff,decide_eq_false_iff_not]
  omega
 ·simp only [Bool.and_true,Bool.and_eq_false_iff,decide_eq_false_iff_not]
  omega
theorem within_ok {x a b:Int} (h:a≤x∧x≤b):g12.F (x,a,b)=some true:=Y.is (Y.of (g12.F_of _) (Y.some (by simp [h.1,h.2])))
theorem rate_ok {a b:Int} (h:RateOk a b):g15.F (a,b)=some 0∧1≤a∧(∃ c:Int,g18.F (a,b)=some c∧c≤65536)∧(∃ c:Int,g32.F (a,b,1,1)=some c∧0≤c)∧∃ c:Int,g32.F (a,b,100,1)=some c∧c≤0:=by
 rcases h with ⟨rfl,rfl⟩ | ⟨rfl,rfl⟩ | ⟨rfl,rfl⟩ | ⟨rfl,rfl⟩
 ·exact ⟨g15.ev_is (k:=40) (by decide +kernel),by decide,⟨50,g18.ev_is (k:=40) (by decide +kernel),by decide⟩,⟨1,g32.ev_is (k:=60) (by decide +kernel),by decide⟩,⟨-1,g32.ev_is (k:=60) (by decide +kernel),by decide⟩⟩
 ·exact ⟨g15.ev_is (k:=40) (by decide +kernel),by decide,⟨50,g18.ev_is (k:=40) (by decide +kernel),by decide⟩,⟨1,g32.ev_is (k:=60) (by decide +kernel),by decide⟩,⟨-1,g32.ev_is (k:=60) (by decide +kernel),by decide⟩⟩
 ·exact ⟨g15.ev_is (k:=40) (by decide +kernel),by decide,⟨1,g18.ev_is (k:=40) (by decide +kernel),by decide⟩,⟨0,g32.ev_is (k:=60) (by decide +kernel),by decide⟩,⟨-1,g32.ev_is (k:=60) (by decide +kernel),by decide⟩⟩
 ·exact ⟨g15.ev_is (k:=40) (by decide +kernel),by decide,⟨100,g18.ev_is (k:=40) (by decide +kernel),by decide⟩,⟨1,g32.ev_is (k:=60) (by decide +kernel),by decide⟩,⟨0,g32.ev_is (k:=60) (by decide +kernel),by decide⟩⟩
theorem spin_ok {t a x y:Int} (h1:-1000≤t∧t≤1000) (h2:0≤a∧a < 1073741824) (h:RateOk x y):g33.F (t,a,x,y)=some 0:=by
 obtain ⟨f1,f2,⟨c,f3,f4⟩,⟨d,f5,f6⟩,e,f7,f8⟩:=rate_ok h
 have g:g19.F (t,a,x,y)=some 0:=by
  refine Y.is (Y.of (g19.F_of _) (Y.bE f1 (Y.neg ?_ (Y.neg (by decide) (Y.pos (by simp; omega) (Y.bE f3 (Y.nd (Int.not_lt.mpr f4) (Y.some rfl))))))))
  simp only [Bool.or_eq_false_iff,decide_eq_false_iff_not]
  omega
 exact Y.is (Y.of (g33.F_of _) (Y.bE g (Y.neg (by decide) (Y.bE f5 (Y.pos (by simp; omega) (Y.bE f7 (Y.nd (Int.not_lt.mpr f8) (Y.some rfl))))))))
theorem night_ok {most:Int} {n:Nt} (h:n.Ok most) (hm:most≤64):g35.F n.e=some 0:=by
 have loop (m:Nat):∀ j:Nat,j + m=n.cl.length→g35.D0 (n.cl,(n.cl.length:Int),(j:Int))=some 0:=by
  have:=h.sl
  have:=h.cn
  induction m with
  | zero=>exact fun j e=>Y.is (Y.of (g35.D0_of _) (Y.nd (by omega) (Y.some rfl)))
  | succ m ih=>
   intro j e
   refine Y.is (Y.of (g35.D0_of _) (Y.pd (by omega) (Y.pd (by omega) (Y.bE (within_ok (h.cl _ (rd_mem (t:=.int .i64) n.cl (j:Int) (by omega) (by omega)))) (Y.neg (by decide) ?_)))))
   rw [w64 (x:=(j:Int) + 1) (by omega) (by omega)]
   exact Y.ev (ih (j + 1) (by omega)) rfl
 have:=h.sl
 have h2:=h.lng
 have h3:=h.beg
 have h4:=h.lat
 have h5:=h.lon
 have h6:=h.dusk
 refine Y.is (Y.of (g35.F_of _) (Y.bE (within_ok (by omega)) (Y.neg ?_ (Y.neg ?_ (Y.neg ?_ (Y.bE (spin_ok h.sat h.ang h.rate) (Y.neg (by decide) (Y.bE (vec_ok h.sun) (Y.pos (by decide) (Y.bE (vec_ok h.moon) (Y.neg (by decide) (Y.neg ?_ (Y.neg ?_ (Y.ev (loop n.cl.length 0 (by omega)) rfl))))))))))))))
 ·simp only [Bool.or_eq_false_iff,decide_eq_false_iff_not,Bool.not_true,true_and]
  omega
 ·simp only [Bool.or_eq_false_iff,decide_eq_false_iff_not]
  omega
 ·simp only [Bool.or_eq_false_iff,decide_eq_false_iff_not]
  omega
 ·simp only [Bool.or_eq_false_iff,decide_eq_false_iff_not]
  omega
 ·simp [h.cn]
theorem request_ok {q:Rq} (h:q.Ok):g41.F q.e=some 0:=by
 have h1:=h.height
 have h2:=h.moon
 have h3:=h.len
 have h4:=h.vis
 have d0:g41.D0 q.e=some 0:=by
  refine Y.is (Y.of (g41.D0_of _) (Y.neg ?_ (Y.bE (within_ok h.cloud) (Y.pos (by decide) (Y.bE (within_ok h.weight) (Y.neg (by decide) (Y.some rfl)))))))
  simp only [Bool.or_eq_false_iff,decide_eq_false_iff_not]
  omega
 refine Y.is (Y.of (g41.F_of _) (Y.bE (within_ok h.id) (Y.neg (by decide) (Y.bE (vec_ok h.v) (Y.neg (by decide) (Y.bE (within_ok (by omega)) (Y.pos (by decide) (Y.bE (within_ok (by omega)) (Y.neg (by decide) (Y.ite (fun c=>Y.neg ?_ (Y.ev d0 rfl)) fun c=>?_))))))))))
 ·obtain ⟨e1,e2⟩:=h.one c
  simp [e1,e2]
 ·obtain ⟨e1,e2,e3⟩:=h.more c
  exact Y.bE (within_ok (by omega)) (Y.pos (by decide) (Y.bE (within_ok ⟨e2,e3⟩) (Y.neg (by decide) (Y.ev d0 rfl))))
end Go.Proofs.RPn
namespace Go.Proofs.RPn
open Go Go.Eng
set_option linter.unusedVariables false
def whyV (dk:Bool) (c:Int) (h cb mb:Int×Int×Bool) (H M C:Int):Int:=
 if dk=false then 1 else if C < c then 2 else if (!h.2.2 && decide (H≤h.1))=false then 3
 else if (!cb.2.2 && decide (cb.2.1≤M))=false∧(!mb.2.2 && decide (mb.2.1≤-1))=false then 4 else 0
theorem atLeast_is (b:Int×Int×Bool) (x:Int):g113.F (b.1,b.2.1,b.2.2,x)=some (!b.2.2 && decide (x≤b.1)):=Y.is (Y.of (g113.F_of _) (Y.some rfl))
theorem atMost_is (b:Int×Int×Bool) (x:Int):g111.F (b.1,b.2.1,b.2.2,x)=some (!b.2.2 && decide (b.2.1≤x)):=Y.is (Y.of (g111.F_of _) (Y.some rfl))
theorem why_spec (n:Nt) (q:Rq) (k:Int) (h0:0≤k) (h1:k < n.cl.length):∃ (dk:Bool) (h cb mb:Int×Int×Bool),g112.F (n.w k)=some dk∧g110.F (n.w (q.ax,q.ay,q.az,k))=some h∧g133.F (q.ax,q.ay,q.az,n.mx,n.my,n.mz)=some cb∧g110.F (n.w (n.mx,n.my,n.mz,k))=some mb∧g134.F (n.w (q.w k))=some (whyV dk (rd (.int .i64) n.cl k) h cb mb q.height q.moon q.cloud):=by
 obtain ⟨dk,e1⟩:=window_dark_tot (n.w k)
 obtain ⟨h,e2⟩:=window_height_tot (n.w (q.ax,q.ay,q.az,k))
 obtain ⟨cb,e3⟩:=sphere_Cosine_tot (q.ax,q.ay,q.az,n.mx,n.my,n.mz)
 obtain ⟨mb,e4⟩:=window_height_tot (n.w (n.mx,n.my,n.mz,k))
 refine ⟨dk,h,cb,mb,e1,e2,e3,e4,Y.is (Y.of (g134.F_of _) (Y.bE e1 ?_))⟩
 cases dk with
 | false=>exact Y.pos rfl (Y.some rfl)
 | true=>
  refine Y.neg rfl (Y.pd ⟨h0,h1⟩ (Y.ite (fun c=>Y.some ?_) fun c=>Y.bE e2 (Y.bE (atLeast_is _ _) ?_)))
  ·show 2=whyV _ _ _ _ _ _ _ _
   unfold whyV
   rw [if_neg (by decide),if_pos c]
  ·have f1:∀ x,whyV true (rd (.int .i64) n.cl k) h cb mb q.height q.moon q.cloud=x↔(if (!h.2.2 && decide (q.height≤h.1))=false then 3
 else if (!cb.2.2 && decide (cb.2.1≤q.moon))=false∧(!mb.2.2 && decide (mb.2.1≤-1))=false then 4 else 0)=x:=by
    intro x
    unfold whyV
    rw [if_neg (by decide),if_neg c]
   cases g:(!h.2.2 && decide (q.height≤h.1)) with
   | false=>exact Y.pos rfl (Y.some ((f1 3).mpr (if_pos g)).symm)
   | true=>
    refine Y.neg rfl (Y.bE e3 (Y.bE (atMost_is _ _) ?_))
    cases g2:(!cb.2.2 && decide (cb.2.1≤q.moon)) with
    | true=>
     refine Y.neg (by decide) (Y.neg (by decide) (Y.neg (by decide) (Y.neg (by decide) (Y.pos (by decide) (Y.pos (by decide) (Y.some ?_))))))
     exact ((f1 0).mpr (by rw [if_neg (by rw [g]; decide),if_neg (by rw [g2]; simp)])).symm
    | false=>
     refine Y.pos (by decide) (Y.pos (by decide) (Y.pos (by decide) (Y.bE e4 (Y.pos (by decide) (Y.bE (atMost_is _ _) ?_)))))
     cases g3:(!mb.2.2 && decide (mb.2.1≤-1)) with
     | true=>exact Y.neg (by decide) (Y.some ((f1 0).mpr (by rw [if_neg (by rw [g]; decide),if_neg (by rw [g3]; simp)])).symm)
     | false=>exact Y.pos (by decide) (Y.some ((f1 4).mpr (by rw [if_neg (by rw [g]; decide),if_pos ⟨g2,g3⟩])).symm)
def Codes (n:Nt) (q:Rq) (l:List Int):Prop:=(l.length:Int)=n.sl∧∀ j:Nat,j < l.length→g134.F (n.w (q.w (j:Int)))=l[j]?
theorem slots_spec {most:Int} {n:Nt} {q:Rq} (hn:n.Ok most) (hm:most≤64) (hq:q.Ok):∃ l,g135.F (n.w q.e)=some (0,l)∧Codes n q l:=by
 have hsl:=hn.sl
 have hcn:=hn.cn
 have loop (m:Nat):∀ (j:Nat) (out:List Int) (_:j + m=out.length) (_:(out.length:Int)=n.sl) (_:∀ i:Nat,i < j→g134.F (n.w (q.w (i:Int)))=out[i]?),Y (g135.D0 ((out.length:Int),(j:Int),n.w (q.w out))) fun r=>∃ l,r=(0,l)∧Codes n q l:=by
  induction m with
  | zero=>exact fun j out e e1 h=>Y.of (g135.D0_of _) (Y.nd (by omega) (Y.some ⟨out,rfl,e1,fun i hi=>h i (by omega)⟩))
  | succ m ih=>
   intro j out e e1 h
   obtain ⟨dk,a,b,c,_,_,_,_,e2⟩:=why_spec n q j (by omega) (by omega)
   refine Y.of (g135.D0_of _) (Y.pd (by omega) (Y.bE e2 (Y.pd (by omega) ?_)))
   rw [w64 (x:=(j:Int) + 1) (by omega) (by omega)]
   have:=ih (j + 1) (out.set j (whyV dk (rd (.int .i64) n.cl j) a b c q.height q.moon q.cloud)) (by rw [List.length_set]; omega) (by rw [List.length_set]; omega) ?_
   ·rw [List.length_set] at this
    exact this
   ·intro i hi
    by_cases k:i=j
    ·subst k
     rw [List.getElem?_set_self (by omega)]
     exact e2
    ·rw [List.getElem?_set_ne (by omega)]
     exact h i (by omega)
 have hb:g47.F (n.w q.e)=some 0:=Y.is (Y.of (g47.F_of _) (Y.bE (night_ok hn hm) (Y.neg (by decide) (Y.bE (request_ok hq) (Y.some rfl)))))
 have:Y (g135.F (n.w q.e)) fun r=>∃ l,r=(0,l)∧Codes n q l:=by
  refine Y.of (g135.F_of _) (Y.bE hb (Y.neg (by decide) (Y.pd (by omega) ?_)))
  exact loop n.sl.toNat 0 _ (by rw [List.length_replicate]; omega) (by rw [List.length_replicate]; omega) (fun i hi=>absurd hi (by omega))
 obtain ⟨_,h1,l,rfl,h2⟩:=this
 exact ⟨l,h1,h2⟩
end Go.Proofs.RPn
namespace Go.Proofs.RPn
open Go Go.Eng
set_option linter.unusedVariables false
theorem Y.vec {β:Type} {f:g3.R→Option β} {Q:β→Prop} (L:List Int) (at_:Int) (ha:0≤at_) (hb:at_≤4611686018427000000)
  (k:∀ x y z,Vok x y z→Y (f (x,y,z,L,at_ + 4)) Q):Y (bnd (g3.F (L,at_)) f) Q:=by
 have:Y (g3.F (L,at_)) fun r=>∃ x y z,r=(x,y,z,L,at_ + 4)∧Vok x y z:=by
  refine Y.of (g3.F_of _) (Y.next L at_ 4 ha (by omega) (by omega) (by omega) fun i i0 i1=>?_)
  obtain ⟨m,hm,m0,m1⟩:∃ m:Int,rd (.int .i64) [3,100,5000,1048576] i=m∧3≤m∧m≤1048576:=by
   rcases (show i=0∨i=1∨i=2∨i=3 by omega) with rfl | rfl | rfl | rfl
   ·exact ⟨3,rfl,by decide,by decide⟩
   ·exact ⟨100,rfl,by decide,by decide⟩
   ·exact ⟨5000,rfl,by decide,by decide⟩
   ·exact ⟨1048576,rfl,by decide,by decide⟩
  refine Y.pd ⟨i0,i1⟩ ?_
  dsimp only
  rw [hm,w64 (x:=0 - m) (by omega) (by omega)]
  refine Y.range (0 - m) m L (at_ + 1) (by omega) (by omega) (by omega) (by omega) (by omega) fun x x0 x1=>Y.range (0 - m) m L (at_ + 1 + 1) (by omega) (by omega) (by omega) (by omega) (by omega) fun y y0 y1=>Y.range (0 - m) m L (at_ + 1 + 1 + 1) (by omega) (by omega) (by omega) (by omega) (by omega) fun z z0 z1=>?_
  refine Y.bif (fun c=>Y.of (g3.D0_of _) (Y.some ?_)) fun c=>Y.of (g3.D0_of _) (Y.some ?_)
  ·simp only [Bool.and_true,Bool.and_eq_true,decide_eq_true_eq] at c
   exact ⟨1,y,z,by rw [show at_ + 1 + 1 + 1 + 1=at_ + 4 by omega],⟨by omega,by omega⟩⟩
  ·simp only [Bool.and_true,Bool.and_eq_false_iff,decide_eq_false_iff_not] at c
   exact ⟨x,y,z,by rw [show at_ + 1 + 1 + 1 + 1=at_ + 4 by omega],⟨by omega,by omega⟩⟩
 obtain ⟨r,hr,x,y,z,rfl,h⟩:=this
 exact Y.bE hr (k x y z h)
theorem clouds_spec (most:Int) (hm:1≤most∧most≤64) (n:Nt) (L:List Int) (z0 z1 z2 z3 z4 z5 z6 z7 z8 z9 z10 z11 z12 z13 z14 z15:Int) (zl:List Int) (hsl:1≤n.sl∧n.sl≤most) (m:Nat):∀ (j:Nat) (_:((j + m:Nat):Int)=n.sl) (at_:Int) (_:0≤at_) (_:at_ + 2 * m≤1000) (c:List Int) (_:c.length=j) (_:∀ x ∈ c,0≤x∧x≤4),
  Y (g4.D1 (n.sl,(j:Int),L,at_,z0,z1,z2,z3,z4,z5,z6,z7,z8,z9,z10,z11,z12,z13,z14,z15,n.lat,n.lon,n.sat,n.ang,n.num,n.den,n.beg,n.lng,n.sl,n.sx,n.sy,n.sz,n.mx,n.my,n.mz,n.dusk,zl,c)) fun r=>∃ (c':List Int) (at':Int),r=({ n with cl:=c' }:Nt).r L at'∧(c'.length:Int)=n.sl∧(∀ x ∈ c',0≤x∧x≤4)∧0≤at'∧at'≤1000:=by
 induction m with
 | zero=>exact fun j e at_ a0 a1 c h1 h2=>Y.of (g4.D1_of _) (Y.nd (by omega) (Y.some ⟨c,at_,rfl,by omega,h2,a0,by omega⟩))
 | succ m ih=>
  intro j e at_ a0 a1 c h1 h2
  have step (x:Int) (hx:0≤x∧x≤4) (at':Int) (b0:0≤at') (b1:at' + 2 * m≤1000):Y (g4.D2 (x,n.sl,(j:Int),L,at',z0,z1,z2,z3,z4,z5,z6,z7,z8,z9,z10,z11,z12,z13,z14,z15,n.lat,n.lon,n.sat,n.ang,n.num,n.den,n.beg,n.lng,n.sl,n.sx,n.sy,n.sz,n.mx,n.my,n.mz,n.dusk,zl,c)) fun r=>∃ (c':List Int) (at':Int),r=({ n with cl:=c' }:Nt).r L at'∧(c'.length:Int)=n.sl∧(∀ x ∈ c',0≤x∧x≤4)∧0≤at'∧at'≤1000:=by
   refine Y.of (g4.D2_of _) (Y.pd ?_ (Y.of (g4.D3_of _) ?_))
   ·show c.length + 1≤_
    omega
   ·dsimp only [g4.d3]
    rw [w64 (x:=(j:Int) + 1) (by omega) (by omega)]
    refine ih (j + 1) (by omega) at' b0 b1 (c++[x]) (by rw [List.length_append,h1]; rfl) fun y hy=>?_
    rcases List.mem_append.mp hy with hy | hy
    ·exact h2 y hy
    ·rw [List.mem_singleton.mp hy]
     exact hx
  refine Y.of (g4.D1_of _) (Y.pd (by omega) (Y.next L at_ 5 (by omega) (by omega) (by omega) (by omega) fun x x0 x1=>Y.ite (fun _=>Y.next L (at_ + 1) 5 (by omega) (by omega) (by omega) (by omega) fun y y0 y1=>step y ⟨y0,by omega⟩ (at_ + 1 + 1) (by omega) (by omega)) fun _=>step 0 (by decide) (at_ + 1) (by omega) (by omega)))
theorem Y.night {β:Type} {f:g4.R→Option β} {Q:β→Prop} (most:Int) (hm:1≤most∧most≤64) (L:List Int)
  (k:∀ (n:Nt) (at_:Int),n.Ok most→0≤at_→at_≤1000→Y (f (n.r L at_)) Q):Y (bnd (g4.F (most,L,0)) f) Q:=by
 have:Y (g4.F (most,L,0)) fun r=>∃ (n:Nt) (at_:Int),r=n.r L at_∧n.Ok most∧0≤at_∧at_≤1000:=by
  refine Y.of (g4.F_of _) ?_
  refine Y.range 1 most L (0) (by omega) (by omega) (by omega) (by omega) (by omega) fun sl s0 s1=>?_
  refine Y.range 60 1800 L (0 + 1) (by omega) (by omega) (by omega) (by omega) (by omega) fun lg g0 g1=>?_
  refine Y.range (-1000) 1000 L (0 + 1 + 1) (by omega) (by omega) (by omega) (by omega) (by omega) fun bg b0 b1=>?_
  refine Y.range (-16) 16 L (0 + 1 + 1 + 1) (by omega) (by omega) (by omega) (by omega) (by omega) fun la l0 l1=>?_
  refine Y.next L (0 + 1 + 1 + 1 + 1) 64 (by omega) (by omega) (by omega) (by omega) fun lo o0 o1=>?_
  refine Y.range (-1000) 1000 L (0 + 1 + 1 + 1 + 1 + 1) (by omega) (by omega) (by omega) (by omega) (by omega) fun sa t0 t1=>?_
  refine Y.next L (0 + 1 + 1 + 1 + 1 + 1 + 1) 1073741824 (by omega) (by omega) (by omega) (by omega) fun an n0 n1=>?_
  refine Y.next L (0 + 1 + 1 + 1 + 1 + 1 + 1 + 1) 4 (by omega) (by omega) (by omega) (by omega) fun i i0 i1=>Y.pd ⟨i0,i1⟩ ?_
  have hr:RateOk (rd (.pair (.int .i64) (.int .i64)) [(99429,1994),(50,1),(1,1),(100,1)] i).1 (rd (.pair (.int .i64) (.int .i64)) [(99429,1994),(50,1),(1,1),(100,1)] i).2:=by
   rcases (show i=0∨i=1∨i=2∨i=3 by omega) with rfl | rfl | rfl | rfl
   ·exact .inl ⟨rfl,rfl⟩
   ·exact .inr (.inl ⟨rfl,rfl⟩)
   ·exact .inr (.inr (.inl ⟨rfl,rfl⟩))
   ·exact .inr (.inr (.inr ⟨rfl,rfl⟩))
  refine Y.vec L (0 + 1 + 1 + 1 + 1 + 1 + 1 + 1 + 1) (by omega) (by omega) fun sx sy sz hs=>?_
  refine Y.vec L (0 + 1 + 1 + 1 + 1 + 1 + 1 + 1 + 1 + 4) (by omega) (by omega) fun mx my mz hm'=>?_
  refine Y.next L (0 + 1 + 1 + 1 + 1 + 1 + 1 + 1 + 1 + 4 + 4) 3 (by omega) (by omega) (by omega) (by omega) fun du d0 d1=>?_
  refine Y.next L (0 + 1 + 1 + 1 + 1 + 1 + 1 + 1 + 1 + 4 + 4 + 1) 4 (by omega) (by omega) (by omega) (by omega) fun x x0 x1=>?_
  dsimp only
  rw [w64 (x:=la * 67108864) (by omega) (by omega),w64 (x:=lo * 67108864) (by omega) (by omega),w64 (x:=bg * 997000) (by omega) (by omega),w64 (x:=lg * 1000) (by omega) (by omega),w64 (x:=0 - du) (by omega) (by omega),w64 (x:=(0 - du) * 134217728) (by omega) (by omega)]
  have fin (lat sx sy sz dusk:Int) (h1:-1073741824≤lat∧lat≤1073741824) (h2:Vok sx sy sz) (h3:-1073741824≤dusk∧dusk≤0) (at_:Int) (a0:0≤at_) (a1:at_≤800) (z0 z1 z2 z3 z4 z5 z6 z7 z8 z9 z10 z11 z12 z13 z14 z15:Int) (zl:List Int) (num den:Int) (hr:RateOk num den) :
    Y (g4.D0 (L,at_,z0,z1,z2,z3,z4,z5,z6,z7,z8,z9,z10,z11,z12,z13,z14,z15,lat,lo * 67108864,sa,an,num,den,bg * 997000,lg * 1000,sl,sx,sy,sz,mx,my,mz,dusk,zl,[])) fun r=>∃ (n:Nt) (at_:Int),r=n.r L at_∧n.Ok most∧0≤at_∧at_≤1000:=by
   refine Y.of (g4.D0_of _) ?_
   refine Y.mono (clouds_spec most hm ⟨lat,lo * 67108864,sa,an,num,den,bg * 997000,lg * 1000,sl,sx,sy,sz,mx,my,mz,dusk,[]⟩ L z0 z1 z2 z3 z4 z5 z6 z7 z8 z9 z10 z11 z12 z13 z14 z15 zl ⟨s0,s1⟩ sl.toNat 0 (by show ((0 + sl.toNat:Nat):Int)=sl; omega) at_ a0 (by omega) [] rfl (fun x hx=>absurd hx (by simp))) ?_
   rintro r ⟨c',at',rfl,h4,h5,h6,h7⟩
   refine ⟨_,at',rfl,?_,h6,h7⟩
   exact ⟨⟨s0,s1⟩,(by show 60000≤lg * 1000∧lg * 1000≤1800000; omega),(by show -997000000≤bg * 997000∧bg * 997000≤997000000; omega),h1,(by show 0≤lo * 67108864∧lo * 67108864 < 4294967296; omega),⟨t0,t1⟩,⟨n0,n1⟩,hr,h2,hm',h3,h4,h5⟩
  refine Y.ite (fun _=>Y.ite (fun _=>?_) fun _=>?_) fun _=>?_
  ·exact fin _ _ _ _ _ (by decide) ⟨by decide,by decide⟩ (by decide) _ (by omega) (by omega) _ _ _ _ _ _ _ _ _ _ _ _ _ _ _ _ _ _ _ hr
  ·exact fin _ _ _ _ _ (by decide) ⟨by decide,by decide⟩ (by decide) _ (by omega) (by omega) _ _ _ _ _ _ _ _ _ _ _ _ _ _ _ _ _ _ _ hr
  ·exact fin _ _ _ _ _ (by omega) hs (by omega) _ (by omega) (by omega) _ _ _ _ _ _ _ _ _ _ _ _ _ _ _ _ _ _ _ hr
 obtain ⟨r,hr,n,at_,rfl,h1,h2,h3⟩:=this
 exact Y.bE hr (k n at_ h1 h2 h3)
theorem Y.request {β:Type} {f:g9.R→Option β} {Q:β→Prop} {most:Int} {n:Nt} (hn:n.Ok most) (id np:Int) (hid:1≤id∧id≤999999) (hnp:1≤np∧np≤1000) (L:List Int) (B:Int) (a0:0≤B) (a1:B≤1000000)
  (k:∀ (q:Rq) (at_:Int),q.Ok→q.id=id→0≤q.prop→q.prop < np→0≤at_→at_≤B + 40→Y (f (q.w (L,at_))) Q):Y (bnd (g9.F (n.v (id,np,L,B))) f) Q:=by
 have:Y (g9.F (n.v (id,np,L,B))) fun r=>∃ (q:Rq) (at_:Int),r=q.w (L,at_)∧(q.Ok∧q.id=id∧0≤q.prop∧q.prop < np)∧0≤at_∧at_≤B + 40:=by
  have f5 (q:Rq) (hq:q.Ok∧q.id=id∧0≤q.prop∧q.prop < np) (at_:Int) (a0:0≤at_) (a1:at_≤B + 40) (z0 z1 z2 z3 z4 z5 z6 z7 z8 z9 z10 z11 z12:Int):Y (g9.D5 (L,at_,z0,z1,z2,z3,z4,z5,z6,z7,z8,z9,z10,z11,z12,q.e)) fun r=>∃ (q:Rq) (at_:Int),r=q.w (L,at_)∧(q.Ok∧q.id=id∧0≤q.prop∧q.prop < np)∧0≤at_∧at_≤B + 40:=Y.of (g9.D5_of _) (Y.some ⟨q,at_,rfl,hq,a0,a1⟩)
  have f4 (q:Rq) (hq:q.Ok∧q.id=id∧0≤q.prop∧q.prop < np) (at_:Int) (a0:0≤at_) (a1:at_≤B + 36) (z0 z1 z2 z3 z4 z5 z6 z7 z8 z9 z10 z11 z12:Int):Y (g9.D4 (L,at_,z0,z1,z2,z3,z4,z5,z6,z7,z8,z9,z10,z11,z12,q.e)) fun r=>∃ (q:Rq) (at_:Int),r=q.w (L,at_)∧(q.Ok∧q.id=id∧0≤q.prop∧q.prop < np)∧0≤at_∧at_≤B + 40:=by
   refine Y.of (g9.D4_of _) (Y.next L _ 6 (by omega) (by omega) (by omega) (by omega) fun x x0 x1=>Y.ite (fun _=>Y.range (-8) 8 L (at_ + 1) (by omega) (by omega) (by omega) (by omega) (by omega) fun y y0 y1=>?_) fun _=>f5 q hq (at_ + 1) (by omega) (by omega) _ _ _ _ _ _ _ _ _ _ _ _ _)
   dsimp only
   rw [w64 (x:=y * 134217728) (by omega) (by omega)]
   exact f5 { q with height:=y * 134217728 } ⟨⟨hq.1.id,hq.1.v,hq.1.len,hq.1.vis,hq.1.one,hq.1.more,(by show -1073741824≤y * 134217728∧y * 134217728≤1073741824; omega),hq.1.moon,hq.1.cloud,hq.1.weight⟩,hq.2⟩ (at_ + 1 + 1) (by omega) (by omega) _ _ _ _ _ _ _ _ _ _ _ _ _
  have f3 (q:Rq) (hq:q.Ok∧q.id=id∧0≤q.prop∧q.prop < np) (at_:Int) (a0:0≤at_) (a1:at_≤B + 33) (z0 z1 z2 z3 z4 z5 z6 z7 z8 z9 z10 z11 z12:Int):Y (g9.D3 (L,at_,z0,z1,z2,z3,z4,z5,z6,z7,z8,z9,z10,z11,z12,q.e)) fun r=>∃ (q:Rq) (at_:Int),r=q.w (L,at_)∧(q.Ok∧q.id=id∧0≤q.prop∧q.prop < np)∧0≤at_∧at_≤B + 40:=by
   refine Y.of (g9.D3_of _) (Y.next L _ 4 (by omega) (by omega) (by omega) (by omega) fun x x0 x1=>Y.ite (fun _=>Y.range (-8) 8 L (at_ + 1) (by omega) (by omega) (by omega) (by omega) (by omega) fun y y0 y1=>?_) fun _=>f4 q hq (at_ + 1) (by omega) (by omega) _ _ _ _ _ _ _ _ _ _ _ _ _)
   dsimp only
   rw [w64 (x:=y * 134217728) (by omega) (by omega)]
   exact f4 { q with moon:=y * 134217728 } ⟨⟨hq.1.id,hq.1.v,hq.1.len,hq.1.vis,hq.1.one,hq.1.more,hq.1.height,(by show -1073741824≤y * 134217728∧y * 134217728≤1073741824; omega),hq.1.cloud,hq.1.weight⟩,hq.2⟩ (at_ + 1 + 1) (by omega) (by omega) _ _ _ _ _ _ _ _ _ _ _ _ _
  have f2 (q:Rq) (hq:q.Ok∧q.id=id∧0≤q.prop∧q.prop < np) (at_:Int) (a0:0≤at_) (a1:at_≤B + 30) (z0 z1 z2 z3 z4 z5 z6 z7 z8 z9 z10 z11 z12:Int):Y (g9.D2 (L,at_,z0,z1,z2,z3,z4,z5,z6,z7,z8,z9,z10,z11,z12,q.e)) fun r=>∃ (q:Rq) (at_:Int),r=q.w (L,at_)∧(q.Ok∧q.id=id∧0≤q.prop∧q.prop < np)∧0≤at_∧at_≤B + 40:=by
   refine Y.of (g9.D2_of _) (Y.next L _ 3 (by omega) (by omega) (by omega) (by omega) fun x x0 x1=>Y.ite (fun _=>Y.next L (at_ + 1) 4 (by omega) (by omega) (by omega) (by omega) fun y y0 y1=>?_) fun _=>f3 q hq (at_ + 1) (by omega) (by omega) _ _ _ _ _ _ _ _ _ _ _ _ _)
   exact f3 { q with cloud:=y } ⟨⟨hq.1.id,hq.1.v,hq.1.len,hq.1.vis,hq.1.one,hq.1.more,hq.1.height,hq.1.moon,⟨y0,(by show y≤4; omega)⟩,hq.1.weight⟩,hq.2⟩ (at_ + 1 + 1) (by omega) (by omega) _ _ _ _ _ _ _ _ _ _ _ _ _
  have f1 (prop ax ay az len vis height moon cloud weight:Int) (h1:0≤prop∧prop < np) (h2:Vok ax ay az) (h3:1≤len∧len≤3) (h4:1≤vis∧vis≤3) (h5:-1073741824≤height∧height≤1073741824) (h6:-1073741824≤moon∧moon≤1073741824) (h7:0≤cloud∧cloud≤4) (h8:1≤weight∧weight≤100) (at_:Int) (a0:0≤at_) (a1:at_≤B + 27) (z0 z1 z2 z3 z4 z5 z6 z7 z8 z9 z10 z11 z12:Int):Y (g9.D1 (L,at_,z0,z1,z2,z3,z4,z5,z6,z7,z8,z9,z10,z11,z12,id,prop,ax,ay,az,len,vis,0,0,height,moon,cloud,weight)) fun r=>∃ (q:Rq) (at_:Int),r=q.w (L,at_)∧(q.Ok∧q.id=id∧0≤q.prop∧q.prop < np)∧0≤at_∧at_≤B + 40:=by
   refine Y.of (g9.D1_of _) (Y.ite (fun c=>Y.range 1 6 L at_ (by omega) (by omega) (by omega) (by omega) (by omega) fun x x0 x1=>Y.next L (at_ + 1) 12 (by omega) (by omega) (by omega) (by omega) fun y y0 y1=>?_) fun c=>?_)
   ·dsimp only
    rw [w64 (x:=x + y) (by omega) (by omega)]
    exact f2 ⟨id,prop,ax,ay,az,len,vis,x,min 64 (x + y),height,moon,cloud,weight⟩ ⟨⟨hid,h2,h3,h4,fun e=>absurd e (by show ¬ vis=1; omega),fun _=>(by show 1≤x∧x≤min 64 (x + y)∧min 64 (x + y)≤64; omega),h5,h6,h7,h8⟩,rfl,h1⟩ (at_ + 1 + 1) (by omega) (by omega) _ _ _ _ _ _ _ _ _ _ _ _ _
   ·exact f2 ⟨id,prop,ax,ay,az,len,vis,0,0,height,moon,cloud,weight⟩ ⟨⟨hid,h2,h3,h4,fun _=>⟨rfl,rfl⟩,fun e=>absurd (show vis=1 by omega) e,h5,h6,h7,h8⟩,rfl,h1⟩ at_ (by omega) (by omega) _ _ _ _ _ _ _ _ _ _ _ _ _
  have f0 (prop ax ay az len vis height moon cloud weight:Int) (h1:0≤prop∧prop < np) (h2:Vok ax ay az) (h3:1≤len∧len≤3) (h4:1≤vis∧vis≤3) (h6:-1073741824≤moon∧moon≤1073741824) (h7:0≤cloud∧cloud≤4) (h8:1≤weight∧weight≤100) (at_:Int) (a0:0≤at_) (a1:at_≤B + 24) (z0 z1 z2 z3 z4 z5 z6 z7 z8 z9 z10 z11 z12:Int):Y (g9.D0 (L,at_,z0,z1,z2,z3,z4,z5,z6,z7,z8,z9,z10,z11,z12,id,prop,ax,ay,az,len,vis,0,0,height,moon,cloud,weight)) fun r=>∃ (q:Rq) (at_:Int),r=q.w (L,at_)∧(q.Ok∧q.id=id∧0≤q.prop∧q.prop < np)∧0≤at_∧at_≤B + 40:=by
   refine Y.of (g9.D0_of _) (Y.range 0 4 L at_ (by omega) (by omega) (by omega) (by omega) (by omega) fun x x0 x1=>?_)
   dsimp only
   rw [w64 (x:=x * 134217728) (by omega) (by omega)]
   exact f1 _ _ _ _ _ _ _ _ _ _ h1 h2 h3 h4 (by omega) h6 h7 h8 (at_ + 1) (by omega) (by omega) _ _ _ _ _ _ _ _ _ _ _ _ _
  refine Y.of (g9.F_of _) ?_
  refine Y.next L B np (by omega) (by omega) (by omega) (by omega) fun p p0 p1=>?_
  refine Y.vec L (B + 1) (by omega) (by omega) fun ax ay az hv=>?_
  refine Y.range 1 3 L (B + 1 + 4) (by omega) (by omega) (by omega) (by omega) (by omega) fun len e0 e1=>?_
  refine Y.range 1 3 L (B + 1 + 4 + 1) (by omega) (by omega) (by omega) (by omega) (by omega) fun vis v0 v1=>?_
  refine Y.range 1 5 L (B + 1 + 4 + 1 + 1) (by omega) (by omega) (by omega) (by omega) (by omega) fun wt w0 w1=>?_
  refine Y.next L (B + 1 + 4 + 1 + 1 + 1) 2 (by omega) (by omega) (by omega) (by omega) fun c c0 c1=>Y.ite (fun _=>?_) fun _=>?_
  ·refine Y.range (-9) 9 L (B + 1 + 4 + 1 + 1 + 1 + 1) (by omega) (by omega) (by omega) (by omega) (by omega) fun x x0 x1=>?_
   refine Y.range (-9) 9 L (B + 1 + 4 + 1 + 1 + 1 + 1 + 1) (by omega) (by omega) (by omega) (by omega) (by omega) fun y y0 y1=>?_
   refine Y.ite (fun _=>?_) fun _=>?_
   ·exact f0 _ _ _ _ _ _ _ _ _ _ ⟨p0,p1⟩ ⟨by omega,by omega⟩ ⟨e0,e1⟩ ⟨v0,v1⟩ (by decide) (by decide) ⟨w0,by omega⟩ (B + 1 + 4 + 1 + 1 + 1 + 1 + 1 + 1) (by omega) (by omega) _ _ _ _ _ _ _ _ _ _ _ _ _
   ·exact f0 _ _ _ _ _ _ _ _ _ _ ⟨p0,p1⟩ ⟨by omega,by omega⟩ ⟨e0,e1⟩ ⟨v0,v1⟩ (by decide) (by decide) ⟨w0,by omega⟩ (B + 1 + 4 + 1 + 1 + 1 + 1 + 1 + 1) (by omega) (by omega) _ _ _ _ _ _ _ _ _ _ _ _ _
  ·exact f1 _ _ _ _ _ _ _ _ _ _ ⟨p0,p1⟩ hv ⟨e0,e1⟩ ⟨v0,v1⟩ (by decide) (by decide) (by decide) ⟨w0,by omega⟩ (B + 1 + 4 + 1 + 1 + 1 + 1) (by omega) (by omega) _ _ _ _ _ _ _ _ _ _ _ _ _
 obtain ⟨r,hr,q,at_,rfl,⟨h1,h4,h5,h6⟩,h2,h3⟩:=this
 exact Y.bE hr (k q at_ h1 h4 h5 h6 h2 h3)
end Go.Proofs.RPn
namespace Go.Proofs.RPn
open Go Go.Eng
set_option linter.unusedVariables false
structure Ax where
 (lo hi sp ac:Int)
structure Ax.Ok (a:Ax):Prop where
 lo:-17179869184≤a.lo
 hi:a.hi≤17179869184
 le:a.lo≤a.hi
 sp:16777216≤a.sp∧a.sp≤1073741824
 ac:1≤a.ac∧a.ac≤a.sp∧a.sp≤a.ac * 64
theorem axis_ok {a:Ax} (h:a.Ok):g36.F (a.lo,a.hi,a.sp,a.ac)=some 0:=by
 obtain ⟨h1,h2,h3,h4,h5⟩:=h
 refine Y.is (Y.of (g36.F_of _) (Y.neg ?_ (Y.nd (by omega) (Y.neg ?_ (Y.some rfl)))))
 ·simp only [Bool.or_eq_false_iff,decide_eq_false_iff_not]
  omega
 ·rw [w64 (x:=a.ac * 64) (by omega) (by omega)]
  simp only [Bool.or_eq_false_iff,decide_eq_false_iff_not]
  omega
theorem in_is (a b c d x:Int):g37.F (a,b,c,d,x)=some (decide (a≤x) && decide (x≤b)):=Y.is (Y.of (g37.F_of _) (Y.some rfl))
theorem in_ok {a b x:Int} (c d:Int) (h0:a≤x) (h1:x≤b):g37.F (a,b,c,d,x)=some true:=by rw [in_is]; simp [h0,h1]
theorem slew_mod_spec (x:Int):Y (g151.F x) fun (r:Int)=>0≤r∧r < 4294967296:=by
 have h1:=Int.tmod_lt_of_pos x (b:=4294967296) (by decide)
 have h2:=Int.lt_tmod_of_pos x (b:=4294967296) (by decide)
 refine Y.of (g151.F_of _) (Y.nn (by decide) (Y.ite (fun c=>Y.of (g151.D0_of _) (Y.some ?_)) fun c=>Y.of (g151.D0_of _) (Y.some ?_)))
 ·rw [w64 (by omega) (by omega)]
  omega
 ·exact ⟨by omega,by omega⟩
theorem slew_abs_is (x:Int):g152.F x=some (max x (wrap .i64 (0 - x))):=Y.is (Y.of (g152.F_of _) (Y.some rfl))
theorem target_spec {a:Ax} (h:a.Ok) (s w:Int) (h0:a.lo≤s) (h1:s≤a.hi):Y (g153.F (a.lo,a.hi,a.sp,a.ac,s,w)) fun r=>r.2=0→a.lo≤r.1∧r.1≤a.hi:=by
 have h2:=h.lo
 have h3:=h.hi
 have loop (m:Nat):∀ p best:Int,a.hi - p < m→a.lo≤p→p≤21474836480→a.lo≤best→best≤a.hi→Y (g153.D0 (s,p,best,a.lo,a.hi,a.sp,a.ac)) fun r=>r.2=0→a.lo≤r.1∧r.1≤a.hi:=by
  induction m with
  | zero=>exact fun p best e _ _ b0 b1=>Y.of (g153.D0_of _) (Y.nd (by omega) (Y.some fun _=>⟨b0,b1⟩))
  | succ m ih=>
   intro p best e p0 p1 b0 b1
   refine Y.of (g153.D0_of _) (Y.ite (fun c=>Y.bE (slew_abs_is _) (Y.bE (slew_abs_is _) (Y.ite (fun _=>Y.of (g153.D1_of _) ?_) fun _=>Y.of (g153.D1_of _) ?_))) fun _=>Y.some fun _=>⟨b0,b1⟩)
   ·dsimp only [g153.d1]
    rw [w64 (x:=p + 4294967296) (by omega) (by omega)]
    exact ih _ _ (by omega) (by omega) (by omega) p0 c
   ·dsimp only [g153.d1]
    rw [w64 (x:=p + 4294967296) (by omega) (by omega)]
    exact ih _ _ (by omega) (by omega) (by omega) b0 b1
 refine Y.of (g153.F_of _) (Y.bE (axis_ok h) (Y.neg (by decide) (Y.bE (in_ok _ _ h0 h1) (Y.neg (by decide) (Y.bnd _ (slew_mod_spec _) fun (x:Int) (hx:0≤x∧x < 4294967296)=>Y.bnd _ (slew_mod_spec _) fun (y:Int) (hy:0≤y∧y < 4294967296)=>Y.bnd _ (slew_mod_spec _) fun (z:Int) (hz:0≤z∧z < 4294967296)=>?_)))))
 rw [w64 (x:=a.lo + z) (by omega) (by omega)]
 refine Y.ite (fun _=>Y.some fun e=>absurd e (by decide)) fun c=>?_
 exact loop (a.hi - (a.lo + z) + 1).toNat _ _ (by omega) (by omega) (by omega) (by omega) (by omega)
def tri (k:Nat):Nat:=k * (k + 1) / 2
theorem tri_all:∀ k:Nat,k < 66→k * (k + 1)=2 * tri k∧(k + 1) * k=2 * tri k∧k≤tri k∧tri k≤2145:=by decide
theorem tri_up (k:Nat) (h:k < 66):(wrap .i64 ((k:Int) * wrap .i64 ((k:Int) + 1))).tdiv 2=tri k:=by
 obtain ⟨h1,h2,h3,h4⟩:=tri_all k h
 have e:(k:Int) * ((k:Int) + 1)=2 * (tri k:Int):=by exact_mod_cast h1
 rw [w64 (x:=(k:Int) + 1) (by omega) (by omega),e,w64 (by omega) (by omega)]
 exact Int.mul_tdiv_cancel_left _ (by decide)
theorem tri_down (k:Nat) (h:k < 66):(wrap .i64 (((k:Int) + 1) * wrap .i64 ((k:Int) + 1 - 1))).tdiv 2=tri k:=by
 obtain ⟨h1,h2,h3,h4⟩:=tri_all k h
 have e:((k:Int) + 1) * (k:Int)=2 * (tri k:Int):=by exact_mod_cast h2
 rw [show (k:Int) + 1 - 1=k by omega,w64 (x:=(k:Int)) (by omega) (by omega),e,w64 (by omega) (by omega)]
 exact Int.mul_tdiv_cancel_left _ (by decide)
theorem fastest_spec {a:Ax} (h:a.Ok) (d:Int) (h0:1≤d) (h1:d≤1099511627776):Y (g154.F (a.lo,a.hi,a.sp,a.ac,d)) fun (r:Int)=>1≤r∧r≤a.sp:=by
 obtain ⟨a1,a2,a3⟩:=h.ac
 have hs:=h.sp
 have pr (t:Nat) (ht:t≤2145):(t:Int)≤a.ac * t∧a.ac * t≤1073741824 * 2145:=by
  constructor
  ·have:=Int.mul_le_mul_of_nonneg_right a1 (show (0:Int)≤t by omega)
   omega
  ·exact Int.mul_le_mul (by omega) (by omega) (by omega) (by decide)
 have loop (m:Nat):∀ j:Nat,j + m=64→a.ac * (tri j:Int) < d→Y (g154.D0 (d,(j:Int) + 1,a.lo,a.hi,a.sp,a.ac)) fun (r:Int)=>1≤r∧r≤a.sp:=by
  induction m with
  | zero=>exact fun j e _=>Y.of (g154.D0_of _) (Y.nd (by omega) (Y.some ⟨by omega,by omega⟩))
  | succ m ih=>
   intro j e hd
   obtain ⟨t1,t2,t3,t4⟩:=tri_all j (by omega)
   obtain ⟨u1,u2,u3,u4⟩:=tri_all (j + 1) (by omega)
   have p1:=pr (tri j) t4
   have p2:=pr (tri (j + 1)) u4
   have e1:=tri_up (j + 1) (by omega)
   rw [show (((j + 1:Nat):Int))=(j:Int) + 1 by omega] at e1
   have e2:=tri_down j (by omega)
   refine Y.of (g154.D0_of _) (Y.pd (by omega) (Y.nn (by decide) ?_))
   rw [e1,w64 (x:=(tri (j + 1):Int)) (by omega) (by omega),w64 (x:=a.ac * (tri (j + 1):Int)) (by omega) (by omega)]
   refine Y.ite (fun _=>Y.nn (by decide) (Y.nn (by omega) (Y.some ?_))) fun c=>?_
   ·rw [e2,w64 (x:=(tri j:Int)) (by omega) (by omega),w64 (x:=a.ac * (tri j:Int)) (by omega) (by omega),w64 (x:=d + a.ac * (tri j:Int)) (by omega) (by omega),Int.tdiv_eq_ediv_of_nonneg (by omega)]
    have q1:1≤(d + a.ac * (tri j:Int)) / ((j:Int) + 1):=Int.le_ediv_of_mul_le (by omega) (by omega)
    have q2:(d + a.ac * (tri j:Int)) / ((j:Int) + 1)≤d + a.ac * (tri j:Int):=Int.ediv_le_self _ (by omega)
    rw [w64 (by omega) (by omega)]
    exact ⟨by omega,by omega⟩
   ·rw [w64 (x:=(j:Int) + 1 + 1) (by omega) (by omega)]
    have:=ih (j + 1) (by omega) (by omega)
    rw [show (((j + 1:Nat):Int))=(j:Int) + 1 by omega] at this
    exact this
 exact Y.of (g154.F_of _) (loop 64 0 rfl (by show a.ac * ((0:Nat):Int) < d; omega))
theorem stop_spec {a:Ax} (h:a.Ok):Y (g155.F (a.lo,a.hi,a.sp,a.ac)) fun (r:Int)=>-9223372036854775808≤r∧r≤9223372036854775807:=by
 have:=h.ac
 exact Y.of (g155.F_of _) (Y.nn (by omega) (Y.nn (by decide) (Y.some (w64_range _))))
theorem steps_spec {a:Ax} (h:a.Ok) (s w:Int) (h0:a.lo≤s) (h1:s≤a.hi) (g0:a.lo≤w) (g1:w≤a.hi):Y (g156.F (a.lo,a.hi,a.sp,a.ac,s,w)) fun _=>True:=by
 have h2:=h.lo
 have h3:=h.hi
 have h4:=h.sp
 obtain ⟨a1,a2,a3⟩:=h.ac
 have loop (m:Nat):∀ d v n:Int,d < m→-9223372036854775808≤d→d≤1099511627776→0≤v→v≤a.sp→Y (g156.D0 (d,v,n,a.lo,a.hi,a.sp,a.ac)) fun _=>True:=by
  have stop (d v n:Int) (c:¬ 0 < d):Y (g156.D0 (d,v,n,a.lo,a.hi,a.sp,a.ac)) fun _=>True:=
   Y.of (g156.D0_of _) (Y.nd c (Y.ite (fun _=>Y.of (g156.D2_of _) (Y.some trivial)) fun _=>Y.of (g156.D2_of _) (Y.some trivial)))
  induction m with
  | zero=>exact fun d v n e _ _ _ _=>stop d v n (by omega)
  | succ m ih=>
   intro d v n e d0 d1 v0 v1
   by_cases c:0 < d
   ·refine Y.of (g156.D0_of _) (Y.pd c (Y.bnd _ (fastest_spec h d (by omega) d1) fun (r:Int) (hr:1≤r∧r≤a.sp)=>Y.bnd _ (stop_spec h) fun (x:Int) (hx:-9223372036854775808≤x∧x≤9223372036854775807)=>Y.nn (by omega) ?_))
    rw [w64 (x:=v + a.ac) (by omega) (by omega)]
    refine Y.bif (fun k=>Y.of (g156.D1_of _) ?_) fun k=>Y.of (g156.D1_of _) ?_
    ·have hw:=w64_range (d - x)
     generalize wrap .i64 (d - x)=y at k hw ⊢
     have q0:=Int.tdiv_eq_ediv (a:=y) (b:=a.sp)
     rw [Bool.and_eq_true,decide_eq_true_eq,decide_eq_true_eq] at k
     obtain ⟨k1,k2⟩:=k
     by_cases y0:0≤y
     ·rw [Int.tdiv_eq_ediv_of_nonneg y0] at k2 ⊢
      have q1:y / a.sp≤y:=Int.ediv_le_self _ y0
      have q2:0≤y / a.sp:=Int.ediv_nonneg y0 (by omega)
      have q3:(y / a.sp) * a.sp≤y:=Int.ediv_mul_le y (by omega)
      rw [w64 (x:=y / a.sp) (by omega) (by omega)] at k2 ⊢
      have q4:(y / a.sp - 1) * a.sp=(y / a.sp) * a.sp - a.sp:=by rw [Int.sub_mul,Int.one_mul]
      have q5:1 * a.sp≤(y / a.sp - 1) * a.sp:=Int.mul_le_mul_of_nonneg_right (by omega) (by omega)
      dsimp only [g156.d1]
      rw [w64 (x:=y / a.sp - 1) (by omega) (by omega),w64 (x:=(y / a.sp - 1) * a.sp) (by omega) (by omega),w64 (x:=d - (y / a.sp - 1) * a.sp) (by omega) (by omega),w64 (x:=d - (y / a.sp - 1) * a.sp - min (v + a.ac) r) (by omega) (by omega)]
      exact ih _ _ _ (by omega) (by omega) (by omega) (by omega) (by omega)
     ·exfalso
      have q1:Int.tdiv y a.sp≤0:=by
       rw [show y = -(-y) by omega,Int.neg_tdiv]
       have:=Int.tdiv_nonneg (a:=-y) (b:=a.sp) (by omega) (by omega)
       omega
      have q2:-9223372036854775808≤Int.tdiv y a.sp:=by
       rw [show y = -(-y) by omega,Int.neg_tdiv,Int.tdiv_eq_ediv_of_nonneg (by omega)]
       have:(-y) / a.sp≤-y:=Int.ediv_le_self _ (by omega)
       omega
      rw [w64 q2 (by omega)] at k2
      omega
    ·dsimp only [g156.d1]
     rw [w64 (x:=d - min (v + a.ac) r) (by omega) (by omega)]
     exact ih _ _ _ (by omega) (by omega) (by omega) (by omega) (by omega)
   ·exact stop d v n c
 refine Y.of (g156.F_of _) (Y.bE (axis_ok h) (Y.neg (by decide) (Y.bE (in_ok _ _ h0 h1) (Y.pos (by decide) (Y.bE (in_ok _ _ g0 g1) (Y.neg (by decide) (Y.bE (slew_abs_is _) ?_)))))))
 rw [w64 (x:=w - s) (by omega) (by omega),w64 (x:=0 - (w - s)) (by omega) (by omega)]
 exact loop (max (w - s) (0 - (w - s)) + 1).toNat _ _ _ (by omega) (by omega) (by omega) (by omega) (by omega)
structure Mt where
 (az al:Ax)
 (pz pl:Int)
@[reducible] def Mt.w {β:Type} (m:Mt) (b:β):Int×Int×Int×Int×Int×Int×Int×Int×Int×Int×β:=(m.az.lo,m.az.hi,m.az.sp,m.az.ac,m.al.lo,m.al.hi,m.al.sp,m.al.ac,m.pz,m.pl,b)
@[reducible] def Mt.e (m:Mt):g38.A:=(m.az.lo,m.az.hi,m.az.sp,m.az.ac,m.al.lo,m.al.hi,m.al.sp,m.al.ac,m.pz,m.pl)
structure Mt.Ok (m:Mt):Prop where
 az:m.az.Ok
 al:m.al.Ok
 pz:m.az.lo≤m.pz∧m.pz≤m.az.hi
 pl:m.al.lo≤m.pl∧m.pl≤m.al.hi
theorem mount_ok {m:Mt} (h:m.Ok):g38.F m.e=some 0:=
 Y.is (Y.of (g38.F_of _) (Y.bE (axis_ok h.az) (Y.neg (by decide) (Y.bE (axis_ok h.al) (Y.neg (by decide) (Y.bE (in_ok _ _ h.pz.1 h.pz.2) (Y.pos (by decide) (Y.bE (in_ok _ _ h.pl.1 h.pl.2) (Y.neg (by decide) (Y.some rfl))))))))))
end Go.Proofs.RPn
namespace Go.Proofs.RPn
open Go Go.Eng
set_option linter.unusedVariables false
abbrev QT:Type:=Int×Int×(Int×Int×Int)×Int×Int×Int×Int×Int×Int×Int×Int
@[reducible] def Rq.t (q:Rq):QT:=(q.id,q.prop,(q.ax,q.ay,q.az),q.len,q.vis,q.least,q.most,q.height,q.moon,q.cloud,q.weight)
structure Dk where
 n:Nt
 m:Mt
 ps:List (ByteArray×Int)
 qs:List QT
 sh:List (List Int)
 am:List (List (Int×Int))
@[reducible] def Dk.w {β:Type} (d:Dk) (b:β):=d.n.w (d.m.w (d.ps,d.qs,d.sh,d.am,b))
structure Dk.Ok (d:Dk):Prop where
 n:d.n.Ok 64
 m:d.m.Ok
 q:∀ i:Nat,i < d.qs.length→∃ q:Rq,q.Ok∧rd (.pair (.int .i64) (.pair (.int .i64) (.pair (.pair (.int .i64) (.pair (.int .i64) (.int .i64))) (.pair (.int .i64) (.pair (.int .i64) (.pair (.int .i64) (.pair (.int .i64) (.pair (.int .i64) (.pair (.int .i64) (.pair (.int .i64) (.int .i64))))))))))) d.qs (i:Int)=q.t
 sn:d.sh.length=d.qs.length
 s:∀ i:Nat,i < d.qs.length→((rd (.slice (.int .i64)) d.sh (i:Int)).length:Int)=d.n.sl∧∀ x ∈ rd (.slice (.int .i64)) d.sh (i:Int),x≠0
 an:d.am.length=d.qs.length
 a:∀ i:Nat,i < d.qs.length→((rd (.slice (.pair (.int .i64) (.int .i64))) d.am (i:Int)).length:Int)=d.n.sl + 1
theorem slots_tot {n:Nt} (h:n.Ok 64) (s:Int):Y (g158.F (n.w s)) fun _=>True:=by
 have:=h.lng
 refine Y.of (g158.F_of _) (Y.bE (night_ok h (by omega)) (Y.bif (fun _=>Y.some trivial) fun _=>Y.nn (by show ¬ n.lng=0; omega) (Y.some trivial)))
end Go.Proofs.RPn
namespace Go.Proofs.RPn
open Go Go.Eng
set_option linter.unusedVariables false
end Go.Proofs.RPn
namespace Go.Proofs.RPn
open Go Go.Eng
set_option linter.unusedVariables false
abbrev qty:Ty:=.pair (.int .i64) (.pair (.int .i64) (.pair (.pair (.int .i64) (.pair (.int .i64) (.int .i64))) (.pair (.int .i64) (.pair (.int .i64) (.pair (.int .i64) (.pair (.int .i64) (.pair (.int .i64) (.pair (.int .i64) (.pair (.int .i64) (.int .i64))))))))))
structure PgOk (ps:List (ByteArray×Int)) (qs:List QT):Prop where
 c:g42.F (ps,qs)=some 0
 p:ps.length≤6
 q:qs.length≤16
 r:∀ i:Nat,i < qs.length→0≤(rd qty qs (i:Int)).2.1∧(rd qty qs (i:Int)).2.1 < ps.length
@[reducible] def Dk.v {β:Type} (d:Dk) (b:β):=d.n.v (d.m.w b)
end Go.Proofs.RPn
namespace Go.Proofs.RPn
open Go Go.Eng
set_option linter.unusedVariables false
end Go.Proofs.RPn
namespace Go.Proofs.RPn
open Go Go.Eng
set_option linter.unusedVariables false
def AxC (lo hi S a:Int):Prop:=-17179869184≤lo∧hi≤17179869184∧lo≤hi∧16777216≤S∧S≤1073741824∧1≤a∧a≤S∧S≤a * 64
theorem AxC.ok {lo hi S a:Int} (h:AxC lo hi S a):(⟨lo,hi,S,a⟩:Ax).Ok:=⟨h.1,h.2.1,h.2.2.1,⟨h.2.2.2.1,h.2.2.2.2.1⟩,⟨h.2.2.2.2.2.1,h.2.2.2.2.2.2.1,h.2.2.2.2.2.2.2⟩⟩
theorem tdiv_nn {a b:Int} (h:0≤a):Int.tdiv a b=a / b:=Int.tdiv_eq_ediv_of_nonneg h
theorem inside_spec (lo hi S a:Int) (L:List Int) (at_:Int) (ha:0≤at_) (hb:at_≤1000000000) (h0:-17179869184≤lo) (h1:hi≤17179869184) (h2:lo≤hi):Y (g6.F (lo,hi,S,a,L,at_)) fun r=>∃ x at',r=(x,L,at')∧lo≤x∧x≤hi∧at_≤at'∧at'≤at_ + 3:=by
 refine Y.of (g6.F_of _) (Y.next L at_ 6 ha (by omega) (by omega) (by omega) fun c c0 c1=>?_)
 refine Y.ite (fun _=>Y.some ⟨lo,at_ + 1,rfl,by omega,by omega,by omega,by omega⟩) (fun _=>Y.ite (fun _=>Y.some ⟨hi,at_ + 1,rfl,by omega,by omega,by omega,by omega⟩) (fun _=>Y.np' (by decide) ?_))
 refine Y.next L (at_ + 1) 1000 (by omega) (by omega) (by omega) (by omega) fun r r0 r1=>?_
 rw [w64 (x:=hi - lo) (by omega) (by omega),tdiv_nn (a:=hi - lo) (by omega),w64 (x:=(hi - lo) / 1000) (by omega) (by omega),w64 (x:=(hi - lo) / 1000 + 1) (by omega) (by omega)]
 obtain ⟨d,hd⟩:∃ d:Int,d=(hi - lo) / 1000:=⟨_,rfl⟩
 rw [← hd]
 have d0:0≤d∧d * 1000≤hi - lo:=by omega
 refine Y.next L (at_ + 1 + 1) (d + 1) (by omega) (by omega) (by omega) (by omega) fun s s0 s1=>?_
 have p0:0≤d * r:=Int.mul_nonneg d0.1 r0
 have p1:d * r≤d * 999:=Int.mul_le_mul_of_nonneg_left (by omega) d0.1
 have e:∀ pr:Int,0≤pr→pr≤d * 999→Y (some ((wrap .i64 (wrap .i64 (lo + wrap .i64 pr) + s),L,at_ + 1 + 1 + 1):g6.R)) fun r=>∃ x at',r=(x,L,at')∧lo≤x∧x≤hi∧at_≤at'∧at'≤at_ + 3:=by
  intro pr q0 q1
  rw [w64 (x:=pr) (by omega) (by omega),w64 (x:=lo + pr) (by omega) (by omega),w64 (x:=lo + pr + s) (by omega) (by omega)]
  exact Y.some ⟨lo + pr + s,at_ + 1 + 1 + 1,rfl,by omega,by omega,by omega,by omega⟩
 exact e (d * r) p0 p1
theorem Y.inside {β:Type} {f:g6.R→Option β} {Q:β→Prop} (lo hi S a:Int) (L:List Int) (at_:Int) (ha:0≤at_) (hb:at_≤1000000000) (h0:-17179869184≤lo) (h1:hi≤17179869184) (h2:lo≤hi)
  (k:∀ x at',lo≤x→x≤hi→at_≤at'→at'≤at_ + 3→Y (f (x,L,at')) Q):Y (bnd (g6.F (lo,hi,S,a,L,at_)) f) Q:=by
 obtain ⟨r,hr,x,at',rfl,h3,h4,h5,h6⟩:=inside_spec lo hi S a L at_ ha hb h0 h1 h2
 exact Y.bE hr (k x at' h3 h4 h5 h6)
theorem shl_spec (r:Int) (h0:24≤r) (h1:r≤30):16777216≤shl .i64 1 r∧shl .i64 1 r≤1073741824∧(shl .i64 1 r=16777216∨33554432≤shl .i64 1 r):=by
 have hc:r=24∨r=25∨r=26∨r=27∨r=28∨r=29∨r=30:=by omega
 rcases hc with h | h | h | h | h | h | h <;> subst h <;> decide
def Axes (L:List Int) (at0 at1:Int) (r:g5.R):Prop:=∃ lo hi S a at',r=(lo,hi,S,a,L,at')∧AxC lo hi S a∧at0≤at'∧at'≤at1
theorem axis_tail (L:List Int) (S a at_:Int) (ha:0≤at_) (hb:at_≤1000000000) (h3:16777216≤S) (h4:S≤1073741824) (h5:1≤a) (h6:a≤S) (h7:S≤a * 64) (u1 u2 u3 u4:Int) :
  Y (g5.D0 (S,a,L,at_,u1,u2,u3,u4)) (Axes L at_ (at_ + 5)):=by
 have fin:∀ lo hi at':Int,-17179869184≤lo→hi≤17179869184→lo≤hi→at_≤at'→at'≤at_ + 5→∀ u1 u2 u3 u4,Y (g5.D1 (S,a,lo,hi,L,at',u1,u2,u3,u4)) (Axes L at_ (at_ + 5)):=by
  intro lo hi at' g0 g1 g2 g3 g4 u1 u2 u3 u4
  exact Y.of (g5.D1_of _) (Y.some ⟨lo,hi,S,a,at',rfl,⟨g0,g1,g2,h3,h4,h5,h6,h7⟩,g3,g4⟩)
 refine Y.of (g5.D0_of _) ?_
 refine Y.range 0 6 L at_ ha (by omega) (by omega) (by omega) (by omega) fun x hx0 hx1=>?_
 refine Y.range 1 6 L (at_ + 1) (by omega) (by omega) (by omega) (by omega) (by omega) fun y hy0 hy1=>?_
 refine Y.next L (at_ + 1 + 1) 4 (by omega) (by omega) (by omega) (by omega) fun z hz0 hz1=>?_
 dsimp only
 rw [w64 (x:=0 - x) (by omega) (by omega),w64 (x:=(0 - x) * 1073741824) (by omega) (by omega),w64 (x:=y * 1073741824) (by omega) (by omega)]
 refine Y.ite (fun _=>?_) (fun _=>?_)
 ·refine Y.next L (at_ + 1 + 1 + 1) 1048576 (by omega) (by omega) (by omega) (by omega) fun u hu0 hu1=>?_
  refine Y.next L (at_ + 1 + 1 + 1 + 1) 1048576 (by omega) (by omega) (by omega) (by omega) fun v hv0 hv1=>?_
  dsimp only
  rw [w64 (x:=(0 - x) * 1073741824 + u) (by omega) (by omega),w64 (x:=y * 1073741824 - v) (by omega) (by omega)]
  exact fin _ _ _ (by omega) (by omega) (by omega) (by omega) (by omega) _ _ _ _
 ·exact fin _ _ _ (by omega) (by omega) (by omega) (by omega) (by omega) _ _ _ _
theorem axis_draw (L:List Int) (at_:Int) (ha:0≤at_) (hb:at_≤100000000):Y (g5.F (L,at_)) (Axes L at_ (at_ + 10)):=by
 have widen:∀ {at2:Int} {o:Option g5.R},at_≤at2→at2≤at_ + 5→Y o (Axes L at2 (at2 + 5))→Y o (Axes L at_ (at_ + 10)):=by
  intro at2 o g0 g1 h
  refine h.mono ?_
  rintro r ⟨lo,hi,S,a,at',rfl,h1,h2,h3⟩
  exact ⟨lo,hi,S,a,at',rfl,h1,by omega,by omega⟩
 refine Y.of (g5.F_of _) (Y.range 24 30 L at_ ha (by omega) (by omega) (by omega) (by omega) fun r hr0 hr1=>Y.pd (by omega) ?_)
 obtain ⟨s0,s1,s2⟩:=shl_spec r hr0 hr1
 dsimp only
 generalize shl .i64 1 r=S at s0 s1 s2 ⊢
 refine Y.range 1 8 L (at_ + 1) (by omega) (by omega) (by omega) (by omega) (by omega) fun q hq0 hq1=>Y.np' (by omega) ?_
 have hd:1≤S / q∧S / q≤S∧S≤S / q * 60:=by
  have hc:q=1∨q=2∨q=3∨q=4∨q=5∨q=6∨q=7∨q=8:=by omega
  rcases hc with h | h | h | h | h | h | h | h <;> subst h <;> omega
 dsimp only
 rw [tdiv_nn (a:=S) (by omega),w64 (x:=S / q) (by omega) (by omega)]
 generalize S / q=a at hd ⊢
 refine Y.next L (at_ + 1 + 1) 3 (by omega) (by omega) (by omega) (by omega) fun c hc0 hc1=>?_
 refine Y.ite (fun _=>?_) (fun _=>?_)
 ·refine Y.next L (at_ + 1 + 1 + 1) 1000 (by omega) (by omega) (by omega) (by omega) fun x hx0 hx1=>Y.pd (by decide) ?_
  refine Y.next L (at_ + 1 + 1 + 1 + 1) 1000 (by omega) (by omega) (by omega) (by omega) fun y hy0 hy1=>?_
  dsimp only
  have hsh:shr .i64 (S - 16777216) 10=(S - 16777216) / 1024:=by
   rw [show shr .i64 (S - 16777216) 10=(S - 16777216).fdiv 1024 from rfl]
   exact Int.fdiv_eq_ediv_of_nonneg _ (by decide)
  rw [w64 (x:=S - 16777216) (by omega) (by omega),hsh]
  have hm:(S=16777216∧min 1 ((S - 16777216) / 1024)=0)∨(33554432≤S∧min 1 ((S - 16777216) / 1024)=1):=by omega
  generalize min 1 ((S - 16777216) / 1024)=m at hm ⊢
  have hxm:x * m=0∨(33554432≤S∧x * m=x):=by
   rcases hm with ⟨_,h⟩ | ⟨h1,h⟩
   ·left
    rw [h]
    omega
   ·right
    rw [h]
    omega
  generalize x * m=xm at hxm ⊢
  rw [w64 (x:=xm) (by omega) (by omega),w64 (x:=S - xm) (by omega) (by omega),w64 (x:=a + y) (by omega) (by omega)]
  exact widen (by omega) (by omega) (axis_tail L (S - xm) (min (a + y) (S - xm)) (at_ + 1 + 1 + 1 + 1 + 1) (by omega) (by omega) (by omega) (by omega) (by omega) (by omega) (by omega) _ _ _ _)
 ·exact widen (by omega) (by omega) (axis_tail L S a (at_ + 1 + 1 + 1) (by omega) (by omega) (by omega) (by omega) (by omega) (by omega) (by omega) _ _ _ _)
theorem Y.mount {β:Type} {f:g7.R→Option β} {Q:β→Prop} (L:List Int) (at_:Int) (ha:0≤at_) (hb:at_≤1000000)
  (k:∀ (m:Mt) (at':Int),m.Ok→at_≤at'→at'≤at_ + 100→Y (f (m.w (L,at'))) Q):Y (bnd (g7.F (L,at_)) f) Q:=by
 refine Y.bnd _ (?_:Y _ fun r=>∃ (m:Mt) (at':Int),r=m.w (L,at')∧m.Ok∧at_≤at'∧at'≤at_ + 100) fun r hr=>?_
 ·have fin:∀ (lo hi S a lo2 hi2 S2 a2 at1:Int),AxC lo hi S a→AxC lo2 hi2 S2 a2→at_≤at1→at1≤at_ + 90→∀ (x1 x2 x3 x4 x5 x6 x7 x8 x9 xa y1 y2:Int),Y (g7.D1 (L,at1,x1,x2,x3,x4,x5,x6,x7,x8,x9,xa,lo,hi,S,a,lo2,hi2,S2,a2,y1,y2)) fun r=>∃ (m:Mt) (at':Int),r=m.w (L,at')∧m.Ok∧at_≤at'∧at'≤at_ + 100:=by
   intro lo hi S a lo2 hi2 S2 a2 at1 h1 h2 a0 a1 x1 x2 x3 x4 x5 x6 x7 x8 x9 xa y1 y2
   refine Y.of (g7.D1_of _) (Y.inside lo hi S a L at1 (by omega) (by omega) h1.1 h1.2.1 h1.2.2.1 fun p at2 p0 p1 b0 b1=>?_)
   refine Y.inside lo2 hi2 S2 a2 L at2 (by omega) (by omega) h2.1 h2.2.1 h2.2.2.1 fun q at3 q0 q1 b2 b3=>?_
   exact Y.some ⟨⟨⟨lo,hi,S,a⟩,⟨lo2,hi2,S2,a2⟩,p,q⟩,at3,rfl,⟨h1.ok,h2.ok,⟨p0,p1⟩,⟨q0,q1⟩⟩,by omega,by omega⟩
  have mid:∀ (lo hi S a lo2 hi2 S2 a2 at1:Int),AxC lo hi S a→AxC lo2 hi2 S2 a2→at_≤at1→at1≤at_ + 80→∀ (x1 x2 x3 x4 x5 x6 x7 x8 x9 xa y1 y2:Int),Y (g7.D0 (L,at1,x1,x2,x3,x4,x5,x6,x7,x8,x9,xa,lo,hi,S,a,lo2,hi2,S2,a2,y1,y2)) fun r=>∃ (m:Mt) (at':Int),r=m.w (L,at')∧m.Ok∧at_≤at'∧at'≤at_ + 100:=by
   intro lo hi S a lo2 hi2 S2 a2 at1 h1 h2 a0 a1 x1 x2 x3 x4 x5 x6 x7 x8 x9 xa y1 y2
   refine Y.of (g7.D0_of _) (Y.next L at1 3 (by omega) (by omega) (by omega) (by omega) fun c c0 c1=>?_)
   dsimp only
   refine Y.ite (fun _=>fin lo hi S a _ _ S2 a2 _ h1 ⟨by decide,by decide,by decide,h2.2.2.2⟩ (by omega) (by omega) _ _ _ _ _ _ _ _ _ _ _ _) (fun _=>fin lo hi S a lo2 hi2 S2 a2 _ h1 h2 (by omega) (by omega) _ _ _ _ _ _ _ _ _ _ _ _)
  refine Y.of (g7.F_of _) (Y.bnd _ (axis_draw L at_ (by omega) (by omega)) ?_)
  rintro r ⟨lo,hi,S,a,at1,rfl,h1,b0,b1⟩
  refine Y.bnd _ (axis_draw L at1 (by omega) (by omega)) ?_
  rintro r ⟨lo2,hi2,S2,a2,at2,rfl,h2,b2,b3⟩
  refine Y.next L at2 3 (by omega) (by omega) (by omega) (by omega) fun c c0 c1=>?_
  dsimp only
  exact Y.ite (fun _=>mid _ _ S a lo2 hi2 S2 a2 _ ⟨by decide,by decide,by decide,h1.2.2.2⟩ h2 (by omega) (by omega) _ _ _ _ _ _ _ _ _ _ _ _) (fun _=>mid lo hi S a lo2 hi2 S2 a2 _ h1 h2 (by omega) (by omega) _ _ _ _ _ _ _ _ _ _ _ _)
 ·obtain ⟨m,at',rfl,h1,h2,h3⟩:=hr
  exact k m at' h1 h2 h3
end Go.Proofs.RPn
namespace Go.Proofs.RPn
open Go Go.Eng
set_option linter.unusedVariables false
theorem bytes_list (xs:List Int):(bytesStr xs).data.toList=xs.map fun n=>UInt8.ofNat n.toNat:=by
 have go (xs:List Int):∀ b:ByteArray,(xs.foldl (fun r n=>r.push (UInt8.ofNat n.toNat)) b).data.toList=b.data.toList++xs.map fun n=>UInt8.ofNat n.toNat:=by
  induction xs with
  | nil=>intro b; simp
  | cons x xs ih=>
   intro b
   rw [List.foldl_cons,ih]
   simp [ByteArray.push]
 have:=go xs ByteArray.empty
 simpa [bytesStr] using this
theorem app_list (a b:ByteArray):(a++b).data.toList=a.data.toList++b.data.toList:=by rw [ByteArray.data_append,Array.toList_append]
theorem size_list (b:ByteArray):b.size=b.data.toList.length:=rfl
theorem at_list (b:ByteArray) (i:Int):b.data.getD i.toNat 0=b.data.toList.getD i.toNat 0:=by simp [Array.getD_eq_getD_getElem?,List.getD_eq_getElem?_getD]
def Okc (c:UInt8):Prop:=(97≤c.toNat∧c.toNat≤122)∨(48≤c.toNat∧c.toNat≤57)∨c.toNat=45
structure Nm (b:ByteArray) (h:UInt8) (t:List UInt8):Prop where
 e:b.data.toList=h::t
 hd:97≤h.toNat∧h.toNat≤122
 tl:∀ c ∈ t,Okc c
 l:t.length≤11
theorem name_ok {b:ByteArray} {h:UInt8} {t:List UInt8} (hn:Nm b h t):g39.F b=some true:=by
 have hs:b.size=t.length + 1:=by rw [size_list,hn.e]; rfl
 have hl:=hn.l
 have loop (m:Nat):∀ i:Nat,i + m=b.size→Y (g39.D0 (b,(i:Int))) fun r=>r=true:=by
  induction m with
  | zero=>exact fun i e=>Y.of (g39.D0_of _) (Y.nd (by omega) (Y.some rfl))
  | succ m ih=>
   intro i e
   refine Y.of (g39.D0_of _) (Y.pd (by omega) (Y.pd (by omega) (Y.neg ?_ ?_)))
   ·rw [at_list,hn.e]
    have hh:=hn.hd
    cases i with
    | zero=>
     have e0:(97:Int)≤h.toNat:=by omega
     have e1:(h.toNat:Int)≤122:=by omega
     show (!(decide ((97:Int)≤h.toNat) && decide ((h.toNat:Int)≤122)) && _)=false
     rw [decide_eq_true e0,decide_eq_true e1]
     rfl
    | succ j=>
     have hj:j < t.length:=by omega
     have hg:(h::t).getD ((j + 1:Nat):Int).toNat 0=t[j]:=by
      rw [show (((j + 1:Nat):Int)).toNat=j + 1 by omega,List.getD_eq_getElem?_getD,List.getElem?_cons_succ,List.getElem?_eq_getElem hj]
      rfl
     rw [hg]
     have ho:=hn.tl t[j] (List.getElem_mem hj)
     generalize t[j]=c at ho
     unfold Okc at ho
     have hne:¬ ((j + 1:Nat):Int)=0:=by omega
     rw [decide_eq_false hne]
     rcases ho with g | g | g
     ·have e0:(97:Int)≤c.toNat:=by omega
      have e1:(c.toNat:Int)≤122:=by omega
      rw [decide_eq_true e0,decide_eq_true e1]
      rfl
     ·have e0:¬ (c.toNat:Int) < 48:=by omega
      have e1:¬ (57:Int) < c.toNat:=by omega
      rw [decide_eq_false e0,decide_eq_false e1]
      simp
     ·have e0:(c.toNat:Int)=45:=by omega
      rw [decide_eq_true e0]
      simp
   ·rw [w64 (x:=(i:Int) + 1) (by omega) (by omega)]
    exact_mod_cast ih (i + 1) (by omega)
 have e0:¬ (b.size:Int)=0:=by omega
 have e1:¬ (12:Int) < (b.size:Int):=by omega
 exact Y.is (Y.of (g39.F_of _) (Y.neg (by rw [decide_eq_false e0,decide_eq_false e1]; rfl) (loop b.size 0 (by omega))))
theorem Y.name {β:Type} {f:g8.R→Option β} {Q:β→Prop} (L:List Int) (at_:Int) (ha:0≤at_) (hb:at_≤1000000)
  (k:∀ (b:ByteArray) (h:UInt8) (t:List UInt8) (at':Int),Nm b h t→t.length≤3→at_≤at'→at'≤at_ + 5→Y (f (b,L,at')) Q):Y (bnd (g8.F (L,at_)) f) Q:=by
 refine Y.bnd _ (?_:Y _ fun r=>∃ (b:ByteArray) (h:UInt8) (t:List UInt8) (at':Int),r=(b,L,at')∧Nm b h t∧t.length≤3∧at_≤at'∧at'≤at_ + 5) fun r hr=>?_
 ·refine Y.of (g8.F_of _) (Y.next L at_ 6 ha (by omega) (by omega) (by omega) fun r r0 r1=>?_)
  refine Y.next L (at_ + 1) 4 (by omega) (by omega) (by omega) (by omega) fun n n0 n1=>?_
  dsimp only
  rw [w64 (x:=97 + r) (by omega) (by omega),show wrap .u8 (97 + r)=97 + r by rw [wr_u8]; omega]
  have loop (m:Nat):∀ (i:Nat) (v:List Int),(i:Int) + m=n→v.length=i→(∀ c ∈ v,Okc (UInt8.ofNat c.toNat))→Y (g8.D0 (n,(i:Int),L,at_ + 1 + 1 + i,(97 + r)::v)) fun r=>∃ (b:ByteArray) (h:UInt8) (t:List UInt8) (at':Int),r=(b,L,at')∧Nm b h t∧t.length≤3∧at_≤at'∧at'≤at_ + 5:=by
   induction m with
   | zero=>
    intro i v e hv hc
    refine Y.of (g8.D0_of _) (Y.nd (by omega) (Y.some ⟨_,UInt8.ofNat (97 + r).toNat,v.map fun n=>UInt8.ofNat n.toNat,_,rfl,⟨?_,?_,?_,?_⟩,?_,by omega,by omega⟩))
    ·rw [bytes_list]
     rfl
    ·rcases (show r=0∨r=1∨r=2∨r=3∨r=4∨r=5 by omega) with rfl | rfl | rfl | rfl | rfl | rfl <;> decide
    ·intro c hc'
     obtain ⟨x,hx,rfl⟩:=List.mem_map.mp hc'
     exact hc x hx
    ·rw [List.length_map]; omega
    ·rw [List.length_map]; omega
   | succ m ih=>
    intro i v e hv hc
    refine Y.of (g8.D0_of _) (Y.pd (by omega) (Y.next L _ 6 (by omega) (by omega) (by omega) (by omega) fun x x0 x1=>Y.pd ⟨x0,by show x < 6; omega⟩ (Y.pd ?_ ?_)))
    ·simp only [List.length_cons,List.length_nil]
     omega
    ·rw [w64 (x:=(i:Int) + 1) (by omega) (by omega)]
     have hx:Okc (UInt8.ofNat ((bs2.data.getD x.toNat 0).toNat:Int).toNat):=by
      unfold Okc
      rcases (show x=0∨x=1∨x=2∨x=3∨x=4∨x=5 by omega) with rfl | rfl | rfl | rfl | rfl | rfl <;> decide
     have:=ih (i + 1) (v++[((bs2.data.getD x.toNat 0).toNat:Int)]) (by omega) (by simp [hv]) fun c hc'=>by
      rcases List.mem_append.mp hc' with g | g
      ·exact hc c g
      ·rw [List.mem_singleton] at g
       subst g
       exact hx
     rw [show at_ + 1 + 1 + ((i + 1:Nat):Int)=at_ + 1 + 1 + (i:Int) + 1 by omega] at this
     exact_mod_cast this
  have:=loop n.toNat 0 [] (by omega) rfl (fun c hc=>by cases hc)
  rw [show at_ + 1 + 1 + ((0:Nat):Int)=at_ + 1 + 1 by omega] at this
  exact this
 ·obtain ⟨b,h,t,at',rfl,h1,h2,h3,h4⟩:=hr
  exact k b h t at' h1 h2 h3 h4
end Go.Proofs.RPn
namespace Go.Proofs.RPn
open Go Go.Eng
set_option linter.unusedVariables false
theorem rd_app {t:Ty} (l:List t.den) (a:t.den) (i:Nat) (h:i < l.length + 1):rd t (l++[a]) (i:Int)=if i < l.length then rd t l (i:Int) else a:=by
 rw [rd_nat (t:=t) (l++[a]) i (by simp; omega)]
 split
 ·rename_i c
  rw [rd_nat (t:=t) l i c,List.getElem_append_left]
 ·rename_i c
  rw [List.getElem_append_right (by omega)]
  simp
theorem mGet_new (k v:Ty) (xs:List (k.den×v.den×Int)) (q:k.den) (h:∀ e ∈ xs,keq k q e.1=false):mGet k v xs q=v.dflt:=by
 have:mFind k v q xs=none:=by
  induction xs with
  | nil=>rfl
  | cons e r ih=>
   rw [mFind,h e (by simp)]
   exact ih fun e' he=>h e' (by simp [he])
 rw [mGet,this]
theorem mPut_mem (k v:Ty) (xs:List (k.den×v.den×Int)) (c:Int) (q:k.den) (y:v.den):∀ e ∈ mPut k v xs c q y,e.1=q∨∃ e' ∈ xs,e'.1=e.1:=by
 induction xs with
 | nil=>
  intro e he
  rw [mPut,List.mem_singleton] at he
  subst he
  exact .inl rfl
 | cons a r ih=>
  intro e he
  rw [mPut] at he
  split at he
  ·rcases List.mem_cons.mp he with g | g
   ·subst g
    exact .inl rfl
   ·exact .inr ⟨e,by simp [g],rfl⟩
  ·rcases List.mem_cons.mp he with g | g
   ·exact .inr ⟨a,by simp,by rw [g]⟩
   ·rcases ih e g with h | ⟨e',h1,h2⟩
    ·exact .inl h
    ·exact .inr ⟨e',by simp [h1],h2⟩
abbrev pty:Ty:=.pair .str (.int .i64)
structure PsOk (ps:List (ByteArray×Int)):Prop where
 l:ps.length≤3
 p:∀ j:Nat,j < ps.length→(∃ h t,Nm (rd pty ps (j:Int)).1 h t)∧(rd pty ps (j:Int)).1.data.toList.getLast? = some (UInt8.ofNat (48 + j))∧1≤(rd pty ps (j:Int)).2∧(rd pty ps (j:Int)).2≤5
structure QsOk (np:Int) (qs:List QT):Prop where
 l:qs.length≤6
 q:∀ i:Nat,i < qs.length→∃ q:Rq,q.Ok∧rd qty qs (i:Int)=q.t∧0≤q.prop∧q.prop < np
 inc:∀ i j:Nat,i < j→j < qs.length→(rd qty qs (i:Int)).1 < (rd qty qs (j:Int)).1
theorem PsOk.ne {ps:List (ByteArray×Int)} (h:PsOk ps) (i j:Nat) (hi:i < j) (hj:j < ps.length):¬ (rd pty ps (j:Int)).1=(rd pty ps (i:Int)).1:=by
 intro e
 have h1:=(h.p i (by omega)).2.1
 have h2:=(h.p j hj).2.1
 have hl:=h.l
 rw [e,h1] at h2
 have:(i=0∧j=1)∨(i=0∧j=2)∨(i=1∧j=2):=by omega
 rcases this with ⟨rfl,rfl⟩ | ⟨rfl,rfl⟩ | ⟨rfl,rfl⟩ <;> exact absurd h2 (by decide)
theorem check_ok {ps:List (ByteArray×Int)} {qs:List QT} (hp:PsOk ps) (hq:QsOk (ps.length:Int) qs):g42.F (ps,qs)=some 0:=by
 have hl:=hp.l
 have hl2:=hq.l
 have loop1 (m:Nat):∀ (i:Nat) (v:List (Int×Bool×Int)) (c:Int),i + m=qs.length→(∀ e ∈ v,∃ j:Nat,j < i∧e.1=(rd qty qs (j:Int)).1)→Y (g42.D1 (qs,(qs.length:Int),(i:Int),ps,qs,v,c)) fun r=>r=0:=by
  induction m with
  | zero=>exact fun i v c e _=>Y.of (g42.D1_of _) (Y.nd (by omega) (Y.some rfl))
  | succ m ih=>
   intro i v c e hv
   obtain ⟨q,hq1,hq2,hq3,hq4⟩:=hq.q i (by omega)
   have hne:mGet (Ty.int IntKind.i64) Ty.bool v (rd qty qs (i:Int)).1=false:=by
    refine mGet_new _ _ _ _ fun e he=>?_
    obtain ⟨j,hj,ej⟩:=hv e he
    have:=hq.inc j i hj (by omega)
    refine decide_eq_false fun g=>?_
    rw [g,ej] at this
    exact absurd this (Int.lt_irrefl _)
   have hput:=mPut_mem (Ty.int IntKind.i64) Ty.bool v c (rd qty qs (i:Int)).1 true
   have hnext:=fun y c' (h:∀ e ∈ y,∃ j:Nat,j < i + 1∧e.1=(rd qty qs (j:Int)).1)=>ih (i + 1) y c' (by omega) h
   refine Y.of (g42.D1_of _) (Y.pd (by omega) (Y.pd (by omega) ?_))
   rw [show rd ty0 qs (i:Int)=q.t from hq2]
   rw [hq2] at hne hput
   refine Y.bE (request_ok hq1) (Y.np rfl (Y.neg hne (Y.bE (within_ok (a:=0) ⟨hq3,?_⟩) (Y.neg rfl ?_))))
   ·rw [w64 (by omega) (by omega)]
    show q.prop≤_
    omega
   ·have:=hnext (mPut (Ty.int IntKind.i64) Ty.bool v c q.t.1 true) (mClk (Ty.int IntKind.i64) Ty.bool v c q.t.1) fun e he=>by
     rcases hput e he with g | ⟨e',g1,g2⟩
     ·exact ⟨i,by omega,by rw [g,hq2]⟩
     ·obtain ⟨j,hj,ej⟩:=hv e' g1
      exact ⟨j,by omega,by rw [← g2,ej]⟩
    rw [w64 (x:=(i:Int) + 1) (by omega) (by omega)]
    exact_mod_cast this
 have loop0 (m:Nat):∀ (i:Nat) (v:List (ByteArray×Bool×Int)) (c:Int),i + m=ps.length→(∀ e ∈ v,∃ j:Nat,j < i∧e.1=(rd pty ps (j:Int)).1)→Y (g42.D0 (ps,(ps.length:Int),(i:Int),ps,qs,v,c)) fun r=>r=0:=by
  induction m with
  | zero=>
   intro i v c e _
   exact Y.of (g42.D0_of _) (Y.nd (by omega) (loop1 qs.length 0 [] 0 (by omega) (fun e he=>by cases he)))
  | succ m ih=>
   intro i v c e hv
   obtain ⟨⟨h,t,hn⟩,_,s0,s1⟩:=hp.p i (by omega)
   have hne:mGet Ty.str Ty.bool v (rd pty ps (i:Int)).1=false:=by
    refine mGet_new _ _ _ _ fun e he=>?_
    obtain ⟨j,hj,ej⟩:=hv e he
    refine decide_eq_false fun g=>?_
    rw [ej] at g
    exact hp.ne j i hj (by omega) g
   have hput:=mPut_mem Ty.str Ty.bool v c (rd pty ps (i:Int)).1 true
   have hck:g40.F ((rd pty ps (i:Int)).1,(rd pty ps (i:Int)).2)=some 0:=Y.is (Y.of (g40.F_of _) (Y.bE (name_ok hn) (Y.neg rfl (Y.bE (within_ok ⟨s0,Int.le_trans s1 (by decide)⟩) (Y.neg rfl (Y.some rfl))))))
   refine Y.of (g42.D0_of _) (Y.pd (by omega) (Y.pd (by omega) (Y.bE hck (Y.np rfl (Y.neg hne ?_)))))
   have:=ih (i + 1) (mPut Ty.str Ty.bool v c (rd pty ps (i:Int)).1 true) (mClk Ty.str Ty.bool v c (rd pty ps (i:Int)).1) (by omega) fun e he=>by
    rcases hput e he with g | ⟨e',g1,g2⟩
    ·exact ⟨i,by omega,g⟩
    ·obtain ⟨j,hj,ej⟩:=hv e' g1
     exact ⟨j,by omega,by rw [← g2,ej]⟩
   rw [w64 (x:=(i:Int) + 1) (by omega) (by omega)]
   exact_mod_cast this
 have e0:¬ (6:Int) < (ps.length:Int):=by omega
 have e1:¬ (16:Int) < (qs.length:Int):=by omega
 exact Y.is (Y.of (g42.F_of _) (Y.neg (by rw [decide_eq_false e0,decide_eq_false e1]; rfl) (loop0 ps.length 0 [] 0 (by omega) (fun e he=>by cases he))))
theorem pg_ok {ps:List (ByteArray×Int)} {qs:List QT} (hp:PsOk ps) (hq:QsOk (ps.length:Int) qs):PgOk ps qs:=by
 have hl:=hp.l
 have hl2:=hq.l
 refine ⟨check_ok hp hq,by omega,by omega,fun i hi=>?_⟩
 obtain ⟨q,_,h2,h3,h4⟩:=hq.q i hi
 rw [h2]
 exact ⟨h3,h4⟩
theorem PsOk.add {ps:List (ByteArray×Int)} (hp:PsOk ps) (hl:ps.length≤2) {b:ByteArray} {h:UInt8} {t:List UInt8} (hn:Nm b h t) (ht:t.length≤3) (c:Int) (hc:c=48 + ps.length) (s:Int) (s0:1≤s) (s1:s≤5):PsOk (ps++[(b++bytesStr [c],s)]):=by
 refine ⟨by simp; omega,fun j hj=>?_⟩
 rw [List.length_append,List.length_singleton] at hj
 rw [rd_app (t:=pty) ps _ j hj]
 split
 ·rename_i g
  exact hp.p j g
 ·have hjl:j=ps.length:=by omega
  have hcn:c.toNat=48 + j:=by omega
  have e:(b++bytesStr [c]).data.toList=h::(t++[UInt8.ofNat (48 + j)]):=by
   rw [app_list,bytes_list,hn.e,List.map_singleton,hcn]
   rfl
  refine ⟨⟨h,t++[UInt8.ofNat (48 + j)],e,hn.hd,fun x hx=>?_,by simp; omega⟩,?_,s0,s1⟩
  ·rcases List.mem_append.mp hx with g | g
   ·exact hn.tl x g
   ·rw [List.mem_singleton] at g
    subst g
    unfold Okc
    rcases (show j=0∨j=1∨j=2 by omega) with g | g | g <;> rw [g] <;> decide
  ·show (b++bytesStr [c]).data.toList.getLast? = _
   rw [e,← List.cons_append,List.getLast?_append]
   rfl
theorem Y.programmeB {β:Type} {f:g10.R→Option β} {Q:β→Prop} {n:Nt} {mo:Int} (hn:n.Ok mo) (most:Int) (hm:0≤most∧most≤6) (L:List Int) (at_:Int) (ha:0≤at_) (hb:at_≤10000)
  (k:∀ (ps:List (ByteArray×Int)) (qs:List QT) (at':Int),PsOk ps→QsOk (ps.length:Int) qs→(∀ i:Nat,i < qs.length→(rd qty qs (i:Int)).1≤1000)→0≤at'→at'≤at_ + 1000→Y (f (L,at',ps,qs)) Q):Y (bnd (g10.F (n.v (most,L,at_))) f) Q:=by
 refine Y.bnd _ (?_:Y _ fun r=>∃ (ps:List (ByteArray×Int)) (qs:List QT) (at':Int),r=(L,at',ps,qs)∧PsOk ps∧QsOk (ps.length:Int) qs∧(∀ i:Nat,i < qs.length→(rd qty qs (i:Int)).1≤1000)∧0≤at'∧at'≤at_ + 1000) fun r hr=>?_
 ·have loop1 (ps:List (ByteArray×Int)) (hp:PsOk ps) (hp1:1≤ps.length) (N:Int) (N1:N≤6) (m:Nat):∀ (i:Nat) (id at1:Int) (qs:List QT),(i:Int) + m=N→qs.length=i→0≤id→id≤4 * i→(∀ j:Nat,j < i→(rd qty qs (j:Int)).1≤id)→0≤at1→at1≤at_ + 100 + 50 * i→QsOk (ps.length:Int) qs →
    Y (g10.D1 (id,N,(i:Int),L,at1,n.v ([],[],ps,qs))) fun r=>∃ (ps:List (ByteArray×Int)) (qs:List QT) (at':Int),r=(L,at',ps,qs)∧PsOk ps∧QsOk (ps.length:Int) qs∧(∀ i:Nat,i < qs.length→(rd qty qs (i:Int)).1≤1000)∧0≤at'∧at'≤at_ + 1000:=by
   have hpl:=hp.l
   induction m with
   | zero=>
    intro i id at1 qs e hl h0 h1 h2 h3 h4 h5
    exact Y.of (g10.D1_of _) (Y.nd (by omega) (Y.some ⟨ps,qs,at1,rfl,hp,h5,fun j hj=>Int.le_trans (h2 j (by omega)) (by omega),h3,by omega⟩))
   | succ m ih=>
    intro i id at1 qs e hl h0 h1 h2 h3 h4 h5
    refine Y.of (g10.D1_of _) (Y.pd (by omega) (Y.range 1 4 L at1 h3 (by omega) (by omega) (by omega) (by omega) fun x x0 x1=>?_))
    dsimp only
    rw [w64 (x:=id + x) (by omega) (by omega),w64 (x:=(i:Int) + 1) (by omega) (by omega)]
    refine Y.request hn (id + x) (ps.length:Int) (by omega) (by omega) L (at1 + 1) (by omega) (by omega) fun q at2 q1 q2 q3 q4 b0 b1=>Y.pd ?_ ?_
    ·simp only [List.length_cons,List.length_nil]
     omega
    ·have:=ih (i + 1) (id + x) at2 (qs++[q.t]) (by omega) (by simp [hl]) (by omega) (by omega) (fun j hj=>?_) b0 (by omega) ⟨by rw [List.length_append,List.length_singleton]; omega,fun j hj=>?_,fun a b hab hb=>?_⟩
     ·rw [show ((i + 1:Nat):Int)=(i:Int) + 1 by omega] at this
      exact this
     ·rw [rd_app (t:=qty) qs q.t j (by omega)]
      split
      ·exact Int.le_trans (h2 j (by omega)) (by omega)
      ·show q.id≤_
       omega
     ·rw [List.length_append,List.length_singleton] at hj
      rw [rd_app (t:=qty) qs q.t j (by omega)]
      split
      ·rename_i g
       exact h5.q j g
      ·exact ⟨q,q1,rfl,q3,q4⟩
     ·rw [List.length_append,List.length_singleton] at hb
      rw [rd_app (t:=qty) qs q.t a (by omega),rd_app (t:=qty) qs q.t b (by omega),if_pos (by omega)]
      split
      ·rename_i g
       exact h5.inc a b hab g
      ·exact Int.lt_of_le_of_lt (h2 a (by omega)) (by show _ < q.id; omega)
  have loop0 (K:Int) (K0:1≤K) (K1:K≤3) (m:Nat):∀ (i:Nat) (at1:Int) (ps:List (ByteArray×Int)),(i:Int) + m=K→ps.length=i→0≤at1→at1≤at_ + 1 + 10 * i→PsOk ps →
    Y (g10.D0 (most,K,(i:Int),L,at1,n.v ([],[],ps,[]))) fun r=>∃ (ps:List (ByteArray×Int)) (qs:List QT) (at':Int),r=(L,at',ps,qs)∧PsOk ps∧QsOk (ps.length:Int) qs∧(∀ i:Nat,i < qs.length→(rd qty qs (i:Int)).1≤1000)∧0≤at'∧at'≤at_ + 1000:=by
   induction m with
   | zero=>
    intro i at1 ps e hl h0 h1 hp
    refine Y.of (g10.D0_of _) (Y.nd (by omega) ?_)
    rw [w64 (x:=most + 1) (by omega) (by omega)]
    refine Y.next L at1 (most + 1) (by omega) (by omega) (by omega) (by omega) fun N n0 n1=>?_
    exact loop1 ps hp (by omega) N (by omega) N.toNat 0 0 (at1 + 1) [] (by omega) rfl (by omega) (by omega) (fun j hj=>by omega) (by omega) (by omega) ⟨by simp,fun j hj=>absurd hj (by simp),fun a b _ hb=>absurd hb (by simp)⟩
   | succ m ih=>
    intro i at1 ps e hl h0 h1 hp
    refine Y.of (g10.D0_of _) (Y.pd (by omega) (Y.name L at1 (by omega) (by omega) fun b h t at2 hb ht b0 b1=>?_))
    have ew:wrap .u8 (wrap .i64 (48 + (i:Int)))=48 + (i:Int):=by
     rw [w64 (by omega) (by omega),wr_u8]
     omega
    dsimp only
    rw [ew,w64 (x:=(i:Int) + 1) (by omega) (by omega)]
    have hbs:b.size=t.length + 1:=by rw [size_list,hb.e]; rfl
    have hcs:(bytesStr [48 + (i:Int)]).size=1:=by rw [size_list,bytes_list]; rfl
    refine Y.pd (by omega) (Y.range 1 5 L at2 (by omega) (by omega) (by omega) (by omega) (by omega) fun s s0 s1=>Y.pd ?_ ?_)
    ·simp only [List.length_cons,List.length_nil]
     omega
    ·have:=ih (i + 1) (at2 + 1) _ (by omega) (by simp [hl]) (by omega) (by omega) (hp.add (by omega) hb ht (48 + (i:Int)) (by omega) s s0 s1)
     rw [show ((i + 1:Nat):Int)=(i:Int) + 1 by omega] at this
     exact this
  refine Y.of (g10.F_of _) (Y.range 1 3 L at_ ha (by omega) (by omega) (by omega) (by omega) fun K k0 k1=>?_)
  exact loop0 K k0 k1 K.toNat 0 (at_ + 1) [] (by omega) rfl (by omega) (by omega) ⟨by simp,fun j hj=>absurd hj (by simp)⟩
 ·obtain ⟨ps,qs,at',rfl,h1,h2,h5,h3,h4⟩:=hr
  exact k ps qs at' h1 h2 h5 h3 h4
end Go.Proofs.RPn
namespace Go.Proofs.RPn
open Go Go.Eng
set_option linter.unusedVariables false
theorem scale_angle_tot (v:g136.A):Tot (g136.F v):=Tot.of (g136.F_of v) ((fun (v0,v1,v2,v3,v4)=>(Tot.bnd (num_MulDiv_tot _) fun _=>Tot.some):∀ v,Tot (g136.d g63.F v)) v)
theorem num_Mod_tot (v:g137.A):Tot (g137.F v):=by
 obtain ⟨a,b⟩:=v
 have h0:∀ x,Tot (g137.D0 x):=fun x=>Tot.of (g137.D0_of _) Tot.some
 exact Tot.of (g137.F_of _) (Y.tot (Y.ite (fun _=>Y.some trivial) fun c=>Y.np' (by omega) (Tot.y (Tot.br (h0 _) (h0 _)))))
theorem scale_Angle_tot (v:g138.A):Tot (g138.F v):=Tot.of (g138.F_of v) ((fun (v0,v1,v2,v3,v4)=>(Tot.bnd (scale_CheckRate_tot _) fun _=>(Tot.br Tot.some (Tot.bnd (scale_angle_tot _) fun _=>(Tot.bnd (num_Mod_tot _) fun _=>Tot.some)))):∀ v,Tot (g138.d g19.F g136.F g137.F v)) v)
theorem horizon_AimS1_tot (v:g139.A):Tot (g139.F v):=Tot.of (g139.F_of v) ((fun v0=>(Tot.bnd (trig_Cos_tot _) fun _=>Tot.some):∀ v,Tot (g139.d g81.F v)) v)
theorem horizon_AimS1_1_tot (v:g140.A):Tot (g140.F v):=Tot.of (g140.F_of v) ((fun v0=>(Tot.bnd (trig_Sin_tot _) fun _=>Tot.some):∀ v,Tot (g140.d g80.F v)) v)
theorem trig_octant_d0 (a b:Int) (n:Nat):∀ (x y:Int) (_:y - x≤n) (_:0≤x) (_:x≤y) (_:y≤536870913),Tot (g141.D0 (a,b,x,y)):=by
 induction n with
 | zero=>
  intro x y h h0 h1 h2
  refine Tot.of (g141.D0_of _) (Y.tot ?_)
  dsimp only [g141.d0]
  rw [w64 (x:=y - x) (by omega) (by omega)]
  exact Y.nd (by omega) (Y.some trivial)
 | succ n ih=>
  intro x y h h0 h1 h2
  refine Tot.of (g141.D0_of _) (Y.tot ?_)
  dsimp only [g141.d0]
  rw [w64 (x:=y - x) (by omega) (by omega),w64 (x:=x + y) (by omega) (by omega),Int.tdiv_eq_ediv_of_nonneg (a:=x + y) (by omega),w64 (x:=(x + y) / 2) (by omega) (by omega)]
  exact Y.ite (fun c=>Y.np' (by decide) (Tot.y (Tot.bnd (trig_Sin_tot _) fun _=>Tot.bnd (trig_Cos_tot _) fun _=>Tot.br (ih _ _ (by omega) (by omega) (by omega) (by omega)) (ih _ _ (by omega) (by omega) (by omega) (by omega))))) fun _=>Y.some trivial
theorem trig_octant_tot (v:g141.A):Tot (g141.F v):=Tot.of (g141.F_of v) (trig_octant_d0 v.1 v.2 536870913 0 536870913 (by decide) (by decide) (by decide) (by decide))
theorem trig_Atan2_tot (v:g142.A):Tot (g142.F v):=by
 have h2:∀ x,Tot (g142.D2 x):=fun x=>Tot.of (g142.D2_of _) (Y.tot (Y.np' (by decide) (Y.some trivial)))
 have h1:∀ x,Tot (g142.D1 x):=fun x=>Tot.of (g142.D1_of _) (Tot.br (h2 _) (h2 _))
 have h0:∀ x,Tot (g142.D0 x):=fun x=>Tot.of (g142.D0_of _) (Tot.br (h1 _) (h1 _))
 exact Tot.of (g142.F_of v) (Tot.br Tot.some (Tot.br Tot.some (Tot.br (Tot.bnd (trig_octant_tot _) fun _=>h0 _) (Tot.bnd (trig_octant_tot _) fun _=>h0 _))))
theorem num_Sqrt_tot (v:g143.A):Tot (g143.F v):=Tot.of (g143.F_of v) ((fun v0=>(Tot.bnd (num_SqrtMul_tot _) fun _=>Tot.some):∀ v,Tot (g143.d g101.F v)) v)
theorem horizon_Aim_tot_d0 (v:g144.T0):Tot (g144.D0 v):=Tot.of (g144.D0_of v) ((fun (v0,v1,v2,v3)=>Tot.some:∀ v,Tot (g144.d0 v)) v)
theorem horizon_Aim_tot (v:g144.A):Tot (g144.F v):=Tot.of (g144.F_of v) ((fun (v0,v1,v2,v3,v4,v5)=>(Tot.bnd (horizon_CheckSite_tot _) fun _=>(Tot.bnd (sphere_Check_tot _) fun _=>(Tot.bnd (cmp_Or_Errno_tot _ _) fun _=>(Tot.br Tot.some (Tot.bnd (sphere_Grow_tot _) fun _=>(Tot.bnd (horizon_AimS1_tot _) fun _=>(Tot.bnd (horizon_AimS1_1_tot _) fun _=>(Tot.bnd (num_RoundDiv_tot _) fun _=>(Tot.bnd (num_RoundDiv_tot _) fun _=>(Tot.bnd (horizon_AimS1_tot _) fun _=>(Tot.bnd (horizon_AimS1_1_tot _) fun _=>(Tot.bnd (num_RoundDiv_tot _) fun _=>(Tot.bnd (num_RoundDiv_tot _) fun _=>(Tot.bnd (trig_Atan2_tot _) fun _=>(Tot.bnd (num_Sqrt_tot _) fun _=>(Tot.bnd (trig_Atan2_tot _) fun _=>(Tot.br (horizon_Aim_tot_d0 _) (horizon_Aim_tot_d0 _)))))))))))))))))):∀ v,Tot (g144.d g73.F g34.F g20.F g75.F g139.F g140.F g78.F g142.F g143.F g144.D0 v)) v)
theorem aim_tot {most:Int} {n:Nt} (hn:n.Ok most) (hm:most≤64) (x y z k:Int):Y (g145.F (n.w (x,y,z,k))) fun _=>True:=
 Y.of (g145.F_of _) (Y.bE (night_ok hn hm) (Y.np rfl (Y.bif (fun _=>Y.some trivial) fun _=>Tot.y (Tot.bnd (scale_Angle_tot _) fun _=>Tot.bnd (horizon_Aim_tot _) fun _=>Tot.some))))
end Go.Proofs.RPn
namespace Go.Proofs.RPn
open Go Go.Eng
set_option linter.unusedVariables false
theorem rd_set {t:Ty} (l:List t.den) (i j:Nat) (a:t.den) (hi:i < l.length):rd t (l.set i a) (j:Int)=if j=i then a else rd t l (j:Int):=by
 unfold rd
 rw [List.getD_eq_getElem?_getD,List.getD_eq_getElem?_getD,show ((j:Int).toNat)=j by omega,List.getElem?_set]
 by_cases c:i=j
 ·subst c
  simp [hi]
 ·rw [if_neg c,if_neg (fun g=>c g.symm)]
theorem rd_rep {t:Ty} (n:Nat) (a:t.den) (j:Nat) (hj:j < n):rd t (List.replicate n a) (j:Int)=a:=by
 rw [rd_nat (t:=t) _ j (by simpa using hj)]
 simp
abbrev rty:Ty:=.slice (.int .i64)
abbrev aty:Ty:=.slice (.pair (.int .i64) (.int .i64))
theorem start_spec (m:Mt) (ps:List (ByteArray×Int)) (qs:List QT) (h:qs.length≤1000):g11.F (m.w (ps,qs))=some (0,m.pz,m.pl,List.replicate qs.length []):=by
 refine Y.is (Y.of (g11.F_of _) (Y.pd (by omega) (Y.some ?_)))
 rw [show ((qs.length:Int)).toNat=qs.length by omega]
 rfl
@[reducible] def ds {β:Type} (n:Nt) (m:Mt) (b:β):=n.v ((0:Int),(0:Int),(0:Int),(0:Int),(0:Int),(0:Int),(0:Int),(0:Int),(0:Int),(0:Int),(0:Int),(0:Int),(0:Int),(0:Int),(0:Int),(0:Int),(0:Int),(0:Int),(0:Int),(0:Int),(0:Int),(0:Int),(0:Int),(0:Int),(0:Int),(0:Int),n.v (m.w b))
theorem desk_inner {n:Nt} {m:Mt} {q:Rq} {ps:List (ByteArray×Int)} {qs:List QT} (hn:n.Ok 64) (N i:Nat) (hi:i < N) (hN:N≤6) (sh:List (List Int)) (Q:g146.R→Prop) (S:Nat) (hS:(S:Int)=n.sl + 1)
  (K:∀ am:List (List (Int×Int)),am.length=N→(∀ j:Nat,j < N→(rd aty am (j:Int)).length=if j < i + 1 then S else 0)→Y (g146.D0 ((N:Int),(i:Int) + 1,ds n m (qs,n.cl,[],[],[],[],[],ps,sh,am))) Q) (c:Nat) :
  ∀ (k:Nat) (am:List (List (Int×Int))),k + c=S→am.length=N→(∀ j:Nat,j < N→(rd aty am (j:Int)).length=if j < i then S else if j=i then k else 0) →
   Y (g146.D1 ((i:Int),(N:Int),(i:Int),n.sl + 1,(k:Int),ds n m (q.w (qs,n.cl,[],[],[],[],[],ps,sh,am)))) Q:=by
 have hsl:=hn.sl
 induction c with
 | zero=>
  intro k am e hl ha
  refine Y.of (g146.D1_of _) (Y.nd (by omega) ?_)
  rw [w64 (x:=(i:Int) + 1) (by omega) (by omega)]
  refine K am hl fun j hj=>?_
  rw [ha j hj]
  by_cases c1:j < i
  ·rw [if_pos c1,if_pos (by omega)]
  ·rw [if_neg c1]
   by_cases c2:j=i
   ·rw [if_pos c2,if_pos (by omega)]
    omega
   ·rw [if_neg c2,if_neg (by omega)]
 | succ c ih=>
  intro k am e hl ha
  have hk:(rd aty am (i:Int)).length=k:=by rw [ha i hi,if_neg (by omega),if_pos rfl]
  refine Y.of (g146.D1_of _) (Y.pd (by omega) (Y.bnd _ (aim_tot hn (by omega) q.ax q.ay q.az (k:Int)) fun r _=>Y.pd (by omega) (Y.pd ?_ (Y.pd (by omega) (Y.pd rfl ?_)))))
  ·show (rd aty am (i:Int)).length + 1≤140737488355328 / 16
   omega
  ·rw [w64 (x:=(k:Int) + 1) (by omega) (by omega)]
   have:=ih (k + 1) (am.set i (rd aty am (i:Int)++[(r.1,r.2.1)])) (by omega) (by rw [List.length_set,hl]) fun j hj=>by
    rw [rd_set (t:=aty) am i j _ (by omega)]
    by_cases c1:j=i
    ·rw [if_pos c1,if_neg (by omega),if_pos c1,List.length_append,hk]
     rfl
    ·rw [if_neg c1,ha j hj,if_neg c1]
     by_cases c2:j < i
     ·rw [if_pos c2,if_pos c2]
     ·rw [if_neg c2,if_neg c2,if_neg c1]
   rw [show ((k + 1:Nat):Int)=(k:Int) + 1 by omega] at this
   exact this
end Go.Proofs.RPn
namespace Go.Proofs.RPn
open Go Go.Eng
set_option linter.unusedVariables false
abbrev CT:Type:=Int×Int×(Int×Int)×Int×Int
abbrev cty:Ty:=.pair (.int .i64) (.pair (.int .i64) (.pair (.pair (.int .i64) (.int .i64)) (.pair (.int .i64) (.int .i64))))
@[reducible] def Dk.k (d:Dk) (u:List Int) (l:List CT):=d.n.v (d.m.w (d.n.cl,d.ps,d.qs,d.sh,d.am,u,l))
def Dk.C (d:Dk) (l:List CT):Prop:=∀ x ∈ l,0≤x.1∧x.1 < (d.qs.length:Int)
theorem better_tot {d:Dk} (hg:PgOk d.ps d.qs) (u:List Int) (hu:u.length=d.ps.length) (a b:CT) (ha:0≤a.1∧a.1 < (d.qs.length:Int)) (hb:0≤b.1∧b.1 < (d.qs.length:Int)) :
  Y (g164.F (d.n.w (d.m.w (d.ps,d.qs,d.sh,d.am,u,a.1,a.2.1,a.2.2.1.1,a.2.2.1.2,a.2.2.2.1,a.2.2.2.2,b.1,b.2.1,b.2.2.1.1,b.2.2.1.2,b.2.2.2.1,b.2.2.2.2)))) fun _=>True:=by
 have hr:∀ i:Int,0≤i∧i < (d.qs.length:Int)→0≤(rd qty d.qs i).2.1∧(rd qty d.qs i).2.1 < (d.ps.length:Int):=by
  intro i hi
  obtain ⟨n,rfl⟩:∃ n:Nat,i=n:=⟨i.toNat,by omega⟩
  exact hg.r n (by omega)
 obtain ⟨a0,a1⟩:=hr a.1 ha
 obtain ⟨b0,b1⟩:=hr b.1 hb
 refine Y.of (g164.F_of _) (Y.pd ha (Y.pd hb (Y.pd ⟨a0,by rw [hu]; exact a1⟩ (Y.pd ⟨b0,b1⟩ (Y.pd ⟨b0,by rw [hu]; exact b1⟩ (Y.pd ⟨a0,a1⟩ ?_))))))
 exact Y.nite (fun _=>Y.some trivial) fun _=>Y.nite (fun _=>Y.some trivial) fun _=>Y.nite (fun _=>Y.some trivial) fun _=>Y.some trivial
theorem less_spec {d:Dk} (hg:PgOk d.ps d.qs) (u:List Int) (hu:u.length=d.ps.length) (l:List CT) (hl:d.C l) (i j:Int) (hi:0≤i∧i < (l.length:Int)) (hj:0≤j∧j < (l.length:Int)):Y (g165.F (i,j,d.k u l)) fun r=>∃ b,r=(b,d.k u l):=by
 refine Y.of (g165.F_of _) (Y.pd hi (Y.pd hj ?_))
 refine Y.bnd _ (better_tot hg u hu (rd cty l i) (rd cty l j) (hl _ (rd_mem (t:=cty) l i hi.1 hi.2)) (hl _ (rd_mem (t:=cty) l j hj.1 hj.2))) fun b _=>Y.some ⟨b,rfl⟩
theorem swap_spec {d:Dk} (u:List Int) (l:List CT) (i j:Int) (hi:0≤i∧i < (l.length:Int)) (hj:0≤j∧j < (l.length:Int)):Y (g166.F (i,j,d.k u l)) fun r=>∃ l':List CT,r=d.k u l'∧l'.length=l.length∧∀ x ∈ l',x ∈ l:=by
 refine Y.of (g166.F_of _) (Y.pd hj (Y.pd hi (Y.pd hi (Y.pd (by rw [List.length_set]; exact hj) (Y.some ⟨(l.set i.toNat (rd cty l j)).set j.toNat (rd cty l i),rfl,by rw [List.length_set,List.length_set],fun x hx=>?_⟩)))))
 rcases List.mem_or_eq_of_mem_set hx with g | g
 ·rcases List.mem_or_eq_of_mem_set g with k | k
  ·exact k
  ·rw [k]
   exact rd_mem (t:=cty) l j hj.1 hj.2
 ·rw [g]
  exact rd_mem (t:=cty) l i hi.1 hi.2
theorem up_spec {d:Dk} (hg:PgOk d.ps d.qs) (u:List Int) (hu:u.length=d.ps.length) (l0:List CT) (hl0:d.C l0) (hn:l0.length≤1000) (j:Nat) (hj:j < l0.length) :
  Y (g167.F ((j:Int),d.k u l0)) fun r=>∃ l':List CT,r=d.k u l'∧l'.length=l0.length∧∀ x ∈ l',x ∈ l0:=by
 have loop (m:Nat):∀ (j:Nat) (l:List CT),j≤m→j < l.length→l.length=l0.length→(∀ x ∈ l,x ∈ l0)→Y (g167.D0 ((j:Int),d.k u l)) fun r=>∃ l':List CT,r=d.k u l'∧l'.length=l0.length∧∀ x ∈ l',x ∈ l0:=by
  induction m with
  | zero=>
   intro j l hm hj hl hx
   have:j=0:=by omega
   subst this
   exact Y.of (g167.D0_of _) (Y.np' (by decide) (Y.neg (by decide) (Y.some ⟨l,rfl,hl,hx⟩)))
  | succ m ih=>
   intro j l hm hj hl hx
   by_cases c:j=0
   ·subst c
    exact Y.of (g167.D0_of _) (Y.np' (by decide) (Y.neg (by decide) (Y.some ⟨l,rfl,hl,hx⟩)))
   ·have e:wrap .i64 ((wrap .i64 ((j:Int) - 1)).tdiv 2)=(((j - 1) / 2:Nat):Int):=by
     rw [w64 (x:=(j:Int) - 1) (by omega) (by omega),Int.tdiv_eq_ediv_of_nonneg (a:=(j:Int) - 1) (by omega),w64 (by omega) (by omega)]
     omega
    refine Y.of (g167.D0_of _) (Y.np' (by decide) ?_)
    dsimp only [g167.d0,Dk.k,Nt.v,Mt.w]
    rw [e]
    have hne:¬ (((j - 1) / 2:Nat):Int)=(j:Int):=by omega
    refine Y.pos (by rw [decide_eq_false hne]; rfl) (Y.bnd _ (less_spec hg u hu l (fun x h=>hl0 x (hx x h)) (j:Int) (((j - 1) / 2:Nat):Int) (by omega) (by omega)) ?_)
    rintro r ⟨b,rfl⟩
    refine Y.bif (fun _=>Y.some ⟨l,rfl,hl,hx⟩) fun _=>Y.bnd _ (swap_spec (d:=d) u l (((j - 1) / 2:Nat):Int) (j:Int) (by omega) (by omega)) ?_
    rintro r ⟨l',rfl,h1,h2⟩
    exact ih ((j - 1) / 2) l' (by omega) (by omega) (by omega) fun x h=>hx x (h2 x h)
 exact Y.of (g167.F_of _) (loop j j l0 (Nat.le_refl j) hj rfl fun _ h=>h)
theorem push_spec {d:Dk} (hg:PgOk d.ps d.qs) (u:List Int) (hu:u.length=d.ps.length) (l:List CT) (hl:d.C l) (hn:l.length≤100) (c:CT) (hc:0≤c.1∧c.1 < (d.qs.length:Int)) :
  Y (g168.F (c,d.k u l)) fun r=>∃ l':List CT,r=d.k u l'∧l'.length=l.length + 1∧∀ x ∈ l',x=c∨x ∈ l:=by
 have h1:g162.F (c,d.k u l)=some (d.k u (l++[c])):=Y.is (Y.of (g162.F_of _) (Y.pd (by simp only [List.length_cons,List.length_nil]; omega) (Y.some rfl)))
 have h2:g163.F (d.k u (l++[c]))=some (((l++[c]).length:Int),d.k u (l++[c])):=Y.is (Y.of (g163.F_of _) (Y.some rfl))
 have hC:d.C (l++[c]):=by
  intro x hx
  rcases List.mem_append.mp hx with g | g
  ·exact hl x g
  ·rw [List.mem_singleton] at g
   rw [g]
   exact hc
 have e:wrap .i64 (((l++[c]).length:Int) - 1)=(l.length:Int):=by
  rw [List.length_append,List.length_singleton,w64 (by omega) (by omega)]
  omega
 refine Y.of (g168.F_of _) (Y.bE h1 (Y.bE h2 ?_))
 dsimp only
 rw [e]
 refine Y.bnd _ (up_spec hg u hu (l++[c]) hC (by simp; omega) l.length (by simp)) ?_
 rintro r ⟨l',rfl,g1,g2⟩
 refine Y.some ⟨l',rfl,by simpa using g1,fun x hx=>?_⟩
 rcases List.mem_append.mp (g2 x hx) with g | g
 ·exact .inr g
 ·exact .inl (List.mem_singleton.mp g)
theorem down_spec {d:Dk} (hg:PgOk d.ps d.qs) (u:List Int) (hu:u.length=d.ps.length) (l0:List CT) (hl0:d.C l0) (hn:l0.length≤1000) (i0 N:Nat) (hi0:i0≤2000) (hN:N≤l0.length) :
  Y (g169.F ((i0:Int),(N:Int),d.k u l0)) fun r=>∃ (b:Bool) (l':List CT),r=(b,d.k u l')∧l'.length=l0.length∧∀ x ∈ l',x ∈ l0:=by
 have f1:∀ (i:Int) (l:List CT),l.length=l0.length→(∀ x ∈ l,x ∈ l0)→Y (g169.D1 ((i0:Int),i,d.k u l)) fun r=>∃ (b:Bool) (l':List CT),r=(b,d.k u l')∧l'.length=l0.length∧∀ x ∈ l',x ∈ l0:=fun i l h1 h2=>Y.of (g169.D1_of _) (Y.some ⟨_,l,rfl,h1,h2⟩)
 have loop (m:Nat):∀ (i:Nat) (l:List CT),N≤i + m→i≤2000→l.length=l0.length→(∀ x ∈ l,x ∈ l0)→Y (g169.D0 ((i0:Int),(N:Int),(i:Int),d.k u l)) fun r=>∃ (b:Bool) (l':List CT),r=(b,d.k u l')∧l'.length=l0.length∧∀ x ∈ l',x ∈ l0:=by
  induction m with
  | zero=>
   intro i l hm hi hl hx
   have e1:(N:Int)≤2 * (i:Int) + 1:=by omega
   refine Y.of (g169.D0_of _) ?_
   dsimp only [g169.d0,Dk.k,Nt.v,Mt.w]
   rw [w64 (x:=2 * (i:Int)) (by omega) (by omega),w64 (x:=2 * (i:Int) + 1) (by omega) (by omega)]
   exact Y.pos (by rw [decide_eq_true e1]; rfl) (f1 _ l hl hx)
  | succ m ih=>
   intro i l hm hi hl hx
   refine Y.of (g169.D0_of _) ?_
   dsimp only [g169.d0,Dk.k,Nt.v,Mt.w]
   rw [w64 (x:=2 * (i:Int)) (by omega) (by omega),w64 (x:=2 * (i:Int) + 1) (by omega) (by omega),w64 (x:=2 * (i:Int) + 1 + 1) (by omega) (by omega)]
   by_cases c:(N:Int)≤2 * (i:Int) + 1
   ·exact Y.pos (by rw [decide_eq_true c]; rfl) (f1 _ l hl hx)
   ·have e2:¬ 2 * (i:Int) + 1 < 0:=by omega
    refine Y.neg (by rw [decide_eq_false c,decide_eq_false e2]; rfl) ?_
    have f2:∀ j:Nat,i < j→j < N→Y (g169.D2 ((i0:Int),(N:Int),(i:Int),(j:Int),d.k u l)) fun r=>∃ (b:Bool) (l':List CT),r=(b,d.k u l')∧l'.length=l0.length∧∀ x ∈ l',x ∈ l0:=by
     intro j j0 j1
     refine Y.of (g169.D2_of _) (Y.bnd _ (less_spec hg u hu l (fun x h=>hl0 x (hx x h)) (j:Int) (i:Int) (by omega) (by omega)) ?_)
     rintro r ⟨b,rfl⟩
     refine Y.bif (fun _=>f1 _ l hl hx) fun _=>Y.bnd _ (swap_spec (d:=d) u l (i:Int) (j:Int) (by omega) (by omega)) ?_
     rintro r ⟨l',rfl,h1,h2⟩
     exact ih j l' (by omega) (by omega) (by omega) fun x h=>hx x (h2 x h)
    have g1:=f2 (2 * i + 1) (by omega) (by omega)
    rw [show ((2 * i + 1:Nat):Int)=2 * (i:Int) + 1 by omega] at g1
    by_cases c2:2 * (i:Int) + 1 + 1 < (N:Int)
    ·have g2:=f2 (2 * i + 2) (by omega) (by omega)
     rw [show ((2 * i + 2:Nat):Int)=2 * (i:Int) + 1 + 1 by omega] at g2
     refine Y.pos (by rw [decide_eq_true c2]; rfl) (Y.bnd _ (less_spec hg u hu l (fun x h=>hl0 x (hx x h)) (2 * (i:Int) + 1 + 1) (2 * (i:Int) + 1) (by omega) (by omega)) ?_)
     rintro r ⟨b,rfl⟩
     exact Y.bif (fun _=>g2) fun _=>g1
    ·exact Y.neg (by rw [decide_eq_false c2]; rfl) g1
 exact Y.of (g169.F_of _) (loop (N + 1) i0 l0 (by omega) hi0 rfl fun _ h=>h)
theorem pop_spec {d:Dk} (hg:PgOk d.ps d.qs) (u:List Int) (hu:u.length=d.ps.length) (l:List CT) (hl:d.C l) (hn:l.length≤100) (h0:0 < l.length) :
  Y (g171.F (d.k u l)) fun r=>r.1 ∈ l∧∃ (a b:Int) (z:List CT),r.2=d.v (a,b,d.n.cl,d.ps,d.qs,d.sh,d.am,u,z):=by
 have h2:g163.F (d.k u l)=some ((l.length:Int),d.k u l):=Y.is (Y.of (g163.F_of _) (Y.some rfl))
 refine Y.of (g171.F_of _) (Y.bE h2 ?_)
 dsimp only
 rw [w64 (x:=(l.length:Int) - 1) (by omega) (by omega)]
 refine Y.bnd _ (swap_spec (d:=d) u l 0 ((l.length:Int) - 1) (by omega) (by omega)) ?_
 rintro r ⟨l1,rfl,a1,a2⟩
 have hC1:d.C l1:=fun x h=>hl x (a2 x h)
 have hd:=down_spec hg u hu l1 hC1 (by omega) 0 (l.length - 1) (by omega) (by omega)
 rw [show ((l.length - 1:Nat):Int)=(l.length:Int) - 1 by omega] at hd
 refine Y.bnd _ hd ?_
 rintro r ⟨b,l2,rfl,b1,b2⟩
 have hp:g170.F (d.k u l2)=some (rd cty l2 ((l2.length:Int) - 1),d.v (0,(l2.length:Int) - 1,d.n.cl,d.ps,d.qs,d.sh,d.am,u,l2)):=by
  refine Y.is (Y.of (g170.F_of _) ?_)
  dsimp only [g170.d,Dk.k,Nt.v,Mt.w]
  rw [w64 (x:=(l2.length:Int) - 1) (by omega) (by omega)]
  exact Y.pd (by omega) (Y.pd (by omega) (Y.some rfl))
 refine Y.bE hp (Y.some ⟨?_,0,(l2.length:Int) - 1,l2,rfl⟩)
 exact a2 _ (b2 _ (rd_mem (t:=cty) l2 ((l2.length:Int) - 1) (by omega) (by omega)))
end Go.Proofs.RPn
namespace Go.Proofs.RPn
open Go Go.Eng
set_option linter.unusedVariables false
def Mt.In (m:Mt) (p:Int×Int):Prop:=(m.az.lo≤p.1∧p.1≤m.az.hi)∧(m.al.lo≤p.2∧p.2≤m.al.hi)
theorem to_in {m:Mt} (h:m.Ok) (x y u v:Int) (hp:m.In (x,y)):Y (g157.F (m.w (x,y,u,v))) fun r=>r.2.2.2=0→m.In (r.1,r.2.1):=by
 obtain ⟨h0,h1⟩:=hp
 refine Y.of (g157.F_of _) (Y.bE (mount_ok h) (Y.neg (by decide) (Y.bnd _ (target_spec h.az x u h0.1 h0.2) fun r hr=>Y.nite (fun c=>Y.some fun g=>absurd g c) fun c=>Y.bnd _ (target_spec h.al y v h1.1 h1.2) fun s hs=>Y.nite (fun c=>Y.some fun g=>absurd g c) fun k=>?_)))
 obtain ⟨r1,r2⟩:=hr c
 obtain ⟨s1,s2⟩:=hs k
 exact Y.bnd _ (steps_spec h.az x _ h0.1 h0.2 r1 r2) fun _ _=>Y.bnd _ (steps_spec h.al y _ h1.1 h1.2 s1 s2) fun _ _=>Y.some fun _=>⟨⟨r1,r2⟩,⟨s1,s2⟩⟩
noncomputable def stepO (n:Nt) (m:Mt) (v:Int×Int×Int) (k:Int) (p:Int×Int):Option (Int×Int×Int):=
 bnd (g145.F (n.w (v.1,v.2.1,v.2.2,k))) fun r=>br (!decide (r.2.2=0)) (some (0,0,r.2.2))
  (bnd (g157.F (m.w (p.1,p.2,r.1,r.2.1))) fun r=>br (!decide (r.2.2.2=0)) (some (0,0,r.2.2.2))
   (bnd (g152.F (wrap .i64 (r.1 - p.1))) fun a=>br (decide (1073741824 < a) == false)
    (bnd (g152.F (wrap .i64 (r.2.1 - p.2))) fun b=>br (decide (1073741824 < b)) (some (0,0,4)) (some (r.1,r.2.1,0))) (some (0,0,4))))
noncomputable def stepV (n:Nt) (m:Mt) (v:Int×Int×Int) (k:Int) (p:Int×Int):Int×Int×Int:=(stepO n m v k p).getD (0,0,1)
theorem step_is {most:Int} {n:Nt} {m:Mt} (hn:n.Ok most) (hm:most≤64) (h:m.Ok) (v:Int×Int×Int) (k:Int) (p:Int×Int) (hp:m.In p):Y (stepO n m v k p) fun r=>(r.2.2=0→m.In (r.1,r.2.1))∧(r.2.2≠0→r.1=0∧r.2.1=0):=by
 unfold stepO
 refine Y.bnd _ (aim_tot hn hm v.1 v.2.1 v.2.2 k) fun r _=>Y.nite (fun c=>Y.some ⟨fun g=>absurd g c,fun _=>⟨rfl,rfl⟩⟩) fun _=>Y.bnd _ (to_in h p.1 p.2 r.1 r.2.1 hp) fun s hs=>Y.nite (fun c=>Y.some ⟨fun g=>absurd g c,fun _=>⟨rfl,rfl⟩⟩) fun c=>Y.bE (slew_abs_is _) ?_
 refine Y.bif (fun _=>Y.bE (slew_abs_is _) (Y.ite (fun _=>Y.some ⟨fun g=>absurd g (by decide),fun _=>⟨rfl,rfl⟩⟩) fun _=>Y.some ⟨fun _=>hs c,fun g=>absurd rfl g⟩)) fun _=>Y.some ⟨fun g=>absurd g (by decide),fun _=>⟨rfl,rfl⟩⟩
theorem step_eq {most:Int} {n:Nt} {m:Mt} (hn:n.Ok most) (hm:most≤64) (h:m.Ok) (v:Int×Int×Int) (k:Int) (p:Int×Int) (hp:m.In p):stepO n m v k p=some (stepV n m v k p)∧((stepV n m v k p).2.2=0→m.In ((stepV n m v k p).1,(stepV n m v k p).2.1)):=by
 obtain ⟨r,hr,h1,h2⟩:=step_is hn hm h v k p hp
 have:stepV n m v k p=r:=by unfold stepV; rw [hr]; rfl
 rw [this]
 exact ⟨hr,h1⟩
def goes (f:Int→Int×Int→Int×Int×Int):Nat→Int→Int×Int→Int×Int×Int
 | 0,_,p=>(p.1,p.2,0)
 | c + 1,k,p=>if (f k p).2.2=0 then goes f c (k + 1) ((f k p).1,(f k p).2.1) else (0,0,(f k p).2.2)
theorem goes_in {m:Mt} (f:Int→Int×Int→Int×Int×Int) (hf:∀ k p,m.In p→(f k p).2.2=0→m.In ((f k p).1,(f k p).2.1)) (c:Nat):∀ (k:Int) (p:Int×Int),m.In p→(goes f c k p).2.2=0→m.In ((goes f c k p).1,(goes f c k p).2.1):=by
 induction c with
 | zero=>exact fun k p hp _=>hp
 | succ c ih=>
  intro k p hp h
  simp only [goes] at h ⊢
  split
  ·rename_i g
   rw [if_pos g] at h
   exact ih _ _ (hf k p hp g) h
  ·rename_i g
   rw [if_neg g] at h
   exact absurd h g
theorem track_is {most:Int} {n:Nt} {m:Mt} (hn:n.Ok most) (hm:most≤64) (h:m.Ok) (v:Int×Int×Int) (a b:Int) (p:Int×Int) (hp:m.In p) (h0:0≤a) (h1:a≤b) (h2:b≤n.sl) :
  g160.F (m.w (n.w (p.1,p.2,v.1,v.2.1,v.2.2,a,b)))=some (goes (stepV n m v) (b - a).toNat (a + 1) p):=by
 have hsl:=hn.sl
 have loop (c:Nat):∀ (k:Int) (p:Int×Int),k + c=b + 1→0≤k→m.In p→Y (g160.D0 (b,k,m.w (n.w (p.1,p.2,v.1,v.2.1,v.2.2,0,0)))) fun r=>r=goes (stepV n m v) c k p:=by
  induction c with
  | zero=>exact fun k p e _ hp=>Y.of (g160.D0_of _) (Y.nd (by omega) (Y.some rfl))
  | succ c ih=>
   intro k p e k0 hp
   obtain ⟨e1,e2⟩:=step_eq hn hm h v k p hp
   refine Y.of (g160.D0_of _) (Y.pd (by omega) ?_)
   rw [show goes (stepV n m v) (c + 1) k p=if (stepV n m v k p).2.2=0 then goes (stepV n m v) c (k + 1) ((stepV n m v k p).1,(stepV n m v k p).2.1) else (0,0,(stepV n m v k p).2.2) from rfl]
   generalize stepV n m v k p=w at e1 e2 ⊢
   obtain ⟨w1,w2,w3⟩:=w
   unfold stepO at e1
   obtain ⟨r,hr,_⟩:=aim_tot hn hm v.1 v.2.1 v.2.2 k
   obtain ⟨s,hs,hs2⟩:=to_in h p.1 p.2 r.1 r.2.1 hp
   rw [hr] at e1
   refine Y.bE hr ?_
   have e1:br (!decide (r.2.2=0)) (some (0,0,r.2.2)) (bnd (g157.F (m.w (p.1,p.2,r.1,r.2.1))) fun r=>br (!decide (r.2.2.2=0)) (some (0,0,r.2.2.2))
    (bnd (g152.F (wrap .i64 (r.1 - p.1))) fun a=>br (decide (1073741824 < a) == false)
     (bnd (g152.F (wrap .i64 (r.2.1 - p.2))) fun b=>br (decide (1073741824 < b)) (some (0,0,4)) (some (r.1,r.2.1,0))) (some (0,0,4))))=some (w1,w2,w3):=e1
   refine Y.nite (fun c0=>?_) fun c0=>Y.bE hs (Y.nite (fun c1=>?_) fun c1=>Y.bE (slew_abs_is _) ?_)
   ·rw [br_pos (by simpa using c0)] at e1
    cases e1
    exact Y.some (by rw [if_neg c0])
   ·rw [br_neg (by simpa using c0),hs] at e1
    have e1:br (!decide (s.2.2.2=0)) (some (0,0,s.2.2.2)) _=some (w1,w2,w3):=e1
    rw [br_pos (by simpa using c1)] at e1
    cases e1
    exact Y.some (by rw [if_neg c1])
   ·rw [br_neg (by simpa using c0),hs] at e1
    have e1:br (!decide (s.2.2.2=0)) (some (0,0,s.2.2.2)) (bnd (g152.F (wrap .i64 (s.1 - p.1))) fun a=>br (decide (1073741824 < a) == false)
     (bnd (g152.F (wrap .i64 (s.2.1 - p.2))) fun b=>br (decide (1073741824 < b)) (some (0,0,4)) (some (s.1,s.2.1,0))) (some (0,0,4)))=some (w1,w2,w3):=e1
    rw [br_neg (by simpa using c1),slew_abs_is] at e1
    have e1:br (decide (1073741824 < max (wrap .i64 (s.1 - p.1)) (wrap .i64 (0 - wrap .i64 (s.1 - p.1)))) == false)
     (bnd (g152.F (wrap .i64 (s.2.1 - p.2))) fun b=>br (decide (1073741824 < b)) (some (0,0,4)) (some (s.1,s.2.1,0))) (some (0,0,4))=some (w1,w2,w3):=e1
    generalize max (wrap .i64 (s.1 - p.1)) (wrap .i64 (0 - wrap .i64 (s.1 - p.1)))=A at e1 ⊢
    refine Y.bif (fun c2=>Y.bE (slew_abs_is _) ?_) fun c2=>?_
    ·rw [br_pos c2,slew_abs_is] at e1
     have e1:br (decide (1073741824 < max (wrap .i64 (s.2.1 - p.2)) (wrap .i64 (0 - wrap .i64 (s.2.1 - p.2))))) (some (0,0,4)) (some (s.1,s.2.1,0))=some (w1,w2,w3):=e1
     generalize max (wrap .i64 (s.2.1 - p.2)) (wrap .i64 (0 - wrap .i64 (s.2.1 - p.2)))=B at e1 ⊢
     refine Y.ite (fun c3=>?_) fun c3=>?_
     ·rw [br_pos (by simpa using c3)] at e1
      cases e1
      exact Y.some (by rw [if_neg (by decide)])
     ·rw [br_neg (by simpa using c3)] at e1
      cases e1
      rw [if_pos rfl,w64 (x:=k + 1) (by omega) (by omega)]
      exact ih (k + 1) (s.1,s.2.1) (by omega) (by omega) (hs2 c1)
    ·rw [br_neg (by simpa using c2)] at e1
     cases e1
     exact Y.some (by rw [if_neg (by decide)])
 refine Y.is (Y.of (g160.F_of _) (Y.bE (mount_ok h) (Y.np rfl (Y.bE (night_ok hn hm) (Y.np rfl (Y.bE (in_ok _ _ hp.1.1 hp.1.2) (Y.pos rfl (Y.bE (in_ok _ _ hp.2.1 hp.2.2) (Y.neg ?_ ?_)))))))))
 ·have e1:¬ a < 0:=by omega
  have e2:¬ b < a:=by omega
  have e3:¬ n.sl < b:=by omega
  show (!true || decide (a < 0) || decide (b < a) || decide (n.sl < b))=false
  rw [decide_eq_false e1,decide_eq_false e2,decide_eq_false e3]
  rfl
 ·rw [w64 (x:=a + 1) (by omega) (by omega)]
  exact loop (b - a).toNat (a + 1) p (by omega) (by omega) hp
end Go.Proofs.RPn
namespace Go.Proofs.RPn
open Go Go.Eng
set_option linter.unusedVariables false
structure Dk.G (d:Dk):Prop where
 n:d.n.Ok 64
 m:d.m.Ok
 sn:d.sh.length=d.qs.length
 s:∀ i:Nat,i < d.qs.length→∃ q:Rq,q.Ok∧rd qty d.qs (i:Int)=q.t∧Codes d.n q (rd rty d.sh (i:Int))
 an:d.am.length=d.qs.length
 a:∀ i:Nat,i < d.qs.length→((rd aty d.am (i:Int)).length:Int)=d.n.sl + 1
structure Rows (d:Dk) (ss:List (List Int)):Prop where
 l:ss.length=d.qs.length
 r:∀ i:Nat,i < d.qs.length→(rd rty ss (i:Int)).length≤3∧∀ e ∈ rd rty ss (i:Int),0≤e∧e≤64
def Come (d:Dk) (s x y:Int) (i:Nat) (t fx fy:Int):Prop:=∃ st z:Int,g157.F (d.m.w (x,y,(rd (.pair (.int .i64) (.int .i64)) (rd aty d.am (i:Int)) t).1,(rd (.pair (.int .i64) (.int .i64)) (rd aty d.am (i:Int)) t).2))=some (fx,fy,st,0)∧g158.F (d.n.w st)=some z∧z≤t - s
def Goes (d:Dk) (s x y:Int) (i:Nat) (q:Rq) (t tx ty:Int):Prop:=∃ fx fy:Int,Come d s x y i t fx fy∧d.m.In (fx,fy)∧g160.F (d.m.w (d.n.w (fx,fy,q.ax,q.ay,q.az,t,t + q.len)))=some (tx,ty,0)
theorem reach_in {d:Dk} (h:d.G) (s x y:Int) (ss:List (List Int)) (i:Nat) (hi:i < d.qs.length) (s0:0≤s) (s1:s≤d.n.sl) (hp:d.m.In (x,y)) {q:Rq} (hq:q.Ok) (e:rd qty d.qs (i:Int)=q.t) :
  Y (g159.F (d.w (s,x,y,ss,(i:Int)))) fun r=>r.2.2.2=true→s≤r.1∧r.1 + q.len≤d.n.sl∧d.m.In (r.2.1,r.2.2.1)∧Come d s x y i r.1 r.2.1 r.2.2.1:=by
 have hl:=hq.len
 have hs:=h.n.sl
 have ha:=h.a i hi
 have hn:=h.an
 have loop (m:Nat):∀ t:Int,d.n.sl - t < m→s≤t→t≤128→Y (g159.D0 ((i:Int),t,d.w (s,x,y,ss,0,0))) fun r=>r.2.2.2=true→s≤r.1∧r.1 + q.len≤d.n.sl∧d.m.In (r.2.1,r.2.2.1)∧Come d s x y i r.1 r.2.1 r.2.2.1:=by
  induction m with
  | zero=>
   intro t e1 t0 t1
   refine Y.of (g159.D0_of _) (Y.pd (by omega) (Y.nd ?_ (Y.some fun c=>absurd c (by decide))))
   rw [show rd ty0 d.qs (i:Int)=q.t from e,w64 (x:=d.n.sl - q.len) (by omega) (by omega)]
   omega
  | succ m ih=>
   intro t e1 t0 t1
   refine Y.of (g159.D0_of _) (Y.pd (by omega) ?_)
   rw [show rd ty0 d.qs (i:Int)=q.t from e,w64 (x:=d.n.sl - q.len) (by omega) (by omega)]
   refine Y.ite (fun c=>Y.pd (by omega) (Y.pd (show 0≤t∧t < ((rd aty d.am (i:Int)).length:Int) by omega) ?_)) fun _=>Y.some fun c=>absurd c (by decide)
   obtain ⟨r,er,hr⟩:=to_in h.m x y (rd (.pair (.int .i64) (.int .i64)) (rd aty d.am (i:Int)) t).1 (rd (.pair (.int .i64) (.int .i64)) (rd aty d.am (i:Int)) t).2 hp
   refine Y.bE er ?_
   have nx:=ih (t + 1) (by omega) (by omega) (by omega)
   rw [← w64 (x:=t + 1) (by omega) (by omega)] at nx
   by_cases k:r.2.2.2=0
   ·obtain ⟨z,ez,_⟩:=slots_tot h.n r.2.2.1
    refine Y.pos (by simp [k]) (Y.pos (by simp [k]) (Y.bE ez (Y.bif (fun c2=>Y.some fun _=>⟨t0,by omega,hr k,r.2.2.1,z,?_,ez,?_⟩) fun _=>nx)))
    ·rw [er]
     obtain ⟨r1,r2,r3,r4⟩:=r
     have k:r4=0:=k
     rw [k]
    ·have c2:=c2
     rw [decide_eq_true k,w64 (x:=t - s) (by omega) (by omega)] at c2
     simpa using c2
   ·refine Y.neg (by simp [k]) (Y.neg (by simp [k]) (Y.pos (by simp [k]) (Y.nn k nx)))
 exact Y.of (g159.F_of _) (loop (d.n.sl - s + 1).toNat s (by omega) (by omega) (by omega))
structure Fit (d:Dk) (s:Int) (ss:List (List Int)) (i:Nat) (q:Rq) (t tx ty:Int):Prop where
 t0:s≤t
 t1:t + q.len≤d.n.sl
 o:∀ j:Int,t≤j→j < t + q.len→rd (.int .i64) (rd rty d.sh (i:Int)) j=0
 to:d.m.In (tx,ty)
 gap:∀ (l:List Int) (x:Int),rd rty ss (i:Int)=l++[x]→q.least≤t - x∧t - x≤q.most
 room:(rd rty ss (i:Int)).length < q.vis
theorem look_in {d:Dk} (h:d.G) (s x y:Int) (ss:List (List Int)) (hr:Rows d ss) (i:Nat) (hi:i < d.qs.length) (s0:0≤s) (s1:s≤d.n.sl) (hp:d.m.In (x,y)) {q:Rq} (hq:q.Ok) (e:rd qty d.qs (i:Int)=q.t) (hcd:Codes d.n q (rd rty d.sh (i:Int))) :
  Y (g161.F (d.w (s,x,y,ss,(i:Int)))) fun r=>r.2.2.2.2.2.2=0→r.1=(i:Int)∧Fit d s ss i q r.2.1 r.2.2.2.2.1 r.2.2.2.2.2.1∧Goes d s x y i q r.2.1 r.2.2.2.2.1 r.2.2.2.2.2.1:=by
 have hl:=hq.len
 have hv:=hq.vis
 have hs:=h.n.sl
 have hsn:=h.sn
 have hss:=hr.l
 obtain ⟨hr1,hr2⟩:=hr.r i hi
 have hcl:=hcd.1
 have loop (t fx fy:Int) (t0:s≤t) (t1:t + q.len≤d.n.sl) (hf:d.m.In (fx,fy)) (hcm:Come d s x y i t fx fy) (gap:∀ (l:List Int) (x:Int),rd rty ss (i:Int)=l++[x]→q.least≤t - x∧t - x≤q.most) (room:(rd rty ss (i:Int)).length < q.vis) (c:Nat) :
   ∀ k:Int,k + c=t + q.len→t≤k→(∀ j:Int,t≤j→j < k→rd (.int .i64) (rd rty d.sh (i:Int)) j=0)→Y (g161.D1 ((i:Int),t,k,d.w (0,0,0,0,0,0,q.w (fx,fy,(i:Int),t,fx,fy,0,0)))) fun r=>r.2.2.2.2.2.2=0→r.1=(i:Int)∧Fit d s ss i q r.2.1 r.2.2.2.2.1 r.2.2.2.2.2.1∧Goes d s x y i q r.2.1 r.2.2.2.2.1 r.2.2.2.2.2.1:=by
  induction c with
  | zero=>
   intro k ek k0 ho
   refine Y.of (g161.D1_of _) ?_
   dsimp only [g161.d1,Dk.w,Nt.w,Mt.w,Rq.w]
   rw [w64 (x:=t + q.len) (by omega) (by omega)]
   have htr:=track_is h.n (by omega) h.m (q.ax,q.ay,q.az) t (t + q.len) (fx,fy) hf (by omega) (by omega) (by omega)
   refine Y.nd (by omega) (Y.bE htr ?_)
   have hin:=goes_in (m:=d.m) (stepV d.n d.m (q.ax,q.ay,q.az)) (fun k p hp=>(step_eq h.n (by omega) h.m _ k p hp).2) (t + q.len - t).toNat (t + 1) (fx,fy) hf
   generalize goes (stepV d.n d.m (q.ax,q.ay,q.az)) (t + q.len - t).toNat (t + 1) (fx,fy)=w at hin htr ⊢
   exact Y.nite (fun _=>Y.some fun c=>absurd c (show ¬ (6:Int)=0 by decide)) fun c=>Y.some fun _=>⟨rfl,⟨t0,t1,fun j (j0:t≤j) (j1:j < t + q.len)=>ho j j0 (by omega),hin c,gap,room⟩,fx,fy,hcm,hf,by obtain ⟨w1,w2,w3⟩:=w; have c:w3=0:=c; rw [c] at htr; exact htr⟩
  | succ c ih=>
   intro k ek k0 ho
   refine Y.of (g161.D1_of _) ?_
   dsimp only [g161.d1,Dk.w,Nt.w,Mt.w,Rq.w]
   rw [w64 (x:=t + q.len) (by omega) (by omega),w64 (x:=k + 1) (by omega) (by omega)]
   refine Y.pd (by omega) (Y.pd (by omega) (Y.pd (show 0≤k∧k < ((rd rty d.sh (i:Int)).length:Int) by omega) (Y.nite (fun _=>Y.some fun c=>absurd c (show ¬ (5:Int)=0 by decide)) fun c0=>?_)))
   exact ih (k + 1) (by omega) (by omega) fun j j0 j1=>by
    by_cases c1:j < k
    ·exact ho j j0 c1
    ·have:j=k:=by omega
     rw [this]
     exact c0
 refine Y.of (g161.F_of _) (Y.pd (by omega) (Y.pd (by omega) ?_))
 rw [show rd ty0 d.qs (i:Int)=q.t from e]
 refine Y.ite (fun _=>Y.some fun c=>absurd c (by decide)) fun c0=>Y.bnd _ (reach_in h s x y ss i hi s0 s1 hp hq e) fun r hr=>?_
 refine Y.bif (fun _=>Y.some fun c=>absurd c (by decide)) fun c1=>?_
 obtain ⟨r1,r2,r3,r4⟩:=hr (by simpa using c1)
 obtain ⟨t,fx,fy,b⟩:=r
 have room:(rd rty ss (i:Int)).length < q.vis:=by
  have:¬ q.vis≤((rd rty ss (i:Int)).length:Int):=c0
  omega
 have fin:∀ _:(∀ (l:List Int) (x:Int),rd rty ss (i:Int)=l++[x]→q.least≤t - x∧t - x≤q.most),Y (g161.D0 ((i:Int),t,d.w (0,0,0,0,0,0,q.w (fx,fy,(i:Int),t,fx,fy,0,0)))) fun r=>r.2.2.2.2.2.2=0→r.1=(i:Int)∧Fit d s ss i q r.2.1 r.2.2.2.2.1 r.2.2.2.2.2.1∧Goes d s x y i q r.2.1 r.2.2.2.2.1 r.2.2.2.2.2.1:=by
  intro gap
  exact Y.of (g161.D0_of _) (loop t fx fy r1 r2 r3 r4 gap room q.len.toNat t (by omega) (Int.le_refl t) fun j j0 j1=>by omega)
 by_cases cl:rd rty ss (i:Int)=[]
 ·refine Y.nd ?_ (fin fun l x g=>?_)
  ·show ¬ (0:Int) < ((rd rty ss (i:Int)).length:Int)
   rw [cl]
   decide
  ·rw [cl] at g
   cases l <;> cases g
 ·obtain ⟨l,z,hlz⟩:∃ (l:List Int) (z:Int),rd rty ss (i:Int)=l++[z]:=⟨(rd rty ss (i:Int)).dropLast,(rd rty ss (i:Int)).getLast cl,(List.dropLast_concat_getLast cl).symm⟩
  have hz:(0:Int)≤z∧z≤(64:Int):=hr2 z (by rw [hlz]; simp)
  have hlen:((rd rty ss (i:Int)).length:Int)=l.length + 1:=by rw [hlz]; simp
  have e3:wrap .i64 (((rd rty ss (i:Int)).length:Int) - 1)=(l.length:Int):=by rw [w64 (by omega) (by omega)]; omega
  have e4:rd (.int .i64) (rd rty ss (i:Int)) (l.length:Int)=z:=by
   rw [hlz,rd_app (t:=.int .i64) l z l.length (by omega),if_neg (by omega)]
  refine Y.pd (show (0:Int) < ((rd rty ss (i:Int)).length:Int) by omega) (Y.pd (show 0≤wrap .i64 (((rd rty ss (i:Int)).length:Int) - 1)∧wrap .i64 (((rd rty ss (i:Int)).length:Int) - 1) < ((rd rty ss (i:Int)).length:Int) by rw [e3]; omega) ?_)
  rw [show wrap .i64 (((rd (Ty.int IntKind.i64).slice ss (i:Int)).length:Int) - 1)=(l.length:Int) from e3,show rd (Ty.int IntKind.i64) (rd (Ty.int IntKind.i64).slice ss (i:Int)) (l.length:Int)=z from e4]
  have ew:wrap .i64 (t - z)=t - z:=w64 (by show _≤t - z; have:s≤t:=r1; omega) (by have:t + q.len≤d.n.sl:=r2; omega)
  refine Y.ite (fun _=>Y.some fun c=>absurd c (show ¬ (3:Int)=0 by decide)) fun c2=>Y.ite (fun _=>Y.some fun c=>absurd c (show ¬ (4:Int)=0 by decide)) fun c3=>fin fun l' x' g=>?_
  rw [hlz] at g
  have:x'=z:=by
   have:=congrArg List.getLast? g
   simpa using this.symm
  subst this
  have c2':¬ wrap .i64 (t - x') < q.least:=c2
  have c3':¬ q.most < wrap .i64 (t - x'):=c3
  rw [ew] at c2' c3'
  omega
end Go.Proofs.RPn
namespace Go.Proofs.RPn
open Go Go.Eng
set_option linter.unusedVariables false
theorem Dk.G.q {d:Dk} (h:d.G) (i:Nat) (hi:i < d.qs.length):∃ q:Rq,q.Ok∧rd qty d.qs (i:Int)=q.t:=by
 obtain ⟨q,a,b,_⟩:=h.s i hi
 exact ⟨q,a,b⟩
theorem used_len {ps:List (ByteArray×Int)} {qs:List QT} (h:PgOk ps qs) (s x y:Int) (ss:List (List Int)) (e:ss.length=qs.length):Y (g150.F (ps,qs,s,x,y,ss)) fun r=>r.length=ps.length:=by
 have hp:=h.p
 have hq:=h.q
 have loop (m:Nat):∀ (j:Nat) (out:List Int),j + m=qs.length→out.length=ps.length→Y (g150.D0 (qs,(qs.length:Int),(j:Int),s,x,y,ss,out)) fun r=>r.length=ps.length:=by
  induction m with
  | zero=>exact fun j out e1 e2=>Y.of (g150.D0_of _) (Y.nd (by omega) (Y.some e2))
  | succ m ih=>
   intro j out e1 e2
   obtain ⟨r1,r2⟩:=h.r j (by omega)
   have k:0≤(rd qty qs (j:Int)).2.1∧(rd qty qs (j:Int)).2.1 < (out.length:Int):=⟨r1,by rw [e2]; exact r2⟩
   refine Y.of (g150.D0_of _) (Y.pd (by omega) (Y.pd (by omega) (Y.pd k (Y.pd (show (0:Int)≤(j:Int)∧(j:Int) < (ss.length:Int) from ⟨by omega,by omega⟩) (Y.pd k ?_)))))
   rw [w64 (x:=(j:Int) + 1) (by omega) (by omega)]
   exact ih (j + 1) _ (by omega) (by rw [List.length_set]; exact e2)
 refine Y.of (g150.F_of _) (Y.bE h.c (Y.neg (by simp [e]) (Y.pd (by omega) ?_)))
 exact loop qs.length 0 _ (by omega) (by rw [List.length_replicate]; omega)
def CandOk (d:Dk) (s x y:Int) (ss:List (List Int)) (c:CT):Prop:=∃ (i:Nat) (q:Rq),i < d.qs.length∧c.1=(i:Int)∧q.Ok∧rd qty d.qs (i:Int)=q.t∧Fit d s ss i q c.2.1 c.2.2.2.1 c.2.2.2.2∧Goes d s x y i q c.2.1 c.2.2.2.1 c.2.2.2.2
@[reducible] def CT.out (c:CT) (b:Bool) (d:Dk):g172.R:=(c.1,c.2.1,c.2.2.1.1,c.2.2.1.2,c.2.2.2.1,c.2.2.2.2,b,d.n.cl,d.ps,d.qs,d.sh,d.am)
theorem choose_in {d:Dk} (h:d.G) (hg:PgOk d.ps d.qs) (s x y:Int) (ss:List (List Int)) (hr:Rows d ss) (s0:0≤s) (s1:s≤d.n.sl) (hp:d.m.In (x,y)) :
  Y (g172.F (d.v (s,x,y,ss,d.n.cl,d.ps,d.qs,d.sh,d.am))) fun r=>∃ (c:CT) (b:Bool),r=CT.out c b d∧(b=true→CandOk d s x y ss c):=by
 have hq:=hg.q
 have loop (u:List Int) (hu:u.length=d.ps.length) (m:Nat):∀ (j:Nat) (l:List CT),j + m=d.qs.length→l.length≤j→(∀ c ∈ l,CandOk d s x y ss c)→Y (g172.D0 ((d.qs.length:Int),(j:Int),d.n.cl,d.ps,d.qs,d.sh,d.am,d.v (s,x,y,ss,0,0,0,0,0,0,d.v (u,l)))) fun r=>∃ (c:CT) (b:Bool),r=CT.out c b d∧(b=true→CandOk d s x y ss c):=by
  induction m with
  | zero=>
   intro j l e hl hc
   have h2:g163.F (d.k u l)=some ((l.length:Int),d.k u l):=Y.is (Y.of (g163.F_of _) (Y.some rfl))
   have hC:d.C l:=by
    intro c g
    obtain ⟨i,q,g1,g2,_⟩:=hc c g
    rw [g2]
    omega
   refine Y.of (g172.D0_of _) (Y.nd (by omega) (Y.bE h2 (Y.ite (fun _=>Y.some ⟨(0,0,(0,0),0,0),false,rfl,fun g=>by cases g⟩) fun c0=>?_)))
   have c0':¬ (l.length:Int)=0:=c0
   refine Y.bnd _ (pop_spec hg u hu l hC (by omega) (by omega)) ?_
   rintro ⟨c,r⟩ ⟨g1,a,b,z,rfl⟩
   exact Y.some ⟨c,true,rfl,fun _=>hc c g1⟩
  | succ m ih=>
   intro j l e hl hc
   obtain ⟨q,q1,q2,q3⟩:=h.s j (by omega)
   have hC:d.C l:=by
    intro c g
    obtain ⟨i,q,g1,g2,_⟩:=hc c g
    rw [g2]
    omega
   have next:∀ l:List CT,l.length≤j + 1→(∀ c ∈ l,CandOk d s x y ss c)→Y (g172.D1 ((d.qs.length:Int),(j:Int),d.n.cl,d.ps,d.qs,d.sh,d.am,d.v (s,x,y,ss,0,0,0,0,0,0,d.v (u,l)))) fun r=>∃ (c:CT) (b:Bool),r=CT.out c b d∧(b=true→CandOk d s x y ss c):=by
    intro l hl hc
    have:=ih (j + 1) l (by omega) hl hc
    rw [show (((j + 1:Nat):Int))=wrap .i64 ((j:Int) + 1) by rw [w64 (x:=(j:Int) + 1) (by omega) (by omega)]; omega] at this
    exact Y.of (g172.D1_of _) this
   refine Y.of (g172.D0_of _) (Y.pd (by omega) (Y.bnd _ (look_in h s x y ss hr j (by omega) s0 s1 hp q1 q2 q3) fun r hr=>Y.ite (fun c0=>?_) fun _=>next l (by omega) hc))
   obtain ⟨r1,r2⟩:=hr c0
   refine Y.bnd _ (push_spec hg u hu l hC (by omega) (r.1,r.2.1,(r.2.2.1,r.2.2.2.1),r.2.2.2.2.1,r.2.2.2.2.2.1) (by show 0≤r.1∧r.1 < _; rw [r1]; omega)) ?_
   rintro r' ⟨l',rfl,g1,g2⟩
   refine next l' (by omega) fun c g=>?_
   rcases g2 c g with k | k
   ·rw [k]
    exact ⟨j,q,by omega,r1,q1,q2,r2⟩
   ·exact hc c k
 refine Y.of (g172.F_of _) (Y.bnd _ (used_len hg s x y ss hr.l) fun u hu=>?_)
 exact loop u hu d.qs.length 0 [] (by omega) (Nat.le_refl 0) fun c g=>by cases g
def StepV (d:Dk) (S S':List (List Int)) (v:Int×Int×Int×Int):Prop:=∃ (i:Nat) (q:Rq) (s tx ty:Int),i < d.qs.length∧q.Ok∧rd qty d.qs (i:Int)=q.t∧Rows d S∧Fit d s S i q v.2.2.1 tx ty∧0≤s∧v.1=q.id∧v.2.2.2=q.len∧v.2.1=v.2.2.1 - s∧S'=S.set i (rd rty S (i:Int)++[v.2.2.1])
def Chain (d:Dk) (ss:List (List Int)) (vs:List (Int×Int×Int×Int)):Prop:=∃ S:Nat→List (List Int),S 0=List.replicate d.qs.length []∧S vs.length=ss∧∀ (j:Nat) (hj:j < vs.length),StepV d (S j) (S (j + 1)) vs[j]
theorem Chain.add {d:Dk} {ss ss':List (List Int)} {vs:List (Int×Int×Int×Int)} {v:Int×Int×Int×Int} (h:Chain d ss vs) (hv:StepV d ss ss' v):Chain d ss' (vs++[v]):=by
 obtain ⟨S,h0,h1,h2⟩:=h
 refine ⟨fun j=>if j≤vs.length then S j else ss',?_,?_,fun j hj=>?_⟩
 ·show (if 0≤vs.length then S 0 else ss')=_
  rw [if_pos (Nat.zero_le _)]
  exact h0
 ·show (if (vs++[v]).length≤vs.length then S _ else ss')=_
  rw [if_neg (by simp)]
 ·rw [List.length_append,List.length_singleton] at hj
  show StepV d (if j≤vs.length then S j else ss') (if j + 1≤vs.length then S (j + 1) else ss') _
  rw [if_pos (by omega)]
  by_cases c:j < vs.length
  ·rw [if_pos (by omega),List.getElem_append_left c]
   exact h2 j c
  ·have:j=vs.length:=by omega
   subst this
   rw [if_neg (by omega),List.getElem_append_right (by omega),h1]
   simpa using hv
theorem Rows.add {d:Dk} {s:Int} {ss:List (List Int)} {i:Nat} {q:Rq} {t tx ty:Int} (hr:Rows d ss) (hi:i < d.qs.length) (hq:q.Ok) (hf:Fit d s ss i q t tx ty) (s0:0≤s) (hsl:d.n.sl≤64):Rows d (ss.set i (rd rty ss (i:Int)++[t])):=by
 have hv:=hq.vis
 have hl:=hq.len
 have ht0:=hf.t0
 have ht1:=hf.t1
 have hroom:=hf.room
 refine ⟨by rw [List.length_set]; exact hr.l,fun j hj=>?_⟩
 rw [rd_set (t:=rty) ss i j _ (by rw [hr.l]; exact hi)]
 by_cases c:j=i
 ·rw [if_pos c]
  refine ⟨by rw [List.length_append,List.length_singleton]; omega,fun e he=>?_⟩
  rcases List.mem_append.mp he with g | g
  ·exact (hr.r i hi).2 e g
  ·rw [List.mem_singleton] at g
   rw [g]
   exact ⟨(by omega:(0:Int)≤t),(by omega:t≤64)⟩
 ·rw [if_neg c]
  exact hr.r j hj
end Go.Proofs.RPn
namespace Go.Proofs.RPn
open Go Go.Eng
set_option linter.unusedVariables false
abbrev VT:Type:=Int×Int×Int×Int
theorem Rq.t_inj {q q':Rq} (h:q.t=q'.t):q=q':=by
 cases q'
 cases q
 simp only [Rq.t,Prod.mk.injEq] at h
 simp only [Rq.mk.injEq]
 obtain ⟨a1,a2,⟨a3,a4,a5⟩,a6,a7,a8,a9,a10,a11,a12,a13⟩:=h
 exact ⟨a1,a2,a3,a4,a5,a6,a7,a8,a9,a10,a11,a12,a13⟩
@[reducible] def Dk.c (d:Dk) (s x y:Int) (ss:List (List Int)):g172.A:=d.v (s,x,y,ss,d.n.cl,d.ps,d.qs,d.sh,d.am)
structure Val (d:Dk) (s x y:Int) (ss:List (List Int)):Prop where
 sb:0≤s∧s≤d.n.sl
 pin:d.m.In (x,y)
 len:ss.length=d.qs.length
 row:∀ (i:Nat) (q:Rq),i < d.qs.length→rd qty d.qs (i:Int)=q.t→(rd rty ss (i:Int)).length≤q.vis.toNat∧(∀ e:Int,e ∈ (rd rty ss (i:Int):List Int)→0≤e∧e≤s - q.len)∧(rd rty ss (i:Int):List Int).Pairwise (· < ·)
theorem Val.rows {d:Dk} (h:d.G) {s x y:Int} {ss:List (List Int)} (hv:Val d s x y ss):Rows d ss:=by
 refine ⟨hv.len,fun i hi=>?_⟩
 obtain ⟨q,q1,q2⟩:=h.q i hi
 obtain ⟨a,b,_⟩:=hv.row i q hi q2
 have v:=q1.vis
 have l:=q1.len
 have sb:=hv.sb
 have sl:=h.n.sl
 exact ⟨by omega,fun e he=>by have:=b e he; exact ⟨this.1,Int.le_trans this.2 (by omega)⟩⟩
theorem Val.skip {d:Dk} {s x y:Int} {ss:List (List Int)} (hv:Val d s x y ss) (h:s < d.n.sl):Val d (s + 1) x y ss:=by
 have sb:=hv.sb
 refine ⟨by omega,hv.pin,hv.len,fun i q hi hq=>?_⟩
 obtain ⟨a,b,c⟩:=hv.row i q hi hq
 exact ⟨a,fun e he=>by have:=b e he; omega,c⟩
theorem Val.take {d:Dk} {s x y:Int} {ss:List (List Int)} (hv:Val d s x y ss) {i:Nat} {q:Rq} {t tx ty:Int} (hi:i < d.qs.length) (q1:q.Ok) (q2:rd qty d.qs (i:Int)=q.t) (hf:Fit d s ss i q t tx ty):Val d (t + q.len) tx ty (ss.set i (rd rty ss (i:Int)++[t])):=by
 have sb:=hv.sb
 have t0:=hf.t0
 have t1:=hf.t1
 have ln:=q1.len
 have vs:=q1.vis
 refine ⟨by omega,hf.to,by rw [List.length_set]; exact hv.len,fun j q' hj hq'=>?_⟩
 obtain ⟨a,b,c⟩:=hv.row j q' hj hq'
 rw [rd_set (t:=rty) ss i j _ (by rw [hv.len]; exact hi)]
 by_cases e:j=i
 ·rw [if_pos e]
  subst e
  have hqq:q'=q:=Rq.t_inj (by rw [← hq',q2])
  subst hqq
  have room:=hf.room
  refine ⟨?_,fun z hz=>?_,?_⟩
  ·rw [List.length_append,List.length_singleton]
   omega
  ·rcases List.mem_append.mp hz with g | g
   ·have:=b z g
    omega
   ·rw [List.mem_singleton] at g
    omega
  ·refine List.pairwise_append.mpr ⟨c,List.pairwise_singleton _ _,fun z hz w hw=>?_⟩
   rw [List.mem_singleton] at hw
   have:=b z hz
   rw [hw]
   exact Int.lt_of_le_of_lt this.2 (by omega)
 ·rw [if_neg e]
  exact ⟨a,fun z hz=>by have:=b z hz; omega,c⟩
theorem row_at (l:List Int) (h:l.Pairwise (· < ·)) (j:Nat) (hj:j + 1 < l.length):l[j] < l[j + 1]:=List.pairwise_iff_getElem.mp h j (j + 1) (by omega) hj (by omega)
theorem state_val {d:Dk} (h:d.G) (hg:PgOk d.ps d.qs) {s x y:Int} {ss:List (List Int)} (hv:Val d s x y ss):g147.F (d.n.w (d.m.w (d.ps,d.qs,s,x,y,ss)))=some 0:=by
 have hq:=hg.q
 have f1:=hv.len
 have hs:=hv.sb
 have hsl:=h.n.sl
 have loop (m:Nat):∀ (j:Nat),j + m=ss.length→Y (g147.D0 (ss,(ss.length:Int),(j:Int),d.ps,d.qs,s,x,y,ss)) fun r=>r=0:=by
  induction m with
  | zero=>exact fun j e=>Y.of (g147.D0_of _) (Y.nd (by omega) (Y.some rfl))
  | succ m ih=>
   intro j e
   obtain ⟨q,q1,q2⟩:=h.q j (by omega)
   obtain ⟨a,b,c⟩:=hv.row j q (by omega) q2
   have vs:=q1.vis
   have ln:=q1.len
   obtain ⟨row,hrow⟩:∃ row:List Int,rd rty ss (j:Int)=row:=⟨_,rfl⟩
   rw [hrow] at a b c
   have inner (k:Nat):∀ i:Nat,i + k=row.length→Y (g147.D1 ((j:Int),row,ss,(ss.length:Int),(j:Int),row,(row.length:Int),(i:Int),d.ps,d.qs,s,x,y,ss)) fun r=>r=0:=by
    induction k with
    | zero=>
     intro i e2
     refine Y.of (g147.D1_of _) (Y.nd (by omega) ?_)
     rw [w64 (x:=(j:Int) + 1) (by omega) (by omega)]
     have:=ih (j + 1) (by omega)
     rw [show ((j + 1:Nat):Int)=(j:Int) + 1 by omega] at this
     exact this
    | succ k ihk=>
     intro i e2
     have hi:i < row.length:=by omega
     have ex:rd (.int .i64) row (i:Int)=row[i]:=rd_nat (t:=.int .i64) row i hi
     have bx:=b row[i] (List.getElem_mem hi)
     have n1:¬ row[i] < 0:=by omega
     have n2:¬ s - q.len < row[i]:=by omega
     refine Y.of (g147.D1_of _) ?_
     dsimp only [g147.d1]
     rw [show rd (Ty.int IntKind.i64) row (i:Int)=row[i] from ex,show rd ty0 d.qs (j:Int)=q.t from q2,w64 (x:=(i:Int) + 1) (by omega) (by omega),show wrap .i64 (s - q.t.2.2.2.1)=s - q.len from w64 (by show _≤s - q.len; omega) (by show s - q.len≤_; omega)]
     have e3:0≤(j:Int)∧(j:Int) < (d.qs.length:Int):=by omega
     have nx:=ihk (i + 1) (by omega)
     rw [show ((i + 1:Nat):Int)=(i:Int) + 1 by omega] at nx
     rw [decide_eq_false n1,decide_eq_false n2,decide_eq_true e3]
     by_cases i0:i=0
     ·subst i0
      exact Y.pd (by omega) (Y.pd (by omega) (Y.pos (by simp) (Y.pos (by simp) (Y.neg (by simp) nx))))
     ·obtain ⟨p,rfl⟩:∃ p,i=p + 1:=⟨i - 1,by omega⟩
      have lt:=row_at row c p hi
      have ew:wrap .i64 (((p + 1:Nat):Int) - 1)=(p:Int):=by rw [w64 (by omega) (by omega)]; omega
      have ep:rd (.int .i64) row (p:Int)=row[p]:=rd_nat (t:=.int .i64) row p (by omega)
      rw [ew,show rd (Ty.int IntKind.i64) row (p:Int)=row[p] from ep]
      have n3:¬ row[p + 1]≤row[p]:=by omega
      have e4:0≤(p:Int)∧(p:Int) < (row.length:Int):=by omega
      have e5:(0:Int) < ((p + 1:Nat):Int):=by omega
      exact Y.pd (by omega) (Y.pd (by omega) (Y.pos (by simp) (Y.pos (by rw [decide_eq_true e4]; simp) (Y.neg (by rw [decide_eq_false n3]; simp) nx))))
   refine Y.of (g147.D0_of _) (Y.pd (by omega) (Y.pd (by omega) (Y.pd (by omega) ?_)))
   rw [show rd ty0 d.qs (j:Int)=q.t from q2,show rd (Ty.int IntKind.i64).slice ss (j:Int)=row from hrow]
   exact Y.nd (by show ¬ q.vis < (row.length:Int); omega) (inner row.length 0 (by omega))
 refine Y.is (Y.of (g147.F_of _) (Y.pos ?_ (Y.bE (in_ok _ _ hv.pin.1.1 hv.pin.1.2) (Y.pos (by decide) (Y.bE (in_ok _ _ hv.pin.2.1 hv.pin.2.2) (Y.neg (by decide) (Y.np (by omega) (loop ss.length 0 (by omega)))))))))
 have e1:¬ s < 0:=by omega
 have e2:¬ d.n.sl < s:=by omega
 simp [e1,e2]
theorem check_val {d:Dk} (h:d.G) (hg:PgOk d.ps d.qs) {s x y:Int} {ss:List (List Int)} (hv:Val d s x y ss):g148.F (d.w (s,x,y,ss))=some 0:=by
 have hsl:=h.n.sl
 exact Y.is (Y.of (g148.F_of _) (Y.nd (by omega) (Y.bE (state_val h hg hv) (Y.some rfl))))
theorem clone_all (ss:List (List Int)) (hn:ss.length≤1000) (hr:∀ i:Nat,i < ss.length→(rd rty ss (i:Int)).length≤1000) (x y s:Int):g149.F (s,x,y,ss)=some (s,x,y,ss):=by
 have loop (m:Nat):∀ (i:Nat) (out:List (List Int)),i + m=ss.length→out.length=ss.length→(∀ j:Nat,j < i→rd rty out (j:Int)=rd rty ss (j:Int))→Y (g149.D0 (ss,(ss.length:Int),(i:Int),s,x,y,ss,0,0,0,out,[])) fun r=>r=(s,x,y,ss):=by
  induction m with
  | zero=>
   intro i out e hl ho
   have:out=ss:=List.ext_getElem hl fun j h1 h2=>by
    have:=ho j (by omega)
    rw [rd_nat (t:=rty) out j h1,rd_nat (t:=rty) ss j h2] at this
    exact this
   subst this
   exact Y.of (g149.D0_of _) (Y.nd (by omega) (Y.some rfl))
  | succ m ih=>
   intro i out e hl ho
   refine Y.of (g149.D0_of _) (Y.pd (by omega) (Y.pd (by omega) (Y.bE (g44.clone_is _ (by have:=hr i (by omega); exact Nat.le_trans this (by decide))) (Y.pd (by omega) ?_))))
   rw [w64 (x:=(i:Int) + 1) (by omega) (by omega)]
   have:=ih (i + 1) (out.set i (rd rty ss (i:Int))) (by omega) (by rw [List.length_set]; exact hl) fun j hj=>by
    rw [rd_set (t:=rty) out i j _ (by omega)]
    by_cases c:j=i
    ·rw [if_pos c,c]
    ·rw [if_neg c]
     exact ho j (by omega)
   rw [show ((i + 1:Nat):Int)=(i:Int) + 1 by omega] at this
   exact this
 refine Y.is (Y.of (g149.F_of _) (Y.pd (by omega) ?_))
 exact loop ss.length 0 _ (by omega) (by simp) (fun j hj=>absurd hj (by omega))
theorem take_is {d:Dk} (h:d.G) {s x y:Int} {ss:List (List Int)} (hv:Val d s x y ss) {i:Nat} {q:Rq} {t tx ty:Int} (fx fy:Int) (hi:i < d.qs.length) (q1:q.Ok) (q2:rd qty d.qs (i:Int)=q.t) (s0:s≤t) (t1:t + q.len≤d.n.sl) :
  g173.F (d.w ((i:Int),t,fx,fy,tx,ty,s,x,y,ss))=some (q.id,t - s,t,q.len,t + q.len,tx,ty,ss.set i (rd rty ss (i:Int)++[t])):=by
 have hs:=hv.sb
 have hsl:=h.n.sl
 have ln:=q1.len
 have hl':=hv.len
 have hrl:=((hv.rows h).r i hi).1
 refine Y.is (Y.of (g173.F_of _) (Y.pd (by omega) (Y.pd (by omega) (Y.pd ?_ (Y.pd (by omega) (Y.pd rfl ?_))))))
 ·show (rd rty ss (i:Int)).length + 1≤140737488355328 / 8
  omega
 ·rw [show rd ty0 d.qs (i:Int)=q.t from q2,w64 (x:=t - s) (by omega) (by omega)]
  refine Y.some ?_
  rw [show wrap .i64 (t + q.t.2.2.2.1)=t + q.len from w64 (by show _≤t + q.len; omega) (by show t + q.len≤_; omega)]
  rfl
inductive Run (d:Dk):Int→Int→Int→List (List Int)→List VT→Prop
 | stop {s x y:Int} {ss:List (List Int)}:¬ s < d.n.sl→Run d s x y ss []
 | skip {s x y:Int} {ss:List (List Int)} {c:CT} {vs:List VT}:s < d.n.sl→g172.F (d.c s x y ss)=some (CT.out c false d)→Run d (s + 1) x y ss vs→Run d s x y ss vs
 | take {s x y:Int} {ss:List (List Int)} {i:Nat} {t fx fy tx ty:Int} {q:Rq} {vs:List VT}:s < d.n.sl→g172.F (d.c s x y ss)=some (CT.out ((i:Int),t,(fx,fy),tx,ty) true d)→i < d.qs.length→q.Ok→rd qty d.qs (i:Int)=q.t→Fit d s ss i q t tx ty→Goes d s x y i q t tx ty→Run d (t + q.len) tx ty (ss.set i (rd rty ss (i:Int)++[t])) vs→Run d s x y ss ((q.id,t - s,t,q.len)::vs)
theorem from_run {d:Dk} (h:d.G) (hg:PgOk d.ps d.qs) {s x y:Int} {ss:List (List Int)} (hv:Val d s x y ss) :
  Y (g174.F (d.v (s,x,y,ss,d.n.cl,d.ps,d.qs,d.sh,d.am))) fun r=>∃ vs:List VT,r=(0,d.n.cl,d.ps,d.qs,d.sh,d.am,vs)∧Run d s x y ss vs∧(vs.length:Int)≤d.n.sl - s:=by
 have hs:=h.n.sl
 have hgq:=hg.q
 have hsv:=hv.sb
 have loop (m:Nat):∀ (s x y:Int) (ss:List (List Int)) (out:List VT),d.n.sl - s≤m→Val d s x y ss→(out.length:Int)≤s→Y (g174.D0 (d.n.cl,d.ps,d.qs,d.sh,d.am,d.v (s,x,y,out,ss))) fun r=>∃ vs:List VT,r=(0,d.n.cl,d.ps,d.qs,d.sh,d.am,out++vs)∧Run d s x y ss vs∧(vs.length:Int)≤d.n.sl - s:=by
  induction m with
  | zero=>
   intro s x y ss out e hv ho
   have hsv:=hv.sb
   exact Y.of (g174.D0_of _) (Y.nd (by omega) (Y.some ⟨[],by rw [List.append_nil],.stop (by omega),by show (0:Int)≤_; omega⟩))
  | succ m ih=>
   intro s x y ss out e hv ho
   have hsv:=hv.sb
   have hr:=hv.rows h
   refine Y.of (g174.D0_of _) ?_
   by_cases c:s < d.n.sl
   ·obtain ⟨r,er,cc,b,rfl,hb⟩:=choose_in h hg s x y ss hr hsv.1 hsv.2 hv.pin
    refine Y.pd c (Y.bE er ?_)
    cases b with
    | false=>
     have:=ih (s + 1) x y ss out (by omega) (hv.skip c) (by omega)
     rw [← w64 (x:=s + 1) (by omega) (by omega)] at this
     refine Y.pos rfl (this.mono ?_)
     rintro r ⟨vs,e1,e2,e3⟩
     rw [w64 (x:=s + 1) (by omega) (by omega)] at e2 e3
     exact ⟨vs,e1,.skip c er e2,by omega⟩
    | true=>
     obtain ⟨i,q,i0,i1,q1,q2,hf,hgo⟩:=hb rfl
     obtain ⟨ci,t,⟨fx,fy⟩,tx,ty⟩:=cc
     have i1:ci=(i:Int):=i1
     subst i1
     have hf:Fit d s ss i q t tx ty:=hf
     have hgo:Goes d s x y i q t tx ty:=hgo
     have ht0:=hf.t0
     have ht1:=hf.t1
     have ln:=q1.len
     refine Y.neg rfl (Y.bE (take_is h hv fx fy i0 q1 q2 ht0 ht1) (Y.pd ?_ ?_))
     ·simp only [List.length_cons,List.length_nil]
      omega
     ·have:=ih (t + q.len) tx ty _ (out++[(q.id,t - s,t,q.len)]) (by omega) (hv.take i0 q1 q2 hf) (by rw [List.length_append,List.length_singleton]; omega)
      refine this.mono ?_
      rintro r ⟨vs,e1,e2,e3⟩
      refine ⟨(q.id,t - s,t,q.len)::vs,by rw [e1,List.append_assoc]; rfl,.take c er i0 q1 q2 hf hgo e2,?_⟩
      rw [List.length_cons]
      omega
   ·exact Y.nd c (Y.some ⟨[],by rw [List.append_nil],.stop c,by show (0:Int)≤_; omega⟩)
 refine Y.of (g174.F_of _) (Y.bE (check_val h hg hv) (Y.neg (by decide) (Y.bE (clone_all ss (by have:=hv.len; omega) (fun i hi=>by have:=((hv.rows h).r i (by rw [← hv.len]; exact hi)).1; omega) x y s) ?_)))
 exact (loop (d.n.sl - s).toNat s x y ss [] (by omega) hv (by show (0:Int)≤s; omega)).mono fun r ⟨vs,e1,e2⟩=>⟨vs,e1,e2⟩
end Go.Proofs.RPn
namespace Go.Eng
open Go
def Z2 {α β:Type} (o:Option α) (o':Option β) (Q:α→β→Prop):Prop:=∃ r r',o=some r∧o'=some r'∧Q r r'
variable {α β γ δ:Type} {Q:α→β→Prop}
theorem Z2.some {r:α} {r':β} (h:Q r r'):Z2 (Option.some r) (Option.some r') Q:=⟨r,r',rfl,rfl,h⟩
theorem Z2.of {d D:Option α} {d' D':Option β} (h:∀ {r},d=Option.some r→D=Option.some r) (h':∀ {r},d'=Option.some r→D'=Option.some r) (k:Z2 d d' Q):Z2 D D' Q:=by
 obtain ⟨r,r',e,e',q⟩:=k
 exact ⟨r,r',h e,h' e',q⟩
theorem Z2.br {c c':Bool} {a b:Option α} {a' b':Option β} (hc:c'=c) (h:c=true→Z2 a a' Q) (k:c=false→Z2 b b' Q):Z2 (br c a b) (br c' a' b') Q:=by
 subst hc
 cases c' with
 | true=>exact h rfl
 | false=>exact k rfl
theorem Z2.pos {c c':Bool} {a b:Option α} {a' b':Option β} (hc:c=true) (hc':c'=true) (h:Z2 a a' Q):Z2 (Go.Eng.br c a b) (Go.Eng.br c' a' b') Q:=by
 subst hc hc'
 exact h
theorem Z2.neg {c c':Bool} {a b:Option α} {a' b':Option β} (hc:c=false) (hc':c'=false) (h:Z2 b b' Q):Z2 (Go.Eng.br c a b) (Go.Eng.br c' a' b') Q:=by
 subst hc hc'
 exact h
theorem Z2.pd {p p':Prop} [Decidable p] [Decidable p'] {a b:Option α} {a' b':Option β} (hp:p) (hp':p') (h:Z2 a a' Q):Z2 (Go.Eng.br (decide p) a b) (Go.Eng.br (decide p') a' b') Q:=.pos (decide_eq_true hp) (decide_eq_true hp') h
theorem Z2.nd {p p':Prop} [Decidable p] [Decidable p'] {a b:Option α} {a' b':Option β} (hp:¬ p) (hp':¬ p') (h:Z2 b b' Q):Z2 (Go.Eng.br (decide p) a b) (Go.Eng.br (decide p') a' b') Q:=.neg (decide_eq_false hp) (decide_eq_false hp') h
theorem Z2.bnd {o:Option γ} {o':Option δ} {k:γ→Option α} {k':δ→Option β} {P:γ→δ→Prop} (h:Z2 o o' P) (g:∀ r r',P r r'→Z2 (k r) (k' r') Q):Z2 (bnd o k) (bnd o' k') Q:=by
 obtain ⟨r,r',rfl,rfl,q⟩:=h
 exact g r r' q
theorem Z2.bE {o:Option γ} {o':Option δ} {k:γ→Option α} {k':δ→Option β} {r:γ} {r':δ} (h:o=Option.some r) (h':o'=Option.some r') (g:Z2 (k r) (k' r') Q):Z2 (Go.Eng.bnd o k) (Go.Eng.bnd o' k') Q:=by
 subst h h'
 exact g
theorem Z2.mono {o:Option α} {o':Option β} {P:α→β→Prop} (h:Z2 o o' P) (g:∀ r r',P r r'→Q r r'):Z2 o o' Q:=by
 obtain ⟨r,r',e,e',q⟩:=h
 exact ⟨r,r',e,e',g r r' q⟩
theorem Z2.one {o:Option α} {P:α→Prop} (h:Y o P):Z2 o o fun r r'=>r'=r∧P r:=by
 obtain ⟨r,e,p⟩:=h
 exact ⟨r,r,e,e,rfl,p⟩
end Go.Eng
namespace Go.Proofs.RPn
open Go Go.Eng
set_option linter.unusedVariables false
structure Like (d d':Dk):Prop where
 n:d'.n=d.n
 m:d'.m=d.m
 sh:d'.sh=d.sh
 am:d'.am=d.am
 pl:d'.ps.length=d.ps.length
 ql:d'.qs.length=d.qs.length
 p:∀ i:Int,0≤i→i < (d.ps.length:Int)→(rd pty d'.ps i).2=(rd pty d.ps i).2
 q:∀ i:Nat,i < d.qs.length→∃ (q:Rq) (k:Int),rd qty d.qs (i:Int)=q.t∧rd qty d'.qs (i:Int)=Rq.t { q with id:=k }
theorem Like.all {d d':Dk} (h:Like d d') (i:Int) (h0:0≤i) (h1:i < (d.qs.length:Int)):(rd qty d'.qs i).2=(rd qty d.qs i).2:=by
 obtain ⟨n,rfl⟩:∃ n:Nat,i=n:=⟨i.toNat,by omega⟩
 obtain ⟨q,k,e1,e2⟩:=h.q n (by omega)
 rw [e1,e2]
theorem used_par {d d':Dk} (h:Like d d') (hg:PgOk d.ps d.qs) (hg':PgOk d'.ps d'.qs) (s x y:Int) (ss:List (List Int)) (e:ss.length=d.qs.length) :
  Z2 (g150.F (d.ps,d.qs,s,x,y,ss)) (g150.F (d'.ps,d'.qs,s,x,y,ss)) fun r r'=>r'=r∧r.length=d.ps.length:=by
 have hp:=hg.p
 have hq:=hg.q
 have hpl:=h.pl
 have hql:=h.ql
 have loop (m:Nat):∀ (j:Nat) (out:List Int),j + m=d.qs.length→out.length=d.ps.length→Z2 (g150.D0 (d.qs,(d.qs.length:Int),(j:Int),s,x,y,ss,out)) (g150.D0 (d'.qs,(d'.qs.length:Int),(j:Int),s,x,y,ss,out)) fun r r'=>r'=r∧r.length=d.ps.length:=by
  induction m with
  | zero=>exact fun j out e1 e2=>Z2.of (g150.D0_of _) (g150.D0_of _) (Z2.nd (by omega) (by omega) (Z2.some ⟨rfl,e2⟩))
  | succ m ih=>
   intro j out e1 e2
   obtain ⟨r1,r2⟩:=hg.r j (by omega)
   have ha:=h.all (j:Int) (by omega) (by omega)
   have k:0≤(rd qty d.qs (j:Int)).2.1∧(rd qty d.qs (j:Int)).2.1 < (out.length:Int):=⟨r1,by rw [e2]; exact r2⟩
   have k':0≤(rd qty d'.qs (j:Int)).2.1∧(rd qty d'.qs (j:Int)).2.1 < (out.length:Int):=by rw [ha]; exact k
   refine Z2.of (g150.D0_of _) (g150.D0_of _) (Z2.pd (by omega) (by omega) (Z2.pd (by omega) (by omega) (Z2.pd k k' (Z2.pd (show (0:Int)≤(j:Int)∧(j:Int) < (ss.length:Int) from ⟨by omega,by omega⟩) (show (0:Int)≤(j:Int)∧(j:Int) < (ss.length:Int) from ⟨by omega,by omega⟩) (Z2.pd k k' ?_)))))
   rw [w64 (x:=(j:Int) + 1) (by omega) (by omega),show (rd ty0 d'.qs (j:Int)).2=(rd ty0 d.qs (j:Int)).2 from ha]
   have:=ih (j + 1) (out.set (rd qty d.qs (j:Int)).2.1.toNat (wrap .i64 (rd (.int .i64) out (rd qty d.qs (j:Int)).2.1 + wrap .i64 ((rd qty d.qs (j:Int)).2.2.2.1 * ((rd rty ss (j:Int)).length:Int))))) (by omega) (by rw [List.length_set]; exact e2)
   rw [show ((j + 1:Nat):Int)=(j:Int) + 1 by omega] at this
   exact this
 refine Z2.of (g150.F_of _) (g150.F_of _) (Z2.bE hg.c hg'.c (Z2.neg (by simp [e]) (by simp [e,hql]) (Z2.pd (by omega) (by omega) ?_)))
 rw [hpl]
 exact loop d.qs.length 0 _ (by omega) (by rw [List.length_replicate]; omega)
theorem better_par {d d':Dk} (h:Like d d') (hg:PgOk d.ps d.qs) (u:List Int) (hu:u.length=d.ps.length) (a b:CT) (ha:0≤a.1∧a.1 < (d.qs.length:Int)) (hb:0≤b.1∧b.1 < (d.qs.length:Int)) :
  Z2 (g164.F (d.n.w (d.m.w (d.ps,d.qs,d.sh,d.am,u,a.1,a.2.1,a.2.2.1.1,a.2.2.1.2,a.2.2.2.1,a.2.2.2.2,b.1,b.2.1,b.2.2.1.1,b.2.2.1.2,b.2.2.2.1,b.2.2.2.2))))
   (g164.F (d'.n.w (d'.m.w (d'.ps,d'.qs,d'.sh,d'.am,u,a.1,a.2.1,a.2.2.1.1,a.2.2.1.2,a.2.2.2.1,a.2.2.2.2,b.1,b.2.1,b.2.2.1.1,b.2.2.1.2,b.2.2.2.1,b.2.2.2.2)))) fun r r'=>r'=r:=by
 have hr:∀ i:Int,0≤i∧i < (d.qs.length:Int)→0≤(rd qty d.qs i).2.1∧(rd qty d.qs i).2.1 < (d.ps.length:Int):=by
  intro i hi
  obtain ⟨n,rfl⟩:∃ n:Nat,i=n:=⟨i.toNat,by omega⟩
  exact hg.r n (by omega)
 obtain ⟨a0,a1⟩:=hr a.1 ha
 obtain ⟨b0,b1⟩:=hr b.1 hb
 have ea:=h.all a.1 ha.1 ha.2
 have eb:=h.all b.1 hb.1 hb.2
 have pa:=h.p _ a0 a1
 have pb:=h.p _ b0 b1
 have ha':0≤a.1∧a.1 < (d'.qs.length:Int):=by rw [h.ql]; exact ha
 have hb':0≤b.1∧b.1 < (d'.qs.length:Int):=by rw [h.ql]; exact hb
 have ka:0≤(rd qty d.qs a.1).2.1∧(rd qty d.qs a.1).2.1 < (u.length:Int):=⟨a0,by rw [hu]; exact a1⟩
 have kb:0≤(rd qty d.qs b.1).2.1∧(rd qty d.qs b.1).2.1 < (u.length:Int):=⟨b0,by rw [hu]; exact b1⟩
 have la:0≤(rd qty d.qs a.1).2.1∧(rd qty d.qs a.1).2.1 < (d'.ps.length:Int):=by rw [h.pl]; exact ⟨a0,a1⟩
 have lb:0≤(rd qty d.qs b.1).2.1∧(rd qty d.qs b.1).2.1 < (d'.ps.length:Int):=by rw [h.pl]; exact ⟨b0,b1⟩
 refine Z2.of (g164.F_of _) (g164.F_of _) (Z2.pd ha ha' (Z2.pd hb hb' ?_))
 rw [show (rd ty0 d'.qs a.1).2=(rd ty0 d.qs a.1).2 from ea,show (rd ty0 d'.qs b.1).2=(rd ty0 d.qs b.1).2 from eb]
 refine Z2.pd ka ka (Z2.pd ⟨b0,b1⟩ lb (Z2.pd kb kb (Z2.pd ⟨a0,a1⟩ la ?_)))
 rw [show (rd (.pair .str (.int .i64)) d'.ps (rd ty0 d.qs a.1).2.1).2=(rd (.pair .str (.int .i64)) d.ps (rd ty0 d.qs a.1).2.1).2 from pa,show (rd (.pair .str (.int .i64)) d'.ps (rd ty0 d.qs b.1).2.1).2=(rd (.pair .str (.int .i64)) d.ps (rd ty0 d.qs b.1).2.1).2 from pb]
 exact Z2.br rfl (fun _=>Z2.some rfl) fun _=>Z2.br rfl (fun _=>Z2.some rfl) fun _=>Z2.br rfl (fun _=>Z2.some rfl) fun _=>Z2.some rfl
end Go.Proofs.RPn
namespace Go.Proofs.RPn
open Go Go.Eng
set_option linter.unusedVariables false
theorem less_par {d d':Dk} (h:Like d d') (hg:PgOk d.ps d.qs) (u:List Int) (hu:u.length=d.ps.length) (l:List CT) (hl:d.C l) (i j:Int) (hi:0≤i∧i < (l.length:Int)) (hj:0≤j∧j < (l.length:Int)) :
  Z2 (g165.F (i,j,d.k u l)) (g165.F (i,j,d'.k u l)) fun r r'=>∃ b,r=(b,d.k u l)∧r'=(b,d'.k u l):=by
 refine Z2.of (g165.F_of _) (g165.F_of _) (Z2.pd hi hi (Z2.pd hj hj ?_))
 refine Z2.bnd (better_par h hg u hu (rd cty l i) (rd cty l j) (hl _ (rd_mem (t:=cty) l i hi.1 hi.2)) (hl _ (rd_mem (t:=cty) l j hj.1 hj.2))) ?_
 rintro _ b rfl
 exact Z2.some ⟨b,rfl,rfl⟩
def QP (d d':Dk) (u:List Int) (n:Nat) (P:CT→Prop) (r r':g166.R):Prop:=∃ l':List CT,r=d.k u l'∧r'=d'.k u l'∧l'.length=n∧∀ x ∈ l',P x
theorem swap_par (d d':Dk) (u:List Int) (l:List CT) (i j:Int) (hi:0≤i∧i < (l.length:Int)) (hj:0≤j∧j < (l.length:Int)):Z2 (g166.F (i,j,d.k u l)) (g166.F (i,j,d'.k u l)) (QP d d' u l.length (· ∈ l)):=by
 refine Z2.of (g166.F_of _) (g166.F_of _) (Z2.pd hj hj (Z2.pd hi hi (Z2.pd hi hi (Z2.pd (by rw [List.length_set]; exact hj) (by rw [List.length_set]; exact hj) (Z2.some ⟨(l.set i.toNat (rd cty l j)).set j.toNat (rd cty l i),rfl,rfl,by rw [List.length_set,List.length_set],fun x hx=>?_⟩)))))
 rcases List.mem_or_eq_of_mem_set hx with g | g
 ·rcases List.mem_or_eq_of_mem_set g with k | k
  ·exact k
  ·rw [k]
   exact rd_mem (t:=cty) l j hj.1 hj.2
 ·rw [g]
  exact rd_mem (t:=cty) l i hi.1 hi.2
theorem up_par {d d':Dk} (h:Like d d') (hg:PgOk d.ps d.qs) (u:List Int) (hu:u.length=d.ps.length) (l0:List CT) (hl0:d.C l0) (hn:l0.length≤1000) (j:Nat) (hj:j < l0.length) :
  Z2 (g167.F ((j:Int),d.k u l0)) (g167.F ((j:Int),d'.k u l0)) (QP d d' u l0.length (· ∈ l0)):=by
 have loop (m:Nat):∀ (j:Nat) (l:List CT),j≤m→j < l.length→l.length=l0.length→(∀ x ∈ l,x ∈ l0)→Z2 (g167.D0 ((j:Int),d.k u l)) (g167.D0 ((j:Int),d'.k u l)) (QP d d' u l0.length (· ∈ l0)):=by
  have zero:∀ l:List CT,l.length=l0.length→(∀ x ∈ l,x ∈ l0)→Z2 (g167.D0 (((0:Nat):Int),d.k u l)) (g167.D0 (((0:Nat):Int),d'.k u l)) (QP d d' u l0.length (· ∈ l0)):=fun l hl hx=>
   Z2.of (g167.D0_of _) (g167.D0_of _) (Z2.pos (by decide) (by decide) (Z2.neg (by decide) (by decide) (Z2.some ⟨l,rfl,rfl,hl,hx⟩)))
  induction m with
  | zero=>
   intro j l hm hj hl hx
   have:j=0:=by omega
   subst this
   exact zero l hl hx
  | succ m ih=>
   intro j l hm hj hl hx
   by_cases c:j=0
   ·subst c
    exact zero l hl hx
   ·have e:wrap .i64 ((wrap .i64 ((j:Int) - 1)).tdiv 2)=(((j - 1) / 2:Nat):Int):=by
     rw [w64 (x:=(j:Int) - 1) (by omega) (by omega),Int.tdiv_eq_ediv_of_nonneg (a:=(j:Int) - 1) (by omega),w64 (by omega) (by omega)]
     omega
    refine Z2.of (g167.D0_of _) (g167.D0_of _) ?_
    dsimp only [g167.d0,Dk.k,Nt.v,Mt.w]
    rw [e]
    have hne:¬ (((j - 1) / 2:Nat):Int)=(j:Int):=by omega
    have hc:(decide ((((j - 1) / 2:Nat):Int)=(j:Int)) == false)=true:=by rw [decide_eq_false hne]; rfl
    refine Z2.pos (by decide) (by decide) (Z2.pos hc hc (Z2.bnd (less_par h hg u hu l (fun x h=>hl0 x (hx x h)) (j:Int) (((j - 1) / 2:Nat):Int) (by omega) (by omega)) ?_))
    rintro r r' ⟨b,rfl,rfl⟩
    refine Z2.br rfl (fun _=>Z2.some ⟨l,rfl,rfl,hl,hx⟩) fun _=>Z2.bnd (swap_par d d' u l (((j - 1) / 2:Nat):Int) (j:Int) (by omega) (by omega)) ?_
    rintro r r' ⟨l',rfl,rfl,h1,h2⟩
    exact ih ((j - 1) / 2) l' (by omega) (by omega) (by omega) fun x h=>hx x (h2 x h)
 exact Z2.of (g167.F_of _) (g167.F_of _) (loop j j l0 (Nat.le_refl j) hj rfl fun _ h=>h)
theorem push_par {d d':Dk} (h:Like d d') (hg:PgOk d.ps d.qs) (u:List Int) (hu:u.length=d.ps.length) (l:List CT) (hl:d.C l) (hn:l.length≤100) (c:CT) (hc:0≤c.1∧c.1 < (d.qs.length:Int)) :
  Z2 (g168.F (c,d.k u l)) (g168.F (c,d'.k u l)) (QP d d' u (l.length + 1) fun x=>x=c∨x ∈ l):=by
 have h1 (d:Dk):g162.F (c,d.k u l)=some (d.k u (l++[c])):=Y.is (Y.of (g162.F_of _) (Y.pd (by simp only [List.length_cons,List.length_nil]; omega) (Y.some rfl)))
 have h2 (d:Dk):g163.F (d.k u (l++[c]))=some (((l++[c]).length:Int),d.k u (l++[c])):=Y.is (Y.of (g163.F_of _) (Y.some rfl))
 have hC:d.C (l++[c]):=by
  intro x hx
  rcases List.mem_append.mp hx with g | g
  ·exact hl x g
  ·rw [List.mem_singleton] at g
   rw [g]
   exact hc
 have e:wrap .i64 (((l++[c]).length:Int) - 1)=(l.length:Int):=by
  rw [List.length_append,List.length_singleton,w64 (by omega) (by omega)]
  omega
 refine Z2.of (g168.F_of _) (g168.F_of _) (Z2.bE (h1 d) (h1 d') (Z2.bE (h2 d) (h2 d') ?_))
 dsimp only
 rw [e]
 refine Z2.bnd (up_par h hg u hu (l++[c]) hC (by simp; omega) l.length (by simp)) ?_
 rintro r r' ⟨l',rfl,rfl,g1,g2⟩
 refine Z2.some ⟨l',rfl,rfl,by simpa using g1,fun x hx=>?_⟩
 rcases List.mem_append.mp (g2 x hx) with g | g
 ·exact .inr g
 ·exact .inl (List.mem_singleton.mp g)
theorem down_par {d d':Dk} (h:Like d d') (hg:PgOk d.ps d.qs) (u:List Int) (hu:u.length=d.ps.length) (l0:List CT) (hl0:d.C l0) (hn:l0.length≤1000) (i0 N:Nat) (hi0:i0≤2000) (hN:N≤l0.length) :
  Z2 (g169.F ((i0:Int),(N:Int),d.k u l0)) (g169.F ((i0:Int),(N:Int),d'.k u l0)) fun r r'=>r'.1=r.1∧QP d d' u l0.length (· ∈ l0) r.2 r'.2:=by
 have f1:∀ (i:Int) (l:List CT),l.length=l0.length→(∀ x ∈ l,x ∈ l0)→Z2 (g169.D1 ((i0:Int),i,d.k u l)) (g169.D1 ((i0:Int),i,d'.k u l)) fun r r'=>r'.1=r.1∧QP d d' u l0.length (· ∈ l0) r.2 r'.2:=fun i l h1 h2=>Z2.of (g169.D1_of _) (g169.D1_of _) (Z2.some ⟨rfl,l,rfl,rfl,h1,h2⟩)
 have loop (m:Nat):∀ (i:Nat) (l:List CT),N≤i + m→i≤2000→l.length=l0.length→(∀ x ∈ l,x ∈ l0)→Z2 (g169.D0 ((i0:Int),(N:Int),(i:Int),d.k u l)) (g169.D0 ((i0:Int),(N:Int),(i:Int),d'.k u l)) fun r r'=>r'.1=r.1∧QP d d' u l0.length (· ∈ l0) r.2 r'.2:=by
  induction m with
  | zero=>
   intro i l hm hi hl hx
   have e1:(N:Int)≤2 * (i:Int) + 1:=by omega
   refine Z2.of (g169.D0_of _) (g169.D0_of _) ?_
   dsimp only [g169.d0,Dk.k,Nt.v,Mt.w]
   rw [w64 (x:=2 * (i:Int)) (by omega) (by omega),w64 (x:=2 * (i:Int) + 1) (by omega) (by omega)]
   have hc:∀ z:Bool,(decide ((N:Int)≤2 * (i:Int) + 1) || z)=true:=fun z=>by rw [decide_eq_true e1]; rfl
   exact Z2.pos (hc _) (hc _) (f1 _ l hl hx)
  | succ m ih=>
   intro i l hm hi hl hx
   refine Z2.of (g169.D0_of _) (g169.D0_of _) ?_
   dsimp only [g169.d0,Dk.k,Nt.v,Mt.w]
   rw [w64 (x:=2 * (i:Int)) (by omega) (by omega),w64 (x:=2 * (i:Int) + 1) (by omega) (by omega),w64 (x:=2 * (i:Int) + 1 + 1) (by omega) (by omega)]
   by_cases c:(N:Int)≤2 * (i:Int) + 1
   ·have hc:∀ z:Bool,(decide ((N:Int)≤2 * (i:Int) + 1) || z)=true:=fun z=>by rw [decide_eq_true c]; rfl
    exact Z2.pos (hc _) (hc _) (f1 _ l hl hx)
   ·have e2:¬ 2 * (i:Int) + 1 < 0:=by omega
    have hc:(decide ((N:Int)≤2 * (i:Int) + 1) || decide (2 * (i:Int) + 1 < 0))=false:=by rw [decide_eq_false c,decide_eq_false e2]; rfl
    refine Z2.neg hc hc ?_
    have f2:∀ j:Nat,i < j→j < N→Z2 (g169.D2 ((i0:Int),(N:Int),(i:Int),(j:Int),d.k u l)) (g169.D2 ((i0:Int),(N:Int),(i:Int),(j:Int),d'.k u l)) fun r r'=>r'.1=r.1∧QP d d' u l0.length (· ∈ l0) r.2 r'.2:=by
     intro j j0 j1
     refine Z2.of (g169.D2_of _) (g169.D2_of _) (Z2.bnd (less_par h hg u hu l (fun x h=>hl0 x (hx x h)) (j:Int) (i:Int) (by omega) (by omega)) ?_)
     rintro r r' ⟨b,rfl,rfl⟩
     refine Z2.br rfl (fun _=>f1 _ l hl hx) fun _=>Z2.bnd (swap_par d d' u l (i:Int) (j:Int) (by omega) (by omega)) ?_
     rintro r r' ⟨l',rfl,rfl,h1,h2⟩
     exact ih j l' (by omega) (by omega) (by omega) fun x h=>hx x (h2 x h)
    have g1:=f2 (2 * i + 1) (by omega) (by omega)
    rw [show ((2 * i + 1:Nat):Int)=2 * (i:Int) + 1 by omega] at g1
    by_cases c2:2 * (i:Int) + 1 + 1 < (N:Int)
    ·have g2:=f2 (2 * i + 2) (by omega) (by omega)
     rw [show ((2 * i + 2:Nat):Int)=2 * (i:Int) + 1 + 1 by omega] at g2
     have hc2:(decide (2 * (i:Int) + 1 + 1 < (N:Int)) == true)=true:=by rw [decide_eq_true c2]; rfl
     refine Z2.pos hc2 hc2 (Z2.bnd (less_par h hg u hu l (fun x h=>hl0 x (hx x h)) (2 * (i:Int) + 1 + 1) (2 * (i:Int) + 1) (by omega) (by omega)) ?_)
     rintro r r' ⟨b,rfl,rfl⟩
     exact Z2.br rfl (fun _=>g2) fun _=>g1
    ·have hc2:(decide (2 * (i:Int) + 1 + 1 < (N:Int)) == true)=false:=by rw [decide_eq_false c2]; rfl
     exact Z2.neg hc2 hc2 g1
 exact Z2.of (g169.F_of _) (g169.F_of _) (loop (N + 1) i0 l0 (by omega) hi0 rfl fun _ h=>h)
theorem pop_par {d d':Dk} (h:Like d d') (hg:PgOk d.ps d.qs) (u:List Int) (hu:u.length=d.ps.length) (l:List CT) (hl:d.C l) (hn:l.length≤100) (h0:0 < l.length) :
  Z2 (g171.F (d.k u l)) (g171.F (d'.k u l)) fun r r'=>r'.1=r.1∧r.1 ∈ l∧∃ (a b:Int) (z:List CT),r.2=d.v (a,b,d.n.cl,d.ps,d.qs,d.sh,d.am,u,z)∧r'.2=d'.v (a,b,d'.n.cl,d'.ps,d'.qs,d'.sh,d'.am,u,z):=by
 have h2 (d:Dk):g163.F (d.k u l)=some ((l.length:Int),d.k u l):=Y.is (Y.of (g163.F_of _) (Y.some rfl))
 refine Z2.of (g171.F_of _) (g171.F_of _) (Z2.bE (h2 d) (h2 d') ?_)
 dsimp only
 rw [w64 (x:=(l.length:Int) - 1) (by omega) (by omega)]
 refine Z2.bnd (swap_par d d' u l 0 ((l.length:Int) - 1) (by omega) (by omega)) ?_
 rintro r r' ⟨l1,rfl,rfl,a1,a2⟩
 have hC1:d.C l1:=fun x h=>hl x (a2 x h)
 have hd:=down_par h hg u hu l1 hC1 (by omega) 0 (l.length - 1) (by omega) (by omega)
 rw [show ((l.length - 1:Nat):Int)=(l.length:Int) - 1 by omega] at hd
 refine Z2.bnd hd ?_
 rintro ⟨b,r⟩ ⟨b',r'⟩ ⟨_,l2,e1,e2,b1,b2⟩
 have e1:r=d.k u l2:=e1
 have e2:r'=d'.k u l2:=e2
 subst e1 e2
 have hp (d:Dk):g170.F (d.k u l2)=some (rd cty l2 ((l2.length:Int) - 1),d.v (0,(l2.length:Int) - 1,d.n.cl,d.ps,d.qs,d.sh,d.am,u,l2)):=by
  refine Y.is (Y.of (g170.F_of _) ?_)
  dsimp only [g170.d,Dk.k,Nt.v,Mt.w]
  rw [w64 (x:=(l2.length:Int) - 1) (by omega) (by omega)]
  exact Y.pd (by omega) (Y.pd (by omega) (Y.some rfl))
 refine Z2.bE (hp d) (hp d') (Z2.some ⟨rfl,?_,0,(l2.length:Int) - 1,l2,rfl,rfl⟩)
 exact a2 _ (b2 _ (rd_mem (t:=cty) l2 ((l2.length:Int) - 1) (by omega) (by omega)))
end Go.Proofs.RPn
namespace Go.Proofs.RPn
open Go Go.Eng
set_option linter.unusedVariables false
@[reducible] def Dk.o (d:Dk) (ps:List (ByteArray×Int)) (qs:List QT):Dk:=⟨d.n,d.m,ps,qs,d.sh,d.am⟩
theorem reach_par {d:Dk} {ps:List (ByteArray×Int)} {qs:List QT} (hk:Like d (d.o ps qs)) (h:d.G) (s x y:Int) (ss:List (List Int)) (i:Nat) (hi:i < d.qs.length) (s0:0≤s) (s1:s≤d.n.sl) (hp:d.m.In (x,y)) {q:Rq} (hq:q.Ok) (k:Int) (e:rd qty d.qs (i:Int)=q.t) (e':rd qty qs (i:Int)=Rq.t { q with id:=k }) :
  Z2 (g159.F (d.w (s,x,y,ss,(i:Int)))) (g159.F ((d.o ps qs).w (s,x,y,ss,(i:Int)))) fun r r'=>r'=r∧(r.2.2.2=true→s≤r.1∧r.1 + q.len≤d.n.sl∧d.m.In (r.2.1,r.2.2.1)):=by
 have hl:=hq.len
 have hs:=h.n.sl
 have ha:=h.a i hi
 have hn:=h.an
 have hql:qs.length=d.qs.length:=hk.ql
 have loop (m:Nat):∀ t:Int,d.n.sl - t < m→s≤t→t≤128→Z2 (g159.D0 ((i:Int),t,d.w (s,x,y,ss,0,0))) (g159.D0 ((i:Int),t,(d.o ps qs).w (s,x,y,ss,0,0))) fun r r'=>r'=r∧(r.2.2.2=true→s≤r.1∧r.1 + q.len≤d.n.sl∧d.m.In (r.2.1,r.2.2.1)):=by
  induction m with
  | zero=>
   intro t e1 t0 t1
   refine Z2.of (g159.D0_of _) (g159.D0_of _) (Z2.pd (by omega) (show 0≤(i:Int)∧(i:Int) < (qs.length:Int) by omega) ?_)
   rw [show rd ty0 d.qs (i:Int)=q.t from e,show rd ty0 qs (i:Int)=Rq.t { q with id:=k } from e',show wrap .i64 (d.n.sl - q.t.2.2.2.1)=d.n.sl - q.len from w64 (x:=d.n.sl - q.len) (by omega) (by omega)]
   exact Z2.nd (by omega) (by omega) (Z2.some ⟨rfl,fun c=>absurd c (by decide)⟩)
  | succ m ih=>
   intro t e1 t0 t1
   refine Z2.of (g159.D0_of _) (g159.D0_of _) (Z2.pd (by omega) (show 0≤(i:Int)∧(i:Int) < (qs.length:Int) by omega) ?_)
   rw [show rd ty0 d.qs (i:Int)=q.t from e,show rd ty0 qs (i:Int)=Rq.t { q with id:=k } from e']
   have ew:wrap .i64 (d.n.sl - q.len)=d.n.sl - q.len:=w64 (by omega) (by omega)
   refine Z2.br rfl (fun c=>?_) fun _=>Z2.some ⟨rfl,fun c=>absurd c (by decide)⟩
   have c:t≤wrap .i64 (d.n.sl - q.len):=of_decide_eq_true c
   rw [ew] at c
   refine Z2.pd (by omega) (by show 0≤(i:Int)∧(i:Int) < (d.am.length:Int); omega) (Z2.pd (show 0≤t∧t < ((rd aty d.am (i:Int)).length:Int) by omega) (show 0≤t∧t < ((rd aty d.am (i:Int)).length:Int) by omega) ?_)
   obtain ⟨r,er,hr⟩:=to_in h.m x y (rd (.pair (.int .i64) (.int .i64)) (rd aty d.am (i:Int)) t).1 (rd (.pair (.int .i64) (.int .i64)) (rd aty d.am (i:Int)) t).2 hp
   refine Z2.bE er er ?_
   have nx:=ih (t + 1) (by omega) (by omega) (by omega)
   rw [← w64 (x:=t + 1) (by omega) (by omega)] at nx
   by_cases k:r.2.2.2=0
   ·obtain ⟨z,ez,_⟩:=slots_tot h.n r.2.2.1
    exact Z2.pos (by simp [k]) (by simp [k]) (Z2.pos (by simp [k]) (by simp [k]) (Z2.bE ez ez (Z2.br rfl (fun _=>Z2.some ⟨rfl,fun _=>⟨t0,by omega,hr k⟩⟩) fun _=>nx)))
   ·exact Z2.neg (by simp [k]) (by simp [k]) (Z2.neg (by simp [k]) (by simp [k]) (Z2.pos (by simp [k]) (by simp [k]) (Z2.pos (by simp [k]) (by simp [k]) nx)))
 exact Z2.of (g159.F_of _) (g159.F_of _) (loop (d.n.sl - s + 1).toNat s (by omega) (by omega) (by omega))
theorem look_par {d:Dk} {ps:List (ByteArray×Int)} {qs:List QT} (hk:Like d (d.o ps qs)) (h:d.G) (s x y:Int) (ss:List (List Int)) (hr:Rows d ss) (i:Nat) (hi:i < d.qs.length) (s0:0≤s) (s1:s≤d.n.sl) (hp:d.m.In (x,y)) {q:Rq} (hq:q.Ok) (k:Int) (e:rd qty d.qs (i:Int)=q.t) (e':rd qty qs (i:Int)=Rq.t { q with id:=k }) (hcd:Codes d.n q (rd rty d.sh (i:Int))) :
  Z2 (g161.F (d.w (s,x,y,ss,(i:Int)))) (g161.F ((d.o ps qs).w (s,x,y,ss,(i:Int)))) fun r r'=>r'=r:=by
 have hl:=hq.len
 have hv:=hq.vis
 have hs:=h.n.sl
 have hsn:=h.sn
 have hss:=hr.l
 have hql:qs.length=d.qs.length:=hk.ql
 obtain ⟨hr1,hr2⟩:=hr.r i hi
 have hcl:=hcd.1
 have loop (t fx fy:Int) (t0:s≤t) (t1:t + q.len≤d.n.sl) (hf:d.m.In (fx,fy)) (c:Nat) :
   ∀ k2:Int,k2 + c=t + q.len→t≤k2→Z2 (g161.D1 ((i:Int),t,k2,d.w (0,0,0,0,0,0,q.w (fx,fy,(i:Int),t,fx,fy,0,0)))) (g161.D1 ((i:Int),t,k2,(d.o ps qs).w (0,0,0,0,0,0,Rq.w { q with id:=k } (fx,fy,(i:Int),t,fx,fy,0,0)))) fun r r'=>r'=r:=by
  induction c with
  | zero=>
   intro k2 ek k0
   refine Z2.of (g161.D1_of _) (g161.D1_of _) ?_
   dsimp only [g161.d1,Dk.w,Nt.w,Mt.w,Rq.w]
   rw [w64 (x:=t + q.len) (by omega) (by omega)]
   have htr:=track_is h.n (by omega) h.m (q.ax,q.ay,q.az) t (t + q.len) (fx,fy) hf (by omega) (by omega) (by omega)
   exact Z2.nd (by omega) (by omega) (Z2.bE htr htr (Z2.br rfl (fun _=>Z2.some rfl) fun _=>Z2.some rfl))
  | succ c ih=>
   intro k2 ek k0
   refine Z2.of (g161.D1_of _) (g161.D1_of _) ?_
   dsimp only [g161.d1,Dk.w,Nt.w,Mt.w,Rq.w]
   rw [w64 (x:=t + q.len) (by omega) (by omega),w64 (x:=k2 + 1) (by omega) (by omega)]
   have b:0≤k2∧k2 < ((rd rty d.sh (i:Int)).length:Int):=by omega
   exact Z2.pd (by omega) (by omega) (Z2.pd (by omega) (by omega) (Z2.pd b b (Z2.br rfl (fun _=>Z2.some rfl) fun _=>ih (k2 + 1) (by omega) (by omega))))
 refine Z2.of (g161.F_of _) (g161.F_of _) (Z2.pd (by omega) (show 0≤(i:Int)∧(i:Int) < (qs.length:Int) by omega) (Z2.pd (by omega) (by omega) ?_))
 rw [show rd ty0 d.qs (i:Int)=q.t from e,show rd ty0 qs (i:Int)=Rq.t { q with id:=k } from e']
 refine Z2.br rfl (fun _=>Z2.some rfl) fun c0=>Z2.bnd (reach_par hk h s x y ss i hi s0 s1 hp hq k e e') ?_
 rintro _ r ⟨rfl,hr⟩
 refine Z2.br rfl (fun _=>Z2.some rfl) fun c1=>?_
 obtain ⟨r1,r2,r3⟩:=hr (by simpa using c1)
 obtain ⟨t,fx,fy,b⟩:=r
 have fin:Z2 (g161.D0 ((i:Int),t,d.w (0,0,0,0,0,0,q.w (fx,fy,(i:Int),t,fx,fy,0,0)))) (g161.D0 ((i:Int),t,(d.o ps qs).w (0,0,0,0,0,0,Rq.w { q with id:=k } (fx,fy,(i:Int),t,fx,fy,0,0)))) fun r r'=>r'=r:=
  Z2.of (g161.D0_of _) (g161.D0_of _) (loop t fx fy r1 r2 r3 q.len.toNat t (by omega) (Int.le_refl t))
 by_cases cl:rd rty ss (i:Int)=[]
 ·have z:¬ (0:Int) < ((rd rty ss (i:Int)).length:Int):=by rw [cl]; decide
  exact Z2.nd z z fin
 ·have hp:0 < (rd rty ss (i:Int)).length:=List.length_pos_iff.mpr cl
  have z:(0:Int) < ((rd rty ss (i:Int)).length:Int):=by omega
  have z2:0≤wrap .i64 (((rd rty ss (i:Int)).length:Int) - 1)∧wrap .i64 (((rd rty ss (i:Int)).length:Int) - 1) < ((rd rty ss (i:Int)).length:Int):=by rw [w64 (by omega) (by omega)]; omega
  exact Z2.pd z z (Z2.pd z2 z2 (Z2.br rfl (fun _=>Z2.some rfl) fun _=>Z2.br rfl (fun _=>Z2.some rfl) fun _=>fin))
theorem choose_par {d:Dk} {ps:List (ByteArray×Int)} {qs:List QT} (hk:Like d (d.o ps qs)) (h:d.G) (hg:PgOk d.ps d.qs) (hg':PgOk ps qs) (s x y:Int) (ss:List (List Int)) (hr:Rows d ss) (s0:0≤s) (s1:s≤d.n.sl) (hp:d.m.In (x,y)) :
  Z2 (g172.F (d.c s x y ss)) (g172.F ((d.o ps qs).c s x y ss)) fun r r'=>∃ (c:CT) (b:Bool),r=CT.out c b d∧r'=CT.out c b (d.o ps qs):=by
 have hq:=hg.q
 have hql:qs.length=d.qs.length:=hk.ql
 have loop (u:List Int) (hu:u.length=d.ps.length) (m:Nat):∀ (j:Nat) (l:List CT),j + m=d.qs.length→l.length≤j→d.C l→Z2 (g172.D0 ((d.qs.length:Int),(j:Int),d.n.cl,d.ps,d.qs,d.sh,d.am,d.v (s,x,y,ss,0,0,0,0,0,0,d.v (u,l)))) (g172.D0 ((d.qs.length:Int),(j:Int),d.n.cl,ps,qs,d.sh,d.am,d.v (s,x,y,ss,0,0,0,0,0,0,d.v (u,l)))) fun r r'=>∃ (c:CT) (b:Bool),r=CT.out c b d∧r'=CT.out c b (d.o ps qs):=by
  induction m with
  | zero=>
   intro j l e hl hC
   have h2 (d:Dk):g163.F (d.k u l)=some ((l.length:Int),d.k u l):=Y.is (Y.of (g163.F_of _) (Y.some rfl))
   refine Z2.of (g172.D0_of _) (g172.D0_of _) (Z2.nd (by omega) (by omega) (Z2.bE (h2 d) (h2 (d.o ps qs)) (Z2.br rfl (fun _=>Z2.some ⟨(0,0,(0,0),0,0),false,rfl,rfl⟩) fun c0=>?_)))
   have c0':¬ (l.length:Int)=0:=of_decide_eq_false c0
   refine Z2.bnd (pop_par hk hg u hu l hC (by omega) (by omega)) ?_
   rintro ⟨c,r⟩ ⟨c',r'⟩ ⟨e1,g1,a,b,z,e2,e3⟩
   have e1:c'=c:=e1
   have e2:r=_:=e2
   have e3:r'=_:=e3
   subst e1 e2 e3
   exact Z2.some ⟨c',true,rfl,rfl⟩
  | succ m ih=>
   intro j l e hl hC
   obtain ⟨q,q1,q2,q3⟩:=h.s j (by omega)
   obtain ⟨q',k,k1,k2⟩:=hk.q j (by omega)
   have:=Rq.t_inj (q2.symm.trans k1)
   subst this
   have next:∀ l:List CT,l.length≤j + 1→d.C l→Z2 (g172.D1 ((d.qs.length:Int),(j:Int),d.n.cl,d.ps,d.qs,d.sh,d.am,d.v (s,x,y,ss,0,0,0,0,0,0,d.v (u,l)))) (g172.D1 ((d.qs.length:Int),(j:Int),d.n.cl,ps,qs,d.sh,d.am,d.v (s,x,y,ss,0,0,0,0,0,0,d.v (u,l)))) fun r r'=>∃ (c:CT) (b:Bool),r=CT.out c b d∧r'=CT.out c b (d.o ps qs):=by
    intro l hl hc
    have:=ih (j + 1) l (by omega) hl hc
    rw [show (((j + 1:Nat):Int))=wrap .i64 ((j:Int) + 1) by rw [w64 (x:=(j:Int) + 1) (by omega) (by omega)]; omega] at this
    exact Z2.of (g172.D1_of _) (g172.D1_of _) this
   obtain ⟨r0,er,hr0⟩:=look_in h s x y ss hr j (by omega) s0 s1 hp q1 q2 q3
   obtain ⟨r,r',e1,e2,e3⟩:=look_par hk h s x y ss hr j (by omega) s0 s1 hp q1 k q2 k2 q3
   rw [er] at e1
   have e1:=Option.some.inj e1
   subst e1 e3
   refine Z2.of (g172.D0_of _) (g172.D0_of _) (Z2.pd (by omega) (by omega) (Z2.bE er e2 (Z2.br rfl (fun c0=>?_) fun _=>next l (by omega) hC)))
   obtain ⟨r1,r2⟩:=hr0 (of_decide_eq_true c0)
   have hci:0≤r'.1∧r'.1 < (d.qs.length:Int):=by rw [r1]; omega
   refine Z2.bnd (push_par hk hg u hu l hC (by omega) (r'.1,r'.2.1,(r'.2.2.1,r'.2.2.2.1),r'.2.2.2.2.1,r'.2.2.2.2.2.1) hci) ?_
   rintro _ _ ⟨l',rfl,rfl,g1,g2⟩
   refine next l' (by omega) fun c g=>?_
   rcases g2 c g with k | k
   ·rw [k]
    exact hci
   ·exact hC c k
 refine Z2.of (g172.F_of _) (g172.F_of _) (Z2.bnd (used_par hk hg hg' s x y ss hr.l) ?_)
 rintro _ u ⟨rfl,hu⟩
 have:=loop u hu d.qs.length 0 [] (by omega) (Nat.le_refl 0) fun c g=>by cases g
 rw [show ((qs.length:Int))=(d.qs.length:Int) by omega]
 exact this
end Go.Proofs.RPn
namespace Go.Proofs.RPn
open Go Go.Eng
set_option linter.unusedVariables false
theorem val_start {d:Dk} (h:d.G):Val d 0 d.m.pz d.m.pl (List.replicate d.qs.length []):=by
 have hsl:=h.n.sl
 refine ⟨by omega,⟨h.m.pz,h.m.pl⟩,by simp,fun i q hi _=>?_⟩
 rw [rd_rep (t:=rty) _ _ i hi]
 exact ⟨Nat.zero_le _,fun e he=>absurd he (List.not_mem_nil),List.Pairwise.nil⟩
end Go.Proofs.RPn
namespace Go.Proofs.RPn
open Go Go.Eng
set_option linter.unusedVariables false
abbrev cel:Ty:=.pair (.int .i64) (.int .i64)
def AimRow (n:Nt) (c:QT) (l:List (Int×Int)):Prop:=∀ k:Nat,k < l.length→∃ e:Int,g145.F (n.w (c.2.2.1.1,c.2.2.1.2.1,c.2.2.1.2.2,(k:Int)))=some ((rd cel l (k:Int)).1,(rd cel l (k:Int)).2,e)
theorem AimRow.add {n:Nt} {c:QT} {l:List (Int×Int)} (h:AimRow n c l) {r:g145.R} (hr:g145.F (n.w (c.2.2.1.1,c.2.2.1.2.1,c.2.2.1.2.2,(l.length:Int)))=some r):AimRow n c (l++[(r.1,r.2.1)]):=by
 intro k hk
 rw [List.length_append,List.length_singleton] at hk
 rw [rd_app (t:=cel) l (r.1,r.2.1) k hk]
 by_cases g:k < l.length
 ·rw [if_pos g]
  exact h k g
 ·rw [if_neg g]
  have:k=l.length:=by omega
  rw [this]
  exact ⟨r.2.2,hr⟩
theorem AimRow.same {n:Nt} {c c':QT} {l l':List (Int×Int)} (hc:c'.2=c.2) (h:AimRow n c l) (h':AimRow n c' l') (hl:l'.length=l.length):l'=l:=by
 refine List.ext_getElem hl fun k k1 k2=>?_
 obtain ⟨e,a⟩:=h k k2
 obtain ⟨e',a'⟩:=h' k k1
 rw [hc,a] at a'
 have a':=Option.some.inj a'
 simp only [Prod.mk.injEq] at a'
 rw [rd_nat (t:=cel) l k k2,rd_nat (t:=cel) l' k k1] at a'
 exact Prod.ext a'.1.symm a'.2.1.symm
theorem desk_inner_a {n:Nt} {m:Mt} {q:Rq} {ps:List (ByteArray×Int)} {qs:List QT} (hn:n.Ok 64) (N i:Nat) (hi:i < N) (hN:N≤6) (hq:rd qty qs (i:Int)=q.t) (sh:List (List Int)) (Q:g146.R→Prop) (S:Nat) (hS:(S:Int)=n.sl + 1)
  (K:∀ am:List (List (Int×Int)),am.length=N→(∀ j:Nat,j < N→(rd aty am (j:Int)).length=if j < i + 1 then S else 0)→(∀ j:Nat,j < N→AimRow n (rd qty qs (j:Int)) (rd aty am (j:Int)))→Y (g146.D0 ((N:Int),(i:Int) + 1,ds n m (qs,n.cl,[],[],[],[],[],ps,sh,am))) Q) (c:Nat) :
  ∀ (k:Nat) (am:List (List (Int×Int))),k + c=S→am.length=N→(∀ j:Nat,j < N→(rd aty am (j:Int)).length=if j < i then S else if j=i then k else 0)→(∀ j:Nat,j < N→AimRow n (rd qty qs (j:Int)) (rd aty am (j:Int))) →
   Y (g146.D1 ((i:Int),(N:Int),(i:Int),n.sl + 1,(k:Int),ds n m (q.w (qs,n.cl,[],[],[],[],[],ps,sh,am)))) Q:=by
 have hsl:=hn.sl
 induction c with
 | zero=>
  intro k am e hl ha hr
  refine Y.of (g146.D1_of _) (Y.nd (by omega) ?_)
  rw [w64 (x:=(i:Int) + 1) (by omega) (by omega)]
  refine K am hl (fun j hj=>?_) hr
  rw [ha j hj]
  by_cases c1:j < i
  ·rw [if_pos c1,if_pos (by omega)]
  ·rw [if_neg c1]
   by_cases c2:j=i
   ·rw [if_pos c2,if_pos (by omega)]
    omega
   ·rw [if_neg c2,if_neg (by omega)]
 | succ c ih=>
  intro k am e hl ha hr
  have hk:(rd aty am (i:Int)).length=k:=by rw [ha i hi,if_neg (by omega),if_pos rfl]
  obtain ⟨r,er,_⟩:=aim_tot hn (by omega) q.ax q.ay q.az (k:Int)
  refine Y.of (g146.D1_of _) (Y.pd (by omega) (Y.bE er (Y.pd (by omega) (Y.pd ?_ (Y.pd (by omega) (Y.pd rfl ?_))))))
  ·show (rd aty am (i:Int)).length + 1≤140737488355328 / 16
   omega
  ·rw [w64 (x:=(k:Int) + 1) (by omega) (by omega)]
   have:=ih (k + 1) (am.set i (rd aty am (i:Int)++[(r.1,r.2.1)])) (by omega) (by rw [List.length_set,hl]) (fun j hj=>by
    rw [rd_set (t:=aty) am i j _ (by omega)]
    by_cases c1:j=i
    ·rw [if_pos c1,if_neg (by omega),if_pos c1,List.length_append,hk]
     rfl
    ·rw [if_neg c1,ha j hj,if_neg c1]
     by_cases c2:j < i
     ·rw [if_pos c2,if_pos c2]
     ·rw [if_neg c2,if_neg c2,if_neg c1]) fun j hj=>by
    rw [rd_set (t:=aty) am i j _ (by omega)]
    by_cases c1:j=i
    ·rw [if_pos c1]
     subst c1
     refine (hr j hj).add ?_
     rw [hq,hk]
     exact er
    ·rw [if_neg c1]
     exact hr j hj
   rw [show ((k + 1:Nat):Int)=(k:Int) + 1 by omega] at this
   exact this
theorem desk_a {n:Nt} {m:Mt} {ps:List (ByteArray×Int)} {qs:List QT} (hn:n.Ok 64) (hm:m.Ok) (hp:PsOk ps) (hq:QsOk (ps.length:Int) qs) :
  Y (g146.F (n.w (m.w (ps,qs)))) fun r=>∃ sh am,r=n.v (m.w ((0:Int),n.cl,ps,qs,sh,am))∧(⟨n,m,ps,qs,sh,am⟩:Dk).G∧∀ j:Nat,j < qs.length→AimRow n (rd qty qs (j:Int)) (rd aty am (j:Int)):=by
 have hsl:=hn.sl
 have hcn:=hn.cn
 have hl:=hq.l
 have hpl:=hp.l
 obtain ⟨S,hS⟩:∃ S:Nat,(S:Int)=n.sl + 1:=⟨(n.sl + 1).toNat,by omega⟩
 have loop (c:Nat):∀ (i:Nat) (sh:List (List Int)) (am:List (List (Int×Int))),i + c=qs.length→sh.length=qs.length→(∀ j:Nat,j < i→∃ q:Rq,q.Ok∧rd qty qs (j:Int)=q.t∧Codes n q (rd rty sh (j:Int)))→am.length=qs.length→(∀ j:Nat,j < qs.length→(rd aty am (j:Int)).length=if j < i then S else 0)→(∀ j:Nat,j < qs.length→AimRow n (rd qty qs (j:Int)) (rd aty am (j:Int))) →
   Y (g146.D0 ((qs.length:Int),(i:Int),ds n m (qs,n.cl,[],[],[],[],[],ps,sh,am))) fun r=>∃ sh am,r=n.v (m.w ((0:Int),n.cl,ps,qs,sh,am))∧(⟨n,m,ps,qs,sh,am⟩:Dk).G∧∀ j:Nat,j < qs.length→AimRow n (rd qty qs (j:Int)) (rd aty am (j:Int)):=by
  induction c with
  | zero=>
   intro i sh am e h1 h2 h3 h5 h6
   refine Y.of (g146.D0_of _) (Y.nd (by omega) (Y.some ⟨sh,am,rfl,⟨hn,hm,h1,fun j hj=>h2 j (by show j < i; have:j < qs.length:=hj; omega),h3,fun j hj=>?_⟩,h6⟩))
   have hj':j < qs.length:=hj
   have:=h5 j hj'
   rw [if_pos (by omega)] at this
   show ((rd aty am (j:Int)).length:Int)=n.sl + 1
   rw [this,hS]
  | succ c ih=>
   intro i sh am e h1 h2 h3 h5 h6
   obtain ⟨q,g1,g2,_⟩:=hq.q i (by omega)
   obtain ⟨l,e1,e2⟩:=slots_spec hn (by omega) g1
   refine Y.of (g146.D0_of _) (Y.pd (by omega) (Y.pd (by omega) ?_))
   rw [show rd ty0 qs (i:Int)=q.t from g2]
   refine Y.bE e1 (Y.pd (by omega) ?_)
   dsimp only
   rw [w64 (x:=n.sl + 1) (by omega) (by omega)]
   refine desk_inner_a hn qs.length i (by omega) hl g2 (sh.set i l) _ S hS (fun am' k1 k2 k3=>?_) S 0 am (by omega) h3 (fun j hj=>?_) h6
   ·have:=ih (i + 1) (sh.set i l) am' (by omega) (by rw [List.length_set,h1]) (fun j hj=>?_) k1 k2 k3
    ·rw [show ((i + 1:Nat):Int)=(i:Int) + 1 by omega] at this
     exact this
    ·rw [rd_set (t:=rty) sh i j l (by omega)]
     by_cases c1:j=i
     ·rw [if_pos c1,c1]
      exact ⟨q,g1,g2,e2⟩
     ·rw [if_neg c1]
      exact h2 j (by omega)
   ·rw [h5 j hj]
    by_cases c1:j < i
    ·rw [if_pos c1,if_pos c1]
    ·rw [if_neg c1,if_neg c1]
     split <;> rfl
 have hk:g43.F (n.w (m.w (ps,qs)))=some 0:=Y.is (Y.of (g43.F_of _) (Y.bE (night_ok hn (by omega)) (Y.np rfl (Y.bE (mount_ok hm) (Y.np rfl (Y.bE (check_ok hp hq) (Y.some rfl)))))))
 refine Y.of (g146.F_of _) (Y.bE hk (Y.np rfl (Y.bE (g44.clone_is n.cl (by omega)) (Y.bE (g45.clone_is ps (by omega)) (Y.bE (g46.clone_is qs (by omega)) (Y.pd (by omega) (Y.pd (by omega) ?_)))))))
 have hrep:∀ j:Nat,j < qs.length→rd aty (List.replicate ((qs.length:Int)).toNat ((Ty.int IntKind.i64).pair (Ty.int IntKind.i64)).slice.dflt) (j:Int)=[]:=fun j hj=>rd_rep (t:=aty) _ _ j (by omega)
 refine loop qs.length 0 _ _ (by omega) (by simp) (fun j hj=>absurd hj (by omega)) (by simp) (fun j hj=>?_) fun j hj=>?_
 ·rw [hrep j hj,if_neg (by omega)]
  rfl
 ·rw [hrep j hj]
  exact fun k hk=>absurd hk (by simp)
theorem why_id (n:Nt) (q:Rq) (z:Int) (k:Int) (h0:0≤k) (h1:k < n.cl.length):g134.F (n.w (Rq.w { q with id:=z } k))=g134.F (n.w (q.w k)):=by
 obtain ⟨dk,a,b,c,e1,e2,e3,e4,e5⟩:=why_spec n q k h0 h1
 obtain ⟨dk',a',b',c',f1,f2,f3,f4,f5⟩:=why_spec n { q with id:=z } k h0 h1
 rw [e1] at f1
 rw [e2] at f2
 rw [e3] at f3
 rw [e4] at f4
 have f1:=Option.some.inj f1
 have f2:=Option.some.inj f2
 have f3:=Option.some.inj f3
 have f4:=Option.some.inj f4
 subst f1 f2 f3 f4
 rw [e5]
 exact f5
def Shf (z:Int) (qs qs':List QT):Prop:=qs'.length=qs.length∧∀ i:Nat,i < qs.length→∃ q:Rq,q.Ok∧rd qty qs (i:Int)=q.t∧Rq.Ok { q with id:=q.id + z }∧rd qty qs' (i:Int)=Rq.t { q with id:=q.id + z }
theorem desks_same {n:Nt} {m:Mt} {ps ps':List (ByteArray×Int)} {qs qs':List QT} {z:Int} (hs:Shf z qs qs') {sh sh':List (List Int)} {am am':List (List (Int×Int))} (hg:(⟨n,m,ps,qs,sh,am⟩:Dk).G) (hg':(⟨n,m,ps',qs',sh',am'⟩:Dk).G) (ha:∀ j:Nat,j < qs.length→AimRow n (rd qty qs (j:Int)) (rd aty am (j:Int))) (ha':∀ j:Nat,j < qs'.length→AimRow n (rd qty qs' (j:Int)) (rd aty am' (j:Int))):sh'=sh∧am'=am:=by
 obtain ⟨hl,hq⟩:=hs
 have l1:sh.length=qs.length:=hg.sn
 have l2:sh'.length=qs'.length:=hg'.sn
 have l3:am.length=qs.length:=hg.an
 have l4:am'.length=qs'.length:=hg'.an
 have hcn:=hg.n.cn
 have hcn:(n.cl.length:Int)=n.sl:=hcn
 constructor
 ·refine List.ext_getElem (by omega) fun i i1 i2=>?_
  obtain ⟨q,q1,q2,q3,q4⟩:=hq i (by omega)
  obtain ⟨a,_,a2,a3⟩:=hg.s i (by show i < qs.length; omega)
  obtain ⟨b,_,b2,b3⟩:=hg'.s i (by show i < qs'.length; omega)
  have ea:=Rq.t_inj (a2.symm.trans q2)
  have eb:=Rq.t_inj (b2.symm.trans q4)
  subst ea eb
  have a3:Codes n a (rd rty sh (i:Int)):=a3
  have b3:Codes n { a with id:=a.id + z } (rd rty sh' (i:Int)):=b3
  rw [rd_nat (t:=rty) sh i i2] at a3
  rw [rd_nat (t:=rty) sh' i i1] at b3
  have hln:(sh'[i]).length=(sh[i]).length:=by have:=a3.1; have:=b3.1; omega
  refine List.ext_getElem hln fun j j1 j2=>?_
  have e1:=a3.2 j j2
  have e2:=b3.2 j j1
  have:=a3.1
  rw [why_id n a (a.id + z) (j:Int) (by omega) (by omega),e1,List.getElem?_eq_getElem j1,List.getElem?_eq_getElem j2] at e2
  exact (Option.some.inj e2).symm
 ·refine List.ext_getElem (by omega) fun i i1 i2=>?_
  obtain ⟨q,q1,q2,q3,q4⟩:=hq i (by omega)
  have a:=ha i (by omega)
  have b:=ha' i (by omega)
  have la:=hg.a i (by show i < qs.length; omega)
  have lb:=hg'.a i (by show i < qs'.length; omega)
  have la:((rd aty am (i:Int)).length:Int)=n.sl + 1:=la
  have lb:((rd aty am' (i:Int)).length:Int)=n.sl + 1:=lb
  have:=AimRow.same (c:=rd qty qs (i:Int)) (c':=rd qty qs' (i:Int)) (by rw [q2,q4]) a b (by omega)
  rwa [rd_nat (t:=aty) am i i2,rd_nat (t:=aty) am' i i1] at this
def shv (z:Int) (v:VT):VT:=(v.1 + z,v.2)
theorem from_par {d:Dk} {ps:List (ByteArray×Int)} {qs:List QT} {z:Int} (hk:Like d (d.o ps qs)) (hs:Shf z d.qs qs) (h:d.G) (h':(d.o ps qs).G) (hg:PgOk d.ps d.qs) (hg':PgOk ps qs) :
  Z2 (g174.F (d.v (0,d.m.pz,d.m.pl,List.replicate d.qs.length [],d.n.cl,d.ps,d.qs,d.sh,d.am))) (g174.F (d.v (0,d.m.pz,d.m.pl,List.replicate qs.length [],d.n.cl,ps,qs,d.sh,d.am))) fun r r'=>∃ vs:List VT,r=(0,d.n.cl,d.ps,d.qs,d.sh,d.am,vs)∧r'=(0,d.n.cl,ps,qs,d.sh,d.am,vs.map (shv z))∧(vs.length:Int)≤64∧∀ v ∈ vs,0≤v.1∧v.1≤1000000:=by
 have hsl:=h.n.sl
 have hgq:=hg.q
 have hql:qs.length=d.qs.length:=hk.ql
 have loop (m:Nat):∀ (s x y:Int) (ss:List (List Int)) (out:List VT),d.n.sl - s≤m→Val d s x y ss→Val (d.o ps qs) s x y ss→(out.length:Int)≤s→(∀ v ∈ out,0≤v.1∧v.1≤1000000)→Z2 (g174.D0 (d.n.cl,d.ps,d.qs,d.sh,d.am,d.v (s,x,y,out,ss))) (g174.D0 (d.n.cl,ps,qs,d.sh,d.am,d.v (s,x,y,out.map (shv z),ss))) fun r r'=>∃ vs:List VT,r=(0,d.n.cl,d.ps,d.qs,d.sh,d.am,vs)∧r'=(0,d.n.cl,ps,qs,d.sh,d.am,vs.map (shv z))∧(vs.length:Int)≤64∧∀ v ∈ vs,0≤v.1∧v.1≤1000000:=by
  induction m with
  | zero=>
   intro s x y ss out e hv hv' ho hb0
   have hsv:=hv.sb
   exact Z2.of (g174.D0_of _) (g174.D0_of _) (Z2.nd (by omega) (by omega) (Z2.some ⟨out,rfl,rfl,by omega,hb0⟩))
  | succ m ih=>
   intro s x y ss out e hv hv' ho hb0
   have hsv:=hv.sb
   have hr:=hv.rows h
   refine Z2.of (g174.D0_of _) (g174.D0_of _) ?_
   by_cases c:s < d.n.sl
   ·obtain ⟨r,er,cc,b,rfl,hb⟩:=choose_in h hg s x y ss hr hsv.1 hsv.2 hv.pin
    obtain ⟨r1,r1',e1,e1',c2,b2,f1,f1'⟩:=choose_par hk h hg hg' s x y ss hr hsv.1 hsv.2 hv.pin
    have er':g172.F (d.c s x y ss)=some (CT.out cc b d):=er
    rw [er'] at e1
    have e1:=Option.some.inj e1
    rw [f1] at e1
    simp only [CT.out,Prod.mk.injEq] at e1
    obtain ⟨g1,g2,g3,g4,g5,g6,g7,_⟩:=e1
    have hcc:cc=c2:=by
     obtain ⟨_,_,⟨_,_⟩,_,_⟩:=cc
     obtain ⟨_,_,⟨_,_⟩,_,_⟩:=c2
     simp only [Prod.mk.injEq]
     exact ⟨g1,g2,⟨g3,g4⟩,g5,g6⟩
    subst hcc g7 f1'
    refine Z2.pd c c (Z2.bE er e1' ?_)
    cases b with
    | false=>
     have:=ih (s + 1) x y ss out (by omega) (hv.skip c) (hv'.skip c) (by omega) hb0
     rw [← w64 (x:=s + 1) (by omega) (by omega)] at this
     exact Z2.pos rfl rfl this
    | true=>
     obtain ⟨i,q,i0,i1,q1,q2,hf,hgo⟩:=hb rfl
     obtain ⟨ci,t,⟨fx,fy⟩,tx,ty⟩:=cc
     have i1:ci=(i:Int):=i1
     subst i1
     have hf:Fit d s ss i q t tx ty:=hf
     have ht0:=hf.t0
     have ht1:=hf.t1
     have ln:=q1.len
     obtain ⟨p,p1,p2,p3,p4⟩:=hs.2 i i0
     have:=Rq.t_inj (p2.symm.trans q2)
     subst this
     have hf':Fit (d.o ps qs) s ss i { p with id:=p.id + z } t tx ty:=⟨hf.t0,hf.t1,hf.o,hf.to,hf.gap,hf.room⟩
     have i0':i < qs.length:=by omega
     have tk:=take_is h hv fx fy (tx:=tx) (ty:=ty) i0 q1 q2 ht0 ht1
     have tk':=take_is (d:=d.o ps qs) h' hv' fx fy (tx:=tx) (ty:=ty) i0' p3 p4 ht0 ht1
     refine Z2.neg rfl rfl (Z2.bE tk tk' (Z2.pd ?_ ?_ ?_))
     ·simp only [List.length_cons,List.length_nil]
      omega
     ·simp only [List.length_cons,List.length_nil,List.length_map]
      omega
     ·have:=ih (t + p.len) tx ty _ (out++[(p.id,t - s,t,p.len)]) (by omega) (hv.take i0 q1 q2 hf) (Val.take (q:={ p with id:=p.id + z }) hv' i0' p3 p4 hf') (by rw [List.length_append,List.length_singleton]; omega) (fun v hv=>by
       have hid:=q1.id
       rcases List.mem_append.mp hv with g | g
       ·exact hb0 v g
       ·rw [List.mem_singleton] at g
        rw [g]
        show 0≤p.id∧p.id≤1000000
        omega)
      rw [List.map_append] at this
      exact this
   ·exact Z2.nd c c (Z2.some ⟨out,rfl,rfl,by omega,hb0⟩)
 have v1:=val_start h
 have v2:=val_start h'
 have v2:Val (d.o ps qs) 0 d.m.pz d.m.pl (List.replicate d.qs.length []):=by rw [← hql]; exact v2
 have hcl:=clone_all (List.replicate d.qs.length []) (by simp; omega) (fun i hi=>by rw [rd_rep (t:=rty) _ _ i (by simpa using hi)]; exact Nat.zero_le _) d.m.pz d.m.pl 0
 rw [hql]
 refine Z2.of (g174.F_of _) (g174.F_of _) (Z2.bE (check_val h hg v1) (check_val h' hg' v2) (Z2.neg (by decide) (by decide) (Z2.bE hcl hcl ?_)))
 exact loop d.n.sl.toNat 0 _ _ _ [] (by omega) v1 v2 (by show (0:Int)≤0; omega) (fun v hv=>by cases hv)
end Go.Proofs.RPn
namespace Go.Proofs.RPn
open Go Go.Eng
theorem plans_is:g177.F ()=some true:=g177.ev_is (k:=300) (by decide +kernel)
end Go.Proofs.RPn
namespace Go.Proofs.RPn
open Go Go.Eng
set_option linter.unusedVariables false
theorem desk_in {n:Nt} {m:Mt} {ps:List (ByteArray×Int)} {qs:List QT} (hn:n.Ok 64) (hm:m.Ok) (hp:PsOk ps) (hq:QsOk (ps.length:Int) qs) :
  Y (g146.F (n.w (m.w (ps,qs)))) fun r=>∃ sh am,r=n.v (m.w ((0:Int),n.cl,ps,qs,sh,am))∧(⟨n,m,ps,qs,sh,am⟩:Dk).G:=by
 have hsl:=hn.sl
 have hcn:=hn.cn
 have hl:=hq.l
 have hpl:=hp.l
 obtain ⟨S,hS⟩:∃ S:Nat,(S:Int)=n.sl + 1:=⟨(n.sl + 1).toNat,by omega⟩
 have loop (c:Nat):∀ (i:Nat) (sh:List (List Int)) (am:List (List (Int×Int))),i + c=qs.length→sh.length=qs.length→(∀ j:Nat,j < i→∃ q:Rq,q.Ok∧rd qty qs (j:Int)=q.t∧Codes n q (rd rty sh (j:Int)))→am.length=qs.length→(∀ j:Nat,j < qs.length→(rd aty am (j:Int)).length=if j < i then S else 0) →
   Y (g146.D0 ((qs.length:Int),(i:Int),ds n m (qs,n.cl,[],[],[],[],[],ps,sh,am))) fun r=>∃ sh am,r=n.v (m.w ((0:Int),n.cl,ps,qs,sh,am))∧(⟨n,m,ps,qs,sh,am⟩:Dk).G:=by
  induction c with
  | zero=>
   intro i sh am e h1 h2 h3 h5
   refine Y.of (g146.D0_of _) (Y.nd (by omega) (Y.some ⟨sh,am,rfl,⟨hn,hm,h1,fun j hj=>h2 j (by show j < i; have:j < qs.length:=hj; omega),h3,fun j hj=>?_⟩⟩))
   have hj':j < qs.length:=hj
   have:=h5 j hj'
   rw [if_pos (by omega)] at this
   show ((rd aty am (j:Int)).length:Int)=n.sl + 1
   rw [this,hS]
  | succ c ih=>
   intro i sh am e h1 h2 h3 h5
   obtain ⟨q,g1,g2,_⟩:=hq.q i (by omega)
   obtain ⟨l,e1,e2⟩:=slots_spec hn (by omega) g1
   refine Y.of (g146.D0_of _) (Y.pd (by omega) (Y.pd (by omega) ?_))
   rw [show rd ty0 qs (i:Int)=q.t from g2]
   refine Y.bE e1 (Y.pd (by omega) ?_)
   dsimp only
   rw [w64 (x:=n.sl + 1) (by omega) (by omega)]
   refine desk_inner hn qs.length i (by omega) hl (sh.set i l) _ S hS (fun am' k1 k2=>?_) S 0 am (by omega) h3 fun j hj=>?_
   ·have:=ih (i + 1) (sh.set i l) am' (by omega) (by rw [List.length_set,h1]) (fun j hj=>?_) k1 k2
    ·rw [show ((i + 1:Nat):Int)=(i:Int) + 1 by omega] at this
     exact this
    ·rw [rd_set (t:=rty) sh i j l (by omega)]
     by_cases c1:j=i
     ·rw [if_pos c1,c1]
      exact ⟨q,g1,g2,e2⟩
     ·rw [if_neg c1]
      exact h2 j (by omega)
   ·rw [h5 j hj]
    by_cases c1:j < i
    ·rw [if_pos c1,if_pos c1]
    ·rw [if_neg c1,if_neg c1]
     split <;> rfl
 have hk:g43.F (n.w (m.w (ps,qs)))=some 0:=Y.is (Y.of (g43.F_of _) (Y.bE (night_ok hn (by omega)) (Y.np rfl (Y.bE (mount_ok hm) (Y.np rfl (Y.bE (check_ok hp hq) (Y.some rfl)))))))
 refine Y.of (g146.F_of _) (Y.bE hk (Y.np rfl (Y.bE (g44.clone_is n.cl (by omega)) (Y.bE (g45.clone_is ps (by omega)) (Y.bE (g46.clone_is qs (by omega)) (Y.pd (by omega) (Y.pd (by omega) ?_)))))))
 refine loop qs.length 0 _ _ (by omega) (by simp) (fun j hj=>absurd hj (by omega)) (by simp) fun j hj=>?_
 rw [rd_rep (t:=aty) _ _ j (by omega),if_neg (by omega)]
 rfl
def MadeR (n:Nt) (m:Mt) (ps:List (ByteArray×Int)) (qs:List QT) (vs:List VT):Prop:=(vs.length:Int)≤64∧∃ sh am,g146.F (n.w (m.w (ps,qs)))=some (n.v (m.w ((0:Int),n.cl,ps,qs,sh,am)))∧(⟨n,m,ps,qs,sh,am⟩:Dk).G∧Run ⟨n,m,ps,qs,sh,am⟩ 0 m.pz m.pl (List.replicate qs.length []) vs
theorem make_run {n:Nt} {m:Mt} {ps:List (ByteArray×Int)} {qs:List QT} (hn:n.Ok 64) (hm:m.Ok) (hp:PsOk ps) (hq:QsOk (ps.length:Int) qs) :
  Y (g176.F (n.w (m.w (ps,qs)))) fun r=>r.1=0∧MadeR n m ps qs r.2:=by
 have hl:=hq.l
 have hf:Y (g175.F (n.w (m.w (ps,qs,0,m.pz,m.pl,List.replicate qs.length [])))) fun r=>r.1=0∧MadeR n m ps qs r.2:=by
  obtain ⟨r,er,sh,am,rfl,hd⟩:=desk_in hn hm hp hq
  have hsl:=hn.sl
  refine Y.of (g175.F_of _) (Y.bE er (Y.np rfl (Y.bnd _ (from_run hd (pg_ok hp hq) (val_start hd)) ?_)))
  rintro r ⟨vs,rfl,h1,h2⟩
  have h2:(vs.length:Int)≤n.sl - 0:=h2
  exact Y.some ⟨rfl,by show (vs.length:Int)≤64; omega,sh,am,er,hd,h1⟩
 refine Y.of (g176.F_of _) (Y.bE (start_spec m ps qs (by omega)) (Y.bnd _ hf fun r hr=>Y.some hr))
@[reducible] def z26 {β:Type} (b:β):=((0:Int),(0:Int),(0:Int),(0:Int),(0:Int),(0:Int),(0:Int),(0:Int),(0:Int),(0:Int),(0:Int),(0:Int),(0:Int),(0:Int),(0:Int),(0:Int),(0:Int),(0:Int),(0:Int),(0:Int),(0:Int),(0:Int),(0:Int),(0:Int),(0:Int),(0:Int),b)
end Go.Proofs.RPn
namespace Go.Proofs.RPn
open Go Go.Eng
set_option linter.unusedVariables false
abbrev vtyN:Ty:=.pair (.int .i64) (.pair (.int .i64) (.pair (.int .i64) (.int .i64)))
structure Other (z:Int) (ps:List (ByteArray×Int)) (qs:List QT) (ps':List (ByteArray×Int)) (qs':List QT):Prop where
 p:PsOk ps'
 q:QsOk (ps'.length:Int) qs'
 s:Shf z qs qs'
 l:ps'.length=ps.length
 w:∀ i:Nat,i < ps.length→(rd pty ps' (i:Int)).2=(rd pty ps (i:Int)).2
theorem Other.like {z:Int} {d:Dk} {ps:List (ByteArray×Int)} {qs:List QT} (h:Other z d.ps d.qs ps qs):Like d (d.o ps qs):=by
 refine ⟨rfl,rfl,rfl,rfl,h.l,h.s.1,fun i h0 h1=>?_,fun i hi=>?_⟩
 ·obtain ⟨n,rfl⟩:∃ n:Nat,i=n:=⟨i.toNat,by omega⟩
  exact h.w n (by omega)
 ·obtain ⟨q,_,q2,_,q4⟩:=h.s.2 i hi
  exact ⟨q,q.id + z,q2,q4⟩
theorem make_par {n:Nt} {m:Mt} {ps ps':List (ByteArray×Int)} {qs qs':List QT} {z:Int} (hn:n.Ok 64) (hm:m.Ok) (hp:PsOk ps) (hq:QsOk (ps.length:Int) qs) (ho:Other z ps qs ps' qs') :
  Z2 (g176.F (n.w (m.w (ps,qs)))) (g176.F (n.w (m.w (ps',qs')))) fun r r'=>∃ vs:List VT,r=(0,vs)∧r'=(0,vs.map (shv z))∧(vs.length:Int)≤64∧∀ v ∈ vs,0≤v.1∧v.1≤1000000:=by
 have hl:=hq.l
 have hl':=ho.q.l
 obtain ⟨r,er,sh,am,rfl,hd,ha⟩:=desk_a hn hm hp hq
 obtain ⟨r',er',sh',am',rfl,hd',ha'⟩:=desk_a hn hm ho.p ho.q
 obtain ⟨rfl,rfl⟩:=desks_same ho.s hd hd' ha ha'
 have hk:Like ⟨n,m,ps,qs,sh',am'⟩ (Dk.o ⟨n,m,ps,qs,sh',am'⟩ ps' qs'):=Other.like (d:=⟨n,m,ps,qs,sh',am'⟩) ho
 have hf:=from_par (d:=⟨n,m,ps,qs,sh',am'⟩) hk ho.s hd hd' (pg_ok hp hq) (pg_ok ho.p ho.q)
 have hfr:Z2 (g175.F (n.w (m.w (ps,qs,0,m.pz,m.pl,List.replicate qs.length [])))) (g175.F (n.w (m.w (ps',qs',0,m.pz,m.pl,List.replicate qs'.length [])))) fun r r'=>∃ vs:List VT,r=(0,vs)∧r'=(0,vs.map (shv z))∧(vs.length:Int)≤64∧∀ v ∈ vs,0≤v.1∧v.1≤1000000:=by
  refine Z2.of (g175.F_of _) (g175.F_of _) (Z2.bE er er' (Z2.neg rfl rfl (Z2.bnd hf ?_)))
  rintro r r' ⟨vs,rfl,rfl,h1,h2⟩
  exact Z2.some ⟨vs,rfl,rfl,h1,h2⟩
 refine Z2.of (g176.F_of _) (g176.F_of _) (Z2.bE (start_spec m ps qs (by omega)) (start_spec m ps' qs' (by omega)) (Z2.bnd hfr ?_))
 rintro r r' ⟨vs,rfl,rfl,h1,h2⟩
 exact Z2.some ⟨vs,rfl,rfl,h1,h2⟩
theorem made_n (sl nr:Int) (hs:1≤sl∧sl≤64) (hr:0≤nr∧nr≤6) (L:List Int) :
  Y (g178.F (sl,nr,z26 (L,0,[],[],[],[]))) fun r=>∃ (n:Nt) (m:Mt) (at':Int) (ps:List (ByteArray×Int)) (qs:List QT) (vs:List VT),r=(true,n.v (m.w (L,at',[],[],[],[],n.cl,ps,qs,vs)))∧n.Ok 64∧m.Ok∧PsOk ps∧QsOk (ps.length:Int) qs∧(∀ i:Nat,i < qs.length→(rd qty qs (i:Int)).1≤1000)∧g176.F (n.w (m.w (ps,qs)))=some (0,vs):=by
 refine Y.of (g178.F_of _) (Y.night sl hs L fun n at1 hn a0 a1=>?_)
 refine Y.mount L at1 a0 (by omega) fun m at2 hm b0 b1=>?_
 refine Y.programmeB hn nr hr L at2 (by omega) (by omega) fun ps qs at3 hp hq hsm c0 c1=>?_
 have hn':n.Ok 64:=⟨⟨hn.sl.1,by have:=hn.sl; omega⟩,hn.lng,hn.beg,hn.lat,hn.lon,hn.sat,hn.ang,hn.rate,hn.sun,hn.moon,hn.dusk,hn.cn,hn.cl⟩
 obtain ⟨⟨e,vs⟩,er,h1,_⟩:=make_run hn' hm hp hq
 have h1:e=0:=h1
 subst h1
 exact Y.bE er (Y.bE plans_is (Y.some ⟨n,m,at3,ps,qs,vs,rfl,hn',hm,hp,hq,hsm,er⟩))
theorem nm_x (j:Nat) (hj:j≤2) (c:Int) (hc:c=48 + j):(∃ h t,Nm (bs3++bytesStr [c]) h t)∧(bs3++bytesStr [c]).data.toList.getLast? = some (UInt8.ofNat (48 + j)):=by
 have hcn:c.toNat=48 + j:=by omega
 have e:(bs3++bytesStr [c]).data.toList=120::[UInt8.ofNat (48 + j)]:=by
  rw [app_list,bytes_list,List.map_singleton,hcn]
  rfl
 refine ⟨⟨120,[UInt8.ofNat (48 + j)],e,by decide,fun x hx=>?_,by simp⟩,by rw [e]; rfl⟩
 rw [List.mem_singleton] at hx
 subst hx
 unfold Okc
 rcases (show j=0∨j=1∨j=2 by omega) with g | g | g <;> rw [g] <;> decide
theorem cmp_loop {n:Nt} {m:Mt} {ps:List (ByteArray×Int)} {qs:List QT} {z:Int} (z0:0≤z) (z1:z≤1000) (vs:List VT) (hl:(vs.length:Int)≤64) (hv:∀ v ∈ vs,0≤v.1∧v.1≤1000000) (c:Nat) :
  ∀ j:Nat,j + c=vs.length→Y (g180.D2 (z,(vs.length:Int),(j:Int),n.v (m.w (vs.map (shv z),n.cl,ps,qs,vs)))) fun r=>r=true:=by
 induction c with
 | zero=>exact fun j e=>Y.of (g180.D2_of _) (Y.nd (by omega) (Y.some rfl))
 | succ c ih=>
  intro j e
  have hj:j < vs.length:=by omega
  have h1:rd vtyN vs (j:Int)=vs[j]:=rd_nat (t:=vtyN) vs j hj
  have h2:rd vtyN (vs.map (shv z)) (j:Int)=shv z vs[j]:=by rw [rd_nat (t:=vtyN) _ j (by simpa using hj)]; simp
  have hb:=hv vs[j] (List.getElem_mem hj)
  generalize vs[j]=v at h1 h2 hb
  refine Y.of (g180.D2_of _) (Y.pd (by omega) (Y.pd (by rw [List.length_map]; omega) (Y.pd (by omega) (Y.neg ?_ ?_))))
  ·rw [show rd (.pair (.int .i64) (.pair (.int .i64) (.pair (.int .i64) (.int .i64)))) vs (j:Int)=v from h1,show rd (.pair (.int .i64) (.pair (.int .i64) (.pair (.int .i64) (.int .i64)))) (vs.map (shv z)) (j:Int)=shv z v from h2]
   have ew:wrap .i64 ((shv z v).1 - z)=v.1:=by
    show wrap .i64 (v.1 + z - z)=v.1
    rw [w64 (by omega) (by omega)]
    omega
   rw [ew]
   show (!(decide (v.1=v.1) && (decide (v.2.1=v.2.1) && (decide (v.2.2.1=v.2.2.1) && (decide (v.2.2.2=v.2.2.2) && true)))))=false
   simp
  ·rw [w64 (x:=(j:Int) + 1) (by omega) (by omega)]
   have:=ih (j + 1) (by omega)
   rw [show ((j + 1:Nat):Int)=(j:Int) + 1 by omega] at this
   exact this
theorem names_loop {n:Nt} {m:Mt} {ps:List (ByteArray×Int)} {qs qs':List QT} {z:Int} {vs:List VT} (z0:0≤z) (z1:z≤1000) (hn:n.Ok 64) (hm:m.Ok) (hp:PsOk ps) (hq:QsOk (ps.length:Int) qs) (hmk:g176.F (n.w (m.w (ps,qs)))=some (0,vs)) (hq':QsOk (ps.length:Int) qs') (hs:Shf z qs qs') (c:Nat) :
  ∀ (j:Nat) (ps':List (ByteArray×Int)),j + c=ps.length→ps'.length=ps.length→(∀ i:Nat,i < ps.length→rd pty ps' (i:Int)=if i < j then (bs3++bytesStr [48 + (i:Int)],(rd pty ps (i:Int)).2) else rd pty ps (i:Int))→Y (g180.D1 (z,(ps.length:Int),(j:Int),n.v (m.w (n.cl,ps,qs,vs,ps',qs')))) fun r=>r=true:=by
 have hpl:=hp.l
 induction c with
 | zero=>
  intro j ps' e hl h
  have hps:PsOk ps':=by
   refine ⟨by omega,fun i hi=>?_⟩
   rw [h i (by omega),if_pos (by omega)]
   obtain ⟨a,b⟩:=nm_x i (by omega) (48 + (i:Int)) (by omega)
   obtain ⟨_,_,s0,s1⟩:=hp.p i (by omega)
   exact ⟨a,b,s0,s1⟩
  have ho:Other z ps qs ps' qs':=⟨hps,by rw [hl]; exact hq',hs,hl,fun i hi=>by rw [h i hi,if_pos (by omega)]⟩
  obtain ⟨r,r',e1,e2,vs2,rfl,rfl,h1,h2⟩:=make_par hn hm hp hq ho
  rw [hmk] at e1
  have e1:=Option.some.inj e1
  simp only [Prod.mk.injEq] at e1
  have e1:=e1.2
  subst e1
  refine Y.of (g180.D1_of _) (Y.nd (by omega) (Y.bE e2 (Y.neg ?_ ?_)))
  ·show (!decide ((0:Int)=0) || !decide (((vs.map (shv z)).length:Int)=(vs.length:Int)))=false
   rw [List.length_map]
   simp
  ·have:=cmp_loop (n:=n) (m:=m) (ps:=ps) (qs:=qs) z0 z1 vs h1 h2 vs.length 0 (Nat.zero_add _)
   rw [show (vs.length:Int)=((vs.map (shv z)).length:Int) by rw [List.length_map]] at this
   exact this
 | succ c ih=>
  intro j ps' e hl h
  have ew:wrap .u8 (wrap .i64 (48 + (j:Int)))=48 + (j:Int):=by
   rw [w64 (by omega) (by omega),wr_u8]
   omega
  refine Y.of (g180.D1_of _) (Y.pd (by omega) ?_)
  rw [ew]
  have hsz:(bytesStr [48 + (j:Int)]).size=1:=by rw [size_list,bytes_list]; rfl
  refine Y.pd (by rw [hsz]; decide) (Y.pd (by omega) ?_)
  rw [w64 (x:=(j:Int) + 1) (by omega) (by omega)]
  have:=ih (j + 1) (ps'.set j (bs3++bytesStr [48 + (j:Int)],(rd pty ps' (j:Int)).2)) (by omega) (by rw [List.length_set]; exact hl) fun i hi=>by
   rw [rd_set (t:=pty) ps' j i _ (by omega)]
   by_cases c1:i=j
   ·rw [if_pos c1,if_pos (by omega),c1,h j (by omega),if_neg (by omega)]
   ·rw [if_neg c1,h i hi]
    by_cases c2:i < j
    ·rw [if_pos c2,if_pos (by omega)]
    ·rw [if_neg c2,if_neg (by omega)]
  rw [show ((j + 1:Nat):Int)=(j:Int) + 1 by omega] at this
  exact this
theorem ids_loop {n:Nt} {m:Mt} {ps:List (ByteArray×Int)} {qs:List QT} {z:Int} {vs:List VT} (z0:0≤z) (z1:z≤1000) (hn:n.Ok 64) (hm:m.Ok) (hp:PsOk ps) (hq:QsOk (ps.length:Int) qs) (hsm:∀ i:Nat,i < qs.length→(rd qty qs (i:Int)).1≤1000) (hmk:g176.F (n.w (m.w (ps,qs)))=some (0,vs)) (c:Nat) :
  ∀ (j:Nat) (qs':List QT),j + c=qs.length→qs'.length=qs.length→(∀ i:Nat,i < qs.length→rd qty qs' (i:Int)=if i < j then ((rd qty qs (i:Int)).1 + z,(rd qty qs (i:Int)).2) else rd qty qs (i:Int))→Y (g180.D0 (z,(qs.length:Int),(j:Int),n.v (m.w (n.cl,ps,qs,vs,ps,qs')))) fun r=>r=true:=by
 have hql:=hq.l
 induction c with
 | zero=>
  intro j qs' e hl h
  have hs:Shf z qs qs':=⟨hl,fun i hi=>by
   obtain ⟨q,q1,q2,_⟩:=hq.q i hi
   have sm:=hsm i hi
   rw [q2] at sm
   have sm:q.id≤1000:=sm
   have hid:=q1.id
   refine ⟨q,q1,q2,⟨⟨(by show 1≤q.id + z; omega),(by show q.id + z≤999999; omega)⟩,q1.v,q1.len,q1.vis,q1.one,q1.more,q1.height,q1.moon,q1.cloud,q1.weight⟩,?_⟩
   rw [h i hi,if_pos (by omega),q2]⟩
  have hq':QsOk (ps.length:Int) qs':=by
   refine ⟨by omega,fun i hi=>?_,fun a b hab hb=>?_⟩
   ·obtain ⟨q,_,q2,q3,q4⟩:=hs.2 i (by omega)
    obtain ⟨p,_,p2,p3,p4⟩:=hq.q i (by omega)
    have:=Rq.t_inj (p2.symm.trans q2)
    subst this
    exact ⟨_,q3,q4,p3,p4⟩
   ·rw [h a (by omega),h b (by omega),if_pos (by omega),if_pos (by omega)]
    have:=hq.inc a b hab (by omega)
    exact Int.add_lt_add_right this z
  refine Y.of (g180.D0_of _) (Y.nd (by omega) ?_)
  exact names_loop z0 z1 hn hm hp hq hmk hq' hs ps.length 0 ps (Nat.zero_add _) rfl fun i hi=>by rw [if_neg (by omega)]
 | succ c ih=>
  intro j qs' e hl h
  obtain ⟨q,q1,q2,_⟩:=hq.q j (by omega)
  have hid:=q1.id
  have hr:rd qty qs' (j:Int)=q.t:=by rw [h j (by omega),if_neg (by omega),q2]
  refine Y.of (g180.D0_of _) (Y.pd (by omega) (Y.pd (by omega) (Y.pd (by omega) ?_)))
  rw [show rd ty0 qs' (j:Int)=q.t from hr,w64 (x:=(j:Int) + 1) (by omega) (by omega),show wrap .i64 (q.t.1 + z)=q.id + z from w64 (by show _≤q.id + z; omega) (by show q.id + z≤_; omega)]
  have:=ih (j + 1) (qs'.set j (Rq.t { q with id:=q.id + z })) (by omega) (by rw [List.length_set]; exact hl) fun i hi=>by
   rw [rd_set (t:=qty) qs' j i _ (by omega)]
   by_cases c1:i=j
   ·rw [if_pos c1,if_pos (by omega),c1,q2]
   ·rw [if_neg c1,h i hi]
    by_cases c2:i < j
    ·rw [if_pos c2,if_pos (by omega)]
    ·rw [if_neg c2,if_neg (by omega)]
  rw [show ((j + 1:Nat):Int)=(j:Int) + 1 by omega] at this
  exact this
theorem planNames (L:List Int) (a:Int):Y (g180.F (L,a)) fun r=>r=true:=by
 refine Y.of (g180.F_of _) (Y.bnd _ (made_n 16 5 (by omega) (by omega) L) ?_)
 rintro r ⟨n,m,at',ps,qs,vs,rfl,hn,hm,hp,hq,hsm,hmk⟩
 have hpl:=hp.l
 have hql:=hq.l
 have hb:=below_spec a 1000 (by omega) (by omega)
 obtain ⟨b0,b1⟩:=below_range a 1000 (by omega)
 have hcp:g179.F (ps,qs)=some (ps,qs):=Y.is (Y.of (g179.F_of _) (Y.bE (g45.clone_is ps (by omega)) (Y.bE (g46.clone_is qs (by omega)) (Y.some rfl))))
 refine Y.neg rfl (Y.bE hb (Y.bE hcp ?_))
 exact ids_loop b0 (by omega) hn hm hp hq hsm hmk qs.length 0 qs (Nat.zero_add _) rfl fun i hi=>by rw [if_neg (by omega)]
end Go.Proofs.RPn
