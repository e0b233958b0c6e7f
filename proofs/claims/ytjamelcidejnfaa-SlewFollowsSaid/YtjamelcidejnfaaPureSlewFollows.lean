import Derived.Test.YtjamelcidejnfaaRSl1
set_option linter.unusedVariables false
namespace Go.Proofs.RSl
open Go Go.Eng
theorem below_spec (x n:Int) (h1:1≤n) (h2:n≤4611686018427387904):g9.F (x,n)=some (x % n):=by
 apply Y.is
 refine Y.of (g9.F_of _) (Y.nd (by omega) (Y.np' (by omega) (Y.ite (fun c=>?_) (fun c=>?_))))
 ·refine Y.of (g9.D0_of _) (Y.some ?_)
  rw [tmod_neg_add h1 c]
  exact w64 (by have:=Int.emod_nonneg x (b:=n) (by omega); omega) (by have:=Int.emod_lt_of_pos x (b:=n) (by omega); omega)
 ·exact Y.of (g9.D0_of _) (Y.some (tmod_of_nonneg h1 c))
theorem below_range (x n:Int) (h1:1≤n):0≤x % n∧x % n < n:=⟨Int.emod_nonneg x (by omega),Int.emod_lt_of_pos x (by omega)⟩
theorem next_spec (L:List Int) (at_ n:Int) (ha:0≤at_) (hb:at_≤4611686018427387904) (h1:1≤n) (h2:n≤4611686018427387904) :
  Y (g10.F (n,L,at_)) fun r=>∃ x,r=(x,L,at_ + 1)∧0≤x∧x < n:=by
 refine Y.of (g10.F_of _) ?_
 dsimp only [g10.d]
 rw [w64 (x:=at_ + 1) (by omega) (by omega),w64 (x:=at_ + 1 - 1) (by omega) (by omega)]
 refine Y.ite (fun c=>?_) (fun c=>?_)
 ·refine Y.bE (below_spec _ _ h1 h2) (Y.some ⟨_,rfl,below_range _ _ h1⟩)
 ·rw [show at_ + 1 - 1=at_ by omega]
  have e:Int.tmod at_ (L.length:Int)=at_ % (L.length:Int):=Int.tmod_eq_emod_of_nonneg ha
  have e1:=Int.emod_nonneg at_ (b:=(L.length:Int)) c
  have e2:=Int.emod_lt_of_pos at_ (b:=(L.length:Int)) (by omega)
  rw [e]
  refine Y.np' c (Y.np' c (Y.pd ⟨e1,e2⟩ (Y.bE (below_spec _ 1073741824 (by omega) (by omega)) (Y.bE (below_spec _ _ h1 h2) (Y.some ⟨_,rfl,below_range _ _ h1⟩)))))
theorem Y.next {β:Type} {f:g10.R→Option β} {Q:β→Prop} (L:List Int) (at_ n:Int) (ha:0≤at_) (hb:at_≤4611686018427387904) (h1:1≤n) (h2:n≤4611686018427387904)
  (k:∀ r,0≤r→r < n→Y (f (r,L,at_ + 1)) Q):Y (bnd (g10.F (n,L,at_)) f) Q:=by
 obtain ⟨r,hr,x,rfl,h3,h4⟩:=next_spec L at_ n ha hb h1 h2
 exact Y.bE hr (k x h3 h4)
end Go.Proofs.RSl
namespace Go.Eng
open Go
def Tot {α:Type} (o:Option α):Prop:=∃ r,o=some r
variable {α β:Type}
theorem Tot.some {r:α}:Tot (Option.some r):=⟨r,rfl⟩
theorem Tot.of {d D:Option α} (h:∀ {r},d=Option.some r→D=Option.some r) (k:Tot d):Tot D:=by
 obtain ⟨r,hr⟩:=k
 exact ⟨r,h hr⟩
theorem Tot.br {c:Bool} {a b:Option α} (h:Tot a) (k:Tot b):Tot (br c a b):=by
 cases c with
 | true=>exact h
 | false=>exact k
theorem Tot.bnd {o:Option β} {k:β→Option α} (h:Tot o) (g:∀ x,Tot (k x)):Tot (bnd o k):=by
 obtain ⟨x,rfl⟩:=h
 exact g x
theorem Tot.y {o:Option α} (h:Tot o):Y o fun _=>True:=by
 obtain ⟨r,hr⟩:=h
 exact ⟨r,hr,trivial⟩
theorem Y.tot {o:Option α} (h:Y o fun _=>True):Tot o:=by
 obtain ⟨r,hr,_⟩:=h
 exact ⟨r,hr⟩
theorem Y.to {o:Option α} {Q:α→Prop} (h:Y o Q):Tot o:=by
 obtain ⟨r,hr,_⟩:=h
 exact ⟨r,hr⟩
end Go.Eng
namespace Go.Proofs.RSl
set_option linter.unusedVariables false
open Go Go.Eng
theorem num_size_tot (v:g25.A):Tot (g25.F v):=Tot.of (g25.F_of v) ((fun v0=>(Tot.br Tot.some Tot.some):∀ v,Tot (g25.d v)) v)
theorem num_Gcd_tot_d0 (n:Nat):∀ a b:Int,b≤n→Tot (g26.D0 (a,b)):=by
 induction n with
 | zero=>exact fun a b h=>Y.tot (Y.of (g26.D0_of _) (Y.nd (by omega) (Y.some trivial)))
 | succ n ih=>
  intro a b h
  refine Y.tot (Y.of (g26.D0_of _) (Y.ite (fun c=>Y.nn (by omega) (Tot.y (ih _ _ ?_))) fun _=>Y.some trivial))
  have:=Int.tmod_lt_of_pos a c
  omega
theorem num_Gcd_tot (v:g26.A):Tot (g26.F v):=Tot.of (g26.F_of v) (Tot.bnd (num_size_tot _) fun _=>Tot.bnd (num_size_tot _) fun _=>num_Gcd_tot_d0 _ _ _ (Int.self_le_toNat _))
theorem frac_Check_tot (v:g27.A):Tot (g27.F v):=Tot.of (g27.F_of v) ((fun (v0,v1)=>(Tot.br Tot.some (Tot.bnd (num_Gcd_tot _) fun _=>(Tot.br Tot.some Tot.some))):∀ v,Tot (g27.d g26.F v)) v)
theorem num_CeilDiv_tot_d0 (v:g28.T0):Tot (g28.D0 v):=Tot.of (g28.D0_of v) Tot.some
theorem num_CeilDiv_tot (v:g28.A):Tot (g28.F v):=Tot.of (g28.F_of v) (Y.tot (Y.ite (fun _=>Y.some trivial) fun c=>Y.nn (by omega) (Y.nn (by omega) (Tot.y (Tot.br (num_CeilDiv_tot_d0 _) (num_CeilDiv_tot_d0 _))))))
theorem frac_rounded_tot (v:g29.A):Tot (g29.F v):=Tot.of (g29.F_of v) ((fun (v0,v1)=>(Tot.bnd (frac_Check_tot _) fun _=>(Tot.br Tot.some (Tot.bnd (num_CeilDiv_tot _) fun _=>Tot.some))):∀ v,Tot (g29.d g27.F g28.F v)) v)
theorem frac_Ceil_tot (v:g30.A):Tot (g30.F v):=Tot.of (g30.F_of v) ((fun (v0,v1)=>(Tot.bnd (frac_rounded_tot _) fun _=>Tot.some):∀ v,Tot (g30.d g29.F v)) v)
theorem scale_CheckRate_tot (v:g31.A):Tot (g31.F v):=Tot.of (g31.F_of v) ((fun (v0,v1,v2,v3)=>(Tot.bnd (frac_Check_tot _) fun _=>(Tot.br Tot.some (Tot.br Tot.some (Tot.br (Tot.bnd (frac_Ceil_tot _) fun _=>(Tot.br Tot.some Tot.some)) Tot.some)))):∀ v,Tot (g31.d g27.F g30.F v)) v)
theorem bits_Mul64_tot (v:g34.A):Tot (g34.F v):=Tot.of (g34.F_of v) (Y.tot (Y.pd (by decide) (Y.pd (by decide) (Y.pd (by decide) (Y.pd (by decide) (Y.pd (by decide) (Y.some trivial)))))))
theorem bits_Add64_spec (a b c:Int) (h1:0≤a∧a < 18446744073709551616) (h2:0≤b∧b≤1) (h3:0≤c∧c≤1):Y (g35.F (a,b,c)) fun r=>0≤r.2∧r.2≤1:=by
 refine Y.of (g35.F_of _) ?_
 show Y (add64D (a,b,c)) _
 refine Y.pos (by simp; omega) (Y.some ?_)
 show 0≤(a + b + c) / 18446744073709551616∧(a + b + c) / 18446744073709551616≤1
 omega
theorem bXor_u64 (a b:Int):0≤bXor .u64 a b∧bXor .u64 a b < 18446744073709551616:=by
 unfold bXor
 show 0≤wrap .u64 _∧wrap .u64 _ < _
 rw [wr_u64]
 omega
theorem num_Wide_Neg_tot (v:g36.A):Tot (g36.F v):=Tot.of (g36.F_of v) (Y.tot (Y.bnd _ (bits_Add64_spec _ 1 0 (bXor_u64 _ _) (by decide) (by decide)) fun r h=>Y.bnd _ (bits_Add64_spec _ 0 _ (bXor_u64 _ _) (by decide) h) fun _ _=>Y.some trivial))
theorem num_Product_tot (v:g37.A):Tot (g37.F v):=Tot.of (g37.F_of v) ((fun (v0,v1)=>(Tot.bnd (num_size_tot _) fun _=>(Tot.bnd (num_size_tot _) fun _=>(Tot.bnd (bits_Mul64_tot _) fun _=>(Tot.br (Tot.bnd (num_Wide_Neg_tot _) fun _=>Tot.some) Tot.some)))):∀ v,Tot (g37.d g25.F g34.F g36.F v)) v)
theorem len8_spec (n:Nat) (h:n < 256):0≤wrap .i64 ((bs0.data.getD n 0).toNat:Int)∧wrap .i64 ((bs0.data.getD n 0).toNat:Int)≤8∧n < 2 ^ (bs0.data.getD n 0).toNat∧(0 < n→2 ^ ((bs0.data.getD n 0).toNat - 1)≤n∧1≤(bs0.data.getD n 0).toNat):=by
 have:∀ n:Fin 256,0≤wrap .i64 ((bs0.data.getD n.1 0).toNat:Int)∧wrap .i64 ((bs0.data.getD n.1 0).toNat:Int)≤8∧n.1 < 2 ^ (bs0.data.getD n.1 0).toNat∧(0 < n.1→2 ^ ((bs0.data.getD n.1 0).toNat - 1)≤n.1∧1≤(bs0.data.getD n.1 0).toNat):=by decide +kernel
 exact this ⟨n,h⟩
theorem shr_nat (k:IntKind) (y n:Nat) (h:n≤k.bits):shr k (y:Int) (n:Int)=((y / 2 ^ n:Nat):Int):=by
 unfold shr
 rw [Int.toNat_natCast,Nat.min_eq_left h,Int.fdiv_eq_ediv_of_nonneg _ (Int.le_of_lt (Int.pow_pos (by decide))),Int.natCast_ediv,Int.natCast_pow]
 rfl
theorem bs0_size:(bs0.size:Int)=256:=by decide +kernel
def IsLen (y l:Nat):Prop:=y < 2 ^ l∧(0 < y→1≤l∧2 ^ (l - 1)≤y)
theorem IsLen.up {y l:Nat} (n:Nat) (hy:0 < y / 2 ^ n) (h:IsLen (y / 2 ^ n) l):IsLen y (l + n):=by
 obtain ⟨h1,h2⟩:=h
 obtain ⟨h3,h4⟩:=h2 hy
 have hp:0 < 2 ^ n:=Nat.two_pow_pos _
 refine ⟨?_,fun _=>⟨by omega,?_⟩⟩
 ·rw [Nat.pow_add]
  exact (Nat.div_lt_iff_lt_mul hp).mp h1
 ·rw [show l + n - 1=(l - 1) + n by omega,Nat.pow_add]
  exact (Nat.le_div_iff_mul_le hp).mp h4
theorem bits_Len64_d2 (y:Nat) (hy:y < 256) (m:Int) (m0:0≤m) (m1:m≤56):Y (g17.D2 ((y:Int),m)) fun r=>∃ l:Nat,@Eq Int r (m + l)∧l≤8∧IsLen y l:=by
 have e:wrap .u8 (y:Int)=y:=by
  rw [wr_u8]
  omega
 obtain ⟨h1,h2,h3,h4⟩:=len8_spec y hy
 refine Y.of (g17.D2_of _) (Y.pd (by rw [e,bs0_size]; omega) (Y.some ?_))
 rw [e,Int.toNat_natCast]
 have hb:(bs0.data.getD y 0).toNat < 256:=UInt8.toNat_lt _
 have e2:wrap .i64 ((bs0.data.getD y 0).toNat:Int)=((bs0.data.getD y 0).toNat:Int):=w64 (by omega) (by omega)
 rw [e2] at h1 h2
 refine ⟨(bs0.data.getD y 0).toNat,?_,by omega,h3,fun k=>⟨(h4 k).2,(h4 k).1⟩⟩
 show wrap .i64 (m + wrap .i64 ((bs0.data.getD y 0).toNat:Int))=_
 rw [e2,w64 (by omega) (by omega)]
theorem bits_Len64_d1 (y:Nat) (hy:y < 65536) (m:Int) (m0:0≤m) (m1:m≤48):Y (g17.D1 ((y:Int),m)) fun r=>∃ l:Nat,@Eq Int r (m + l)∧l≤16∧IsLen y l:=by
 refine Y.of (g17.D1_of _) (Y.ite (fun c=>Y.pd (by decide) ?_) fun c=>Y.mono (bits_Len64_d2 y (by omega) m m0 (by omega)) fun r h=>(by obtain ⟨l,h1,h2,h3⟩:=h; exact ⟨l,h1,by omega,h3⟩))
 have e:=shr_nat .u64 y 8 (by decide)
 rw [show ((8:Nat):Int)=8 from rfl] at e
 rw [e,w64 (x:=m + 8) (by omega) (by omega)]
 refine Y.mono (bits_Len64_d2 (y / 2 ^ 8) (by omega) (m + 8) (by omega) (by omega)) fun r h=>(by obtain ⟨l,h1,h2,h3⟩:=h; exact ⟨l + 8,by omega,by omega,h3.up 8 (by omega)⟩)
theorem bits_Len64_d0 (y:Nat) (hy:y < 4294967296) (m:Int) (m0:0≤m) (m1:m≤32):Y (g17.D0 ((y:Int),m)) fun r=>∃ l:Nat,@Eq Int r (m + l)∧l≤32∧IsLen y l:=by
 refine Y.of (g17.D0_of _) (Y.ite (fun c=>Y.pd (by decide) ?_) fun c=>Y.mono (bits_Len64_d1 y (by omega) m m0 (by omega)) fun r h=>(by obtain ⟨l,h1,h2,h3⟩:=h; exact ⟨l,h1,by omega,h3⟩))
 have e:=shr_nat .u64 y 16 (by decide)
 rw [show ((16:Nat):Int)=16 from rfl] at e
 rw [e,w64 (x:=m + 16) (by omega) (by omega)]
 refine Y.mono (bits_Len64_d1 (y / 2 ^ 16) (by omega) (m + 16) (by omega) (by omega)) fun r h=>(by obtain ⟨l,h1,h2,h3⟩:=h; exact ⟨l + 16,by omega,by omega,h3.up 16 (by omega)⟩)
theorem bits_Len64_spec (y:Nat) (hy:y < 18446744073709551616):Y (g17.F (y:Int)) fun r=>∃ l:Nat,@Eq Int r l∧l≤64∧IsLen y l:=by
 refine Y.of (g17.F_of _) (Y.ite (fun c=>Y.pd (by decide) ?_) fun c=>Y.mono (bits_Len64_d0 y (by have c':=Int.not_le.mp c; omega) 0 (by omega) (by omega)) fun r h=>(by obtain ⟨l,h1,h2,h3⟩:=h; exact ⟨l,by omega,by omega,h3⟩))
 have e:=shr_nat .u64 y 32 (by decide)
 rw [show ((32:Nat):Int)=32 from rfl] at e
 rw [e]
 refine Y.mono (bits_Len64_d0 (y / 2 ^ 32) (by omega) 32 (by omega) (by omega)) fun r h=>(by obtain ⟨l,h1,h2,h3⟩:=h; exact ⟨l + 32,by omega,by omega,h3.up 32 (by have c':(4294967296:Int)≤y:=c; omega)⟩)
theorem bits_Div64_d3 (v:g49.T3) (h:0≤v.2.1):Tot (g49.D3 v):=Tot.of (g49.D3_of v) (Y.tot (Y.pd h (Y.some trivial)))
theorem bits_Div64_d2 (n:Nat):∀ (a b c d e f g h i:Int) (_:0≤b) (_:1≤c∧c < 4294967296) (_:0≤g∧g < 18446744073709551616) (_:(g < 4294967296→4294967296 - g≤n)∧(4294967296≤g→4294967297≤(n:Int))),Tot (g49.D2 (a,b,c,d,e,f,g,h,i)):=by
 induction n with
 | zero=>
  intro a b c d e f g h i h1 h2 h3 h4
  exact absurd h4 (by omega)
 | succ n ih=>
  intro a b c d e f g h i h1 h2 h3 h4
  refine Tot.of (g49.D2_of _) (Tot.br (Y.tot (Y.ite (fun _=>Tot.y (bits_Div64_d3 _ h1)) fun k=>Tot.y (ih _ _ _ _ _ _ _ _ _ h1 h2 ?_ ?_))) (bits_Div64_d3 _ h1))
  ·rw [wr_u64]
   omega
  ·rw [wr_u64] at k ⊢
   omega
theorem bits_Div64_d1 (a b c d e f g h:Int) (h1:0≤b) (h2:1≤c∧c < 4294967296):Tot (g49.D1 (a,b,c,d,e,f,g,h)):=by
 refine Tot.of (g49.D1_of _) (Y.tot (Y.nn (by omega) (Tot.y (bits_Div64_d2 4294967297 _ _ _ _ _ _ _ _ _ h1 h2 ?_ ?_))))
 ·rw [wr_u64]
  omega
 ·rw [wr_u64]
  omega
theorem bits_Div64_d0 (n:Nat):∀ (a b c d e f g h i:Int) (_:0≤b) (_:1≤c∧c < 4294967296) (_:0≤i∧i < 18446744073709551616) (_:(i < 4294967296→4294967296 - i≤n)∧(4294967296≤i→4294967297≤(n:Int))),Tot (g49.D0 (a,b,c,d,e,f,g,h,i)):=by
 induction n with
 | zero=>
  intro a b c d e f g h i h1 h2 h3 h4
  exact absurd h4 (by omega)
 | succ n ih=>
  intro a b c d e f g h i h1 h2 h3 h4
  refine Tot.of (g49.D0_of _) (Tot.br (Y.tot (Y.ite (fun _=>Tot.y (bits_Div64_d1 _ _ _ _ _ _ _ _ h1 h2)) fun k=>Tot.y (ih _ _ _ _ _ _ _ _ _ h1 h2 ?_ ?_))) (bits_Div64_d1 _ _ _ _ _ _ _ _ h1 h2))
  ·rw [wr_u64]
   omega
  ·rw [wr_u64] at k ⊢
   omega
theorem shl_norm {y l:Nat} (hy:0 < y) (h:IsLen y l) (hl:l≤64):∃ z:Nat,shl .u64 (y:Int) ((64 - l:Nat):Int)=(z:Int)∧9223372036854775808≤z∧z < 18446744073709551616:=by
 obtain ⟨h1,h2⟩:=h
 obtain ⟨h3,h4⟩:=h2 hy
 refine ⟨y * 2 ^ (64 - l),?_,?_,?_⟩
 ·unfold shl
  rw [Int.toNat_natCast,Nat.min_eq_left (by show 64 - l≤64; omega)]
  have:y * 2 ^ (64 - l) < 18446744073709551616:=by
   have:=Nat.mul_lt_mul_of_pos_right h1 (show 0 < 2 ^ (64 - l) from Nat.two_pow_pos _)
   rw [← Nat.pow_add,show l + (64 - l)=64 by omega] at this
   exact this
  have e:((y:Int) * 2 ^ (64 - l))=((y * 2 ^ (64 - l):Nat):Int):=by simp
  rw [e]
  show wrap .u64 _=_
  rw [wr_u64]
  omega
 ·have:=Nat.mul_le_mul_right (2 ^ (64 - l)) h4
  rw [← Nat.pow_add,show l - 1 + (64 - l)=63 by omega] at this
  exact this
 ·have:=Nat.mul_lt_mul_of_pos_right h1 (show 0 < 2 ^ (64 - l) from Nat.two_pow_pos _)
  rw [← Nat.pow_add,show l + (64 - l)=64 by omega] at this
  exact this
theorem bits_Div64_tot (hi lo y:Int) (h0:0 < y) (h1:y < 18446744073709551616) (h2:hi < y):Tot (g49.F (hi,lo,y)):=by
 obtain ⟨n,rfl⟩:∃ n:Nat,y=n:=⟨y.toNat,by omega⟩
 refine Tot.of (g49.F_of _) (Y.tot (Y.nd (by omega) (Y.nd (by omega) (Y.ite (fun _=>Y.nn (by omega) (Y.nn (by omega) (Y.some trivial))) fun _=>?_))))
 refine Y.bnd (fun r=>∃ l:Nat,@Eq Int r ((64 - l:Nat):Int)∧l≤64∧IsLen n l) ?_ ?_
 ·refine Y.of (g48.F_of _) (Y.bnd _ (bits_Len64_spec n (by omega)) fun r ⟨l,h3,h4,h5⟩=>Y.some ⟨l,?_,h4,h5⟩)
  subst h3
  rw [w64 (by omega) (by omega)]
  omega
 ·intro r ⟨l,h3,h4,h5⟩
  obtain ⟨z,hz,z1,z2⟩:=shl_norm (by omega) h5 h4
  have er:wrap .u64 r=r:=by
   rw [wr_u64,h3]
   omega
  have ez:shl .u64 (n:Int) (wrap .u64 r)=z:=by rw [er,h3,hz]
  have es:=shr_nat .u64 z 32 (by decide)
  rw [show ((32:Nat):Int)=32 from rfl] at es
  have e0:0≤wrap .u64 r:=by omega
  refine Y.pd e0 (Y.pd (by decide) (Y.pd e0 (Y.pd ?_ (Y.pd e0 (Y.pd (by decide) (Y.nn ?_ (Tot.y ?_)))))))
  ·rw [wr_u64]
   omega
  ·rw [ez,es]
   omega
  ·refine bits_Div64_d0 4294967297 _ _ _ _ _ _ _ _ _ e0 ?_ ?_ ?_
   ·rw [ez,es]
    omega
   ·rw [wr_u64]
    omega
   ·rw [wr_u64]
    omega
theorem num_Wide_Div_d1 (v:g50.T1):Tot (g50.D1 v):=Tot.of (g50.D1_of v) (Tot.br Tot.some (Tot.br Tot.some (Tot.br Tot.some Tot.some)))
theorem num_Wide_Div_spec (a b c:Int):Y (g50.F (a,b,c)) fun r=>r.2=0→wrap .u64 c≠0:=by
 have d0 (p q r s:Int):Y (g50.D0 (c,p,q,r,s)) fun r=>r.2=0→wrap .u64 c≠0:=by
  refine Y.of (g50.D0_of _) (Y.ite (fun _=>Y.some (fun h=>absurd h (by decide))) fun k=>?_)
  have k0:=wr_u64 r
  have k1:=wr_u64 c
  have nz:wrap .u64 c≠0:=by omega
  have d1 (v):Y (g50.D1 v) fun r=>r.2=0→wrap .u64 c≠0:=Y.mono (Tot.y (num_Wide_Div_d1 v)) fun _ _ _=>nz
  exact Y.bnd _ (Tot.y (bits_Div64_tot _ _ _ (by omega) (by omega) (by omega))) fun _ _=>Y.bif (fun _=>Y.bif (fun _=>d1 _) fun _=>d1 _) fun _=>d1 _
 exact Y.of (g50.F_of _) (Y.ite (fun _=>Y.some (fun h=>absurd h (by decide))) fun _=>Y.bif (fun _=>Y.bnd _ (Tot.y (num_Wide_Neg_tot _)) fun _ _=>d0 _ _ _ _) fun _=>d0 _ _ _ _)
theorem num_Wide_Div_tot (v:g50.A):Tot (g50.F v):=Y.to (num_Wide_Div_spec v.1 v.2.1 v.2.2)
theorem num_MulDiv_tot (v:g51.A):Tot (g51.F v):=Tot.of (g51.F_of v) ((fun (v0,v1,v2)=>(Tot.bnd (num_Product_tot _) fun _=>(Tot.bnd (num_Wide_Div_tot _) fun _=>Tot.some)):∀ v,Tot (g51.d g37.F g50.F v)) v)
theorem scale_angle_tot (v:g52.A):Tot (g52.F v):=Tot.of (g52.F_of v) ((fun (v0,v1,v2,v3,v4)=>(Tot.bnd (num_MulDiv_tot _) fun _=>Tot.some):∀ v,Tot (g52.d g51.F v)) v)
theorem num_Mod_tot (v:g53.A):Tot (g53.F v):=by
 obtain ⟨a,b⟩:=v
 have h0:∀ x,Tot (g53.D0 x):=fun x=>Tot.of (g53.D0_of _) Tot.some
 exact Tot.of (g53.F_of _) (Y.tot (Y.ite (fun _=>Y.some trivial) fun c=>Y.np' (by omega) (Tot.y (Tot.br (h0 _) (h0 _)))))
theorem scale_Angle_tot (v:g54.A):Tot (g54.F v):=Tot.of (g54.F_of v) ((fun (v0,v1,v2,v3,v4)=>(Tot.bnd (scale_CheckRate_tot _) fun _=>(Tot.br Tot.some (Tot.bnd (scale_angle_tot _) fun _=>(Tot.bnd (num_Mod_tot _) fun _=>Tot.some)))):∀ v,Tot (g54.d g31.F g52.F g53.F v)) v)
theorem horizon_CheckSite_tot (v:g55.A):Tot (g55.F v):=Tot.of (g55.F_of v) ((fun (v0,v1)=>(Tot.br Tot.some Tot.some):∀ v,Tot (g55.d v)) v)
theorem sphere_Check_tot (v:g46.A):Tot (g46.F v):=Tot.of (g46.F_of v) ((fun (v0,v1,v2)=>(Tot.br Tot.some (Tot.br Tot.some Tot.some)):∀ v,Tot (g46.d v)) v)
theorem cmp_Or_Errno_d0 (l:List Int) (hl:l.length≤1000) (n:Nat):∀ (j:Nat) (_:j + n=l.length) (z:Int),Tot (g32.D0 (z,l,(l.length:Int),(j:Int))):=by
 induction n with
 | zero=>exact fun j e z=>Y.tot (Y.of (g32.D0_of _) (Y.nd (by omega) (Y.some trivial)))
 | succ n ih=>
  intro j e z
  refine Y.tot (Y.of (g32.D0_of _) (Y.pd (by omega) (Y.pd (by omega) (Y.bif (fun _=>Y.some trivial) fun _=>Tot.y ?_))))
  rw [w64 (x:=(j:Int) + 1) (by omega) (by omega)]
  exact ih (j + 1) (by omega) _
theorem cmp_Or_Errno_tot (a b:Int):Tot (g32.F [a,b]):=Tot.of (g32.F_of _) (cmp_Or_Errno_d0 [a,b] (by simp) 2 0 rfl _)
theorem sphere_Check_spec (a b c:Int):Y (g46.F (a,b,c)) fun r=>r=0→(-1048576≤a∧a≤1048576∧-1048576≤b∧b≤1048576∧-1048576≤c∧c≤1048576)∧¬ (a=0∧b=0∧c=0):=by
 refine Y.of (g46.F_of _) (Y.bif (fun _=>Y.some (fun h=>absurd h (by decide))) fun h1=>Y.bif (fun _=>Y.some (fun h=>absurd h (by decide))) fun h2=>Y.some fun _=>?_)
 simp only [Bool.or_eq_false_iff,decide_eq_false_iff_not] at h1
 simp only [Bool.and_true,Bool.and_eq_false_iff,decide_eq_false_iff_not] at h2
 refine ⟨by omega,by omega⟩
theorem sphere_Grow_d0 (n:Nat):∀ (a b c d e f:Int) (_:-1048576≤a∧a≤1048576∧-1048576≤b∧b≤1048576∧-1048576≤c∧c≤1048576) (_:¬ (a=0∧b=0∧c=0)) (_:1048577 - max (max a (-a)) (max (max b (-b)) (max c (-c)))≤n),Tot (g56.D0 (a,b,c,d,e,f)):=by
 induction n with
 | zero=>
  intro a b c d e f h1 h2 h3
  exact absurd h3 (by omega)
 | succ n ih=>
  intro a b c d e f h1 h2 h3
  refine Tot.of (g56.D0_of _) (Y.tot (Y.bnd _ (sphere_Check_spec _ _ _) fun r hr=>Y.nite (fun _=>Y.some trivial) fun k=>Tot.y ?_))
  obtain ⟨h4,h5⟩:=hr k
  rw [w64 (x:=2 * a) (by omega) (by omega),w64 (x:=2 * b) (by omega) (by omega),w64 (x:=2 * c) (by omega) (by omega)] at h4 h5 ⊢
  exact ih _ _ _ _ _ _ h4 h5 (by omega)
theorem sphere_Grow_tot (v:g56.A):Tot (g56.F v):=by
 obtain ⟨a,b,c⟩:=v
 refine Tot.of (g56.F_of _) (Y.tot (Y.bnd _ (sphere_Check_spec _ _ _) fun r hr=>Y.nite (fun _=>Y.some trivial) fun k=>Tot.y (sphere_Grow_d0 1048577 _ _ _ _ _ _ (hr k).1 (hr k).2 (by omega))))
theorem trig_times_tot (v:g57.A):Tot (g57.F v):=Tot.of (g57.F_of v) ((fun (v0,v1)=>(Tot.bnd (num_MulDiv_tot _) fun _=>Tot.some):∀ v,Tot (g57.d g51.F v)) v)
theorem trig_series_d0 (l:List Int) (hl:l.length≤1000) (hz:∀ x ∈ l,x≠0) (n:Nat):∀ (j:Nat) (_:j + n=l.length) (x s:Int),Tot (g58.D0 (x,s,l,(l.length:Int),(j:Int))):=by
 induction n with
 | zero=>exact fun j e x s=>Y.tot (Y.of (g58.D0_of _) (Y.nd (by omega) (Y.some trivial)))
 | succ n ih=>
  intro j e x s
  refine Y.tot (Y.of (g58.D0_of _) (Y.pd (by omega) (Y.pd (by omega) (Y.bnd _ (Tot.y (trig_times_tot _)) fun r _=>Y.nn (hz _ (rd_mem (t:=.int .i64) l (j:Int) (by omega) (by omega))) (Tot.y ?_)))))
  rw [w64 (x:=(j:Int) + 1) (by omega) (by omega)]
  exact ih (j + 1) (by omega) _ _
theorem trig_series_tot (x:Int) (l:List Int) (hl:l.length≤1000) (hz:∀ x ∈ l,x≠0):Tot (g58.F (x,l)):=Tot.of (g58.F_of _) (trig_series_d0 l hl hz l.length 0 (by omega) _ _)
theorem num_RoundDiv_tot_d0 (v:g59.T0):Tot (g59.D0 v):=Tot.of (g59.D0_of v) Tot.some
theorem num_RoundDiv_tot (v:g59.A):Tot (g59.F v):=Tot.of (g59.F_of v) (Y.tot (Y.ite (fun _=>Y.some trivial) fun c=>Y.nn (by omega) (Y.nn (by omega) (Tot.y (Tot.br (num_RoundDiv_tot_d0 _) (Tot.br (num_RoundDiv_tot_d0 _) (num_RoundDiv_tot_d0 _)))))))
theorem trig_quarter_tot_d0 (v:g60.T0):Tot (g60.D0 v):=Tot.of (g60.D0_of v) (Tot.bnd (num_MulDiv_tot _) fun _=>Tot.bnd (trig_times_tot _) fun _=>Tot.br (Tot.bnd (trig_series_tot _ _ (by decide) (by decide)) fun _=>Tot.bnd (num_RoundDiv_tot _) fun _=>Tot.some) (Tot.bnd (trig_series_tot _ _ (by decide) (by decide)) fun _=>Tot.bnd (trig_times_tot _) fun _=>Tot.bnd (num_RoundDiv_tot _) fun _=>Tot.some))
theorem trig_quarter_tot (v:g60.A):Tot (g60.F v):=Tot.of (g60.F_of v) (Tot.br (trig_quarter_tot_d0 _) (trig_quarter_tot_d0 _))
theorem trig_Sin_tot (v:g61.A):Tot (g61.F v):=Tot.of (g61.F_of v) (Y.tot (Y.nn (by decide) (Tot.y (Tot.br (Tot.bnd (trig_quarter_tot _) fun _=>Tot.some) (Tot.br (Tot.bnd (trig_quarter_tot _) fun _=>Tot.some) (Tot.br (Tot.bnd (trig_quarter_tot _) fun _=>Tot.some) (Tot.bnd (trig_quarter_tot _) fun _=>Tot.some)))))))
theorem trig_Cos_tot (v:g62.A):Tot (g62.F v):=Tot.of (g62.F_of v) ((fun v0=>(Tot.bnd (trig_Sin_tot _) fun _=>Tot.some):∀ v,Tot (g62.d g61.F v)) v)
theorem horizon_AimS1_tot (v:g63.A):Tot (g63.F v):=Tot.of (g63.F_of v) ((fun v0=>(Tot.bnd (trig_Cos_tot _) fun _=>Tot.some):∀ v,Tot (g63.d g62.F v)) v)
theorem horizon_AimS1_1_tot (v:g64.A):Tot (g64.F v):=Tot.of (g64.F_of v) ((fun v0=>(Tot.bnd (trig_Sin_tot _) fun _=>Tot.some):∀ v,Tot (g64.d g61.F v)) v)
theorem trig_octant_d0 (a b:Int) (n:Nat):∀ (x y:Int) (_:y - x≤n) (_:0≤x) (_:x≤y) (_:y≤536870913),Tot (g65.D0 (a,b,x,y)):=by
 induction n with
 | zero=>
  intro x y h h0 h1 h2
  refine Tot.of (g65.D0_of _) (Y.tot ?_)
  dsimp only [g65.d0]
  rw [w64 (x:=y - x) (by omega) (by omega)]
  exact Y.nd (by omega) (Y.some trivial)
 | succ n ih=>
  intro x y h h0 h1 h2
  refine Tot.of (g65.D0_of _) (Y.tot ?_)
  dsimp only [g65.d0]
  rw [w64 (x:=y - x) (by omega) (by omega),w64 (x:=x + y) (by omega) (by omega),Int.tdiv_eq_ediv_of_nonneg (a:=x + y) (by omega),w64 (x:=(x + y) / 2) (by omega) (by omega)]
  exact Y.ite (fun c=>Y.np' (by decide) (Tot.y (Tot.bnd (trig_Sin_tot _) fun _=>Tot.bnd (trig_Cos_tot _) fun _=>Tot.br (ih _ _ (by omega) (by omega) (by omega) (by omega)) (ih _ _ (by omega) (by omega) (by omega) (by omega))))) fun _=>Y.some trivial
theorem trig_octant_tot (v:g65.A):Tot (g65.F v):=Tot.of (g65.F_of v) (trig_octant_d0 v.1 v.2 536870913 0 536870913 (by decide) (by decide) (by decide) (by decide))
theorem trig_Atan2_tot (v:g66.A):Tot (g66.F v):=by
 have h2:∀ x,Tot (g66.D2 x):=fun x=>Tot.of (g66.D2_of _) (Y.tot (Y.np' (by decide) (Y.some trivial)))
 have h1:∀ x,Tot (g66.D1 x):=fun x=>Tot.of (g66.D1_of _) (Tot.br (h2 _) (h2 _))
 have h0:∀ x,Tot (g66.D0 x):=fun x=>Tot.of (g66.D0_of _) (Tot.br (h1 _) (h1 _))
 exact Tot.of (g66.F_of v) (Tot.br Tot.some (Tot.br Tot.some (Tot.br (Tot.bnd (trig_octant_tot _) fun _=>h0 _) (Tot.bnd (trig_octant_tot _) fun _=>h0 _))))
theorem num_SqrtMul_d0 (n:Nat):∀ (a b c d:Int) (_:d≤n),Tot (g67.D0 (a,b,c,d)):=by
 induction n with
 | zero=>exact fun a b c d h=>Y.tot (Y.of (g67.D0_of _) (Y.nd (by omega) (Y.some trivial)))
 | succ n ih=>
  intro a b c d h
  refine Tot.of (g67.D0_of _) (Y.tot (Y.ite (fun k=>?_) fun _=>Y.some trivial))
  obtain ⟨m,rfl⟩:∃ m:Nat,d=m:=⟨d.toNat,by omega⟩
  have d1 (x y z:Int):Tot (g67.D1 (x,y,z,(m:Int))):=by
   refine Tot.of (g67.D1_of _) (Y.tot (Y.pd (by decide) (Tot.y ?_)))
   have e:=shr_nat .u64 m 1 (by decide)
   rw [show ((1:Nat):Int)=1 from rfl] at e
   rw [e]
   exact ih _ _ _ _ (by omega)
  exact Tot.y (Tot.bnd (bits_Mul64_tot _) fun _=>Tot.br (d1 _ _ _) (d1 _ _ _))
theorem num_SqrtMul_tot (v:g67.A):Tot (g67.F v):=Tot.of (g67.F_of v) (Tot.br Tot.some (Tot.bnd (bits_Mul64_tot _) fun _=>num_SqrtMul_d0 4611686018427387904 _ _ _ _ (by decide)))
theorem num_Sqrt_tot (v:g68.A):Tot (g68.F v):=Tot.of (g68.F_of v) ((fun v0=>(Tot.bnd (num_SqrtMul_tot _) fun _=>Tot.some):∀ v,Tot (g68.d g67.F v)) v)
theorem horizon_Aim_tot_d0 (v:g69.T0):Tot (g69.D0 v):=Tot.of (g69.D0_of v) ((fun (v0,v1,v2,v3)=>Tot.some:∀ v,Tot (g69.d0 v)) v)
theorem horizon_Aim_tot (v:g69.A):Tot (g69.F v):=Tot.of (g69.F_of v) ((fun (v0,v1,v2,v3,v4,v5)=>(Tot.bnd (horizon_CheckSite_tot _) fun _=>(Tot.bnd (sphere_Check_tot _) fun _=>(Tot.bnd (cmp_Or_Errno_tot _ _) fun _=>(Tot.br Tot.some (Tot.bnd (sphere_Grow_tot _) fun _=>(Tot.bnd (horizon_AimS1_tot _) fun _=>(Tot.bnd (horizon_AimS1_1_tot _) fun _=>(Tot.bnd (num_RoundDiv_tot _) fun _=>(Tot.bnd (num_RoundDiv_tot _) fun _=>(Tot.bnd (horizon_AimS1_tot _) fun _=>(Tot.bnd (horizon_AimS1_1_tot _) fun _=>(Tot.bnd (num_RoundDiv_tot _) fun _=>(Tot.bnd (num_RoundDiv_tot _) fun _=>(Tot.bnd (trig_Atan2_tot _) fun _=>(Tot.bnd (num_Sqrt_tot _) fun _=>(Tot.bnd (trig_Atan2_tot _) fun _=>(Tot.br (horizon_Aim_tot_d0 _) (horizon_Aim_tot_d0 _)))))))))))))))))):∀ v,Tot (g69.d g55.F g46.F g32.F g56.F g63.F g64.F g59.F g66.F g68.F g69.D0 v)) v)
end Go.Proofs.RSl
namespace Go.Proofs.RSl
open Go Go.Eng
set_option linter.unusedVariables false
set_option maxRecDepth 100000
abbrev Ev {α ρ:Type} (D F:α→Option ρ):Prop:=∀ v,Cn now (D v) fun _=>F v
def rc {X:Type} (z:X) (s:Nat→X→X) (k:Nat):X:=Nat.rec (motive:=fun _=>X) z s k
theorem rp {P:Nat→Prop} (z:P 0) (s:∀ k,P k→P (k + 1)):∀ k,P k:=fun k=>Nat.rec z s k
abbrev nn {α ρ:Type}:α→Option ρ:=fun _=>none
theorem n0 {α ρ:Type} {F:α→Option ρ}:Ev nn F:=fun _=>.none
theorem of {α ρ:Type} {D G F:α→Option ρ} (h:∀ v,Cn now (D v) fun _=>G v) (g:∀ v {r:ρ},G v=some r→F v=some r):Ev D F:=fun v r q=>g v (h v r q)
namespace g25
noncomputable def ev (k:Nat):(A→Option R):=rc nn (fun k e=>d) k
theorem ev_ok:∀ k,Ev (ev k) F:=rp n0 (fun k h=>(of (d_cn) F_of))
end g25
namespace g26
noncomputable def ev (k:Nat):(A→Option R)×(T0→Option R):=rc (nn,nn) (fun k e=>(d (g25.ev k) (e.2),d0 (e.2))) k
theorem ev_ok:∀ k,Ev (ev k).1 F∧Ev (ev k).2 D0:=rp ⟨n0,n0⟩ (fun k h=>⟨(of (d_cn (.mk ((g25.ev_ok k))) (.mk (h.2))) F_of),(of (d0_cn (.mk (h.2))) D0_of)⟩)
end g26
namespace g27
noncomputable def ev (k:Nat):(A→Option R):=rc nn (fun k e=>d (g26.ev k).1) k
theorem ev_ok:∀ k,Ev (ev k) F:=rp n0 (fun k h=>(of (d_cn (.mk ((g26.ev_ok k).1))) F_of))
theorem ev_is {k:Nat} {v:A} {r:R} (h:(ev k) v=some r):F v=some r:=(ev_ok k) v r h
end g27
namespace g28
noncomputable def ev (k:Nat):(A→Option R)×(T0→Option R):=rc (nn,nn) (fun k e=>(d (e.2),d0)) k
theorem ev_ok:∀ k,Ev (ev k).1 F∧Ev (ev k).2 D0:=rp ⟨n0,n0⟩ (fun k h=>⟨(of (d_cn (.mk (h.2))) F_of),(of (d0_cn) D0_of)⟩)
end g28
namespace g29
noncomputable def ev (k:Nat):(A→Option R):=rc nn (fun k e=>d (g27.ev k) (g28.ev k).1) k
theorem ev_ok:∀ k,Ev (ev k) F:=rp n0 (fun k h=>(of (d_cn (.mk ((g27.ev_ok k))) (.mk ((g28.ev_ok k).1))) F_of))
end g29
namespace g30
noncomputable def ev (k:Nat):(A→Option R):=rc nn (fun k e=>d (g29.ev k)) k
theorem ev_ok:∀ k,Ev (ev k) F:=rp n0 (fun k h=>(of (d_cn (.mk ((g29.ev_ok k)))) F_of))
theorem ev_is {k:Nat} {v:A} {r:R} (h:(ev k) v=some r):F v=some r:=(ev_ok k) v r h
end g30
namespace g32
noncomputable def ev (k:Nat):(A→Option R)×(T0→Option R):=rc (nn,nn) (fun k e=>(d (e.2),d0 (e.2))) k
theorem ev_ok:∀ k,Ev (ev k).1 F∧Ev (ev k).2 D0:=rp ⟨n0,n0⟩ (fun k h=>⟨(of (d_cn (.mk (h.2))) F_of),(of (d0_cn (.mk (h.2))) D0_of)⟩)
end g32
namespace g33
noncomputable def ev (k:Nat):(A→Option R):=rc nn (fun k e=>d (g27.ev k) (g32.ev k).1) k
theorem ev_ok:∀ k,Ev (ev k) F:=rp n0 (fun k h=>(of (d_cn (.mk ((g27.ev_ok k))) (.mk ((g32.ev_ok k).1))) F_of))
end g33
namespace g34
noncomputable def ev (k:Nat):(A→Option R):=rc nn (fun k e=>d) k
theorem ev_ok:∀ k,Ev (ev k) F:=rp n0 (fun k h=>(of (d_cn) F_of))
end g34
namespace g35
noncomputable def ev (k:Nat):(A→Option R):=rc nn (fun k e=>d) k
theorem ev_ok:∀ k,Ev (ev k) F:=rp n0 (fun k h=>(of (d_cn) F_of))
end g35
namespace g36
noncomputable def ev (k:Nat):(A→Option R):=rc nn (fun k e=>d (g35.ev k)) k
theorem ev_ok:∀ k,Ev (ev k) F:=rp n0 (fun k h=>(of (d_cn (.mk ((g35.ev_ok k)))) F_of))
end g36
namespace g37
noncomputable def ev (k:Nat):(A→Option R):=rc nn (fun k e=>d (g25.ev k) (g34.ev k) (g36.ev k)) k
theorem ev_ok:∀ k,Ev (ev k) F:=rp n0 (fun k h=>(of (d_cn (.mk ((g25.ev_ok k))) (.mk ((g34.ev_ok k))) (.mk ((g36.ev_ok k)))) F_of))
end g37
namespace g38
noncomputable def ev (k:Nat):(A→Option R):=rc nn (fun k e=>d) k
theorem ev_ok:∀ k,Ev (ev k) F:=rp n0 (fun k h=>(of (d_cn) F_of))
end g38
namespace g39
noncomputable def ev (k:Nat):(A→Option R):=rc nn (fun k e=>d (g38.ev k)) k
theorem ev_ok:∀ k,Ev (ev k) F:=rp n0 (fun k h=>(of (d_cn (.mk ((g38.ev_ok k)))) F_of))
end g39
namespace g40
noncomputable def ev (k:Nat):(A→Option R):=rc nn (fun k e=>d) k
theorem ev_ok:∀ k,Ev (ev k) F:=rp n0 (fun k h=>(of (d_cn) F_of))
end g40
namespace g41
noncomputable def ev (k:Nat):(A→Option R):=rc nn (fun k e=>d (g40.ev k)) k
theorem ev_ok:∀ k,Ev (ev k) F:=rp n0 (fun k h=>(of (d_cn (.mk ((g40.ev_ok k)))) F_of))
end g41
namespace g42
noncomputable def ev (k:Nat):(A→Option R)×(T0→Option R):=rc (nn,nn) (fun k e=>(d (e.2),d0 (e.2))) k
theorem ev_ok:∀ k,Ev (ev k).1 F∧Ev (ev k).2 D0:=rp ⟨n0,n0⟩ (fun k h=>⟨(of (d_cn (.mk (h.2))) F_of),(of (d0_cn (.mk (h.2))) D0_of)⟩)
end g42
namespace g43
noncomputable def ev (k:Nat):(A→Option R):=rc nn (fun k e=>d (g39.ev k) (g41.ev k) (g42.ev k).1) k
theorem ev_ok:∀ k,Ev (ev k) F:=rp n0 (fun k h=>(of (d_cn (.mk ((g39.ev_ok k))) (.mk ((g41.ev_ok k))) (.mk ((g42.ev_ok k).1))) F_of))
end g43
namespace g44
noncomputable def ev (k:Nat):(A→Option R):=rc nn (fun k e=>d (g33.ev k) (g37.ev k) (g43.ev k)) k
theorem ev_ok:∀ k,Ev (ev k) F:=rp n0 (fun k h=>(of (d_cn (.mk ((g33.ev_ok k))) (.mk ((g37.ev_ok k))) (.mk ((g43.ev_ok k)))) F_of))
theorem ev_is {k:Nat} {v:A} {r:R} (h:(ev k) v=some r):F v=some r:=(ev_ok k) v r h
end g44
namespace g3
noncomputable def ev (k:Nat):(A→Option R)×(T0→Option R):=rc (nn,nn) (fun k e=>(d (e.2),d0 (e.2))) k
theorem ev_ok:∀ k,Ev (ev k).1 F∧Ev (ev k).2 D0:=rp ⟨n0,n0⟩ (fun k h=>⟨(of (d_cn (.mk (h.2))) F_of),(of (d0_cn (.mk (h.2))) D0_of)⟩)
end g3
namespace g4
noncomputable def ev (k:Nat):(A→Option R):=rc nn (fun k e=>d) k
theorem ev_ok:∀ k,Ev (ev k) F:=rp n0 (fun k h=>(of (d_cn) F_of))
end g4
namespace g0
noncomputable def ev (k:Nat):(A→Option R):=rc nn (fun k e=>d) k
theorem ev_ok:∀ k,Ev (ev k) F:=rp n0 (fun k h=>(of (d_cn) F_of))
end g0
namespace g1
noncomputable def ev (k:Nat):(A→Option R):=rc nn (fun k e=>d) k
theorem ev_ok:∀ k,Ev (ev k) F:=rp n0 (fun k h=>(of (d_cn) F_of))
end g1
namespace g2
noncomputable def ev (k:Nat):(A→Option R):=rc nn (fun k e=>d) k
theorem ev_ok:∀ k,Ev (ev k) F:=rp n0 (fun k h=>(of (d_cn) F_of))
end g2
namespace g5
noncomputable def ev (k:Nat):(A→Option R)×(T0→Option R)×(T1→Option R)×(T2→Option R):=rc (nn,nn,nn,nn) (fun k e=>(d (g0.ev k) (g1.ev k) (g2.ev k) (e.2.1),d0 (g3.ev k).1 (g4.ev k) (e.2.2.1) (e.2.2.2),d1 (e.2.1),d2)) k
theorem ev_ok:∀ k,Ev (ev k).1 F∧Ev (ev k).2.1 D0∧Ev (ev k).2.2.1 D1∧Ev (ev k).2.2.2 D2:=rp ⟨n0,n0,n0,n0⟩ (fun k h=>⟨(of (d_cn (.mk ((g0.ev_ok k))) (.mk ((g1.ev_ok k))) (.mk ((g2.ev_ok k))) (.mk (h.2.1))) F_of),(of (d0_cn (.mk ((g3.ev_ok k).1)) (.mk ((g4.ev_ok k))) (.mk (h.2.2.1)) (.mk (h.2.2.2))) D0_of),(of (d1_cn (.mk (h.2.1))) D1_of),(of (d2_cn) D2_of)⟩)
end g5
namespace g6
noncomputable def ev (k:Nat):(A→Option R)×(T0→Option R):=rc (nn,nn) (fun k e=>(d (e.2),d0)) k
theorem ev_ok:∀ k,Ev (ev k).1 F∧Ev (ev k).2 D0:=rp ⟨n0,n0⟩ (fun k h=>⟨(of (d_cn (.mk (h.2))) F_of),(of (d0_cn) D0_of)⟩)
end g6
namespace g7
noncomputable def ev (k:Nat):(A→Option R)×(T0→Option R)×(T1→Option R):=rc (nn,nn,nn) (fun k e=>(d (g0.ev k) (g1.ev k) (g6.ev k).1 (e.2.1),d0 (g2.ev k) (e.2.2),d1 (e.2.1))) k
theorem ev_ok:∀ k,Ev (ev k).1 F∧Ev (ev k).2.1 D0∧Ev (ev k).2.2 D1:=rp ⟨n0,n0,n0⟩ (fun k h=>⟨(of (d_cn (.mk ((g0.ev_ok k))) (.mk ((g1.ev_ok k))) (.mk ((g6.ev_ok k).1)) (.mk (h.2.1))) F_of),(of (d0_cn (.mk ((g2.ev_ok k))) (.mk (h.2.2))) D0_of),(of (d1_cn (.mk (h.2.1))) D1_of)⟩)
end g7
namespace g8
noncomputable def ev (k:Nat):(A→Option R):=rc nn (fun k e=>d (g5.ev k).1 (g7.ev k).1) k
theorem ev_ok:∀ k,Ev (ev k) F:=rp n0 (fun k h=>(of (d_cn (.mk ((g5.ev_ok k).1)) (.mk ((g7.ev_ok k).1))) F_of))
theorem ev_is {k:Nat} {v:A} {r:R} (h:(ev k) v=some r):F v=some r:=(ev_ok k) v r h
end g8
namespace g17
noncomputable def ev (k:Nat):(A→Option R)×(T0→Option R)×(T1→Option R)×(T2→Option R):=rc (nn,nn,nn,nn) (fun k e=>(d (e.2.1),d0 (e.2.2.1),d1 (e.2.2.2),d2)) k
theorem ev_ok:∀ k,Ev (ev k).1 F∧Ev (ev k).2.1 D0∧Ev (ev k).2.2.1 D1∧Ev (ev k).2.2.2 D2:=rp ⟨n0,n0,n0,n0⟩ (fun k h=>⟨(of (d_cn (.mk (h.2.1))) F_of),(of (d0_cn (.mk (h.2.2.1))) D0_of),(of (d1_cn (.mk (h.2.2.2))) D1_of),(of (d2_cn) D2_of)⟩)
end g17
namespace g18
noncomputable def ev (k:Nat):(A→Option R):=rc nn (fun k e=>d (g17.ev k).1) k
theorem ev_ok:∀ k,Ev (ev k) F:=rp n0 (fun k h=>(of (d_cn (.mk ((g17.ev_ok k).1))) F_of))
theorem ev_is {k:Nat} {v:A} {r:R} (h:(ev k) v=some r):F v=some r:=(ev_ok k) v r h
end g18
end Go.Proofs.RSl
namespace Go.Proofs.RSl
open Go Go.Eng
set_option linter.unusedVariables false
theorem Y.range {β:Type} {f:g11.R→Option β} {Q:β→Prop} (a b:Int) (L:List Int) (at_:Int) (ha:0≤at_) (hb:at_≤4611686018427387904) (h0:-1099511627776≤a) (h1:a≤b) (h2:b≤1099511627776)
  (k:∀ r,a≤r→r≤b→Y (f (r,L,at_ + 1)) Q):Y (bnd (g11.F (a,b,L,at_)) f) Q:=by
 have:Y (g11.F (a,b,L,at_)) fun r=>∃ x,r=(x,L,at_ + 1)∧a≤x∧x≤b:=by
  refine Y.of (g11.F_of _) (Y.nd (by omega) ?_)
  rw [w64 (x:=b - a) (by omega) (by omega),w64 (x:=b - a + 1) (by omega) (by omega)]
  refine Y.next L at_ (b - a + 1) ha hb (by omega) (by omega) fun r r0 r1=>Y.some ?_
  exact ⟨_,by rw [w64 (x:=a + r) (by omega) (by omega)],by omega,by omega⟩
 obtain ⟨r,hr,x,rfl,h3,h4⟩:=this
 exact Y.bE hr (k x h3 h4)
structure Nt where
 (lat lon sat ang num den beg lng sl sx sy sz mx my mz dusk:Int)
 cl:List Int
@[reducible] def Nt.w {β:Type} (n:Nt) (b:β):Int×Int×Int×Int×Int×Int×Int×Int×Int×Int×Int×Int×Int×Int×Int×Int×List Int×β:=(n.lat,n.lon,n.sat,n.ang,n.num,n.den,n.beg,n.lng,n.sl,n.sx,n.sy,n.sz,n.mx,n.my,n.mz,n.dusk,n.cl,b)
@[reducible] def Nt.v {β:Type} (n:Nt) (b:β):Int×Int×Int×Int×Int×Int×Int×Int×Int×Int×Int×Int×Int×Int×Int×Int×β:=(n.lat,n.lon,n.sat,n.ang,n.num,n.den,n.beg,n.lng,n.sl,n.sx,n.sy,n.sz,n.mx,n.my,n.mz,n.dusk,b)
@[reducible] def Nt.e (n:Nt):g47.A:=(n.lat,n.lon,n.sat,n.ang,n.num,n.den,n.beg,n.lng,n.sl,n.sx,n.sy,n.sz,n.mx,n.my,n.mz,n.dusk,n.cl)
@[reducible] def Nt.r (n:Nt) (L:List Int) (at_:Int):g13.R:=(n.lat,n.lon,n.sat,n.ang,n.num,n.den,n.beg,n.lng,n.sl,n.sx,n.sy,n.sz,n.mx,n.my,n.mz,n.dusk,L,at_,n.cl)
structure Rq where
 (id prop ax ay az len vis least most height moon cloud weight:Int)
@[reducible] def Rq.w {β:Type} (q:Rq) (b:β):Int×Int×Int×Int×Int×Int×Int×Int×Int×Int×Int×Int×Int×β:=(q.id,q.prop,q.ax,q.ay,q.az,q.len,q.vis,q.least,q.most,q.height,q.moon,q.cloud,q.weight,b)
def Vok (x y z:Int):Prop:=(-1048576≤x∧x≤1048576∧-1048576≤y∧y≤1048576∧-1048576≤z∧z≤1048576)∧¬ (x=0∧y=0∧z=0)
def RateOk (a b:Int):Prop:=(a=99429∧b=1994)∨(a=50∧b=1)∨(a=1∧b=1)∨(a=100∧b=1)
structure Nt.Ok (most:Int) (n:Nt):Prop where
 sl:1≤n.sl∧n.sl≤most
 lng:60000≤n.lng∧n.lng≤1800000
 beg:-997000000≤n.beg∧n.beg≤997000000
 lat:-1073741824≤n.lat∧n.lat≤1073741824
 lon:0≤n.lon∧n.lon < 4294967296
 sat:-1000≤n.sat∧n.sat≤1000
 ang:0≤n.ang∧n.ang < 1073741824
 rate:RateOk n.num n.den
 sun:Vok n.sx n.sy n.sz
 moon:Vok n.mx n.my n.mz
 dusk:-1073741824≤n.dusk∧n.dusk≤0
 cn:(n.cl.length:Int)=n.sl
 cl:∀ c ∈ n.cl,0≤c∧c≤4
structure Rq.Ok (q:Rq):Prop where
 id:1≤q.id∧q.id≤999999
 v:Vok q.ax q.ay q.az
 len:1≤q.len∧q.len≤3
 vis:1≤q.vis∧q.vis≤3
 one:q.vis=1→q.least=0∧q.most=0
 more:q.vis≠1→1≤q.least∧q.least≤q.most∧q.most≤64
 height:-1073741824≤q.height∧q.height≤1073741824
 moon:-1073741824≤q.moon∧q.moon≤1073741824
 cloud:0≤q.cloud∧q.cloud≤4
 weight:1≤q.weight∧q.weight≤100
theorem vec_ok {x y z:Int} (h:Vok x y z):g46.F (x,y,z)=some 0:=by
 obtain ⟨h1,h2⟩:=h
 refine Y.is (Y.of (g46.F_of _) (Y.neg ?_ (Y.neg ?_ (Y.some rfl))))
 ·simp only [Bool.or_eq_false_iff,decide_eq_false_iff_not]
  omega
 ·simp only [Bool.and_true,Bool.and_eq_false_iff,decide_eq_false_iff_not]
  omega
theorem within_ok {x a b:Int} (h:a≤x∧x≤b):g24.F (x,a,b)=some true:=Y.is (Y.of (g24.F_of _) (Y.some (by simp [h.1,h.2])))
theorem rate_ok {a b:Int} (h:RateOk a b):g27.F (a,b)=some 0∧1≤a∧(∃ c:Int,g30.F (a,b)=some c∧c≤65536)∧(∃ c:Int,g44.F (a,b,1,1)=some c∧0≤c)∧∃ c:Int,g44.F (a,b,100,1)=some c∧c≤0:=by
 rcases h with ⟨rfl,rfl⟩ | ⟨rfl,rfl⟩ | ⟨rfl,rfl⟩ | ⟨rfl,rfl⟩
 ·exact ⟨g27.ev_is (k:=40) (by decide +kernel),by decide,⟨50,g30.ev_is (k:=40) (by decide +kernel),by decide⟩,⟨1,g44.ev_is (k:=60) (by decide +kernel),by decide⟩,⟨-1,g44.ev_is (k:=60) (by decide +kernel),by decide⟩⟩
 ·exact ⟨g27.ev_is (k:=40) (by decide +kernel),by decide,⟨50,g30.ev_is (k:=40) (by decide +kernel),by decide⟩,⟨1,g44.ev_is (k:=60) (by decide +kernel),by decide⟩,⟨-1,g44.ev_is (k:=60) (by decide +kernel),by decide⟩⟩
 ·exact ⟨g27.ev_is (k:=40) (by decide +kernel),by decide,⟨1,g30.ev_is (k:=40) (by decide +kernel),by decide⟩,⟨0,g44.ev_is (k:=60) (by decide +kernel),by decide⟩,⟨-1,g44.ev_is (k:=60) (by decide +kernel),by decide⟩⟩
 ·exact ⟨g27.ev_is (k:=40) (by decide +kernel),by decide,⟨100,g30.ev_is (k:=40) (by decide +kernel),by decide⟩,⟨1,g44.ev_is (k:=60) (by decide +kernel),by decide⟩,⟨0,g44.ev_is (k:=60) (by decide +kernel),by decide⟩⟩
theorem spin_ok {t a x y:Int} (h1:-1000≤t∧t≤1000) (h2:0≤a∧a < 1073741824) (h:RateOk x y):g45.F (t,a,x,y)=some 0:=by
 obtain ⟨f1,f2,⟨c,f3,f4⟩,⟨d,f5,f6⟩,e,f7,f8⟩:=rate_ok h
 have g:g31.F (t,a,x,y)=some 0:=by
  refine Y.is (Y.of (g31.F_of _) (Y.bE f1 (Y.neg ?_ (Y.neg (by decide) (Y.pos (by simp; omega) (Y.bE f3 (Y.nd (Int.not_lt.mpr f4) (Y.some rfl))))))))
  simp only [Bool.or_eq_false_iff,decide_eq_false_iff_not]
  omega
 exact Y.is (Y.of (g45.F_of _) (Y.bE g (Y.neg (by decide) (Y.bE f5 (Y.pos (by simp; omega) (Y.bE f7 (Y.nd (Int.not_lt.mpr f8) (Y.some rfl))))))))
theorem night_ok {most:Int} {n:Nt} (h:n.Ok most) (hm:most≤64):g47.F n.e=some 0:=by
 have loop (m:Nat):∀ j:Nat,j + m=n.cl.length→g47.D0 (n.cl,(n.cl.length:Int),(j:Int))=some 0:=by
  have:=h.sl
  have:=h.cn
  induction m with
  | zero=>exact fun j e=>Y.is (Y.of (g47.D0_of _) (Y.nd (by omega) (Y.some rfl)))
  | succ m ih=>
   intro j e
   refine Y.is (Y.of (g47.D0_of _) (Y.pd (by omega) (Y.pd (by omega) (Y.bE (within_ok (h.cl _ (rd_mem (t:=.int .i64) n.cl (j:Int) (by omega) (by omega)))) (Y.neg (by decide) ?_)))))
   rw [w64 (x:=(j:Int) + 1) (by omega) (by omega)]
   exact Y.ev (ih (j + 1) (by omega)) rfl
 have:=h.sl
 have h2:=h.lng
 have h3:=h.beg
 have h4:=h.lat
 have h5:=h.lon
 have h6:=h.dusk
 refine Y.is (Y.of (g47.F_of _) (Y.bE (within_ok (by omega)) (Y.neg ?_ (Y.neg ?_ (Y.neg ?_ (Y.bE (spin_ok h.sat h.ang h.rate) (Y.neg (by decide) (Y.bE (vec_ok h.sun) (Y.pos (by decide) (Y.bE (vec_ok h.moon) (Y.neg (by decide) (Y.neg ?_ (Y.neg ?_ (Y.ev (loop n.cl.length 0 (by omega)) rfl))))))))))))))
 ·simp only [Bool.or_eq_false_iff,decide_eq_false_iff_not,Bool.not_true,true_and]
  omega
 ·simp only [Bool.or_eq_false_iff,decide_eq_false_iff_not]
  omega
 ·simp only [Bool.or_eq_false_iff,decide_eq_false_iff_not]
  omega
 ·simp only [Bool.or_eq_false_iff,decide_eq_false_iff_not]
  omega
 ·simp [h.cn]
end Go.Proofs.RSl
namespace Go.Proofs.RSl
open Go Go.Eng
set_option linter.unusedVariables false
theorem Y.vec {β:Type} {f:g12.R→Option β} {Q:β→Prop} (L:List Int) (at_:Int) (ha:0≤at_) (hb:at_≤4611686018427000000)
  (k:∀ x y z,Vok x y z→Y (f (x,y,z,L,at_ + 4)) Q):Y (bnd (g12.F (L,at_)) f) Q:=by
 have:Y (g12.F (L,at_)) fun r=>∃ x y z,r=(x,y,z,L,at_ + 4)∧Vok x y z:=by
  refine Y.of (g12.F_of _) (Y.next L at_ 4 ha (by omega) (by omega) (by omega) fun i i0 i1=>?_)
  obtain ⟨m,hm,m0,m1⟩:∃ m:Int,rd (.int .i64) [3,100,5000,1048576] i=m∧3≤m∧m≤1048576:=by
   rcases (show i=0∨i=1∨i=2∨i=3 by omega) with rfl | rfl | rfl | rfl
   ·exact ⟨3,rfl,by decide,by decide⟩
   ·exact ⟨100,rfl,by decide,by decide⟩
   ·exact ⟨5000,rfl,by decide,by decide⟩
   ·exact ⟨1048576,rfl,by decide,by decide⟩
  refine Y.pd ⟨i0,i1⟩ ?_
  dsimp only
  rw [hm,w64 (x:=0 - m) (by omega) (by omega)]
  refine Y.range (0 - m) m L (at_ + 1) (by omega) (by omega) (by omega) (by omega) (by omega) fun x x0 x1=>Y.range (0 - m) m L (at_ + 1 + 1) (by omega) (by omega) (by omega) (by omega) (by omega) fun y y0 y1=>Y.range (0 - m) m L (at_ + 1 + 1 + 1) (by omega) (by omega) (by omega) (by omega) (by omega) fun z z0 z1=>?_
  refine Y.bif (fun c=>Y.of (g12.D0_of _) (Y.some ?_)) fun c=>Y.of (g12.D0_of _) (Y.some ?_)
  ·simp only [Bool.and_true,Bool.and_eq_true,decide_eq_true_eq] at c
   exact ⟨1,y,z,by rw [show at_ + 1 + 1 + 1 + 1=at_ + 4 by omega],⟨by omega,by omega⟩⟩
  ·simp only [Bool.and_true,Bool.and_eq_false_iff,decide_eq_false_iff_not] at c
   exact ⟨x,y,z,by rw [show at_ + 1 + 1 + 1 + 1=at_ + 4 by omega],⟨by omega,by omega⟩⟩
 obtain ⟨r,hr,x,y,z,rfl,h⟩:=this
 exact Y.bE hr (k x y z h)
theorem clouds_spec (most:Int) (hm:1≤most∧most≤64) (n:Nt) (L:List Int) (z0 z1 z2 z3 z4 z5 z6 z7 z8 z9 z10 z11 z12 z13 z14 z15:Int) (zl:List Int) (hsl:1≤n.sl∧n.sl≤most) (m:Nat):∀ (j:Nat) (_:((j + m:Nat):Int)=n.sl) (at_:Int) (_:0≤at_) (_:at_ + 2 * m≤1000) (c:List Int) (_:c.length=j) (_:∀ x ∈ c,0≤x∧x≤4),
  Y (g13.D1 (n.sl,(j:Int),L,at_,z0,z1,z2,z3,z4,z5,z6,z7,z8,z9,z10,z11,z12,z13,z14,z15,n.lat,n.lon,n.sat,n.ang,n.num,n.den,n.beg,n.lng,n.sl,n.sx,n.sy,n.sz,n.mx,n.my,n.mz,n.dusk,zl,c)) fun r=>∃ (c':List Int) (at':Int),r=({ n with cl:=c' }:Nt).r L at'∧(c'.length:Int)=n.sl∧(∀ x ∈ c',0≤x∧x≤4)∧0≤at'∧at'≤1000:=by
 induction m with
 | zero=>exact fun j e at_ a0 a1 c h1 h2=>Y.of (g13.D1_of _) (Y.nd (by omega) (Y.some ⟨c,at_,rfl,by omega,h2,a0,by omega⟩))
 | succ m ih=>
  intro j e at_ a0 a1 c h1 h2
  have step (x:Int) (hx:0≤x∧x≤4) (at':Int) (b0:0≤at') (b1:at' + 2 * m≤1000):Y (g13.D2 (x,n.sl,(j:Int),L,at',z0,z1,z2,z3,z4,z5,z6,z7,z8,z9,z10,z11,z12,z13,z14,z15,n.lat,n.lon,n.sat,n.ang,n.num,n.den,n.beg,n.lng,n.sl,n.sx,n.sy,n.sz,n.mx,n.my,n.mz,n.dusk,zl,c)) fun r=>∃ (c':List Int) (at':Int),r=({ n with cl:=c' }:Nt).r L at'∧(c'.length:Int)=n.sl∧(∀ x ∈ c',0≤x∧x≤4)∧0≤at'∧at'≤1000:=by
   refine Y.of (g13.D2_of _) (Y.pd ?_ (Y.of (g13.D3_of _) ?_))
   ·show c.length + 1≤_
    omega
   ·dsimp only [g13.d3]
    rw [w64 (x:=(j:Int) + 1) (by omega) (by omega)]
    refine ih (j + 1) (by omega) at' b0 b1 (c++[x]) (by rw [List.length_append,h1]; rfl) fun y hy=>?_
    rcases List.mem_append.mp hy with hy | hy
    ·exact h2 y hy
    ·rw [List.mem_singleton.mp hy]
     exact hx
  refine Y.of (g13.D1_of _) (Y.pd (by omega) (Y.next L at_ 5 (by omega) (by omega) (by omega) (by omega) fun x x0 x1=>Y.ite (fun _=>Y.next L (at_ + 1) 5 (by omega) (by omega) (by omega) (by omega) fun y y0 y1=>step y ⟨y0,by omega⟩ (at_ + 1 + 1) (by omega) (by omega)) fun _=>step 0 (by decide) (at_ + 1) (by omega) (by omega)))
theorem Y.night {β:Type} {f:g13.R→Option β} {Q:β→Prop} (most:Int) (hm:1≤most∧most≤64) (L:List Int)
  (k:∀ (n:Nt) (at_:Int),n.Ok most→0≤at_→at_≤1000→Y (f (n.r L at_)) Q):Y (bnd (g13.F (most,L,0)) f) Q:=by
 have:Y (g13.F (most,L,0)) fun r=>∃ (n:Nt) (at_:Int),r=n.r L at_∧n.Ok most∧0≤at_∧at_≤1000:=by
  refine Y.of (g13.F_of _) ?_
  refine Y.range 1 most L (0) (by omega) (by omega) (by omega) (by omega) (by omega) fun sl s0 s1=>?_
  refine Y.range 60 1800 L (0 + 1) (by omega) (by omega) (by omega) (by omega) (by omega) fun lg g0 g1=>?_
  refine Y.range (-1000) 1000 L (0 + 1 + 1) (by omega) (by omega) (by omega) (by omega) (by omega) fun bg b0 b1=>?_
  refine Y.range (-16) 16 L (0 + 1 + 1 + 1) (by omega) (by omega) (by omega) (by omega) (by omega) fun la l0 l1=>?_
  refine Y.next L (0 + 1 + 1 + 1 + 1) 64 (by omega) (by omega) (by omega) (by omega) fun lo o0 o1=>?_
  refine Y.range (-1000) 1000 L (0 + 1 + 1 + 1 + 1 + 1) (by omega) (by omega) (by omega) (by omega) (by omega) fun sa t0 t1=>?_
  refine Y.next L (0 + 1 + 1 + 1 + 1 + 1 + 1) 1073741824 (by omega) (by omega) (by omega) (by omega) fun an n0 n1=>?_
  refine Y.next L (0 + 1 + 1 + 1 + 1 + 1 + 1 + 1) 4 (by omega) (by omega) (by omega) (by omega) fun i i0 i1=>Y.pd ⟨i0,i1⟩ ?_
  have hr:RateOk (rd (.pair (.int .i64) (.int .i64)) [(99429,1994),(50,1),(1,1),(100,1)] i).1 (rd (.pair (.int .i64) (.int .i64)) [(99429,1994),(50,1),(1,1),(100,1)] i).2:=by
   rcases (show i=0∨i=1∨i=2∨i=3 by omega) with rfl | rfl | rfl | rfl
   ·exact .inl ⟨rfl,rfl⟩
   ·exact .inr (.inl ⟨rfl,rfl⟩)
   ·exact .inr (.inr (.inl ⟨rfl,rfl⟩))
   ·exact .inr (.inr (.inr ⟨rfl,rfl⟩))
  refine Y.vec L (0 + 1 + 1 + 1 + 1 + 1 + 1 + 1 + 1) (by omega) (by omega) fun sx sy sz hs=>?_
  refine Y.vec L (0 + 1 + 1 + 1 + 1 + 1 + 1 + 1 + 1 + 4) (by omega) (by omega) fun mx my mz hm'=>?_
  refine Y.next L (0 + 1 + 1 + 1 + 1 + 1 + 1 + 1 + 1 + 4 + 4) 3 (by omega) (by omega) (by omega) (by omega) fun du d0 d1=>?_
  refine Y.next L (0 + 1 + 1 + 1 + 1 + 1 + 1 + 1 + 1 + 4 + 4 + 1) 4 (by omega) (by omega) (by omega) (by omega) fun x x0 x1=>?_
  dsimp only
  rw [w64 (x:=la * 67108864) (by omega) (by omega),w64 (x:=lo * 67108864) (by omega) (by omega),w64 (x:=bg * 997000) (by omega) (by omega),w64 (x:=lg * 1000) (by omega) (by omega),w64 (x:=0 - du) (by omega) (by omega),w64 (x:=(0 - du) * 134217728) (by omega) (by omega)]
  have fin (lat sx sy sz dusk:Int) (h1:-1073741824≤lat∧lat≤1073741824) (h2:Vok sx sy sz) (h3:-1073741824≤dusk∧dusk≤0) (at_:Int) (a0:0≤at_) (a1:at_≤800) (z0 z1 z2 z3 z4 z5 z6 z7 z8 z9 z10 z11 z12 z13 z14 z15:Int) (zl:List Int) (num den:Int) (hr:RateOk num den) :
    Y (g13.D0 (L,at_,z0,z1,z2,z3,z4,z5,z6,z7,z8,z9,z10,z11,z12,z13,z14,z15,lat,lo * 67108864,sa,an,num,den,bg * 997000,lg * 1000,sl,sx,sy,sz,mx,my,mz,dusk,zl,[])) fun r=>∃ (n:Nt) (at_:Int),r=n.r L at_∧n.Ok most∧0≤at_∧at_≤1000:=by
   refine Y.of (g13.D0_of _) ?_
   refine Y.mono (clouds_spec most hm ⟨lat,lo * 67108864,sa,an,num,den,bg * 997000,lg * 1000,sl,sx,sy,sz,mx,my,mz,dusk,[]⟩ L z0 z1 z2 z3 z4 z5 z6 z7 z8 z9 z10 z11 z12 z13 z14 z15 zl ⟨s0,s1⟩ sl.toNat 0 (by show ((0 + sl.toNat:Nat):Int)=sl; omega) at_ a0 (by omega) [] rfl (fun x hx=>absurd hx (by simp))) ?_
   rintro r ⟨c',at',rfl,h4,h5,h6,h7⟩
   refine ⟨_,at',rfl,?_,h6,h7⟩
   exact ⟨⟨s0,s1⟩,(by show 60000≤lg * 1000∧lg * 1000≤1800000; omega),(by show -997000000≤bg * 997000∧bg * 997000≤997000000; omega),h1,(by show 0≤lo * 67108864∧lo * 67108864 < 4294967296; omega),⟨t0,t1⟩,⟨n0,n1⟩,hr,h2,hm',h3,h4,h5⟩
  refine Y.ite (fun _=>Y.ite (fun _=>?_) fun _=>?_) fun _=>?_
  ·exact fin _ _ _ _ _ (by decide) ⟨by decide,by decide⟩ (by decide) _ (by omega) (by omega) _ _ _ _ _ _ _ _ _ _ _ _ _ _ _ _ _ _ _ hr
  ·exact fin _ _ _ _ _ (by decide) ⟨by decide,by decide⟩ (by decide) _ (by omega) (by omega) _ _ _ _ _ _ _ _ _ _ _ _ _ _ _ _ _ _ _ hr
  ·exact fin _ _ _ _ _ (by omega) hs (by omega) _ (by omega) (by omega) _ _ _ _ _ _ _ _ _ _ _ _ _ _ _ _ _ _ _ hr
 obtain ⟨r,hr,n,at_,rfl,h1,h2,h3⟩:=this
 exact Y.bE hr (k n at_ h1 h2 h3)
end Go.Proofs.RSl
namespace Go.Proofs.RSl
open Go Go.Eng
set_option linter.unusedVariables false
structure Ax where
 (lo hi sp ac:Int)
structure Ax.Ok (a:Ax):Prop where
 lo:-17179869184≤a.lo
 hi:a.hi≤17179869184
 le:a.lo≤a.hi
 sp:16777216≤a.sp∧a.sp≤1073741824
 ac:1≤a.ac∧a.ac≤a.sp∧a.sp≤a.ac * 64
theorem axis_ok {a:Ax} (h:a.Ok):g0.F (a.lo,a.hi,a.sp,a.ac)=some 0:=by
 obtain ⟨h1,h2,h3,h4,h5⟩:=h
 refine Y.is (Y.of (g0.F_of _) (Y.neg ?_ (Y.nd (by omega) (Y.neg ?_ (Y.some rfl)))))
 ·simp only [Bool.or_eq_false_iff,decide_eq_false_iff_not]
  omega
 ·rw [w64 (x:=a.ac * 64) (by omega) (by omega)]
  simp only [Bool.or_eq_false_iff,decide_eq_false_iff_not]
  omega
theorem in_is (a b c d x:Int):g1.F (a,b,c,d,x)=some (decide (a≤x) && decide (x≤b)):=Y.is (Y.of (g1.F_of _) (Y.some rfl))
theorem in_ok {a b x:Int} (c d:Int) (h0:a≤x) (h1:x≤b):g1.F (a,b,c,d,x)=some true:=by rw [in_is]; simp [h0,h1]
theorem slew_mod_spec (x:Int):Y (g6.F x) fun (r:Int)=>0≤r∧r < 4294967296:=by
 have h1:=Int.tmod_lt_of_pos x (b:=4294967296) (by decide)
 have h2:=Int.lt_tmod_of_pos x (b:=4294967296) (by decide)
 refine Y.of (g6.F_of _) (Y.nn (by decide) (Y.ite (fun c=>Y.of (g6.D0_of _) (Y.some ?_)) fun c=>Y.of (g6.D0_of _) (Y.some ?_)))
 ·rw [w64 (by omega) (by omega)]
  omega
 ·exact ⟨by omega,by omega⟩
theorem slew_abs_is (x:Int):g2.F x=some (max x (wrap .i64 (0 - x))):=Y.is (Y.of (g2.F_of _) (Y.some rfl))
theorem target_spec {a:Ax} (h:a.Ok) (s w:Int) (h0:a.lo≤s) (h1:s≤a.hi):Y (g7.F (a.lo,a.hi,a.sp,a.ac,s,w)) fun r=>r.2=0→a.lo≤r.1∧r.1≤a.hi:=by
 have h2:=h.lo
 have h3:=h.hi
 have loop (m:Nat):∀ p best:Int,a.hi - p < m→a.lo≤p→p≤21474836480→a.lo≤best→best≤a.hi→Y (g7.D0 (s,p,best,a.lo,a.hi,a.sp,a.ac)) fun r=>r.2=0→a.lo≤r.1∧r.1≤a.hi:=by
  induction m with
  | zero=>exact fun p best e _ _ b0 b1=>Y.of (g7.D0_of _) (Y.nd (by omega) (Y.some fun _=>⟨b0,b1⟩))
  | succ m ih=>
   intro p best e p0 p1 b0 b1
   refine Y.of (g7.D0_of _) (Y.ite (fun c=>Y.bE (slew_abs_is _) (Y.bE (slew_abs_is _) (Y.ite (fun _=>Y.of (g7.D1_of _) ?_) fun _=>Y.of (g7.D1_of _) ?_))) fun _=>Y.some fun _=>⟨b0,b1⟩)
   ·dsimp only [g7.d1]
    rw [w64 (x:=p + 4294967296) (by omega) (by omega)]
    exact ih _ _ (by omega) (by omega) (by omega) p0 c
   ·dsimp only [g7.d1]
    rw [w64 (x:=p + 4294967296) (by omega) (by omega)]
    exact ih _ _ (by omega) (by omega) (by omega) b0 b1
 refine Y.of (g7.F_of _) (Y.bE (axis_ok h) (Y.neg (by decide) (Y.bE (in_ok _ _ h0 h1) (Y.neg (by decide) (Y.bnd _ (slew_mod_spec _) fun (x:Int) (hx:0≤x∧x < 4294967296)=>Y.bnd _ (slew_mod_spec _) fun (y:Int) (hy:0≤y∧y < 4294967296)=>Y.bnd _ (slew_mod_spec _) fun (z:Int) (hz:0≤z∧z < 4294967296)=>?_)))))
 rw [w64 (x:=a.lo + z) (by omega) (by omega)]
 refine Y.ite (fun _=>Y.some fun e=>absurd e (by decide)) fun c=>?_
 exact loop (a.hi - (a.lo + z) + 1).toNat _ _ (by omega) (by omega) (by omega) (by omega) (by omega)
def tri (k:Nat):Nat:=k * (k + 1) / 2
theorem tri_all:∀ k:Nat,k < 66→k * (k + 1)=2 * tri k∧(k + 1) * k=2 * tri k∧k≤tri k∧tri k≤2145:=by decide
theorem tri_up (k:Nat) (h:k < 66):(wrap .i64 ((k:Int) * wrap .i64 ((k:Int) + 1))).tdiv 2=tri k:=by
 obtain ⟨h1,h2,h3,h4⟩:=tri_all k h
 have e:(k:Int) * ((k:Int) + 1)=2 * (tri k:Int):=by exact_mod_cast h1
 rw [w64 (x:=(k:Int) + 1) (by omega) (by omega),e,w64 (by omega) (by omega)]
 exact Int.mul_tdiv_cancel_left _ (by decide)
theorem tri_down (k:Nat) (h:k < 66):(wrap .i64 (((k:Int) + 1) * wrap .i64 ((k:Int) + 1 - 1))).tdiv 2=tri k:=by
 obtain ⟨h1,h2,h3,h4⟩:=tri_all k h
 have e:((k:Int) + 1) * (k:Int)=2 * (tri k:Int):=by exact_mod_cast h2
 rw [show (k:Int) + 1 - 1=k by omega,w64 (x:=(k:Int)) (by omega) (by omega),e,w64 (by omega) (by omega)]
 exact Int.mul_tdiv_cancel_left _ (by decide)
theorem fastest_spec {a:Ax} (h:a.Ok) (d:Int) (h0:1≤d) (h1:d≤1099511627776):Y (g3.F (a.lo,a.hi,a.sp,a.ac,d)) fun (r:Int)=>1≤r∧r≤a.sp:=by
 obtain ⟨a1,a2,a3⟩:=h.ac
 have hs:=h.sp
 have pr (t:Nat) (ht:t≤2145):(t:Int)≤a.ac * t∧a.ac * t≤1073741824 * 2145:=by
  constructor
  ·have:=Int.mul_le_mul_of_nonneg_right a1 (show (0:Int)≤t by omega)
   omega
  ·exact Int.mul_le_mul (by omega) (by omega) (by omega) (by decide)
 have loop (m:Nat):∀ j:Nat,j + m=64→a.ac * (tri j:Int) < d→Y (g3.D0 (d,(j:Int) + 1,a.lo,a.hi,a.sp,a.ac)) fun (r:Int)=>1≤r∧r≤a.sp:=by
  induction m with
  | zero=>exact fun j e _=>Y.of (g3.D0_of _) (Y.nd (by omega) (Y.some ⟨by omega,by omega⟩))
  | succ m ih=>
   intro j e hd
   obtain ⟨t1,t2,t3,t4⟩:=tri_all j (by omega)
   obtain ⟨u1,u2,u3,u4⟩:=tri_all (j + 1) (by omega)
   have p1:=pr (tri j) t4
   have p2:=pr (tri (j + 1)) u4
   have e1:=tri_up (j + 1) (by omega)
   rw [show (((j + 1:Nat):Int))=(j:Int) + 1 by omega] at e1
   have e2:=tri_down j (by omega)
   refine Y.of (g3.D0_of _) (Y.pd (by omega) (Y.nn (by decide) ?_))
   rw [e1,w64 (x:=(tri (j + 1):Int)) (by omega) (by omega),w64 (x:=a.ac * (tri (j + 1):Int)) (by omega) (by omega)]
   refine Y.ite (fun _=>Y.nn (by decide) (Y.nn (by omega) (Y.some ?_))) fun c=>?_
   ·rw [e2,w64 (x:=(tri j:Int)) (by omega) (by omega),w64 (x:=a.ac * (tri j:Int)) (by omega) (by omega),w64 (x:=d + a.ac * (tri j:Int)) (by omega) (by omega),Int.tdiv_eq_ediv_of_nonneg (by omega)]
    have q1:1≤(d + a.ac * (tri j:Int)) / ((j:Int) + 1):=Int.le_ediv_of_mul_le (by omega) (by omega)
    have q2:(d + a.ac * (tri j:Int)) / ((j:Int) + 1)≤d + a.ac * (tri j:Int):=Int.ediv_le_self _ (by omega)
    rw [w64 (by omega) (by omega)]
    exact ⟨by omega,by omega⟩
   ·rw [w64 (x:=(j:Int) + 1 + 1) (by omega) (by omega)]
    have:=ih (j + 1) (by omega) (by omega)
    rw [show (((j + 1:Nat):Int))=(j:Int) + 1 by omega] at this
    exact this
 exact Y.of (g3.F_of _) (loop 64 0 rfl (by show a.ac * ((0:Nat):Int) < d; omega))
theorem stop_spec {a:Ax} (h:a.Ok):Y (g4.F (a.lo,a.hi,a.sp,a.ac)) fun (r:Int)=>-9223372036854775808≤r∧r≤9223372036854775807:=by
 have:=h.ac
 exact Y.of (g4.F_of _) (Y.nn (by omega) (Y.nn (by decide) (Y.some (w64_range _))))
theorem steps_spec {a:Ax} (h:a.Ok) (s w:Int) (h0:a.lo≤s) (h1:s≤a.hi) (g0:a.lo≤w) (g1:w≤a.hi):Y (g5.F (a.lo,a.hi,a.sp,a.ac,s,w)) fun _=>True:=by
 have h2:=h.lo
 have h3:=h.hi
 have h4:=h.sp
 obtain ⟨a1,a2,a3⟩:=h.ac
 have loop (m:Nat):∀ d v n:Int,d < m→-9223372036854775808≤d→d≤1099511627776→0≤v→v≤a.sp→Y (g5.D0 (d,v,n,a.lo,a.hi,a.sp,a.ac)) fun _=>True:=by
  have stop (d v n:Int) (c:¬ 0 < d):Y (g5.D0 (d,v,n,a.lo,a.hi,a.sp,a.ac)) fun _=>True:=
   Y.of (g5.D0_of _) (Y.nd c (Y.ite (fun _=>Y.of (g5.D2_of _) (Y.some trivial)) fun _=>Y.of (g5.D2_of _) (Y.some trivial)))
  induction m with
  | zero=>exact fun d v n e _ _ _ _=>stop d v n (by omega)
  | succ m ih=>
   intro d v n e d0 d1 v0 v1
   by_cases c:0 < d
   ·refine Y.of (g5.D0_of _) (Y.pd c (Y.bnd _ (fastest_spec h d (by omega) d1) fun (r:Int) (hr:1≤r∧r≤a.sp)=>Y.bnd _ (stop_spec h) fun (x:Int) (hx:-9223372036854775808≤x∧x≤9223372036854775807)=>Y.nn (by omega) ?_))
    rw [w64 (x:=v + a.ac) (by omega) (by omega)]
    refine Y.bif (fun k=>Y.of (g5.D1_of _) ?_) fun k=>Y.of (g5.D1_of _) ?_
    ·have hw:=w64_range (d - x)
     generalize wrap .i64 (d - x)=y at k hw ⊢
     have q0:=Int.tdiv_eq_ediv (a:=y) (b:=a.sp)
     rw [Bool.and_eq_true,decide_eq_true_eq,decide_eq_true_eq] at k
     obtain ⟨k1,k2⟩:=k
     by_cases y0:0≤y
     ·rw [Int.tdiv_eq_ediv_of_nonneg y0] at k2 ⊢
      have q1:y / a.sp≤y:=Int.ediv_le_self _ y0
      have q2:0≤y / a.sp:=Int.ediv_nonneg y0 (by omega)
      have q3:(y / a.sp) * a.sp≤y:=Int.ediv_mul_le y (by omega)
      rw [w64 (x:=y / a.sp) (by omega) (by omega)] at k2 ⊢
      have q4:(y / a.sp - 1) * a.sp=(y / a.sp) * a.sp - a.sp:=by rw [Int.sub_mul,Int.one_mul]
      have q5:1 * a.sp≤(y / a.sp - 1) * a.sp:=Int.mul_le_mul_of_nonneg_right (by omega) (by omega)
      dsimp only [g5.d1]
      rw [w64 (x:=y / a.sp - 1) (by omega) (by omega),w64 (x:=(y / a.sp - 1) * a.sp) (by omega) (by omega),w64 (x:=d - (y / a.sp - 1) * a.sp) (by omega) (by omega),w64 (x:=d - (y / a.sp - 1) * a.sp - min (v + a.ac) r) (by omega) (by omega)]
      exact ih _ _ _ (by omega) (by omega) (by omega) (by omega) (by omega)
     ·exfalso
      have q1:Int.tdiv y a.sp≤0:=by
       rw [show y = -(-y) by omega,Int.neg_tdiv]
       have:=Int.tdiv_nonneg (a:=-y) (b:=a.sp) (by omega) (by omega)
       omega
      have q2:-9223372036854775808≤Int.tdiv y a.sp:=by
       rw [show y = -(-y) by omega,Int.neg_tdiv,Int.tdiv_eq_ediv_of_nonneg (by omega)]
       have:(-y) / a.sp≤-y:=Int.ediv_le_self _ (by omega)
       omega
      rw [w64 q2 (by omega)] at k2
      omega
    ·dsimp only [g5.d1]
     rw [w64 (x:=d - min (v + a.ac) r) (by omega) (by omega)]
     exact ih _ _ _ (by omega) (by omega) (by omega) (by omega) (by omega)
   ·exact stop d v n c
 refine Y.of (g5.F_of _) (Y.bE (axis_ok h) (Y.neg (by decide) (Y.bE (in_ok _ _ h0 h1) (Y.pos (by decide) (Y.bE (in_ok _ _ g0 g1) (Y.neg (by decide) (Y.bE (slew_abs_is _) ?_)))))))
 rw [w64 (x:=w - s) (by omega) (by omega),w64 (x:=0 - (w - s)) (by omega) (by omega)]
 exact loop (max (w - s) (0 - (w - s)) + 1).toNat _ _ _ (by omega) (by omega) (by omega) (by omega) (by omega)
structure Mt where
 (az al:Ax)
 (pz pl:Int)
@[reducible] def Mt.w {β:Type} (m:Mt) (b:β):Int×Int×Int×Int×Int×Int×Int×Int×Int×Int×β:=(m.az.lo,m.az.hi,m.az.sp,m.az.ac,m.al.lo,m.al.hi,m.al.sp,m.al.ac,m.pz,m.pl,b)
@[reducible] def Mt.e (m:Mt):g71.A:=(m.az.lo,m.az.hi,m.az.sp,m.az.ac,m.al.lo,m.al.hi,m.al.sp,m.al.ac,m.pz,m.pl)
structure Mt.Ok (m:Mt):Prop where
 az:m.az.Ok
 al:m.al.Ok
 pz:m.az.lo≤m.pz∧m.pz≤m.az.hi
 pl:m.al.lo≤m.pl∧m.pl≤m.al.hi
theorem mount_ok {m:Mt} (h:m.Ok):g71.F m.e=some 0:=
 Y.is (Y.of (g71.F_of _) (Y.bE (axis_ok h.az) (Y.neg (by decide) (Y.bE (axis_ok h.al) (Y.neg (by decide) (Y.bE (in_ok _ _ h.pz.1 h.pz.2) (Y.pos (by decide) (Y.bE (in_ok _ _ h.pl.1 h.pl.2) (Y.neg (by decide) (Y.some rfl))))))))))
theorem to_spec {m:Mt} (h:m.Ok) (x y u v:Int) (h0:m.az.lo≤x∧x≤m.az.hi) (h1:m.al.lo≤y∧y≤m.al.hi):Y (g72.F (m.w (x,y,u,v))) fun _=>True:=by
 refine Y.of (g72.F_of _) (Y.bE (mount_ok h) (Y.neg (by decide) (Y.bnd _ (target_spec h.az x u h0.1 h0.2) fun r hr=>Y.nite (fun _=>Y.some trivial) fun c=>Y.bnd _ (target_spec h.al y v h1.1 h1.2) fun s hs=>Y.nite (fun _=>Y.some trivial) fun k=>?_)))
 obtain ⟨r1,r2⟩:=hr c
 obtain ⟨s1,s2⟩:=hs k
 exact Y.bnd _ (steps_spec h.az x _ h0.1 h0.2 r1 r2) fun _ _=>Y.bnd _ (steps_spec h.al y _ h1.1 h1.2 s1 s2) fun _ _=>Y.some trivial
end Go.Proofs.RSl
namespace Go.Proofs.RSl
open Go Go.Eng
set_option linter.unusedVariables false
def AxC (lo hi S a:Int):Prop:=-17179869184≤lo∧hi≤17179869184∧lo≤hi∧16777216≤S∧S≤1073741824∧1≤a∧a≤S∧S≤a * 64
theorem AxC.ok {lo hi S a:Int} (h:AxC lo hi S a):(⟨lo,hi,S,a⟩:Ax).Ok:=⟨h.1,h.2.1,h.2.2.1,⟨h.2.2.2.1,h.2.2.2.2.1⟩,⟨h.2.2.2.2.2.1,h.2.2.2.2.2.2.1,h.2.2.2.2.2.2.2⟩⟩
theorem tdiv_nn {a b:Int} (h:0≤a):Int.tdiv a b=a / b:=Int.tdiv_eq_ediv_of_nonneg h
theorem inside_spec (lo hi S a:Int) (L:List Int) (at_:Int) (ha:0≤at_) (hb:at_≤1000000000) (h0:-17179869184≤lo) (h1:hi≤17179869184) (h2:lo≤hi):Y (g15.F (lo,hi,S,a,L,at_)) fun r=>∃ x at',r=(x,L,at')∧lo≤x∧x≤hi∧at_≤at'∧at'≤at_ + 3:=by
 refine Y.of (g15.F_of _) (Y.next L at_ 6 ha (by omega) (by omega) (by omega) fun c c0 c1=>?_)
 refine Y.ite (fun _=>Y.some ⟨lo,at_ + 1,rfl,by omega,by omega,by omega,by omega⟩) (fun _=>Y.ite (fun _=>Y.some ⟨hi,at_ + 1,rfl,by omega,by omega,by omega,by omega⟩) (fun _=>Y.np' (by decide) ?_))
 refine Y.next L (at_ + 1) 1000 (by omega) (by omega) (by omega) (by omega) fun r r0 r1=>?_
 rw [w64 (x:=hi - lo) (by omega) (by omega),tdiv_nn (a:=hi - lo) (by omega),w64 (x:=(hi - lo) / 1000) (by omega) (by omega),w64 (x:=(hi - lo) / 1000 + 1) (by omega) (by omega)]
 obtain ⟨d,hd⟩:∃ d:Int,d=(hi - lo) / 1000:=⟨_,rfl⟩
 rw [← hd]
 have d0:0≤d∧d * 1000≤hi - lo:=by omega
 refine Y.next L (at_ + 1 + 1) (d + 1) (by omega) (by omega) (by omega) (by omega) fun s s0 s1=>?_
 have p0:0≤d * r:=Int.mul_nonneg d0.1 r0
 have p1:d * r≤d * 999:=Int.mul_le_mul_of_nonneg_left (by omega) d0.1
 have e:∀ pr:Int,0≤pr→pr≤d * 999→Y (some ((wrap .i64 (wrap .i64 (lo + wrap .i64 pr) + s),L,at_ + 1 + 1 + 1):g15.R)) fun r=>∃ x at',r=(x,L,at')∧lo≤x∧x≤hi∧at_≤at'∧at'≤at_ + 3:=by
  intro pr q0 q1
  rw [w64 (x:=pr) (by omega) (by omega),w64 (x:=lo + pr) (by omega) (by omega),w64 (x:=lo + pr + s) (by omega) (by omega)]
  exact Y.some ⟨lo + pr + s,at_ + 1 + 1 + 1,rfl,by omega,by omega,by omega,by omega⟩
 exact e (d * r) p0 p1
theorem Y.inside {β:Type} {f:g15.R→Option β} {Q:β→Prop} (lo hi S a:Int) (L:List Int) (at_:Int) (ha:0≤at_) (hb:at_≤1000000000) (h0:-17179869184≤lo) (h1:hi≤17179869184) (h2:lo≤hi)
  (k:∀ x at',lo≤x→x≤hi→at_≤at'→at'≤at_ + 3→Y (f (x,L,at')) Q):Y (bnd (g15.F (lo,hi,S,a,L,at_)) f) Q:=by
 obtain ⟨r,hr,x,at',rfl,h3,h4,h5,h6⟩:=inside_spec lo hi S a L at_ ha hb h0 h1 h2
 exact Y.bE hr (k x at' h3 h4 h5 h6)
theorem shl_spec (r:Int) (h0:24≤r) (h1:r≤30):16777216≤shl .i64 1 r∧shl .i64 1 r≤1073741824∧(shl .i64 1 r=16777216∨33554432≤shl .i64 1 r):=by
 have hc:r=24∨r=25∨r=26∨r=27∨r=28∨r=29∨r=30:=by omega
 rcases hc with h | h | h | h | h | h | h <;> subst h <;> decide
def Axes (L:List Int) (at0 at1:Int) (r:g14.R):Prop:=∃ lo hi S a at',r=(lo,hi,S,a,L,at')∧AxC lo hi S a∧at0≤at'∧at'≤at1
theorem axis_tail (L:List Int) (S a at_:Int) (ha:0≤at_) (hb:at_≤1000000000) (h3:16777216≤S) (h4:S≤1073741824) (h5:1≤a) (h6:a≤S) (h7:S≤a * 64) (u1 u2 u3 u4:Int) :
  Y (g14.D0 (S,a,L,at_,u1,u2,u3,u4)) (Axes L at_ (at_ + 5)):=by
 have fin:∀ lo hi at':Int,-17179869184≤lo→hi≤17179869184→lo≤hi→at_≤at'→at'≤at_ + 5→∀ u1 u2 u3 u4,Y (g14.D1 (S,a,lo,hi,L,at',u1,u2,u3,u4)) (Axes L at_ (at_ + 5)):=by
  intro lo hi at' g0 g1 g2 g3 g4 u1 u2 u3 u4
  exact Y.of (g14.D1_of _) (Y.some ⟨lo,hi,S,a,at',rfl,⟨g0,g1,g2,h3,h4,h5,h6,h7⟩,g3,g4⟩)
 refine Y.of (g14.D0_of _) ?_
 refine Y.range 0 6 L at_ ha (by omega) (by omega) (by omega) (by omega) fun x hx0 hx1=>?_
 refine Y.range 1 6 L (at_ + 1) (by omega) (by omega) (by omega) (by omega) (by omega) fun y hy0 hy1=>?_
 refine Y.next L (at_ + 1 + 1) 4 (by omega) (by omega) (by omega) (by omega) fun z hz0 hz1=>?_
 dsimp only
 rw [w64 (x:=0 - x) (by omega) (by omega),w64 (x:=(0 - x) * 1073741824) (by omega) (by omega),w64 (x:=y * 1073741824) (by omega) (by omega)]
 refine Y.ite (fun _=>?_) (fun _=>?_)
 ·refine Y.next L (at_ + 1 + 1 + 1) 1048576 (by omega) (by omega) (by omega) (by omega) fun u hu0 hu1=>?_
  refine Y.next L (at_ + 1 + 1 + 1 + 1) 1048576 (by omega) (by omega) (by omega) (by omega) fun v hv0 hv1=>?_
  dsimp only
  rw [w64 (x:=(0 - x) * 1073741824 + u) (by omega) (by omega),w64 (x:=y * 1073741824 - v) (by omega) (by omega)]
  exact fin _ _ _ (by omega) (by omega) (by omega) (by omega) (by omega) _ _ _ _
 ·exact fin _ _ _ (by omega) (by omega) (by omega) (by omega) (by omega) _ _ _ _
theorem axis_draw (L:List Int) (at_:Int) (ha:0≤at_) (hb:at_≤100000000):Y (g14.F (L,at_)) (Axes L at_ (at_ + 10)):=by
 have widen:∀ {at2:Int} {o:Option g14.R},at_≤at2→at2≤at_ + 5→Y o (Axes L at2 (at2 + 5))→Y o (Axes L at_ (at_ + 10)):=by
  intro at2 o g0 g1 h
  refine h.mono ?_
  rintro r ⟨lo,hi,S,a,at',rfl,h1,h2,h3⟩
  exact ⟨lo,hi,S,a,at',rfl,h1,by omega,by omega⟩
 refine Y.of (g14.F_of _) (Y.range 24 30 L at_ ha (by omega) (by omega) (by omega) (by omega) fun r hr0 hr1=>Y.pd (by omega) ?_)
 obtain ⟨s0,s1,s2⟩:=shl_spec r hr0 hr1
 dsimp only
 generalize shl .i64 1 r=S at s0 s1 s2 ⊢
 refine Y.range 1 8 L (at_ + 1) (by omega) (by omega) (by omega) (by omega) (by omega) fun q hq0 hq1=>Y.np' (by omega) ?_
 have hd:1≤S / q∧S / q≤S∧S≤S / q * 60:=by
  have hc:q=1∨q=2∨q=3∨q=4∨q=5∨q=6∨q=7∨q=8:=by omega
  rcases hc with h | h | h | h | h | h | h | h <;> subst h <;> omega
 dsimp only
 rw [tdiv_nn (a:=S) (by omega),w64 (x:=S / q) (by omega) (by omega)]
 generalize S / q=a at hd ⊢
 refine Y.next L (at_ + 1 + 1) 3 (by omega) (by omega) (by omega) (by omega) fun c hc0 hc1=>?_
 refine Y.ite (fun _=>?_) (fun _=>?_)
 ·refine Y.next L (at_ + 1 + 1 + 1) 1000 (by omega) (by omega) (by omega) (by omega) fun x hx0 hx1=>Y.pd (by decide) ?_
  refine Y.next L (at_ + 1 + 1 + 1 + 1) 1000 (by omega) (by omega) (by omega) (by omega) fun y hy0 hy1=>?_
  dsimp only
  have hsh:shr .i64 (S - 16777216) 10=(S - 16777216) / 1024:=by
   rw [show shr .i64 (S - 16777216) 10=(S - 16777216).fdiv 1024 from rfl]
   exact Int.fdiv_eq_ediv_of_nonneg _ (by decide)
  rw [w64 (x:=S - 16777216) (by omega) (by omega),hsh]
  have hm:(S=16777216∧min 1 ((S - 16777216) / 1024)=0)∨(33554432≤S∧min 1 ((S - 16777216) / 1024)=1):=by omega
  generalize min 1 ((S - 16777216) / 1024)=m at hm ⊢
  have hxm:x * m=0∨(33554432≤S∧x * m=x):=by
   rcases hm with ⟨_,h⟩ | ⟨h1,h⟩
   ·left
    rw [h]
    omega
   ·right
    rw [h]
    omega
  generalize x * m=xm at hxm ⊢
  rw [w64 (x:=xm) (by omega) (by omega),w64 (x:=S - xm) (by omega) (by omega),w64 (x:=a + y) (by omega) (by omega)]
  exact widen (by omega) (by omega) (axis_tail L (S - xm) (min (a + y) (S - xm)) (at_ + 1 + 1 + 1 + 1 + 1) (by omega) (by omega) (by omega) (by omega) (by omega) (by omega) (by omega) _ _ _ _)
 ·exact widen (by omega) (by omega) (axis_tail L S a (at_ + 1 + 1 + 1) (by omega) (by omega) (by omega) (by omega) (by omega) (by omega) (by omega) _ _ _ _)
theorem Y.mount {β:Type} {f:g16.R→Option β} {Q:β→Prop} (L:List Int) (at_:Int) (ha:0≤at_) (hb:at_≤1000000)
  (k:∀ (m:Mt) (at':Int),m.Ok→at_≤at'→at'≤at_ + 100→Y (f (m.w (L,at'))) Q):Y (bnd (g16.F (L,at_)) f) Q:=by
 refine Y.bnd _ (?_:Y _ fun r=>∃ (m:Mt) (at':Int),r=m.w (L,at')∧m.Ok∧at_≤at'∧at'≤at_ + 100) fun r hr=>?_
 ·have fin:∀ (lo hi S a lo2 hi2 S2 a2 at1:Int),AxC lo hi S a→AxC lo2 hi2 S2 a2→at_≤at1→at1≤at_ + 90→∀ (x1 x2 x3 x4 x5 x6 x7 x8 x9 xa y1 y2:Int),Y (g16.D1 (L,at1,x1,x2,x3,x4,x5,x6,x7,x8,x9,xa,lo,hi,S,a,lo2,hi2,S2,a2,y1,y2)) fun r=>∃ (m:Mt) (at':Int),r=m.w (L,at')∧m.Ok∧at_≤at'∧at'≤at_ + 100:=by
   intro lo hi S a lo2 hi2 S2 a2 at1 h1 h2 a0 a1 x1 x2 x3 x4 x5 x6 x7 x8 x9 xa y1 y2
   refine Y.of (g16.D1_of _) (Y.inside lo hi S a L at1 (by omega) (by omega) h1.1 h1.2.1 h1.2.2.1 fun p at2 p0 p1 b0 b1=>?_)
   refine Y.inside lo2 hi2 S2 a2 L at2 (by omega) (by omega) h2.1 h2.2.1 h2.2.2.1 fun q at3 q0 q1 b2 b3=>?_
   exact Y.some ⟨⟨⟨lo,hi,S,a⟩,⟨lo2,hi2,S2,a2⟩,p,q⟩,at3,rfl,⟨h1.ok,h2.ok,⟨p0,p1⟩,⟨q0,q1⟩⟩,by omega,by omega⟩
  have mid:∀ (lo hi S a lo2 hi2 S2 a2 at1:Int),AxC lo hi S a→AxC lo2 hi2 S2 a2→at_≤at1→at1≤at_ + 80→∀ (x1 x2 x3 x4 x5 x6 x7 x8 x9 xa y1 y2:Int),Y (g16.D0 (L,at1,x1,x2,x3,x4,x5,x6,x7,x8,x9,xa,lo,hi,S,a,lo2,hi2,S2,a2,y1,y2)) fun r=>∃ (m:Mt) (at':Int),r=m.w (L,at')∧m.Ok∧at_≤at'∧at'≤at_ + 100:=by
   intro lo hi S a lo2 hi2 S2 a2 at1 h1 h2 a0 a1 x1 x2 x3 x4 x5 x6 x7 x8 x9 xa y1 y2
   refine Y.of (g16.D0_of _) (Y.next L at1 3 (by omega) (by omega) (by omega) (by omega) fun c c0 c1=>?_)
   dsimp only
   refine Y.ite (fun _=>fin lo hi S a _ _ S2 a2 _ h1 ⟨by decide,by decide,by decide,h2.2.2.2⟩ (by omega) (by omega) _ _ _ _ _ _ _ _ _ _ _ _) (fun _=>fin lo hi S a lo2 hi2 S2 a2 _ h1 h2 (by omega) (by omega) _ _ _ _ _ _ _ _ _ _ _ _)
  refine Y.of (g16.F_of _) (Y.bnd _ (axis_draw L at_ (by omega) (by omega)) ?_)
  rintro r ⟨lo,hi,S,a,at1,rfl,h1,b0,b1⟩
  refine Y.bnd _ (axis_draw L at1 (by omega) (by omega)) ?_
  rintro r ⟨lo2,hi2,S2,a2,at2,rfl,h2,b2,b3⟩
  refine Y.next L at2 3 (by omega) (by omega) (by omega) (by omega) fun c c0 c1=>?_
  dsimp only
  exact Y.ite (fun _=>mid _ _ S a lo2 hi2 S2 a2 _ ⟨by decide,by decide,by decide,h1.2.2.2⟩ h2 (by omega) (by omega) _ _ _ _ _ _ _ _ _ _ _ _) (fun _=>mid lo hi S a lo2 hi2 S2 a2 _ h1 h2 (by omega) (by omega) _ _ _ _ _ _ _ _ _ _ _ _)
 ·obtain ⟨m,at',rfl,h1,h2,h3⟩:=hr
  exact k m at' h1 h2 h3
end Go.Proofs.RSl
namespace Go.Proofs.RSl
open Go Go.Eng
set_option linter.unusedVariables false
theorem aim_tot {most:Int} {n:Nt} (hn:n.Ok most) (hm:most≤64) (x y z k:Int):Y (g70.F (n.w (x,y,z,k))) fun _=>True:=
 Y.of (g70.F_of _) (Y.bE (night_ok hn hm) (Y.np rfl (Y.bif (fun _=>Y.some trivial) fun _=>Tot.y (Tot.bnd (scale_Angle_tot _) fun _=>Tot.bnd (horizon_Aim_tot _) fun _=>Tot.some))))
end Go.Proofs.RSl
namespace Go.Proofs.RSl
open Go Go.Eng
set_option linter.unusedVariables false
def Mt.In (m:Mt) (p:Int×Int):Prop:=(m.az.lo≤p.1∧p.1≤m.az.hi)∧(m.al.lo≤p.2∧p.2≤m.al.hi)
theorem to_in {m:Mt} (h:m.Ok) (x y u v:Int) (hp:m.In (x,y)):Y (g72.F (m.w (x,y,u,v))) fun r=>r.2.2.2=0→m.In (r.1,r.2.1):=by
 obtain ⟨h0,h1⟩:=hp
 refine Y.of (g72.F_of _) (Y.bE (mount_ok h) (Y.neg (by decide) (Y.bnd _ (target_spec h.az x u h0.1 h0.2) fun r hr=>Y.nite (fun c=>Y.some fun g=>absurd g c) fun c=>Y.bnd _ (target_spec h.al y v h1.1 h1.2) fun s hs=>Y.nite (fun c=>Y.some fun g=>absurd g c) fun k=>?_)))
 obtain ⟨r1,r2⟩:=hr c
 obtain ⟨s1,s2⟩:=hs k
 exact Y.bnd _ (steps_spec h.az x _ h0.1 h0.2 r1 r2) fun _ _=>Y.bnd _ (steps_spec h.al y _ h1.1 h1.2 s1 s2) fun _ _=>Y.some fun _=>⟨⟨r1,r2⟩,⟨s1,s2⟩⟩
noncomputable def stepO (n:Nt) (m:Mt) (v:Int×Int×Int) (k:Int) (p:Int×Int):Option (Int×Int×Int):=
 bnd (g70.F (n.w (v.1,v.2.1,v.2.2,k))) fun r=>br (!decide (r.2.2=0)) (some (0,0,r.2.2))
  (bnd (g72.F (m.w (p.1,p.2,r.1,r.2.1))) fun r=>br (!decide (r.2.2.2=0)) (some (0,0,r.2.2.2))
   (bnd (g2.F (wrap .i64 (r.1 - p.1))) fun a=>br (decide (1073741824 < a) == false)
    (bnd (g2.F (wrap .i64 (r.2.1 - p.2))) fun b=>br (decide (1073741824 < b)) (some (0,0,4)) (some (r.1,r.2.1,0))) (some (0,0,4))))
noncomputable def stepV (n:Nt) (m:Mt) (v:Int×Int×Int) (k:Int) (p:Int×Int):Int×Int×Int:=(stepO n m v k p).getD (0,0,1)
theorem step_is {most:Int} {n:Nt} {m:Mt} (hn:n.Ok most) (hm:most≤64) (h:m.Ok) (v:Int×Int×Int) (k:Int) (p:Int×Int) (hp:m.In p):Y (stepO n m v k p) fun r=>(r.2.2=0→m.In (r.1,r.2.1))∧(r.2.2≠0→r.1=0∧r.2.1=0):=by
 unfold stepO
 refine Y.bnd _ (aim_tot hn hm v.1 v.2.1 v.2.2 k) fun r _=>Y.nite (fun c=>Y.some ⟨fun g=>absurd g c,fun _=>⟨rfl,rfl⟩⟩) fun _=>Y.bnd _ (to_in h p.1 p.2 r.1 r.2.1 hp) fun s hs=>Y.nite (fun c=>Y.some ⟨fun g=>absurd g c,fun _=>⟨rfl,rfl⟩⟩) fun c=>Y.bE (slew_abs_is _) ?_
 refine Y.bif (fun _=>Y.bE (slew_abs_is _) (Y.ite (fun _=>Y.some ⟨fun g=>absurd g (by decide),fun _=>⟨rfl,rfl⟩⟩) fun _=>Y.some ⟨fun _=>hs c,fun g=>absurd rfl g⟩)) fun _=>Y.some ⟨fun g=>absurd g (by decide),fun _=>⟨rfl,rfl⟩⟩
theorem step_eq {most:Int} {n:Nt} {m:Mt} (hn:n.Ok most) (hm:most≤64) (h:m.Ok) (v:Int×Int×Int) (k:Int) (p:Int×Int) (hp:m.In p):stepO n m v k p=some (stepV n m v k p)∧((stepV n m v k p).2.2=0→m.In ((stepV n m v k p).1,(stepV n m v k p).2.1)):=by
 obtain ⟨r,hr,h1,h2⟩:=step_is hn hm h v k p hp
 have:stepV n m v k p=r:=by unfold stepV; rw [hr]; rfl
 rw [this]
 exact ⟨hr,h1⟩
def goes (f:Int→Int×Int→Int×Int×Int):Nat→Int→Int×Int→Int×Int×Int
 | 0,_,p=>(p.1,p.2,0)
 | c + 1,k,p=>if (f k p).2.2=0 then goes f c (k + 1) ((f k p).1,(f k p).2.1) else (0,0,(f k p).2.2)
theorem goes_add (f:Int→Int×Int→Int×Int×Int) (a:Nat):∀ (b:Nat) (k:Int) (p:Int×Int),goes f (a + b) k p=if (goes f a k p).2.2=0 then goes f b (k + a) ((goes f a k p).1,(goes f a k p).2.1) else goes f a k p:=by
 induction a with
 | zero=>
  intro b k p
  rw [Nat.zero_add,show goes f 0 k p=(p.1,p.2,0) from rfl,if_pos rfl,show k + ((0:Nat):Int)=k by omega]
 | succ a ih=>
  intro b k p
  rw [show a + 1 + b=(a + b) + 1 by omega]
  simp only [goes]
  split
  ·rw [ih,show k + 1 + (a:Int)=k + ((a + 1:Nat):Int) by omega]
  ·rename_i c
   rfl
theorem goes_in {m:Mt} (f:Int→Int×Int→Int×Int×Int) (hf:∀ k p,m.In p→(f k p).2.2=0→m.In ((f k p).1,(f k p).2.1)) (c:Nat):∀ (k:Int) (p:Int×Int),m.In p→(goes f c k p).2.2=0→m.In ((goes f c k p).1,(goes f c k p).2.1):=by
 induction c with
 | zero=>exact fun k p hp _=>hp
 | succ c ih=>
  intro k p hp h
  simp only [goes] at h ⊢
  split
  ·rename_i g
   rw [if_pos g] at h
   exact ih _ _ (hf k p hp g) h
  ·rename_i g
   rw [if_neg g] at h
   exact absurd h g
theorem track_is {most:Int} {n:Nt} {m:Mt} (hn:n.Ok most) (hm:most≤64) (h:m.Ok) (v:Int×Int×Int) (a b:Int) (p:Int×Int) (hp:m.In p) (h0:0≤a) (h1:a≤b) (h2:b≤n.sl) :
  g73.F (m.w (n.w (p.1,p.2,v.1,v.2.1,v.2.2,a,b)))=some (goes (stepV n m v) (b - a).toNat (a + 1) p):=by
 have hsl:=hn.sl
 have loop (c:Nat):∀ (k:Int) (p:Int×Int),k + c=b + 1→0≤k→m.In p→Y (g73.D0 (b,k,m.w (n.w (p.1,p.2,v.1,v.2.1,v.2.2,0,0)))) fun r=>r=goes (stepV n m v) c k p:=by
  induction c with
  | zero=>exact fun k p e _ hp=>Y.of (g73.D0_of _) (Y.nd (by omega) (Y.some rfl))
  | succ c ih=>
   intro k p e k0 hp
   obtain ⟨e1,e2⟩:=step_eq hn hm h v k p hp
   refine Y.of (g73.D0_of _) (Y.pd (by omega) ?_)
   rw [show goes (stepV n m v) (c + 1) k p=if (stepV n m v k p).2.2=0 then goes (stepV n m v) c (k + 1) ((stepV n m v k p).1,(stepV n m v k p).2.1) else (0,0,(stepV n m v k p).2.2) from rfl]
   generalize stepV n m v k p=w at e1 e2 ⊢
   obtain ⟨w1,w2,w3⟩:=w
   unfold stepO at e1
   obtain ⟨r,hr,_⟩:=aim_tot hn hm v.1 v.2.1 v.2.2 k
   obtain ⟨s,hs,hs2⟩:=to_in h p.1 p.2 r.1 r.2.1 hp
   rw [hr] at e1
   refine Y.bE hr ?_
   have e1:br (!decide (r.2.2=0)) (some (0,0,r.2.2)) (bnd (g72.F (m.w (p.1,p.2,r.1,r.2.1))) fun r=>br (!decide (r.2.2.2=0)) (some (0,0,r.2.2.2))
    (bnd (g2.F (wrap .i64 (r.1 - p.1))) fun a=>br (decide (1073741824 < a) == false)
     (bnd (g2.F (wrap .i64 (r.2.1 - p.2))) fun b=>br (decide (1073741824 < b)) (some (0,0,4)) (some (r.1,r.2.1,0))) (some (0,0,4))))=some (w1,w2,w3):=e1
   refine Y.nite (fun c0=>?_) fun c0=>Y.bE hs (Y.nite (fun c1=>?_) fun c1=>Y.bE (slew_abs_is _) ?_)
   ·rw [br_pos (by simpa using c0)] at e1
    cases e1
    exact Y.some (by rw [if_neg c0])
   ·rw [br_neg (by simpa using c0),hs] at e1
    have e1:br (!decide (s.2.2.2=0)) (some (0,0,s.2.2.2)) _=some (w1,w2,w3):=e1
    rw [br_pos (by simpa using c1)] at e1
    cases e1
    exact Y.some (by rw [if_neg c1])
   ·rw [br_neg (by simpa using c0),hs] at e1
    have e1:br (!decide (s.2.2.2=0)) (some (0,0,s.2.2.2)) (bnd (g2.F (wrap .i64 (s.1 - p.1))) fun a=>br (decide (1073741824 < a) == false)
     (bnd (g2.F (wrap .i64 (s.2.1 - p.2))) fun b=>br (decide (1073741824 < b)) (some (0,0,4)) (some (s.1,s.2.1,0))) (some (0,0,4)))=some (w1,w2,w3):=e1
    rw [br_neg (by simpa using c1),slew_abs_is] at e1
    have e1:br (decide (1073741824 < max (wrap .i64 (s.1 - p.1)) (wrap .i64 (0 - wrap .i64 (s.1 - p.1)))) == false)
     (bnd (g2.F (wrap .i64 (s.2.1 - p.2))) fun b=>br (decide (1073741824 < b)) (some (0,0,4)) (some (s.1,s.2.1,0))) (some (0,0,4))=some (w1,w2,w3):=e1
    generalize max (wrap .i64 (s.1 - p.1)) (wrap .i64 (0 - wrap .i64 (s.1 - p.1)))=A at e1 ⊢
    refine Y.bif (fun c2=>Y.bE (slew_abs_is _) ?_) fun c2=>?_
    ·rw [br_pos c2,slew_abs_is] at e1
     have e1:br (decide (1073741824 < max (wrap .i64 (s.2.1 - p.2)) (wrap .i64 (0 - wrap .i64 (s.2.1 - p.2))))) (some (0,0,4)) (some (s.1,s.2.1,0))=some (w1,w2,w3):=e1
     generalize max (wrap .i64 (s.2.1 - p.2)) (wrap .i64 (0 - wrap .i64 (s.2.1 - p.2)))=B at e1 ⊢
     refine Y.ite (fun c3=>?_) fun c3=>?_
     ·rw [br_pos (by simpa using c3)] at e1
      cases e1
      exact Y.some (by rw [if_neg (by decide)])
     ·rw [br_neg (by simpa using c3)] at e1
      cases e1
      rw [if_pos rfl,w64 (x:=k + 1) (by omega) (by omega)]
      exact ih (k + 1) (s.1,s.2.1) (by omega) (by omega) (hs2 c1)
    ·rw [br_neg (by simpa using c2)] at e1
     cases e1
     exact Y.some (by rw [if_neg (by decide)])
 refine Y.is (Y.of (g73.F_of _) (Y.bE (mount_ok h) (Y.np rfl (Y.bE (night_ok hn hm) (Y.np rfl (Y.bE (in_ok _ _ hp.1.1 hp.1.2) (Y.pos rfl (Y.bE (in_ok _ _ hp.2.1 hp.2.2) (Y.neg ?_ ?_)))))))))
 ·have e1:¬ a < 0:=by omega
  have e2:¬ b < a:=by omega
  have e3:¬ n.sl < b:=by omega
  show (!true || decide (a < 0) || decide (b < a) || decide (n.sl < b))=false
  rw [decide_eq_false e1,decide_eq_false e2,decide_eq_false e3]
  rfl
 ·rw [w64 (x:=a + 1) (by omega) (by omega)]
  exact loop (b - a).toNat (a + 1) p (by omega) (by omega) hp
end Go.Proofs.RSl
namespace Go.Proofs.RSl
open Go Go.Eng
set_option linter.unusedVariables false
theorem less_is (a b:Int):g20.F (a,b)=some (decide (a < b)):=by
 have h (x:Int):g19.F x=some false:=Y.is (Y.of (g19.F_of _) (Y.some (by simp)))
 exact Y.is (Y.of (g20.F_of _) (Y.bE (h a) (Y.neg rfl (Y.some rfl))))
def Three (P:Int→Prop) (l:List Int):Prop:=∃ p q r:Int,l=[p,q,r]∧p≤q∧q≤r∧P p∧P q∧P r
theorem insert_end {P:Int→Prop} {p q r:Int} (h1:p≤q) (h2:q≤r) (hp:P p) (hq:P q) (hr:P r):Y (g21.D0 (0,3,3,[p,q,r])) (Three P):=
 Y.of (g21.D0_of _) (Y.nd (by decide) (Y.some ⟨p,q,r,rfl,h1,h2,hp,hq,hr⟩))
theorem insert_low {Q:List Int→Prop} (i j:Int) (hj:wrap .i64 (i + 1)=j) (p q r:Int) (h:Y (g21.D0 (0,3,j,[p,q,r])) Q):Y (g21.D1 (0,3,i,0,[p,q,r])) Q:=by
 refine Y.of (g21.D1_of _) (Y.pos rfl (Y.pos rfl (Y.neg rfl (Y.pos rfl ?_))))
 rw [hj]
 exact h
theorem insert_one {Q:List Int→Prop} (i k:Int) (hk:wrap .i64 (i + 1)=k) (p q r:Int) (h1:q < p→Y (g21.D0 (0,3,k,[q,p,r])) Q) (h2:¬ q < p→Y (g21.D0 (0,3,k,[p,q,r])) Q):Y (g21.D1 (0,3,i,1,[p,q,r])) Q:=by
 refine Y.of (g21.D1_of _) (Y.pos rfl (Y.pos rfl (Y.pos rfl (Y.bE (less_is q p) ?_))))
 by_cases c:q < p
 ·refine Y.pos (by rw [decide_eq_true c]; rfl) (Y.pd (show (0:Int)≤0∧(0:Int) < 3 by decide) (Y.pd (show (0:Int)≤1∧(1:Int) < 3 by decide) (Y.pd (show (0:Int)≤1∧(1:Int) < 3 by decide) (Y.pd (show (0:Int)≤0∧(0:Int) < 3 by decide) ?_))))
  show Y (g21.D1 (0,3,i,0,[q,p,r])) Q
  exact insert_low i k hk q p r (h1 c)
 ·refine Y.neg (by rw [decide_eq_false c]; rfl) ?_
  rw [hk]
  exact h2 c
theorem insert_two {Q:List Int→Prop} (p q r:Int) (h1:r < q→Y (g21.D1 (0,3,2,1,[p,r,q])) Q) (h2:¬ r < q→Y (g21.D0 (0,3,3,[p,q,r])) Q):Y (g21.D1 (0,3,2,2,[p,q,r])) Q:=by
 refine Y.of (g21.D1_of _) (Y.pos rfl (Y.pos rfl (Y.pos rfl (Y.bE (less_is r q) ?_))))
 by_cases c:r < q
 ·refine Y.pos (by rw [decide_eq_true c]; rfl) (Y.pd (show (0:Int)≤1∧(1:Int) < 3 by decide) (Y.pd (show (0:Int)≤2∧(2:Int) < 3 by decide) (Y.pd (show (0:Int)≤2∧(2:Int) < 3 by decide) (Y.pd (show (0:Int)≤1∧(1:Int) < 3 by decide) ?_))))
  show Y (g21.D1 (0,3,2,1,[p,r,q])) Q
  exact h1 c
 ·refine Y.neg (by rw [decide_eq_false c]; rfl) ?_
  exact h2 c
theorem sort_three {P:Int→Prop} (x y z:Int) (hx:P x) (hy:P y) (hz:P z):Y (g23.F [x,y,z]) (Three P):=by
 have hb:g18.F 3=some 2:=g18.ev_is (k:=60) (by decide +kernel)
 have two:∀ p q r:Int,p≤q→P p→P q→P r→Y (g21.D0 (0,3,2,[p,q,r])) (Three P):=by
  intro p q r hpq hp hq hr
  refine Y.of (g21.D0_of _) (Y.pd (by decide) (insert_two p q r (fun c=>insert_one 2 3 (by decide) p r q (fun c2=>?_) fun c2=>?_) fun c=>?_))
  ·exact insert_end (by omega) (by omega) hr hp hq
  ·exact insert_end (by omega) (by omega) hp hr hq
  ·exact insert_end (by omega) (by omega) hp hq hr
 have ins:Y (g21.F (0,3,[x,y,z])) (Three P):=by
  refine Y.of (g21.F_of _) (Y.of (g21.D0_of _) (Y.pd (show wrap .i64 (0 + 1) < 3 by decide) ?_))
  show Y (g21.D1 (0,3,1,1,[x,y,z])) (Three P)
  exact insert_one 1 2 (by decide) x y z (fun c=>two y x z (by omega) hy hx hz) fun c=>two x y z (by omega) hx hy hz
 have pdq:∀ k,Y (g22.F (0,3,k,[x,y,z])) (Three P):=fun k=>
  Y.of (g22.F_of _) (Y.of (g22.D0_of _) (Y.pd (show wrap .i64 (3 - 0)≤12 by decide) (Y.bnd _ ins fun r hr=>Y.some hr)))
 exact Y.of (g23.F_of _) (Y.bE (show g18.F (wrap .u64 (([x,y,z]:List Int).length:Int))=some 2 from hb) (Y.bnd _ (pdq 2) fun r hr=>Y.some hr))
end Go.Proofs.RSl
namespace Go.Proofs.RSl
open Go Go.Eng
set_option linter.unusedVariables false
theorem slews_is:g8.F ()=some true:=g8.ev_is (k:=200) (by decide +kernel)
theorem follow_tracks {n:Nt} {m:Mt} (hn:n.Ok 12) (hm:m.Ok) (v:Int×Int×Int) (p q r:Int) (p0:0≤p) (pq:p≤q) (qr:q≤r) (r1:r≤n.sl) (a:Int×Int) (ha:m.In a) :
  Y (g74.D0 (n.v (m.w (v.1,v.2.1,v.2.2,[p,q,r],a.1,a.2,n.cl)))) fun r=>r=true:=by
 have h1:=track_is hn (by omega) hm v p p a ha p0 (Int.le_refl p) (by omega)
 have h2:=track_is hn (by omega) hm v p q a ha p0 pq (by omega)
 have h3:=track_is hn (by omega) hm v p r a ha p0 (by omega) r1
 have hadd:=goes_add (stepV n m v) (q - p).toNat (r - q).toNat (p + 1) a
 rw [show (q - p).toNat + (r - q).toNat=(r - p).toNat by omega,show p + 1 + ((q - p).toNat:Int)=q + 1 by omega] at hadd
 have hin:=goes_in (m:=m) (stepV n m v) (fun k p hp=>(step_eq hn (by omega) hm v k p hp).2) (q - p).toNat (p + 1) a ha
 rw [show (p - p).toNat=0 by omega] at h1
 have h4:=fun w hw=>track_is hn (by omega) hm v q r w hw (by omega) qr r1
 generalize goes (stepV n m v) (q - p).toNat (p + 1) a=G at h2 hadd hin
 generalize goes (stepV n m v) (r - p).toNat (p + 1) a=H at h3 hadd
 obtain ⟨a1,a2⟩:=a
 obtain ⟨g1,g2,g3⟩:=G
 refine Y.of (g74.D0_of _) (Y.pd (show (0:Int)≤0∧(0:Int) < 3 by decide) (Y.pd (show (0:Int)≤0∧(0:Int) < 3 by decide) (Y.bE h1 (Y.pd (show (0:Int)≤0∧(0:Int) < 3 by decide) (Y.pd (show (0:Int)≤1∧(1:Int) < 3 by decide) (Y.bE h2 (Y.pd (show (0:Int)≤0∧(0:Int) < 3 by decide) (Y.pd (show (0:Int)≤2∧(2:Int) < 3 by decide) (Y.bE h3 (Y.pos rfl (Y.neg ?_ ?_)))))))))))
 ·show (!(decide (a1=a1) && (decide (a2=a2) && true)))=false
  simp
 ·refine Y.nite (fun c=>Y.some ?_) fun c=>?_
  ·have c:¬ g3=0:=c
   rw [if_neg c] at hadd
   rw [hadd]
   exact decide_eq_true rfl
  ·have c:g3=0:=c
   subst c
   rw [if_pos rfl] at hadd
   have h5:=h4 (g1,g2) (hin rfl)
   rw [← hadd] at h5
   refine Y.pd (show (0:Int)≤1∧(1:Int) < 3 by decide) (Y.pd (show (0:Int)≤2∧(2:Int) < 3 by decide) (Y.bE h5 (Y.pos ?_ (Y.some ?_))))
   ·rw [decide_eq_true rfl]
    rfl
   ·simp
theorem slewFollows (L:List Int) (a b c:Int):Y (g74.F (L,a,b,c)) fun r=>r=true:=by
 refine Y.of (g74.F_of _) (Y.bE slews_is (Y.neg rfl (Y.night 12 (by omega) L fun n at1 hn a0 a1=>?_)))
 refine Y.mount L at1 a0 (by omega) fun m at2 hm b0 b1=>?_
 refine Y.vec L at2 (by omega) (by omega) fun v1 v2 v3 hv=>?_
 have hsl:=hn.sl
 have hbel:∀ x:Int,g9.F (x,wrap .i64 (n.sl + 1))=some (x % (n.sl + 1))∧0≤x % (n.sl + 1)∧x % (n.sl + 1)≤n.sl:=by
  intro x
  rw [w64 (x:=n.sl + 1) (by omega) (by omega)]
  have:=below_range x (n.sl + 1) (by omega)
  exact ⟨below_spec x (n.sl + 1) (by omega) (by omega),this.1,by omega⟩
 obtain ⟨e1,i1⟩:=hbel a
 obtain ⟨e2,i2⟩:=hbel b
 obtain ⟨e3,i3⟩:=hbel c
 refine Y.bE e1 (Y.bE e2 (Y.bE e3 (Y.bnd _ (sort_three (P:=fun x=>0≤x∧x≤n.sl) _ _ _ i1 i2 i3) ?_)))
 rintro l ⟨p,q,r,rfl,pq,qr,hp,hq,hr⟩
 have fin:∀ w:Int×Int,m.In w→Y (g74.D0 (n.v (m.w (v1,v2,v3,[p,q,r],w.1,w.2,n.cl)))) fun r=>r=true:=fun w hw=>follow_tracks hn hm (v1,v2,v3) p q r hp.1 pq qr hr.2 w hw
 have park:m.In (m.pz,m.pl):=⟨hm.pz,hm.pl⟩
 refine Y.pd (show (0:Int)≤0∧(0:Int) < 3 by decide) (Y.bnd _ (aim_tot hn (by omega) v1 v2 v3 p) fun g _=>Y.ite (fun _=>Y.bnd _ (to_in hm m.pz m.pl g.1 g.2.1 park) fun s hs=>Y.ite (fun c=>?_) fun _=>?_) fun _=>?_)
 ·exact fin (s.1,s.2.1) (hs c)
 ·exact fin (m.pz,m.pl) park
 ·exact fin (m.pz,m.pl) park
end Go.Proofs.RSl
