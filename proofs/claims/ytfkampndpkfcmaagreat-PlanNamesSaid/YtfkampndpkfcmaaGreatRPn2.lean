import Derived.Test.YtfkampndpkfcmaaGreatRPn1
import Derived.Test.YtfkampndpkfcmaaGreatProg
namespace Go.Proofs.RPn
open Go Go.Eng Go.Proofs
set_option maxRecDepth 100000
set_option linter.unusedVariables false
variable {ι : Type} {E : Fil ι}
namespace g139 -- horizon_AimS1
abbrev R:Type:=Int
abbrev A:Type:=Int
abbrev Y:=A→Option R
def lv:List (Nat × List Nat):=[(2000000,[4])]
noncomputable def cs:Nat→Ctx:=ctxOf tis modes tg138.1 lv
theorem cs_ok (n:Nat):CtxOk Tryz.prog (cs n):=ctxOf_ok rfl tis_ok tg138.2 n
def sh:AS:=⟨[.c (.func 123 []),.c (.int .i64)],[]⟩
def os:OS:=⟨.c (.int .i64),[]⟩
def enc (r:R):Out:=os.enc r
def dec:Out→Option R:=os.dec
noncomputable def b0:Code:=subF [] Tryz.f122
noncomputable def K0 (k:Nat):Kt R:=kTop (cs k) Tryz.f122 dec
noncomputable def f (k:Nat):Y:=fun v=>held (runFn cs k Tryz.f122 (sh.args v) (sh.slots v) dec)
noncomputable def F:Y:=lm f
def d (p0:g81.Y):Y:=fun a =>
bnd (p0 a) fun r=>some r
theorem d_cn (k0:Pr E g81.A g81.R):∀ v:A,Cn E (d k0.p v) fun i=>d (k0.q i) v:=fun a=>(.bnd (k0.h _) fun _=>.some)
theorem f_b (k:Nat):∀ v:A,f k v = d (g81.f k) v:=fun a=>(held_eq _).trans (by kernel_rfl)
theorem F_of (v:A) {r:R} (h:d g81.F v = some r):F v = some r:=join_of (fun L=>f_b (L 0) v) (d_cn (lp g81.f 0) v) h
noncomputable def spec (k:Nat):List AV→List Slot→Option Ans:=specS sh os (f k)
theorem spec_ok (k:Nat):SpecOk Tryz.prog 122 (spec k):=specS_ok cs_ok Tryz.func122 rfl rfl (fun _ _=>held_eq _) k
end g139
noncomputable def tg139:=tg138.cons 122 g139.spec g139.spec_ok
namespace g140 -- horizon_AimS1_1
abbrev R:Type:=Int
abbrev A:Type:=Int
abbrev Y:=A→Option R
def lv:List (Nat × List Nat):=[(2000000,[4])]
noncomputable def cs:Nat→Ctx:=ctxOf tis modes tg139.1 lv
theorem cs_ok (n:Nat):CtxOk Tryz.prog (cs n):=ctxOf_ok rfl tis_ok tg139.2 n
def sh:AS:=⟨[.c (.func 124 []),.c (.int .i64)],[]⟩
def os:OS:=⟨.c (.int .i64),[]⟩
def enc (r:R):Out:=os.enc r
def dec:Out→Option R:=os.dec
noncomputable def b0:Code:=subF [] Tryz.f122
noncomputable def K0 (k:Nat):Kt R:=kTop (cs k) Tryz.f122 dec
noncomputable def f (k:Nat):Y:=fun v=>held (runFn cs k Tryz.f122 (sh.args v) (sh.slots v) dec)
noncomputable def F:Y:=lm f
def d (p0:g80.Y):Y:=fun a =>
bnd (p0 a) fun r=>some r
theorem d_cn (k0:Pr E g80.A g80.R):∀ v:A,Cn E (d k0.p v) fun i=>d (k0.q i) v:=fun a=>(.bnd (k0.h _) fun _=>.some)
theorem f_b (k:Nat):∀ v:A,f k v = d (g80.f k) v:=fun a=>(held_eq _).trans (by kernel_rfl)
theorem F_of (v:A) {r:R} (h:d g80.F v = some r):F v = some r:=join_of (fun L=>f_b (L 0) v) (d_cn (lp g80.f 0) v) h
noncomputable def spec (k:Nat):List AV→List Slot→Option Ans:=specS sh os (f k)
theorem spec_ok (k:Nat):SpecOk Tryz.prog 122 (spec k):=specS_ok cs_ok Tryz.func122 rfl rfl (fun _ _=>held_eq _) k
end g140
noncomputable def tg140:=tg139.cons 122 g140.spec g140.spec_ok
namespace g141 -- trig_octant
abbrev R:Type:=Int
abbrev A:Type:=Int × Int
abbrev Y:=A→Option R
def lv:List (Nat × List Nat):=[(2000000,[4]),(2,[0,1,5,6])]
noncomputable def cs:Nat→Ctx:=ctxOf tis modes tg140.1 lv
theorem cs_ok (n:Nat):CtxOk Tryz.prog (cs n):=ctxOf_ok rfl tis_ok tg140.2 n
def sh:AS:=⟨[.c (.int .i64),.c (.int .i64)],[]⟩
def os:OS:=⟨.c (.int .i64),[]⟩
def enc (r:R):Out:=os.enc r
def dec:Out→Option R:=os.dec
noncomputable def b0:Code:=subF [] Tryz.f166
noncomputable def K0 (k:Nat):Kt R:=kTop (cs k) Tryz.f166 dec
noncomputable def b2:Code:=sub [1,1,0,0,0] b0
noncomputable def K2 ( k:Nat):Kt R:=kAt (cs k) (loopN cs k) [1,1,0,0] b0 (K0 k)
abbrev T0:Type:=Int × Int × Int × Int
abbrev Y0:=T0→Option R
def s0:T0→St:=fun (a,b,e,j)=>⟨28,0,[(0,.c (.int .i64 a)),(1,.c (.int .i64 b)),(5,.c (.int .i64 e)),(6,.c (.int .i64 j))],[],[(256000000,.gone)]⟩
noncomputable def l0 ( k n:Nat) (v:T0):Option R:=held (loopN cs n b2 (K2 k) (s0 v))
noncomputable def D0 (v:T0):Option R:=lim fun L=>l0 (L 0) (L 1) v
theorem D0_cn (v:T0):Cn late (D0 v) fun L=>l0 (L 0) (L 1) v:=of_lim
def d0 (p0:g80.Y) (p1:g81.Y) (p2:Y0):Y0:=fun (a,b,e,j) =>
br (decide (1 < wrap .i64 (j - e))) (br (!decide (2 = 0)) (bnd (p0 (wrap .i64 ((wrap .i64 (e + j)).tdiv 2))) fun r=>bnd (p1 (wrap .i64 ((wrap .i64 (e + j)).tdiv 2))) fun r_1=>br (decide (wrap .i64 (r * b) ≤ wrap .i64 (r_1 * a))) (p2 (a,b,wrap .i64 ((wrap .i64 (e + j)).tdiv 2),j)) (p2 (a,b,e,wrap .i64 ((wrap .i64 (e + j)).tdiv 2)))) none) (some e)
theorem d0_cn (k0:Pr E g80.A g80.R) (k1:Pr E g81.A g81.R) (k2:Pr E T0 R):∀ v:T0,Cn E (d0 k0.p k1.p k2.p v) fun i=>d0 (k0.q i) (k1.q i) (k2.q i) v:=fun (a,b,e,j)=>(.br (.br (.bnd (k0.h _) fun _=>(.bnd (k1.h _) fun _=>(.br (k2.h _) (k2.h _)))) .none) .some)
theorem l0_b ( k m1:Nat):∀ v:T0,run (cs m1) (loopN cs m1) b2 (kLoop cs m1 b2 (K2 k)) (s0 v) = d0 (g80.f m1) (g81.f m1) (l0 k m1) v:=fun (a,b,e,j)=>by kernel_rfl
theorem D0_of (v:T0) {r:R} (h:d0 g80.F g81.F D0 v = some r):D0 v = some r:=loop_of 1 (fun L n hn=>by show l0 (L 0) (L 1) v = _; rw [hn]; exact (held_eq _).trans ((loopN_succ _ _ _ _ _).trans (l0_b (L 0) n v))) (d0_cn (lp g80.f 1) (lp g81.f 1) (.mk fun v=>(D0_cn v).re [0,1]) v) h
noncomputable def f (k:Nat):Y:=fun v=>held (runFn cs k Tryz.f166 (sh.args v) (sh.slots v) dec)
noncomputable def F:Y:=lm f
def d (p0:Y0):Y:=fun (a,b) =>
p0 (a,b,0,536870913)
theorem d_cn (k0:Pr E T0 R):∀ v:A,Cn E (d k0.p v) fun i=>d (k0.q i) v:=fun (a,b)=>(k0.h _)
theorem f_b (k:Nat):∀ v:A,f k v = d (l0 k k) v:=fun (a,b)=>(held_eq _).trans (by kernel_rfl)
theorem F_of (v:A) {r:R} (h:d D0 v = some r):F v = some r:=join_of (fun L=>f_b (L 0) v) (d_cn (.mk fun v=>(D0_cn v).re [0,0]) v) h
noncomputable def spec (k:Nat):List AV→List Slot→Option Ans:=specS sh os (f k)
theorem spec_ok (k:Nat):SpecOk Tryz.prog 166 (spec k):=specS_ok cs_ok Tryz.func166 rfl rfl (fun _ _=>held_eq _) k
end g141
noncomputable def tg141:=tg140.cons 166 g141.spec g141.spec_ok
namespace g142 -- trig_Atan2
abbrev R:Type:=Int × Int
abbrev A:Type:=Int × Int
abbrev Y:=A→Option R
def lv:List (Nat × List Nat):=[(2000000,[4,5]),(1000010,[0,1,8]),(1000012,[0,8]),(1000014,[8])]
noncomputable def cs:Nat→Ctx:=ctxOf tis modes tg141.1 lv
theorem cs_ok (n:Nat):CtxOk Tryz.prog (cs n):=ctxOf_ok rfl tis_ok tg141.2 n
def sh:AS:=⟨[.c (.int .i64),.c (.int .i64)],[]⟩
def os:OS:=⟨.tup [.c (.int .i64),.c (.int .i64)],[]⟩
def enc (r:R):Out:=os.enc r
def dec:Out→Option R:=os.dec
noncomputable def b0:Code:=subF [] Tryz.f126
noncomputable def K0 (k:Nat):Kt R:=kTop (cs k) Tryz.f126 dec
noncomputable def c1000010:Code:=sub [1,1,1,1,1] b0
noncomputable def J1000010 ( k:Nat):Kt R:=kAt (cs k) (loopN cs k) [1,1,1,1,1] b0 (K0 k)
noncomputable def c1000012:Code:=sub [1,1,1,1,1,1] b0
noncomputable def J1000012 ( k:Nat):Kt R:=kAt (cs k) (loopN cs k) [1,1,1,1,1,1] b0 (K0 k)
noncomputable def c1000014:Code:=sub [1,1,1,1,1,1,1] b0
noncomputable def J1000014 ( k:Nat):Kt R:=kAt (cs k) (loopN cs k) [1,1,1,1,1,1,1] b0 (K0 k)
abbrev T0:Type:=Int × Int × Int
abbrev Y0:=T0→Option R
def s0:T0→St:=fun (a,b,e)=>⟨59,0,[(0,.c (.int .i64 a)),(1,.c (.int .i64 b)),(8,.c (.int .i64 e))],[],[(256000000,.gone)]⟩
noncomputable def l0 ( k:Nat) (v:T0):Option R:=held (run (cs k) (loopN cs k) c1000010 (J1000010 k) (s0 v))
noncomputable def D0 (v:T0):Option R:=lim fun L=>l0 (L 0) v
theorem D0_cn (v:T0):Cn late (D0 v) fun L=>l0 (L 0) v:=of_lim
abbrev T1:Type:=Int × Int
abbrev Y1:=T1→Option R
def s1:T1→St:=fun (a,b)=>⟨59,0,[(0,.c (.int .i64 a)),(8,.c (.int .i64 b))],[],[(256000000,.gone)]⟩
noncomputable def l1 ( k:Nat) (v:T1):Option R:=held (run (cs k) (loopN cs k) c1000012 (J1000012 k) (s1 v))
noncomputable def D1 (v:T1):Option R:=lim fun L=>l1 (L 0) v
theorem D1_cn (v:T1):Cn late (D1 v) fun L=>l1 (L 0) v:=of_lim
abbrev T2:Type:=Int
abbrev Y2:=T2→Option R
def s2:T2→St:=fun a=>⟨59,0,[(8,.c (.int .i64 a))],[],[(256000000,.gone)]⟩
noncomputable def l2 ( k:Nat) (v:T2):Option R:=held (run (cs k) (loopN cs k) c1000014 (J1000014 k) (s2 v))
noncomputable def D2 (v:T2):Option R:=lim fun L=>l2 (L 0) v
theorem D2_cn (v:T2):Cn late (D2 v) fun L=>l2 (L 0) v:=of_lim
def d0 (p0:Y1):Y0:=fun (a,b,e) =>
br (decide (b < 0)) (p0 (a,wrap .i64 (2147483648 - e))) (p0 (a,e))
theorem d0_cn (k0:Pr E T1 R):∀ v:T0,Cn E (d0 k0.p v) fun i=>d0 (k0.q i) v:=fun (a,b,e)=>(.br (k0.h _) (k0.h _))
theorem l0_b ( k:Nat):∀ v:T0,run (cs k) (loopN cs k) c1000010 (J1000010 k) (s0 v) = d0 (l1 k) v:=fun (a,b,e)=>by kernel_rfl
theorem D0_of (v:T0) {r:R} (h:d0 D1 v = some r):D0 v = some r:=join_of (fun L=>(held_eq _).trans (l0_b (L 0) v)) (d0_cn (.mk fun v=>(D1_cn v).re [0]) v) h
def d1 (p0:Y2):Y1:=fun (a,b) =>
br (decide (a < 0)) (p0 (wrap .i64 (4294967296 - b))) (p0 b)
theorem d1_cn (k0:Pr E T2 R):∀ v:T1,Cn E (d1 k0.p v) fun i=>d1 (k0.q i) v:=fun (a,b)=>(.br (k0.h _) (k0.h _))
theorem l1_b ( k:Nat):∀ v:T1,run (cs k) (loopN cs k) c1000012 (J1000012 k) (s1 v) = d1 (l2 k) v:=fun (a,b)=>by kernel_rfl
theorem D1_of (v:T1) {r:R} (h:d1 D2 v = some r):D1 v = some r:=join_of (fun L=>(held_eq _).trans (l1_b (L 0) v)) (d1_cn (.mk fun v=>(D2_cn v).re [0]) v) h
def d2:Y2:=fun a =>
br (!decide (4294967296 = 0)) (some (a.tmod 4294967296,0)) none
theorem d2_cn:∀ v:T2,Cn E (d2 v) fun i=>d2 v:=fun a=>(.br .some .none)
theorem l2_b ( k:Nat):∀ v:T2,run (cs k) (loopN cs k) c1000014 (J1000014 k) (s2 v) = d2 v:=fun a=>by kernel_rfl
theorem D2_of (v:T2) {r:R} (h:d2 v = some r):D2 v = some r:=join_of (fun L=>(held_eq _).trans (l2_b (L 0) v)) (d2_cn v) h
noncomputable def f (k:Nat):Y:=fun v=>held (runFn cs k Tryz.f126 (sh.args v) (sh.slots v) dec)
noncomputable def F:Y:=lm f
def d (p0:g141.Y) (p1:Y0):Y:=fun (a,b) =>
br (decide (b < -4294967296) || decide (4294967296 < b) || decide (a < -4294967296) || decide (4294967296 < a)) (some (0,4)) (br (decide (b = 0) && decide (a = 0)) (some (0,8)) (br (decide (max a (wrap .i64 (0 - a)) ≤ max b (wrap .i64 (0 - b)))) (bnd (p0 (max a (wrap .i64 (0 - a)),max b (wrap .i64 (0 - b)))) fun r=>p1 (a,b,r)) (bnd (p0 (max b (wrap .i64 (0 - b)),max a (wrap .i64 (0 - a)))) fun r=>p1 (a,b,wrap .i64 (1073741824 - r)))))
theorem d_cn (k0:Pr E g141.A g141.R) (k1:Pr E T0 R):∀ v:A,Cn E (d k0.p k1.p v) fun i=>d (k0.q i) (k1.q i) v:=fun (a,b)=>(.br .some (.br .some (.br (.bnd (k0.h _) fun _=>(k1.h _)) (.bnd (k0.h _) fun _=>(k1.h _)))))
theorem f_b (k:Nat):∀ v:A,f k v = d (g141.f k) (l0 k) v:=fun (a,b)=>(held_eq _).trans (by kernel_rfl)
theorem F_of (v:A) {r:R} (h:d g141.F D0 v = some r):F v = some r:=join_of (fun L=>f_b (L 0) v) (d_cn (lp g141.f 0) (.mk fun v=>(D0_cn v).re [0]) v) h
noncomputable def spec (k:Nat):List AV→List Slot→Option Ans:=specS sh os (f k)
theorem spec_ok (k:Nat):SpecOk Tryz.prog 126 (spec k):=specS_ok cs_ok Tryz.func126 rfl rfl (fun _ _=>held_eq _) k
end g142
noncomputable def tg142:=tg141.cons 126 g142.spec g142.spec_ok
namespace g143 -- num_Sqrt
abbrev R:Type:=Int
abbrev A:Type:=Int
abbrev Y:=A→Option R
def lv:List (Nat × List Nat):=[(2000000,[2])]
noncomputable def cs:Nat→Ctx:=ctxOf tis modes tg142.1 lv
theorem cs_ok (n:Nat):CtxOk Tryz.prog (cs n):=ctxOf_ok rfl tis_ok tg142.2 n
def sh:AS:=⟨[(.c (.int .i64))],[]⟩
def os:OS:=⟨.c (.int .i64),[]⟩
def enc (r:R):Out:=os.enc r
def dec:Out→Option R:=os.dec
noncomputable def b0:Code:=subF [] Tryz.f127
noncomputable def K0 (k:Nat):Kt R:=kTop (cs k) Tryz.f127 dec
noncomputable def f (k:Nat):Y:=fun v=>held (runFn cs k Tryz.f127 (sh.args v) (sh.slots v) dec)
noncomputable def F:Y:=lm f
def d (p0:g101.Y):Y:=fun a =>
bnd (p0 (a,1)) fun r=>some r
theorem d_cn (k0:Pr E g101.A g101.R):∀ v:A,Cn E (d k0.p v) fun i=>d (k0.q i) v:=fun a=>(.bnd (k0.h _) fun _=>.some)
theorem f_b (k:Nat):∀ v:A,f k v = d (g101.f k) v:=fun a=>(held_eq _).trans (by kernel_rfl)
theorem F_of (v:A) {r:R} (h:d g101.F v = some r):F v = some r:=join_of (fun L=>f_b (L 0) v) (d_cn (lp g101.f 0) v) h
noncomputable def spec (k:Nat):List AV→List Slot→Option Ans:=specS sh os (f k)
theorem spec_ok (k:Nat):SpecOk Tryz.prog 127 (spec k):=specS_ok cs_ok Tryz.func127 rfl rfl (fun _ _=>held_eq _) k
end g143
noncomputable def tg143:=tg142.cons 127 g143.spec g143.spec_ok
namespace g144 -- horizon_Aim
abbrev R:Type:=Int × Int × Int
abbrev A:Type:=Int × Int × Int × Int × Int × Int
abbrev Y:=A→Option R
def lv:List (Nat × List Nat):=[(2000000,[6,7]),(1000017,[6,17,19])]
noncomputable def cs:Nat→Ctx:=ctxOf tis modes tg143.1 lv
theorem cs_ok (n:Nat):CtxOk Tryz.prog (cs n):=ctxOf_ok rfl tis_ok tg143.2 n
def sh:AS:=⟨[.agg [.int .i64,.int .i64],.c (.int .i64),.agg [.int .i64,.int .i64,.int .i64]],[]⟩
def os:OS:=⟨.tup [.agg [.int .i64,.int .i64],.c (.int .i64)],[]⟩
def enc (r:R):Out:=os.enc r
def dec:Out→Option R:=os.dec
noncomputable def b0:Code:=subF [] Tryz.f89
noncomputable def K0 (k:Nat):Kt R:=kTop (cs k) Tryz.f89 dec
noncomputable def c1000017:Code:=sub [1,1,1,1,1,1,1,1,1,1,1,1,1,1] b0
noncomputable def J1000017 ( k:Nat):Kt R:=kAt (cs k) (loopN cs k) [1,1,1,1,1,1,1,1,1,1,1,1,1,1] b0 (K0 k)
abbrev T0:Type:=Int × Int × Int × Int
abbrev Y0:=T0→Option R
def s0:T0→St:=fun (a,b,e,j)=>⟨118,0,[(6,.c (.ptr 64000000 0)),(17,.c (.int .i64 a)),(19,.c (.int .i64 b))],[],[(256000000,.gone),(64000000,.box [.int .i64 e,.int .i64 j])]⟩
noncomputable def l0 ( k:Nat) (v:T0):Option R:=held (run (cs k) (loopN cs k) c1000017 (J1000017 k) (s0 v))
noncomputable def D0 (v:T0):Option R:=lim fun L=>l0 (L 0) v
theorem D0_cn (v:T0):Cn late (D0 v) fun L=>l0 (L 0) v:=of_lim
def d0:Y0:=fun (a,b,e,j) =>
some (a,b,0)
theorem d0_cn:∀ v:T0,Cn E (d0 v) fun i=>d0 v:=fun (a,b,e,j)=>.some
theorem l0_b ( k:Nat):∀ v:T0,run (cs k) (loopN cs k) c1000017 (J1000017 k) (s0 v) = d0 v:=fun (a,b,e,j)=>by kernel_rfl
theorem D0_of (v:T0) {r:R} (h:d0 v = some r):D0 v = some r:=join_of (fun L=>(held_eq _).trans (l0_b (L 0) v)) (d0_cn v) h
noncomputable def f (k:Nat):Y:=fun v=>held (runFn cs k Tryz.f89 (sh.args v) (sh.slots v) dec)
noncomputable def F:Y:=lm f
noncomputable def d (p0:g73.Y) (p1:g34.Y) (p2:g20.Y) (p3:g75.Y) (p4:g139.Y) (p5:g140.Y) (p6:g78.Y) (p7:g142.Y) (p8:g143.Y) (p9:Y0):Y:=fun (a,b,e,j,l,m) =>
bnd (p0 (a,b)) fun r=>bnd (p1 (j,l,m)) fun r_1=>bnd (p2 [r,r_1]) fun r=>br (!decide (r = 0)) (some (0,0,r)) (bnd (p3 (j,l,m)) fun r=>bnd (p4 (wrap .i64 (bAnd .i64 e 4294967295 + b))) fun r_2=>bnd (p5 (wrap .i64 (bAnd .i64 e 4294967295 + b))) fun r_3=>bnd (p6 (wrap .i64 (wrap .i64 (r.1 * r_2) + wrap .i64 (r.2.1 * r_3)),1048576)) fun r_4=>bnd (p6 (wrap .i64 (wrap .i64 (r.2.1 * r_2) - wrap .i64 (r.1 * r_3)),1048576)) fun r_5=>bnd (p4 a) fun r_6=>bnd (p5 a) fun r_7=>bnd (p6 (wrap .i64 (wrap .i64 (wrap .i64 (r.2.2 * 1024) * r_7) + wrap .i64 (r_4 * r_6)),1073741824)) fun r_8=>bnd (p6 (wrap .i64 (wrap .i64 (wrap .i64 (r.2.2 * 1024) * r_6) - wrap .i64 (r_4 * r_7)),1073741824)) fun r=>bnd (p7 (r_5,r)) fun r_9=>bnd (p8 (wrap .i64 (wrap .i64 (r * r) + wrap .i64 (r_5 * r_5)))) fun r=>bnd (p7 (r_8,r)) fun r=>br (decide (2147483648 < r.1)) (p9 (r_9.1,wrap .i64 (r.1 - 4294967296),0,0)) (p9 (r_9.1,r.1,0,0)))
theorem d_cn (k0:Pr E g73.A g73.R) (k1:Pr E g34.A g34.R) (k2:Pr E g20.A g20.R) (k3:Pr E g75.A g75.R) (k4:Pr E g139.A g139.R) (k5:Pr E g140.A g140.R) (k6:Pr E g78.A g78.R) (k7:Pr E g142.A g142.R) (k8:Pr E g143.A g143.R) (k9:Pr E T0 R):∀ v:A,Cn E (d k0.p k1.p k2.p k3.p k4.p k5.p k6.p k7.p k8.p k9.p v) fun i=>d (k0.q i) (k1.q i) (k2.q i) (k3.q i) (k4.q i) (k5.q i) (k6.q i) (k7.q i) (k8.q i) (k9.q i) v:=fun (a,b,e,j,l,m)=>(.bnd (k0.h _) fun _=>(.bnd (k1.h _) fun _=>(.bnd (k2.h _) fun _=>(.br .some (.bnd (k3.h _) fun _=>(.bnd (k4.h _) fun _=>(.bnd (k5.h _) fun _=>(.bnd (k6.h _) fun _=>(.bnd (k6.h _) fun _=>(.bnd (k4.h _) fun _=>(.bnd (k5.h _) fun _=>(.bnd (k6.h _) fun _=>(.bnd (k6.h _) fun _=>(.bnd (k7.h _) fun _=>(.bnd (k8.h _) fun _=>(.bnd (k7.h _) fun _=>(.br (k9.h _) (k9.h _))))))))))))))))))
theorem f_b (k:Nat):∀ v:A,f k v = d (g73.f k) (g34.f k) (g20.f k) (g75.f k) (g139.f k) (g140.f k) (g78.f k) (g142.f k) (g143.f k) (l0 k) v:=fun (a,b,e,j,l,m)=>(held_eq _).trans (by kernel_rfl)
theorem F_of (v:A) {r:R} (h:d g73.F g34.F g20.F g75.F g139.F g140.F g78.F g142.F g143.F D0 v = some r):F v = some r:=join_of (fun L=>f_b (L 0) v) (d_cn (lp g73.f 0) (lp g34.f 0) (lp g20.f 0) (lp g75.f 0) (lp g139.f 0) (lp g140.f 0) (lp g78.f 0) (lp g142.f 0) (lp g143.f 0) (.mk fun v=>(D0_cn v).re [0]) v) h
noncomputable def spec (k:Nat):List AV→List Slot→Option Ans:=specS sh os (f k)
theorem spec_ok (k:Nat):SpecOk Tryz.prog 89 (spec k):=specS_ok cs_ok Tryz.func89 rfl rfl (fun _ _=>held_eq _) k
end g144
noncomputable def tg144:=tg143.cons 89 g144.spec g144.spec_ok
namespace g145 -- slew_Aim
abbrev R:Type:=Int × Int × Int
abbrev A:Type:=Int × Int × Int × Int × Int × Int × Int × Int × Int × Int × Int × Int × Int × Int × Int × Int × List Int × Int × Int × Int × Int
abbrev Y:=A→Option R
def lv:List (Nat × List Nat):=[(2000000,[6,7])]
noncomputable def cs:Nat→Ctx:=ctxOf tis modes tg144.1 lv
theorem cs_ok (n:Nat):CtxOk Tryz.prog (cs n):=ctxOf_ok rfl tis_ok tg144.2 n
def sh:AS:=⟨[.agg [.int .i64,.int .i64,.int .i64,.int .i64,.int .i64,.int .i64,.int .i64,.int .i64,.int .i64,.int .i64,.int .i64,.int .i64,.int .i64,.int .i64,.int .i64,.int .i64,.frz (.int .i64)],.agg [.int .i64,.int .i64,.int .i64],.c (.int .i64)],[]⟩
def os:OS:=⟨.tup [.agg [.int .i64,.int .i64],.c (.int .i64)],[]⟩
def enc (r:R):Out:=os.enc r
def dec:Out→Option R:=os.dec
noncomputable def b0:Code:=subF [] Tryz.f61
noncomputable def K0 (k:Nat):Kt R:=kTop (cs k) Tryz.f61 dec
noncomputable def f (k:Nat):Y:=fun v=>held (runFn cs k Tryz.f61 (sh.args v) (sh.slots v) dec)
noncomputable def F:Y:=lm f
def d (p0:g35.Y) (p1:g138.Y) (p2:g144.Y):Y:=fun (a,b,e,j,l,m,o,s,t,u,w,x,y,z,B,C,D,G,H,I,J) =>
bnd (p0 (a,b,e,j,l,m,o,s,t,u,w,x,y,z,B,C,D)) fun r=>br (!decide (r = 0)) (some (0,0,r)) (br (decide (J < 0) || decide (t < J)) (some (0,0,4)) (bnd (p1 (e,j,l,m,wrap .i64 (o + wrap .i64 (J * s)))) fun r=>bnd (p2 (a,b,r,G,H,I)) fun r=>some (r.1,r.2.1,r.2.2)))
theorem d_cn (k0:Pr E g35.A g35.R) (k1:Pr E g138.A g138.R) (k2:Pr E g144.A g144.R):∀ v:A,Cn E (d k0.p k1.p k2.p v) fun i=>d (k0.q i) (k1.q i) (k2.q i) v:=fun (a,b,e,j,l,m,o,s,t,u,w,x,y,z,B,C,D,G,H,I,J)=>(.bnd (k0.h _) fun _=>(.br .some (.br .some (.bnd (k1.h _) fun _=>(.bnd (k2.h _) fun _=>.some)))))
theorem f_b (k:Nat):∀ v:A,f k v = d (g35.f k) (g138.f k) (g144.f k) v:=fun (a,b,e,j,l,m,o,s,t,u,w,x,y,z,B,C,D,G,H,I,J)=>(held_eq _).trans (by kernel_rfl)
theorem F_of (v:A) {r:R} (h:d g35.F g138.F g144.F v = some r):F v = some r:=join_of (fun L=>f_b (L 0) v) (d_cn (lp g35.f 0) (lp g138.f 0) (lp g144.f 0) v) h
noncomputable def spec (k:Nat):List AV→List Slot→Option Ans:=specS sh os (f k)
theorem spec_ok (k:Nat):SpecOk Tryz.prog 61 (spec k):=specS_ok cs_ok Tryz.func61 rfl rfl (fun _ _=>held_eq _) k
end g145
noncomputable def tg145:=tg144.cons 61 g145.spec g145.spec_ok
namespace g146 -- plan_NewDesk
abbrev R:Type:=Int × Int × Int × Int × Int × Int × Int × Int × Int × Int × Int × Int × Int × Int × Int × Int × Int × Int × Int × Int × Int × Int × Int × Int × Int × Int × Int × List Int × List (ByteArray × Int) × List (Int × Int × (Int × Int × Int) × Int × Int × Int × Int × Int × Int × Int × Int) × List (List Int) × List (List (Int × Int))
abbrev A:Type:=Int × Int × Int × Int × Int × Int × Int × Int × Int × Int × Int × Int × Int × Int × Int × Int × List Int × Int × Int × Int × Int × Int × Int × Int × Int × Int × Int × List (ByteArray × Int) × List (Int × Int × (Int × Int × Int) × Int × Int × Int × Int × Int × Int × Int × Int)
abbrev Y:=A→Option R
def lv:List (Nat × List Nat):=[(3000000,[41,45]),(2000000,[6,7]),(8,[3,6,9,48,49,50]),(12,[3,6,9,10,11,48,49,50,67,68])]
noncomputable def cs:Nat→Ctx:=ctxOf tis modes tg145.1 lv
theorem cs_ok (n:Nat):CtxOk Tryz.prog (cs n):=ctxOf_ok rfl tis_ok tg145.2 n
noncomputable def sh:AS:=⟨[.agg [.int .i64,.int .i64,.int .i64,.int .i64,.int .i64,.int .i64,.int .i64,.int .i64,.int .i64,.int .i64,.int .i64,.int .i64,.int .i64,.int .i64,.int .i64,.int .i64,.frz (.int .i64)],.agg [.int .i64,.int .i64,.int .i64,.int .i64,.int .i64,.int .i64,.int .i64,.int .i64,.int .i64,.int .i64],.agg [.frz y19,.frz y27]],[]⟩
def os:OS:=⟨.tup [.agg [.int .i64,.int .i64,.int .i64,.int .i64,.int .i64,.int .i64,.int .i64,.int .i64,.int .i64,.int .i64,.int .i64,.int .i64,.int .i64,.int .i64,.int .i64,.int .i64,.sl 128000000,.int .i64,.int .i64,.int .i64,.int .i64,.int .i64,.int .i64,.int .i64,.int .i64,.int .i64,.int .i64,.sl 128000001,.sl 128000002,.sl 128000003,.sl 128000004],.c (.int .i64)],[.row (.int .i64),.row y19,.row y27,.nest y4,.nest y38]⟩
def enc (r:R):Out:=os.enc r
def dec:Out→Option R:=os.dec
noncomputable def b0:Code:=subF [] Tryz.f29
noncomputable def K0 (k:Nat):Kt R:=kTop (cs k) Tryz.f29 dec
noncomputable def b8:Code:=sub [1,1,1,1,1,0,1,0,0] b0
noncomputable def K8 ( k:Nat):Kt R:=kAt (cs k) (loopN cs k) [1,1,1,1,1,0,1,0] b0 (K0 k)
noncomputable def b12:Code:=sub [1,1,0,0,1,1,1,0,0] b8
noncomputable def K12 ( k m1:Nat):Kt R:=kAt (cs m1) (loopN cs m1) [1,1,0,0,1,1,1,0] b8 (kLoop cs m1 b8 (K8 k))
abbrev T0:Type:=Int × Int × Int × Int × Int × Int × Int × Int × Int × Int × Int × Int × Int × Int × Int × Int × Int × Int × Int × Int × Int × Int × Int × Int × Int × Int × Int × Int × Int × Int × Int × Int × Int × Int × Int × Int × Int × Int × Int × Int × Int × Int × Int × Int × Int × Int × Int × Int × Int × Int × Int × Int × Int × Int × Int × Int × Int × Int × Int × Int × Int × Int × Int × Int × Int × Int × Int × Int × Int × Int × List (Int × Int × (Int × Int × Int) × Int × Int × Int × Int × Int × Int × Int × Int) × List Int × List Int × List (ByteArray × Int) × List (Int × Int × (Int × Int × Int) × Int × Int × Int × Int × Int × Int × Int × Int) × List (List Int) × List (List (Int × Int)) × List (ByteArray × Int) × List (List Int) × List (List (Int × Int))
abbrev Y0:=T0→Option R
noncomputable def s0:T0→St:=fun (a,b,e,j,l,m,o,s,t,u,w,x,y,z,B,C,D,G,H,I,J,K,P,N,O,T,S,Q,M,V,X,W,U,aa,Z,ab,ac,ad,ae,ah,ag,aq,an,ai,ar,ao,aw,ax,ay,az,ba,bb,bc,au,av,aj,ak,al,am,ap,bd,be,bf,bg,bh,bi,bj,bk,bl,bm,af,bn,bq,bv,bw,bs,bt,bo,bp,bu)=>⟨94,0,[(3,.c (.ptr 64000000 0)),(6,.c (.ptr 64000001 0)),(9,.c (.ptr 64000002 0)),(48,.c (.sl 64000003)),(49,.c (.int .i64 a)),(50,.c (.int .i64 b))],[],[(256000000,.gone),(64000000,.box [.int .i64 e,.int .i64 j,.int .i64 l,.int .i64 m,.int .i64 o,.int .i64 s,.int .i64 t,.int .i64 u,.int .i64 w,.int .i64 x,.int .i64 y,.int .i64 z,.int .i64 B,.int .i64 C,.int .i64 D,.int .i64 G,.sl 64000004]),(64000001,.box [.int .i64 H,.int .i64 I,.int .i64 J,.int .i64 K,.int .i64 P,.int .i64 N,.int .i64 O,.int .i64 T,.int .i64 S,.int .i64 Q,.int .i64 M,.int .i64 V,.int .i64 X,.int .i64 W,.int .i64 U,.int .i64 aa,.sl 64000005,.int .i64 Z,.int .i64 ab,.int .i64 ac,.int .i64 ad,.int .i64 ae,.int .i64 ah,.int .i64 ag,.int .i64 aq,.int .i64 an,.int .i64 ai,.sl 64000006,.sl 64000007,.sl 64000008,.sl 64000009]),(64000002,.box [.int .i64 ar,.int .i64 ao,.int .i64 aw,.int .i64 ax,.int .i64 ay,.int .i64 az,.int .i64 ba,.int .i64 bb,.int .i64 bc,.int .i64 au,.int .i64 av,.int .i64 aj,.int .i64 ak,.int .i64 al,.int .i64 am,.int .i64 ap,.sl 64000004,.int .i64 bd,.int .i64 be,.int .i64 bf,.int .i64 bg,.int .i64 bh,.int .i64 bi,.int .i64 bj,.int .i64 bk,.int .i64 bl,.int .i64 bm,.sl 64000010,.sl 64000003,.sl 64000011,.sl 64000012]),(64000003,.row y27 af),(64000004,.row (.int .i64) bn),(64000005,.row (.int .i64) bq),(64000006,.row y19 bv),(64000007,.row y27 bw),(64000008,.nest y4 bs .none),(64000009,.nest y38 bt .none),(64000010,.row y19 bo),(64000011,.nest y4 bp .none),(64000012,.nest y38 bu .none)]⟩
noncomputable def l0 ( k n:Nat) (v:T0):Option R:=held (loopN cs n b8 (K8 k) (s0 v))
noncomputable def D0 (v:T0):Option R:=lim fun L=>l0 (L 0) (L 1) v
theorem D0_cn (v:T0):Cn late (D0 v) fun L=>l0 (L 0) (L 1) v:=of_lim
abbrev T1:Type:=Int × Int × Int × Int × Int × Int × Int × Int × Int × Int × Int × Int × Int × Int × Int × Int × Int × Int × Int × Int × Int × Int × Int × Int × Int × Int × Int × Int × Int × Int × Int × Int × Int × Int × Int × Int × Int × Int × Int × Int × Int × Int × Int × Int × Int × Int × Int × Int × Int × Int × Int × Int × Int × Int × Int × Int × Int × Int × Int × Int × Int × Int × Int × Int × Int × Int × Int × Int × Int × Int × Int × Int × Int × Int × Int × Int × Int × Int × Int × Int × Int × Int × Int × Int × Int × Int × List (Int × Int × (Int × Int × Int) × Int × Int × Int × Int × Int × Int × Int × Int) × List Int × List Int × List (ByteArray × Int) × List (Int × Int × (Int × Int × Int) × Int × Int × Int × Int × Int × Int × Int × Int) × List (List Int) × List (List (Int × Int)) × List (ByteArray × Int) × List (List Int) × List (List (Int × Int))
abbrev Y1:=T1→Option R
noncomputable def s1:T1→St:=fun (a,b,e,j,l,m,o,s,t,u,w,x,y,z,B,C,D,G,H,I,J,K,P,N,O,T,S,Q,M,V,X,W,U,aa,Z,ab,ac,ad,ae,ah,ag,aq,an,ai,ar,ao,aw,ax,ay,az,ba,bb,bc,au,av,aj,ak,al,am,ap,bd,be,bf,bg,bh,bi,bj,bk,bl,bm,af,bn,bq,bv,bw,bs,bt,bo,bp,bu,ci,cj,ck,cl,cm,cn,ca,bz,cb,cc,cd,ce,cf,cg,ch,bx)=>⟨94,0,[(3,.c (.ptr 64000000 0)),(6,.c (.ptr 64000001 0)),(9,.c (.ptr 64000002 0)),(10,.c (.int .i64 a)),(11,.c (.ptr 64000003 0)),(48,.c (.sl 64000004)),(49,.c (.int .i64 b)),(50,.c (.int .i64 e)),(67,.c (.int .i64 j)),(68,.c (.int .i64 l))],[],[(256000000,.gone),(64000000,.box [.int .i64 m,.int .i64 o,.int .i64 s,.int .i64 t,.int .i64 u,.int .i64 w,.int .i64 x,.int .i64 y,.int .i64 z,.int .i64 B,.int .i64 C,.int .i64 D,.int .i64 G,.int .i64 H,.int .i64 I,.int .i64 J,.sl 64000005]),(64000001,.box [.int .i64 K,.int .i64 P,.int .i64 N,.int .i64 O,.int .i64 T,.int .i64 S,.int .i64 Q,.int .i64 M,.int .i64 V,.int .i64 X,.int .i64 W,.int .i64 U,.int .i64 aa,.int .i64 Z,.int .i64 ab,.int .i64 ac,.sl 64000006,.int .i64 ad,.int .i64 ae,.int .i64 ah,.int .i64 ag,.int .i64 aq,.int .i64 an,.int .i64 ai,.int .i64 ar,.int .i64 ao,.int .i64 aw,.sl 64000007,.sl 64000008,.sl 64000009,.sl 64000010]),(64000002,.box [.int .i64 ax,.int .i64 ay,.int .i64 az,.int .i64 ba,.int .i64 bb,.int .i64 bc,.int .i64 au,.int .i64 av,.int .i64 aj,.int .i64 ak,.int .i64 al,.int .i64 am,.int .i64 ap,.int .i64 bd,.int .i64 be,.int .i64 bf,.sl 64000005,.int .i64 bg,.int .i64 bh,.int .i64 bi,.int .i64 bj,.int .i64 bk,.int .i64 bl,.int .i64 bm,.int .i64 af,.int .i64 bn,.int .i64 bq,.sl 64000011,.sl 64000004,.sl 64000012,.sl 64000013]),(64000003,.box [.int .i64 bv,.int .i64 bw,.int .i64 bs,.int .i64 bt,.int .i64 bo,.int .i64 bp,.int .i64 bu,.int .i64 ci,.int .i64 cj,.int .i64 ck,.int .i64 cl,.int .i64 cm,.int .i64 cn]),(64000004,.row y27 ca),(64000005,.row (.int .i64) bz),(64000006,.row (.int .i64) cb),(64000007,.row y19 cc),(64000008,.row y27 cd),(64000009,.nest y4 ce .none),(64000010,.nest y38 cf .none),(64000011,.row y19 cg),(64000012,.nest y4 ch .none),(64000013,.nest y38 bx .none)]⟩
noncomputable def l1 ( k m1 n:Nat) (v:T1):Option R:=held (loopN cs n b12 (K12 k m1) (s1 v))
noncomputable def D1 (v:T1):Option R:=lim fun L=>l1 (L 0) (L 1) (L 2) v
theorem D1_cn (v:T1):Cn late (D1 v) fun L=>l1 (L 0) (L 1) (L 2) v:=of_lim
noncomputable def d0 (p0:g135.Y) (p1:Y1):Y0:=fun (a,b,e,j,l,m,o,s,t,u,w,x,y,z,B,C,D,G,H,I,J,K,P,N,O,T,S,Q,M,V,X,W,U,aa,Z,ab,ac,ad,ae,ah,ag,aq,an,ai,ar,ao,aw,ax,ay,az,ba,bb,bc,au,av,aj,ak,al,am,ap,bd,be,bf,bg,bh,bi,bj,bk,bl,bm,af,bn,bq,bv,bw,bs,bt,bo,bp,bu) =>
br (decide (b < a)) (br (decide (0 ≤ b ∧ b < (↑af.length:Int))) (bnd (p0 (e,j,l,m,o,s,t,u,w,x,y,z,B,C,D,G,bn,(rd ty0 af b).1,(rd ty0 af b).2.1,(rd ty0 af b).2.2.1.1,(rd ty0 af b).2.2.1.2.1,(rd ty0 af b).2.2.1.2.2,(rd ty0 af b).2.2.2.1,(rd ty0 af b).2.2.2.2.1,(rd ty0 af b).2.2.2.2.2.1,(rd ty0 af b).2.2.2.2.2.2.1,(rd ty0 af b).2.2.2.2.2.2.2.1,(rd ty0 af b).2.2.2.2.2.2.2.2.1,(rd ty0 af b).2.2.2.2.2.2.2.2.2.1,(rd ty0 af b).2.2.2.2.2.2.2.2.2.2)) fun r=>br (decide (0 ≤ b ∧ b < (↑bp.length:Int))) (p1 (b,a,b,wrap .i64 (w + 1),0,e,j,l,m,o,s,t,u,w,x,y,z,B,C,D,G,H,I,J,K,P,N,O,T,S,Q,M,V,X,W,U,aa,Z,ab,ac,ad,ae,ah,ag,aq,an,ai,ar,ao,aw,ax,ay,az,ba,bb,bc,au,av,aj,ak,al,am,ap,bd,be,bf,bg,bh,bi,bj,bk,bl,bm,(rd ty0 af b).1,(rd ty0 af b).2.1,(rd ty0 af b).2.2.1.1,(rd ty0 af b).2.2.1.2.1,(rd ty0 af b).2.2.1.2.2,(rd ty0 af b).2.2.2.1,(rd ty0 af b).2.2.2.2.1,(rd ty0 af b).2.2.2.2.2.1,(rd ty0 af b).2.2.2.2.2.2.1,(rd ty0 af b).2.2.2.2.2.2.2.1,(rd ty0 af b).2.2.2.2.2.2.2.2.1,(rd ty0 af b).2.2.2.2.2.2.2.2.2.1,(rd ty0 af b).2.2.2.2.2.2.2.2.2.2,af,bn,bq,bv,bw,bs,bt,bo,bp.set b.toNat r.2,bu)) none) none) (some (ar,ao,aw,ax,ay,az,ba,bb,bc,au,av,aj,ak,al,am,ap,bd,be,bf,bg,bh,bi,bj,bk,bl,bm,0,bn,bo,af,bp,bu))
theorem d0_cn (k0:Pr E g135.A g135.R) (k1:Pr E T1 R):∀ v:T0,Cn E (d0 k0.p k1.p v) fun i=>d0 (k0.q i) (k1.q i) v:=fun (a,b,e,j,l,m,o,s,t,u,w,x,y,z,B,C,D,G,H,I,J,K,P,N,O,T,S,Q,M,V,X,W,U,aa,Z,ab,ac,ad,ae,ah,ag,aq,an,ai,ar,ao,aw,ax,ay,az,ba,bb,bc,au,av,aj,ak,al,am,ap,bd,be,bf,bg,bh,bi,bj,bk,bl,bm,af,bn,bq,bv,bw,bs,bt,bo,bp,bu)=>(.br (.br (.bnd (k0.h _) fun _=>(.br (k1.h _) .none)) .none) .some)
theorem l0_b ( k m1:Nat):∀ v:T0,run (cs m1) (loopN cs m1) b8 (kLoop cs m1 b8 (K8 k)) (s0 v) = d0 (g135.f m1) (l1 k m1 m1) v:=fun (a,b,e,j,l,m,o,s,t,u,w,x,y,z,B,C,D,G,H,I,J,K,P,N,O,T,S,Q,M,V,X,W,U,aa,Z,ab,ac,ad,ae,ah,ag,aq,an,ai,ar,ao,aw,ax,ay,az,ba,bb,bc,au,av,aj,ak,al,am,ap,bd,be,bf,bg,bh,bi,bj,bk,bl,bm,af,bn,bq,bv,bw,bs,bt,bo,bp,bu)=>by kernel_rfl
theorem D0_of (v:T0) {r:R} (h:d0 g135.F D1 v = some r):D0 v = some r:=loop_of 1 (fun L n hn=>by show l0 (L 0) (L 1) v = _; rw [hn]; exact (held_eq _).trans ((loopN_succ _ _ _ _ _).trans (l0_b (L 0) n v))) (d0_cn (lp g135.f 1) (.mk fun v=>(D1_cn v).re [0,1,1]) v) h
noncomputable def d1 (p0:g145.Y) (p1:Y1) (p2:Y0):Y1:=fun (a,b,e,j,l,m,o,s,t,u,w,x,y,z,B,C,D,G,H,I,J,K,P,N,O,T,S,Q,M,V,X,W,U,aa,Z,ab,ac,ad,ae,ah,ag,aq,an,ai,ar,ao,aw,ax,ay,az,ba,bb,bc,au,av,aj,ak,al,am,ap,bd,be,bf,bg,bh,bi,bj,bk,bl,bm,af,bn,bq,bv,bw,bs,bt,bo,bp,bu,ci,cj,ck,cl,cm,cn,ca,bz,cb,cc,cd,ce,cf,cg,ch,bx) =>
br (decide (l < j)) (bnd (p0 (m,o,s,t,u,w,x,y,z,B,C,D,G,H,I,J,bz,bs,bt,bo,l)) fun r=>br (decide (0 ≤ a ∧ a < (↑bx.length:Int))) (br (decide (List.length (rd ((Ty.int .i64).pair (Ty.int .i64)).slice bx a) + [(r.1,r.2.1)].length ≤ 140737488355328 / 16)) (br (decide (0 ≤ a ∧ a < (↑bx.length:Int))) (br (decide (a = a)) (p1 (a,b,e,j,wrap .i64 (l + 1),m,o,s,t,u,w,x,y,z,B,C,D,G,H,I,J,K,P,N,O,T,S,Q,M,V,X,W,U,aa,Z,ab,ac,ad,ae,ah,ag,aq,an,ai,ar,ao,aw,ax,ay,az,ba,bb,bc,au,av,aj,ak,al,am,ap,bd,be,bf,bg,bh,bi,bj,bk,bl,bm,af,bn,bq,bv,bw,bs,bt,bo,bp,bu,ci,cj,ck,cl,cm,cn,ca,bz,cb,cc,cd,ce,cf,cg,ch,bx.set a.toNat (rd ((Ty.int .i64).pair (Ty.int .i64)).slice bx a ++ [(r.1,r.2.1)]))) none) none) none) none) (p2 (b,wrap .i64 (e + 1),m,o,s,t,u,w,x,y,z,B,C,D,G,H,I,J,K,P,N,O,T,S,Q,M,V,X,W,U,aa,Z,ab,ac,ad,ae,ah,ag,aq,an,ai,ar,ao,aw,ax,ay,az,ba,bb,bc,au,av,aj,ak,al,am,ap,bd,be,bf,bg,bh,bi,bj,bk,bl,bm,af,bn,bq,ca,bz,cb,cc,cd,ce,cf,cg,ch,bx))
theorem d1_cn (k0:Pr E g145.A g145.R) (k1:Pr E T1 R) (k2:Pr E T0 R):∀ v:T1,Cn E (d1 k0.p k1.p k2.p v) fun i=>d1 (k0.q i) (k1.q i) (k2.q i) v:=fun (a,b,e,j,l,m,o,s,t,u,w,x,y,z,B,C,D,G,H,I,J,K,P,N,O,T,S,Q,M,V,X,W,U,aa,Z,ab,ac,ad,ae,ah,ag,aq,an,ai,ar,ao,aw,ax,ay,az,ba,bb,bc,au,av,aj,ak,al,am,ap,bd,be,bf,bg,bh,bi,bj,bk,bl,bm,af,bn,bq,bv,bw,bs,bt,bo,bp,bu,ci,cj,ck,cl,cm,cn,ca,bz,cb,cc,cd,ce,cf,cg,ch,bx)=>(.br (.bnd (k0.h _) fun _=>(.br (.br (.br (.br (k1.h _) .none) .none) .none) .none)) (k2.h _))
theorem l1_b ( k m1 m2:Nat):∀ v:T1,run (cs m2) (loopN cs m2) b12 (kLoop cs m2 b12 (K12 k m1)) (s1 v) = d1 (g145.f m2) (l1 k m1 m2) (l0 k m1) v:=fun (a,b,e,j,l,m,o,s,t,u,w,x,y,z,B,C,D,G,H,I,J,K,P,N,O,T,S,Q,M,V,X,W,U,aa,Z,ab,ac,ad,ae,ah,ag,aq,an,ai,ar,ao,aw,ax,ay,az,ba,bb,bc,au,av,aj,ak,al,am,ap,bd,be,bf,bg,bh,bi,bj,bk,bl,bm,af,bn,bq,bv,bw,bs,bt,bo,bp,bu,ci,cj,ck,cl,cm,cn,ca,bz,cb,cc,cd,ce,cf,cg,ch,bx)=>by kernel_rfl
theorem D1_of (v:T1) {r:R} (h:d1 g145.F D1 D0 v = some r):D1 v = some r:=loop_of 2 (fun L n hn=>by show l1 (L 0) (L 1) (L 2) v = _; rw [hn]; exact (held_eq _).trans ((loopN_succ _ _ _ _ _).trans (l1_b (L 0) (L 1) n v))) (d1_cn (lp g145.f 2) (.mk fun v=>(D1_cn v).re [0,1,2]) (.mk fun v=>(D0_cn v).re [0,1]) v) h
noncomputable def f (k:Nat):Y:=fun v=>held (runFn cs k Tryz.f29 (sh.args v) (sh.slots v) dec)
noncomputable def F:Y:=lm f
noncomputable def d (p0:g43.Y) (p1:g44.Y) (p2:g45.Y) (p3:g46.Y) (p4:Y0):Y:=fun (a,b,e,j,l,m,o,s,t,u,w,x,y,z,B,C,D,G,H,I,J,K,P,N,O,T,S,Q,M) =>
bnd (p0 (a,b,e,j,l,m,o,s,t,u,w,x,y,z,B,C,D,G,H,I,J,K,P,N,O,T,S,Q,M)) fun r=>br (!decide (r = 0)) (some (0,0,0,0,0,0,0,0,0,0,0,0,0,0,0,0,0,0,0,0,0,0,0,0,0,0,r,[],[],[],[],[])) (bnd (p1 D) fun r=>bnd (p2 Q) fun r_1=>bnd (p3 M) fun r_2=>br (decide (0 ≤ (↑r_2.length:Int) ∧ (↑r_2.length:Int) ≤ (↑r_2.length:Int) ∧ (↑r_2.length:Int) ≤ (↑(140737488355328 / 24):Int))) (br (decide (0 ≤ (↑r_2.length:Int) ∧ (↑r_2.length:Int) ≤ (↑r_2.length:Int) ∧ (↑r_2.length:Int) ≤ (↑(140737488355328 / 24):Int))) (p4 ((↑r_2.length:Int),0,a,b,e,j,l,m,o,s,t,u,w,x,y,z,B,C,0,0,0,0,0,0,0,0,0,0,0,0,0,0,0,0,0,0,0,0,0,0,0,0,0,0,a,b,e,j,l,m,o,s,t,u,w,x,y,z,B,C,G,H,I,J,K,P,N,O,T,S,r_2,r,[],[],[],[],[],r_1,List.replicate (↑r_2.length:Int).toNat (Ty.int .i64).slice.dflt,List.replicate (↑r_2.length:Int).toNat ((Ty.int .i64).pair (Ty.int .i64)).slice.dflt)) none) none)
theorem d_cn (k0:Pr E g43.A g43.R) (k1:Pr E g44.A g44.R) (k2:Pr E g45.A g45.R) (k3:Pr E g46.A g46.R) (k4:Pr E T0 R):∀ v:A,Cn E (d k0.p k1.p k2.p k3.p k4.p v) fun i=>d (k0.q i) (k1.q i) (k2.q i) (k3.q i) (k4.q i) v:=fun (a,b,e,j,l,m,o,s,t,u,w,x,y,z,B,C,D,G,H,I,J,K,P,N,O,T,S,Q,M)=>(.bnd (k0.h _) fun _=>(.br .some (.bnd (k1.h _) fun _=>(.bnd (k2.h _) fun _=>(.bnd (k3.h _) fun _=>(.br (.br (k4.h _) .none) .none))))))
theorem f_b (k:Nat):∀ v:A,f k v = d (g43.f k) (g44.f k) (g45.f k) (g46.f k) (l0 k k) v:=fun (a,b,e,j,l,m,o,s,t,u,w,x,y,z,B,C,D,G,H,I,J,K,P,N,O,T,S,Q,M)=>(held_eq _).trans (by kernel_rfl)
theorem F_of (v:A) {r:R} (h:d g43.F g44.F g45.F g46.F D0 v = some r):F v = some r:=join_of (fun L=>f_b (L 0) v) (d_cn (lp g43.f 0) (lp g44.f 0) (lp g45.f 0) (lp g46.f 0) (.mk fun v=>(D0_cn v).re [0,0]) v) h
noncomputable def spec (k:Nat):List AV→List Slot→Option Ans:=specS sh os (f k)
theorem spec_ok (k:Nat):SpecOk Tryz.prog 29 (spec k):=specS_ok cs_ok Tryz.func29 rfl rfl (fun _ _=>held_eq _) k
end g146
noncomputable def tg146:=tg145.cons 29 g146.spec g146.spec_ok
namespace g147 -- plan_CheckState
abbrev R:Type:=Int
abbrev A:Type:=Int × Int × Int × Int × Int × Int × Int × Int × Int × Int × Int × Int × Int × Int × Int × Int × List Int × Int × Int × Int × Int × Int × Int × Int × Int × Int × Int × List (ByteArray × Int) × List (Int × Int × (Int × Int × Int) × Int × Int × Int × Int × Int × Int × Int × Int) × Int × Int × Int × List (List Int)
abbrev Y:=A→Option R
def lv:List (Nat × List Nat):=[(2000000,[8]),(6,[6,7,49,50,51]),(11,[6,7,9,10,49,50,51,65,66,67])]
noncomputable def cs:Nat→Ctx:=ctxOf tis modes tg146.1 lv
theorem cs_ok (n:Nat):CtxOk Tryz.prog (cs n):=ctxOf_ok rfl tis_ok tg146.2 n
def sh:AS:=⟨[.agg [.int .i64,.int .i64,.int .i64,.int .i64,.int .i64,.int .i64,.int .i64,.int .i64,.int .i64,.int .i64,.int .i64,.int .i64,.int .i64,.int .i64,.int .i64,.int .i64,.frz (.int .i64)],.agg [.int .i64,.int .i64,.int .i64,.int .i64,.int .i64,.int .i64,.int .i64,.int .i64,.int .i64,.int .i64],.agg [.frz y19,.frz y27],.agg [.int .i64,.int .i64,.int .i64,.frz y4]],[]⟩
def os:OS:=⟨.c (.int .i64),[]⟩
def enc (r:R):Out:=os.enc r
def dec:Out→Option R:=os.dec
noncomputable def b0:Code:=subF [] Tryz.f28
noncomputable def K0 (k:Nat):Kt R:=kTop (cs k) Tryz.f28 dec
noncomputable def b6:Code:=sub [1,1,1,0,1,0,0] b0
noncomputable def K6 ( k:Nat):Kt R:=kAt (cs k) (loopN cs k) [1,1,1,0,1,0] b0 (K0 k)
noncomputable def b11:Code:=sub [1,1,0,0,1,1,1,0,0] b6
noncomputable def K11 ( k m1:Nat):Kt R:=kAt (cs m1) (loopN cs m1) [1,1,0,0,1,1,1,0] b6 (kLoop cs m1 b6 (K6 k))
abbrev T0:Type:=List (List Int) × Int × Int × List (ByteArray × Int) × List (Int × Int × (Int × Int × Int) × Int × Int × Int × Int × Int × Int × Int × Int) × Int × Int × Int × List (List Int)
abbrev Y0:=T0→Option R
def s0:T0→St:=fun (a,b,e,j,l,m,o,s,t)=>⟨102,0,[(6,.c (.ptr 64000000 0)),(7,.c (.ptr 64000001 0)),(49,.c (.frz y4 a)),(50,.c (.int .i64 b)),(51,.c (.int .i64 e))],[],[(256000000,.gone),(64000000,.box [.frz y19 j,.frz y27 l]),(64000001,.box [.int .i64 m,.int .i64 o,.int .i64 s,.frz y4 t])]⟩
noncomputable def l0 ( k n:Nat) (v:T0):Option R:=held (loopN cs n b6 (K6 k) (s0 v))
noncomputable def D0 (v:T0):Option R:=lim fun L=>l0 (L 0) (L 1) v
theorem D0_cn (v:T0):Cn late (D0 v) fun L=>l0 (L 0) (L 1) v:=of_lim
abbrev T1:Type:=Int × List Int × List (List Int) × Int × Int × List Int × Int × Int × List (ByteArray × Int) × List (Int × Int × (Int × Int × Int) × Int × Int × Int × Int × Int × Int × Int × Int) × Int × Int × Int × List (List Int)
abbrev Y1:=T1→Option R
def s1:T1→St:=fun (a,b,e,j,l,m,o,s,t,u,w,x,y,z)=>⟨102,0,[(6,.c (.ptr 64000000 0)),(7,.c (.ptr 64000001 0)),(9,.c (.int .i64 a)),(10,.c (.frz (.int .i64) b)),(49,.c (.frz y4 e)),(50,.c (.int .i64 j)),(51,.c (.int .i64 l)),(65,.c (.frz (.int .i64) m)),(66,.c (.int .i64 o)),(67,.c (.int .i64 s))],[],[(256000000,.gone),(64000000,.box [.frz y19 t,.frz y27 u]),(64000001,.box [.int .i64 w,.int .i64 x,.int .i64 y,.frz y4 z])]⟩
noncomputable def l1 ( k m1 n:Nat) (v:T1):Option R:=held (loopN cs n b11 (K11 k m1) (s1 v))
noncomputable def D1 (v:T1):Option R:=lim fun L=>l1 (L 0) (L 1) (L 2) v
theorem D1_cn (v:T1):Cn late (D1 v) fun L=>l1 (L 0) (L 1) (L 2) v:=of_lim
def d0 (p0:Y1):Y0:=fun (a,b,e,j,l,m,o,s,t) =>
br (decide (e < b)) (br (decide (0 ≤ e ∧ e < (↑a.length:Int))) (br (decide (0 ≤ e ∧ e < (↑l.length:Int))) (br (decide ((rd ty0 l e).2.2.2.2.1 < (↑(List.length (rd (Ty.int .i64).slice a e)):Int))) (some 9) (p0 (e,rd (Ty.int .i64).slice a e,a,b,e,rd (Ty.int .i64).slice a e,(↑(List.length (rd (Ty.int .i64).slice a e)):Int),0,j,l,m,o,s,t))) none) none) (some 0)
theorem d0_cn (k0:Pr E T1 R):∀ v:T0,Cn E (d0 k0.p v) fun i=>d0 (k0.q i) v:=fun (a,b,e,j,l,m,o,s,t)=>(.br (.br (.br (.br .some (k0.h _)) .none) .none) .some)
theorem l0_b ( k m1:Nat):∀ v:T0,run (cs m1) (loopN cs m1) b6 (kLoop cs m1 b6 (K6 k)) (s0 v) = d0 (l1 k m1 m1) v:=fun (a,b,e,j,l,m,o,s,t)=>by kernel_rfl
theorem D0_of (v:T0) {r:R} (h:d0 D1 v = some r):D0 v = some r:=loop_of 1 (fun L n hn=>by show l0 (L 0) (L 1) v = _; rw [hn]; exact (held_eq _).trans ((loopN_succ _ _ _ _ _).trans (l0_b (L 0) n v))) (d0_cn (.mk fun v=>(D1_cn v).re [0,1,1]) v) h
noncomputable def d1 (p0:Y1) (p1:Y0):Y1:=fun (a,b,e,j,l,m,o,s,t,u,w,x,y,z) =>
br (decide (s < o)) (br (decide (0 ≤ s ∧ s < (↑m.length:Int))) (br (!decide (rd (Ty.int .i64) m s < 0) == false || decide (0 ≤ a ∧ a < (↑u.length:Int))) (br (!((decide (rd (Ty.int .i64) m s < 0) || decide (wrap .i64 (w - (rd ty0 u a).2.2.2.1) < rd (Ty.int .i64) m s)) == false && decide (0 < s) == true) || decide (0 ≤ wrap .i64 (s - 1) ∧ wrap .i64 (s - 1) < (↑b.length:Int))) (br (decide (rd (Ty.int .i64) m s < 0) || decide (wrap .i64 (w - (rd ty0 u a).2.2.2.1) < rd (Ty.int .i64) m s) || decide (0 < s) && decide (rd (Ty.int .i64) m s ≤ rd (Ty.int .i64) b (wrap .i64 (s - 1)))) (some 11) (p0 (a,b,e,j,l,m,o,wrap .i64 (s + 1),t,u,w,x,y,z))) none) none) none) (p1 (e,j,wrap .i64 (l + 1),t,u,w,x,y,z))
theorem d1_cn (k0:Pr E T1 R) (k1:Pr E T0 R):∀ v:T1,Cn E (d1 k0.p k1.p v) fun i=>d1 (k0.q i) (k1.q i) v:=fun (a,b,e,j,l,m,o,s,t,u,w,x,y,z)=>(.br (.br (.br (.br (.br .some (k0.h _)) .none) .none) .none) (k1.h _))
theorem l1_b ( k m1 m2:Nat):∀ v:T1,run (cs m2) (loopN cs m2) b11 (kLoop cs m2 b11 (K11 k m1)) (s1 v) = d1 (l1 k m1 m2) (l0 k m1) v:=fun (a,b,e,j,l,m,o,s,t,u,w,x,y,z)=>by kernel_rfl
theorem D1_of (v:T1) {r:R} (h:d1 D1 D0 v = some r):D1 v = some r:=loop_of 2 (fun L n hn=>by show l1 (L 0) (L 1) (L 2) v = _; rw [hn]; exact (held_eq _).trans ((loopN_succ _ _ _ _ _).trans (l1_b (L 0) (L 1) n v))) (d1_cn (.mk fun v=>(D1_cn v).re [0,1,2]) (.mk fun v=>(D0_cn v).re [0,1]) v) h
noncomputable def f (k:Nat):Y:=fun v=>held (runFn cs k Tryz.f28 (sh.args v) (sh.slots v) dec)
noncomputable def F:Y:=lm f
def d (p0:g37.Y) (p1:Y0):Y:=fun (a,b,e,j,l,m,o,s,t,u,w,x,y,z,B,C,D,G,H,I,J,K,P,N,O,T,S,Q,M,V,X,W,U) =>
br ((decide (V < 0) || decide (t < V)) == false) (bnd (p0 (G,H,I,J,X)) fun r=>br ((!r) == false) (bnd (p0 (K,P,N,O,W)) fun r=>br (!r) (some 4) (br (!decide ((↑U.length:Int) = (↑M.length:Int))) (some 3) (p1 (U,(↑U.length:Int),0,Q,M,V,X,W,U)))) (some 4)) (some 4)
theorem d_cn (k0:Pr E g37.A g37.R) (k1:Pr E T0 R):∀ v:A,Cn E (d k0.p k1.p v) fun i=>d (k0.q i) (k1.q i) v:=fun (a,b,e,j,l,m,o,s,t,u,w,x,y,z,B,C,D,G,H,I,J,K,P,N,O,T,S,Q,M,V,X,W,U)=>(.br (.bnd (k0.h _) fun _=>(.br (.bnd (k0.h _) fun _=>(.br .some (.br .some (k1.h _)))) .some)) .some)
theorem f_b (k:Nat):∀ v:A,f k v = d (g37.f k) (l0 k k) v:=fun (a,b,e,j,l,m,o,s,t,u,w,x,y,z,B,C,D,G,H,I,J,K,P,N,O,T,S,Q,M,V,X,W,U)=>(held_eq _).trans (by kernel_rfl)
theorem F_of (v:A) {r:R} (h:d g37.F D0 v = some r):F v = some r:=join_of (fun L=>f_b (L 0) v) (d_cn (lp g37.f 0) (.mk fun v=>(D0_cn v).re [0,0]) v) h
noncomputable def spec (k:Nat):List AV→List Slot→Option Ans:=specS sh os (f k)
theorem spec_ok (k:Nat):SpecOk Tryz.prog 28 (spec k):=specS_ok cs_ok Tryz.func28 rfl rfl (fun _ _=>held_eq _) k
end g147
noncomputable def tg147:=tg146.cons 28 g147.spec g147.spec_ok
namespace g148 -- plan_Desk_check
abbrev R:Type:=Int
abbrev A:Type:=Int × Int × Int × Int × Int × Int × Int × Int × Int × Int × Int × Int × Int × Int × Int × Int × List Int × Int × Int × Int × Int × Int × Int × Int × Int × Int × Int × List (ByteArray × Int) × List (Int × Int × (Int × Int × Int) × Int × Int × Int × Int × Int × Int × Int × Int) × List (List Int) × List (List (Int × Int)) × Int × Int × Int × List (List Int)
abbrev Y:=A→Option R
def lv:List (Nat × List Nat):=[(2000000,[4])]
noncomputable def cs:Nat→Ctx:=ctxOf tis modes tg147.1 lv
theorem cs_ok (n:Nat):CtxOk Tryz.prog (cs n):=ctxOf_ok rfl tis_ok tg147.2 n
def sh:AS:=⟨[.agg [.int .i64,.int .i64,.int .i64,.int .i64,.int .i64,.int .i64,.int .i64,.int .i64,.int .i64,.int .i64,.int .i64,.int .i64,.int .i64,.int .i64,.int .i64,.int .i64,.frz (.int .i64),.int .i64,.int .i64,.int .i64,.int .i64,.int .i64,.int .i64,.int .i64,.int .i64,.int .i64,.int .i64,.frz y19,.frz y27,.frz y4,.frz y38],.agg [.int .i64,.int .i64,.int .i64,.frz y4]],[]⟩
def os:OS:=⟨.c (.int .i64),[]⟩
def enc (r:R):Out:=os.enc r
def dec:Out→Option R:=os.dec
noncomputable def b0:Code:=subF [] Tryz.f62
noncomputable def K0 (k:Nat):Kt R:=kTop (cs k) Tryz.f62 dec
noncomputable def f (k:Nat):Y:=fun v=>held (runFn cs k Tryz.f62 (sh.args v) (sh.slots v) dec)
noncomputable def F:Y:=lm f
def d (p0:g147.Y):Y:=fun (a,b,e,j,l,m,o,s,t,u,w,x,y,z,B,C,D,G,H,I,J,K,P,N,O,T,S,Q,M,V,X,W,U,aa,Z) =>
br (decide (t = 0)) (some 10) (bnd (p0 (a,b,e,j,l,m,o,s,t,u,w,x,y,z,B,C,D,G,H,I,J,K,P,N,O,T,S,Q,M,W,U,aa,Z)) fun r=>some r)
theorem d_cn (k0:Pr E g147.A g147.R):∀ v:A,Cn E (d k0.p v) fun i=>d (k0.q i) v:=fun (a,b,e,j,l,m,o,s,t,u,w,x,y,z,B,C,D,G,H,I,J,K,P,N,O,T,S,Q,M,V,X,W,U,aa,Z)=>(.br .some (.bnd (k0.h _) fun _=>.some))
theorem f_b (k:Nat):∀ v:A,f k v = d (g147.f k) v:=fun (a,b,e,j,l,m,o,s,t,u,w,x,y,z,B,C,D,G,H,I,J,K,P,N,O,T,S,Q,M,V,X,W,U,aa,Z)=>(held_eq _).trans (by kernel_rfl)
theorem F_of (v:A) {r:R} (h:d g147.F v = some r):F v = some r:=join_of (fun L=>f_b (L 0) v) (d_cn (lp g147.f 0) v) h
noncomputable def spec (k:Nat):List AV→List Slot→Option Ans:=specS sh os (f k)
theorem spec_ok (k:Nat):SpecOk Tryz.prog 62 (spec k):=specS_ok cs_ok Tryz.func62 rfl rfl (fun _ _=>held_eq _) k
end g148
noncomputable def tg148:=tg147.cons 62 g148.spec g148.spec_ok
namespace g149 -- plan_Clone
abbrev R:Type:=Int × Int × Int × List (List Int)
abbrev A:Type:=Int × Int × Int × List (List Int)
abbrev Y:=A→Option R
def lv:List (Nat × List Nat):=[(3000000,[9]),(2000000,[2]),(3,[1,2,3,11,12,13])]
noncomputable def cs:Nat→Ctx:=ctxOf tis modes tg148.1 lv
theorem cs_ok (n:Nat):CtxOk Tryz.prog (cs n):=ctxOf_ok rfl tis_ok tg148.2 n
def sh:AS:=⟨[(.agg [.int .i64,.int .i64,.int .i64,.frz y4])],[]⟩
def os:OS:=⟨.agg [.int .i64,.int .i64,.int .i64,.sl 128000000],[(.nest y4)]⟩
def enc (r:R):Out:=os.enc r
def dec:Out→Option R:=os.dec
noncomputable def b0:Code:=subF [] Tryz.f67
noncomputable def K0 (k:Nat):Kt R:=kTop (cs k) Tryz.f67 dec
noncomputable def b3:Code:=sub [1,1,0,1,0,0] b0
noncomputable def K3 ( k:Nat):Kt R:=kAt (cs k) (loopN cs k) [1,1,0,1,0] b0 (K0 k)
abbrev T0:Type:=List (List Int) × Int × Int × Int × Int × Int × List (List Int) × Int × Int × Int × List (List Int) × List (List Int)
abbrev Y0:=T0→Option R
def s0:T0→St:=fun (a,b,e,j,l,m,o,s,t,u,w,x)=>⟨27,0,[(1,.c (.ptr 64000000 0)),(2,.c (.ptr 64000001 0)),(3,.c (.sl 64000002)),(11,.c (.frz y4 a)),(12,.c (.int .i64 b)),(13,.c (.int .i64 e))],[],[(256000000,.gone),(64000000,.box [.int .i64 j,.int .i64 l,.int .i64 m,.frz y4 o]),(64000001,.box [.int .i64 s,.int .i64 t,.int .i64 u,.sl 64000003]),(64000002,.nest y4 w .none),(64000003,.nest y4 x .none)]⟩
noncomputable def l0 ( k n:Nat) (v:T0):Option R:=held (loopN cs n b3 (K3 k) (s0 v))
noncomputable def D0 (v:T0):Option R:=lim fun L=>l0 (L 0) (L 1) v
theorem D0_cn (v:T0):Cn late (D0 v) fun L=>l0 (L 0) (L 1) v:=of_lim
def d0 (p0:g44.Y) (p1:Y0):Y0:=fun (a,b,e,j,l,m,o,s,t,u,w,x) =>
br (decide (e < b)) (br (decide (0 ≤ e ∧ e < (↑a.length:Int))) (bnd (p0 (rd (Ty.int .i64).slice a e)) fun r=>br (decide (0 ≤ e ∧ e < (↑w.length:Int))) (p1 (a,b,wrap .i64 (e + 1),j,l,m,o,s,t,u,w.set e.toNat r,x)) none) none) (some (j,l,m,w))
theorem d0_cn (k0:Pr E g44.A g44.R) (k1:Pr E T0 R):∀ v:T0,Cn E (d0 k0.p k1.p v) fun i=>d0 (k0.q i) (k1.q i) v:=fun (a,b,e,j,l,m,o,s,t,u,w,x)=>(.br (.br (.bnd (k0.h _) fun _=>(.br (k1.h _) .none)) .none) .some)
theorem l0_b ( k m1:Nat):∀ v:T0,run (cs m1) (loopN cs m1) b3 (kLoop cs m1 b3 (K3 k)) (s0 v) = d0 (g44.f m1) (l0 k m1) v:=fun (a,b,e,j,l,m,o,s,t,u,w,x)=>by kernel_rfl
theorem D0_of (v:T0) {r:R} (h:d0 g44.F D0 v = some r):D0 v = some r:=loop_of 1 (fun L n hn=>by show l0 (L 0) (L 1) v = _; rw [hn]; exact (held_eq _).trans ((loopN_succ _ _ _ _ _).trans (l0_b (L 0) n v))) (d0_cn (lp g44.f 1) (.mk fun v=>(D0_cn v).re [0,1]) v) h
noncomputable def f (k:Nat):Y:=fun v=>held (runFn cs k Tryz.f67 (sh.args v) (sh.slots v) dec)
noncomputable def F:Y:=lm f
def d (p0:Y0):Y:=fun (a,b,e,j) =>
br (decide (0 ≤ (↑j.length:Int) ∧ (↑j.length:Int) ≤ (↑j.length:Int) ∧ (↑j.length:Int) ≤ (↑(140737488355328 / 24):Int))) (p0 (j,(↑j.length:Int),0,a,b,e,j,0,0,0,List.replicate (↑j.length:Int).toNat (Ty.int .i64).slice.dflt,[])) none
theorem d_cn (k0:Pr E T0 R):∀ v:A,Cn E (d k0.p v) fun i=>d (k0.q i) v:=fun (a,b,e,j)=>(.br (k0.h _) .none)
theorem f_b (k:Nat):∀ v:A,f k v = d (l0 k k) v:=fun (a,b,e,j)=>(held_eq _).trans (by kernel_rfl)
theorem F_of (v:A) {r:R} (h:d D0 v = some r):F v = some r:=join_of (fun L=>f_b (L 0) v) (d_cn (.mk fun v=>(D0_cn v).re [0,0]) v) h
noncomputable def spec (k:Nat):List AV→List Slot→Option Ans:=specS sh os (f k)
theorem spec_ok (k:Nat):SpecOk Tryz.prog 67 (spec k):=specS_ok cs_ok Tryz.func67 rfl rfl (fun _ _=>held_eq _) k
end g149
noncomputable def tg149:=tg148.cons 67 g149.spec g149.spec_ok
namespace g150 -- plan_Used
abbrev R:Type:=List Int
abbrev A:Type:=List (ByteArray × Int) × List (Int × Int × (Int × Int × Int) × Int × Int × Int × Int × Int × Int × Int × Int) × Int × Int × Int × List (List Int)
abbrev Y:=A→Option R
def lv:List (Nat × List Nat):=[(2000000,[4]),(5,[3,5,25,26,27])]
noncomputable def cs:Nat→Ctx:=ctxOf tis modes tg149.1 lv
theorem cs_ok (n:Nat):CtxOk Tryz.prog (cs n):=ctxOf_ok rfl tis_ok tg149.2 n
def sh:AS:=⟨[.agg [.frz y19,.frz y27],.agg [.int .i64,.int .i64,.int .i64,.frz y4]],[]⟩
def os:OS:=⟨.c (.sl 128000000),[(.row (.int .i64))]⟩
def enc (r:R):Out:=os.enc r
def dec:Out→Option R:=os.dec
noncomputable def b0:Code:=subF [] Tryz.f31
noncomputable def K0 (k:Nat):Kt R:=kTop (cs k) Tryz.f31 dec
noncomputable def b5:Code:=sub [1,1,1,0,1,0,0] b0
noncomputable def K5 ( k:Nat):Kt R:=kAt (cs k) (loopN cs k) [1,1,1,0,1,0] b0 (K0 k)
abbrev T0:Type:=List (Int × Int × (Int × Int × Int) × Int × Int × Int × Int × Int × Int × Int × Int) × Int × Int × Int × Int × Int × List (List Int) × List Int
abbrev Y0:=T0→Option R
def s0:T0→St:=fun (a,b,e,j,l,m,o,s)=>⟨50,0,[(3,.c (.ptr 64000000 0)),(5,.c (.sl 64000001)),(25,.c (.frz y27 a)),(26,.c (.int .i64 b)),(27,.c (.int .i64 e))],[],[(256000000,.gone),(64000000,.box [.int .i64 j,.int .i64 l,.int .i64 m,.frz y4 o]),(64000001,.row (.int .i64) s)]⟩
noncomputable def l0 ( k n:Nat) (v:T0):Option R:=held (loopN cs n b5 (K5 k) (s0 v))
noncomputable def D0 (v:T0):Option R:=lim fun L=>l0 (L 0) (L 1) v
theorem D0_cn (v:T0):Cn late (D0 v) fun L=>l0 (L 0) (L 1) v:=of_lim
def d0 (p0:Y0):Y0:=fun (a,b,e,j,l,m,o,s) =>
br (decide (e < b)) (br (decide (0 ≤ e ∧ e < (↑a.length:Int))) (br (decide (0 ≤ (rd ty0 a e).2.1 ∧ (rd ty0 a e).2.1 < (↑s.length:Int))) (br (decide (0 ≤ e ∧ e < (↑o.length:Int))) (br (decide (0 ≤ (rd ty0 a e).2.1 ∧ (rd ty0 a e).2.1 < (↑s.length:Int))) (p0 (a,b,wrap .i64 (e + 1),j,l,m,o,s.set (Int.toNat (rd ty0 a e).2.1) (wrap .i64 (rd (Ty.int .i64) s (rd ty0 a e).2.1 + wrap .i64 ((rd ty0 a e).2.2.2.1 * (↑(List.length (rd (Ty.int .i64).slice o e)):Int)))))) none) none) none) none) (some s)
theorem d0_cn (k0:Pr E T0 R):∀ v:T0,Cn E (d0 k0.p v) fun i=>d0 (k0.q i) v:=fun (a,b,e,j,l,m,o,s)=>(.br (.br (.br (.br (.br (k0.h _) .none) .none) .none) .none) .some)
theorem l0_b ( k m1:Nat):∀ v:T0,run (cs m1) (loopN cs m1) b5 (kLoop cs m1 b5 (K5 k)) (s0 v) = d0 (l0 k m1) v:=fun (a,b,e,j,l,m,o,s)=>by kernel_rfl
theorem D0_of (v:T0) {r:R} (h:d0 D0 v = some r):D0 v = some r:=loop_of 1 (fun L n hn=>by show l0 (L 0) (L 1) v = _; rw [hn]; exact (held_eq _).trans ((loopN_succ _ _ _ _ _).trans (l0_b (L 0) n v))) (d0_cn (.mk fun v=>(D0_cn v).re [0,1]) v) h
noncomputable def f (k:Nat):Y:=fun v=>held (runFn cs k Tryz.f31 (sh.args v) (sh.slots v) dec)
noncomputable def F:Y:=lm f
def d (p0:g42.Y) (p1:Y0):Y:=fun (a,b,e,j,l,m) =>
bnd (p0 (a,b)) fun r=>br (!decide (r = 0) || !decide ((↑m.length:Int) = (↑b.length:Int))) (some []) (br (decide (0 ≤ (↑a.length:Int) ∧ (↑a.length:Int) ≤ (↑a.length:Int) ∧ (↑a.length:Int) ≤ (↑(140737488355328 / 8):Int))) (p1 (b,(↑b.length:Int),0,e,j,l,m,List.replicate (↑a.length:Int).toNat (Ty.int .i64).dflt)) none)
theorem d_cn (k0:Pr E g42.A g42.R) (k1:Pr E T0 R):∀ v:A,Cn E (d k0.p k1.p v) fun i=>d (k0.q i) (k1.q i) v:=fun (a,b,e,j,l,m)=>(.bnd (k0.h _) fun _=>(.br .some (.br (k1.h _) .none)))
theorem f_b (k:Nat):∀ v:A,f k v = d (g42.f k) (l0 k k) v:=fun (a,b,e,j,l,m)=>(held_eq _).trans (by kernel_rfl)
theorem F_of (v:A) {r:R} (h:d g42.F D0 v = some r):F v = some r:=join_of (fun L=>f_b (L 0) v) (d_cn (lp g42.f 0) (.mk fun v=>(D0_cn v).re [0,0]) v) h
noncomputable def spec (k:Nat):List AV→List Slot→Option Ans:=specS sh os (f k)
theorem spec_ok (k:Nat):SpecOk Tryz.prog 31 (spec k):=specS_ok cs_ok Tryz.func31 rfl rfl (fun _ _=>held_eq _) k
end g150
noncomputable def tg150:=tg149.cons 31 g150.spec g150.spec_ok
namespace g151 -- slew_mod
abbrev R:Type:=Int
abbrev A:Type:=Int
abbrev Y:=A→Option R
def lv:List (Nat × List Nat):=[(2000000,[2]),(1000004,[0])]
noncomputable def cs:Nat→Ctx:=ctxOf tis modes tg150.1 lv
theorem cs_ok (n:Nat):CtxOk Tryz.prog (cs n):=ctxOf_ok rfl tis_ok tg150.2 n
def sh:AS:=⟨[(.c (.int .i64))],[]⟩
def os:OS:=⟨.c (.int .i64),[]⟩
def enc (r:R):Out:=os.enc r
def dec:Out→Option R:=os.dec
noncomputable def b0:Code:=subF [] Tryz.f168
noncomputable def K0 (k:Nat):Kt R:=kTop (cs k) Tryz.f168 dec
noncomputable def c1000004:Code:=sub [1,1,1] b0
noncomputable def J1000004 ( k:Nat):Kt R:=kAt (cs k) (loopN cs k) [1,1,1] b0 (K0 k)
abbrev T0:Type:=Int
abbrev Y0:=T0→Option R
def s0:T0→St:=fun a=>⟨10,0,[(0,.c (.int .i64 a))],[],[(256000000,.gone)]⟩
noncomputable def l0 ( k:Nat) (v:T0):Option R:=held (run (cs k) (loopN cs k) c1000004 (J1000004 k) (s0 v))
noncomputable def D0 (v:T0):Option R:=lim fun L=>l0 (L 0) v
theorem D0_cn (v:T0):Cn late (D0 v) fun L=>l0 (L 0) v:=of_lim
def d0:Y0:=fun a =>
some a
theorem d0_cn:∀ v:T0,Cn E (d0 v) fun i=>d0 v:=fun a=>.some
theorem l0_b ( k:Nat):∀ v:T0,run (cs k) (loopN cs k) c1000004 (J1000004 k) (s0 v) = d0 v:=fun a=>by kernel_rfl
theorem D0_of (v:T0) {r:R} (h:d0 v = some r):D0 v = some r:=join_of (fun L=>(held_eq _).trans (l0_b (L 0) v)) (d0_cn v) h
noncomputable def f (k:Nat):Y:=fun v=>held (runFn cs k Tryz.f168 (sh.args v) (sh.slots v) dec)
noncomputable def F:Y:=lm f
def d (p0:Y0):Y:=fun a =>
br (!decide (4294967296 = 0)) (br (decide (a.tmod (4294967296:Int) < 0)) (p0 (wrap .i64 (a.tmod 4294967296 + 4294967296))) (p0 (a.tmod 4294967296))) none
theorem d_cn (k0:Pr E T0 R):∀ v:A,Cn E (d k0.p v) fun i=>d (k0.q i) v:=fun a=>(.br (.br (k0.h _) (k0.h _)) .none)
theorem f_b (k:Nat):∀ v:A,f k v = d (l0 k) v:=fun a=>(held_eq _).trans (by kernel_rfl)
theorem F_of (v:A) {r:R} (h:d D0 v = some r):F v = some r:=join_of (fun L=>f_b (L 0) v) (d_cn (.mk fun v=>(D0_cn v).re [0]) v) h
noncomputable def spec (k:Nat):List AV→List Slot→Option Ans:=specS sh os (f k)
theorem spec_ok (k:Nat):SpecOk Tryz.prog 168 (spec k):=specS_ok cs_ok Tryz.func168 rfl rfl (fun _ _=>held_eq _) k
end g151
noncomputable def tg151:=tg150.cons 168 g151.spec g151.spec_ok
namespace g152 -- slew_abs
abbrev R:Type:=Int
abbrev A:Type:=Int
abbrev Y:=A→Option R
def lv:List (Nat × List Nat):=[(2000000,[2])]
noncomputable def cs:Nat→Ctx:=ctxOf tis modes tg151.1 lv
theorem cs_ok (n:Nat):CtxOk Tryz.prog (cs n):=ctxOf_ok rfl tis_ok tg151.2 n
def sh:AS:=⟨[(.c (.int .i64))],[]⟩
def os:OS:=⟨.c (.int .i64),[]⟩
def enc (r:R):Out:=os.enc r
def dec:Out→Option R:=os.dec
noncomputable def b0:Code:=subF [] Tryz.f128
noncomputable def K0 (k:Nat):Kt R:=kTop (cs k) Tryz.f128 dec
noncomputable def f (k:Nat):Y:=fun v=>held (runFn cs k Tryz.f128 (sh.args v) (sh.slots v) dec)
noncomputable def F:Y:=lm f
def d:Y:=fun a =>
some (max a (wrap .i64 (0 - a)))
theorem d_cn:∀ v:A,Cn E (d v) fun i=>d v:=fun a=>.some
theorem f_b (k:Nat):∀ v:A,f k v = d v:=fun a=>(held_eq _).trans (by kernel_rfl)
theorem F_of (v:A) {r:R} (h:d v = some r):F v = some r:=join_of (fun L=>f_b (L 0) v) (d_cn v) h
noncomputable def spec (k:Nat):List AV→List Slot→Option Ans:=specS sh os (f k)
theorem spec_ok (k:Nat):SpecOk Tryz.prog 128 (spec k):=specS_ok cs_ok Tryz.func128 rfl rfl (fun _ _=>held_eq _) k
end g152
noncomputable def tg152:=tg151.cons 128 g152.spec g152.spec_ok
namespace g153 -- slew_Target
abbrev R:Type:=Int × Int
abbrev A:Type:=Int × Int × Int × Int × Int × Int
abbrev Y:=A→Option R
def lv:List (Nat × List Nat):=[(2000000,[6,7]),(10,[1,3,9,10]),(1000011,[1,3,9,10])]
noncomputable def cs:Nat→Ctx:=ctxOf tis modes tg152.1 lv
theorem cs_ok (n:Nat):CtxOk Tryz.prog (cs n):=ctxOf_ok rfl tis_ok tg152.2 n
def sh:AS:=⟨[.agg [.int .i64,.int .i64,.int .i64,.int .i64],.c (.int .i64),.c (.int .i64)],[]⟩
def os:OS:=⟨.tup [.c (.int .i64),.c (.int .i64)],[]⟩
def enc (r:R):Out:=os.enc r
def dec:Out→Option R:=os.dec
noncomputable def b0:Code:=subF [] Tryz.f130
noncomputable def K0 (k:Nat):Kt R:=kTop (cs k) Tryz.f130 dec
noncomputable def b10:Code:=sub [1,1,1,1,1,1,0,0,0] b0
noncomputable def K10 ( k:Nat):Kt R:=kAt (cs k) (loopN cs k) [1,1,1,1,1,1,0,0] b0 (K0 k)
noncomputable def c1000011:Code:=sub [1,1] b10
noncomputable def J1000011 ( k m1:Nat):Kt R:=kAt (cs m1) (loopN cs m1) [1,1] b10 (kLoop cs m1 b10 (K10 k))
abbrev T0:Type:=Int × Int × Int × Int × Int × Int × Int
abbrev Y0:=T0→Option R
def s0:T0→St:=fun (a,b,e,j,l,m,o)=>⟨52,0,[(1,.c (.int .i64 a)),(3,.c (.ptr 64000000 0)),(9,.c (.int .i64 b)),(10,.c (.int .i64 e))],[],[(256000000,.gone),(64000000,.box [.int .i64 j,.int .i64 l,.int .i64 m,.int .i64 o])]⟩
noncomputable def l0 ( k n:Nat) (v:T0):Option R:=held (loopN cs n b10 (K10 k) (s0 v))
noncomputable def D0 (v:T0):Option R:=lim fun L=>l0 (L 0) (L 1) v
theorem D0_cn (v:T0):Cn late (D0 v) fun L=>l0 (L 0) (L 1) v:=of_lim
abbrev T1:Type:=Int × Int × Int × Int × Int × Int × Int
abbrev Y1:=T1→Option R
def s1:T1→St:=fun (a,b,e,j,l,m,o)=>⟨52,0,[(1,.c (.int .i64 a)),(3,.c (.ptr 64000000 0)),(9,.c (.int .i64 b)),(10,.c (.int .i64 e))],[],[(256000000,.gone),(64000000,.box [.int .i64 j,.int .i64 l,.int .i64 m,.int .i64 o])]⟩
noncomputable def l1 ( k m1:Nat) (v:T1):Option R:=held (run (cs m1) (loopN cs m1) c1000011 (J1000011 k m1) (s1 v))
noncomputable def D1 (v:T1):Option R:=lim fun L=>l1 (L 0) (L 1) v
theorem D1_cn (v:T1):Cn late (D1 v) fun L=>l1 (L 0) (L 1) v:=of_lim
def d0 (p0:g152.Y) (p1:Y1):Y0:=fun (a,b,e,j,l,m,o) =>
br (decide (b ≤ l)) (bnd (p0 (wrap .i64 (b - a))) fun r=>bnd (p0 (wrap .i64 (e - a))) fun r_1=>br (decide (r < r_1)) (p1 (a,b,b,j,l,m,o)) (p1 (a,b,e,j,l,m,o))) (some (e,0))
theorem d0_cn (k0:Pr E g152.A g152.R) (k1:Pr E T1 R):∀ v:T0,Cn E (d0 k0.p k1.p v) fun i=>d0 (k0.q i) (k1.q i) v:=fun (a,b,e,j,l,m,o)=>(.br (.bnd (k0.h _) fun _=>(.bnd (k0.h _) fun _=>(.br (k1.h _) (k1.h _)))) .some)
theorem l0_b ( k m1:Nat):∀ v:T0,run (cs m1) (loopN cs m1) b10 (kLoop cs m1 b10 (K10 k)) (s0 v) = d0 (g152.f m1) (l1 k m1) v:=fun (a,b,e,j,l,m,o)=>by kernel_rfl
theorem D0_of (v:T0) {r:R} (h:d0 g152.F D1 v = some r):D0 v = some r:=loop_of 1 (fun L n hn=>by show l0 (L 0) (L 1) v = _; rw [hn]; exact (held_eq _).trans ((loopN_succ _ _ _ _ _).trans (l0_b (L 0) n v))) (d0_cn (lp g152.f 1) (.mk fun v=>(D1_cn v).re [0,1]) v) h
def d1 (p0:Y0):Y1:=fun (a,b,e,j,l,m,o) =>
p0 (a,wrap .i64 (b + 4294967296),e,j,l,m,o)
theorem d1_cn (k0:Pr E T0 R):∀ v:T1,Cn E (d1 k0.p v) fun i=>d1 (k0.q i) v:=fun (a,b,e,j,l,m,o)=>(k0.h _)
theorem l1_b ( k m1:Nat):∀ v:T1,run (cs m1) (loopN cs m1) c1000011 (J1000011 k m1) (s1 v) = d1 (l0 k m1) v:=fun (a,b,e,j,l,m,o)=>by kernel_rfl
theorem D1_of (v:T1) {r:R} (h:d1 D0 v = some r):D1 v = some r:=join_of (fun L=>(held_eq _).trans (l1_b (L 0) (L 1) v)) (d1_cn (.mk fun v=>(D0_cn v).re [0,1]) v) h
noncomputable def f (k:Nat):Y:=fun v=>held (runFn cs k Tryz.f130 (sh.args v) (sh.slots v) dec)
noncomputable def F:Y:=lm f
def d (p0:g36.Y) (p1:g37.Y) (p2:g151.Y) (p3:Y0):Y:=fun (a,b,e,j,l,m) =>
bnd (p0 (a,b,e,j)) fun r=>br (!decide (r = 0)) (some (0,r)) (bnd (p1 (a,b,e,j,l)) fun r=>br (!r) (some (0,4)) (bnd (p2 m) fun r=>bnd (p2 a) fun r_1=>bnd (p2 (wrap .i64 (r - r_1))) fun r=>br (decide (b < wrap .i64 (a + r))) (some (0,4)) (p3 (l,wrap .i64 (a + r),wrap .i64 (a + r),a,b,e,j))))
theorem d_cn (k0:Pr E g36.A g36.R) (k1:Pr E g37.A g37.R) (k2:Pr E g151.A g151.R) (k3:Pr E T0 R):∀ v:A,Cn E (d k0.p k1.p k2.p k3.p v) fun i=>d (k0.q i) (k1.q i) (k2.q i) (k3.q i) v:=fun (a,b,e,j,l,m)=>(.bnd (k0.h _) fun _=>(.br .some (.bnd (k1.h _) fun _=>(.br .some (.bnd (k2.h _) fun _=>(.bnd (k2.h _) fun _=>(.bnd (k2.h _) fun _=>(.br .some (k3.h _)))))))))
theorem f_b (k:Nat):∀ v:A,f k v = d (g36.f k) (g37.f k) (g151.f k) (l0 k k) v:=fun (a,b,e,j,l,m)=>(held_eq _).trans (by kernel_rfl)
theorem F_of (v:A) {r:R} (h:d g36.F g37.F g151.F D0 v = some r):F v = some r:=join_of (fun L=>f_b (L 0) v) (d_cn (lp g36.f 0) (lp g37.f 0) (lp g151.f 0) (.mk fun v=>(D0_cn v).re [0,0]) v) h
noncomputable def spec (k:Nat):List AV→List Slot→Option Ans:=specS sh os (f k)
theorem spec_ok (k:Nat):SpecOk Tryz.prog 130 (spec k):=specS_ok cs_ok Tryz.func130 rfl rfl (fun _ _=>held_eq _) k
end g153
noncomputable def tg153:=tg152.cons 130 g153.spec g153.spec_ok
namespace g154 -- slew_fastest
abbrev R:Type:=Int
abbrev A:Type:=Int × Int × Int × Int × Int
abbrev Y:=A→Option R
def lv:List (Nat × List Nat):=[(2000000,[4]),(2,[1,2,5])]
noncomputable def cs:Nat→Ctx:=ctxOf tis modes tg153.1 lv
theorem cs_ok (n:Nat):CtxOk Tryz.prog (cs n):=ctxOf_ok rfl tis_ok tg153.2 n
def sh:AS:=⟨[.agg [.int .i64,.int .i64,.int .i64,.int .i64],.c (.int .i64)],[]⟩
def os:OS:=⟨.c (.int .i64),[]⟩
def enc (r:R):Out:=os.enc r
def dec:Out→Option R:=os.dec
noncomputable def b0:Code:=subF [] Tryz.f169
noncomputable def K0 (k:Nat):Kt R:=kTop (cs k) Tryz.f169 dec
noncomputable def b2:Code:=sub [1,0,1,0,0] b0
noncomputable def K2 ( k:Nat):Kt R:=kAt (cs k) (loopN cs k) [1,0,1,0] b0 (K0 k)
abbrev T0:Type:=Int × Int × Int × Int × Int × Int
abbrev Y0:=T0→Option R
def s0:T0→St:=fun (a,b,e,j,l,m)=>⟨37,0,[(1,.c (.int .i64 a)),(2,.c (.ptr 64000000 0)),(5,.c (.int .i64 b))],[],[(256000000,.gone),(64000000,.box [.int .i64 e,.int .i64 j,.int .i64 l,.int .i64 m])]⟩
noncomputable def l0 ( k n:Nat) (v:T0):Option R:=held (loopN cs n b2 (K2 k) (s0 v))
noncomputable def D0 (v:T0):Option R:=lim fun L=>l0 (L 0) (L 1) v
theorem D0_cn (v:T0):Cn late (D0 v) fun L=>l0 (L 0) (L 1) v:=of_lim
def d0 (p0:Y0):Y0:=fun (a,b,e,j,l,m) =>
br (decide (b ≤ 64)) (br (!decide (2 = 0)) (br (decide (a ≤ wrap .i64 (m * wrap .i64 ((wrap .i64 (b * wrap .i64 (b + 1))).tdiv 2)))) (br (!decide (2 = 0)) (br (!decide (b = 0)) (some (min l (wrap .i64 ((wrap .i64 (a + wrap .i64 (m * wrap .i64 ((wrap .i64 (b * wrap .i64 (b - 1))).tdiv 2)))).tdiv b)))) none) none) (p0 (a,wrap .i64 (b + 1),e,j,l,m))) none) (some l)
theorem d0_cn (k0:Pr E T0 R):∀ v:T0,Cn E (d0 k0.p v) fun i=>d0 (k0.q i) v:=fun (a,b,e,j,l,m)=>(.br (.br (.br (.br (.br .some .none) .none) (k0.h _)) .none) .some)
theorem l0_b ( k m1:Nat):∀ v:T0,run (cs m1) (loopN cs m1) b2 (kLoop cs m1 b2 (K2 k)) (s0 v) = d0 (l0 k m1) v:=fun (a,b,e,j,l,m)=>by kernel_rfl
theorem D0_of (v:T0) {r:R} (h:d0 D0 v = some r):D0 v = some r:=loop_of 1 (fun L n hn=>by show l0 (L 0) (L 1) v = _; rw [hn]; exact (held_eq _).trans ((loopN_succ _ _ _ _ _).trans (l0_b (L 0) n v))) (d0_cn (.mk fun v=>(D0_cn v).re [0,1]) v) h
noncomputable def f (k:Nat):Y:=fun v=>held (runFn cs k Tryz.f169 (sh.args v) (sh.slots v) dec)
noncomputable def F:Y:=lm f
def d (p0:Y0):Y:=fun (a,b,e,j,l) =>
p0 (l,1,a,b,e,j)
theorem d_cn (k0:Pr E T0 R):∀ v:A,Cn E (d k0.p v) fun i=>d (k0.q i) v:=fun (a,b,e,j,l)=>(k0.h _)
theorem f_b (k:Nat):∀ v:A,f k v = d (l0 k k) v:=fun (a,b,e,j,l)=>(held_eq _).trans (by kernel_rfl)
theorem F_of (v:A) {r:R} (h:d D0 v = some r):F v = some r:=join_of (fun L=>f_b (L 0) v) (d_cn (.mk fun v=>(D0_cn v).re [0,0]) v) h
noncomputable def spec (k:Nat):List AV→List Slot→Option Ans:=specS sh os (f k)
theorem spec_ok (k:Nat):SpecOk Tryz.prog 169 (spec k):=specS_ok cs_ok Tryz.func169 rfl rfl (fun _ _=>held_eq _) k
end g154
noncomputable def tg154:=tg153.cons 169 g154.spec g154.spec_ok
namespace g155 -- slew_stop
abbrev R:Type:=Int
abbrev A:Type:=Int × Int × Int × Int
abbrev Y:=A→Option R
def lv:List (Nat × List Nat):=[(2000000,[2])]
noncomputable def cs:Nat→Ctx:=ctxOf tis modes tg154.1 lv
theorem cs_ok (n:Nat):CtxOk Tryz.prog (cs n):=ctxOf_ok rfl tis_ok tg154.2 n
def sh:AS:=⟨[(.agg [.int .i64,.int .i64,.int .i64,.int .i64])],[]⟩
def os:OS:=⟨.c (.int .i64),[]⟩
def enc (r:R):Out:=os.enc r
def dec:Out→Option R:=os.dec
noncomputable def b0:Code:=subF [] Tryz.f170
noncomputable def K0 (k:Nat):Kt R:=kTop (cs k) Tryz.f170 dec
noncomputable def f (k:Nat):Y:=fun v=>held (runFn cs k Tryz.f170 (sh.args v) (sh.slots v) dec)
noncomputable def F:Y:=lm f
def d:Y:=fun (a,b,e,j) =>
br (!decide (j = 0)) (br (!decide (2 = 0)) (some (wrap .i64 (wrap .i64 (wrap .i64 ((wrap .i64 (wrap .i64 (e + j) - 1)).tdiv j) * e) - wrap .i64 (j * wrap .i64 ((wrap .i64 (wrap .i64 ((wrap .i64 (wrap .i64 (e + j) - 1)).tdiv j) * wrap .i64 (wrap .i64 ((wrap .i64 (wrap .i64 (e + j) - 1)).tdiv j) - 1))).tdiv 2))))) none) none
theorem d_cn:∀ v:A,Cn E (d v) fun i=>d v:=fun (a,b,e,j)=>(.br (.br .some .none) .none)
theorem f_b (k:Nat):∀ v:A,f k v = d v:=fun (a,b,e,j)=>(held_eq _).trans (by kernel_rfl)
theorem F_of (v:A) {r:R} (h:d v = some r):F v = some r:=join_of (fun L=>f_b (L 0) v) (d_cn v) h
noncomputable def spec (k:Nat):List AV→List Slot→Option Ans:=specS sh os (f k)
theorem spec_ok (k:Nat):SpecOk Tryz.prog 170 (spec k):=specS_ok cs_ok Tryz.func170 rfl rfl (fun _ _=>held_eq _) k
end g155
noncomputable def tg155:=tg154.cons 170 g155.spec g155.spec_ok
namespace g156 -- slew_Steps
abbrev R:Type:=Int × Int
abbrev A:Type:=Int × Int × Int × Int × Int × Int
abbrev Y:=A→Option R
def lv:List (Nat × List Nat):=[(2000000,[6,7]),(7,[3,9,10,11]),(1000013,[3,9,10,11]),(1000017,[11])]
noncomputable def cs:Nat→Ctx:=ctxOf tis modes tg155.1 lv
theorem cs_ok (n:Nat):CtxOk Tryz.prog (cs n):=ctxOf_ok rfl tis_ok tg155.2 n
def sh:AS:=⟨[.agg [.int .i64,.int .i64,.int .i64,.int .i64],.c (.int .i64),.c (.int .i64)],[]⟩
def os:OS:=⟨.tup [.c (.int .i64),.c (.int .i64)],[]⟩
def enc (r:R):Out:=os.enc r
def dec:Out→Option R:=os.dec
noncomputable def b0:Code:=subF [] Tryz.f131
noncomputable def K0 (k:Nat):Kt R:=kTop (cs k) Tryz.f131 dec
noncomputable def b7:Code:=sub [1,1,1,1,0,0,0] b0
noncomputable def K7 ( k:Nat):Kt R:=kAt (cs k) (loopN cs k) [1,1,1,1,0,0] b0 (K0 k)
noncomputable def c1000013:Code:=sub [1,0,1,1] b7
noncomputable def J1000013 ( k m1:Nat):Kt R:=kAt (cs m1) (loopN cs m1) [1,0,1,1] b7 (kLoop cs m1 b7 (K7 k))
noncomputable def c1000017:Code:=sub [1,1,1,1,1,1] b0
noncomputable def J1000017 ( k:Nat):Kt R:=kAt (cs k) (loopN cs k) [1,1,1,1,1,1] b0 (K0 k)
abbrev T0:Type:=Int × Int × Int × Int × Int × Int × Int
abbrev Y0:=T0→Option R
def s0:T0→St:=fun (a,b,e,j,l,m,o)=>⟨78,0,[(3,.c (.ptr 64000000 0)),(9,.c (.int .i64 a)),(10,.c (.int .i64 b)),(11,.c (.int .i64 e))],[],[(256000000,.gone),(64000000,.box [.int .i64 j,.int .i64 l,.int .i64 m,.int .i64 o])]⟩
noncomputable def l0 ( k n:Nat) (v:T0):Option R:=held (loopN cs n b7 (K7 k) (s0 v))
noncomputable def D0 (v:T0):Option R:=lim fun L=>l0 (L 0) (L 1) v
theorem D0_cn (v:T0):Cn late (D0 v) fun L=>l0 (L 0) (L 1) v:=of_lim
abbrev T1:Type:=Int × Int × Int × Int × Int × Int × Int
abbrev Y1:=T1→Option R
def s1:T1→St:=fun (a,b,e,j,l,m,o)=>⟨78,0,[(3,.c (.ptr 64000000 0)),(9,.c (.int .i64 a)),(10,.c (.int .i64 b)),(11,.c (.int .i64 e))],[],[(256000000,.gone),(64000000,.box [.int .i64 j,.int .i64 l,.int .i64 m,.int .i64 o])]⟩
noncomputable def l1 ( k m1:Nat) (v:T1):Option R:=held (run (cs m1) (loopN cs m1) c1000013 (J1000013 k m1) (s1 v))
noncomputable def D1 (v:T1):Option R:=lim fun L=>l1 (L 0) (L 1) v
theorem D1_cn (v:T1):Cn late (D1 v) fun L=>l1 (L 0) (L 1) v:=of_lim
abbrev T2:Type:=Int
abbrev Y2:=T2→Option R
def s2:T2→St:=fun a=>⟨78,0,[(11,.c (.int .i64 a))],[],[(256000000,.gone)]⟩
noncomputable def l2 ( k:Nat) (v:T2):Option R:=held (run (cs k) (loopN cs k) c1000017 (J1000017 k) (s2 v))
noncomputable def D2 (v:T2):Option R:=lim fun L=>l2 (L 0) v
theorem D2_cn (v:T2):Cn late (D2 v) fun L=>l2 (L 0) v:=of_lim
def d0 (p0:g154.Y) (p1:g155.Y) (p2:Y1) (p3:Y2):Y0:=fun (a,b,e,j,l,m,o) =>
br (decide (0 < a)) (bnd (p0 (j,l,m,o,a)) fun r=>bnd (p1 (j,l,m,o)) fun r_1=>br (!decide (m = 0)) (br (decide (min (wrap .i64 (b + o)) r = m) && decide (1 < wrap .i64 ((wrap .i64 (a - r_1)).tdiv m))) (p2 (wrap .i64 (a - wrap .i64 (wrap .i64 (wrap .i64 ((wrap .i64 (a - r_1)).tdiv m) - 1) * m)),min (wrap .i64 (b + o)) r,wrap .i64 (e + wrap .i64 (wrap .i64 ((wrap .i64 (a - r_1)).tdiv m) - 1)),j,l,m,o)) (p2 (a,min (wrap .i64 (b + o)) r,e,j,l,m,o))) none) (br (decide (0 < b)) (p3 (wrap .i64 (e + 1))) (p3 e))
theorem d0_cn (k0:Pr E g154.A g154.R) (k1:Pr E g155.A g155.R) (k2:Pr E T1 R) (k3:Pr E T2 R):∀ v:T0,Cn E (d0 k0.p k1.p k2.p k3.p v) fun i=>d0 (k0.q i) (k1.q i) (k2.q i) (k3.q i) v:=fun (a,b,e,j,l,m,o)=>(.br (.bnd (k0.h _) fun _=>(.bnd (k1.h _) fun _=>(.br (.br (k2.h _) (k2.h _)) .none))) (.br (k3.h _) (k3.h _)))
theorem l0_b ( k m1:Nat):∀ v:T0,run (cs m1) (loopN cs m1) b7 (kLoop cs m1 b7 (K7 k)) (s0 v) = d0 (g154.f m1) (g155.f m1) (l1 k m1) (l2 k) v:=fun (a,b,e,j,l,m,o)=>by kernel_rfl
theorem D0_of (v:T0) {r:R} (h:d0 g154.F g155.F D1 D2 v = some r):D0 v = some r:=loop_of 1 (fun L n hn=>by show l0 (L 0) (L 1) v = _; rw [hn]; exact (held_eq _).trans ((loopN_succ _ _ _ _ _).trans (l0_b (L 0) n v))) (d0_cn (lp g154.f 1) (lp g155.f 1) (.mk fun v=>(D1_cn v).re [0,1]) (.mk fun v=>(D2_cn v).re [0]) v) h
def d1 (p0:Y0):Y1:=fun (a,b,e,j,l,m,o) =>
p0 (wrap .i64 (a - b),b,wrap .i64 (e + 1),j,l,m,o)
theorem d1_cn (k0:Pr E T0 R):∀ v:T1,Cn E (d1 k0.p v) fun i=>d1 (k0.q i) v:=fun (a,b,e,j,l,m,o)=>(k0.h _)
theorem l1_b ( k m1:Nat):∀ v:T1,run (cs m1) (loopN cs m1) c1000013 (J1000013 k m1) (s1 v) = d1 (l0 k m1) v:=fun (a,b,e,j,l,m,o)=>by kernel_rfl
theorem D1_of (v:T1) {r:R} (h:d1 D0 v = some r):D1 v = some r:=join_of (fun L=>(held_eq _).trans (l1_b (L 0) (L 1) v)) (d1_cn (.mk fun v=>(D0_cn v).re [0,1]) v) h
def d2:Y2:=fun a =>
some (a,0)
theorem d2_cn:∀ v:T2,Cn E (d2 v) fun i=>d2 v:=fun a=>.some
theorem l2_b ( k:Nat):∀ v:T2,run (cs k) (loopN cs k) c1000017 (J1000017 k) (s2 v) = d2 v:=fun a=>by kernel_rfl
theorem D2_of (v:T2) {r:R} (h:d2 v = some r):D2 v = some r:=join_of (fun L=>(held_eq _).trans (l2_b (L 0) v)) (d2_cn v) h
noncomputable def f (k:Nat):Y:=fun v=>held (runFn cs k Tryz.f131 (sh.args v) (sh.slots v) dec)
noncomputable def F:Y:=lm f
def d (p0:g36.Y) (p1:g37.Y) (p2:g152.Y) (p3:Y0):Y:=fun (a,b,e,j,l,m) =>
bnd (p0 (a,b,e,j)) fun r=>br (!decide (r = 0)) (some (0,r)) (bnd (p1 (a,b,e,j,l)) fun r=>br ((!r) == false) (bnd (p1 (a,b,e,j,m)) fun r=>br (!r) (some (0,4)) (bnd (p2 (wrap .i64 (m - l))) fun r=>p3 (r,0,0,a,b,e,j))) (some (0,4)))
theorem d_cn (k0:Pr E g36.A g36.R) (k1:Pr E g37.A g37.R) (k2:Pr E g152.A g152.R) (k3:Pr E T0 R):∀ v:A,Cn E (d k0.p k1.p k2.p k3.p v) fun i=>d (k0.q i) (k1.q i) (k2.q i) (k3.q i) v:=fun (a,b,e,j,l,m)=>(.bnd (k0.h _) fun _=>(.br .some (.bnd (k1.h _) fun _=>(.br (.bnd (k1.h _) fun _=>(.br .some (.bnd (k2.h _) fun _=>(k3.h _)))) .some))))
theorem f_b (k:Nat):∀ v:A,f k v = d (g36.f k) (g37.f k) (g152.f k) (l0 k k) v:=fun (a,b,e,j,l,m)=>(held_eq _).trans (by kernel_rfl)
theorem F_of (v:A) {r:R} (h:d g36.F g37.F g152.F D0 v = some r):F v = some r:=join_of (fun L=>f_b (L 0) v) (d_cn (lp g36.f 0) (lp g37.f 0) (lp g152.f 0) (.mk fun v=>(D0_cn v).re [0,0]) v) h
noncomputable def spec (k:Nat):List AV→List Slot→Option Ans:=specS sh os (f k)
theorem spec_ok (k:Nat):SpecOk Tryz.prog 131 (spec k):=specS_ok cs_ok Tryz.func131 rfl rfl (fun _ _=>held_eq _) k
end g156
noncomputable def tg156:=tg155.cons 131 g156.spec g156.spec_ok
namespace g157 -- slew_To
abbrev R:Type:=Int × Int × Int × Int
abbrev A:Type:=Int × Int × Int × Int × Int × Int × Int × Int × Int × Int × Int × Int × Int × Int
abbrev Y:=A→Option R
def lv:List (Nat × List Nat):=[(2000000,[6,7,8])]
noncomputable def cs:Nat→Ctx:=ctxOf tis modes tg156.1 lv
theorem cs_ok (n:Nat):CtxOk Tryz.prog (cs n):=ctxOf_ok rfl tis_ok tg156.2 n
def sh:AS:=⟨[.agg [.int .i64,.int .i64,.int .i64,.int .i64,.int .i64,.int .i64,.int .i64,.int .i64,.int .i64,.int .i64],.agg [.int .i64,.int .i64],.agg [.int .i64,.int .i64]],[]⟩
def os:OS:=⟨.tup [.agg [.int .i64,.int .i64],.c (.int .i64),.c (.int .i64)],[]⟩
def enc (r:R):Out:=os.enc r
def dec:Out→Option R:=os.dec
noncomputable def b0:Code:=subF [] Tryz.f94
noncomputable def K0 (k:Nat):Kt R:=kTop (cs k) Tryz.f94 dec
noncomputable def f (k:Nat):Y:=fun v=>held (runFn cs k Tryz.f94 (sh.args v) (sh.slots v) dec)
noncomputable def F:Y:=lm f
def d (p0:g38.Y) (p1:g153.Y) (p2:g156.Y):Y:=fun (a,b,e,j,l,m,o,s,t,u,w,x,y,z) =>
bnd (p0 (a,b,e,j,l,m,o,s,t,u)) fun r=>br (!decide (r = 0)) (some (0,0,0,r)) (bnd (p1 (a,b,e,j,w,y)) fun r=>br (!decide (r.2 = 0)) (some (0,0,0,r.2)) (bnd (p1 (l,m,o,s,x,z)) fun r_1=>br (!decide (r_1.2 = 0)) (some (0,0,0,r_1.2)) (bnd (p2 (a,b,e,j,w,r.1)) fun r_2=>bnd (p2 (l,m,o,s,x,r_1.1)) fun r_3=>some (r.1,r_1.1,max r_2.1 r_3.1,0))))
theorem d_cn (k0:Pr E g38.A g38.R) (k1:Pr E g153.A g153.R) (k2:Pr E g156.A g156.R):∀ v:A,Cn E (d k0.p k1.p k2.p v) fun i=>d (k0.q i) (k1.q i) (k2.q i) v:=fun (a,b,e,j,l,m,o,s,t,u,w,x,y,z)=>(.bnd (k0.h _) fun _=>(.br .some (.bnd (k1.h _) fun _=>(.br .some (.bnd (k1.h _) fun _=>(.br .some (.bnd (k2.h _) fun _=>(.bnd (k2.h _) fun _=>.some))))))))
theorem f_b (k:Nat):∀ v:A,f k v = d (g38.f k) (g153.f k) (g156.f k) v:=fun (a,b,e,j,l,m,o,s,t,u,w,x,y,z)=>(held_eq _).trans (by kernel_rfl)
theorem F_of (v:A) {r:R} (h:d g38.F g153.F g156.F v = some r):F v = some r:=join_of (fun L=>f_b (L 0) v) (d_cn (lp g38.f 0) (lp g153.f 0) (lp g156.f 0) v) h
noncomputable def spec (k:Nat):List AV→List Slot→Option Ans:=specS sh os (f k)
theorem spec_ok (k:Nat):SpecOk Tryz.prog 94 (spec k):=specS_ok cs_ok Tryz.func94 rfl rfl (fun _ _=>held_eq _) k
end g157
noncomputable def tg157:=tg156.cons 94 g157.spec g157.spec_ok
namespace g158 -- slew_Slots
abbrev R:Type:=Int
abbrev A:Type:=Int × Int × Int × Int × Int × Int × Int × Int × Int × Int × Int × Int × Int × Int × Int × Int × List Int × Int
abbrev Y:=A→Option R
def lv:List (Nat × List Nat):=[(2000000,[4])]
noncomputable def cs:Nat→Ctx:=ctxOf tis modes tg157.1 lv
theorem cs_ok (n:Nat):CtxOk Tryz.prog (cs n):=ctxOf_ok rfl tis_ok tg157.2 n
def sh:AS:=⟨[.agg [.int .i64,.int .i64,.int .i64,.int .i64,.int .i64,.int .i64,.int .i64,.int .i64,.int .i64,.int .i64,.int .i64,.int .i64,.int .i64,.int .i64,.int .i64,.int .i64,.frz (.int .i64)],.c (.int .i64)],[]⟩
def os:OS:=⟨.c (.int .i64),[]⟩
def enc (r:R):Out:=os.enc r
def dec:Out→Option R:=os.dec
noncomputable def b0:Code:=subF [] Tryz.f95
noncomputable def K0 (k:Nat):Kt R:=kTop (cs k) Tryz.f95 dec
noncomputable def f (k:Nat):Y:=fun v=>held (runFn cs k Tryz.f95 (sh.args v) (sh.slots v) dec)
noncomputable def F:Y:=lm f
def d (p0:g35.Y):Y:=fun (a,b,e,j,l,m,o,s,t,u,w,x,y,z,B,C,D,G) =>
bnd (p0 (a,b,e,j,l,m,o,s,t,u,w,x,y,z,B,C,D)) fun r=>br (!decide (r = 0) || decide (G ≤ 0)) (some 0) (br (!decide (s = 0)) (some (wrap .i64 ((wrap .i64 (wrap .i64 (wrap .i64 (min G 1048576 * 1000) + s) - 1)).tdiv s))) none)
theorem d_cn (k0:Pr E g35.A g35.R):∀ v:A,Cn E (d k0.p v) fun i=>d (k0.q i) v:=fun (a,b,e,j,l,m,o,s,t,u,w,x,y,z,B,C,D,G)=>(.bnd (k0.h _) fun _=>(.br .some (.br .some .none)))
theorem f_b (k:Nat):∀ v:A,f k v = d (g35.f k) v:=fun (a,b,e,j,l,m,o,s,t,u,w,x,y,z,B,C,D,G)=>(held_eq _).trans (by kernel_rfl)
theorem F_of (v:A) {r:R} (h:d g35.F v = some r):F v = some r:=join_of (fun L=>f_b (L 0) v) (d_cn (lp g35.f 0) v) h
noncomputable def spec (k:Nat):List AV→List Slot→Option Ans:=specS sh os (f k)
theorem spec_ok (k:Nat):SpecOk Tryz.prog 95 (spec k):=specS_ok cs_ok Tryz.func95 rfl rfl (fun _ _=>held_eq _) k
end g158
noncomputable def tg158:=tg157.cons 95 g158.spec g158.spec_ok
namespace g159 -- plan_Desk_reach
abbrev R:Type:=Int × Int × Int × Bool
abbrev A:Type:=Int × Int × Int × Int × Int × Int × Int × Int × Int × Int × Int × Int × Int × Int × Int × Int × List Int × Int × Int × Int × Int × Int × Int × Int × Int × Int × Int × List (ByteArray × Int) × List (Int × Int × (Int × Int × Int) × Int × Int × Int × Int × Int × Int × Int × Int) × List (List Int) × List (List (Int × Int)) × Int × Int × Int × List (List Int) × Int
abbrev Y:=A→Option R
def lv:List (Nat × List Nat):=[(2000000,[6,7,8]),(2,[2,3,4,7,9])]
noncomputable def cs:Nat→Ctx:=ctxOf tis modes tg158.1 lv
theorem cs_ok (n:Nat):CtxOk Tryz.prog (cs n):=ctxOf_ok rfl tis_ok tg158.2 n
def sh:AS:=⟨[.agg [.int .i64,.int .i64,.int .i64,.int .i64,.int .i64,.int .i64,.int .i64,.int .i64,.int .i64,.int .i64,.int .i64,.int .i64,.int .i64,.int .i64,.int .i64,.int .i64,.frz (.int .i64),.int .i64,.int .i64,.int .i64,.int .i64,.int .i64,.int .i64,.int .i64,.int .i64,.int .i64,.int .i64,.frz y19,.frz y27,.frz y4,.frz y38],.agg [.int .i64,.int .i64,.int .i64,.frz y4],.c (.int .i64)],[]⟩
def os:OS:=⟨.tup [.c (.int .i64),.agg [.int .i64,.int .i64],.c .bool],[]⟩
def enc (r:R):Out:=os.enc r
def dec:Out→Option R:=os.dec
noncomputable def b0:Code:=subF [] Tryz.f90
noncomputable def K0 (k:Nat):Kt R:=kTop (cs k) Tryz.f90 dec
noncomputable def b2:Code:=sub [1,0,1,0,0] b0
noncomputable def K2 ( k:Nat):Kt R:=kAt (cs k) (loopN cs k) [1,0,1,0] b0 (K0 k)
abbrev T0:Type:=Int × Int × Int × Int × Int × Int × Int × Int × Int × Int × Int × Int × Int × Int × Int × Int × Int × Int × List Int × Int × Int × Int × Int × Int × Int × Int × Int × Int × Int × List (ByteArray × Int) × List (Int × Int × (Int × Int × Int) × Int × Int × Int × Int × Int × Int × Int × Int) × List (List Int) × List (List (Int × Int)) × Int × Int × Int × List (List Int) × Int × Int
abbrev Y0:=T0→Option R
noncomputable def s0:T0→St:=fun (a,b,e,j,l,m,o,s,t,u,w,x,y,z,B,C,D,G,H,I,J,K,P,N,O,T,S,Q,M,V,X,W,U,aa,Z,ab,ac,ad,ae)=>⟨63,0,[(2,.c (.int .i64 a)),(3,.c (.ptr 64000000 0)),(4,.c (.ptr 64000001 0)),(7,.c (.ptr 64000002 0)),(9,.c (.int .i64 b))],[],[(256000000,.gone),(64000000,.box [.int .i64 e,.int .i64 j,.int .i64 l,.int .i64 m,.int .i64 o,.int .i64 s,.int .i64 t,.int .i64 u,.int .i64 w,.int .i64 x,.int .i64 y,.int .i64 z,.int .i64 B,.int .i64 C,.int .i64 D,.int .i64 G,.frz (.int .i64) H,.int .i64 I,.int .i64 J,.int .i64 K,.int .i64 P,.int .i64 N,.int .i64 O,.int .i64 T,.int .i64 S,.int .i64 Q,.int .i64 M,.frz y19 V,.frz y27 X,.frz y4 W,.frz y38 U]),(64000001,.box [.int .i64 aa,.int .i64 Z,.int .i64 ab,.frz y4 ac]),(64000002,.box [.int .i64 ad,.int .i64 ae])]⟩
noncomputable def l0 ( k n:Nat) (v:T0):Option R:=held (loopN cs n b2 (K2 k) (s0 v))
noncomputable def D0 (v:T0):Option R:=lim fun L=>l0 (L 0) (L 1) v
theorem D0_cn (v:T0):Cn late (D0 v) fun L=>l0 (L 0) (L 1) v:=of_lim
noncomputable def d0 (p0:g157.Y) (p1:g158.Y) (p2:Y0):Y0:=fun (a,b,e,j,l,m,o,s,t,u,w,x,y,z,B,C,D,G,H,I,J,K,P,N,O,T,S,Q,M,V,X,W,U,aa,Z,ab,ac,ad,ae) =>
br (decide (0 ≤ a ∧ a < (↑X.length:Int))) (br (decide (b ≤ wrap .i64 (w - (rd ty0 X a).2.2.2.1))) (br (decide (0 ≤ a ∧ a < (↑U.length:Int))) (br (decide (0 ≤ b ∧ b < (↑(List.length (rd ((Ty.int .i64).pair (Ty.int .i64)).slice U a)):Int))) (bnd (p0 (I,J,K,P,N,O,T,S,Q,M,Z,ab,(rd ((Ty.int .i64).pair (Ty.int .i64)) (rd ((Ty.int .i64).pair (Ty.int .i64)).slice U a) b).1,(rd ((Ty.int .i64).pair (Ty.int .i64)) (rd ((Ty.int .i64).pair (Ty.int .i64)).slice U a) b).2)) fun r=>br (decide (r.2.2.2 = 0) == true) (br (decide (r.2.2.2 = 0) == true) (bnd (p1 (e,j,l,m,o,s,t,u,w,x,y,z,B,C,D,G,H,r.2.2.1)) fun r_1=>br (decide (r.2.2.2 = 0) && decide (r_1 ≤ wrap .i64 (b - aa))) (some (b,r.1,r.2.1,true)) (p2 (a,wrap .i64 (b + 1),e,j,l,m,o,s,t,u,w,x,y,z,B,C,D,G,H,I,J,K,P,N,O,T,S,Q,M,V,X,W,U,aa,Z,ab,ac,ad,ae))) (br (!decide (r.2.2.2 = 0) == true) (br (!decide (r.2.2.2 = 0)) (p2 (a,wrap .i64 (b + 1),e,j,l,m,o,s,t,u,w,x,y,z,B,C,D,G,H,I,J,K,P,N,O,T,S,Q,M,V,X,W,U,aa,Z,ab,ac,ad,ae)) none) none)) (br (decide (r.2.2.2 = 0) == true) none (br (!decide (r.2.2.2 = 0) == true) (br (!decide (r.2.2.2 = 0)) (p2 (a,wrap .i64 (b + 1),e,j,l,m,o,s,t,u,w,x,y,z,B,C,D,G,H,I,J,K,P,N,O,T,S,Q,M,V,X,W,U,aa,Z,ab,ac,ad,ae)) none) none))) none) none) (some (0,0,0,false))) none
theorem d0_cn (k0:Pr E g157.A g157.R) (k1:Pr E g158.A g158.R) (k2:Pr E T0 R):∀ v:T0,Cn E (d0 k0.p k1.p k2.p v) fun i=>d0 (k0.q i) (k1.q i) (k2.q i) v:=fun (a,b,e,j,l,m,o,s,t,u,w,x,y,z,B,C,D,G,H,I,J,K,P,N,O,T,S,Q,M,V,X,W,U,aa,Z,ab,ac,ad,ae)=>(.br (.br (.br (.br (.bnd (k0.h _) fun _=>(.br (.br (.bnd (k1.h _) fun _=>(.br .some (k2.h _))) (.br (.br (k2.h _) .none) .none)) (.br .none (.br (.br (k2.h _) .none) .none)))) .none) .none) .some) .none)
theorem l0_b ( k m1:Nat):∀ v:T0,run (cs m1) (loopN cs m1) b2 (kLoop cs m1 b2 (K2 k)) (s0 v) = d0 (g157.f m1) (g158.f m1) (l0 k m1) v:=fun (a,b,e,j,l,m,o,s,t,u,w,x,y,z,B,C,D,G,H,I,J,K,P,N,O,T,S,Q,M,V,X,W,U,aa,Z,ab,ac,ad,ae)=>by kernel_rfl
theorem D0_of (v:T0) {r:R} (h:d0 g157.F g158.F D0 v = some r):D0 v = some r:=loop_of 1 (fun L n hn=>by show l0 (L 0) (L 1) v = _; rw [hn]; exact (held_eq _).trans ((loopN_succ _ _ _ _ _).trans (l0_b (L 0) n v))) (d0_cn (lp g157.f 1) (lp g158.f 1) (.mk fun v=>(D0_cn v).re [0,1]) v) h
noncomputable def f (k:Nat):Y:=fun v=>held (runFn cs k Tryz.f90 (sh.args v) (sh.slots v) dec)
noncomputable def F:Y:=lm f
def d (p0:Y0):Y:=fun (a,b,e,j,l,m,o,s,t,u,w,x,y,z,B,C,D,G,H,I,J,K,P,N,O,T,S,Q,M,V,X,W,U,aa,Z,ab) =>
p0 (ab,W,a,b,e,j,l,m,o,s,t,u,w,x,y,z,B,C,D,G,H,I,J,K,P,N,O,T,S,Q,M,V,X,W,U,aa,Z,0,0)
theorem d_cn (k0:Pr E T0 R):∀ v:A,Cn E (d k0.p v) fun i=>d (k0.q i) v:=fun (a,b,e,j,l,m,o,s,t,u,w,x,y,z,B,C,D,G,H,I,J,K,P,N,O,T,S,Q,M,V,X,W,U,aa,Z,ab)=>(k0.h _)
theorem f_b (k:Nat):∀ v:A,f k v = d (l0 k k) v:=fun (a,b,e,j,l,m,o,s,t,u,w,x,y,z,B,C,D,G,H,I,J,K,P,N,O,T,S,Q,M,V,X,W,U,aa,Z,ab)=>(held_eq _).trans (by kernel_rfl)
theorem F_of (v:A) {r:R} (h:d D0 v = some r):F v = some r:=join_of (fun L=>f_b (L 0) v) (d_cn (.mk fun v=>(D0_cn v).re [0,0]) v) h
noncomputable def spec (k:Nat):List AV→List Slot→Option Ans:=specS sh os (f k)
theorem spec_ok (k:Nat):SpecOk Tryz.prog 90 (spec k):=specS_ok cs_ok Tryz.func90 rfl rfl (fun _ _=>held_eq _) k
end g159
noncomputable def tg159:=tg158.cons 90 g159.spec g159.spec_ok
namespace g160 -- slew_Track
abbrev R:Type:=Int × Int × Int
abbrev A:Type:=Int × Int × Int × Int × Int × Int × Int × Int × Int × Int × Int × Int × Int × Int × Int × Int × Int × Int × Int × Int × Int × Int × Int × Int × Int × Int × List Int × Int × Int × Int × Int × Int × Int × Int
abbrev Y:=A→Option R
def lv:List (Nat × List Nat):=[(2000000,[12,13]),(10,[5,6,7,8,9,12,16])]
noncomputable def cs:Nat→Ctx:=ctxOf tis modes tg159.1 lv
theorem cs_ok (n:Nat):CtxOk Tryz.prog (cs n):=ctxOf_ok rfl tis_ok tg159.2 n
def sh:AS:=⟨[.agg [.int .i64,.int .i64,.int .i64,.int .i64,.int .i64,.int .i64,.int .i64,.int .i64,.int .i64,.int .i64],.agg [.int .i64,.int .i64,.int .i64,.int .i64,.int .i64,.int .i64,.int .i64,.int .i64,.int .i64,.int .i64,.int .i64,.int .i64,.int .i64,.int .i64,.int .i64,.int .i64,.frz (.int .i64)],.agg [.int .i64,.int .i64],.agg [.int .i64,.int .i64,.int .i64],.c (.int .i64),.c (.int .i64)],[]⟩
def os:OS:=⟨.tup [.agg [.int .i64,.int .i64],.c (.int .i64)],[]⟩
def enc (r:R):Out:=os.enc r
def dec:Out→Option R:=os.dec
noncomputable def b0:Code:=subF [] Tryz.f91
noncomputable def K0 (k:Nat):Kt R:=kTop (cs k) Tryz.f91 dec
noncomputable def b10:Code:=sub [1,1,1,1,0,1,0,0] b0
noncomputable def K10 ( k:Nat):Kt R:=kAt (cs k) (loopN cs k) [1,1,1,1,0,1,0] b0 (K0 k)
abbrev T0:Type:=Int × Int × Int × Int × Int × Int × Int × Int × Int × Int × Int × Int × Int × Int × Int × Int × Int × Int × Int × Int × Int × Int × Int × Int × Int × Int × Int × Int × List Int × Int × Int × Int × Int × Int × Int × Int
abbrev Y0:=T0→Option R
noncomputable def s0:T0→St:=fun (a,b,e,j,l,m,o,s,t,u,w,x,y,z,B,C,D,G,H,I,J,K,P,N,O,T,S,Q,M,V,X,W,U,aa,Z,ab)=>⟨112,0,[(5,.c (.int .i64 a)),(6,.c (.ptr 64000000 0)),(7,.c (.ptr 64000001 0)),(8,.c (.ptr 64000002 0)),(9,.c (.ptr 64000003 0)),(12,.c (.ptr 64000004 0)),(16,.c (.int .i64 b))],[],[(256000000,.gone),(64000000,.box [.int .i64 e,.int .i64 j,.int .i64 l,.int .i64 m,.int .i64 o,.int .i64 s,.int .i64 t,.int .i64 u,.int .i64 w,.int .i64 x]),(64000001,.box [.int .i64 y,.int .i64 z,.int .i64 B,.int .i64 C,.int .i64 D,.int .i64 G,.int .i64 H,.int .i64 I,.int .i64 J,.int .i64 K,.int .i64 P,.int .i64 N,.int .i64 O,.int .i64 T,.int .i64 S,.int .i64 Q,.frz (.int .i64) M]),(64000002,.box [.int .i64 V,.int .i64 X]),(64000003,.box [.int .i64 W,.int .i64 U,.int .i64 aa]),(64000004,.box [.int .i64 Z,.int .i64 ab])]⟩
noncomputable def l0 ( k n:Nat) (v:T0):Option R:=held (loopN cs n b10 (K10 k) (s0 v))
noncomputable def D0 (v:T0):Option R:=lim fun L=>l0 (L 0) (L 1) v
theorem D0_cn (v:T0):Cn late (D0 v) fun L=>l0 (L 0) (L 1) v:=of_lim
noncomputable def d0 (p0:g145.Y) (p1:g157.Y) (p2:g152.Y) (p3:Y0):Y0:=fun (a,b,e,j,l,m,o,s,t,u,w,x,y,z,B,C,D,G,H,I,J,K,P,N,O,T,S,Q,M,V,X,W,U,aa,Z,ab) =>
br (decide (b ≤ a)) (bnd (p0 (y,z,B,C,D,G,H,I,J,K,P,N,O,T,S,Q,M,W,U,aa,b)) fun r=>br (!decide (r.2.2 = 0)) (some (0,0,r.2.2)) (bnd (p1 (e,j,l,m,o,s,t,u,w,x,V,X,r.1,r.2.1)) fun r=>br (!decide (r.2.2.2 = 0)) (some (0,0,r.2.2.2)) (bnd (p2 (wrap .i64 (r.1 - V))) fun r_1=>br (decide (1073741824 < r_1) == false) (bnd (p2 (wrap .i64 (r.2.1 - X))) fun r_2=>br (decide (1073741824 < r_2)) (some (0,0,4)) (p3 (a,wrap .i64 (b + 1),e,j,l,m,o,s,t,u,w,x,y,z,B,C,D,G,H,I,J,K,P,N,O,T,S,Q,M,r.1,r.2.1,W,U,aa,Z,ab))) (some (0,0,4))))) (some (V,X,0))
theorem d0_cn (k0:Pr E g145.A g145.R) (k1:Pr E g157.A g157.R) (k2:Pr E g152.A g152.R) (k3:Pr E T0 R):∀ v:T0,Cn E (d0 k0.p k1.p k2.p k3.p v) fun i=>d0 (k0.q i) (k1.q i) (k2.q i) (k3.q i) v:=fun (a,b,e,j,l,m,o,s,t,u,w,x,y,z,B,C,D,G,H,I,J,K,P,N,O,T,S,Q,M,V,X,W,U,aa,Z,ab)=>(.br (.bnd (k0.h _) fun _=>(.br .some (.bnd (k1.h _) fun _=>(.br .some (.bnd (k2.h _) fun _=>(.br (.bnd (k2.h _) fun _=>(.br .some (k3.h _))) .some)))))) .some)
theorem l0_b ( k m1:Nat):∀ v:T0,run (cs m1) (loopN cs m1) b10 (kLoop cs m1 b10 (K10 k)) (s0 v) = d0 (g145.f m1) (g157.f m1) (g152.f m1) (l0 k m1) v:=fun (a,b,e,j,l,m,o,s,t,u,w,x,y,z,B,C,D,G,H,I,J,K,P,N,O,T,S,Q,M,V,X,W,U,aa,Z,ab)=>by kernel_rfl
theorem D0_of (v:T0) {r:R} (h:d0 g145.F g157.F g152.F D0 v = some r):D0 v = some r:=loop_of 1 (fun L n hn=>by show l0 (L 0) (L 1) v = _; rw [hn]; exact (held_eq _).trans ((loopN_succ _ _ _ _ _).trans (l0_b (L 0) n v))) (d0_cn (lp g145.f 1) (lp g157.f 1) (lp g152.f 1) (.mk fun v=>(D0_cn v).re [0,1]) v) h
noncomputable def f (k:Nat):Y:=fun v=>held (runFn cs k Tryz.f91 (sh.args v) (sh.slots v) dec)
noncomputable def F:Y:=lm f
noncomputable def d (p0:g38.Y) (p1:g35.Y) (p2:g37.Y) (p3:Y0):Y:=fun (a,b,e,j,l,m,o,s,t,u,w,x,y,z,B,C,D,G,H,I,J,K,P,N,O,T,S,Q,M,V,X,W,U,aa) =>
bnd (p0 (a,b,e,j,l,m,o,s,t,u)) fun r=>br (!decide (r = 0)) (some (0,0,r)) (bnd (p1 (w,x,y,z,B,C,D,G,H,I,J,K,P,N,O,T,S)) fun r=>br (!decide (r = 0)) (some (0,0,r)) (bnd (p2 (a,b,e,j,Q)) fun r=>br ((!r) == false) (bnd (p2 (l,m,o,s,M)) fun r=>br (!r || decide (U < 0) || decide (aa < U) || decide (H < aa)) (some (0,0,4)) (p3 (aa,wrap .i64 (U + 1),a,b,e,j,l,m,o,s,t,u,w,x,y,z,B,C,D,G,H,I,J,K,P,N,O,T,S,Q,M,V,X,W,0,0))) (some (0,0,4))))
theorem d_cn (k0:Pr E g38.A g38.R) (k1:Pr E g35.A g35.R) (k2:Pr E g37.A g37.R) (k3:Pr E T0 R):∀ v:A,Cn E (d k0.p k1.p k2.p k3.p v) fun i=>d (k0.q i) (k1.q i) (k2.q i) (k3.q i) v:=fun (a,b,e,j,l,m,o,s,t,u,w,x,y,z,B,C,D,G,H,I,J,K,P,N,O,T,S,Q,M,V,X,W,U,aa)=>(.bnd (k0.h _) fun _=>(.br .some (.bnd (k1.h _) fun _=>(.br .some (.bnd (k2.h _) fun _=>(.br (.bnd (k2.h _) fun _=>(.br .some (k3.h _))) .some))))))
theorem f_b (k:Nat):∀ v:A,f k v = d (g38.f k) (g35.f k) (g37.f k) (l0 k k) v:=fun (a,b,e,j,l,m,o,s,t,u,w,x,y,z,B,C,D,G,H,I,J,K,P,N,O,T,S,Q,M,V,X,W,U,aa)=>(held_eq _).trans (by kernel_rfl)
theorem F_of (v:A) {r:R} (h:d g38.F g35.F g37.F D0 v = some r):F v = some r:=join_of (fun L=>f_b (L 0) v) (d_cn (lp g38.f 0) (lp g35.f 0) (lp g37.f 0) (.mk fun v=>(D0_cn v).re [0,0]) v) h
noncomputable def spec (k:Nat):List AV→List Slot→Option Ans:=specS sh os (f k)
theorem spec_ok (k:Nat):SpecOk Tryz.prog 91 (spec k):=specS_ok cs_ok Tryz.func91 rfl rfl (fun _ _=>held_eq _) k
end g160
noncomputable def tg160:=tg159.cons 91 g160.spec g160.spec_ok
namespace g161 -- plan_Desk_look
abbrev R:Type:=Int × Int × Int × Int × Int × Int × Int
abbrev A:Type:=Int × Int × Int × Int × Int × Int × Int × Int × Int × Int × Int × Int × Int × Int × Int × Int × List Int × Int × Int × Int × Int × Int × Int × Int × Int × Int × Int × List (ByteArray × Int) × List (Int × Int × (Int × Int × Int) × Int × Int × Int × Int × Int × Int × Int × Int) × List (List Int) × List (List (Int × Int)) × Int × Int × Int × List (List Int) × Int
abbrev Y:=A→Option R
def lv:List (Nat × List Nat):=[(2000000,[6,7]),(1000014,[2,3,6,8,10,11,13]),(15,[2,3,6,8,10,11,13,15])]
noncomputable def cs:Nat→Ctx:=ctxOf tis modes tg160.1 lv
theorem cs_ok (n:Nat):CtxOk Tryz.prog (cs n):=ctxOf_ok rfl tis_ok tg160.2 n
def sh:AS:=⟨[.agg [.int .i64,.int .i64,.int .i64,.int .i64,.int .i64,.int .i64,.int .i64,.int .i64,.int .i64,.int .i64,.int .i64,.int .i64,.int .i64,.int .i64,.int .i64,.int .i64,.frz (.int .i64),.int .i64,.int .i64,.int .i64,.int .i64,.int .i64,.int .i64,.int .i64,.int .i64,.int .i64,.int .i64,.frz y19,.frz y27,.frz y4,.frz y38],.agg [.int .i64,.int .i64,.int .i64,.frz y4],.c (.int .i64)],[]⟩
def os:OS:=⟨.tup [.agg [.int .i64,.int .i64,.int .i64,.int .i64,.int .i64,.int .i64],.c (.int .i64)],[]⟩
def enc (r:R):Out:=os.enc r
def dec:Out→Option R:=os.dec
noncomputable def b0:Code:=subF [] Tryz.f63
noncomputable def K0 (k:Nat):Kt R:=kTop (cs k) Tryz.f63 dec
noncomputable def c1000014:Code:=sub [1,1,1,1,1,1,1] b0
noncomputable def J1000014 ( k:Nat):Kt R:=kAt (cs k) (loopN cs k) [1,1,1,1,1,1,1] b0 (K0 k)
noncomputable def b15:Code:=sub [1,1,1,1,1,1,1,0,1,0,0] b0
noncomputable def K15 ( k:Nat):Kt R:=kAt (cs k) (loopN cs k) [1,1,1,1,1,1,1,0,1,0] b0 (K0 k)
abbrev T0:Type:=Int × Int × Int × Int × Int × Int × Int × Int × Int × Int × Int × Int × Int × Int × Int × Int × Int × Int × List Int × Int × Int × Int × Int × Int × Int × Int × Int × Int × Int × List (ByteArray × Int) × List (Int × Int × (Int × Int × Int) × Int × Int × Int × Int × Int × Int × Int × Int) × List (List Int) × List (List (Int × Int)) × Int × Int × Int × Int × Int × Int × Int × Int × Int × Int × Int × Int × Int × Int × Int × Int × Int × Int × Int × Int × Int × Int × Int × Int × Int × Int × Int
abbrev Y0:=T0→Option R
noncomputable def s0:T0→St:=fun (a,b,e,j,l,m,o,s,t,u,w,x,y,z,B,C,D,G,H,I,J,K,P,N,O,T,S,Q,M,V,X,W,U,aa,Z,ab,ac,ad,ae,ah,ag,aq,an,ai,ar,ao,aw,ax,ay,az,ba,bb,bc,au,av,aj,ak,al,am,ap)=>⟨114,0,[(2,.c (.int .i64 a)),(3,.c (.ptr 64000000 0)),(6,.c (.ptr 64000001 0)),(8,.c (.ptr 64000002 0)),(10,.c (.int .i64 b)),(11,.c (.ptr 64000003 0)),(13,.c (.ptr 64000004 0))],[],[(256000000,.gone),(64000000,.box [.int .i64 e,.int .i64 j,.int .i64 l,.int .i64 m,.int .i64 o,.int .i64 s,.int .i64 t,.int .i64 u,.int .i64 w,.int .i64 x,.int .i64 y,.int .i64 z,.int .i64 B,.int .i64 C,.int .i64 D,.int .i64 G,.frz (.int .i64) H,.int .i64 I,.int .i64 J,.int .i64 K,.int .i64 P,.int .i64 N,.int .i64 O,.int .i64 T,.int .i64 S,.int .i64 Q,.int .i64 M,.frz y19 V,.frz y27 X,.frz y4 W,.frz y38 U]),(64000001,.box [.int .i64 aa,.int .i64 Z,.int .i64 ab,.int .i64 ac,.int .i64 ad,.int .i64 ae]),(64000002,.box [.int .i64 ah,.int .i64 ag,.int .i64 aq,.int .i64 an,.int .i64 ai,.int .i64 ar,.int .i64 ao,.int .i64 aw,.int .i64 ax,.int .i64 ay,.int .i64 az,.int .i64 ba,.int .i64 bb]),(64000003,.box [.int .i64 bc,.int .i64 au]),(64000004,.box [.int .i64 av,.int .i64 aj,.int .i64 ak,.int .i64 al,.int .i64 am,.int .i64 ap])]⟩
noncomputable def l0 ( k:Nat) (v:T0):Option R:=held (run (cs k) (loopN cs k) c1000014 (J1000014 k) (s0 v))
noncomputable def D0 (v:T0):Option R:=lim fun L=>l0 (L 0) v
theorem D0_cn (v:T0):Cn late (D0 v) fun L=>l0 (L 0) v:=of_lim
abbrev T1:Type:=Int × Int × Int × Int × Int × Int × Int × Int × Int × Int × Int × Int × Int × Int × Int × Int × Int × Int × Int × List Int × Int × Int × Int × Int × Int × Int × Int × Int × Int × Int × List (ByteArray × Int) × List (Int × Int × (Int × Int × Int) × Int × Int × Int × Int × Int × Int × Int × Int) × List (List Int) × List (List (Int × Int)) × Int × Int × Int × Int × Int × Int × Int × Int × Int × Int × Int × Int × Int × Int × Int × Int × Int × Int × Int × Int × Int × Int × Int × Int × Int × Int × Int
abbrev Y1:=T1→Option R
noncomputable def s1:T1→St:=fun (a,b,e,j,l,m,o,s,t,u,w,x,y,z,B,C,D,G,H,I,J,K,P,N,O,T,S,Q,M,V,X,W,U,aa,Z,ab,ac,ad,ae,ah,ag,aq,an,ai,ar,ao,aw,ax,ay,az,ba,bb,bc,au,av,aj,ak,al,am,ap,bd)=>⟨114,0,[(2,.c (.int .i64 a)),(3,.c (.ptr 64000000 0)),(6,.c (.ptr 64000001 0)),(8,.c (.ptr 64000002 0)),(10,.c (.int .i64 b)),(11,.c (.ptr 64000003 0)),(13,.c (.ptr 64000004 0)),(15,.c (.int .i64 e))],[],[(256000000,.gone),(64000000,.box [.int .i64 j,.int .i64 l,.int .i64 m,.int .i64 o,.int .i64 s,.int .i64 t,.int .i64 u,.int .i64 w,.int .i64 x,.int .i64 y,.int .i64 z,.int .i64 B,.int .i64 C,.int .i64 D,.int .i64 G,.int .i64 H,.frz (.int .i64) I,.int .i64 J,.int .i64 K,.int .i64 P,.int .i64 N,.int .i64 O,.int .i64 T,.int .i64 S,.int .i64 Q,.int .i64 M,.int .i64 V,.frz y19 X,.frz y27 W,.frz y4 U,.frz y38 aa]),(64000001,.box [.int .i64 Z,.int .i64 ab,.int .i64 ac,.int .i64 ad,.int .i64 ae,.int .i64 ah]),(64000002,.box [.int .i64 ag,.int .i64 aq,.int .i64 an,.int .i64 ai,.int .i64 ar,.int .i64 ao,.int .i64 aw,.int .i64 ax,.int .i64 ay,.int .i64 az,.int .i64 ba,.int .i64 bb,.int .i64 bc]),(64000003,.box [.int .i64 au,.int .i64 av]),(64000004,.box [.int .i64 aj,.int .i64 ak,.int .i64 al,.int .i64 am,.int .i64 ap,.int .i64 bd])]⟩
noncomputable def l1 ( k n:Nat) (v:T1):Option R:=held (loopN cs n b15 (K15 k) (s1 v))
noncomputable def D1 (v:T1):Option R:=lim fun L=>l1 (L 0) (L 1) v
theorem D1_cn (v:T1):Cn late (D1 v) fun L=>l1 (L 0) (L 1) v:=of_lim
def d0 (p0:Y1):Y0:=fun (a,b,e,j,l,m,o,s,t,u,w,x,y,z,B,C,D,G,H,I,J,K,P,N,O,T,S,Q,M,V,X,W,U,aa,Z,ab,ac,ad,ae,ah,ag,aq,an,ai,ar,ao,aw,ax,ay,az,ba,bb,bc,au,av,aj,ak,al,am,ap) =>
p0 (a,b,b,e,j,l,m,o,s,t,u,w,x,y,z,B,C,D,G,H,I,J,K,P,N,O,T,S,Q,M,V,X,W,U,aa,Z,ab,ac,ad,ae,ah,ag,aq,an,ai,ar,ao,aw,ax,ay,az,ba,bb,bc,au,av,aj,ak,al,am,ap)
theorem d0_cn (k0:Pr E T1 R):∀ v:T0,Cn E (d0 k0.p v) fun i=>d0 (k0.q i) v:=fun (a,b,e,j,l,m,o,s,t,u,w,x,y,z,B,C,D,G,H,I,J,K,P,N,O,T,S,Q,M,V,X,W,U,aa,Z,ab,ac,ad,ae,ah,ag,aq,an,ai,ar,ao,aw,ax,ay,az,ba,bb,bc,au,av,aj,ak,al,am,ap)=>(k0.h _)
theorem l0_b ( k:Nat):∀ v:T0,run (cs k) (loopN cs k) c1000014 (J1000014 k) (s0 v) = d0 (l1 k k) v:=fun (a,b,e,j,l,m,o,s,t,u,w,x,y,z,B,C,D,G,H,I,J,K,P,N,O,T,S,Q,M,V,X,W,U,aa,Z,ab,ac,ad,ae,ah,ag,aq,an,ai,ar,ao,aw,ax,ay,az,ba,bb,bc,au,av,aj,ak,al,am,ap)=>by kernel_rfl
theorem D0_of (v:T0) {r:R} (h:d0 D1 v = some r):D0 v = some r:=join_of (fun L=>(held_eq _).trans (l0_b (L 0) v)) (d0_cn (.mk fun v=>(D1_cn v).re [0,0]) v) h
noncomputable def d1 (p0:Y1) (p1:g160.Y):Y1:=fun (a,b,e,j,l,m,o,s,t,u,w,x,y,z,B,C,D,G,H,I,J,K,P,N,O,T,S,Q,M,V,X,W,U,aa,Z,ab,ac,ad,ae,ah,ag,aq,an,ai,ar,ao,aw,ax,ay,az,ba,bb,bc,au,av,aj,ak,al,am,ap,bd) =>
br (decide (e < wrap .i64 (b + ao))) (br (decide (0 ≤ a ∧ a < (↑U.length:Int))) (br (decide (0 ≤ e ∧ e < (↑(List.length (rd (Ty.int .i64).slice U a)):Int))) (br (!decide (rd (Ty.int .i64) (rd (Ty.int .i64).slice U a) e = 0)) (some (aj,ak,al,am,ap,bd,5)) (p0 (a,b,wrap .i64 (e + 1),j,l,m,o,s,t,u,w,x,y,z,B,C,D,G,H,I,J,K,P,N,O,T,S,Q,M,V,X,W,U,aa,Z,ab,ac,ad,ae,ah,ag,aq,an,ai,ar,ao,aw,ax,ay,az,ba,bb,bc,au,av,aj,ak,al,am,ap,bd))) none) none) (bnd (p1 (J,K,P,N,O,T,S,Q,M,V,j,l,m,o,s,t,u,w,x,y,z,B,C,D,G,H,I,au,av,an,ai,ar,b,wrap .i64 (b + ao))) fun r=>br (!decide (r.2.2 = 0)) (some (aj,ak,al,am,ap,bd,6)) (some (aj,ak,al,am,r.1,r.2.1,0)))
theorem d1_cn (k0:Pr E T1 R) (k1:Pr E g160.A g160.R):∀ v:T1,Cn E (d1 k0.p k1.p v) fun i=>d1 (k0.q i) (k1.q i) v:=fun (a,b,e,j,l,m,o,s,t,u,w,x,y,z,B,C,D,G,H,I,J,K,P,N,O,T,S,Q,M,V,X,W,U,aa,Z,ab,ac,ad,ae,ah,ag,aq,an,ai,ar,ao,aw,ax,ay,az,ba,bb,bc,au,av,aj,ak,al,am,ap,bd)=>(.br (.br (.br (.br .some (k0.h _)) .none) .none) (.bnd (k1.h _) fun _=>(.br .some .some)))
theorem l1_b ( k m1:Nat):∀ v:T1,run (cs m1) (loopN cs m1) b15 (kLoop cs m1 b15 (K15 k)) (s1 v) = d1 (l1 k m1) (g160.f k) v:=fun (a,b,e,j,l,m,o,s,t,u,w,x,y,z,B,C,D,G,H,I,J,K,P,N,O,T,S,Q,M,V,X,W,U,aa,Z,ab,ac,ad,ae,ah,ag,aq,an,ai,ar,ao,aw,ax,ay,az,ba,bb,bc,au,av,aj,ak,al,am,ap,bd)=>by kernel_rfl
theorem D1_of (v:T1) {r:R} (h:d1 D1 g160.F v = some r):D1 v = some r:=loop_of 1 (fun L n hn=>by show l1 (L 0) (L 1) v = _; rw [hn]; exact (held_eq _).trans ((loopN_succ _ _ _ _ _).trans (l1_b (L 0) n v))) (d1_cn (.mk fun v=>(D1_cn v).re [0,1]) (lp g160.f 0) v) h
noncomputable def f (k:Nat):Y:=fun v=>held (runFn cs k Tryz.f63 (sh.args v) (sh.slots v) dec)
noncomputable def F:Y:=lm f
noncomputable def d (p0:g159.Y) (p1:Y0):Y:=fun (a,b,e,j,l,m,o,s,t,u,w,x,y,z,B,C,D,G,H,I,J,K,P,N,O,T,S,Q,M,V,X,W,U,aa,Z,ab) =>
br (decide (0 ≤ ab ∧ ab < (↑M.length:Int))) (br (decide (0 ≤ ab ∧ ab < (↑Z.length:Int))) (br (decide ((rd ty0 M ab).2.2.2.2.1 ≤ (↑(List.length (rd (Ty.int .i64).slice Z ab)):Int))) (some (0,0,0,0,0,0,1)) (bnd (p0 (a,b,e,j,l,m,o,s,t,u,w,x,y,z,B,C,D,G,H,I,J,K,P,N,O,T,S,Q,M,V,X,W,U,aa,Z,ab)) fun r=>br (!r.2.2.2) (some (0,0,0,0,0,0,2)) (br (decide (0 < (↑(List.length (rd (Ty.int .i64).slice Z ab)):Int))) (br (decide (0 ≤ wrap .i64 ((↑(List.length (rd (Ty.int .i64).slice Z ab)):Int) - 1) ∧ wrap .i64 ((↑(List.length (rd (Ty.int .i64).slice Z ab)):Int) - 1) < (↑(List.length (rd (Ty.int .i64).slice Z ab)):Int))) (br (decide (wrap .i64 (r.1 - rd (Ty.int .i64) (rd (Ty.int .i64).slice Z ab) (wrap .i64 ((↑(List.length (rd (Ty.int .i64).slice Z ab)):Int) - 1))) < (rd ty0 M ab).2.2.2.2.2.1)) (some (ab,r.1,r.2.1,r.2.2.1,0,0,3)) (br (decide ((rd ty0 M ab).2.2.2.2.2.2.1 < wrap .i64 (r.1 - rd (Ty.int .i64) (rd (Ty.int .i64).slice Z ab) (wrap .i64 ((↑(List.length (rd (Ty.int .i64).slice Z ab)):Int) - 1))))) (some (ab,r.1,r.2.1,r.2.2.1,0,0,4)) (p1 (ab,r.1,a,b,e,j,l,m,o,s,t,u,w,x,y,z,B,C,D,G,H,I,J,K,P,N,O,T,S,Q,M,V,X,0,0,0,0,0,0,(rd ty0 M ab).1,(rd ty0 M ab).2.1,(rd ty0 M ab).2.2.1.1,(rd ty0 M ab).2.2.1.2.1,(rd ty0 M ab).2.2.1.2.2,(rd ty0 M ab).2.2.2.1,(rd ty0 M ab).2.2.2.2.1,(rd ty0 M ab).2.2.2.2.2.1,(rd ty0 M ab).2.2.2.2.2.2.1,(rd ty0 M ab).2.2.2.2.2.2.2.1,(rd ty0 M ab).2.2.2.2.2.2.2.2.1,(rd ty0 M ab).2.2.2.2.2.2.2.2.2.1,(rd ty0 M ab).2.2.2.2.2.2.2.2.2.2,r.2.1,r.2.2.1,ab,r.1,r.2.1,r.2.2.1,0,0)))) none) (p1 (ab,r.1,a,b,e,j,l,m,o,s,t,u,w,x,y,z,B,C,D,G,H,I,J,K,P,N,O,T,S,Q,M,V,X,0,0,0,0,0,0,(rd ty0 M ab).1,(rd ty0 M ab).2.1,(rd ty0 M ab).2.2.1.1,(rd ty0 M ab).2.2.1.2.1,(rd ty0 M ab).2.2.1.2.2,(rd ty0 M ab).2.2.2.1,(rd ty0 M ab).2.2.2.2.1,(rd ty0 M ab).2.2.2.2.2.1,(rd ty0 M ab).2.2.2.2.2.2.1,(rd ty0 M ab).2.2.2.2.2.2.2.1,(rd ty0 M ab).2.2.2.2.2.2.2.2.1,(rd ty0 M ab).2.2.2.2.2.2.2.2.2.1,(rd ty0 M ab).2.2.2.2.2.2.2.2.2.2,r.2.1,r.2.2.1,ab,r.1,r.2.1,r.2.2.1,0,0))))) none) none
theorem d_cn (k0:Pr E g159.A g159.R) (k1:Pr E T0 R):∀ v:A,Cn E (d k0.p k1.p v) fun i=>d (k0.q i) (k1.q i) v:=fun (a,b,e,j,l,m,o,s,t,u,w,x,y,z,B,C,D,G,H,I,J,K,P,N,O,T,S,Q,M,V,X,W,U,aa,Z,ab)=>(.br (.br (.br .some (.bnd (k0.h _) fun _=>(.br .some (.br (.br (.br .some (.br .some (k1.h _))) .none) (k1.h _))))) .none) .none)
theorem f_b (k:Nat):∀ v:A,f k v = d (g159.f k) (l0 k) v:=fun (a,b,e,j,l,m,o,s,t,u,w,x,y,z,B,C,D,G,H,I,J,K,P,N,O,T,S,Q,M,V,X,W,U,aa,Z,ab)=>(held_eq _).trans (by kernel_rfl)
theorem F_of (v:A) {r:R} (h:d g159.F D0 v = some r):F v = some r:=join_of (fun L=>f_b (L 0) v) (d_cn (lp g159.f 0) (.mk fun v=>(D0_cn v).re [0]) v) h
noncomputable def spec (k:Nat):List AV→List Slot→Option Ans:=specS sh os (f k)
theorem spec_ok (k:Nat):SpecOk Tryz.prog 63 (spec k):=specS_ok cs_ok Tryz.func63 rfl rfl (fun _ _=>held_eq _) k
end g161
noncomputable def tg161:=tg160.cons 63 g161.spec g161.spec_ok
namespace g162 -- plan_queue_Push
abbrev R:Type:=Int × Int × Int × Int × Int × Int × Int × Int × Int × Int × Int × Int × Int × Int × Int × Int × Int × Int × Int × Int × Int × Int × Int × Int × Int × Int × List Int × List (ByteArray × Int) × List (Int × Int × (Int × Int × Int) × Int × Int × Int × Int × Int × Int × Int × Int) × List (List Int) × List (List (Int × Int)) × List Int × List (Int × Int × (Int × Int) × Int × Int)
abbrev A:Type:=(Int × Int × (Int × Int) × Int × Int) × Int × Int × Int × Int × Int × Int × Int × Int × Int × Int × Int × Int × Int × Int × Int × Int × Int × Int × Int × Int × Int × Int × Int × Int × Int × Int × List Int × List (ByteArray × Int) × List (Int × Int × (Int × Int × Int) × Int × Int × Int × Int × Int × Int × Int × Int) × List (List Int) × List (List (Int × Int)) × List Int × List (Int × Int × (Int × Int) × Int × Int)
abbrev Y:=A→Option R
def lv:List (Nat × List Nat):=[(2000000,[0])]
noncomputable def cs:Nat→Ctx:=ctxOf tis modes tg161.1 lv
theorem cs_ok (n:Nat):CtxOk Tryz.prog (cs n):=ctxOf_ok rfl tis_ok tg161.2 n
noncomputable def sh:AS:=⟨[.c (.ptr 128000000 0),.c (.ifd 96 .true y46)],[.box [.int .i64,.int .i64,.int .i64,.int .i64,.int .i64,.int .i64,.int .i64,.int .i64,.int .i64,.int .i64,.int .i64,.int .i64,.int .i64,.int .i64,.int .i64,.int .i64,.sl 128000001,.int .i64,.int .i64,.int .i64,.int .i64,.int .i64,.int .i64,.int .i64,.int .i64,.int .i64,.int .i64,.sl 128000002,.sl 128000003,.sl 128000004,.sl 128000005,.sl 128000006,.sl 128000007],.row (.int .i64),.row y19,.row y27,.nest y4,.nest y38,.row (.int .i64),.row y46]⟩
def os:OS:=⟨.tup [],[.box [.int .i64,.int .i64,.int .i64,.int .i64,.int .i64,.int .i64,.int .i64,.int .i64,.int .i64,.int .i64,.int .i64,.int .i64,.int .i64,.int .i64,.int .i64,.int .i64,.sl 128000001,.int .i64,.int .i64,.int .i64,.int .i64,.int .i64,.int .i64,.int .i64,.int .i64,.int .i64,.int .i64,.sl 128000002,.sl 128000003,.sl 128000004,.sl 128000005,.sl 128000006,.sl 128000008],.row (.int .i64),.row y19,.row y27,.nest y4,.nest y38,.row (.int .i64),.gone,.row y46]⟩
def enc (r:R):Out:=os.enc r
def dec:Out→Option R:=os.dec
noncomputable def b0:Code:=subF [] Tryz.f243
noncomputable def K0 (k:Nat):Kt R:=kTop (cs k) Tryz.f243 dec
noncomputable def f (k:Nat):Y:=fun v=>held (runFn cs k Tryz.f243 (sh.args v) (sh.slots v) dec)
noncomputable def F:Y:=lm f
def d:Y:=fun (a,b,e,j,l,m,o,s,t,u,w,x,y,z,B,C,D,G,H,I,J,K,P,N,O,T,S,Q,M,V,X,W,U,aa) =>
br (decide (aa.length + [(a.1,a.2.1,(a.2.2.1.1,a.2.2.1.2),a.2.2.2.1,a.2.2.2.2)].length ≤ 140737488355328 / 48)) (some (b,e,j,l,m,o,s,t,u,w,x,y,z,B,C,D,G,H,I,J,K,P,N,O,T,S,Q,M,V,X,W,U,aa ++ [(a.1,a.2.1,(a.2.2.1.1,a.2.2.1.2),a.2.2.2.1,a.2.2.2.2)])) none
theorem d_cn:∀ v:A,Cn E (d v) fun i=>d v:=fun (a,b,e,j,l,m,o,s,t,u,w,x,y,z,B,C,D,G,H,I,J,K,P,N,O,T,S,Q,M,V,X,W,U,aa)=>(.br .some .none)
theorem f_b (k:Nat):∀ v:A,f k v = d v:=fun (a,b,e,j,l,m,o,s,t,u,w,x,y,z,B,C,D,G,H,I,J,K,P,N,O,T,S,Q,M,V,X,W,U,aa)=>(held_eq _).trans (by kernel_rfl)
theorem F_of (v:A) {r:R} (h:d v = some r):F v = some r:=join_of (fun L=>f_b (L 0) v) (d_cn v) h
noncomputable def spec (k:Nat):List AV→List Slot→Option Ans:=specS sh os (f k)
theorem spec_ok (k:Nat):SpecOk Tryz.prog 243 (spec k):=specS_ok cs_ok Tryz.func243 rfl rfl (fun _ _=>held_eq _) k
end g162
noncomputable def tg162:=tg161.cons 243 g162.spec g162.spec_ok
namespace g163 -- plan_queue_Len
abbrev R:Type:=Int × Int × Int × Int × Int × Int × Int × Int × Int × Int × Int × Int × Int × Int × Int × Int × Int × Int × Int × Int × Int × Int × Int × Int × Int × Int × Int × List Int × List (ByteArray × Int) × List (Int × Int × (Int × Int × Int) × Int × Int × Int × Int × Int × Int × Int × Int) × List (List Int) × List (List (Int × Int)) × List Int × List (Int × Int × (Int × Int) × Int × Int)
abbrev A:Type:=Int × Int × Int × Int × Int × Int × Int × Int × Int × Int × Int × Int × Int × Int × Int × Int × Int × Int × Int × Int × Int × Int × Int × Int × Int × Int × List Int × List (ByteArray × Int) × List (Int × Int × (Int × Int × Int) × Int × Int × Int × Int × Int × Int × Int × Int) × List (List Int) × List (List (Int × Int)) × List Int × List (Int × Int × (Int × Int) × Int × Int)
abbrev Y:=A→Option R
def lv:List (Nat × List Nat):=[(2000000,[2])]
noncomputable def cs:Nat→Ctx:=ctxOf tis modes tg162.1 lv
theorem cs_ok (n:Nat):CtxOk Tryz.prog (cs n):=ctxOf_ok rfl tis_ok tg162.2 n
noncomputable def sh:AS:=⟨[(.c (.ptr 128000000 0))],[.box [.int .i64,.int .i64,.int .i64,.int .i64,.int .i64,.int .i64,.int .i64,.int .i64,.int .i64,.int .i64,.int .i64,.int .i64,.int .i64,.int .i64,.int .i64,.int .i64,.sl 128000001,.int .i64,.int .i64,.int .i64,.int .i64,.int .i64,.int .i64,.int .i64,.int .i64,.int .i64,.int .i64,.sl 128000002,.sl 128000003,.sl 128000004,.sl 128000005,.sl 128000006,.sl 128000007],.row (.int .i64),.row y19,.row y27,.nest y4,.nest y38,.row (.int .i64),.row y46]⟩
def os:OS:=⟨.c (.int .i64),[.box [.int .i64,.int .i64,.int .i64,.int .i64,.int .i64,.int .i64,.int .i64,.int .i64,.int .i64,.int .i64,.int .i64,.int .i64,.int .i64,.int .i64,.int .i64,.int .i64,.sl 128000001,.int .i64,.int .i64,.int .i64,.int .i64,.int .i64,.int .i64,.int .i64,.int .i64,.int .i64,.int .i64,.sl 128000002,.sl 128000003,.sl 128000004,.sl 128000005,.sl 128000006,.sl 128000007],.row (.int .i64),.row y19,.row y27,.nest y4,.nest y38,.row (.int .i64),.row y46]⟩
def enc (r:R):Out:=os.enc r
def dec:Out→Option R:=os.dec
noncomputable def b0:Code:=subF [] Tryz.f113
noncomputable def K0 (k:Nat):Kt R:=kTop (cs k) Tryz.f113 dec
noncomputable def f (k:Nat):Y:=fun v=>held (runFn cs k Tryz.f113 (sh.args v) (sh.slots v) dec)
noncomputable def F:Y:=lm f
def d:Y:=fun (a,b,e,j,l,m,o,s,t,u,w,x,y,z,B,C,D,G,H,I,J,K,P,N,O,T,S,Q,M,V,X,W,U) =>
some ((↑U.length:Int),a,b,e,j,l,m,o,s,t,u,w,x,y,z,B,C,D,G,H,I,J,K,P,N,O,T,S,Q,M,V,X,W,U)
theorem d_cn:∀ v:A,Cn E (d v) fun i=>d v:=fun (a,b,e,j,l,m,o,s,t,u,w,x,y,z,B,C,D,G,H,I,J,K,P,N,O,T,S,Q,M,V,X,W,U)=>.some
theorem f_b (k:Nat):∀ v:A,f k v = d v:=fun (a,b,e,j,l,m,o,s,t,u,w,x,y,z,B,C,D,G,H,I,J,K,P,N,O,T,S,Q,M,V,X,W,U)=>(held_eq _).trans (by kernel_rfl)
theorem F_of (v:A) {r:R} (h:d v = some r):F v = some r:=join_of (fun L=>f_b (L 0) v) (d_cn v) h
noncomputable def spec (k:Nat):List AV→List Slot→Option Ans:=specS sh os (f k)
theorem spec_ok (k:Nat):SpecOk Tryz.prog 113 (spec k):=specS_ok cs_ok Tryz.func113 rfl rfl (fun _ _=>held_eq _) k
end g163
noncomputable def tg163:=tg162.cons 113 g163.spec g163.spec_ok
namespace g164 -- plan_Desk_better
abbrev R:Type:=Bool
abbrev A:Type:=Int × Int × Int × Int × Int × Int × Int × Int × Int × Int × Int × Int × Int × Int × Int × Int × List Int × Int × Int × Int × Int × Int × Int × Int × Int × Int × Int × List (ByteArray × Int) × List (Int × Int × (Int × Int × Int) × Int × Int × Int × Int × Int × Int × Int × Int) × List (List Int) × List (List (Int × Int)) × List Int × Int × Int × Int × Int × Int × Int × Int × Int × Int × Int × Int × Int
abbrev Y:=A→Option R
def lv:List (Nat × List Nat):=[(2000000,[8])]
noncomputable def cs:Nat→Ctx:=ctxOf tis modes tg163.1 lv
theorem cs_ok (n:Nat):CtxOk Tryz.prog (cs n):=ctxOf_ok rfl tis_ok tg163.2 n
def sh:AS:=⟨[.agg [.int .i64,.int .i64,.int .i64,.int .i64,.int .i64,.int .i64,.int .i64,.int .i64,.int .i64,.int .i64,.int .i64,.int .i64,.int .i64,.int .i64,.int .i64,.int .i64,.frz (.int .i64),.int .i64,.int .i64,.int .i64,.int .i64,.int .i64,.int .i64,.int .i64,.int .i64,.int .i64,.int .i64,.frz y19,.frz y27,.frz y4,.frz y38],.c (.frz (.int .i64)),.agg [.int .i64,.int .i64,.int .i64,.int .i64,.int .i64,.int .i64],.agg [.int .i64,.int .i64,.int .i64,.int .i64,.int .i64,.int .i64]],[]⟩
def os:OS:=⟨.c .bool,[]⟩
def enc (r:R):Out:=os.enc r
def dec:Out→Option R:=os.dec
noncomputable def b0:Code:=subF [] Tryz.f64
noncomputable def K0 (k:Nat):Kt R:=kTop (cs k) Tryz.f64 dec
noncomputable def f (k:Nat):Y:=fun v=>held (runFn cs k Tryz.f64 (sh.args v) (sh.slots v) dec)
noncomputable def F:Y:=lm f
noncomputable def d:Y:=fun (a,b,e,j,l,m,o,s,t,u,w,x,y,z,B,C,D,G,H,I,J,K,P,N,O,T,S,Q,M,V,X,W,U,aa,Z,ab,ac,ad,ae,ah,ag,aq,an,ai) =>
br (decide (0 ≤ U ∧ U < (↑M.length:Int))) (br (decide (0 ≤ ae ∧ ae < (↑M.length:Int))) (br (decide (0 ≤ (rd ty0 M U).2.1 ∧ (rd ty0 M U).2.1 < (↑W.length:Int))) (br (decide (0 ≤ (rd ty0 M ae).2.1 ∧ (rd ty0 M ae).2.1 < (↑Q.length:Int))) (br (decide (0 ≤ (rd ty0 M ae).2.1 ∧ (rd ty0 M ae).2.1 < (↑W.length:Int))) (br (decide (0 ≤ (rd ty0 M U).2.1 ∧ (rd ty0 M U).2.1 < (↑Q.length:Int))) (br (!decide (wrap .i64 (rd (Ty.int .i64) W (rd ty0 M U).2.1 * (rd (Ty.str.pair (Ty.int .i64)) Q (rd ty0 M ae).2.1).2) = wrap .i64 (rd (Ty.int .i64) W (rd ty0 M ae).2.1 * (rd (Ty.str.pair (Ty.int .i64)) Q (rd ty0 M U).2.1).2))) (some (decide (wrap .i64 (rd (Ty.int .i64) W (rd ty0 M U).2.1 * (rd (Ty.str.pair (Ty.int .i64)) Q (rd ty0 M ae).2.1).2) < wrap .i64 (rd (Ty.int .i64) W (rd ty0 M ae).2.1 * (rd (Ty.str.pair (Ty.int .i64)) Q (rd ty0 M U).2.1).2)))) (br (!decide ((rd ty0 M U).2.2.2.2.2.2.2.2.2.2 = (rd ty0 M ae).2.2.2.2.2.2.2.2.2.2)) (some (decide ((rd ty0 M ae).2.2.2.2.2.2.2.2.2.2 < (rd ty0 M U).2.2.2.2.2.2.2.2.2.2))) (br (!decide (aa = ah)) (some (decide (aa < ah))) (some (decide (U < ae)))))) none) none) none) none) none) none
theorem d_cn:∀ v:A,Cn E (d v) fun i=>d v:=fun (a,b,e,j,l,m,o,s,t,u,w,x,y,z,B,C,D,G,H,I,J,K,P,N,O,T,S,Q,M,V,X,W,U,aa,Z,ab,ac,ad,ae,ah,ag,aq,an,ai)=>(.br (.br (.br (.br (.br (.br (.br .some (.br .some (.br .some .some))) .none) .none) .none) .none) .none) .none)
theorem f_b (k:Nat):∀ v:A,f k v = d v:=fun (a,b,e,j,l,m,o,s,t,u,w,x,y,z,B,C,D,G,H,I,J,K,P,N,O,T,S,Q,M,V,X,W,U,aa,Z,ab,ac,ad,ae,ah,ag,aq,an,ai)=>(held_eq _).trans (by kernel_rfl)
theorem F_of (v:A) {r:R} (h:d v = some r):F v = some r:=join_of (fun L=>f_b (L 0) v) (d_cn v) h
noncomputable def spec (k:Nat):List AV→List Slot→Option Ans:=specS sh os (f k)
theorem spec_ok (k:Nat):SpecOk Tryz.prog 64 (spec k):=specS_ok cs_ok Tryz.func64 rfl rfl (fun _ _=>held_eq _) k
end g164
noncomputable def tg164:=tg163.cons 64 g164.spec g164.spec_ok
namespace g165 -- plan_queue_Less
abbrev R:Type:=Bool × Int × Int × Int × Int × Int × Int × Int × Int × Int × Int × Int × Int × Int × Int × Int × Int × Int × Int × Int × Int × Int × Int × Int × Int × Int × Int × List Int × List (ByteArray × Int) × List (Int × Int × (Int × Int × Int) × Int × Int × Int × Int × Int × Int × Int × Int) × List (List Int) × List (List (Int × Int)) × List Int × List (Int × Int × (Int × Int) × Int × Int)
abbrev A:Type:=Int × Int × Int × Int × Int × Int × Int × Int × Int × Int × Int × Int × Int × Int × Int × Int × Int × Int × Int × Int × Int × Int × Int × Int × Int × Int × Int × Int × List Int × List (ByteArray × Int) × List (Int × Int × (Int × Int × Int) × Int × Int × Int × Int × Int × Int × Int × Int) × List (List Int) × List (List (Int × Int)) × List Int × List (Int × Int × (Int × Int) × Int × Int)
abbrev Y:=A→Option R
def lv:List (Nat × List Nat):=[(2000000,[6])]
noncomputable def cs:Nat→Ctx:=ctxOf tis modes tg164.1 lv
theorem cs_ok (n:Nat):CtxOk Tryz.prog (cs n):=ctxOf_ok rfl tis_ok tg164.2 n
noncomputable def sh:AS:=⟨[.c (.ptr 128000000 0),.c (.int .i64),.c (.int .i64)],[.box [.int .i64,.int .i64,.int .i64,.int .i64,.int .i64,.int .i64,.int .i64,.int .i64,.int .i64,.int .i64,.int .i64,.int .i64,.int .i64,.int .i64,.int .i64,.int .i64,.sl 128000001,.int .i64,.int .i64,.int .i64,.int .i64,.int .i64,.int .i64,.int .i64,.int .i64,.int .i64,.int .i64,.sl 128000002,.sl 128000003,.sl 128000004,.sl 128000005,.sl 128000006,.sl 128000007],.row (.int .i64),.row y19,.row y27,.nest y4,.nest y38,.row (.int .i64),.row y46]⟩
def os:OS:=⟨.c .bool,[.box [.int .i64,.int .i64,.int .i64,.int .i64,.int .i64,.int .i64,.int .i64,.int .i64,.int .i64,.int .i64,.int .i64,.int .i64,.int .i64,.int .i64,.int .i64,.int .i64,.sl 128000001,.int .i64,.int .i64,.int .i64,.int .i64,.int .i64,.int .i64,.int .i64,.int .i64,.int .i64,.int .i64,.sl 128000002,.sl 128000003,.sl 128000004,.sl 128000005,.sl 128000006,.sl 128000007],.row (.int .i64),.row y19,.row y27,.nest y4,.nest y38,.row (.int .i64),.row y46]⟩
def enc (r:R):Out:=os.enc r
def dec:Out→Option R:=os.dec
noncomputable def b0:Code:=subF [] Tryz.f241
noncomputable def K0 (k:Nat):Kt R:=kTop (cs k) Tryz.f241 dec
noncomputable def f (k:Nat):Y:=fun v=>held (runFn cs k Tryz.f241 (sh.args v) (sh.slots v) dec)
noncomputable def F:Y:=lm f
noncomputable def d (p0:g164.Y):Y:=fun (a,b,e,j,l,m,o,s,t,u,w,x,y,z,B,C,D,G,H,I,J,K,P,N,O,T,S,Q,M,V,X,W,U,aa,Z) =>
br (decide (0 ≤ a ∧ a < (↑Z.length:Int))) (br (decide (0 ≤ b ∧ b < (↑Z.length:Int))) (bnd (p0 (e,j,l,m,o,s,t,u,w,x,y,z,B,C,D,G,M,H,I,J,K,P,N,O,T,S,Q,V,X,W,U,aa,(rd ty1 Z a).1,(rd ty1 Z a).2.1,(rd ty1 Z a).2.2.1.1,(rd ty1 Z a).2.2.1.2,(rd ty1 Z a).2.2.2.1,(rd ty1 Z a).2.2.2.2,(rd ty1 Z b).1,(rd ty1 Z b).2.1,(rd ty1 Z b).2.2.1.1,(rd ty1 Z b).2.2.1.2,(rd ty1 Z b).2.2.2.1,(rd ty1 Z b).2.2.2.2)) fun r=>some (r,e,j,l,m,o,s,t,u,w,x,y,z,B,C,D,G,H,I,J,K,P,N,O,T,S,Q,M,V,X,W,U,aa,Z)) none) none
theorem d_cn (k0:Pr E g164.A g164.R):∀ v:A,Cn E (d k0.p v) fun i=>d (k0.q i) v:=fun (a,b,e,j,l,m,o,s,t,u,w,x,y,z,B,C,D,G,H,I,J,K,P,N,O,T,S,Q,M,V,X,W,U,aa,Z)=>(.br (.br (.bnd (k0.h _) fun _=>.some) .none) .none)
theorem f_b (k:Nat):∀ v:A,f k v = d (g164.f k) v:=fun (a,b,e,j,l,m,o,s,t,u,w,x,y,z,B,C,D,G,H,I,J,K,P,N,O,T,S,Q,M,V,X,W,U,aa,Z)=>(held_eq _).trans (by kernel_rfl)
theorem F_of (v:A) {r:R} (h:d g164.F v = some r):F v = some r:=join_of (fun L=>f_b (L 0) v) (d_cn (lp g164.f 0) v) h
noncomputable def spec (k:Nat):List AV→List Slot→Option Ans:=specS sh os (f k)
theorem spec_ok (k:Nat):SpecOk Tryz.prog 241 (spec k):=specS_ok cs_ok Tryz.func241 rfl rfl (fun _ _=>held_eq _) k
end g165
noncomputable def tg165:=tg164.cons 241 g165.spec g165.spec_ok
namespace g166 -- plan_queue_Swap
abbrev R:Type:=Int × Int × Int × Int × Int × Int × Int × Int × Int × Int × Int × Int × Int × Int × Int × Int × Int × Int × Int × Int × Int × Int × Int × Int × Int × Int × List Int × List (ByteArray × Int) × List (Int × Int × (Int × Int × Int) × Int × Int × Int × Int × Int × Int × Int × Int) × List (List Int) × List (List (Int × Int)) × List Int × List (Int × Int × (Int × Int) × Int × Int)
abbrev A:Type:=Int × Int × Int × Int × Int × Int × Int × Int × Int × Int × Int × Int × Int × Int × Int × Int × Int × Int × Int × Int × Int × Int × Int × Int × Int × Int × Int × Int × List Int × List (ByteArray × Int) × List (Int × Int × (Int × Int × Int) × Int × Int × Int × Int × Int × Int × Int × Int) × List (List Int) × List (List (Int × Int)) × List Int × List (Int × Int × (Int × Int) × Int × Int)
abbrev Y:=A→Option R
def lv:List (Nat × List Nat):=[(2000000,[0])]
noncomputable def cs:Nat→Ctx:=ctxOf tis modes tg165.1 lv
theorem cs_ok (n:Nat):CtxOk Tryz.prog (cs n):=ctxOf_ok rfl tis_ok tg165.2 n
noncomputable def sh:AS:=⟨[.c (.ptr 128000000 0),.c (.int .i64),.c (.int .i64)],[.box [.int .i64,.int .i64,.int .i64,.int .i64,.int .i64,.int .i64,.int .i64,.int .i64,.int .i64,.int .i64,.int .i64,.int .i64,.int .i64,.int .i64,.int .i64,.int .i64,.sl 128000001,.int .i64,.int .i64,.int .i64,.int .i64,.int .i64,.int .i64,.int .i64,.int .i64,.int .i64,.int .i64,.sl 128000002,.sl 128000003,.sl 128000004,.sl 128000005,.sl 128000006,.sl 128000007],.row (.int .i64),.row y19,.row y27,.nest y4,.nest y38,.row (.int .i64),.row y46]⟩
def os:OS:=⟨.tup [],[.box [.int .i64,.int .i64,.int .i64,.int .i64,.int .i64,.int .i64,.int .i64,.int .i64,.int .i64,.int .i64,.int .i64,.int .i64,.int .i64,.int .i64,.int .i64,.int .i64,.sl 128000001,.int .i64,.int .i64,.int .i64,.int .i64,.int .i64,.int .i64,.int .i64,.int .i64,.int .i64,.int .i64,.sl 128000002,.sl 128000003,.sl 128000004,.sl 128000005,.sl 128000006,.sl 128000007],.row (.int .i64),.row y19,.row y27,.nest y4,.nest y38,.row (.int .i64),.row y46]⟩
def enc (r:R):Out:=os.enc r
def dec:Out→Option R:=os.dec
noncomputable def b0:Code:=subF [] Tryz.f244
noncomputable def K0 (k:Nat):Kt R:=kTop (cs k) Tryz.f244 dec
noncomputable def f (k:Nat):Y:=fun v=>held (runFn cs k Tryz.f244 (sh.args v) (sh.slots v) dec)
noncomputable def F:Y:=lm f
noncomputable def d:Y:=fun (a,b,e,j,l,m,o,s,t,u,w,x,y,z,B,C,D,G,H,I,J,K,P,N,O,T,S,Q,M,V,X,W,U,aa,Z) =>
br (decide (0 ≤ b ∧ b < (↑Z.length:Int))) (br (decide (0 ≤ a ∧ a < (↑Z.length:Int))) (br (decide (0 ≤ a ∧ a < (↑Z.length:Int))) (br (decide (0 ≤ b ∧ b < (↑(Z.set a.toNat ((rd ty1 Z b).1,(rd ty1 Z b).2.1,((rd ty1 Z b).2.2.1.1,(rd ty1 Z b).2.2.1.2),(rd ty1 Z b).2.2.2.1,(rd ty1 Z b).2.2.2.2)).length:Int))) (some (e,j,l,m,o,s,t,u,w,x,y,z,B,C,D,G,H,I,J,K,P,N,O,T,S,Q,M,V,X,W,U,aa,(Z.set a.toNat ((rd ty1 Z b).1,(rd ty1 Z b).2.1,((rd ty1 Z b).2.2.1.1,(rd ty1 Z b).2.2.1.2),(rd ty1 Z b).2.2.2.1,(rd ty1 Z b).2.2.2.2)).set b.toNat ((rd ty1 Z a).1,(rd ty1 Z a).2.1,((rd ty1 Z a).2.2.1.1,(rd ty1 Z a).2.2.1.2),(rd ty1 Z a).2.2.2.1,(rd ty1 Z a).2.2.2.2))) none) none) none) none
theorem d_cn:∀ v:A,Cn E (d v) fun i=>d v:=fun (a,b,e,j,l,m,o,s,t,u,w,x,y,z,B,C,D,G,H,I,J,K,P,N,O,T,S,Q,M,V,X,W,U,aa,Z)=>(.br (.br (.br (.br .some .none) .none) .none) .none)
theorem f_b (k:Nat):∀ v:A,f k v = d v:=fun (a,b,e,j,l,m,o,s,t,u,w,x,y,z,B,C,D,G,H,I,J,K,P,N,O,T,S,Q,M,V,X,W,U,aa,Z)=>(held_eq _).trans (by kernel_rfl)
theorem F_of (v:A) {r:R} (h:d v = some r):F v = some r:=join_of (fun L=>f_b (L 0) v) (d_cn v) h
noncomputable def spec (k:Nat):List AV→List Slot→Option Ans:=specS sh os (f k)
theorem spec_ok (k:Nat):SpecOk Tryz.prog 244 (spec k):=specS_ok cs_ok Tryz.func244 rfl rfl (fun _ _=>held_eq _) k
end g166
noncomputable def tg166:=tg165.cons 244 g166.spec g166.spec_ok
namespace g167 -- heap_up
abbrev R:Type:=Int × Int × Int × Int × Int × Int × Int × Int × Int × Int × Int × Int × Int × Int × Int × Int × Int × Int × Int × Int × Int × Int × Int × Int × Int × Int × List Int × List (ByteArray × Int) × List (Int × Int × (Int × Int × Int) × Int × Int × Int × Int × Int × Int × Int × Int) × List (List Int) × List (List (Int × Int)) × List Int × List (Int × Int × (Int × Int) × Int × Int)
abbrev A:Type:=Int × Int × Int × Int × Int × Int × Int × Int × Int × Int × Int × Int × Int × Int × Int × Int × Int × Int × Int × Int × Int × Int × Int × Int × Int × Int × Int × List Int × List (ByteArray × Int) × List (Int × Int × (Int × Int × Int) × Int × Int × Int × Int × Int × Int × Int × Int) × List (List Int) × List (List (Int × Int)) × List Int × List (Int × Int × (Int × Int) × Int × Int)
abbrev Y:=A→Option R
def lv:List (Nat × List Nat):=[(2000000,[0]),(0,[0,1])]
noncomputable def cs:Nat→Ctx:=ctxOf tis modes tg166.1 lv
theorem cs_ok (n:Nat):CtxOk Tryz.prog (cs n):=ctxOf_ok rfl tis_ok tg166.2 n
noncomputable def sh:AS:=⟨[.c (.ifp 217 128000000 0),.c (.int .i64)],[.box [.int .i64,.int .i64,.int .i64,.int .i64,.int .i64,.int .i64,.int .i64,.int .i64,.int .i64,.int .i64,.int .i64,.int .i64,.int .i64,.int .i64,.int .i64,.int .i64,.sl 128000001,.int .i64,.int .i64,.int .i64,.int .i64,.int .i64,.int .i64,.int .i64,.int .i64,.int .i64,.int .i64,.sl 128000002,.sl 128000003,.sl 128000004,.sl 128000005,.sl 128000006,.sl 128000007],.row (.int .i64),.row y19,.row y27,.nest y4,.nest y38,.row (.int .i64),.row y46]⟩
def os:OS:=⟨.tup [],[.box [.int .i64,.int .i64,.int .i64,.int .i64,.int .i64,.int .i64,.int .i64,.int .i64,.int .i64,.int .i64,.int .i64,.int .i64,.int .i64,.int .i64,.int .i64,.int .i64,.sl 128000001,.int .i64,.int .i64,.int .i64,.int .i64,.int .i64,.int .i64,.int .i64,.int .i64,.int .i64,.int .i64,.sl 128000002,.sl 128000003,.sl 128000004,.sl 128000005,.sl 128000006,.sl 128000007],.row (.int .i64),.row y19,.row y27,.nest y4,.nest y38,.row (.int .i64),.row y46]⟩
def enc (r:R):Out:=os.enc r
def dec:Out→Option R:=os.dec
noncomputable def bR:Code:=subF [] Tryz.f161
noncomputable def KR (k:Nat):Kt R:=kTop (cs k) Tryz.f161 dec
noncomputable def b0:Code:=sub [0,0] bR
noncomputable def K0 ( k:Nat):Kt R:=kAt (cs k) (loopN cs k) [0] bR (KR k)
abbrev T0:Type:=Int × Int × Int × Int × Int × Int × Int × Int × Int × Int × Int × Int × Int × Int × Int × Int × Int × Int × Int × Int × Int × Int × Int × Int × Int × Int × Int × List Int × List (ByteArray × Int) × List (Int × Int × (Int × Int × Int) × Int × Int × Int × Int × Int × Int × Int × Int) × List (List Int) × List (List (Int × Int)) × List Int × List (Int × Int × (Int × Int) × Int × Int)
abbrev Y0:=T0→Option R
noncomputable def s0:T0→St:=fun (a,b,e,j,l,m,o,s,t,u,w,x,y,z,B,C,D,G,H,I,J,K,P,N,O,T,S,Q,M,V,X,W,U,aa)=>⟨23,8,[(0,.c (.ifp 217 128000000 0)),(1,.c (.int .i64 a))],[],[(128000000,.box [.int .i64 b,.int .i64 e,.int .i64 j,.int .i64 l,.int .i64 m,.int .i64 o,.int .i64 s,.int .i64 t,.int .i64 u,.int .i64 w,.int .i64 x,.int .i64 y,.int .i64 z,.int .i64 B,.int .i64 C,.int .i64 D,.sl 128000001,.int .i64 G,.int .i64 H,.int .i64 I,.int .i64 J,.int .i64 K,.int .i64 P,.int .i64 N,.int .i64 O,.int .i64 T,.int .i64 S,.sl 128000002,.sl 128000003,.sl 128000004,.sl 128000005,.sl 128000006,.sl 128000007]),(128000001,.row (.int .i64) Q),(128000002,.row y19 M),(128000003,.row y27 V),(128000004,.nest y4 X .none),(128000005,.nest y38 W .none),(128000006,.row (.int .i64) U),(128000007,.row y46 aa),(256000000,.gone)]⟩
noncomputable def l0 ( k n:Nat) (v:T0):Option R:=held (loopN cs n b0 (K0 k) (s0 v))
noncomputable def D0 (v:T0):Option R:=lim fun L=>l0 (L 0) (L 1) v
theorem D0_cn (v:T0):Cn late (D0 v) fun L=>l0 (L 0) (L 1) v:=of_lim
noncomputable def d0 (p0:g165.Y) (p1:g166.Y) (p2:Y0):Y0:=fun (a,b,e,j,l,m,o,s,t,u,w,x,y,z,B,C,D,G,H,I,J,K,P,N,O,T,S,Q,M,V,X,W,U,aa) =>
br (!decide (2 = 0)) (br (decide (wrap .i64 ((wrap .i64 (a - 1)).tdiv 2) = a) == false) (bnd (p0 (a,wrap .i64 ((wrap .i64 (a - 1)).tdiv 2),b,e,j,l,m,o,s,t,u,w,x,y,z,B,C,D,G,H,I,J,K,P,N,O,T,S,Q,M,V,X,W,U,aa)) fun r=>br (!r.1) (some (r.2.1,r.2.2.1,r.2.2.2.1,r.2.2.2.2.1,r.2.2.2.2.2.1,r.2.2.2.2.2.2.1,r.2.2.2.2.2.2.2.1,r.2.2.2.2.2.2.2.2.1,r.2.2.2.2.2.2.2.2.2.1,r.2.2.2.2.2.2.2.2.2.2.1,r.2.2.2.2.2.2.2.2.2.2.2.1,r.2.2.2.2.2.2.2.2.2.2.2.2.1,r.2.2.2.2.2.2.2.2.2.2.2.2.2.1,r.2.2.2.2.2.2.2.2.2.2.2.2.2.2.1,r.2.2.2.2.2.2.2.2.2.2.2.2.2.2.2.1,r.2.2.2.2.2.2.2.2.2.2.2.2.2.2.2.2.1,r.2.2.2.2.2.2.2.2.2.2.2.2.2.2.2.2.2.1,r.2.2.2.2.2.2.2.2.2.2.2.2.2.2.2.2.2.2.1,r.2.2.2.2.2.2.2.2.2.2.2.2.2.2.2.2.2.2.2.1,r.2.2.2.2.2.2.2.2.2.2.2.2.2.2.2.2.2.2.2.2.1,r.2.2.2.2.2.2.2.2.2.2.2.2.2.2.2.2.2.2.2.2.2.1,r.2.2.2.2.2.2.2.2.2.2.2.2.2.2.2.2.2.2.2.2.2.2.1,r.2.2.2.2.2.2.2.2.2.2.2.2.2.2.2.2.2.2.2.2.2.2.2.1,r.2.2.2.2.2.2.2.2.2.2.2.2.2.2.2.2.2.2.2.2.2.2.2.2.1,r.2.2.2.2.2.2.2.2.2.2.2.2.2.2.2.2.2.2.2.2.2.2.2.2.2.1,r.2.2.2.2.2.2.2.2.2.2.2.2.2.2.2.2.2.2.2.2.2.2.2.2.2.2.1,r.2.2.2.2.2.2.2.2.2.2.2.2.2.2.2.2.2.2.2.2.2.2.2.2.2.2.2.1,r.2.2.2.2.2.2.2.2.2.2.2.2.2.2.2.2.2.2.2.2.2.2.2.2.2.2.2.2.1,r.2.2.2.2.2.2.2.2.2.2.2.2.2.2.2.2.2.2.2.2.2.2.2.2.2.2.2.2.2.1,r.2.2.2.2.2.2.2.2.2.2.2.2.2.2.2.2.2.2.2.2.2.2.2.2.2.2.2.2.2.2.1,r.2.2.2.2.2.2.2.2.2.2.2.2.2.2.2.2.2.2.2.2.2.2.2.2.2.2.2.2.2.2.2.1,r.2.2.2.2.2.2.2.2.2.2.2.2.2.2.2.2.2.2.2.2.2.2.2.2.2.2.2.2.2.2.2.2.1,r.2.2.2.2.2.2.2.2.2.2.2.2.2.2.2.2.2.2.2.2.2.2.2.2.2.2.2.2.2.2.2.2.2)) (bnd (p1 (wrap .i64 ((wrap .i64 (a - 1)).tdiv 2),a,r.2.1,r.2.2.1,r.2.2.2.1,r.2.2.2.2.1,r.2.2.2.2.2.1,r.2.2.2.2.2.2.1,r.2.2.2.2.2.2.2.1,r.2.2.2.2.2.2.2.2.1,r.2.2.2.2.2.2.2.2.2.1,r.2.2.2.2.2.2.2.2.2.2.1,r.2.2.2.2.2.2.2.2.2.2.2.1,r.2.2.2.2.2.2.2.2.2.2.2.2.1,r.2.2.2.2.2.2.2.2.2.2.2.2.2.1,r.2.2.2.2.2.2.2.2.2.2.2.2.2.2.1,r.2.2.2.2.2.2.2.2.2.2.2.2.2.2.2.1,r.2.2.2.2.2.2.2.2.2.2.2.2.2.2.2.2.1,r.2.2.2.2.2.2.2.2.2.2.2.2.2.2.2.2.2.1,r.2.2.2.2.2.2.2.2.2.2.2.2.2.2.2.2.2.2.1,r.2.2.2.2.2.2.2.2.2.2.2.2.2.2.2.2.2.2.2.1,r.2.2.2.2.2.2.2.2.2.2.2.2.2.2.2.2.2.2.2.2.1,r.2.2.2.2.2.2.2.2.2.2.2.2.2.2.2.2.2.2.2.2.2.1,r.2.2.2.2.2.2.2.2.2.2.2.2.2.2.2.2.2.2.2.2.2.2.1,r.2.2.2.2.2.2.2.2.2.2.2.2.2.2.2.2.2.2.2.2.2.2.2.1,r.2.2.2.2.2.2.2.2.2.2.2.2.2.2.2.2.2.2.2.2.2.2.2.2.1,r.2.2.2.2.2.2.2.2.2.2.2.2.2.2.2.2.2.2.2.2.2.2.2.2.2.1,r.2.2.2.2.2.2.2.2.2.2.2.2.2.2.2.2.2.2.2.2.2.2.2.2.2.2.1,r.2.2.2.2.2.2.2.2.2.2.2.2.2.2.2.2.2.2.2.2.2.2.2.2.2.2.2.1,r.2.2.2.2.2.2.2.2.2.2.2.2.2.2.2.2.2.2.2.2.2.2.2.2.2.2.2.2.1,r.2.2.2.2.2.2.2.2.2.2.2.2.2.2.2.2.2.2.2.2.2.2.2.2.2.2.2.2.2.1,r.2.2.2.2.2.2.2.2.2.2.2.2.2.2.2.2.2.2.2.2.2.2.2.2.2.2.2.2.2.2.1,r.2.2.2.2.2.2.2.2.2.2.2.2.2.2.2.2.2.2.2.2.2.2.2.2.2.2.2.2.2.2.2.1,r.2.2.2.2.2.2.2.2.2.2.2.2.2.2.2.2.2.2.2.2.2.2.2.2.2.2.2.2.2.2.2.2.1,r.2.2.2.2.2.2.2.2.2.2.2.2.2.2.2.2.2.2.2.2.2.2.2.2.2.2.2.2.2.2.2.2.2)) fun r=>p2 (wrap .i64 ((wrap .i64 (a - 1)).tdiv 2),r.1,r.2.1,r.2.2.1,r.2.2.2.1,r.2.2.2.2.1,r.2.2.2.2.2.1,r.2.2.2.2.2.2.1,r.2.2.2.2.2.2.2.1,r.2.2.2.2.2.2.2.2.1,r.2.2.2.2.2.2.2.2.2.1,r.2.2.2.2.2.2.2.2.2.2.1,r.2.2.2.2.2.2.2.2.2.2.2.1,r.2.2.2.2.2.2.2.2.2.2.2.2.1,r.2.2.2.2.2.2.2.2.2.2.2.2.2.1,r.2.2.2.2.2.2.2.2.2.2.2.2.2.2.1,r.2.2.2.2.2.2.2.2.2.2.2.2.2.2.2.1,r.2.2.2.2.2.2.2.2.2.2.2.2.2.2.2.2.1,r.2.2.2.2.2.2.2.2.2.2.2.2.2.2.2.2.2.1,r.2.2.2.2.2.2.2.2.2.2.2.2.2.2.2.2.2.2.1,r.2.2.2.2.2.2.2.2.2.2.2.2.2.2.2.2.2.2.2.1,r.2.2.2.2.2.2.2.2.2.2.2.2.2.2.2.2.2.2.2.2.1,r.2.2.2.2.2.2.2.2.2.2.2.2.2.2.2.2.2.2.2.2.2.1,r.2.2.2.2.2.2.2.2.2.2.2.2.2.2.2.2.2.2.2.2.2.2.1,r.2.2.2.2.2.2.2.2.2.2.2.2.2.2.2.2.2.2.2.2.2.2.2.1,r.2.2.2.2.2.2.2.2.2.2.2.2.2.2.2.2.2.2.2.2.2.2.2.2.1,r.2.2.2.2.2.2.2.2.2.2.2.2.2.2.2.2.2.2.2.2.2.2.2.2.2.1,r.2.2.2.2.2.2.2.2.2.2.2.2.2.2.2.2.2.2.2.2.2.2.2.2.2.2.1,r.2.2.2.2.2.2.2.2.2.2.2.2.2.2.2.2.2.2.2.2.2.2.2.2.2.2.2.1,r.2.2.2.2.2.2.2.2.2.2.2.2.2.2.2.2.2.2.2.2.2.2.2.2.2.2.2.2.1,r.2.2.2.2.2.2.2.2.2.2.2.2.2.2.2.2.2.2.2.2.2.2.2.2.2.2.2.2.2.1,r.2.2.2.2.2.2.2.2.2.2.2.2.2.2.2.2.2.2.2.2.2.2.2.2.2.2.2.2.2.2.1,r.2.2.2.2.2.2.2.2.2.2.2.2.2.2.2.2.2.2.2.2.2.2.2.2.2.2.2.2.2.2.2.1,r.2.2.2.2.2.2.2.2.2.2.2.2.2.2.2.2.2.2.2.2.2.2.2.2.2.2.2.2.2.2.2.2))) (some (b,e,j,l,m,o,s,t,u,w,x,y,z,B,C,D,G,H,I,J,K,P,N,O,T,S,Q,M,V,X,W,U,aa))) none
theorem d0_cn (k0:Pr E g165.A g165.R) (k1:Pr E g166.A g166.R) (k2:Pr E T0 R):∀ v:T0,Cn E (d0 k0.p k1.p k2.p v) fun i=>d0 (k0.q i) (k1.q i) (k2.q i) v:=fun (a,b,e,j,l,m,o,s,t,u,w,x,y,z,B,C,D,G,H,I,J,K,P,N,O,T,S,Q,M,V,X,W,U,aa)=>(.br (.br (.bnd (k0.h _) fun _=>(.br .some (.bnd (k1.h _) fun _=>(k2.h _)))) .some) .none)
theorem l0_b ( k m1:Nat):∀ v:T0,run (cs m1) (loopN cs m1) b0 (kLoop cs m1 b0 (K0 k)) (s0 v) = d0 (g165.f m1) (g166.f m1) (l0 k m1) v:=fun (a,b,e,j,l,m,o,s,t,u,w,x,y,z,B,C,D,G,H,I,J,K,P,N,O,T,S,Q,M,V,X,W,U,aa)=>by kernel_rfl
theorem D0_of (v:T0) {r:R} (h:d0 g165.F g166.F D0 v = some r):D0 v = some r:=loop_of 1 (fun L n hn=>by show l0 (L 0) (L 1) v = _; rw [hn]; exact (held_eq _).trans ((loopN_succ _ _ _ _ _).trans (l0_b (L 0) n v))) (d0_cn (lp g165.f 1) (lp g166.f 1) (.mk fun v=>(D0_cn v).re [0,1]) v) h
noncomputable def f (k:Nat):Y:=fun v=>held (runFn cs k Tryz.f161 (sh.args v) (sh.slots v) dec)
noncomputable def F:Y:=lm f
def d (p0:Y0):Y:=fun (a,b,e,j,l,m,o,s,t,u,w,x,y,z,B,C,D,G,H,I,J,K,P,N,O,T,S,Q,M,V,X,W,U,aa) =>
p0 (a,b,e,j,l,m,o,s,t,u,w,x,y,z,B,C,D,G,H,I,J,K,P,N,O,T,S,Q,M,V,X,W,U,aa)
theorem d_cn (k0:Pr E T0 R):∀ v:A,Cn E (d k0.p v) fun i=>d (k0.q i) v:=fun (a,b,e,j,l,m,o,s,t,u,w,x,y,z,B,C,D,G,H,I,J,K,P,N,O,T,S,Q,M,V,X,W,U,aa)=>(k0.h _)
theorem f_b (k:Nat):∀ v:A,f k v = d (l0 k k) v:=fun (a,b,e,j,l,m,o,s,t,u,w,x,y,z,B,C,D,G,H,I,J,K,P,N,O,T,S,Q,M,V,X,W,U,aa)=>(held_eq _).trans (by kernel_rfl)
theorem F_of (v:A) {r:R} (h:d D0 v = some r):F v = some r:=join_of (fun L=>f_b (L 0) v) (d_cn (.mk fun v=>(D0_cn v).re [0,0]) v) h
noncomputable def spec (k:Nat):List AV→List Slot→Option Ans:=specS sh os (f k)
theorem spec_ok (k:Nat):SpecOk Tryz.prog 161 (spec k):=specS_ok cs_ok Tryz.func161 rfl rfl (fun _ _=>held_eq _) k
end g167
noncomputable def tg167:=tg166.cons 161 g167.spec g167.spec_ok
namespace g168 -- heap_Push
abbrev R:Type:=Int × Int × Int × Int × Int × Int × Int × Int × Int × Int × Int × Int × Int × Int × Int × Int × Int × Int × Int × Int × Int × Int × Int × Int × Int × Int × List Int × List (ByteArray × Int) × List (Int × Int × (Int × Int × Int) × Int × Int × Int × Int × Int × Int × Int × Int) × List (List Int) × List (List (Int × Int)) × List Int × List (Int × Int × (Int × Int) × Int × Int)
abbrev A:Type:=(Int × Int × (Int × Int) × Int × Int) × Int × Int × Int × Int × Int × Int × Int × Int × Int × Int × Int × Int × Int × Int × Int × Int × Int × Int × Int × Int × Int × Int × Int × Int × Int × Int × List Int × List (ByteArray × Int) × List (Int × Int × (Int × Int × Int) × Int × Int × Int × Int × Int × Int × Int × Int) × List (List Int) × List (List (Int × Int)) × List Int × List (Int × Int × (Int × Int) × Int × Int)
abbrev Y:=A→Option R
def lv:List (Nat × List Nat):=[(2000000,[0])]
noncomputable def cs:Nat→Ctx:=ctxOf tis modes tg167.1 lv
theorem cs_ok (n:Nat):CtxOk Tryz.prog (cs n):=ctxOf_ok rfl tis_ok tg167.2 n
noncomputable def sh:AS:=⟨[.c (.ifp 217 128000000 0),.c (.ifd 96 .true y46)],[.box [.int .i64,.int .i64,.int .i64,.int .i64,.int .i64,.int .i64,.int .i64,.int .i64,.int .i64,.int .i64,.int .i64,.int .i64,.int .i64,.int .i64,.int .i64,.int .i64,.sl 128000001,.int .i64,.int .i64,.int .i64,.int .i64,.int .i64,.int .i64,.int .i64,.int .i64,.int .i64,.int .i64,.sl 128000002,.sl 128000003,.sl 128000004,.sl 128000005,.sl 128000006,.sl 128000007],.row (.int .i64),.row y19,.row y27,.nest y4,.nest y38,.row (.int .i64),.row y46]⟩
def os:OS:=⟨.tup [],[.box [.int .i64,.int .i64,.int .i64,.int .i64,.int .i64,.int .i64,.int .i64,.int .i64,.int .i64,.int .i64,.int .i64,.int .i64,.int .i64,.int .i64,.int .i64,.int .i64,.sl 128000001,.int .i64,.int .i64,.int .i64,.int .i64,.int .i64,.int .i64,.int .i64,.int .i64,.int .i64,.int .i64,.sl 128000002,.sl 128000003,.sl 128000004,.sl 128000005,.sl 128000006,.sl 128000008],.row (.int .i64),.row y19,.row y27,.nest y4,.nest y38,.row (.int .i64),.gone,.row y46]⟩
def enc (r:R):Out:=os.enc r
def dec:Out→Option R:=os.dec
noncomputable def b0:Code:=subF [] Tryz.f112
noncomputable def K0 (k:Nat):Kt R:=kTop (cs k) Tryz.f112 dec
noncomputable def f (k:Nat):Y:=fun v=>held (runFn cs k Tryz.f112 (sh.args v) (sh.slots v) dec)
noncomputable def F:Y:=lm f
noncomputable def d (p0:g162.Y) (p1:g163.Y) (p2:g167.Y):Y:=fun (a,b,e,j,l,m,o,s,t,u,w,x,y,z,B,C,D,G,H,I,J,K,P,N,O,T,S,Q,M,V,X,W,U,aa) =>
bnd (p0 (a,b,e,j,l,m,o,s,t,u,w,x,y,z,B,C,D,G,H,I,J,K,P,N,O,T,S,Q,M,V,X,W,U,aa)) fun r=>bnd (p1 (r.1,r.2.1,r.2.2.1,r.2.2.2.1,r.2.2.2.2.1,r.2.2.2.2.2.1,r.2.2.2.2.2.2.1,r.2.2.2.2.2.2.2.1,r.2.2.2.2.2.2.2.2.1,r.2.2.2.2.2.2.2.2.2.1,r.2.2.2.2.2.2.2.2.2.2.1,r.2.2.2.2.2.2.2.2.2.2.2.1,r.2.2.2.2.2.2.2.2.2.2.2.2.1,r.2.2.2.2.2.2.2.2.2.2.2.2.2.1,r.2.2.2.2.2.2.2.2.2.2.2.2.2.2.1,r.2.2.2.2.2.2.2.2.2.2.2.2.2.2.2.1,r.2.2.2.2.2.2.2.2.2.2.2.2.2.2.2.2.1,r.2.2.2.2.2.2.2.2.2.2.2.2.2.2.2.2.2.1,r.2.2.2.2.2.2.2.2.2.2.2.2.2.2.2.2.2.2.1,r.2.2.2.2.2.2.2.2.2.2.2.2.2.2.2.2.2.2.2.1,r.2.2.2.2.2.2.2.2.2.2.2.2.2.2.2.2.2.2.2.2.1,r.2.2.2.2.2.2.2.2.2.2.2.2.2.2.2.2.2.2.2.2.2.1,r.2.2.2.2.2.2.2.2.2.2.2.2.2.2.2.2.2.2.2.2.2.2.1,r.2.2.2.2.2.2.2.2.2.2.2.2.2.2.2.2.2.2.2.2.2.2.2.1,r.2.2.2.2.2.2.2.2.2.2.2.2.2.2.2.2.2.2.2.2.2.2.2.2.1,r.2.2.2.2.2.2.2.2.2.2.2.2.2.2.2.2.2.2.2.2.2.2.2.2.2.1,r.2.2.2.2.2.2.2.2.2.2.2.2.2.2.2.2.2.2.2.2.2.2.2.2.2.2.1,r.2.2.2.2.2.2.2.2.2.2.2.2.2.2.2.2.2.2.2.2.2.2.2.2.2.2.2.1,r.2.2.2.2.2.2.2.2.2.2.2.2.2.2.2.2.2.2.2.2.2.2.2.2.2.2.2.2.1,r.2.2.2.2.2.2.2.2.2.2.2.2.2.2.2.2.2.2.2.2.2.2.2.2.2.2.2.2.2.1,r.2.2.2.2.2.2.2.2.2.2.2.2.2.2.2.2.2.2.2.2.2.2.2.2.2.2.2.2.2.2.1,r.2.2.2.2.2.2.2.2.2.2.2.2.2.2.2.2.2.2.2.2.2.2.2.2.2.2.2.2.2.2.2.1,r.2.2.2.2.2.2.2.2.2.2.2.2.2.2.2.2.2.2.2.2.2.2.2.2.2.2.2.2.2.2.2.2)) fun r=>bnd (p2 (wrap .i64 (r.1 - 1),r.2.1,r.2.2.1,r.2.2.2.1,r.2.2.2.2.1,r.2.2.2.2.2.1,r.2.2.2.2.2.2.1,r.2.2.2.2.2.2.2.1,r.2.2.2.2.2.2.2.2.1,r.2.2.2.2.2.2.2.2.2.1,r.2.2.2.2.2.2.2.2.2.2.1,r.2.2.2.2.2.2.2.2.2.2.2.1,r.2.2.2.2.2.2.2.2.2.2.2.2.1,r.2.2.2.2.2.2.2.2.2.2.2.2.2.1,r.2.2.2.2.2.2.2.2.2.2.2.2.2.2.1,r.2.2.2.2.2.2.2.2.2.2.2.2.2.2.2.1,r.2.2.2.2.2.2.2.2.2.2.2.2.2.2.2.2.1,r.2.2.2.2.2.2.2.2.2.2.2.2.2.2.2.2.2.1,r.2.2.2.2.2.2.2.2.2.2.2.2.2.2.2.2.2.2.1,r.2.2.2.2.2.2.2.2.2.2.2.2.2.2.2.2.2.2.2.1,r.2.2.2.2.2.2.2.2.2.2.2.2.2.2.2.2.2.2.2.2.1,r.2.2.2.2.2.2.2.2.2.2.2.2.2.2.2.2.2.2.2.2.2.1,r.2.2.2.2.2.2.2.2.2.2.2.2.2.2.2.2.2.2.2.2.2.2.1,r.2.2.2.2.2.2.2.2.2.2.2.2.2.2.2.2.2.2.2.2.2.2.2.1,r.2.2.2.2.2.2.2.2.2.2.2.2.2.2.2.2.2.2.2.2.2.2.2.2.1,r.2.2.2.2.2.2.2.2.2.2.2.2.2.2.2.2.2.2.2.2.2.2.2.2.2.1,r.2.2.2.2.2.2.2.2.2.2.2.2.2.2.2.2.2.2.2.2.2.2.2.2.2.2.1,r.2.2.2.2.2.2.2.2.2.2.2.2.2.2.2.2.2.2.2.2.2.2.2.2.2.2.2.1,r.2.2.2.2.2.2.2.2.2.2.2.2.2.2.2.2.2.2.2.2.2.2.2.2.2.2.2.2.1,r.2.2.2.2.2.2.2.2.2.2.2.2.2.2.2.2.2.2.2.2.2.2.2.2.2.2.2.2.2.1,r.2.2.2.2.2.2.2.2.2.2.2.2.2.2.2.2.2.2.2.2.2.2.2.2.2.2.2.2.2.2.1,r.2.2.2.2.2.2.2.2.2.2.2.2.2.2.2.2.2.2.2.2.2.2.2.2.2.2.2.2.2.2.2.1,r.2.2.2.2.2.2.2.2.2.2.2.2.2.2.2.2.2.2.2.2.2.2.2.2.2.2.2.2.2.2.2.2.1,r.2.2.2.2.2.2.2.2.2.2.2.2.2.2.2.2.2.2.2.2.2.2.2.2.2.2.2.2.2.2.2.2.2)) fun r=>some (r.1,r.2.1,r.2.2.1,r.2.2.2.1,r.2.2.2.2.1,r.2.2.2.2.2.1,r.2.2.2.2.2.2.1,r.2.2.2.2.2.2.2.1,r.2.2.2.2.2.2.2.2.1,r.2.2.2.2.2.2.2.2.2.1,r.2.2.2.2.2.2.2.2.2.2.1,r.2.2.2.2.2.2.2.2.2.2.2.1,r.2.2.2.2.2.2.2.2.2.2.2.2.1,r.2.2.2.2.2.2.2.2.2.2.2.2.2.1,r.2.2.2.2.2.2.2.2.2.2.2.2.2.2.1,r.2.2.2.2.2.2.2.2.2.2.2.2.2.2.2.1,r.2.2.2.2.2.2.2.2.2.2.2.2.2.2.2.2.1,r.2.2.2.2.2.2.2.2.2.2.2.2.2.2.2.2.2.1,r.2.2.2.2.2.2.2.2.2.2.2.2.2.2.2.2.2.2.1,r.2.2.2.2.2.2.2.2.2.2.2.2.2.2.2.2.2.2.2.1,r.2.2.2.2.2.2.2.2.2.2.2.2.2.2.2.2.2.2.2.2.1,r.2.2.2.2.2.2.2.2.2.2.2.2.2.2.2.2.2.2.2.2.2.1,r.2.2.2.2.2.2.2.2.2.2.2.2.2.2.2.2.2.2.2.2.2.2.1,r.2.2.2.2.2.2.2.2.2.2.2.2.2.2.2.2.2.2.2.2.2.2.2.1,r.2.2.2.2.2.2.2.2.2.2.2.2.2.2.2.2.2.2.2.2.2.2.2.2.1,r.2.2.2.2.2.2.2.2.2.2.2.2.2.2.2.2.2.2.2.2.2.2.2.2.2.1,r.2.2.2.2.2.2.2.2.2.2.2.2.2.2.2.2.2.2.2.2.2.2.2.2.2.2.1,r.2.2.2.2.2.2.2.2.2.2.2.2.2.2.2.2.2.2.2.2.2.2.2.2.2.2.2.1,r.2.2.2.2.2.2.2.2.2.2.2.2.2.2.2.2.2.2.2.2.2.2.2.2.2.2.2.2.1,r.2.2.2.2.2.2.2.2.2.2.2.2.2.2.2.2.2.2.2.2.2.2.2.2.2.2.2.2.2.1,r.2.2.2.2.2.2.2.2.2.2.2.2.2.2.2.2.2.2.2.2.2.2.2.2.2.2.2.2.2.2.1,r.2.2.2.2.2.2.2.2.2.2.2.2.2.2.2.2.2.2.2.2.2.2.2.2.2.2.2.2.2.2.2.1,r.2.2.2.2.2.2.2.2.2.2.2.2.2.2.2.2.2.2.2.2.2.2.2.2.2.2.2.2.2.2.2.2)
theorem d_cn (k0:Pr E g162.A g162.R) (k1:Pr E g163.A g163.R) (k2:Pr E g167.A g167.R):∀ v:A,Cn E (d k0.p k1.p k2.p v) fun i=>d (k0.q i) (k1.q i) (k2.q i) v:=fun (a,b,e,j,l,m,o,s,t,u,w,x,y,z,B,C,D,G,H,I,J,K,P,N,O,T,S,Q,M,V,X,W,U,aa)=>(.bnd (k0.h _) fun _=>(.bnd (k1.h _) fun _=>(.bnd (k2.h _) fun _=>.some)))
theorem f_b (k:Nat):∀ v:A,f k v = d (g162.f k) (g163.f k) (g167.f k) v:=fun (a,b,e,j,l,m,o,s,t,u,w,x,y,z,B,C,D,G,H,I,J,K,P,N,O,T,S,Q,M,V,X,W,U,aa)=>(held_eq _).trans (by kernel_rfl)
theorem F_of (v:A) {r:R} (h:d g162.F g163.F g167.F v = some r):F v = some r:=join_of (fun L=>f_b (L 0) v) (d_cn (lp g162.f 0) (lp g163.f 0) (lp g167.f 0) v) h
noncomputable def spec (k:Nat):List AV→List Slot→Option Ans:=specS sh os (f k)
theorem spec_ok (k:Nat):SpecOk Tryz.prog 112 (spec k):=specS_ok cs_ok Tryz.func112 rfl rfl (fun _ _=>held_eq _) k
end g168
noncomputable def tg168:=tg167.cons 112 g168.spec g168.spec_ok
namespace g169 -- heap_down
abbrev R:Type:=Bool × Int × Int × Int × Int × Int × Int × Int × Int × Int × Int × Int × Int × Int × Int × Int × Int × Int × Int × Int × Int × Int × Int × Int × Int × Int × Int × List Int × List (ByteArray × Int) × List (Int × Int × (Int × Int × Int) × Int × Int × Int × Int × Int × Int × Int × Int) × List (List Int) × List (List (Int × Int)) × List Int × List (Int × Int × (Int × Int) × Int × Int)
abbrev A:Type:=Int × Int × Int × Int × Int × Int × Int × Int × Int × Int × Int × Int × Int × Int × Int × Int × Int × Int × Int × Int × Int × Int × Int × Int × Int × Int × Int × Int × List Int × List (ByteArray × Int) × List (Int × Int × (Int × Int × Int) × Int × Int × Int × Int × Int × Int × Int × Int) × List (List Int) × List (List (Int × Int)) × List Int × List (Int × Int × (Int × Int) × Int × Int)
abbrev Y:=A→Option R
def lv:List (Nat × List Nat):=[(2000000,[6]),(2,[0,1,2,7]),(1000008,[0,1,2,7,9]),(1000011,[1,7])]
noncomputable def cs:Nat→Ctx:=ctxOf tis modes tg168.1 lv
theorem cs_ok (n:Nat):CtxOk Tryz.prog (cs n):=ctxOf_ok rfl tis_ok tg168.2 n
noncomputable def sh:AS:=⟨[.c (.ifp 217 128000000 0),.c (.int .i64),.c (.int .i64)],[.box [.int .i64,.int .i64,.int .i64,.int .i64,.int .i64,.int .i64,.int .i64,.int .i64,.int .i64,.int .i64,.int .i64,.int .i64,.int .i64,.int .i64,.int .i64,.int .i64,.sl 128000001,.int .i64,.int .i64,.int .i64,.int .i64,.int .i64,.int .i64,.int .i64,.int .i64,.int .i64,.int .i64,.sl 128000002,.sl 128000003,.sl 128000004,.sl 128000005,.sl 128000006,.sl 128000007],.row (.int .i64),.row y19,.row y27,.nest y4,.nest y38,.row (.int .i64),.row y46]⟩
def os:OS:=⟨.c .bool,[.box [.int .i64,.int .i64,.int .i64,.int .i64,.int .i64,.int .i64,.int .i64,.int .i64,.int .i64,.int .i64,.int .i64,.int .i64,.int .i64,.int .i64,.int .i64,.int .i64,.sl 128000001,.int .i64,.int .i64,.int .i64,.int .i64,.int .i64,.int .i64,.int .i64,.int .i64,.int .i64,.int .i64,.sl 128000002,.sl 128000003,.sl 128000004,.sl 128000005,.sl 128000006,.sl 128000007],.row (.int .i64),.row y19,.row y27,.nest y4,.nest y38,.row (.int .i64),.row y46]⟩
def enc (r:R):Out:=os.enc r
def dec:Out→Option R:=os.dec
noncomputable def b0:Code:=subF [] Tryz.f162
noncomputable def K0 (k:Nat):Kt R:=kTop (cs k) Tryz.f162 dec
noncomputable def c1000011:Code:=sub [1,1,1] b0
noncomputable def J1000011 ( k:Nat):Kt R:=kAt (cs k) (loopN cs k) [1,1,1] b0 (K0 k)
noncomputable def b2:Code:=sub [1,1,0,0,0] b0
noncomputable def K2 ( k:Nat):Kt R:=kAt (cs k) (loopN cs k) [1,1,0,0] b0 (K0 k)
noncomputable def c1000008:Code:=sub [0,1,1,1,1] b2
noncomputable def J1000008 ( k m1:Nat):Kt R:=kAt (cs m1) (loopN cs m1) [0,1,1,1,1] b2 (kLoop cs m1 b2 (K2 k))
abbrev T0:Type:=Int × Int × Int × Int × Int × Int × Int × Int × Int × Int × Int × Int × Int × Int × Int × Int × Int × Int × Int × Int × Int × Int × Int × Int × Int × Int × Int × Int × Int × List Int × List (ByteArray × Int) × List (Int × Int × (Int × Int × Int) × Int × Int × Int × Int × Int × Int × Int × Int) × List (List Int) × List (List (Int × Int)) × List Int × List (Int × Int × (Int × Int) × Int × Int)
abbrev Y0:=T0→Option R
noncomputable def s0:T0→St:=fun (a,b,e,j,l,m,o,s,t,u,w,x,y,z,B,C,D,G,H,I,J,K,P,N,O,T,S,Q,M,V,X,W,U,aa,Z,ab)=>⟨48,8,[(0,.c (.ifp 217 128000000 0)),(1,.c (.int .i64 a)),(2,.c (.int .i64 b)),(7,.c (.int .i64 e))],[],[(128000000,.box [.int .i64 j,.int .i64 l,.int .i64 m,.int .i64 o,.int .i64 s,.int .i64 t,.int .i64 u,.int .i64 w,.int .i64 x,.int .i64 y,.int .i64 z,.int .i64 B,.int .i64 C,.int .i64 D,.int .i64 G,.int .i64 H,.sl 128000001,.int .i64 I,.int .i64 J,.int .i64 K,.int .i64 P,.int .i64 N,.int .i64 O,.int .i64 T,.int .i64 S,.int .i64 Q,.int .i64 M,.sl 128000002,.sl 128000003,.sl 128000004,.sl 128000005,.sl 128000006,.sl 128000007]),(128000001,.row (.int .i64) V),(128000002,.row y19 X),(128000003,.row y27 W),(128000004,.nest y4 U .none),(128000005,.nest y38 aa .none),(128000006,.row (.int .i64) Z),(128000007,.row y46 ab),(256000000,.gone)]⟩
noncomputable def l0 ( k n:Nat) (v:T0):Option R:=held (loopN cs n b2 (K2 k) (s0 v))
noncomputable def D0 (v:T0):Option R:=lim fun L=>l0 (L 0) (L 1) v
theorem D0_cn (v:T0):Cn late (D0 v) fun L=>l0 (L 0) (L 1) v:=of_lim
abbrev T1:Type:=Int × Int × Int × Int × Int × Int × Int × Int × Int × Int × Int × Int × Int × Int × Int × Int × Int × Int × Int × Int × Int × Int × Int × Int × Int × Int × Int × Int × List Int × List (ByteArray × Int) × List (Int × Int × (Int × Int × Int) × Int × Int × Int × Int × Int × Int × Int × Int) × List (List Int) × List (List (Int × Int)) × List Int × List (Int × Int × (Int × Int) × Int × Int)
abbrev Y1:=T1→Option R
noncomputable def s1:T1→St:=fun (a,b,e,j,l,m,o,s,t,u,w,x,y,z,B,C,D,G,H,I,J,K,P,N,O,T,S,Q,M,V,X,W,U,aa,Z)=>⟨48,8,[(1,.c (.int .i64 a)),(7,.c (.int .i64 b))],[],[(128000000,.box [.int .i64 e,.int .i64 j,.int .i64 l,.int .i64 m,.int .i64 o,.int .i64 s,.int .i64 t,.int .i64 u,.int .i64 w,.int .i64 x,.int .i64 y,.int .i64 z,.int .i64 B,.int .i64 C,.int .i64 D,.int .i64 G,.sl 128000001,.int .i64 H,.int .i64 I,.int .i64 J,.int .i64 K,.int .i64 P,.int .i64 N,.int .i64 O,.int .i64 T,.int .i64 S,.int .i64 Q,.sl 128000002,.sl 128000003,.sl 128000004,.sl 128000005,.sl 128000006,.sl 128000007]),(128000001,.row (.int .i64) M),(128000002,.row y19 V),(128000003,.row y27 X),(128000004,.nest y4 W .none),(128000005,.nest y38 U .none),(128000006,.row (.int .i64) aa),(128000007,.row y46 Z),(256000000,.gone)]⟩
noncomputable def l1 ( k:Nat) (v:T1):Option R:=held (run (cs k) (loopN cs k) c1000011 (J1000011 k) (s1 v))
noncomputable def D1 (v:T1):Option R:=lim fun L=>l1 (L 0) v
theorem D1_cn (v:T1):Cn late (D1 v) fun L=>l1 (L 0) v:=of_lim
abbrev T2:Type:=Int × Int × Int × Int × Int × Int × Int × Int × Int × Int × Int × Int × Int × Int × Int × Int × Int × Int × Int × Int × Int × Int × Int × Int × Int × Int × Int × Int × Int × Int × List Int × List (ByteArray × Int) × List (Int × Int × (Int × Int × Int) × Int × Int × Int × Int × Int × Int × Int × Int) × List (List Int) × List (List (Int × Int)) × List Int × List (Int × Int × (Int × Int) × Int × Int)
abbrev Y2:=T2→Option R
noncomputable def s2:T2→St:=fun (a,b,e,j,l,m,o,s,t,u,w,x,y,z,B,C,D,G,H,I,J,K,P,N,O,T,S,Q,M,V,X,W,U,aa,Z,ab,ac)=>⟨48,8,[(0,.c (.ifp 217 128000000 0)),(1,.c (.int .i64 a)),(2,.c (.int .i64 b)),(7,.c (.int .i64 e)),(9,.c (.int .i64 j))],[],[(128000000,.box [.int .i64 l,.int .i64 m,.int .i64 o,.int .i64 s,.int .i64 t,.int .i64 u,.int .i64 w,.int .i64 x,.int .i64 y,.int .i64 z,.int .i64 B,.int .i64 C,.int .i64 D,.int .i64 G,.int .i64 H,.int .i64 I,.sl 128000001,.int .i64 J,.int .i64 K,.int .i64 P,.int .i64 N,.int .i64 O,.int .i64 T,.int .i64 S,.int .i64 Q,.int .i64 M,.int .i64 V,.sl 128000002,.sl 128000003,.sl 128000004,.sl 128000005,.sl 128000006,.sl 128000007]),(128000001,.row (.int .i64) X),(128000002,.row y19 W),(128000003,.row y27 U),(128000004,.nest y4 aa .none),(128000005,.nest y38 Z .none),(128000006,.row (.int .i64) ab),(128000007,.row y46 ac),(256000000,.gone)]⟩
noncomputable def l2 ( k m1:Nat) (v:T2):Option R:=held (run (cs m1) (loopN cs m1) c1000008 (J1000008 k m1) (s2 v))
noncomputable def D2 (v:T2):Option R:=lim fun L=>l2 (L 0) (L 1) v
theorem D2_cn (v:T2):Cn late (D2 v) fun L=>l2 (L 0) (L 1) v:=of_lim
noncomputable def d0 (p0:Y1) (p1:g165.Y) (p2:Y2):Y0:=fun (a,b,e,j,l,m,o,s,t,u,w,x,y,z,B,C,D,G,H,I,J,K,P,N,O,T,S,Q,M,V,X,W,U,aa,Z,ab) =>
br (decide (b ≤ wrap .i64 (wrap .i64 (2 * e) + 1)) || decide (wrap .i64 (wrap .i64 (2 * e) + 1) < 0)) (p0 (a,e,j,l,m,o,s,t,u,w,x,y,z,B,C,D,G,H,I,J,K,P,N,O,T,S,Q,M,V,X,W,U,aa,Z,ab)) (br (decide (wrap .i64 (wrap .i64 (wrap .i64 (2 * e) + 1) + 1) < b) == true) (bnd (p1 (wrap .i64 (wrap .i64 (wrap .i64 (2 * e) + 1) + 1),wrap .i64 (wrap .i64 (2 * e) + 1),j,l,m,o,s,t,u,w,x,y,z,B,C,D,G,H,I,J,K,P,N,O,T,S,Q,M,V,X,W,U,aa,Z,ab)) fun r=>br r.1 (p2 (a,b,e,wrap .i64 (wrap .i64 (wrap .i64 (2 * e) + 1) + 1),r.2.1,r.2.2.1,r.2.2.2.1,r.2.2.2.2.1,r.2.2.2.2.2.1,r.2.2.2.2.2.2.1,r.2.2.2.2.2.2.2.1,r.2.2.2.2.2.2.2.2.1,r.2.2.2.2.2.2.2.2.2.1,r.2.2.2.2.2.2.2.2.2.2.1,r.2.2.2.2.2.2.2.2.2.2.2.1,r.2.2.2.2.2.2.2.2.2.2.2.2.1,r.2.2.2.2.2.2.2.2.2.2.2.2.2.1,r.2.2.2.2.2.2.2.2.2.2.2.2.2.2.1,r.2.2.2.2.2.2.2.2.2.2.2.2.2.2.2.1,r.2.2.2.2.2.2.2.2.2.2.2.2.2.2.2.2.1,r.2.2.2.2.2.2.2.2.2.2.2.2.2.2.2.2.2.1,r.2.2.2.2.2.2.2.2.2.2.2.2.2.2.2.2.2.2.1,r.2.2.2.2.2.2.2.2.2.2.2.2.2.2.2.2.2.2.2.1,r.2.2.2.2.2.2.2.2.2.2.2.2.2.2.2.2.2.2.2.2.1,r.2.2.2.2.2.2.2.2.2.2.2.2.2.2.2.2.2.2.2.2.2.1,r.2.2.2.2.2.2.2.2.2.2.2.2.2.2.2.2.2.2.2.2.2.2.1,r.2.2.2.2.2.2.2.2.2.2.2.2.2.2.2.2.2.2.2.2.2.2.2.1,r.2.2.2.2.2.2.2.2.2.2.2.2.2.2.2.2.2.2.2.2.2.2.2.2.1,r.2.2.2.2.2.2.2.2.2.2.2.2.2.2.2.2.2.2.2.2.2.2.2.2.2.1,r.2.2.2.2.2.2.2.2.2.2.2.2.2.2.2.2.2.2.2.2.2.2.2.2.2.2.1,r.2.2.2.2.2.2.2.2.2.2.2.2.2.2.2.2.2.2.2.2.2.2.2.2.2.2.2.1,r.2.2.2.2.2.2.2.2.2.2.2.2.2.2.2.2.2.2.2.2.2.2.2.2.2.2.2.2.1,r.2.2.2.2.2.2.2.2.2.2.2.2.2.2.2.2.2.2.2.2.2.2.2.2.2.2.2.2.2.1,r.2.2.2.2.2.2.2.2.2.2.2.2.2.2.2.2.2.2.2.2.2.2.2.2.2.2.2.2.2.2.1,r.2.2.2.2.2.2.2.2.2.2.2.2.2.2.2.2.2.2.2.2.2.2.2.2.2.2.2.2.2.2.2.1,r.2.2.2.2.2.2.2.2.2.2.2.2.2.2.2.2.2.2.2.2.2.2.2.2.2.2.2.2.2.2.2.2.1,r.2.2.2.2.2.2.2.2.2.2.2.2.2.2.2.2.2.2.2.2.2.2.2.2.2.2.2.2.2.2.2.2.2)) (p2 (a,b,e,wrap .i64 (wrap .i64 (2 * e) + 1),r.2.1,r.2.2.1,r.2.2.2.1,r.2.2.2.2.1,r.2.2.2.2.2.1,r.2.2.2.2.2.2.1,r.2.2.2.2.2.2.2.1,r.2.2.2.2.2.2.2.2.1,r.2.2.2.2.2.2.2.2.2.1,r.2.2.2.2.2.2.2.2.2.2.1,r.2.2.2.2.2.2.2.2.2.2.2.1,r.2.2.2.2.2.2.2.2.2.2.2.2.1,r.2.2.2.2.2.2.2.2.2.2.2.2.2.1,r.2.2.2.2.2.2.2.2.2.2.2.2.2.2.1,r.2.2.2.2.2.2.2.2.2.2.2.2.2.2.2.1,r.2.2.2.2.2.2.2.2.2.2.2.2.2.2.2.2.1,r.2.2.2.2.2.2.2.2.2.2.2.2.2.2.2.2.2.1,r.2.2.2.2.2.2.2.2.2.2.2.2.2.2.2.2.2.2.1,r.2.2.2.2.2.2.2.2.2.2.2.2.2.2.2.2.2.2.2.1,r.2.2.2.2.2.2.2.2.2.2.2.2.2.2.2.2.2.2.2.2.1,r.2.2.2.2.2.2.2.2.2.2.2.2.2.2.2.2.2.2.2.2.2.1,r.2.2.2.2.2.2.2.2.2.2.2.2.2.2.2.2.2.2.2.2.2.2.1,r.2.2.2.2.2.2.2.2.2.2.2.2.2.2.2.2.2.2.2.2.2.2.2.1,r.2.2.2.2.2.2.2.2.2.2.2.2.2.2.2.2.2.2.2.2.2.2.2.2.1,r.2.2.2.2.2.2.2.2.2.2.2.2.2.2.2.2.2.2.2.2.2.2.2.2.2.1,r.2.2.2.2.2.2.2.2.2.2.2.2.2.2.2.2.2.2.2.2.2.2.2.2.2.2.1,r.2.2.2.2.2.2.2.2.2.2.2.2.2.2.2.2.2.2.2.2.2.2.2.2.2.2.2.1,r.2.2.2.2.2.2.2.2.2.2.2.2.2.2.2.2.2.2.2.2.2.2.2.2.2.2.2.2.1,r.2.2.2.2.2.2.2.2.2.2.2.2.2.2.2.2.2.2.2.2.2.2.2.2.2.2.2.2.2.1,r.2.2.2.2.2.2.2.2.2.2.2.2.2.2.2.2.2.2.2.2.2.2.2.2.2.2.2.2.2.2.1,r.2.2.2.2.2.2.2.2.2.2.2.2.2.2.2.2.2.2.2.2.2.2.2.2.2.2.2.2.2.2.2.1,r.2.2.2.2.2.2.2.2.2.2.2.2.2.2.2.2.2.2.2.2.2.2.2.2.2.2.2.2.2.2.2.2.1,r.2.2.2.2.2.2.2.2.2.2.2.2.2.2.2.2.2.2.2.2.2.2.2.2.2.2.2.2.2.2.2.2.2))) (p2 (a,b,e,wrap .i64 (wrap .i64 (2 * e) + 1),j,l,m,o,s,t,u,w,x,y,z,B,C,D,G,H,I,J,K,P,N,O,T,S,Q,M,V,X,W,U,aa,Z,ab)))
theorem d0_cn (k0:Pr E T1 R) (k1:Pr E g165.A g165.R) (k2:Pr E T2 R):∀ v:T0,Cn E (d0 k0.p k1.p k2.p v) fun i=>d0 (k0.q i) (k1.q i) (k2.q i) v:=fun (a,b,e,j,l,m,o,s,t,u,w,x,y,z,B,C,D,G,H,I,J,K,P,N,O,T,S,Q,M,V,X,W,U,aa,Z,ab)=>(.br (k0.h _) (.br (.bnd (k1.h _) fun _=>(.br (k2.h _) (k2.h _))) (k2.h _)))
theorem l0_b ( k m1:Nat):∀ v:T0,run (cs m1) (loopN cs m1) b2 (kLoop cs m1 b2 (K2 k)) (s0 v) = d0 (l1 k) (g165.f m1) (l2 k m1) v:=fun (a,b,e,j,l,m,o,s,t,u,w,x,y,z,B,C,D,G,H,I,J,K,P,N,O,T,S,Q,M,V,X,W,U,aa,Z,ab)=>by kernel_rfl
theorem D0_of (v:T0) {r:R} (h:d0 D1 g165.F D2 v = some r):D0 v = some r:=loop_of 1 (fun L n hn=>by show l0 (L 0) (L 1) v = _; rw [hn]; exact (held_eq _).trans ((loopN_succ _ _ _ _ _).trans (l0_b (L 0) n v))) (d0_cn (.mk fun v=>(D1_cn v).re [0]) (lp g165.f 1) (.mk fun v=>(D2_cn v).re [0,1]) v) h
def d1:Y1:=fun (a,b,e,j,l,m,o,s,t,u,w,x,y,z,B,C,D,G,H,I,J,K,P,N,O,T,S,Q,M,V,X,W,U,aa,Z) =>
some (decide (a < b),e,j,l,m,o,s,t,u,w,x,y,z,B,C,D,G,H,I,J,K,P,N,O,T,S,Q,M,V,X,W,U,aa,Z)
theorem d1_cn:∀ v:T1,Cn E (d1 v) fun i=>d1 v:=fun (a,b,e,j,l,m,o,s,t,u,w,x,y,z,B,C,D,G,H,I,J,K,P,N,O,T,S,Q,M,V,X,W,U,aa,Z)=>.some
theorem l1_b ( k:Nat):∀ v:T1,run (cs k) (loopN cs k) c1000011 (J1000011 k) (s1 v) = d1 v:=fun (a,b,e,j,l,m,o,s,t,u,w,x,y,z,B,C,D,G,H,I,J,K,P,N,O,T,S,Q,M,V,X,W,U,aa,Z)=>by kernel_rfl
theorem D1_of (v:T1) {r:R} (h:d1 v = some r):D1 v = some r:=join_of (fun L=>(held_eq _).trans (l1_b (L 0) v)) (d1_cn v) h
noncomputable def d2 (p0:g165.Y) (p1:Y1) (p2:g166.Y) (p3:Y0):Y2:=fun (a,b,e,j,l,m,o,s,t,u,w,x,y,z,B,C,D,G,H,I,J,K,P,N,O,T,S,Q,M,V,X,W,U,aa,Z,ab,ac) =>
bnd (p0 (j,e,l,m,o,s,t,u,w,x,y,z,B,C,D,G,H,I,J,K,P,N,O,T,S,Q,M,V,X,W,U,aa,Z,ab,ac)) fun r=>br (!r.1) (p1 (a,e,r.2.1,r.2.2.1,r.2.2.2.1,r.2.2.2.2.1,r.2.2.2.2.2.1,r.2.2.2.2.2.2.1,r.2.2.2.2.2.2.2.1,r.2.2.2.2.2.2.2.2.1,r.2.2.2.2.2.2.2.2.2.1,r.2.2.2.2.2.2.2.2.2.2.1,r.2.2.2.2.2.2.2.2.2.2.2.1,r.2.2.2.2.2.2.2.2.2.2.2.2.1,r.2.2.2.2.2.2.2.2.2.2.2.2.2.1,r.2.2.2.2.2.2.2.2.2.2.2.2.2.2.1,r.2.2.2.2.2.2.2.2.2.2.2.2.2.2.2.1,r.2.2.2.2.2.2.2.2.2.2.2.2.2.2.2.2.1,r.2.2.2.2.2.2.2.2.2.2.2.2.2.2.2.2.2.1,r.2.2.2.2.2.2.2.2.2.2.2.2.2.2.2.2.2.2.1,r.2.2.2.2.2.2.2.2.2.2.2.2.2.2.2.2.2.2.2.1,r.2.2.2.2.2.2.2.2.2.2.2.2.2.2.2.2.2.2.2.2.1,r.2.2.2.2.2.2.2.2.2.2.2.2.2.2.2.2.2.2.2.2.2.1,r.2.2.2.2.2.2.2.2.2.2.2.2.2.2.2.2.2.2.2.2.2.2.1,r.2.2.2.2.2.2.2.2.2.2.2.2.2.2.2.2.2.2.2.2.2.2.2.1,r.2.2.2.2.2.2.2.2.2.2.2.2.2.2.2.2.2.2.2.2.2.2.2.2.1,r.2.2.2.2.2.2.2.2.2.2.2.2.2.2.2.2.2.2.2.2.2.2.2.2.2.1,r.2.2.2.2.2.2.2.2.2.2.2.2.2.2.2.2.2.2.2.2.2.2.2.2.2.2.1,r.2.2.2.2.2.2.2.2.2.2.2.2.2.2.2.2.2.2.2.2.2.2.2.2.2.2.2.1,r.2.2.2.2.2.2.2.2.2.2.2.2.2.2.2.2.2.2.2.2.2.2.2.2.2.2.2.2.1,r.2.2.2.2.2.2.2.2.2.2.2.2.2.2.2.2.2.2.2.2.2.2.2.2.2.2.2.2.2.1,r.2.2.2.2.2.2.2.2.2.2.2.2.2.2.2.2.2.2.2.2.2.2.2.2.2.2.2.2.2.2.1,r.2.2.2.2.2.2.2.2.2.2.2.2.2.2.2.2.2.2.2.2.2.2.2.2.2.2.2.2.2.2.2.1,r.2.2.2.2.2.2.2.2.2.2.2.2.2.2.2.2.2.2.2.2.2.2.2.2.2.2.2.2.2.2.2.2.1,r.2.2.2.2.2.2.2.2.2.2.2.2.2.2.2.2.2.2.2.2.2.2.2.2.2.2.2.2.2.2.2.2.2)) (bnd (p2 (e,j,r.2.1,r.2.2.1,r.2.2.2.1,r.2.2.2.2.1,r.2.2.2.2.2.1,r.2.2.2.2.2.2.1,r.2.2.2.2.2.2.2.1,r.2.2.2.2.2.2.2.2.1,r.2.2.2.2.2.2.2.2.2.1,r.2.2.2.2.2.2.2.2.2.2.1,r.2.2.2.2.2.2.2.2.2.2.2.1,r.2.2.2.2.2.2.2.2.2.2.2.2.1,r.2.2.2.2.2.2.2.2.2.2.2.2.2.1,r.2.2.2.2.2.2.2.2.2.2.2.2.2.2.1,r.2.2.2.2.2.2.2.2.2.2.2.2.2.2.2.1,r.2.2.2.2.2.2.2.2.2.2.2.2.2.2.2.2.1,r.2.2.2.2.2.2.2.2.2.2.2.2.2.2.2.2.2.1,r.2.2.2.2.2.2.2.2.2.2.2.2.2.2.2.2.2.2.1,r.2.2.2.2.2.2.2.2.2.2.2.2.2.2.2.2.2.2.2.1,r.2.2.2.2.2.2.2.2.2.2.2.2.2.2.2.2.2.2.2.2.1,r.2.2.2.2.2.2.2.2.2.2.2.2.2.2.2.2.2.2.2.2.2.1,r.2.2.2.2.2.2.2.2.2.2.2.2.2.2.2.2.2.2.2.2.2.2.1,r.2.2.2.2.2.2.2.2.2.2.2.2.2.2.2.2.2.2.2.2.2.2.2.1,r.2.2.2.2.2.2.2.2.2.2.2.2.2.2.2.2.2.2.2.2.2.2.2.2.1,r.2.2.2.2.2.2.2.2.2.2.2.2.2.2.2.2.2.2.2.2.2.2.2.2.2.1,r.2.2.2.2.2.2.2.2.2.2.2.2.2.2.2.2.2.2.2.2.2.2.2.2.2.2.1,r.2.2.2.2.2.2.2.2.2.2.2.2.2.2.2.2.2.2.2.2.2.2.2.2.2.2.2.1,r.2.2.2.2.2.2.2.2.2.2.2.2.2.2.2.2.2.2.2.2.2.2.2.2.2.2.2.2.1,r.2.2.2.2.2.2.2.2.2.2.2.2.2.2.2.2.2.2.2.2.2.2.2.2.2.2.2.2.2.1,r.2.2.2.2.2.2.2.2.2.2.2.2.2.2.2.2.2.2.2.2.2.2.2.2.2.2.2.2.2.2.1,r.2.2.2.2.2.2.2.2.2.2.2.2.2.2.2.2.2.2.2.2.2.2.2.2.2.2.2.2.2.2.2.1,r.2.2.2.2.2.2.2.2.2.2.2.2.2.2.2.2.2.2.2.2.2.2.2.2.2.2.2.2.2.2.2.2.1,r.2.2.2.2.2.2.2.2.2.2.2.2.2.2.2.2.2.2.2.2.2.2.2.2.2.2.2.2.2.2.2.2.2)) fun r=>p3 (a,b,j,r.1,r.2.1,r.2.2.1,r.2.2.2.1,r.2.2.2.2.1,r.2.2.2.2.2.1,r.2.2.2.2.2.2.1,r.2.2.2.2.2.2.2.1,r.2.2.2.2.2.2.2.2.1,r.2.2.2.2.2.2.2.2.2.1,r.2.2.2.2.2.2.2.2.2.2.1,r.2.2.2.2.2.2.2.2.2.2.2.1,r.2.2.2.2.2.2.2.2.2.2.2.2.1,r.2.2.2.2.2.2.2.2.2.2.2.2.2.1,r.2.2.2.2.2.2.2.2.2.2.2.2.2.2.1,r.2.2.2.2.2.2.2.2.2.2.2.2.2.2.2.1,r.2.2.2.2.2.2.2.2.2.2.2.2.2.2.2.2.1,r.2.2.2.2.2.2.2.2.2.2.2.2.2.2.2.2.2.1,r.2.2.2.2.2.2.2.2.2.2.2.2.2.2.2.2.2.2.1,r.2.2.2.2.2.2.2.2.2.2.2.2.2.2.2.2.2.2.2.1,r.2.2.2.2.2.2.2.2.2.2.2.2.2.2.2.2.2.2.2.2.1,r.2.2.2.2.2.2.2.2.2.2.2.2.2.2.2.2.2.2.2.2.2.1,r.2.2.2.2.2.2.2.2.2.2.2.2.2.2.2.2.2.2.2.2.2.2.1,r.2.2.2.2.2.2.2.2.2.2.2.2.2.2.2.2.2.2.2.2.2.2.2.1,r.2.2.2.2.2.2.2.2.2.2.2.2.2.2.2.2.2.2.2.2.2.2.2.2.1,r.2.2.2.2.2.2.2.2.2.2.2.2.2.2.2.2.2.2.2.2.2.2.2.2.2.1,r.2.2.2.2.2.2.2.2.2.2.2.2.2.2.2.2.2.2.2.2.2.2.2.2.2.2.1,r.2.2.2.2.2.2.2.2.2.2.2.2.2.2.2.2.2.2.2.2.2.2.2.2.2.2.2.1,r.2.2.2.2.2.2.2.2.2.2.2.2.2.2.2.2.2.2.2.2.2.2.2.2.2.2.2.2.1,r.2.2.2.2.2.2.2.2.2.2.2.2.2.2.2.2.2.2.2.2.2.2.2.2.2.2.2.2.2.1,r.2.2.2.2.2.2.2.2.2.2.2.2.2.2.2.2.2.2.2.2.2.2.2.2.2.2.2.2.2.2.1,r.2.2.2.2.2.2.2.2.2.2.2.2.2.2.2.2.2.2.2.2.2.2.2.2.2.2.2.2.2.2.2.1,r.2.2.2.2.2.2.2.2.2.2.2.2.2.2.2.2.2.2.2.2.2.2.2.2.2.2.2.2.2.2.2.2))
theorem d2_cn (k0:Pr E g165.A g165.R) (k1:Pr E T1 R) (k2:Pr E g166.A g166.R) (k3:Pr E T0 R):∀ v:T2,Cn E (d2 k0.p k1.p k2.p k3.p v) fun i=>d2 (k0.q i) (k1.q i) (k2.q i) (k3.q i) v:=fun (a,b,e,j,l,m,o,s,t,u,w,x,y,z,B,C,D,G,H,I,J,K,P,N,O,T,S,Q,M,V,X,W,U,aa,Z,ab,ac)=>(.bnd (k0.h _) fun _=>(.br (k1.h _) (.bnd (k2.h _) fun _=>(k3.h _))))
theorem l2_b ( k m1:Nat):∀ v:T2,run (cs m1) (loopN cs m1) c1000008 (J1000008 k m1) (s2 v) = d2 (g165.f m1) (l1 k) (g166.f m1) (l0 k m1) v:=fun (a,b,e,j,l,m,o,s,t,u,w,x,y,z,B,C,D,G,H,I,J,K,P,N,O,T,S,Q,M,V,X,W,U,aa,Z,ab,ac)=>by kernel_rfl
theorem D2_of (v:T2) {r:R} (h:d2 g165.F D1 g166.F D0 v = some r):D2 v = some r:=join_of (fun L=>(held_eq _).trans (l2_b (L 0) (L 1) v)) (d2_cn (lp g165.f 1) (.mk fun v=>(D1_cn v).re [0]) (lp g166.f 1) (.mk fun v=>(D0_cn v).re [0,1]) v) h
noncomputable def f (k:Nat):Y:=fun v=>held (runFn cs k Tryz.f162 (sh.args v) (sh.slots v) dec)
noncomputable def F:Y:=lm f
def d (p0:Y0):Y:=fun (a,b,e,j,l,m,o,s,t,u,w,x,y,z,B,C,D,G,H,I,J,K,P,N,O,T,S,Q,M,V,X,W,U,aa,Z) =>
p0 (a,b,a,e,j,l,m,o,s,t,u,w,x,y,z,B,C,D,G,H,I,J,K,P,N,O,T,S,Q,M,V,X,W,U,aa,Z)
theorem d_cn (k0:Pr E T0 R):∀ v:A,Cn E (d k0.p v) fun i=>d (k0.q i) v:=fun (a,b,e,j,l,m,o,s,t,u,w,x,y,z,B,C,D,G,H,I,J,K,P,N,O,T,S,Q,M,V,X,W,U,aa,Z)=>(k0.h _)
theorem f_b (k:Nat):∀ v:A,f k v = d (l0 k k) v:=fun (a,b,e,j,l,m,o,s,t,u,w,x,y,z,B,C,D,G,H,I,J,K,P,N,O,T,S,Q,M,V,X,W,U,aa,Z)=>(held_eq _).trans (by kernel_rfl)
theorem F_of (v:A) {r:R} (h:d D0 v = some r):F v = some r:=join_of (fun L=>f_b (L 0) v) (d_cn (.mk fun v=>(D0_cn v).re [0,0]) v) h
noncomputable def spec (k:Nat):List AV→List Slot→Option Ans:=specS sh os (f k)
theorem spec_ok (k:Nat):SpecOk Tryz.prog 162 (spec k):=specS_ok cs_ok Tryz.func162 rfl rfl (fun _ _=>held_eq _) k
end g169
noncomputable def tg169:=tg168.cons 162 g169.spec g169.spec_ok
namespace g170 -- plan_queue_Pop
abbrev R:Type:=(Int × Int × (Int × Int) × Int × Int) × Int × Int × Int × Int × Int × Int × Int × Int × Int × Int × Int × Int × Int × Int × Int × Int × Int × Int × Int × Int × Int × Int × Int × Int × Int × Int × Int × Int × List Int × List (ByteArray × Int) × List (Int × Int × (Int × Int × Int) × Int × Int × Int × Int × Int × Int × Int × Int) × List (List Int) × List (List (Int × Int)) × List Int × List (Int × Int × (Int × Int) × Int × Int)
abbrev A:Type:=Int × Int × Int × Int × Int × Int × Int × Int × Int × Int × Int × Int × Int × Int × Int × Int × Int × Int × Int × Int × Int × Int × Int × Int × Int × Int × List Int × List (ByteArray × Int) × List (Int × Int × (Int × Int × Int) × Int × Int × Int × Int × Int × Int × Int × Int) × List (List Int) × List (List (Int × Int)) × List Int × List (Int × Int × (Int × Int) × Int × Int)
abbrev Y:=A→Option R
def lv:List (Nat × List Nat):=[(2000000,[2])]
noncomputable def cs:Nat→Ctx:=ctxOf tis modes tg169.1 lv
theorem cs_ok (n:Nat):CtxOk Tryz.prog (cs n):=ctxOf_ok rfl tis_ok tg169.2 n
noncomputable def sh:AS:=⟨[(.c (.ptr 128000000 0))],[.box [.int .i64,.int .i64,.int .i64,.int .i64,.int .i64,.int .i64,.int .i64,.int .i64,.int .i64,.int .i64,.int .i64,.int .i64,.int .i64,.int .i64,.int .i64,.int .i64,.sl 128000001,.int .i64,.int .i64,.int .i64,.int .i64,.int .i64,.int .i64,.int .i64,.int .i64,.int .i64,.int .i64,.sl 128000002,.sl 128000003,.sl 128000004,.sl 128000005,.sl 128000006,.sl 128000007],.row (.int .i64),.row y19,.row y27,.nest y4,.nest y38,.row (.int .i64),.row y46]⟩
def os:OS:=⟨.c (.ifd 96 .true y46),[.box [.int .i64,.int .i64,.int .i64,.int .i64,.int .i64,.int .i64,.int .i64,.int .i64,.int .i64,.int .i64,.int .i64,.int .i64,.int .i64,.int .i64,.int .i64,.int .i64,.sl 128000001,.int .i64,.int .i64,.int .i64,.int .i64,.int .i64,.int .i64,.int .i64,.int .i64,.int .i64,.int .i64,.sl 128000002,.sl 128000003,.sl 128000004,.sl 128000005,.sl 128000006,.sub 128000007],.row (.int .i64),.row y19,.row y27,.nest y4,.nest y38,.row (.int .i64),.row y46]⟩
def enc (r:R):Out:=os.enc r
def dec:Out→Option R:=os.dec
noncomputable def b0:Code:=subF [] Tryz.f242
noncomputable def K0 (k:Nat):Kt R:=kTop (cs k) Tryz.f242 dec
noncomputable def f (k:Nat):Y:=fun v=>held (runFn cs k Tryz.f242 (sh.args v) (sh.slots v) dec)
noncomputable def F:Y:=lm f
noncomputable def d:Y:=fun (a,b,e,j,l,m,o,s,t,u,w,x,y,z,B,C,D,G,H,I,J,K,P,N,O,T,S,Q,M,V,X,W,U) =>
br (decide (0 ≤ wrap .i64 ((↑U.length:Int) - 1) ∧ wrap .i64 ((↑U.length:Int) - 1) < (↑U.length:Int))) (br (decide (0 ≤ wrap .i64 ((↑U.length:Int) - 1) ∧ wrap .i64 ((↑U.length:Int) - 1) ≤ (↑U.length:Int))) (some (((rd ty1 U (wrap .i64 ((↑U.length:Int) - 1))).1,(rd ty1 U (wrap .i64 ((↑U.length:Int) - 1))).2.1,((rd ty1 U (wrap .i64 ((↑U.length:Int) - 1))).2.2.1.1,(rd ty1 U (wrap .i64 ((↑U.length:Int) - 1))).2.2.1.2),(rd ty1 U (wrap .i64 ((↑U.length:Int) - 1))).2.2.2.1,(rd ty1 U (wrap .i64 ((↑U.length:Int) - 1))).2.2.2.2),a,b,e,j,l,m,o,s,t,u,w,x,y,z,B,C,D,G,H,I,J,K,P,N,O,T,0,wrap .i64 ((↑U.length:Int) - 1),S,Q,M,V,X,W,U)) none) none
theorem d_cn:∀ v:A,Cn E (d v) fun i=>d v:=fun (a,b,e,j,l,m,o,s,t,u,w,x,y,z,B,C,D,G,H,I,J,K,P,N,O,T,S,Q,M,V,X,W,U)=>(.br (.br .some .none) .none)
theorem f_b (k:Nat):∀ v:A,f k v = d v:=fun (a,b,e,j,l,m,o,s,t,u,w,x,y,z,B,C,D,G,H,I,J,K,P,N,O,T,S,Q,M,V,X,W,U)=>(held_eq _).trans (by kernel_rfl)
theorem F_of (v:A) {r:R} (h:d v = some r):F v = some r:=join_of (fun L=>f_b (L 0) v) (d_cn v) h
noncomputable def spec (k:Nat):List AV→List Slot→Option Ans:=specS sh os (f k)
theorem spec_ok (k:Nat):SpecOk Tryz.prog 242 (spec k):=specS_ok cs_ok Tryz.func242 rfl rfl (fun _ _=>held_eq _) k
end g170
noncomputable def tg170:=tg169.cons 242 g170.spec g170.spec_ok
namespace g171 -- heap_Pop
abbrev R:Type:=(Int × Int × (Int × Int) × Int × Int) × Int × Int × Int × Int × Int × Int × Int × Int × Int × Int × Int × Int × Int × Int × Int × Int × Int × Int × Int × Int × Int × Int × Int × Int × Int × Int × Int × Int × List Int × List (ByteArray × Int) × List (Int × Int × (Int × Int × Int) × Int × Int × Int × Int × Int × Int × Int × Int) × List (List Int) × List (List (Int × Int)) × List Int × List (Int × Int × (Int × Int) × Int × Int)
abbrev A:Type:=Int × Int × Int × Int × Int × Int × Int × Int × Int × Int × Int × Int × Int × Int × Int × Int × Int × Int × Int × Int × Int × Int × Int × Int × Int × Int × List Int × List (ByteArray × Int) × List (Int × Int × (Int × Int × Int) × Int × Int × Int × Int × Int × Int × Int × Int) × List (List Int) × List (List (Int × Int)) × List Int × List (Int × Int × (Int × Int) × Int × Int)
abbrev Y:=A→Option R
def lv:List (Nat × List Nat):=[(2000000,[2])]
noncomputable def cs:Nat→Ctx:=ctxOf tis modes tg170.1 lv
theorem cs_ok (n:Nat):CtxOk Tryz.prog (cs n):=ctxOf_ok rfl tis_ok tg170.2 n
noncomputable def sh:AS:=⟨[(.c (.ifp 217 128000000 0))],[.box [.int .i64,.int .i64,.int .i64,.int .i64,.int .i64,.int .i64,.int .i64,.int .i64,.int .i64,.int .i64,.int .i64,.int .i64,.int .i64,.int .i64,.int .i64,.int .i64,.sl 128000001,.int .i64,.int .i64,.int .i64,.int .i64,.int .i64,.int .i64,.int .i64,.int .i64,.int .i64,.int .i64,.sl 128000002,.sl 128000003,.sl 128000004,.sl 128000005,.sl 128000006,.sl 128000007],.row (.int .i64),.row y19,.row y27,.nest y4,.nest y38,.row (.int .i64),.row y46]⟩
def os:OS:=⟨.c (.ifd 96 .true y46),[.box [.int .i64,.int .i64,.int .i64,.int .i64,.int .i64,.int .i64,.int .i64,.int .i64,.int .i64,.int .i64,.int .i64,.int .i64,.int .i64,.int .i64,.int .i64,.int .i64,.sl 128000001,.int .i64,.int .i64,.int .i64,.int .i64,.int .i64,.int .i64,.int .i64,.int .i64,.int .i64,.int .i64,.sl 128000002,.sl 128000003,.sl 128000004,.sl 128000005,.sl 128000006,.sub 128000007],.row (.int .i64),.row y19,.row y27,.nest y4,.nest y38,.row (.int .i64),.row y46]⟩
def enc (r:R):Out:=os.enc r
def dec:Out→Option R:=os.dec
noncomputable def b0:Code:=subF [] Tryz.f114
noncomputable def K0 (k:Nat):Kt R:=kTop (cs k) Tryz.f114 dec
noncomputable def f (k:Nat):Y:=fun v=>held (runFn cs k Tryz.f114 (sh.args v) (sh.slots v) dec)
noncomputable def F:Y:=lm f
noncomputable def d (p0:g163.Y) (p1:g166.Y) (p2:g169.Y) (p3:g170.Y):Y:=fun (a,b,e,j,l,m,o,s,t,u,w,x,y,z,B,C,D,G,H,I,J,K,P,N,O,T,S,Q,M,V,X,W,U) =>
bnd (p0 (a,b,e,j,l,m,o,s,t,u,w,x,y,z,B,C,D,G,H,I,J,K,P,N,O,T,S,Q,M,V,X,W,U)) fun r=>bnd (p1 (0,wrap .i64 (r.1 - 1),r.2.1,r.2.2.1,r.2.2.2.1,r.2.2.2.2.1,r.2.2.2.2.2.1,r.2.2.2.2.2.2.1,r.2.2.2.2.2.2.2.1,r.2.2.2.2.2.2.2.2.1,r.2.2.2.2.2.2.2.2.2.1,r.2.2.2.2.2.2.2.2.2.2.1,r.2.2.2.2.2.2.2.2.2.2.2.1,r.2.2.2.2.2.2.2.2.2.2.2.2.1,r.2.2.2.2.2.2.2.2.2.2.2.2.2.1,r.2.2.2.2.2.2.2.2.2.2.2.2.2.2.1,r.2.2.2.2.2.2.2.2.2.2.2.2.2.2.2.1,r.2.2.2.2.2.2.2.2.2.2.2.2.2.2.2.2.1,r.2.2.2.2.2.2.2.2.2.2.2.2.2.2.2.2.2.1,r.2.2.2.2.2.2.2.2.2.2.2.2.2.2.2.2.2.2.1,r.2.2.2.2.2.2.2.2.2.2.2.2.2.2.2.2.2.2.2.1,r.2.2.2.2.2.2.2.2.2.2.2.2.2.2.2.2.2.2.2.2.1,r.2.2.2.2.2.2.2.2.2.2.2.2.2.2.2.2.2.2.2.2.2.1,r.2.2.2.2.2.2.2.2.2.2.2.2.2.2.2.2.2.2.2.2.2.2.1,r.2.2.2.2.2.2.2.2.2.2.2.2.2.2.2.2.2.2.2.2.2.2.2.1,r.2.2.2.2.2.2.2.2.2.2.2.2.2.2.2.2.2.2.2.2.2.2.2.2.1,r.2.2.2.2.2.2.2.2.2.2.2.2.2.2.2.2.2.2.2.2.2.2.2.2.2.1,r.2.2.2.2.2.2.2.2.2.2.2.2.2.2.2.2.2.2.2.2.2.2.2.2.2.2.1,r.2.2.2.2.2.2.2.2.2.2.2.2.2.2.2.2.2.2.2.2.2.2.2.2.2.2.2.1,r.2.2.2.2.2.2.2.2.2.2.2.2.2.2.2.2.2.2.2.2.2.2.2.2.2.2.2.2.1,r.2.2.2.2.2.2.2.2.2.2.2.2.2.2.2.2.2.2.2.2.2.2.2.2.2.2.2.2.2.1,r.2.2.2.2.2.2.2.2.2.2.2.2.2.2.2.2.2.2.2.2.2.2.2.2.2.2.2.2.2.2.1,r.2.2.2.2.2.2.2.2.2.2.2.2.2.2.2.2.2.2.2.2.2.2.2.2.2.2.2.2.2.2.2.1,r.2.2.2.2.2.2.2.2.2.2.2.2.2.2.2.2.2.2.2.2.2.2.2.2.2.2.2.2.2.2.2.2.1,r.2.2.2.2.2.2.2.2.2.2.2.2.2.2.2.2.2.2.2.2.2.2.2.2.2.2.2.2.2.2.2.2.2)) fun r_1=>bnd (p2 (0,wrap .i64 (r.1 - 1),r_1.1,r_1.2.1,r_1.2.2.1,r_1.2.2.2.1,r_1.2.2.2.2.1,r_1.2.2.2.2.2.1,r_1.2.2.2.2.2.2.1,r_1.2.2.2.2.2.2.2.1,r_1.2.2.2.2.2.2.2.2.1,r_1.2.2.2.2.2.2.2.2.2.1,r_1.2.2.2.2.2.2.2.2.2.2.1,r_1.2.2.2.2.2.2.2.2.2.2.2.1,r_1.2.2.2.2.2.2.2.2.2.2.2.2.1,r_1.2.2.2.2.2.2.2.2.2.2.2.2.2.1,r_1.2.2.2.2.2.2.2.2.2.2.2.2.2.2.1,r_1.2.2.2.2.2.2.2.2.2.2.2.2.2.2.2.1,r_1.2.2.2.2.2.2.2.2.2.2.2.2.2.2.2.2.1,r_1.2.2.2.2.2.2.2.2.2.2.2.2.2.2.2.2.2.1,r_1.2.2.2.2.2.2.2.2.2.2.2.2.2.2.2.2.2.2.1,r_1.2.2.2.2.2.2.2.2.2.2.2.2.2.2.2.2.2.2.2.1,r_1.2.2.2.2.2.2.2.2.2.2.2.2.2.2.2.2.2.2.2.2.1,r_1.2.2.2.2.2.2.2.2.2.2.2.2.2.2.2.2.2.2.2.2.2.1,r_1.2.2.2.2.2.2.2.2.2.2.2.2.2.2.2.2.2.2.2.2.2.2.1,r_1.2.2.2.2.2.2.2.2.2.2.2.2.2.2.2.2.2.2.2.2.2.2.2.1,r_1.2.2.2.2.2.2.2.2.2.2.2.2.2.2.2.2.2.2.2.2.2.2.2.2.1,r_1.2.2.2.2.2.2.2.2.2.2.2.2.2.2.2.2.2.2.2.2.2.2.2.2.2.1,r_1.2.2.2.2.2.2.2.2.2.2.2.2.2.2.2.2.2.2.2.2.2.2.2.2.2.2.1,r_1.2.2.2.2.2.2.2.2.2.2.2.2.2.2.2.2.2.2.2.2.2.2.2.2.2.2.2.1,r_1.2.2.2.2.2.2.2.2.2.2.2.2.2.2.2.2.2.2.2.2.2.2.2.2.2.2.2.2.1,r_1.2.2.2.2.2.2.2.2.2.2.2.2.2.2.2.2.2.2.2.2.2.2.2.2.2.2.2.2.2.1,r_1.2.2.2.2.2.2.2.2.2.2.2.2.2.2.2.2.2.2.2.2.2.2.2.2.2.2.2.2.2.2.1,r_1.2.2.2.2.2.2.2.2.2.2.2.2.2.2.2.2.2.2.2.2.2.2.2.2.2.2.2.2.2.2.2.1,r_1.2.2.2.2.2.2.2.2.2.2.2.2.2.2.2.2.2.2.2.2.2.2.2.2.2.2.2.2.2.2.2.2)) fun r=>bnd (p3 (r.2.1,r.2.2.1,r.2.2.2.1,r.2.2.2.2.1,r.2.2.2.2.2.1,r.2.2.2.2.2.2.1,r.2.2.2.2.2.2.2.1,r.2.2.2.2.2.2.2.2.1,r.2.2.2.2.2.2.2.2.2.1,r.2.2.2.2.2.2.2.2.2.2.1,r.2.2.2.2.2.2.2.2.2.2.2.1,r.2.2.2.2.2.2.2.2.2.2.2.2.1,r.2.2.2.2.2.2.2.2.2.2.2.2.2.1,r.2.2.2.2.2.2.2.2.2.2.2.2.2.2.1,r.2.2.2.2.2.2.2.2.2.2.2.2.2.2.2.1,r.2.2.2.2.2.2.2.2.2.2.2.2.2.2.2.2.1,r.2.2.2.2.2.2.2.2.2.2.2.2.2.2.2.2.2.1,r.2.2.2.2.2.2.2.2.2.2.2.2.2.2.2.2.2.2.1,r.2.2.2.2.2.2.2.2.2.2.2.2.2.2.2.2.2.2.2.1,r.2.2.2.2.2.2.2.2.2.2.2.2.2.2.2.2.2.2.2.2.1,r.2.2.2.2.2.2.2.2.2.2.2.2.2.2.2.2.2.2.2.2.2.1,r.2.2.2.2.2.2.2.2.2.2.2.2.2.2.2.2.2.2.2.2.2.2.1,r.2.2.2.2.2.2.2.2.2.2.2.2.2.2.2.2.2.2.2.2.2.2.2.1,r.2.2.2.2.2.2.2.2.2.2.2.2.2.2.2.2.2.2.2.2.2.2.2.2.1,r.2.2.2.2.2.2.2.2.2.2.2.2.2.2.2.2.2.2.2.2.2.2.2.2.2.1,r.2.2.2.2.2.2.2.2.2.2.2.2.2.2.2.2.2.2.2.2.2.2.2.2.2.2.1,r.2.2.2.2.2.2.2.2.2.2.2.2.2.2.2.2.2.2.2.2.2.2.2.2.2.2.2.1,r.2.2.2.2.2.2.2.2.2.2.2.2.2.2.2.2.2.2.2.2.2.2.2.2.2.2.2.2.1,r.2.2.2.2.2.2.2.2.2.2.2.2.2.2.2.2.2.2.2.2.2.2.2.2.2.2.2.2.2.1,r.2.2.2.2.2.2.2.2.2.2.2.2.2.2.2.2.2.2.2.2.2.2.2.2.2.2.2.2.2.2.1,r.2.2.2.2.2.2.2.2.2.2.2.2.2.2.2.2.2.2.2.2.2.2.2.2.2.2.2.2.2.2.2.1,r.2.2.2.2.2.2.2.2.2.2.2.2.2.2.2.2.2.2.2.2.2.2.2.2.2.2.2.2.2.2.2.2.1,r.2.2.2.2.2.2.2.2.2.2.2.2.2.2.2.2.2.2.2.2.2.2.2.2.2.2.2.2.2.2.2.2.2)) fun r=>some (r.1,r.2.1,r.2.2.1,r.2.2.2.1,r.2.2.2.2.1,r.2.2.2.2.2.1,r.2.2.2.2.2.2.1,r.2.2.2.2.2.2.2.1,r.2.2.2.2.2.2.2.2.1,r.2.2.2.2.2.2.2.2.2.1,r.2.2.2.2.2.2.2.2.2.2.1,r.2.2.2.2.2.2.2.2.2.2.2.1,r.2.2.2.2.2.2.2.2.2.2.2.2.1,r.2.2.2.2.2.2.2.2.2.2.2.2.2.1,r.2.2.2.2.2.2.2.2.2.2.2.2.2.2.1,r.2.2.2.2.2.2.2.2.2.2.2.2.2.2.2.1,r.2.2.2.2.2.2.2.2.2.2.2.2.2.2.2.2.1,r.2.2.2.2.2.2.2.2.2.2.2.2.2.2.2.2.2.1,r.2.2.2.2.2.2.2.2.2.2.2.2.2.2.2.2.2.2.1,r.2.2.2.2.2.2.2.2.2.2.2.2.2.2.2.2.2.2.2.1,r.2.2.2.2.2.2.2.2.2.2.2.2.2.2.2.2.2.2.2.2.1,r.2.2.2.2.2.2.2.2.2.2.2.2.2.2.2.2.2.2.2.2.2.1,r.2.2.2.2.2.2.2.2.2.2.2.2.2.2.2.2.2.2.2.2.2.2.1,r.2.2.2.2.2.2.2.2.2.2.2.2.2.2.2.2.2.2.2.2.2.2.2.1,r.2.2.2.2.2.2.2.2.2.2.2.2.2.2.2.2.2.2.2.2.2.2.2.2.1,r.2.2.2.2.2.2.2.2.2.2.2.2.2.2.2.2.2.2.2.2.2.2.2.2.2.1,r.2.2.2.2.2.2.2.2.2.2.2.2.2.2.2.2.2.2.2.2.2.2.2.2.2.2.1,r.2.2.2.2.2.2.2.2.2.2.2.2.2.2.2.2.2.2.2.2.2.2.2.2.2.2.2.1,r.2.2.2.2.2.2.2.2.2.2.2.2.2.2.2.2.2.2.2.2.2.2.2.2.2.2.2.2.1,r.2.2.2.2.2.2.2.2.2.2.2.2.2.2.2.2.2.2.2.2.2.2.2.2.2.2.2.2.2.1,r.2.2.2.2.2.2.2.2.2.2.2.2.2.2.2.2.2.2.2.2.2.2.2.2.2.2.2.2.2.2.1,r.2.2.2.2.2.2.2.2.2.2.2.2.2.2.2.2.2.2.2.2.2.2.2.2.2.2.2.2.2.2.2.1,r.2.2.2.2.2.2.2.2.2.2.2.2.2.2.2.2.2.2.2.2.2.2.2.2.2.2.2.2.2.2.2.2.1,r.2.2.2.2.2.2.2.2.2.2.2.2.2.2.2.2.2.2.2.2.2.2.2.2.2.2.2.2.2.2.2.2.2.1,r.2.2.2.2.2.2.2.2.2.2.2.2.2.2.2.2.2.2.2.2.2.2.2.2.2.2.2.2.2.2.2.2.2.2.1,r.2.2.2.2.2.2.2.2.2.2.2.2.2.2.2.2.2.2.2.2.2.2.2.2.2.2.2.2.2.2.2.2.2.2.2)
theorem d_cn (k0:Pr E g163.A g163.R) (k1:Pr E g166.A g166.R) (k2:Pr E g169.A g169.R) (k3:Pr E g170.A g170.R):∀ v:A,Cn E (d k0.p k1.p k2.p k3.p v) fun i=>d (k0.q i) (k1.q i) (k2.q i) (k3.q i) v:=fun (a,b,e,j,l,m,o,s,t,u,w,x,y,z,B,C,D,G,H,I,J,K,P,N,O,T,S,Q,M,V,X,W,U)=>(.bnd (k0.h _) fun _=>(.bnd (k1.h _) fun _=>(.bnd (k2.h _) fun _=>(.bnd (k3.h _) fun _=>.some))))
theorem f_b (k:Nat):∀ v:A,f k v = d (g163.f k) (g166.f k) (g169.f k) (g170.f k) v:=fun (a,b,e,j,l,m,o,s,t,u,w,x,y,z,B,C,D,G,H,I,J,K,P,N,O,T,S,Q,M,V,X,W,U)=>(held_eq _).trans (by kernel_rfl)
theorem F_of (v:A) {r:R} (h:d g163.F g166.F g169.F g170.F v = some r):F v = some r:=join_of (fun L=>f_b (L 0) v) (d_cn (lp g163.f 0) (lp g166.f 0) (lp g169.f 0) (lp g170.f 0) v) h
noncomputable def spec (k:Nat):List AV→List Slot→Option Ans:=specS sh os (f k)
theorem spec_ok (k:Nat):SpecOk Tryz.prog 114 (spec k):=specS_ok cs_ok Tryz.func114 rfl rfl (fun _ _=>held_eq _) k
end g171
noncomputable def tg171:=tg170.cons 114 g171.spec g171.spec_ok
namespace g172 -- plan_Desk_choose
abbrev R:Type:=Int × Int × Int × Int × Int × Int × Bool × List Int × List (ByteArray × Int) × List (Int × Int × (Int × Int × Int) × Int × Int × Int × Int × Int × Int × Int × Int) × List (List Int) × List (List (Int × Int))
abbrev A:Type:=Int × Int × Int × Int × Int × Int × Int × Int × Int × Int × Int × Int × Int × Int × Int × Int × Int × Int × Int × Int × Int × Int × Int × Int × Int × Int × Int × Int × Int × List (List Int) × List Int × List (ByteArray × Int) × List (Int × Int × (Int × Int × Int) × Int × Int × Int × Int × Int × Int × Int × Int) × List (List Int) × List (List (Int × Int))
abbrev Y:=A→Option R
def lv:List (Nat × List Nat):=[(2000000,[4,5]),(3,[2,3,4,6,20,21]),(1000008,[2,3,4,6,20,21])]
noncomputable def cs:Nat→Ctx:=ctxOf tis modes tg171.1 lv
theorem cs_ok (n:Nat):CtxOk Tryz.prog (cs n):=ctxOf_ok rfl tis_ok tg171.2 n
noncomputable def sh:AS:=⟨[.agg [.int .i64,.int .i64,.int .i64,.int .i64,.int .i64,.int .i64,.int .i64,.int .i64,.int .i64,.int .i64,.int .i64,.int .i64,.int .i64,.int .i64,.int .i64,.int .i64,.sl 128000000,.int .i64,.int .i64,.int .i64,.int .i64,.int .i64,.int .i64,.int .i64,.int .i64,.int .i64,.int .i64,.sl 128000001,.sl 128000002,.sl 128000003,.sl 128000004],.agg [.int .i64,.int .i64,.int .i64,.frz y4]],[.row (.int .i64),.row y19,.row y27,.nest y4,.nest y38]⟩
def os:OS:=⟨.tup [.agg [.int .i64,.int .i64,.int .i64,.int .i64,.int .i64,.int .i64],.c .bool],[.row (.int .i64),.row y19,.row y27,.nest y4,.nest y38]⟩
def enc (r:R):Out:=os.enc r
def dec:Out→Option R:=os.dec
noncomputable def b0:Code:=subF [] Tryz.f86
noncomputable def K0 (k:Nat):Kt R:=kTop (cs k) Tryz.f86 dec
noncomputable def b3:Code:=sub [1,1,0,1,0,0] b0
noncomputable def K3 ( k:Nat):Kt R:=kAt (cs k) (loopN cs k) [1,1,0,1,0] b0 (K0 k)
noncomputable def c1000008:Code:=sub [1,1,1] b3
noncomputable def J1000008 ( k m1:Nat):Kt R:=kAt (cs m1) (loopN cs m1) [1,1,1] b3 (kLoop cs m1 b3 (K3 k))
abbrev T0:Type:=Int × Int × List Int × List (ByteArray × Int) × List (Int × Int × (Int × Int × Int) × Int × Int × Int × Int × Int × Int × Int × Int) × List (List Int) × List (List (Int × Int)) × Int × Int × Int × Int × Int × Int × Int × Int × Int × Int × Int × Int × Int × Int × Int × Int × Int × Int × Int × Int × Int × Int × Int × Int × Int × Int × Int × Int × Int × List (List Int) × Int × Int × Int × Int × Int × Int × Int × Int × Int × Int × Int × Int × Int × Int × Int × Int × Int × Int × Int × Int × Int × Int × Int × Int × Int × Int × Int × Int × Int × Int × Int × Int × List Int × List (Int × Int × (Int × Int) × Int × Int)
abbrev Y0:=T0→Option R
noncomputable def s0:T0→St:=fun (a,b,e,j,l,m,o,s,t,u,w,x,y,z,B,C,D,G,H,I,J,K,P,N,O,T,S,Q,M,V,X,W,U,aa,Z,ab,ac,ad,ae,ah,ag,aq,an,ai,ar,ao,aw,ax,ay,az,ba,bb,bc,au,av,aj,ak,al,am,ap,bd,be,bf,bg,bh,bi,bj,bk,bl,bm,af)=>⟨47,5,[(2,.c (.ptr 64000000 0)),(3,.c (.ptr 64000001 0)),(4,.c (.ptr 64000002 0)),(6,.c (.ptr 64000003 0)),(20,.c (.int .i64 a)),(21,.c (.int .i64 b))],[],[(128000000,.row (.int .i64) e),(128000001,.row y19 j),(128000002,.row y27 l),(128000003,.nest y4 m .none),(128000004,.nest y38 o .none),(256000000,.gone),(64000000,.box [.int .i64 s,.int .i64 t,.int .i64 u,.int .i64 w,.int .i64 x,.int .i64 y,.int .i64 z,.int .i64 B,.int .i64 C,.int .i64 D,.int .i64 G,.int .i64 H,.int .i64 I,.int .i64 J,.int .i64 K,.int .i64 P,.sl 128000000,.int .i64 N,.int .i64 O,.int .i64 T,.int .i64 S,.int .i64 Q,.int .i64 M,.int .i64 V,.int .i64 X,.int .i64 W,.int .i64 U,.sl 128000001,.sl 128000002,.sl 128000003,.sl 128000004]),(64000001,.box [.int .i64 aa,.int .i64 Z,.int .i64 ab,.frz y4 ac]),(64000002,.box [.int .i64 ad,.int .i64 ae,.int .i64 ah,.int .i64 ag,.int .i64 aq,.int .i64 an]),(64000003,.box [.int .i64 ai,.int .i64 ar,.int .i64 ao,.int .i64 aw,.int .i64 ax,.int .i64 ay,.int .i64 az,.int .i64 ba,.int .i64 bb,.int .i64 bc,.int .i64 au,.int .i64 av,.int .i64 aj,.int .i64 ak,.int .i64 al,.int .i64 am,.sl 128000000,.int .i64 ap,.int .i64 bd,.int .i64 be,.int .i64 bf,.int .i64 bg,.int .i64 bh,.int .i64 bi,.int .i64 bj,.int .i64 bk,.int .i64 bl,.sl 128000001,.sl 128000002,.sl 128000003,.sl 128000004,.sl 64000004,.sl 64000005]),(64000004,.row (.int .i64) bm),(64000005,.row y46 af)]⟩
noncomputable def l0 ( k n:Nat) (v:T0):Option R:=held (loopN cs n b3 (K3 k) (s0 v))
noncomputable def D0 (v:T0):Option R:=lim fun L=>l0 (L 0) (L 1) v
theorem D0_cn (v:T0):Cn late (D0 v) fun L=>l0 (L 0) (L 1) v:=of_lim
abbrev T1:Type:=Int × Int × List Int × List (ByteArray × Int) × List (Int × Int × (Int × Int × Int) × Int × Int × Int × Int × Int × Int × Int × Int) × List (List Int) × List (List (Int × Int)) × Int × Int × Int × Int × Int × Int × Int × Int × Int × Int × Int × Int × Int × Int × Int × Int × Int × Int × Int × Int × Int × Int × Int × Int × Int × Int × Int × Int × Int × List (List Int) × Int × Int × Int × Int × Int × Int × Int × Int × Int × Int × Int × Int × Int × Int × Int × Int × Int × Int × Int × Int × Int × Int × Int × Int × Int × Int × Int × Int × Int × Int × Int × Int × List Int × List (Int × Int × (Int × Int) × Int × Int)
abbrev Y1:=T1→Option R
noncomputable def s1:T1→St:=fun (a,b,e,j,l,m,o,s,t,u,w,x,y,z,B,C,D,G,H,I,J,K,P,N,O,T,S,Q,M,V,X,W,U,aa,Z,ab,ac,ad,ae,ah,ag,aq,an,ai,ar,ao,aw,ax,ay,az,ba,bb,bc,au,av,aj,ak,al,am,ap,bd,be,bf,bg,bh,bi,bj,bk,bl,bm,af)=>⟨47,5,[(2,.c (.ptr 64000000 0)),(3,.c (.ptr 64000001 0)),(4,.c (.ptr 64000002 0)),(6,.c (.ptr 64000003 0)),(20,.c (.int .i64 a)),(21,.c (.int .i64 b))],[],[(128000000,.row (.int .i64) e),(128000001,.row y19 j),(128000002,.row y27 l),(128000003,.nest y4 m .none),(128000004,.nest y38 o .none),(256000000,.gone),(64000000,.box [.int .i64 s,.int .i64 t,.int .i64 u,.int .i64 w,.int .i64 x,.int .i64 y,.int .i64 z,.int .i64 B,.int .i64 C,.int .i64 D,.int .i64 G,.int .i64 H,.int .i64 I,.int .i64 J,.int .i64 K,.int .i64 P,.sl 128000000,.int .i64 N,.int .i64 O,.int .i64 T,.int .i64 S,.int .i64 Q,.int .i64 M,.int .i64 V,.int .i64 X,.int .i64 W,.int .i64 U,.sl 128000001,.sl 128000002,.sl 128000003,.sl 128000004]),(64000001,.box [.int .i64 aa,.int .i64 Z,.int .i64 ab,.frz y4 ac]),(64000002,.box [.int .i64 ad,.int .i64 ae,.int .i64 ah,.int .i64 ag,.int .i64 aq,.int .i64 an]),(64000003,.box [.int .i64 ai,.int .i64 ar,.int .i64 ao,.int .i64 aw,.int .i64 ax,.int .i64 ay,.int .i64 az,.int .i64 ba,.int .i64 bb,.int .i64 bc,.int .i64 au,.int .i64 av,.int .i64 aj,.int .i64 ak,.int .i64 al,.int .i64 am,.sl 128000000,.int .i64 ap,.int .i64 bd,.int .i64 be,.int .i64 bf,.int .i64 bg,.int .i64 bh,.int .i64 bi,.int .i64 bj,.int .i64 bk,.int .i64 bl,.sl 128000001,.sl 128000002,.sl 128000003,.sl 128000004,.sl 64000004,.sl 64000005]),(64000004,.row (.int .i64) bm),(64000005,.row y46 af)]⟩
noncomputable def l1 ( k m1:Nat) (v:T1):Option R:=held (run (cs m1) (loopN cs m1) c1000008 (J1000008 k m1) (s1 v))
noncomputable def D1 (v:T1):Option R:=lim fun L=>l1 (L 0) (L 1) v
theorem D1_cn (v:T1):Cn late (D1 v) fun L=>l1 (L 0) (L 1) v:=of_lim
noncomputable def d0 (p0:g161.Y) (p1:g168.Y) (p2:Y1) (p3:g163.Y) (p4:g171.Y):Y0:=fun (a,b,e,j,l,m,o,s,t,u,w,x,y,z,B,C,D,G,H,I,J,K,P,N,O,T,S,Q,M,V,X,W,U,aa,Z,ab,ac,ad,ae,ah,ag,aq,an,ai,ar,ao,aw,ax,ay,az,ba,bb,bc,au,av,aj,ak,al,am,ap,bd,be,bf,bg,bh,bi,bj,bk,bl,bm,af) =>
br (decide (b < a)) (bnd (p0 (s,t,u,w,x,y,z,B,C,D,G,H,I,J,K,P,e,N,O,T,S,Q,M,V,X,W,U,j,l,m,o,aa,Z,ab,ac,b)) fun r=>br (decide (r.2.2.2.2.2.2 = 0)) (bnd (p1 ((r.1,r.2.1,(r.2.2.1,r.2.2.2.1),r.2.2.2.2.1,r.2.2.2.2.2.1),ai,ar,ao,aw,ax,ay,az,ba,bb,bc,au,av,aj,ak,al,am,ap,bd,be,bf,bg,bh,bi,bj,bk,bl,e,j,l,m,o,bm,af)) fun r=>p2 (a,b,r.2.2.2.2.2.2.2.2.2.2.2.2.2.2.2.2.2.2.2.2.2.2.2.2.2.2.1,r.2.2.2.2.2.2.2.2.2.2.2.2.2.2.2.2.2.2.2.2.2.2.2.2.2.2.2.1,r.2.2.2.2.2.2.2.2.2.2.2.2.2.2.2.2.2.2.2.2.2.2.2.2.2.2.2.2.1,r.2.2.2.2.2.2.2.2.2.2.2.2.2.2.2.2.2.2.2.2.2.2.2.2.2.2.2.2.2.1,r.2.2.2.2.2.2.2.2.2.2.2.2.2.2.2.2.2.2.2.2.2.2.2.2.2.2.2.2.2.2.1,s,t,u,w,x,y,z,B,C,D,G,H,I,J,K,P,N,O,T,S,Q,M,V,X,W,U,aa,Z,ab,ac,ad,ae,ah,ag,aq,an,r.1,r.2.1,r.2.2.1,r.2.2.2.1,r.2.2.2.2.1,r.2.2.2.2.2.1,r.2.2.2.2.2.2.1,r.2.2.2.2.2.2.2.1,r.2.2.2.2.2.2.2.2.1,r.2.2.2.2.2.2.2.2.2.1,r.2.2.2.2.2.2.2.2.2.2.1,r.2.2.2.2.2.2.2.2.2.2.2.1,r.2.2.2.2.2.2.2.2.2.2.2.2.1,r.2.2.2.2.2.2.2.2.2.2.2.2.2.1,r.2.2.2.2.2.2.2.2.2.2.2.2.2.2.1,r.2.2.2.2.2.2.2.2.2.2.2.2.2.2.2.1,r.2.2.2.2.2.2.2.2.2.2.2.2.2.2.2.2.1,r.2.2.2.2.2.2.2.2.2.2.2.2.2.2.2.2.2.1,r.2.2.2.2.2.2.2.2.2.2.2.2.2.2.2.2.2.2.1,r.2.2.2.2.2.2.2.2.2.2.2.2.2.2.2.2.2.2.2.1,r.2.2.2.2.2.2.2.2.2.2.2.2.2.2.2.2.2.2.2.2.1,r.2.2.2.2.2.2.2.2.2.2.2.2.2.2.2.2.2.2.2.2.2.1,r.2.2.2.2.2.2.2.2.2.2.2.2.2.2.2.2.2.2.2.2.2.2.1,r.2.2.2.2.2.2.2.2.2.2.2.2.2.2.2.2.2.2.2.2.2.2.2.1,r.2.2.2.2.2.2.2.2.2.2.2.2.2.2.2.2.2.2.2.2.2.2.2.2.1,r.2.2.2.2.2.2.2.2.2.2.2.2.2.2.2.2.2.2.2.2.2.2.2.2.2.1,r.2.2.2.2.2.2.2.2.2.2.2.2.2.2.2.2.2.2.2.2.2.2.2.2.2.2.2.2.2.2.2.1,r.2.2.2.2.2.2.2.2.2.2.2.2.2.2.2.2.2.2.2.2.2.2.2.2.2.2.2.2.2.2.2.2)) (p2 (a,b,e,j,l,m,o,s,t,u,w,x,y,z,B,C,D,G,H,I,J,K,P,N,O,T,S,Q,M,V,X,W,U,aa,Z,ab,ac,ad,ae,ah,ag,aq,an,ai,ar,ao,aw,ax,ay,az,ba,bb,bc,au,av,aj,ak,al,am,ap,bd,be,bf,bg,bh,bi,bj,bk,bl,bm,af))) (bnd (p3 (ai,ar,ao,aw,ax,ay,az,ba,bb,bc,au,av,aj,ak,al,am,ap,bd,be,bf,bg,bh,bi,bj,bk,bl,e,j,l,m,o,bm,af)) fun r=>br (decide (r.1 = 0)) (some (0,0,0,0,0,0,false,r.2.2.2.2.2.2.2.2.2.2.2.2.2.2.2.2.2.2.2.2.2.2.2.2.2.2.2.1,r.2.2.2.2.2.2.2.2.2.2.2.2.2.2.2.2.2.2.2.2.2.2.2.2.2.2.2.2.1,r.2.2.2.2.2.2.2.2.2.2.2.2.2.2.2.2.2.2.2.2.2.2.2.2.2.2.2.2.2.1,r.2.2.2.2.2.2.2.2.2.2.2.2.2.2.2.2.2.2.2.2.2.2.2.2.2.2.2.2.2.2.1,r.2.2.2.2.2.2.2.2.2.2.2.2.2.2.2.2.2.2.2.2.2.2.2.2.2.2.2.2.2.2.2.1)) (bnd (p4 (r.2.1,r.2.2.1,r.2.2.2.1,r.2.2.2.2.1,r.2.2.2.2.2.1,r.2.2.2.2.2.2.1,r.2.2.2.2.2.2.2.1,r.2.2.2.2.2.2.2.2.1,r.2.2.2.2.2.2.2.2.2.1,r.2.2.2.2.2.2.2.2.2.2.1,r.2.2.2.2.2.2.2.2.2.2.2.1,r.2.2.2.2.2.2.2.2.2.2.2.2.1,r.2.2.2.2.2.2.2.2.2.2.2.2.2.1,r.2.2.2.2.2.2.2.2.2.2.2.2.2.2.1,r.2.2.2.2.2.2.2.2.2.2.2.2.2.2.2.1,r.2.2.2.2.2.2.2.2.2.2.2.2.2.2.2.2.1,r.2.2.2.2.2.2.2.2.2.2.2.2.2.2.2.2.2.1,r.2.2.2.2.2.2.2.2.2.2.2.2.2.2.2.2.2.2.1,r.2.2.2.2.2.2.2.2.2.2.2.2.2.2.2.2.2.2.2.1,r.2.2.2.2.2.2.2.2.2.2.2.2.2.2.2.2.2.2.2.2.1,r.2.2.2.2.2.2.2.2.2.2.2.2.2.2.2.2.2.2.2.2.2.1,r.2.2.2.2.2.2.2.2.2.2.2.2.2.2.2.2.2.2.2.2.2.2.1,r.2.2.2.2.2.2.2.2.2.2.2.2.2.2.2.2.2.2.2.2.2.2.2.1,r.2.2.2.2.2.2.2.2.2.2.2.2.2.2.2.2.2.2.2.2.2.2.2.2.1,r.2.2.2.2.2.2.2.2.2.2.2.2.2.2.2.2.2.2.2.2.2.2.2.2.2.1,r.2.2.2.2.2.2.2.2.2.2.2.2.2.2.2.2.2.2.2.2.2.2.2.2.2.2.1,r.2.2.2.2.2.2.2.2.2.2.2.2.2.2.2.2.2.2.2.2.2.2.2.2.2.2.2.1,r.2.2.2.2.2.2.2.2.2.2.2.2.2.2.2.2.2.2.2.2.2.2.2.2.2.2.2.2.1,r.2.2.2.2.2.2.2.2.2.2.2.2.2.2.2.2.2.2.2.2.2.2.2.2.2.2.2.2.2.1,r.2.2.2.2.2.2.2.2.2.2.2.2.2.2.2.2.2.2.2.2.2.2.2.2.2.2.2.2.2.2.1,r.2.2.2.2.2.2.2.2.2.2.2.2.2.2.2.2.2.2.2.2.2.2.2.2.2.2.2.2.2.2.2.1,r.2.2.2.2.2.2.2.2.2.2.2.2.2.2.2.2.2.2.2.2.2.2.2.2.2.2.2.2.2.2.2.2.1,r.2.2.2.2.2.2.2.2.2.2.2.2.2.2.2.2.2.2.2.2.2.2.2.2.2.2.2.2.2.2.2.2.2)) fun r=>some (r.1.1,r.1.2.1,r.1.2.2.1.1,r.1.2.2.1.2,r.1.2.2.2.1,r.1.2.2.2.2,true,r.2.2.2.2.2.2.2.2.2.2.2.2.2.2.2.2.2.2.2.2.2.2.2.2.2.2.2.2.2.1,r.2.2.2.2.2.2.2.2.2.2.2.2.2.2.2.2.2.2.2.2.2.2.2.2.2.2.2.2.2.2.1,r.2.2.2.2.2.2.2.2.2.2.2.2.2.2.2.2.2.2.2.2.2.2.2.2.2.2.2.2.2.2.2.1,r.2.2.2.2.2.2.2.2.2.2.2.2.2.2.2.2.2.2.2.2.2.2.2.2.2.2.2.2.2.2.2.2.1,r.2.2.2.2.2.2.2.2.2.2.2.2.2.2.2.2.2.2.2.2.2.2.2.2.2.2.2.2.2.2.2.2.2.1)))
theorem d0_cn (k0:Pr E g161.A g161.R) (k1:Pr E g168.A g168.R) (k2:Pr E T1 R) (k3:Pr E g163.A g163.R) (k4:Pr E g171.A g171.R):∀ v:T0,Cn E (d0 k0.p k1.p k2.p k3.p k4.p v) fun i=>d0 (k0.q i) (k1.q i) (k2.q i) (k3.q i) (k4.q i) v:=fun (a,b,e,j,l,m,o,s,t,u,w,x,y,z,B,C,D,G,H,I,J,K,P,N,O,T,S,Q,M,V,X,W,U,aa,Z,ab,ac,ad,ae,ah,ag,aq,an,ai,ar,ao,aw,ax,ay,az,ba,bb,bc,au,av,aj,ak,al,am,ap,bd,be,bf,bg,bh,bi,bj,bk,bl,bm,af)=>(.br (.bnd (k0.h _) fun _=>(.br (.bnd (k1.h _) fun _=>(k2.h _)) (k2.h _))) (.bnd (k3.h _) fun _=>(.br .some (.bnd (k4.h _) fun _=>.some))))
theorem l0_b ( k m1:Nat):∀ v:T0,run (cs m1) (loopN cs m1) b3 (kLoop cs m1 b3 (K3 k)) (s0 v) = d0 (g161.f m1) (g168.f m1) (l1 k m1) (g163.f k) (g171.f k) v:=fun (a,b,e,j,l,m,o,s,t,u,w,x,y,z,B,C,D,G,H,I,J,K,P,N,O,T,S,Q,M,V,X,W,U,aa,Z,ab,ac,ad,ae,ah,ag,aq,an,ai,ar,ao,aw,ax,ay,az,ba,bb,bc,au,av,aj,ak,al,am,ap,bd,be,bf,bg,bh,bi,bj,bk,bl,bm,af)=>by kernel_rfl
theorem D0_of (v:T0) {r:R} (h:d0 g161.F g168.F D1 g163.F g171.F v = some r):D0 v = some r:=loop_of 1 (fun L n hn=>by show l0 (L 0) (L 1) v = _; rw [hn]; exact (held_eq _).trans ((loopN_succ _ _ _ _ _).trans (l0_b (L 0) n v))) (d0_cn (lp g161.f 1) (lp g168.f 1) (.mk fun v=>(D1_cn v).re [0,1]) (lp g163.f 0) (lp g171.f 0) v) h
def d1 (p0:Y0):Y1:=fun (a,b,e,j,l,m,o,s,t,u,w,x,y,z,B,C,D,G,H,I,J,K,P,N,O,T,S,Q,M,V,X,W,U,aa,Z,ab,ac,ad,ae,ah,ag,aq,an,ai,ar,ao,aw,ax,ay,az,ba,bb,bc,au,av,aj,ak,al,am,ap,bd,be,bf,bg,bh,bi,bj,bk,bl,bm,af) =>
p0 (a,wrap .i64 (b + 1),e,j,l,m,o,s,t,u,w,x,y,z,B,C,D,G,H,I,J,K,P,N,O,T,S,Q,M,V,X,W,U,aa,Z,ab,ac,ad,ae,ah,ag,aq,an,ai,ar,ao,aw,ax,ay,az,ba,bb,bc,au,av,aj,ak,al,am,ap,bd,be,bf,bg,bh,bi,bj,bk,bl,bm,af)
theorem d1_cn (k0:Pr E T0 R):∀ v:T1,Cn E (d1 k0.p v) fun i=>d1 (k0.q i) v:=fun (a,b,e,j,l,m,o,s,t,u,w,x,y,z,B,C,D,G,H,I,J,K,P,N,O,T,S,Q,M,V,X,W,U,aa,Z,ab,ac,ad,ae,ah,ag,aq,an,ai,ar,ao,aw,ax,ay,az,ba,bb,bc,au,av,aj,ak,al,am,ap,bd,be,bf,bg,bh,bi,bj,bk,bl,bm,af)=>(k0.h _)
theorem l1_b ( k m1:Nat):∀ v:T1,run (cs m1) (loopN cs m1) c1000008 (J1000008 k m1) (s1 v) = d1 (l0 k m1) v:=fun (a,b,e,j,l,m,o,s,t,u,w,x,y,z,B,C,D,G,H,I,J,K,P,N,O,T,S,Q,M,V,X,W,U,aa,Z,ab,ac,ad,ae,ah,ag,aq,an,ai,ar,ao,aw,ax,ay,az,ba,bb,bc,au,av,aj,ak,al,am,ap,bd,be,bf,bg,bh,bi,bj,bk,bl,bm,af)=>by kernel_rfl
theorem D1_of (v:T1) {r:R} (h:d1 D0 v = some r):D1 v = some r:=join_of (fun L=>(held_eq _).trans (l1_b (L 0) (L 1) v)) (d1_cn (.mk fun v=>(D0_cn v).re [0,1]) v) h
noncomputable def f (k:Nat):Y:=fun v=>held (runFn cs k Tryz.f86 (sh.args v) (sh.slots v) dec)
noncomputable def F:Y:=lm f
def d (p0:g150.Y) (p1:Y0):Y:=fun (a,b,e,j,l,m,o,s,t,u,w,x,y,z,B,C,D,G,H,I,J,K,P,N,O,T,S,Q,M,V,X,W,U,aa,Z) =>
bnd (p0 (W,U,S,Q,M,V)) fun r=>p1 ((↑U.length:Int),0,X,W,U,aa,Z,a,b,e,j,l,m,o,s,t,u,w,x,y,z,B,C,D,G,H,I,J,K,P,N,O,T,S,Q,M,V,0,0,0,0,0,0,a,b,e,j,l,m,o,s,t,u,w,x,y,z,B,C,D,G,H,I,J,K,P,N,O,T,r,[])
theorem d_cn (k0:Pr E g150.A g150.R) (k1:Pr E T0 R):∀ v:A,Cn E (d k0.p k1.p v) fun i=>d (k0.q i) (k1.q i) v:=fun (a,b,e,j,l,m,o,s,t,u,w,x,y,z,B,C,D,G,H,I,J,K,P,N,O,T,S,Q,M,V,X,W,U,aa,Z)=>(.bnd (k0.h _) fun _=>(k1.h _))
theorem f_b (k:Nat):∀ v:A,f k v = d (g150.f k) (l0 k k) v:=fun (a,b,e,j,l,m,o,s,t,u,w,x,y,z,B,C,D,G,H,I,J,K,P,N,O,T,S,Q,M,V,X,W,U,aa,Z)=>(held_eq _).trans (by kernel_rfl)
theorem F_of (v:A) {r:R} (h:d g150.F D0 v = some r):F v = some r:=join_of (fun L=>f_b (L 0) v) (d_cn (lp g150.f 0) (.mk fun v=>(D0_cn v).re [0,0]) v) h
noncomputable def spec (k:Nat):List AV→List Slot→Option Ans:=specS sh os (f k)
theorem spec_ok (k:Nat):SpecOk Tryz.prog 86 (spec k):=specS_ok cs_ok Tryz.func86 rfl rfl (fun _ _=>held_eq _) k
end g172
noncomputable def tg172:=tg171.cons 86 g172.spec g172.spec_ok
namespace g173 -- plan_Desk_take
abbrev R:Type:=Int × Int × Int × Int × Int × Int × Int × List (List Int)
abbrev A:Type:=Int × Int × Int × Int × Int × Int × Int × Int × Int × Int × Int × Int × Int × Int × Int × Int × List Int × Int × Int × Int × Int × Int × Int × Int × Int × Int × Int × List (ByteArray × Int) × List (Int × Int × (Int × Int × Int) × Int × Int × Int × Int × Int × Int × Int × Int) × List (List Int) × List (List (Int × Int)) × Int × Int × Int × Int × Int × Int × Int × Int × Int × List (List Int)
abbrev Y:=A→Option R
def lv:List (Nat × List Nat):=[(2000000,[6])]
noncomputable def cs:Nat→Ctx:=ctxOf tis modes tg172.1 lv
theorem cs_ok (n:Nat):CtxOk Tryz.prog (cs n):=ctxOf_ok rfl tis_ok tg172.2 n
noncomputable def sh:AS:=⟨[.agg [.int .i64,.int .i64,.int .i64,.int .i64,.int .i64,.int .i64,.int .i64,.int .i64,.int .i64,.int .i64,.int .i64,.int .i64,.int .i64,.int .i64,.int .i64,.int .i64,.frz (.int .i64),.int .i64,.int .i64,.int .i64,.int .i64,.int .i64,.int .i64,.int .i64,.int .i64,.int .i64,.int .i64,.frz y19,.frz y27,.frz y4,.frz y38],.c (.ptr 128000000 0),.agg [.int .i64,.int .i64,.int .i64,.int .i64,.int .i64,.int .i64]],[.box [.int .i64,.int .i64,.int .i64,.sl 128000001],.nest y4]⟩
def os:OS:=⟨.agg [.int .i64,.int .i64,.int .i64,.int .i64],[.box [.int .i64,.int .i64,.int .i64,.sl 128000001],.nest y4]⟩
def enc (r:R):Out:=os.enc r
def dec:Out→Option R:=os.dec
noncomputable def b0:Code:=subF [] Tryz.f68
noncomputable def K0 (k:Nat):Kt R:=kTop (cs k) Tryz.f68 dec
noncomputable def f (k:Nat):Y:=fun v=>held (runFn cs k Tryz.f68 (sh.args v) (sh.slots v) dec)
noncomputable def F:Y:=lm f
def d:Y:=fun (a,b,e,j,l,m,o,s,t,u,w,x,y,z,B,C,D,G,H,I,J,K,P,N,O,T,S,Q,M,V,X,W,U,aa,Z,ab,ac,ad,ae,ah,ag) =>
br (decide (0 ≤ W ∧ W < (↑M.length:Int))) (br (decide (0 ≤ W ∧ W < (↑ag.length:Int))) (br (decide (List.length (rd (Ty.int .i64).slice ag W) + [U].length ≤ 140737488355328 / 8)) (br (decide (0 ≤ W ∧ W < (↑ag.length:Int))) (br (decide (W = W)) (some ((rd ty0 M W).1,wrap .i64 (U - ad),U,(rd ty0 M W).2.2.2.1,wrap .i64 (U + (rd ty0 M W).2.2.2.1),ab,ac,ag.set W.toNat (rd (Ty.int .i64).slice ag W ++ [U]))) none) none) none) none) none
theorem d_cn:∀ v:A,Cn E (d v) fun i=>d v:=fun (a,b,e,j,l,m,o,s,t,u,w,x,y,z,B,C,D,G,H,I,J,K,P,N,O,T,S,Q,M,V,X,W,U,aa,Z,ab,ac,ad,ae,ah,ag)=>(.br (.br (.br (.br (.br .some .none) .none) .none) .none) .none)
theorem f_b (k:Nat):∀ v:A,f k v = d v:=fun (a,b,e,j,l,m,o,s,t,u,w,x,y,z,B,C,D,G,H,I,J,K,P,N,O,T,S,Q,M,V,X,W,U,aa,Z,ab,ac,ad,ae,ah,ag)=>(held_eq _).trans (by kernel_rfl)
theorem F_of (v:A) {r:R} (h:d v = some r):F v = some r:=join_of (fun L=>f_b (L 0) v) (d_cn v) h
noncomputable def spec (k:Nat):List AV→List Slot→Option Ans:=specS sh os (f k)
theorem spec_ok (k:Nat):SpecOk Tryz.prog 68 (spec k):=specS_ok cs_ok Tryz.func68 rfl rfl (fun _ _=>held_eq _) k
end g173
noncomputable def tg173:=tg172.cons 68 g173.spec g173.spec_ok
namespace g174 -- plan_Desk_From
abbrev R:Type:=Int × List Int × List (ByteArray × Int) × List (Int × Int × (Int × Int × Int) × Int × Int × Int × Int × Int × Int × Int × Int) × List (List Int) × List (List (Int × Int)) × List (Int × Int × Int × Int)
abbrev A:Type:=Int × Int × Int × Int × Int × Int × Int × Int × Int × Int × Int × Int × Int × Int × Int × Int × Int × Int × Int × Int × Int × Int × Int × Int × Int × Int × Int × Int × Int × List (List Int) × List Int × List (ByteArray × Int) × List (Int × Int × (Int × Int × Int) × Int × Int × Int × Int × Int × Int × Int × Int) × List (List Int) × List (List (Int × Int))
abbrev Y:=A→Option R
def lv:List (Nat × List Nat):=[(2000000,[4,5]),(6,[2,3,7])]
noncomputable def cs:Nat→Ctx:=ctxOf tis modes tg173.1 lv
theorem cs_ok (n:Nat):CtxOk Tryz.prog (cs n):=ctxOf_ok rfl tis_ok tg173.2 n
def sh:AS:=⟨[.agg [.int .i64,.int .i64,.int .i64,.int .i64,.int .i64,.int .i64,.int .i64,.int .i64,.int .i64,.int .i64,.int .i64,.int .i64,.int .i64,.int .i64,.int .i64,.int .i64,.sl 128000000,.int .i64,.int .i64,.int .i64,.int .i64,.int .i64,.int .i64,.int .i64,.int .i64,.int .i64,.int .i64,.sl 128000001,.sl 128000002,.sl 128000003,.sl 128000004],.agg [.int .i64,.int .i64,.int .i64,.frz y4]],[.row (.int .i64),.row y19,.row y27,.nest y4,.nest y38]⟩
def os:OS:=⟨.tup [.c (.sl 128000005),.c (.int .i64)],[.row (.int .i64),.row y19,.row y27,.nest y4,.nest y38,.row y8]⟩
def enc (r:R):Out:=os.enc r
def dec:Out→Option R:=os.dec
noncomputable def b0:Code:=subF [] Tryz.f56
noncomputable def K0 (k:Nat):Kt R:=kTop (cs k) Tryz.f56 dec
noncomputable def b6:Code:=sub [1,1,1,1,0,0,0] b0
noncomputable def K6 ( k:Nat):Kt R:=kAt (cs k) (loopN cs k) [1,1,1,1,0,0] b0 (K0 k)
abbrev T0:Type:=List Int × List (ByteArray × Int) × List (Int × Int × (Int × Int × Int) × Int × Int × Int × Int × Int × Int × Int × Int) × List (List Int) × List (List (Int × Int)) × Int × Int × Int × Int × Int × Int × Int × Int × Int × Int × Int × Int × Int × Int × Int × Int × Int × Int × Int × Int × Int × Int × Int × Int × Int × Int × Int × Int × Int × List (Int × Int × Int × Int) × List (List Int)
abbrev Y0:=T0→Option R
noncomputable def s0:T0→St:=fun (a,b,e,j,l,m,o,s,t,u,w,x,y,z,B,C,D,G,H,I,J,K,P,N,O,T,S,Q,M,V,X,W,U,aa,Z,ab)=>⟨43,5,[(2,.c (.ptr 64000000 0)),(3,.c (.ptr 64000001 0)),(7,.c (.sl 64000002))],[],[(128000000,.row (.int .i64) a),(128000001,.row y19 b),(128000002,.row y27 e),(128000003,.nest y4 j .none),(128000004,.nest y38 l .none),(256000000,.gone),(64000000,.box [.int .i64 m,.int .i64 o,.int .i64 s,.int .i64 t,.int .i64 u,.int .i64 w,.int .i64 x,.int .i64 y,.int .i64 z,.int .i64 B,.int .i64 C,.int .i64 D,.int .i64 G,.int .i64 H,.int .i64 I,.int .i64 J,.sl 128000000,.int .i64 K,.int .i64 P,.int .i64 N,.int .i64 O,.int .i64 T,.int .i64 S,.int .i64 Q,.int .i64 M,.int .i64 V,.int .i64 X,.sl 128000001,.sl 128000002,.sl 128000003,.sl 128000004]),(64000001,.box [.int .i64 W,.int .i64 U,.int .i64 aa,.sl 64000003]),(64000002,.row y8 Z),(64000003,.nest y4 ab .none)]⟩
noncomputable def l0 ( k n:Nat) (v:T0):Option R:=held (loopN cs n b6 (K6 k) (s0 v))
noncomputable def D0 (v:T0):Option R:=lim fun L=>l0 (L 0) (L 1) v
theorem D0_cn (v:T0):Cn late (D0 v) fun L=>l0 (L 0) (L 1) v:=of_lim
noncomputable def d0 (p0:g172.Y) (p1:Y0) (p2:g173.Y):Y0:=fun (a,b,e,j,l,m,o,s,t,u,w,x,y,z,B,C,D,G,H,I,J,K,P,N,O,T,S,Q,M,V,X,W,U,aa,Z,ab) =>
br (decide (W < z)) (bnd (p0 (m,o,s,t,u,w,x,y,z,B,C,D,G,H,I,J,K,P,N,O,T,S,Q,M,V,X,W,U,aa,ab,a,b,e,j,l)) fun r=>br (!r.2.2.2.2.2.2.1) (p1 (r.2.2.2.2.2.2.2.1,r.2.2.2.2.2.2.2.2.1,r.2.2.2.2.2.2.2.2.2.1,r.2.2.2.2.2.2.2.2.2.2.1,r.2.2.2.2.2.2.2.2.2.2.2,m,o,s,t,u,w,x,y,z,B,C,D,G,H,I,J,K,P,N,O,T,S,Q,M,V,X,wrap .i64 (W + 1),U,aa,Z,ab)) (bnd (p2 (m,o,s,t,u,w,x,y,z,B,C,D,G,H,I,J,r.2.2.2.2.2.2.2.1,K,P,N,O,T,S,Q,M,V,X,r.2.2.2.2.2.2.2.2.1,r.2.2.2.2.2.2.2.2.2.1,r.2.2.2.2.2.2.2.2.2.2.1,r.2.2.2.2.2.2.2.2.2.2.2,r.1,r.2.1,r.2.2.1,r.2.2.2.1,r.2.2.2.2.1,r.2.2.2.2.2.1,W,U,aa,ab)) fun r_1=>br (decide (Z.length + [(r_1.1,r_1.2.1,r_1.2.2.1,r_1.2.2.2.1)].length ≤ 140737488355328 / 32)) (p1 (r.2.2.2.2.2.2.2.1,r.2.2.2.2.2.2.2.2.1,r.2.2.2.2.2.2.2.2.2.1,r.2.2.2.2.2.2.2.2.2.2.1,r.2.2.2.2.2.2.2.2.2.2.2,m,o,s,t,u,w,x,y,z,B,C,D,G,H,I,J,K,P,N,O,T,S,Q,M,V,X,r_1.2.2.2.2.1,r_1.2.2.2.2.2.1,r_1.2.2.2.2.2.2.1,Z ++ [(r_1.1,r_1.2.1,r_1.2.2.1,r_1.2.2.2.1)],r_1.2.2.2.2.2.2.2)) none)) (some (0,a,b,e,j,l,Z))
theorem d0_cn (k0:Pr E g172.A g172.R) (k1:Pr E T0 R) (k2:Pr E g173.A g173.R):∀ v:T0,Cn E (d0 k0.p k1.p k2.p v) fun i=>d0 (k0.q i) (k1.q i) (k2.q i) v:=fun (a,b,e,j,l,m,o,s,t,u,w,x,y,z,B,C,D,G,H,I,J,K,P,N,O,T,S,Q,M,V,X,W,U,aa,Z,ab)=>(.br (.bnd (k0.h _) fun _=>(.br (k1.h _) (.bnd (k2.h _) fun _=>(.br (k1.h _) .none)))) .some)
theorem l0_b ( k m1:Nat):∀ v:T0,run (cs m1) (loopN cs m1) b6 (kLoop cs m1 b6 (K6 k)) (s0 v) = d0 (g172.f m1) (l0 k m1) (g173.f m1) v:=fun (a,b,e,j,l,m,o,s,t,u,w,x,y,z,B,C,D,G,H,I,J,K,P,N,O,T,S,Q,M,V,X,W,U,aa,Z,ab)=>by kernel_rfl
theorem D0_of (v:T0) {r:R} (h:d0 g172.F D0 g173.F v = some r):D0 v = some r:=loop_of 1 (fun L n hn=>by show l0 (L 0) (L 1) v = _; rw [hn]; exact (held_eq _).trans ((loopN_succ _ _ _ _ _).trans (l0_b (L 0) n v))) (d0_cn (lp g172.f 1) (.mk fun v=>(D0_cn v).re [0,1]) (lp g173.f 1) v) h
noncomputable def f (k:Nat):Y:=fun v=>held (runFn cs k Tryz.f56 (sh.args v) (sh.slots v) dec)
noncomputable def F:Y:=lm f
def d (p0:g148.Y) (p1:g149.Y) (p2:Y0):Y:=fun (a,b,e,j,l,m,o,s,t,u,w,x,y,z,B,C,D,G,H,I,J,K,P,N,O,T,S,Q,M,V,X,W,U,aa,Z) =>
bnd (p0 (a,b,e,j,l,m,o,s,t,u,w,x,y,z,B,C,X,D,G,H,I,J,K,P,N,O,T,W,U,aa,Z,S,Q,M,V)) fun r=>br (!decide (r = 0)) (some (r,X,W,U,aa,Z,[])) (bnd (p1 (S,Q,M,V)) fun r=>p2 (X,W,U,aa,Z,a,b,e,j,l,m,o,s,t,u,w,x,y,z,B,C,D,G,H,I,J,K,P,N,O,T,r.1,r.2.1,r.2.2.1,[],r.2.2.2))
theorem d_cn (k0:Pr E g148.A g148.R) (k1:Pr E g149.A g149.R) (k2:Pr E T0 R):∀ v:A,Cn E (d k0.p k1.p k2.p v) fun i=>d (k0.q i) (k1.q i) (k2.q i) v:=fun (a,b,e,j,l,m,o,s,t,u,w,x,y,z,B,C,D,G,H,I,J,K,P,N,O,T,S,Q,M,V,X,W,U,aa,Z)=>(.bnd (k0.h _) fun _=>(.br .some (.bnd (k1.h _) fun _=>(k2.h _))))
theorem f_b (k:Nat):∀ v:A,f k v = d (g148.f k) (g149.f k) (l0 k k) v:=fun (a,b,e,j,l,m,o,s,t,u,w,x,y,z,B,C,D,G,H,I,J,K,P,N,O,T,S,Q,M,V,X,W,U,aa,Z)=>(held_eq _).trans (by kernel_rfl)
theorem F_of (v:A) {r:R} (h:d g148.F g149.F D0 v = some r):F v = some r:=join_of (fun L=>f_b (L 0) v) (d_cn (lp g148.f 0) (lp g149.f 0) (.mk fun v=>(D0_cn v).re [0,0]) v) h
noncomputable def spec (k:Nat):List AV→List Slot→Option Ans:=specS sh os (f k)
theorem spec_ok (k:Nat):SpecOk Tryz.prog 56 (spec k):=specS_ok cs_ok Tryz.func56 rfl rfl (fun _ _=>held_eq _) k
end g174
noncomputable def tg174:=tg173.cons 56 g174.spec g174.spec_ok
end Go.Proofs.RPn
