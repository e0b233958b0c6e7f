import Derived.Test.YtfkampndpkfcmaaGreatRPo1
import Derived.Test.YtfkampndpkfcmaaGreatProg
namespace Go.Proofs.RPo
open Go Go.Eng Go.Proofs
set_option maxRecDepth 100000
set_option linter.unusedVariables false
variable {ι : Type} {E : Fil ι}
namespace g141 -- trig_octant
abbrev R:Type:=Int
abbrev A:Type:=Int × Int
abbrev Y:=A→Option R
def lv:List (Nat × List Nat):=[(2000000,[4]),(2,[0,1,5,6])]
noncomputable def cs:Nat→Ctx:=ctxOf tis modes tg140.1 lv
theorem cs_ok (n:Nat):CtxOk Tryz.prog (cs n):=ctxOf_ok rfl tis_ok tg140.2 n
def sh:AS:=⟨[.c (.int .i64),.c (.int .i64)],[]⟩
def os:OS:=⟨.c (.int .i64),[]⟩
def enc (r:R):Out:=os.enc r
def dec:Out→Option R:=os.dec
noncomputable def b0:Code:=subF [] Tryz.f166
noncomputable def K0 (k:Nat):Kt R:=kTop (cs k) Tryz.f166 dec
noncomputable def b2:Code:=sub [1,1,0,0,0] b0
noncomputable def K2 ( k:Nat):Kt R:=kAt (cs k) (loopN cs k) [1,1,0,0] b0 (K0 k)
abbrev T0:Type:=Int × Int × Int × Int
abbrev Y0:=T0→Option R
def s0:T0→St:=fun (v0,v1,v2,v3)=>⟨28,0,[(0,.c (.int .i64 v0)),(1,.c (.int .i64 v1)),(5,.c (.int .i64 v2)),(6,.c (.int .i64 v3))],[],[(256000000,.gone)]⟩
noncomputable def l0 ( k n:Nat) (v:T0):Option R:=held (loopN cs n b2 (K2 k) (s0 v))
noncomputable def D0 (v:T0):Option R:=lim fun L=>l0 (L 0) (L 1) v
theorem D0_cn (v:T0):Cn late (D0 v) fun L=>l0 (L 0) (L 1) v:=of_lim
def d0 (p0:g80.Y) (p1:g81.Y) (p2:Y0):Y0:=fun (v0,v1,v2,v3) =>
br (decide (1 < wrap .i64 (v3 - v2))) (br (!decide (2 = 0)) (bnd (p0 (wrap .i64 ((wrap .i64 (v2 + v3)).tdiv 2))) fun r=>bnd (p1 (wrap .i64 ((wrap .i64 (v2 + v3)).tdiv 2))) fun r_1=>br (decide (wrap .i64 (r * v1) ≤ wrap .i64 (r_1 * v0))) (p2 (v0,v1,wrap .i64 ((wrap .i64 (v2 + v3)).tdiv 2),v3)) (p2 (v0,v1,v2,wrap .i64 ((wrap .i64 (v2 + v3)).tdiv 2)))) none) (some v2)
theorem d0_cn (k0:Pr E g80.A g80.R) (k1:Pr E g81.A g81.R) (k2:Pr E T0 R):∀ v:T0,Cn E (d0 k0.p k1.p k2.p v) fun i=>d0 (k0.q i) (k1.q i) (k2.q i) v:=fun (v0,v1,v2,v3)=>(.br (.br (.bnd (k0.h _) fun _=>(.bnd (k1.h _) fun _=>(.br (k2.h _) (k2.h _)))) .none) .some)
theorem l0_b ( k m1:Nat):∀ v:T0,run (cs m1) (loopN cs m1) b2 (kLoop cs m1 b2 (K2 k)) (s0 v) = d0 (g80.f m1) (g81.f m1) (l0 k m1) v:=fun (v0,v1,v2,v3)=>by kernel_rfl
theorem D0_of (v:T0) {r:R} (h:d0 g80.F g81.F D0 v = some r):D0 v = some r:=loop_of 1 (fun L n hn=>by show l0 (L 0) (L 1) v = _; rw [hn]; exact (held_eq _).trans ((loopN_succ _ _ _ _ _).trans (l0_b (L 0) n v))) (d0_cn (lp g80.f 1) (lp g81.f 1) (.mk fun v=>(D0_cn v).re [0,1]) v) h
noncomputable def f (k:Nat):Y:=fun v=>held (runFn cs k Tryz.f166 (sh.args v) (sh.slots v) dec)
noncomputable def F:Y:=lm f
def d (p0:Y0):Y:=fun (v0,v1) =>
p0 (v0,v1,0,536870913)
theorem d_cn (k0:Pr E T0 R):∀ v:A,Cn E (d k0.p v) fun i=>d (k0.q i) v:=fun (v0,v1)=>(k0.h _)
theorem f_b (k:Nat):∀ v:A,f k v = d (l0 k k) v:=fun (v0,v1)=>(held_eq _).trans (by kernel_rfl)
theorem F_of (v:A) {r:R} (h:d D0 v = some r):F v = some r:=join_of (fun L=>f_b (L 0) v) (d_cn (.mk fun v=>(D0_cn v).re [0,0]) v) h
noncomputable def spec (k:Nat):List AV→List Slot→Option Ans:=specS sh os (f k)
theorem spec_ok (k:Nat):SpecOk Tryz.prog 166 (spec k):=specS_ok cs_ok Tryz.func166 rfl rfl (fun _ _=>held_eq _) k
end g141
noncomputable def tg141:=tg140.cons 166 g141.spec g141.spec_ok
namespace g142 -- trig_Atan2
abbrev R:Type:=Int × Int
abbrev A:Type:=Int × Int
abbrev Y:=A→Option R
def lv:List (Nat × List Nat):=[(2000000,[4,5]),(1000010,[0,1,8]),(1000012,[0,8]),(1000014,[8])]
noncomputable def cs:Nat→Ctx:=ctxOf tis modes tg141.1 lv
theorem cs_ok (n:Nat):CtxOk Tryz.prog (cs n):=ctxOf_ok rfl tis_ok tg141.2 n
def sh:AS:=⟨[.c (.int .i64),.c (.int .i64)],[]⟩
def os:OS:=⟨.tup [.c (.int .i64),.c (.int .i64)],[]⟩
def enc (r:R):Out:=os.enc r
def dec:Out→Option R:=os.dec
noncomputable def b0:Code:=subF [] Tryz.f126
noncomputable def K0 (k:Nat):Kt R:=kTop (cs k) Tryz.f126 dec
noncomputable def c1000010:Code:=sub [1,1,1,1,1] b0
noncomputable def J1000010 ( k:Nat):Kt R:=kAt (cs k) (loopN cs k) [1,1,1,1,1] b0 (K0 k)
noncomputable def c1000012:Code:=sub [1,1,1,1,1,1] b0
noncomputable def J1000012 ( k:Nat):Kt R:=kAt (cs k) (loopN cs k) [1,1,1,1,1,1] b0 (K0 k)
noncomputable def c1000014:Code:=sub [1,1,1,1,1,1,1] b0
noncomputable def J1000014 ( k:Nat):Kt R:=kAt (cs k) (loopN cs k) [1,1,1,1,1,1,1] b0 (K0 k)
abbrev T0:Type:=Int × Int × Int
abbrev Y0:=T0→Option R
def s0:T0→St:=fun (v0,v1,v2)=>⟨59,0,[(0,.c (.int .i64 v0)),(1,.c (.int .i64 v1)),(8,.c (.int .i64 v2))],[],[(256000000,.gone)]⟩
noncomputable def l0 ( k:Nat) (v:T0):Option R:=held (run (cs k) (loopN cs k) c1000010 (J1000010 k) (s0 v))
noncomputable def D0 (v:T0):Option R:=lim fun L=>l0 (L 0) v
theorem D0_cn (v:T0):Cn late (D0 v) fun L=>l0 (L 0) v:=of_lim
abbrev T1:Type:=Int × Int
abbrev Y1:=T1→Option R
def s1:T1→St:=fun (v0,v1)=>⟨59,0,[(0,.c (.int .i64 v0)),(8,.c (.int .i64 v1))],[],[(256000000,.gone)]⟩
noncomputable def l1 ( k:Nat) (v:T1):Option R:=held (run (cs k) (loopN cs k) c1000012 (J1000012 k) (s1 v))
noncomputable def D1 (v:T1):Option R:=lim fun L=>l1 (L 0) v
theorem D1_cn (v:T1):Cn late (D1 v) fun L=>l1 (L 0) v:=of_lim
abbrev T2:Type:=Int
abbrev Y2:=T2→Option R
def s2:T2→St:=fun v0=>⟨59,0,[(8,.c (.int .i64 v0))],[],[(256000000,.gone)]⟩
noncomputable def l2 ( k:Nat) (v:T2):Option R:=held (run (cs k) (loopN cs k) c1000014 (J1000014 k) (s2 v))
noncomputable def D2 (v:T2):Option R:=lim fun L=>l2 (L 0) v
theorem D2_cn (v:T2):Cn late (D2 v) fun L=>l2 (L 0) v:=of_lim
def d0 (p0:Y1):Y0:=fun (v0,v1,v2) =>
br (decide (v1 < 0)) (p0 (v0,wrap .i64 (2147483648 - v2))) (p0 (v0,v2))
theorem d0_cn (k0:Pr E T1 R):∀ v:T0,Cn E (d0 k0.p v) fun i=>d0 (k0.q i) v:=fun (v0,v1,v2)=>(.br (k0.h _) (k0.h _))
theorem l0_b ( k:Nat):∀ v:T0,run (cs k) (loopN cs k) c1000010 (J1000010 k) (s0 v) = d0 (l1 k) v:=fun (v0,v1,v2)=>by kernel_rfl
theorem D0_of (v:T0) {r:R} (h:d0 D1 v = some r):D0 v = some r:=join_of (fun L=>(held_eq _).trans (l0_b (L 0) v)) (d0_cn (.mk fun v=>(D1_cn v).re [0]) v) h
def d1 (p0:Y2):Y1:=fun (v0,v1) =>
br (decide (v0 < 0)) (p0 (wrap .i64 (4294967296 - v1))) (p0 v1)
theorem d1_cn (k0:Pr E T2 R):∀ v:T1,Cn E (d1 k0.p v) fun i=>d1 (k0.q i) v:=fun (v0,v1)=>(.br (k0.h _) (k0.h _))
theorem l1_b ( k:Nat):∀ v:T1,run (cs k) (loopN cs k) c1000012 (J1000012 k) (s1 v) = d1 (l2 k) v:=fun (v0,v1)=>by kernel_rfl
theorem D1_of (v:T1) {r:R} (h:d1 D2 v = some r):D1 v = some r:=join_of (fun L=>(held_eq _).trans (l1_b (L 0) v)) (d1_cn (.mk fun v=>(D2_cn v).re [0]) v) h
def d2:Y2:=fun v0 =>
br (!decide (4294967296 = 0)) (some (v0.tmod 4294967296,0)) none
theorem d2_cn:∀ v:T2,Cn E (d2 v) fun i=>d2 v:=fun v0=>(.br .some .none)
theorem l2_b ( k:Nat):∀ v:T2,run (cs k) (loopN cs k) c1000014 (J1000014 k) (s2 v) = d2 v:=fun v0=>by kernel_rfl
theorem D2_of (v:T2) {r:R} (h:d2 v = some r):D2 v = some r:=join_of (fun L=>(held_eq _).trans (l2_b (L 0) v)) (d2_cn v) h
noncomputable def f (k:Nat):Y:=fun v=>held (runFn cs k Tryz.f126 (sh.args v) (sh.slots v) dec)
noncomputable def F:Y:=lm f
def d (p0:g141.Y) (p1:Y0):Y:=fun (v0,v1) =>
br (decide (v1 < -4294967296) || decide (4294967296 < v1) || decide (v0 < -4294967296) || decide (4294967296 < v0)) (some (0,4)) (br (decide (v1 = 0) && decide (v0 = 0)) (some (0,8)) (br (decide (max v0 (wrap .i64 (0 - v0)) ≤ max v1 (wrap .i64 (0 - v1)))) (bnd (p0 (max v0 (wrap .i64 (0 - v0)),max v1 (wrap .i64 (0 - v1)))) fun r=>p1 (v0,v1,r)) (bnd (p0 (max v1 (wrap .i64 (0 - v1)),max v0 (wrap .i64 (0 - v0)))) fun r=>p1 (v0,v1,wrap .i64 (1073741824 - r)))))
theorem d_cn (k0:Pr E g141.A g141.R) (k1:Pr E T0 R):∀ v:A,Cn E (d k0.p k1.p v) fun i=>d (k0.q i) (k1.q i) v:=fun (v0,v1)=>(.br .some (.br .some (.br (.bnd (k0.h _) fun _=>(k1.h _)) (.bnd (k0.h _) fun _=>(k1.h _)))))
theorem f_b (k:Nat):∀ v:A,f k v = d (g141.f k) (l0 k) v:=fun (v0,v1)=>(held_eq _).trans (by kernel_rfl)
theorem F_of (v:A) {r:R} (h:d g141.F D0 v = some r):F v = some r:=join_of (fun L=>f_b (L 0) v) (d_cn (lp g141.f 0) (.mk fun v=>(D0_cn v).re [0]) v) h
noncomputable def spec (k:Nat):List AV→List Slot→Option Ans:=specS sh os (f k)
theorem spec_ok (k:Nat):SpecOk Tryz.prog 126 (spec k):=specS_ok cs_ok Tryz.func126 rfl rfl (fun _ _=>held_eq _) k
end g142
noncomputable def tg142:=tg141.cons 126 g142.spec g142.spec_ok
namespace g143 -- num_Sqrt
abbrev R:Type:=Int
abbrev A:Type:=Int
abbrev Y:=A→Option R
def lv:List (Nat × List Nat):=[(2000000,[2])]
noncomputable def cs:Nat→Ctx:=ctxOf tis modes tg142.1 lv
theorem cs_ok (n:Nat):CtxOk Tryz.prog (cs n):=ctxOf_ok rfl tis_ok tg142.2 n
def sh:AS:=⟨[(.c (.int .i64))],[]⟩
def os:OS:=⟨.c (.int .i64),[]⟩
def enc (r:R):Out:=os.enc r
def dec:Out→Option R:=os.dec
noncomputable def b0:Code:=subF [] Tryz.f127
noncomputable def K0 (k:Nat):Kt R:=kTop (cs k) Tryz.f127 dec
noncomputable def f (k:Nat):Y:=fun v=>held (runFn cs k Tryz.f127 (sh.args v) (sh.slots v) dec)
noncomputable def F:Y:=lm f
def d (p0:g101.Y):Y:=fun v0 =>
bnd (p0 (v0,1)) fun r=>some r
theorem d_cn (k0:Pr E g101.A g101.R):∀ v:A,Cn E (d k0.p v) fun i=>d (k0.q i) v:=fun v0=>(.bnd (k0.h _) fun _=>.some)
theorem f_b (k:Nat):∀ v:A,f k v = d (g101.f k) v:=fun v0=>(held_eq _).trans (by kernel_rfl)
theorem F_of (v:A) {r:R} (h:d g101.F v = some r):F v = some r:=join_of (fun L=>f_b (L 0) v) (d_cn (lp g101.f 0) v) h
noncomputable def spec (k:Nat):List AV→List Slot→Option Ans:=specS sh os (f k)
theorem spec_ok (k:Nat):SpecOk Tryz.prog 127 (spec k):=specS_ok cs_ok Tryz.func127 rfl rfl (fun _ _=>held_eq _) k
end g143
noncomputable def tg143:=tg142.cons 127 g143.spec g143.spec_ok
namespace g144 -- horizon_Aim
abbrev R:Type:=Int × Int × Int
abbrev A:Type:=Int × Int × Int × Int × Int × Int
abbrev Y:=A→Option R
def lv:List (Nat × List Nat):=[(2000000,[6,7]),(1000017,[6,17,19])]
noncomputable def cs:Nat→Ctx:=ctxOf tis modes tg143.1 lv
theorem cs_ok (n:Nat):CtxOk Tryz.prog (cs n):=ctxOf_ok rfl tis_ok tg143.2 n
def sh:AS:=⟨[.agg [.int .i64,.int .i64],.c (.int .i64),.agg [.int .i64,.int .i64,.int .i64]],[]⟩
def os:OS:=⟨.tup [.agg [.int .i64,.int .i64],.c (.int .i64)],[]⟩
def enc (r:R):Out:=os.enc r
def dec:Out→Option R:=os.dec
noncomputable def b0:Code:=subF [] Tryz.f89
noncomputable def K0 (k:Nat):Kt R:=kTop (cs k) Tryz.f89 dec
noncomputable def c1000017:Code:=sub [1,1,1,1,1,1,1,1,1,1,1,1,1,1] b0
noncomputable def J1000017 ( k:Nat):Kt R:=kAt (cs k) (loopN cs k) [1,1,1,1,1,1,1,1,1,1,1,1,1,1] b0 (K0 k)
abbrev T0:Type:=Int × Int × Int × Int
abbrev Y0:=T0→Option R
def s0:T0→St:=fun (v0,v1,v2,v3)=>⟨118,0,[(6,.c (.ptr 64000000 0)),(17,.c (.int .i64 v0)),(19,.c (.int .i64 v1))],[],[(256000000,.gone),(64000000,.box [.int .i64 v2,.int .i64 v3])]⟩
noncomputable def l0 ( k:Nat) (v:T0):Option R:=held (run (cs k) (loopN cs k) c1000017 (J1000017 k) (s0 v))
noncomputable def D0 (v:T0):Option R:=lim fun L=>l0 (L 0) v
theorem D0_cn (v:T0):Cn late (D0 v) fun L=>l0 (L 0) v:=of_lim
def d0:Y0:=fun (v0,v1,v2,v3) =>
some (v0,v1,0)
theorem d0_cn:∀ v:T0,Cn E (d0 v) fun i=>d0 v:=fun (v0,v1,v2,v3)=>.some
theorem l0_b ( k:Nat):∀ v:T0,run (cs k) (loopN cs k) c1000017 (J1000017 k) (s0 v) = d0 v:=fun (v0,v1,v2,v3)=>by kernel_rfl
theorem D0_of (v:T0) {r:R} (h:d0 v = some r):D0 v = some r:=join_of (fun L=>(held_eq _).trans (l0_b (L 0) v)) (d0_cn v) h
noncomputable def f (k:Nat):Y:=fun v=>held (runFn cs k Tryz.f89 (sh.args v) (sh.slots v) dec)
noncomputable def F:Y:=lm f
noncomputable def d (p0:g73.Y) (p1:g34.Y) (p2:g20.Y) (p3:g75.Y) (p4:g139.Y) (p5:g140.Y) (p6:g78.Y) (p7:g142.Y) (p8:g143.Y) (p9:Y0):Y:=fun (v0,v1,v2,v3,v4,v5) =>
bnd (p0 (v0,v1)) fun r=>bnd (p1 (v3,v4,v5)) fun r_1=>bnd (p2 [r,r_1]) fun r=>br (!decide (r = 0)) (some (0,0,r)) (bnd (p3 (v3,v4,v5)) fun r=>bnd (p4 (wrap .i64 (bAnd .i64 v2 4294967295 + v1))) fun r_2=>bnd (p5 (wrap .i64 (bAnd .i64 v2 4294967295 + v1))) fun r_3=>bnd (p6 (wrap .i64 (wrap .i64 (r.1 * r_2) + wrap .i64 (r.2.1 * r_3)),1048576)) fun r_4=>bnd (p6 (wrap .i64 (wrap .i64 (r.2.1 * r_2) - wrap .i64 (r.1 * r_3)),1048576)) fun r_5=>bnd (p4 v0) fun r_6=>bnd (p5 v0) fun r_7=>bnd (p6 (wrap .i64 (wrap .i64 (wrap .i64 (r.2.2 * 1024) * r_7) + wrap .i64 (r_4 * r_6)),1073741824)) fun r_8=>bnd (p6 (wrap .i64 (wrap .i64 (wrap .i64 (r.2.2 * 1024) * r_6) - wrap .i64 (r_4 * r_7)),1073741824)) fun r=>bnd (p7 (r_5,r)) fun r_9=>bnd (p8 (wrap .i64 (wrap .i64 (r * r) + wrap .i64 (r_5 * r_5)))) fun r=>bnd (p7 (r_8,r)) fun r=>br (decide (2147483648 < r.1)) (p9 (r_9.1,wrap .i64 (r.1 - 4294967296),0,0)) (p9 (r_9.1,r.1,0,0)))
theorem d_cn (k0:Pr E g73.A g73.R) (k1:Pr E g34.A g34.R) (k2:Pr E g20.A g20.R) (k3:Pr E g75.A g75.R) (k4:Pr E g139.A g139.R) (k5:Pr E g140.A g140.R) (k6:Pr E g78.A g78.R) (k7:Pr E g142.A g142.R) (k8:Pr E g143.A g143.R) (k9:Pr E T0 R):∀ v:A,Cn E (d k0.p k1.p k2.p k3.p k4.p k5.p k6.p k7.p k8.p k9.p v) fun i=>d (k0.q i) (k1.q i) (k2.q i) (k3.q i) (k4.q i) (k5.q i) (k6.q i) (k7.q i) (k8.q i) (k9.q i) v:=fun (v0,v1,v2,v3,v4,v5)=>(.bnd (k0.h _) fun _=>(.bnd (k1.h _) fun _=>(.bnd (k2.h _) fun _=>(.br .some (.bnd (k3.h _) fun _=>(.bnd (k4.h _) fun _=>(.bnd (k5.h _) fun _=>(.bnd (k6.h _) fun _=>(.bnd (k6.h _) fun _=>(.bnd (k4.h _) fun _=>(.bnd (k5.h _) fun _=>(.bnd (k6.h _) fun _=>(.bnd (k6.h _) fun _=>(.bnd (k7.h _) fun _=>(.bnd (k8.h _) fun _=>(.bnd (k7.h _) fun _=>(.br (k9.h _) (k9.h _))))))))))))))))))
theorem f_b (k:Nat):∀ v:A,f k v = d (g73.f k) (g34.f k) (g20.f k) (g75.f k) (g139.f k) (g140.f k) (g78.f k) (g142.f k) (g143.f k) (l0 k) v:=fun (v0,v1,v2,v3,v4,v5)=>(held_eq _).trans (by kernel_rfl)
theorem F_of (v:A) {r:R} (h:d g73.F g34.F g20.F g75.F g139.F g140.F g78.F g142.F g143.F D0 v = some r):F v = some r:=join_of (fun L=>f_b (L 0) v) (d_cn (lp g73.f 0) (lp g34.f 0) (lp g20.f 0) (lp g75.f 0) (lp g139.f 0) (lp g140.f 0) (lp g78.f 0) (lp g142.f 0) (lp g143.f 0) (.mk fun v=>(D0_cn v).re [0]) v) h
noncomputable def spec (k:Nat):List AV→List Slot→Option Ans:=specS sh os (f k)
theorem spec_ok (k:Nat):SpecOk Tryz.prog 89 (spec k):=specS_ok cs_ok Tryz.func89 rfl rfl (fun _ _=>held_eq _) k
end g144
noncomputable def tg144:=tg143.cons 89 g144.spec g144.spec_ok
namespace g145 -- slew_Aim
abbrev R:Type:=Int × Int × Int
abbrev A:Type:=Int × Int × Int × Int × Int × Int × Int × Int × Int × Int × Int × Int × Int × Int × Int × Int × List Int × Int × Int × Int × Int
abbrev Y:=A→Option R
def lv:List (Nat × List Nat):=[(2000000,[6,7])]
noncomputable def cs:Nat→Ctx:=ctxOf tis modes tg144.1 lv
theorem cs_ok (n:Nat):CtxOk Tryz.prog (cs n):=ctxOf_ok rfl tis_ok tg144.2 n
def sh:AS:=⟨[.agg [.int .i64,.int .i64,.int .i64,.int .i64,.int .i64,.int .i64,.int .i64,.int .i64,.int .i64,.int .i64,.int .i64,.int .i64,.int .i64,.int .i64,.int .i64,.int .i64,.frz (.int .i64)],.agg [.int .i64,.int .i64,.int .i64],.c (.int .i64)],[]⟩
def os:OS:=⟨.tup [.agg [.int .i64,.int .i64],.c (.int .i64)],[]⟩
def enc (r:R):Out:=os.enc r
def dec:Out→Option R:=os.dec
noncomputable def b0:Code:=subF [] Tryz.f61
noncomputable def K0 (k:Nat):Kt R:=kTop (cs k) Tryz.f61 dec
noncomputable def f (k:Nat):Y:=fun v=>held (runFn cs k Tryz.f61 (sh.args v) (sh.slots v) dec)
noncomputable def F:Y:=lm f
def d (p0:g35.Y) (p1:g138.Y) (p2:g144.Y):Y:=fun (v0,v1,v2,v3,v4,v5,v6,v7,v8,v9,v10,v11,v12,v13,v14,v15,v16,v17,v18,v19,v20) =>
bnd (p0 (v0,v1,v2,v3,v4,v5,v6,v7,v8,v9,v10,v11,v12,v13,v14,v15,v16)) fun r=>br (!decide (r = 0)) (some (0,0,r)) (br (decide (v20 < 0) || decide (v8 < v20)) (some (0,0,4)) (bnd (p1 (v2,v3,v4,v5,wrap .i64 (v6 + wrap .i64 (v20 * v7)))) fun r=>bnd (p2 (v0,v1,r,v17,v18,v19)) fun r=>some (r.1,r.2.1,r.2.2)))
theorem d_cn (k0:Pr E g35.A g35.R) (k1:Pr E g138.A g138.R) (k2:Pr E g144.A g144.R):∀ v:A,Cn E (d k0.p k1.p k2.p v) fun i=>d (k0.q i) (k1.q i) (k2.q i) v:=fun (v0,v1,v2,v3,v4,v5,v6,v7,v8,v9,v10,v11,v12,v13,v14,v15,v16,v17,v18,v19,v20)=>(.bnd (k0.h _) fun _=>(.br .some (.br .some (.bnd (k1.h _) fun _=>(.bnd (k2.h _) fun _=>.some)))))
theorem f_b (k:Nat):∀ v:A,f k v = d (g35.f k) (g138.f k) (g144.f k) v:=fun (v0,v1,v2,v3,v4,v5,v6,v7,v8,v9,v10,v11,v12,v13,v14,v15,v16,v17,v18,v19,v20)=>(held_eq _).trans (by kernel_rfl)
theorem F_of (v:A) {r:R} (h:d g35.F g138.F g144.F v = some r):F v = some r:=join_of (fun L=>f_b (L 0) v) (d_cn (lp g35.f 0) (lp g138.f 0) (lp g144.f 0) v) h
noncomputable def spec (k:Nat):List AV→List Slot→Option Ans:=specS sh os (f k)
theorem spec_ok (k:Nat):SpecOk Tryz.prog 61 (spec k):=specS_ok cs_ok Tryz.func61 rfl rfl (fun _ _=>held_eq _) k
end g145
noncomputable def tg145:=tg144.cons 61 g145.spec g145.spec_ok
namespace g146 -- plan_NewDesk
abbrev R:Type:=Int × Int × Int × Int × Int × Int × Int × Int × Int × Int × Int × Int × Int × Int × Int × Int × Int × Int × Int × Int × Int × Int × Int × Int × Int × Int × Int × List Int × List (ByteArray × Int) × List (Int × Int × (Int × Int × Int) × Int × Int × Int × Int × Int × Int × Int × Int) × List (List Int) × List (List (Int × Int))
abbrev A:Type:=Int × Int × Int × Int × Int × Int × Int × Int × Int × Int × Int × Int × Int × Int × Int × Int × List Int × Int × Int × Int × Int × Int × Int × Int × Int × Int × Int × List (ByteArray × Int) × List (Int × Int × (Int × Int × Int) × Int × Int × Int × Int × Int × Int × Int × Int)
abbrev Y:=A→Option R
def lv:List (Nat × List Nat):=[(3000000,[41,45]),(2000000,[6,7]),(8,[3,6,9,48,49,50]),(12,[3,6,9,10,11,48,49,50,67,68])]
noncomputable def cs:Nat→Ctx:=ctxOf tis modes tg145.1 lv
theorem cs_ok (n:Nat):CtxOk Tryz.prog (cs n):=ctxOf_ok rfl tis_ok tg145.2 n
noncomputable def sh:AS:=⟨[.agg [.int .i64,.int .i64,.int .i64,.int .i64,.int .i64,.int .i64,.int .i64,.int .i64,.int .i64,.int .i64,.int .i64,.int .i64,.int .i64,.int .i64,.int .i64,.int .i64,.frz (.int .i64)],.agg [.int .i64,.int .i64,.int .i64,.int .i64,.int .i64,.int .i64,.int .i64,.int .i64,.int .i64,.int .i64],.agg [.frz y19,.frz y27]],[]⟩
def os:OS:=⟨.tup [.agg [.int .i64,.int .i64,.int .i64,.int .i64,.int .i64,.int .i64,.int .i64,.int .i64,.int .i64,.int .i64,.int .i64,.int .i64,.int .i64,.int .i64,.int .i64,.int .i64,.sl 128000000,.int .i64,.int .i64,.int .i64,.int .i64,.int .i64,.int .i64,.int .i64,.int .i64,.int .i64,.int .i64,.sl 128000001,.sl 128000002,.sl 128000003,.sl 128000004],.c (.int .i64)],[.row (.int .i64),.row y19,.row y27,.nest y4,.nest y38]⟩
def enc (r:R):Out:=os.enc r
def dec:Out→Option R:=os.dec
noncomputable def b0:Code:=subF [] Tryz.f29
noncomputable def K0 (k:Nat):Kt R:=kTop (cs k) Tryz.f29 dec
noncomputable def b8:Code:=sub [1,1,1,1,1,0,1,0,0] b0
noncomputable def K8 ( k:Nat):Kt R:=kAt (cs k) (loopN cs k) [1,1,1,1,1,0,1,0] b0 (K0 k)
noncomputable def b12:Code:=sub [1,1,0,0,1,1,1,0,0] b8
noncomputable def K12 ( k m1:Nat):Kt R:=kAt (cs m1) (loopN cs m1) [1,1,0,0,1,1,1,0] b8 (kLoop cs m1 b8 (K8 k))
abbrev T0:Type:=Int × Int × Int × Int × Int × Int × Int × Int × Int × Int × Int × Int × Int × Int × Int × Int × Int × Int × Int × Int × Int × Int × Int × Int × Int × Int × Int × Int × Int × Int × Int × Int × Int × Int × Int × Int × Int × Int × Int × Int × Int × Int × Int × Int × Int × Int × Int × Int × Int × Int × Int × Int × Int × Int × Int × Int × Int × Int × Int × Int × Int × Int × Int × Int × Int × Int × Int × Int × Int × Int × List (Int × Int × (Int × Int × Int) × Int × Int × Int × Int × Int × Int × Int × Int) × List Int × List Int × List (ByteArray × Int) × List (Int × Int × (Int × Int × Int) × Int × Int × Int × Int × Int × Int × Int × Int) × List (List Int) × List (List (Int × Int)) × List (ByteArray × Int) × List (List Int) × List (List (Int × Int))
abbrev Y0:=T0→Option R
noncomputable def s0:T0→St:=fun (v0,v1,v2,v3,v4,v5,v6,v7,v8,v9,v10,v11,v12,v13,v14,v15,v16,v17,v18,v19,v20,v21,v22,v23,v24,v25,v26,v27,v28,v29,v30,v31,v32,v33,v34,v35,v36,v37,v38,v39,v40,v41,v42,v43,v44,v45,v46,v47,v48,v49,v50,v51,v52,v53,v54,v55,v56,v57,v58,v59,v60,v61,v62,v63,v64,v65,v66,v67,v68,v69,v70,v71,v72,v73,v74,v75,v76,v77,v78,v79)=>⟨94,0,[(3,.c (.ptr 64000000 0)),(6,.c (.ptr 64000001 0)),(9,.c (.ptr 64000002 0)),(48,.c (.sl 64000003)),(49,.c (.int .i64 v0)),(50,.c (.int .i64 v1))],[],[(256000000,.gone),(64000000,.box [.int .i64 v2,.int .i64 v3,.int .i64 v4,.int .i64 v5,.int .i64 v6,.int .i64 v7,.int .i64 v8,.int .i64 v9,.int .i64 v10,.int .i64 v11,.int .i64 v12,.int .i64 v13,.int .i64 v14,.int .i64 v15,.int .i64 v16,.int .i64 v17,.sl 64000004]),(64000001,.box [.int .i64 v18,.int .i64 v19,.int .i64 v20,.int .i64 v21,.int .i64 v22,.int .i64 v23,.int .i64 v24,.int .i64 v25,.int .i64 v26,.int .i64 v27,.int .i64 v28,.int .i64 v29,.int .i64 v30,.int .i64 v31,.int .i64 v32,.int .i64 v33,.sl 64000005,.int .i64 v34,.int .i64 v35,.int .i64 v36,.int .i64 v37,.int .i64 v38,.int .i64 v39,.int .i64 v40,.int .i64 v41,.int .i64 v42,.int .i64 v43,.sl 64000006,.sl 64000007,.sl 64000008,.sl 64000009]),(64000002,.box [.int .i64 v44,.int .i64 v45,.int .i64 v46,.int .i64 v47,.int .i64 v48,.int .i64 v49,.int .i64 v50,.int .i64 v51,.int .i64 v52,.int .i64 v53,.int .i64 v54,.int .i64 v55,.int .i64 v56,.int .i64 v57,.int .i64 v58,.int .i64 v59,.sl 64000004,.int .i64 v60,.int .i64 v61,.int .i64 v62,.int .i64 v63,.int .i64 v64,.int .i64 v65,.int .i64 v66,.int .i64 v67,.int .i64 v68,.int .i64 v69,.sl 64000010,.sl 64000003,.sl 64000011,.sl 64000012]),(64000003,.row y27 v70),(64000004,.row (.int .i64) v71),(64000005,.row (.int .i64) v72),(64000006,.row y19 v73),(64000007,.row y27 v74),(64000008,.nest y4 v75 .none),(64000009,.nest y38 v76 .none),(64000010,.row y19 v77),(64000011,.nest y4 v78 .none),(64000012,.nest y38 v79 .none)]⟩
noncomputable def l0 ( k n:Nat) (v:T0):Option R:=held (loopN cs n b8 (K8 k) (s0 v))
noncomputable def D0 (v:T0):Option R:=lim fun L=>l0 (L 0) (L 1) v
theorem D0_cn (v:T0):Cn late (D0 v) fun L=>l0 (L 0) (L 1) v:=of_lim
abbrev T1:Type:=Int × Int × Int × Int × Int × Int × Int × Int × Int × Int × Int × Int × Int × Int × Int × Int × Int × Int × Int × Int × Int × Int × Int × Int × Int × Int × Int × Int × Int × Int × Int × Int × Int × Int × Int × Int × Int × Int × Int × Int × Int × Int × Int × Int × Int × Int × Int × Int × Int × Int × Int × Int × Int × Int × Int × Int × Int × Int × Int × Int × Int × Int × Int × Int × Int × Int × Int × Int × Int × Int × Int × Int × Int × Int × Int × Int × Int × Int × Int × Int × Int × Int × Int × Int × Int × Int × List (Int × Int × (Int × Int × Int) × Int × Int × Int × Int × Int × Int × Int × Int) × List Int × List Int × List (ByteArray × Int) × List (Int × Int × (Int × Int × Int) × Int × Int × Int × Int × Int × Int × Int × Int) × List (List Int) × List (List (Int × Int)) × List (ByteArray × Int) × List (List Int) × List (List (Int × Int))
abbrev Y1:=T1→Option R
noncomputable def s1:T1→St:=fun (v0,v1,v2,v3,v4,v5,v6,v7,v8,v9,v10,v11,v12,v13,v14,v15,v16,v17,v18,v19,v20,v21,v22,v23,v24,v25,v26,v27,v28,v29,v30,v31,v32,v33,v34,v35,v36,v37,v38,v39,v40,v41,v42,v43,v44,v45,v46,v47,v48,v49,v50,v51,v52,v53,v54,v55,v56,v57,v58,v59,v60,v61,v62,v63,v64,v65,v66,v67,v68,v69,v70,v71,v72,v73,v74,v75,v76,v77,v78,v79,v80,v81,v82,v83,v84,v85,v86,v87,v88,v89,v90,v91,v92,v93,v94,v95)=>⟨94,0,[(3,.c (.ptr 64000000 0)),(6,.c (.ptr 64000001 0)),(9,.c (.ptr 64000002 0)),(10,.c (.int .i64 v0)),(11,.c (.ptr 64000003 0)),(48,.c (.sl 64000004)),(49,.c (.int .i64 v1)),(50,.c (.int .i64 v2)),(67,.c (.int .i64 v3)),(68,.c (.int .i64 v4))],[],[(256000000,.gone),(64000000,.box [.int .i64 v5,.int .i64 v6,.int .i64 v7,.int .i64 v8,.int .i64 v9,.int .i64 v10,.int .i64 v11,.int .i64 v12,.int .i64 v13,.int .i64 v14,.int .i64 v15,.int .i64 v16,.int .i64 v17,.int .i64 v18,.int .i64 v19,.int .i64 v20,.sl 64000005]),(64000001,.box [.int .i64 v21,.int .i64 v22,.int .i64 v23,.int .i64 v24,.int .i64 v25,.int .i64 v26,.int .i64 v27,.int .i64 v28,.int .i64 v29,.int .i64 v30,.int .i64 v31,.int .i64 v32,.int .i64 v33,.int .i64 v34,.int .i64 v35,.int .i64 v36,.sl 64000006,.int .i64 v37,.int .i64 v38,.int .i64 v39,.int .i64 v40,.int .i64 v41,.int .i64 v42,.int .i64 v43,.int .i64 v44,.int .i64 v45,.int .i64 v46,.sl 64000007,.sl 64000008,.sl 64000009,.sl 64000010]),(64000002,.box [.int .i64 v47,.int .i64 v48,.int .i64 v49,.int .i64 v50,.int .i64 v51,.int .i64 v52,.int .i64 v53,.int .i64 v54,.int .i64 v55,.int .i64 v56,.int .i64 v57,.int .i64 v58,.int .i64 v59,.int .i64 v60,.int .i64 v61,.int .i64 v62,.sl 64000005,.int .i64 v63,.int .i64 v64,.int .i64 v65,.int .i64 v66,.int .i64 v67,.int .i64 v68,.int .i64 v69,.int .i64 v70,.int .i64 v71,.int .i64 v72,.sl 64000011,.sl 64000004,.sl 64000012,.sl 64000013]),(64000003,.box [.int .i64 v73,.int .i64 v74,.int .i64 v75,.int .i64 v76,.int .i64 v77,.int .i64 v78,.int .i64 v79,.int .i64 v80,.int .i64 v81,.int .i64 v82,.int .i64 v83,.int .i64 v84,.int .i64 v85]),(64000004,.row y27 v86),(64000005,.row (.int .i64) v87),(64000006,.row (.int .i64) v88),(64000007,.row y19 v89),(64000008,.row y27 v90),(64000009,.nest y4 v91 .none),(64000010,.nest y38 v92 .none),(64000011,.row y19 v93),(64000012,.nest y4 v94 .none),(64000013,.nest y38 v95 .none)]⟩
noncomputable def l1 ( k m1 n:Nat) (v:T1):Option R:=held (loopN cs n b12 (K12 k m1) (s1 v))
noncomputable def D1 (v:T1):Option R:=lim fun L=>l1 (L 0) (L 1) (L 2) v
theorem D1_cn (v:T1):Cn late (D1 v) fun L=>l1 (L 0) (L 1) (L 2) v:=of_lim
noncomputable def d0 (p0:g135.Y) (p1:Y1):Y0:=fun (v0,v1,v2,v3,v4,v5,v6,v7,v8,v9,v10,v11,v12,v13,v14,v15,v16,v17,v18,v19,v20,v21,v22,v23,v24,v25,v26,v27,v28,v29,v30,v31,v32,v33,v34,v35,v36,v37,v38,v39,v40,v41,v42,v43,v44,v45,v46,v47,v48,v49,v50,v51,v52,v53,v54,v55,v56,v57,v58,v59,v60,v61,v62,v63,v64,v65,v66,v67,v68,v69,v70,v71,v72,v73,v74,v75,v76,v77,v78,v79) =>
br (decide (v1 < v0)) (br (decide (0 ≤ v1 ∧ v1 < (↑v70.length:Int))) (bnd (p0 (v2,v3,v4,v5,v6,v7,v8,v9,v10,v11,v12,v13,v14,v15,v16,v17,v71,(rd ty0 v70 v1).1,(rd ty0 v70 v1).2.1,(rd ty0 v70 v1).2.2.1.1,(rd ty0 v70 v1).2.2.1.2.1,(rd ty0 v70 v1).2.2.1.2.2,(rd ty0 v70 v1).2.2.2.1,(rd ty0 v70 v1).2.2.2.2.1,(rd ty0 v70 v1).2.2.2.2.2.1,(rd ty0 v70 v1).2.2.2.2.2.2.1,(rd ty0 v70 v1).2.2.2.2.2.2.2.1,(rd ty0 v70 v1).2.2.2.2.2.2.2.2.1,(rd ty0 v70 v1).2.2.2.2.2.2.2.2.2.1,(rd ty0 v70 v1).2.2.2.2.2.2.2.2.2.2)) fun r=>br (decide (0 ≤ v1 ∧ v1 < (↑v78.length:Int))) (p1 (v1,v0,v1,wrap .i64 (v10 + 1),0,v2,v3,v4,v5,v6,v7,v8,v9,v10,v11,v12,v13,v14,v15,v16,v17,v18,v19,v20,v21,v22,v23,v24,v25,v26,v27,v28,v29,v30,v31,v32,v33,v34,v35,v36,v37,v38,v39,v40,v41,v42,v43,v44,v45,v46,v47,v48,v49,v50,v51,v52,v53,v54,v55,v56,v57,v58,v59,v60,v61,v62,v63,v64,v65,v66,v67,v68,v69,(rd ty0 v70 v1).1,(rd ty0 v70 v1).2.1,(rd ty0 v70 v1).2.2.1.1,(rd ty0 v70 v1).2.2.1.2.1,(rd ty0 v70 v1).2.2.1.2.2,(rd ty0 v70 v1).2.2.2.1,(rd ty0 v70 v1).2.2.2.2.1,(rd ty0 v70 v1).2.2.2.2.2.1,(rd ty0 v70 v1).2.2.2.2.2.2.1,(rd ty0 v70 v1).2.2.2.2.2.2.2.1,(rd ty0 v70 v1).2.2.2.2.2.2.2.2.1,(rd ty0 v70 v1).2.2.2.2.2.2.2.2.2.1,(rd ty0 v70 v1).2.2.2.2.2.2.2.2.2.2,v70,v71,v72,v73,v74,v75,v76,v77,v78.set v1.toNat r.2,v79)) none) none) (some (v44,v45,v46,v47,v48,v49,v50,v51,v52,v53,v54,v55,v56,v57,v58,v59,v60,v61,v62,v63,v64,v65,v66,v67,v68,v69,0,v71,v77,v70,v78,v79))
theorem d0_cn (k0:Pr E g135.A g135.R) (k1:Pr E T1 R):∀ v:T0,Cn E (d0 k0.p k1.p v) fun i=>d0 (k0.q i) (k1.q i) v:=fun (v0,v1,v2,v3,v4,v5,v6,v7,v8,v9,v10,v11,v12,v13,v14,v15,v16,v17,v18,v19,v20,v21,v22,v23,v24,v25,v26,v27,v28,v29,v30,v31,v32,v33,v34,v35,v36,v37,v38,v39,v40,v41,v42,v43,v44,v45,v46,v47,v48,v49,v50,v51,v52,v53,v54,v55,v56,v57,v58,v59,v60,v61,v62,v63,v64,v65,v66,v67,v68,v69,v70,v71,v72,v73,v74,v75,v76,v77,v78,v79)=>(.br (.br (.bnd (k0.h _) fun _=>(.br (k1.h _) .none)) .none) .some)
theorem l0_b ( k m1:Nat):∀ v:T0,run (cs m1) (loopN cs m1) b8 (kLoop cs m1 b8 (K8 k)) (s0 v) = d0 (g135.f m1) (l1 k m1 m1) v:=fun (v0,v1,v2,v3,v4,v5,v6,v7,v8,v9,v10,v11,v12,v13,v14,v15,v16,v17,v18,v19,v20,v21,v22,v23,v24,v25,v26,v27,v28,v29,v30,v31,v32,v33,v34,v35,v36,v37,v38,v39,v40,v41,v42,v43,v44,v45,v46,v47,v48,v49,v50,v51,v52,v53,v54,v55,v56,v57,v58,v59,v60,v61,v62,v63,v64,v65,v66,v67,v68,v69,v70,v71,v72,v73,v74,v75,v76,v77,v78,v79)=>by kernel_rfl
theorem D0_of (v:T0) {r:R} (h:d0 g135.F D1 v = some r):D0 v = some r:=loop_of 1 (fun L n hn=>by show l0 (L 0) (L 1) v = _; rw [hn]; exact (held_eq _).trans ((loopN_succ _ _ _ _ _).trans (l0_b (L 0) n v))) (d0_cn (lp g135.f 1) (.mk fun v=>(D1_cn v).re [0,1,1]) v) h
noncomputable def d1 (p0:g145.Y) (p1:Y1) (p2:Y0):Y1:=fun (v0,v1,v2,v3,v4,v5,v6,v7,v8,v9,v10,v11,v12,v13,v14,v15,v16,v17,v18,v19,v20,v21,v22,v23,v24,v25,v26,v27,v28,v29,v30,v31,v32,v33,v34,v35,v36,v37,v38,v39,v40,v41,v42,v43,v44,v45,v46,v47,v48,v49,v50,v51,v52,v53,v54,v55,v56,v57,v58,v59,v60,v61,v62,v63,v64,v65,v66,v67,v68,v69,v70,v71,v72,v73,v74,v75,v76,v77,v78,v79,v80,v81,v82,v83,v84,v85,v86,v87,v88,v89,v90,v91,v92,v93,v94,v95) =>
br (decide (v4 < v3)) (bnd (p0 (v5,v6,v7,v8,v9,v10,v11,v12,v13,v14,v15,v16,v17,v18,v19,v20,v87,v75,v76,v77,v4)) fun r=>br (decide (0 ≤ v0 ∧ v0 < (↑v95.length:Int))) (br (decide (List.length (rd ((Ty.int .i64).pair (Ty.int .i64)).slice v95 v0) + [(r.1,r.2.1)].length ≤ 140737488355328 / 16)) (br (decide (0 ≤ v0 ∧ v0 < (↑v95.length:Int))) (br (decide (v0 = v0)) (p1 (v0,v1,v2,v3,wrap .i64 (v4 + 1),v5,v6,v7,v8,v9,v10,v11,v12,v13,v14,v15,v16,v17,v18,v19,v20,v21,v22,v23,v24,v25,v26,v27,v28,v29,v30,v31,v32,v33,v34,v35,v36,v37,v38,v39,v40,v41,v42,v43,v44,v45,v46,v47,v48,v49,v50,v51,v52,v53,v54,v55,v56,v57,v58,v59,v60,v61,v62,v63,v64,v65,v66,v67,v68,v69,v70,v71,v72,v73,v74,v75,v76,v77,v78,v79,v80,v81,v82,v83,v84,v85,v86,v87,v88,v89,v90,v91,v92,v93,v94,v95.set v0.toNat (rd ((Ty.int .i64).pair (Ty.int .i64)).slice v95 v0 ++ [(r.1,r.2.1)]))) none) none) none) none) (p2 (v1,wrap .i64 (v2 + 1),v5,v6,v7,v8,v9,v10,v11,v12,v13,v14,v15,v16,v17,v18,v19,v20,v21,v22,v23,v24,v25,v26,v27,v28,v29,v30,v31,v32,v33,v34,v35,v36,v37,v38,v39,v40,v41,v42,v43,v44,v45,v46,v47,v48,v49,v50,v51,v52,v53,v54,v55,v56,v57,v58,v59,v60,v61,v62,v63,v64,v65,v66,v67,v68,v69,v70,v71,v72,v86,v87,v88,v89,v90,v91,v92,v93,v94,v95))
theorem d1_cn (k0:Pr E g145.A g145.R) (k1:Pr E T1 R) (k2:Pr E T0 R):∀ v:T1,Cn E (d1 k0.p k1.p k2.p v) fun i=>d1 (k0.q i) (k1.q i) (k2.q i) v:=fun (v0,v1,v2,v3,v4,v5,v6,v7,v8,v9,v10,v11,v12,v13,v14,v15,v16,v17,v18,v19,v20,v21,v22,v23,v24,v25,v26,v27,v28,v29,v30,v31,v32,v33,v34,v35,v36,v37,v38,v39,v40,v41,v42,v43,v44,v45,v46,v47,v48,v49,v50,v51,v52,v53,v54,v55,v56,v57,v58,v59,v60,v61,v62,v63,v64,v65,v66,v67,v68,v69,v70,v71,v72,v73,v74,v75,v76,v77,v78,v79,v80,v81,v82,v83,v84,v85,v86,v87,v88,v89,v90,v91,v92,v93,v94,v95)=>(.br (.bnd (k0.h _) fun _=>(.br (.br (.br (.br (k1.h _) .none) .none) .none) .none)) (k2.h _))
theorem l1_b ( k m1 m2:Nat):∀ v:T1,run (cs m2) (loopN cs m2) b12 (kLoop cs m2 b12 (K12 k m1)) (s1 v) = d1 (g145.f m2) (l1 k m1 m2) (l0 k m1) v:=fun (v0,v1,v2,v3,v4,v5,v6,v7,v8,v9,v10,v11,v12,v13,v14,v15,v16,v17,v18,v19,v20,v21,v22,v23,v24,v25,v26,v27,v28,v29,v30,v31,v32,v33,v34,v35,v36,v37,v38,v39,v40,v41,v42,v43,v44,v45,v46,v47,v48,v49,v50,v51,v52,v53,v54,v55,v56,v57,v58,v59,v60,v61,v62,v63,v64,v65,v66,v67,v68,v69,v70,v71,v72,v73,v74,v75,v76,v77,v78,v79,v80,v81,v82,v83,v84,v85,v86,v87,v88,v89,v90,v91,v92,v93,v94,v95)=>by kernel_rfl
theorem D1_of (v:T1) {r:R} (h:d1 g145.F D1 D0 v = some r):D1 v = some r:=loop_of 2 (fun L n hn=>by show l1 (L 0) (L 1) (L 2) v = _; rw [hn]; exact (held_eq _).trans ((loopN_succ _ _ _ _ _).trans (l1_b (L 0) (L 1) n v))) (d1_cn (lp g145.f 2) (.mk fun v=>(D1_cn v).re [0,1,2]) (.mk fun v=>(D0_cn v).re [0,1]) v) h
noncomputable def f (k:Nat):Y:=fun v=>held (runFn cs k Tryz.f29 (sh.args v) (sh.slots v) dec)
noncomputable def F:Y:=lm f
noncomputable def d (p0:g43.Y) (p1:g44.Y) (p2:g45.Y) (p3:g46.Y) (p4:Y0):Y:=fun (v0,v1,v2,v3,v4,v5,v6,v7,v8,v9,v10,v11,v12,v13,v14,v15,v16,v17,v18,v19,v20,v21,v22,v23,v24,v25,v26,v27,v28) =>
bnd (p0 (v0,v1,v2,v3,v4,v5,v6,v7,v8,v9,v10,v11,v12,v13,v14,v15,v16,v17,v18,v19,v20,v21,v22,v23,v24,v25,v26,v27,v28)) fun r=>br (!decide (r = 0)) (some (0,0,0,0,0,0,0,0,0,0,0,0,0,0,0,0,0,0,0,0,0,0,0,0,0,0,r,[],[],[],[],[])) (bnd (p1 v16) fun r=>bnd (p2 v27) fun r_1=>bnd (p3 v28) fun r_2=>br (decide (0 ≤ (↑r_2.length:Int) ∧ (↑r_2.length:Int) ≤ (↑r_2.length:Int) ∧ (↑r_2.length:Int) ≤ (↑(140737488355328 / 24):Int))) (br (decide (0 ≤ (↑r_2.length:Int) ∧ (↑r_2.length:Int) ≤ (↑r_2.length:Int) ∧ (↑r_2.length:Int) ≤ (↑(140737488355328 / 24):Int))) (p4 ((↑r_2.length:Int),0,v0,v1,v2,v3,v4,v5,v6,v7,v8,v9,v10,v11,v12,v13,v14,v15,0,0,0,0,0,0,0,0,0,0,0,0,0,0,0,0,0,0,0,0,0,0,0,0,0,0,v0,v1,v2,v3,v4,v5,v6,v7,v8,v9,v10,v11,v12,v13,v14,v15,v17,v18,v19,v20,v21,v22,v23,v24,v25,v26,r_2,r,[],[],[],[],[],r_1,List.replicate (↑r_2.length:Int).toNat (Ty.int .i64).slice.dflt,List.replicate (↑r_2.length:Int).toNat ((Ty.int .i64).pair (Ty.int .i64)).slice.dflt)) none) none)
theorem d_cn (k0:Pr E g43.A g43.R) (k1:Pr E g44.A g44.R) (k2:Pr E g45.A g45.R) (k3:Pr E g46.A g46.R) (k4:Pr E T0 R):∀ v:A,Cn E (d k0.p k1.p k2.p k3.p k4.p v) fun i=>d (k0.q i) (k1.q i) (k2.q i) (k3.q i) (k4.q i) v:=fun (v0,v1,v2,v3,v4,v5,v6,v7,v8,v9,v10,v11,v12,v13,v14,v15,v16,v17,v18,v19,v20,v21,v22,v23,v24,v25,v26,v27,v28)=>(.bnd (k0.h _) fun _=>(.br .some (.bnd (k1.h _) fun _=>(.bnd (k2.h _) fun _=>(.bnd (k3.h _) fun _=>(.br (.br (k4.h _) .none) .none))))))
theorem f_b (k:Nat):∀ v:A,f k v = d (g43.f k) (g44.f k) (g45.f k) (g46.f k) (l0 k k) v:=fun (v0,v1,v2,v3,v4,v5,v6,v7,v8,v9,v10,v11,v12,v13,v14,v15,v16,v17,v18,v19,v20,v21,v22,v23,v24,v25,v26,v27,v28)=>(held_eq _).trans (by kernel_rfl)
theorem F_of (v:A) {r:R} (h:d g43.F g44.F g45.F g46.F D0 v = some r):F v = some r:=join_of (fun L=>f_b (L 0) v) (d_cn (lp g43.f 0) (lp g44.f 0) (lp g45.f 0) (lp g46.f 0) (.mk fun v=>(D0_cn v).re [0,0]) v) h
noncomputable def spec (k:Nat):List AV→List Slot→Option Ans:=specS sh os (f k)
theorem spec_ok (k:Nat):SpecOk Tryz.prog 29 (spec k):=specS_ok cs_ok Tryz.func29 rfl rfl (fun _ _=>held_eq _) k
end g146
noncomputable def tg146:=tg145.cons 29 g146.spec g146.spec_ok
namespace g147 -- plan_CheckState
abbrev R:Type:=Int
abbrev A:Type:=Int × Int × Int × Int × Int × Int × Int × Int × Int × Int × Int × Int × Int × Int × Int × Int × List Int × Int × Int × Int × Int × Int × Int × Int × Int × Int × Int × List (ByteArray × Int) × List (Int × Int × (Int × Int × Int) × Int × Int × Int × Int × Int × Int × Int × Int) × Int × Int × Int × List (List Int)
abbrev Y:=A→Option R
def lv:List (Nat × List Nat):=[(2000000,[8]),(6,[6,7,49,50,51]),(11,[6,7,9,10,49,50,51,65,66,67])]
noncomputable def cs:Nat→Ctx:=ctxOf tis modes tg146.1 lv
theorem cs_ok (n:Nat):CtxOk Tryz.prog (cs n):=ctxOf_ok rfl tis_ok tg146.2 n
def sh:AS:=⟨[.agg [.int .i64,.int .i64,.int .i64,.int .i64,.int .i64,.int .i64,.int .i64,.int .i64,.int .i64,.int .i64,.int .i64,.int .i64,.int .i64,.int .i64,.int .i64,.int .i64,.frz (.int .i64)],.agg [.int .i64,.int .i64,.int .i64,.int .i64,.int .i64,.int .i64,.int .i64,.int .i64,.int .i64,.int .i64],.agg [.frz y19,.frz y27],.agg [.int .i64,.int .i64,.int .i64,.frz y4]],[]⟩
def os:OS:=⟨.c (.int .i64),[]⟩
def enc (r:R):Out:=os.enc r
def dec:Out→Option R:=os.dec
noncomputable def b0:Code:=subF [] Tryz.f28
noncomputable def K0 (k:Nat):Kt R:=kTop (cs k) Tryz.f28 dec
noncomputable def b6:Code:=sub [1,1,1,0,1,0,0] b0
noncomputable def K6 ( k:Nat):Kt R:=kAt (cs k) (loopN cs k) [1,1,1,0,1,0] b0 (K0 k)
noncomputable def b11:Code:=sub [1,1,0,0,1,1,1,0,0] b6
noncomputable def K11 ( k m1:Nat):Kt R:=kAt (cs m1) (loopN cs m1) [1,1,0,0,1,1,1,0] b6 (kLoop cs m1 b6 (K6 k))
abbrev T0:Type:=List (List Int) × Int × Int × List (ByteArray × Int) × List (Int × Int × (Int × Int × Int) × Int × Int × Int × Int × Int × Int × Int × Int) × Int × Int × Int × List (List Int)
abbrev Y0:=T0→Option R
def s0:T0→St:=fun (v0,v1,v2,v3,v4,v5,v6,v7,v8)=>⟨102,0,[(6,.c (.ptr 64000000 0)),(7,.c (.ptr 64000001 0)),(49,.c (.frz y4 v0)),(50,.c (.int .i64 v1)),(51,.c (.int .i64 v2))],[],[(256000000,.gone),(64000000,.box [.frz y19 v3,.frz y27 v4]),(64000001,.box [.int .i64 v5,.int .i64 v6,.int .i64 v7,.frz y4 v8])]⟩
noncomputable def l0 ( k n:Nat) (v:T0):Option R:=held (loopN cs n b6 (K6 k) (s0 v))
noncomputable def D0 (v:T0):Option R:=lim fun L=>l0 (L 0) (L 1) v
theorem D0_cn (v:T0):Cn late (D0 v) fun L=>l0 (L 0) (L 1) v:=of_lim
abbrev T1:Type:=Int × List Int × List (List Int) × Int × Int × List Int × Int × Int × List (ByteArray × Int) × List (Int × Int × (Int × Int × Int) × Int × Int × Int × Int × Int × Int × Int × Int) × Int × Int × Int × List (List Int)
abbrev Y1:=T1→Option R
def s1:T1→St:=fun (v0,v1,v2,v3,v4,v5,v6,v7,v8,v9,v10,v11,v12,v13)=>⟨102,0,[(6,.c (.ptr 64000000 0)),(7,.c (.ptr 64000001 0)),(9,.c (.int .i64 v0)),(10,.c (.frz (.int .i64) v1)),(49,.c (.frz y4 v2)),(50,.c (.int .i64 v3)),(51,.c (.int .i64 v4)),(65,.c (.frz (.int .i64) v5)),(66,.c (.int .i64 v6)),(67,.c (.int .i64 v7))],[],[(256000000,.gone),(64000000,.box [.frz y19 v8,.frz y27 v9]),(64000001,.box [.int .i64 v10,.int .i64 v11,.int .i64 v12,.frz y4 v13])]⟩
noncomputable def l1 ( k m1 n:Nat) (v:T1):Option R:=held (loopN cs n b11 (K11 k m1) (s1 v))
noncomputable def D1 (v:T1):Option R:=lim fun L=>l1 (L 0) (L 1) (L 2) v
theorem D1_cn (v:T1):Cn late (D1 v) fun L=>l1 (L 0) (L 1) (L 2) v:=of_lim
def d0 (p0:Y1):Y0:=fun (v0,v1,v2,v3,v4,v5,v6,v7,v8) =>
br (decide (v2 < v1)) (br (decide (0 ≤ v2 ∧ v2 < (↑v0.length:Int))) (br (decide (0 ≤ v2 ∧ v2 < (↑v4.length:Int))) (br (decide ((rd ty0 v4 v2).2.2.2.2.1 < (↑(List.length (rd (Ty.int .i64).slice v0 v2)):Int))) (some 9) (p0 (v2,rd (Ty.int .i64).slice v0 v2,v0,v1,v2,rd (Ty.int .i64).slice v0 v2,(↑(List.length (rd (Ty.int .i64).slice v0 v2)):Int),0,v3,v4,v5,v6,v7,v8))) none) none) (some 0)
theorem d0_cn (k0:Pr E T1 R):∀ v:T0,Cn E (d0 k0.p v) fun i=>d0 (k0.q i) v:=fun (v0,v1,v2,v3,v4,v5,v6,v7,v8)=>(.br (.br (.br (.br .some (k0.h _)) .none) .none) .some)
theorem l0_b ( k m1:Nat):∀ v:T0,run (cs m1) (loopN cs m1) b6 (kLoop cs m1 b6 (K6 k)) (s0 v) = d0 (l1 k m1 m1) v:=fun (v0,v1,v2,v3,v4,v5,v6,v7,v8)=>by kernel_rfl
theorem D0_of (v:T0) {r:R} (h:d0 D1 v = some r):D0 v = some r:=loop_of 1 (fun L n hn=>by show l0 (L 0) (L 1) v = _; rw [hn]; exact (held_eq _).trans ((loopN_succ _ _ _ _ _).trans (l0_b (L 0) n v))) (d0_cn (.mk fun v=>(D1_cn v).re [0,1,1]) v) h
noncomputable def d1 (p0:Y1) (p1:Y0):Y1:=fun (v0,v1,v2,v3,v4,v5,v6,v7,v8,v9,v10,v11,v12,v13) =>
br (decide (v7 < v6)) (br (decide (0 ≤ v7 ∧ v7 < (↑v5.length:Int))) (br (!decide (rd (Ty.int .i64) v5 v7 < 0) == false || decide (0 ≤ v0 ∧ v0 < (↑v9.length:Int))) (br (!((decide (rd (Ty.int .i64) v5 v7 < 0) || decide (wrap .i64 (v10 - (rd ty0 v9 v0).2.2.2.1) < rd (Ty.int .i64) v5 v7)) == false && decide (0 < v7) == true) || decide (0 ≤ wrap .i64 (v7 - 1) ∧ wrap .i64 (v7 - 1) < (↑v1.length:Int))) (br (decide (rd (Ty.int .i64) v5 v7 < 0) || decide (wrap .i64 (v10 - (rd ty0 v9 v0).2.2.2.1) < rd (Ty.int .i64) v5 v7) || decide (0 < v7) && decide (rd (Ty.int .i64) v5 v7 ≤ rd (Ty.int .i64) v1 (wrap .i64 (v7 - 1)))) (some 11) (p0 (v0,v1,v2,v3,v4,v5,v6,wrap .i64 (v7 + 1),v8,v9,v10,v11,v12,v13))) none) none) none) (p1 (v2,v3,wrap .i64 (v4 + 1),v8,v9,v10,v11,v12,v13))
theorem d1_cn (k0:Pr E T1 R) (k1:Pr E T0 R):∀ v:T1,Cn E (d1 k0.p k1.p v) fun i=>d1 (k0.q i) (k1.q i) v:=fun (v0,v1,v2,v3,v4,v5,v6,v7,v8,v9,v10,v11,v12,v13)=>(.br (.br (.br (.br (.br .some (k0.h _)) .none) .none) .none) (k1.h _))
theorem l1_b ( k m1 m2:Nat):∀ v:T1,run (cs m2) (loopN cs m2) b11 (kLoop cs m2 b11 (K11 k m1)) (s1 v) = d1 (l1 k m1 m2) (l0 k m1) v:=fun (v0,v1,v2,v3,v4,v5,v6,v7,v8,v9,v10,v11,v12,v13)=>by kernel_rfl
theorem D1_of (v:T1) {r:R} (h:d1 D1 D0 v = some r):D1 v = some r:=loop_of 2 (fun L n hn=>by show l1 (L 0) (L 1) (L 2) v = _; rw [hn]; exact (held_eq _).trans ((loopN_succ _ _ _ _ _).trans (l1_b (L 0) (L 1) n v))) (d1_cn (.mk fun v=>(D1_cn v).re [0,1,2]) (.mk fun v=>(D0_cn v).re [0,1]) v) h
noncomputable def f (k:Nat):Y:=fun v=>held (runFn cs k Tryz.f28 (sh.args v) (sh.slots v) dec)
noncomputable def F:Y:=lm f
def d (p0:g37.Y) (p1:Y0):Y:=fun (v0,v1,v2,v3,v4,v5,v6,v7,v8,v9,v10,v11,v12,v13,v14,v15,v16,v17,v18,v19,v20,v21,v22,v23,v24,v25,v26,v27,v28,v29,v30,v31,v32) =>
br ((decide (v29 < 0) || decide (v8 < v29)) == false) (bnd (p0 (v17,v18,v19,v20,v30)) fun r=>br ((!r) == false) (bnd (p0 (v21,v22,v23,v24,v31)) fun r=>br (!r) (some 4) (br (!decide ((↑v32.length:Int) = (↑v28.length:Int))) (some 3) (p1 (v32,(↑v32.length:Int),0,v27,v28,v29,v30,v31,v32)))) (some 4)) (some 4)
theorem d_cn (k0:Pr E g37.A g37.R) (k1:Pr E T0 R):∀ v:A,Cn E (d k0.p k1.p v) fun i=>d (k0.q i) (k1.q i) v:=fun (v0,v1,v2,v3,v4,v5,v6,v7,v8,v9,v10,v11,v12,v13,v14,v15,v16,v17,v18,v19,v20,v21,v22,v23,v24,v25,v26,v27,v28,v29,v30,v31,v32)=>(.br (.bnd (k0.h _) fun _=>(.br (.bnd (k0.h _) fun _=>(.br .some (.br .some (k1.h _)))) .some)) .some)
theorem f_b (k:Nat):∀ v:A,f k v = d (g37.f k) (l0 k k) v:=fun (v0,v1,v2,v3,v4,v5,v6,v7,v8,v9,v10,v11,v12,v13,v14,v15,v16,v17,v18,v19,v20,v21,v22,v23,v24,v25,v26,v27,v28,v29,v30,v31,v32)=>(held_eq _).trans (by kernel_rfl)
theorem F_of (v:A) {r:R} (h:d g37.F D0 v = some r):F v = some r:=join_of (fun L=>f_b (L 0) v) (d_cn (lp g37.f 0) (.mk fun v=>(D0_cn v).re [0,0]) v) h
noncomputable def spec (k:Nat):List AV→List Slot→Option Ans:=specS sh os (f k)
theorem spec_ok (k:Nat):SpecOk Tryz.prog 28 (spec k):=specS_ok cs_ok Tryz.func28 rfl rfl (fun _ _=>held_eq _) k
end g147
noncomputable def tg147:=tg146.cons 28 g147.spec g147.spec_ok
namespace g148 -- plan_Desk_check
abbrev R:Type:=Int
abbrev A:Type:=Int × Int × Int × Int × Int × Int × Int × Int × Int × Int × Int × Int × Int × Int × Int × Int × List Int × Int × Int × Int × Int × Int × Int × Int × Int × Int × Int × List (ByteArray × Int) × List (Int × Int × (Int × Int × Int) × Int × Int × Int × Int × Int × Int × Int × Int) × List (List Int) × List (List (Int × Int)) × Int × Int × Int × List (List Int)
abbrev Y:=A→Option R
def lv:List (Nat × List Nat):=[(2000000,[4])]
noncomputable def cs:Nat→Ctx:=ctxOf tis modes tg147.1 lv
theorem cs_ok (n:Nat):CtxOk Tryz.prog (cs n):=ctxOf_ok rfl tis_ok tg147.2 n
def sh:AS:=⟨[.agg [.int .i64,.int .i64,.int .i64,.int .i64,.int .i64,.int .i64,.int .i64,.int .i64,.int .i64,.int .i64,.int .i64,.int .i64,.int .i64,.int .i64,.int .i64,.int .i64,.frz (.int .i64),.int .i64,.int .i64,.int .i64,.int .i64,.int .i64,.int .i64,.int .i64,.int .i64,.int .i64,.int .i64,.frz y19,.frz y27,.frz y4,.frz y38],.agg [.int .i64,.int .i64,.int .i64,.frz y4]],[]⟩
def os:OS:=⟨.c (.int .i64),[]⟩
def enc (r:R):Out:=os.enc r
def dec:Out→Option R:=os.dec
noncomputable def b0:Code:=subF [] Tryz.f62
noncomputable def K0 (k:Nat):Kt R:=kTop (cs k) Tryz.f62 dec
noncomputable def f (k:Nat):Y:=fun v=>held (runFn cs k Tryz.f62 (sh.args v) (sh.slots v) dec)
noncomputable def F:Y:=lm f
def d (p0:g147.Y):Y:=fun (v0,v1,v2,v3,v4,v5,v6,v7,v8,v9,v10,v11,v12,v13,v14,v15,v16,v17,v18,v19,v20,v21,v22,v23,v24,v25,v26,v27,v28,v29,v30,v31,v32,v33,v34) =>
br (decide (v8 = 0)) (some 10) (bnd (p0 (v0,v1,v2,v3,v4,v5,v6,v7,v8,v9,v10,v11,v12,v13,v14,v15,v16,v17,v18,v19,v20,v21,v22,v23,v24,v25,v26,v27,v28,v31,v32,v33,v34)) fun r=>some r)
theorem d_cn (k0:Pr E g147.A g147.R):∀ v:A,Cn E (d k0.p v) fun i=>d (k0.q i) v:=fun (v0,v1,v2,v3,v4,v5,v6,v7,v8,v9,v10,v11,v12,v13,v14,v15,v16,v17,v18,v19,v20,v21,v22,v23,v24,v25,v26,v27,v28,v29,v30,v31,v32,v33,v34)=>(.br .some (.bnd (k0.h _) fun _=>.some))
theorem f_b (k:Nat):∀ v:A,f k v = d (g147.f k) v:=fun (v0,v1,v2,v3,v4,v5,v6,v7,v8,v9,v10,v11,v12,v13,v14,v15,v16,v17,v18,v19,v20,v21,v22,v23,v24,v25,v26,v27,v28,v29,v30,v31,v32,v33,v34)=>(held_eq _).trans (by kernel_rfl)
theorem F_of (v:A) {r:R} (h:d g147.F v = some r):F v = some r:=join_of (fun L=>f_b (L 0) v) (d_cn (lp g147.f 0) v) h
noncomputable def spec (k:Nat):List AV→List Slot→Option Ans:=specS sh os (f k)
theorem spec_ok (k:Nat):SpecOk Tryz.prog 62 (spec k):=specS_ok cs_ok Tryz.func62 rfl rfl (fun _ _=>held_eq _) k
end g148
noncomputable def tg148:=tg147.cons 62 g148.spec g148.spec_ok
namespace g149 -- plan_Clone
abbrev R:Type:=Int × Int × Int × List (List Int)
abbrev A:Type:=Int × Int × Int × List (List Int)
abbrev Y:=A→Option R
def lv:List (Nat × List Nat):=[(3000000,[9]),(2000000,[2]),(3,[1,2,3,11,12,13])]
noncomputable def cs:Nat→Ctx:=ctxOf tis modes tg148.1 lv
theorem cs_ok (n:Nat):CtxOk Tryz.prog (cs n):=ctxOf_ok rfl tis_ok tg148.2 n
def sh:AS:=⟨[(.agg [.int .i64,.int .i64,.int .i64,.frz y4])],[]⟩
def os:OS:=⟨.agg [.int .i64,.int .i64,.int .i64,.sl 128000000],[(.nest y4)]⟩
def enc (r:R):Out:=os.enc r
def dec:Out→Option R:=os.dec
noncomputable def b0:Code:=subF [] Tryz.f67
noncomputable def K0 (k:Nat):Kt R:=kTop (cs k) Tryz.f67 dec
noncomputable def b3:Code:=sub [1,1,0,1,0,0] b0
noncomputable def K3 ( k:Nat):Kt R:=kAt (cs k) (loopN cs k) [1,1,0,1,0] b0 (K0 k)
abbrev T0:Type:=List (List Int) × Int × Int × Int × Int × Int × List (List Int) × Int × Int × Int × List (List Int) × List (List Int)
abbrev Y0:=T0→Option R
def s0:T0→St:=fun (v0,v1,v2,v3,v4,v5,v6,v7,v8,v9,v10,v11)=>⟨27,0,[(1,.c (.ptr 64000000 0)),(2,.c (.ptr 64000001 0)),(3,.c (.sl 64000002)),(11,.c (.frz y4 v0)),(12,.c (.int .i64 v1)),(13,.c (.int .i64 v2))],[],[(256000000,.gone),(64000000,.box [.int .i64 v3,.int .i64 v4,.int .i64 v5,.frz y4 v6]),(64000001,.box [.int .i64 v7,.int .i64 v8,.int .i64 v9,.sl 64000003]),(64000002,.nest y4 v10 .none),(64000003,.nest y4 v11 .none)]⟩
noncomputable def l0 ( k n:Nat) (v:T0):Option R:=held (loopN cs n b3 (K3 k) (s0 v))
noncomputable def D0 (v:T0):Option R:=lim fun L=>l0 (L 0) (L 1) v
theorem D0_cn (v:T0):Cn late (D0 v) fun L=>l0 (L 0) (L 1) v:=of_lim
def d0 (p0:g44.Y) (p1:Y0):Y0:=fun (v0,v1,v2,v3,v4,v5,v6,v7,v8,v9,v10,v11) =>
br (decide (v2 < v1)) (br (decide (0 ≤ v2 ∧ v2 < (↑v0.length:Int))) (bnd (p0 (rd (Ty.int .i64).slice v0 v2)) fun r=>br (decide (0 ≤ v2 ∧ v2 < (↑v10.length:Int))) (p1 (v0,v1,wrap .i64 (v2 + 1),v3,v4,v5,v6,v7,v8,v9,v10.set v2.toNat r,v11)) none) none) (some (v3,v4,v5,v10))
theorem d0_cn (k0:Pr E g44.A g44.R) (k1:Pr E T0 R):∀ v:T0,Cn E (d0 k0.p k1.p v) fun i=>d0 (k0.q i) (k1.q i) v:=fun (v0,v1,v2,v3,v4,v5,v6,v7,v8,v9,v10,v11)=>(.br (.br (.bnd (k0.h _) fun _=>(.br (k1.h _) .none)) .none) .some)
theorem l0_b ( k m1:Nat):∀ v:T0,run (cs m1) (loopN cs m1) b3 (kLoop cs m1 b3 (K3 k)) (s0 v) = d0 (g44.f m1) (l0 k m1) v:=fun (v0,v1,v2,v3,v4,v5,v6,v7,v8,v9,v10,v11)=>by kernel_rfl
theorem D0_of (v:T0) {r:R} (h:d0 g44.F D0 v = some r):D0 v = some r:=loop_of 1 (fun L n hn=>by show l0 (L 0) (L 1) v = _; rw [hn]; exact (held_eq _).trans ((loopN_succ _ _ _ _ _).trans (l0_b (L 0) n v))) (d0_cn (lp g44.f 1) (.mk fun v=>(D0_cn v).re [0,1]) v) h
noncomputable def f (k:Nat):Y:=fun v=>held (runFn cs k Tryz.f67 (sh.args v) (sh.slots v) dec)
noncomputable def F:Y:=lm f
def d (p0:Y0):Y:=fun (v0,v1,v2,v3) =>
br (decide (0 ≤ (↑v3.length:Int) ∧ (↑v3.length:Int) ≤ (↑v3.length:Int) ∧ (↑v3.length:Int) ≤ (↑(140737488355328 / 24):Int))) (p0 (v3,(↑v3.length:Int),0,v0,v1,v2,v3,0,0,0,List.replicate (↑v3.length:Int).toNat (Ty.int .i64).slice.dflt,[])) none
theorem d_cn (k0:Pr E T0 R):∀ v:A,Cn E (d k0.p v) fun i=>d (k0.q i) v:=fun (v0,v1,v2,v3)=>(.br (k0.h _) .none)
theorem f_b (k:Nat):∀ v:A,f k v = d (l0 k k) v:=fun (v0,v1,v2,v3)=>(held_eq _).trans (by kernel_rfl)
theorem F_of (v:A) {r:R} (h:d D0 v = some r):F v = some r:=join_of (fun L=>f_b (L 0) v) (d_cn (.mk fun v=>(D0_cn v).re [0,0]) v) h
noncomputable def spec (k:Nat):List AV→List Slot→Option Ans:=specS sh os (f k)
theorem spec_ok (k:Nat):SpecOk Tryz.prog 67 (spec k):=specS_ok cs_ok Tryz.func67 rfl rfl (fun _ _=>held_eq _) k
end g149
noncomputable def tg149:=tg148.cons 67 g149.spec g149.spec_ok
namespace g150 -- plan_Used
abbrev R:Type:=List Int
abbrev A:Type:=List (ByteArray × Int) × List (Int × Int × (Int × Int × Int) × Int × Int × Int × Int × Int × Int × Int × Int) × Int × Int × Int × List (List Int)
abbrev Y:=A→Option R
def lv:List (Nat × List Nat):=[(2000000,[4]),(5,[3,5,25,26,27])]
noncomputable def cs:Nat→Ctx:=ctxOf tis modes tg149.1 lv
theorem cs_ok (n:Nat):CtxOk Tryz.prog (cs n):=ctxOf_ok rfl tis_ok tg149.2 n
def sh:AS:=⟨[.agg [.frz y19,.frz y27],.agg [.int .i64,.int .i64,.int .i64,.frz y4]],[]⟩
def os:OS:=⟨.c (.sl 128000000),[(.row (.int .i64))]⟩
def enc (r:R):Out:=os.enc r
def dec:Out→Option R:=os.dec
noncomputable def b0:Code:=subF [] Tryz.f31
noncomputable def K0 (k:Nat):Kt R:=kTop (cs k) Tryz.f31 dec
noncomputable def b5:Code:=sub [1,1,1,0,1,0,0] b0
noncomputable def K5 ( k:Nat):Kt R:=kAt (cs k) (loopN cs k) [1,1,1,0,1,0] b0 (K0 k)
abbrev T0:Type:=List (Int × Int × (Int × Int × Int) × Int × Int × Int × Int × Int × Int × Int × Int) × Int × Int × Int × Int × Int × List (List Int) × List Int
abbrev Y0:=T0→Option R
def s0:T0→St:=fun (v0,v1,v2,v3,v4,v5,v6,v7)=>⟨50,0,[(3,.c (.ptr 64000000 0)),(5,.c (.sl 64000001)),(25,.c (.frz y27 v0)),(26,.c (.int .i64 v1)),(27,.c (.int .i64 v2))],[],[(256000000,.gone),(64000000,.box [.int .i64 v3,.int .i64 v4,.int .i64 v5,.frz y4 v6]),(64000001,.row (.int .i64) v7)]⟩
noncomputable def l0 ( k n:Nat) (v:T0):Option R:=held (loopN cs n b5 (K5 k) (s0 v))
noncomputable def D0 (v:T0):Option R:=lim fun L=>l0 (L 0) (L 1) v
theorem D0_cn (v:T0):Cn late (D0 v) fun L=>l0 (L 0) (L 1) v:=of_lim
def d0 (p0:Y0):Y0:=fun (v0,v1,v2,v3,v4,v5,v6,v7) =>
br (decide (v2 < v1)) (br (decide (0 ≤ v2 ∧ v2 < (↑v0.length:Int))) (br (decide (0 ≤ (rd ty0 v0 v2).2.1 ∧ (rd ty0 v0 v2).2.1 < (↑v7.length:Int))) (br (decide (0 ≤ v2 ∧ v2 < (↑v6.length:Int))) (br (decide (0 ≤ (rd ty0 v0 v2).2.1 ∧ (rd ty0 v0 v2).2.1 < (↑v7.length:Int))) (p0 (v0,v1,wrap .i64 (v2 + 1),v3,v4,v5,v6,v7.set (Int.toNat (rd ty0 v0 v2).2.1) (wrap .i64 (rd (Ty.int .i64) v7 (rd ty0 v0 v2).2.1 + wrap .i64 ((rd ty0 v0 v2).2.2.2.1 * (↑(List.length (rd (Ty.int .i64).slice v6 v2)):Int)))))) none) none) none) none) (some v7)
theorem d0_cn (k0:Pr E T0 R):∀ v:T0,Cn E (d0 k0.p v) fun i=>d0 (k0.q i) v:=fun (v0,v1,v2,v3,v4,v5,v6,v7)=>(.br (.br (.br (.br (.br (k0.h _) .none) .none) .none) .none) .some)
theorem l0_b ( k m1:Nat):∀ v:T0,run (cs m1) (loopN cs m1) b5 (kLoop cs m1 b5 (K5 k)) (s0 v) = d0 (l0 k m1) v:=fun (v0,v1,v2,v3,v4,v5,v6,v7)=>by kernel_rfl
theorem D0_of (v:T0) {r:R} (h:d0 D0 v = some r):D0 v = some r:=loop_of 1 (fun L n hn=>by show l0 (L 0) (L 1) v = _; rw [hn]; exact (held_eq _).trans ((loopN_succ _ _ _ _ _).trans (l0_b (L 0) n v))) (d0_cn (.mk fun v=>(D0_cn v).re [0,1]) v) h
noncomputable def f (k:Nat):Y:=fun v=>held (runFn cs k Tryz.f31 (sh.args v) (sh.slots v) dec)
noncomputable def F:Y:=lm f
def d (p0:g42.Y) (p1:Y0):Y:=fun (v0,v1,v2,v3,v4,v5) =>
bnd (p0 (v0,v1)) fun r=>br (!decide (r = 0) || !decide ((↑v5.length:Int) = (↑v1.length:Int))) (some []) (br (decide (0 ≤ (↑v0.length:Int) ∧ (↑v0.length:Int) ≤ (↑v0.length:Int) ∧ (↑v0.length:Int) ≤ (↑(140737488355328 / 8):Int))) (p1 (v1,(↑v1.length:Int),0,v2,v3,v4,v5,List.replicate (↑v0.length:Int).toNat (Ty.int .i64).dflt)) none)
theorem d_cn (k0:Pr E g42.A g42.R) (k1:Pr E T0 R):∀ v:A,Cn E (d k0.p k1.p v) fun i=>d (k0.q i) (k1.q i) v:=fun (v0,v1,v2,v3,v4,v5)=>(.bnd (k0.h _) fun _=>(.br .some (.br (k1.h _) .none)))
theorem f_b (k:Nat):∀ v:A,f k v = d (g42.f k) (l0 k k) v:=fun (v0,v1,v2,v3,v4,v5)=>(held_eq _).trans (by kernel_rfl)
theorem F_of (v:A) {r:R} (h:d g42.F D0 v = some r):F v = some r:=join_of (fun L=>f_b (L 0) v) (d_cn (lp g42.f 0) (.mk fun v=>(D0_cn v).re [0,0]) v) h
noncomputable def spec (k:Nat):List AV→List Slot→Option Ans:=specS sh os (f k)
theorem spec_ok (k:Nat):SpecOk Tryz.prog 31 (spec k):=specS_ok cs_ok Tryz.func31 rfl rfl (fun _ _=>held_eq _) k
end g150
noncomputable def tg150:=tg149.cons 31 g150.spec g150.spec_ok
namespace g151 -- slew_mod
abbrev R:Type:=Int
abbrev A:Type:=Int
abbrev Y:=A→Option R
def lv:List (Nat × List Nat):=[(2000000,[2]),(1000004,[0])]
noncomputable def cs:Nat→Ctx:=ctxOf tis modes tg150.1 lv
theorem cs_ok (n:Nat):CtxOk Tryz.prog (cs n):=ctxOf_ok rfl tis_ok tg150.2 n
def sh:AS:=⟨[(.c (.int .i64))],[]⟩
def os:OS:=⟨.c (.int .i64),[]⟩
def enc (r:R):Out:=os.enc r
def dec:Out→Option R:=os.dec
noncomputable def b0:Code:=subF [] Tryz.f168
noncomputable def K0 (k:Nat):Kt R:=kTop (cs k) Tryz.f168 dec
noncomputable def c1000004:Code:=sub [1,1,1] b0
noncomputable def J1000004 ( k:Nat):Kt R:=kAt (cs k) (loopN cs k) [1,1,1] b0 (K0 k)
abbrev T0:Type:=Int
abbrev Y0:=T0→Option R
def s0:T0→St:=fun v0=>⟨10,0,[(0,.c (.int .i64 v0))],[],[(256000000,.gone)]⟩
noncomputable def l0 ( k:Nat) (v:T0):Option R:=held (run (cs k) (loopN cs k) c1000004 (J1000004 k) (s0 v))
noncomputable def D0 (v:T0):Option R:=lim fun L=>l0 (L 0) v
theorem D0_cn (v:T0):Cn late (D0 v) fun L=>l0 (L 0) v:=of_lim
def d0:Y0:=fun v0 =>
some v0
theorem d0_cn:∀ v:T0,Cn E (d0 v) fun i=>d0 v:=fun v0=>.some
theorem l0_b ( k:Nat):∀ v:T0,run (cs k) (loopN cs k) c1000004 (J1000004 k) (s0 v) = d0 v:=fun v0=>by kernel_rfl
theorem D0_of (v:T0) {r:R} (h:d0 v = some r):D0 v = some r:=join_of (fun L=>(held_eq _).trans (l0_b (L 0) v)) (d0_cn v) h
noncomputable def f (k:Nat):Y:=fun v=>held (runFn cs k Tryz.f168 (sh.args v) (sh.slots v) dec)
noncomputable def F:Y:=lm f
def d (p0:Y0):Y:=fun v0 =>
br (!decide (4294967296 = 0)) (br (decide (v0.tmod (4294967296:Int) < 0)) (p0 (wrap .i64 (v0.tmod 4294967296 + 4294967296))) (p0 (v0.tmod 4294967296))) none
theorem d_cn (k0:Pr E T0 R):∀ v:A,Cn E (d k0.p v) fun i=>d (k0.q i) v:=fun v0=>(.br (.br (k0.h _) (k0.h _)) .none)
theorem f_b (k:Nat):∀ v:A,f k v = d (l0 k) v:=fun v0=>(held_eq _).trans (by kernel_rfl)
theorem F_of (v:A) {r:R} (h:d D0 v = some r):F v = some r:=join_of (fun L=>f_b (L 0) v) (d_cn (.mk fun v=>(D0_cn v).re [0]) v) h
noncomputable def spec (k:Nat):List AV→List Slot→Option Ans:=specS sh os (f k)
theorem spec_ok (k:Nat):SpecOk Tryz.prog 168 (spec k):=specS_ok cs_ok Tryz.func168 rfl rfl (fun _ _=>held_eq _) k
end g151
noncomputable def tg151:=tg150.cons 168 g151.spec g151.spec_ok
namespace g152 -- slew_abs
abbrev R:Type:=Int
abbrev A:Type:=Int
abbrev Y:=A→Option R
def lv:List (Nat × List Nat):=[(2000000,[2])]
noncomputable def cs:Nat→Ctx:=ctxOf tis modes tg151.1 lv
theorem cs_ok (n:Nat):CtxOk Tryz.prog (cs n):=ctxOf_ok rfl tis_ok tg151.2 n
def sh:AS:=⟨[(.c (.int .i64))],[]⟩
def os:OS:=⟨.c (.int .i64),[]⟩
def enc (r:R):Out:=os.enc r
def dec:Out→Option R:=os.dec
noncomputable def b0:Code:=subF [] Tryz.f128
noncomputable def K0 (k:Nat):Kt R:=kTop (cs k) Tryz.f128 dec
noncomputable def f (k:Nat):Y:=fun v=>held (runFn cs k Tryz.f128 (sh.args v) (sh.slots v) dec)
noncomputable def F:Y:=lm f
def d:Y:=fun v0 =>
some (max v0 (wrap .i64 (0 - v0)))
theorem d_cn:∀ v:A,Cn E (d v) fun i=>d v:=fun v0=>.some
theorem f_b (k:Nat):∀ v:A,f k v = d v:=fun v0=>(held_eq _).trans (by kernel_rfl)
theorem F_of (v:A) {r:R} (h:d v = some r):F v = some r:=join_of (fun L=>f_b (L 0) v) (d_cn v) h
noncomputable def spec (k:Nat):List AV→List Slot→Option Ans:=specS sh os (f k)
theorem spec_ok (k:Nat):SpecOk Tryz.prog 128 (spec k):=specS_ok cs_ok Tryz.func128 rfl rfl (fun _ _=>held_eq _) k
end g152
noncomputable def tg152:=tg151.cons 128 g152.spec g152.spec_ok
namespace g153 -- slew_Target
abbrev R:Type:=Int × Int
abbrev A:Type:=Int × Int × Int × Int × Int × Int
abbrev Y:=A→Option R
def lv:List (Nat × List Nat):=[(2000000,[6,7]),(10,[1,3,9,10]),(1000011,[1,3,9,10])]
noncomputable def cs:Nat→Ctx:=ctxOf tis modes tg152.1 lv
theorem cs_ok (n:Nat):CtxOk Tryz.prog (cs n):=ctxOf_ok rfl tis_ok tg152.2 n
def sh:AS:=⟨[.agg [.int .i64,.int .i64,.int .i64,.int .i64],.c (.int .i64),.c (.int .i64)],[]⟩
def os:OS:=⟨.tup [.c (.int .i64),.c (.int .i64)],[]⟩
def enc (r:R):Out:=os.enc r
def dec:Out→Option R:=os.dec
noncomputable def b0:Code:=subF [] Tryz.f130
noncomputable def K0 (k:Nat):Kt R:=kTop (cs k) Tryz.f130 dec
noncomputable def b10:Code:=sub [1,1,1,1,1,1,0,0,0] b0
noncomputable def K10 ( k:Nat):Kt R:=kAt (cs k) (loopN cs k) [1,1,1,1,1,1,0,0] b0 (K0 k)
noncomputable def c1000011:Code:=sub [1,1] b10
noncomputable def J1000011 ( k m1:Nat):Kt R:=kAt (cs m1) (loopN cs m1) [1,1] b10 (kLoop cs m1 b10 (K10 k))
abbrev T0:Type:=Int × Int × Int × Int × Int × Int × Int
abbrev Y0:=T0→Option R
def s0:T0→St:=fun (v0,v1,v2,v3,v4,v5,v6)=>⟨52,0,[(1,.c (.int .i64 v0)),(3,.c (.ptr 64000000 0)),(9,.c (.int .i64 v1)),(10,.c (.int .i64 v2))],[],[(256000000,.gone),(64000000,.box [.int .i64 v3,.int .i64 v4,.int .i64 v5,.int .i64 v6])]⟩
noncomputable def l0 ( k n:Nat) (v:T0):Option R:=held (loopN cs n b10 (K10 k) (s0 v))
noncomputable def D0 (v:T0):Option R:=lim fun L=>l0 (L 0) (L 1) v
theorem D0_cn (v:T0):Cn late (D0 v) fun L=>l0 (L 0) (L 1) v:=of_lim
abbrev T1:Type:=Int × Int × Int × Int × Int × Int × Int
abbrev Y1:=T1→Option R
def s1:T1→St:=fun (v0,v1,v2,v3,v4,v5,v6)=>⟨52,0,[(1,.c (.int .i64 v0)),(3,.c (.ptr 64000000 0)),(9,.c (.int .i64 v1)),(10,.c (.int .i64 v2))],[],[(256000000,.gone),(64000000,.box [.int .i64 v3,.int .i64 v4,.int .i64 v5,.int .i64 v6])]⟩
noncomputable def l1 ( k m1:Nat) (v:T1):Option R:=held (run (cs m1) (loopN cs m1) c1000011 (J1000011 k m1) (s1 v))
noncomputable def D1 (v:T1):Option R:=lim fun L=>l1 (L 0) (L 1) v
theorem D1_cn (v:T1):Cn late (D1 v) fun L=>l1 (L 0) (L 1) v:=of_lim
def d0 (p0:g152.Y) (p1:Y1):Y0:=fun (v0,v1,v2,v3,v4,v5,v6) =>
br (decide (v1 ≤ v4)) (bnd (p0 (wrap .i64 (v1 - v0))) fun r=>bnd (p0 (wrap .i64 (v2 - v0))) fun r_1=>br (decide (r < r_1)) (p1 (v0,v1,v1,v3,v4,v5,v6)) (p1 (v0,v1,v2,v3,v4,v5,v6))) (some (v2,0))
theorem d0_cn (k0:Pr E g152.A g152.R) (k1:Pr E T1 R):∀ v:T0,Cn E (d0 k0.p k1.p v) fun i=>d0 (k0.q i) (k1.q i) v:=fun (v0,v1,v2,v3,v4,v5,v6)=>(.br (.bnd (k0.h _) fun _=>(.bnd (k0.h _) fun _=>(.br (k1.h _) (k1.h _)))) .some)
theorem l0_b ( k m1:Nat):∀ v:T0,run (cs m1) (loopN cs m1) b10 (kLoop cs m1 b10 (K10 k)) (s0 v) = d0 (g152.f m1) (l1 k m1) v:=fun (v0,v1,v2,v3,v4,v5,v6)=>by kernel_rfl
theorem D0_of (v:T0) {r:R} (h:d0 g152.F D1 v = some r):D0 v = some r:=loop_of 1 (fun L n hn=>by show l0 (L 0) (L 1) v = _; rw [hn]; exact (held_eq _).trans ((loopN_succ _ _ _ _ _).trans (l0_b (L 0) n v))) (d0_cn (lp g152.f 1) (.mk fun v=>(D1_cn v).re [0,1]) v) h
def d1 (p0:Y0):Y1:=fun (v0,v1,v2,v3,v4,v5,v6) =>
p0 (v0,wrap .i64 (v1 + 4294967296),v2,v3,v4,v5,v6)
theorem d1_cn (k0:Pr E T0 R):∀ v:T1,Cn E (d1 k0.p v) fun i=>d1 (k0.q i) v:=fun (v0,v1,v2,v3,v4,v5,v6)=>(k0.h _)
theorem l1_b ( k m1:Nat):∀ v:T1,run (cs m1) (loopN cs m1) c1000011 (J1000011 k m1) (s1 v) = d1 (l0 k m1) v:=fun (v0,v1,v2,v3,v4,v5,v6)=>by kernel_rfl
theorem D1_of (v:T1) {r:R} (h:d1 D0 v = some r):D1 v = some r:=join_of (fun L=>(held_eq _).trans (l1_b (L 0) (L 1) v)) (d1_cn (.mk fun v=>(D0_cn v).re [0,1]) v) h
noncomputable def f (k:Nat):Y:=fun v=>held (runFn cs k Tryz.f130 (sh.args v) (sh.slots v) dec)
noncomputable def F:Y:=lm f
def d (p0:g36.Y) (p1:g37.Y) (p2:g151.Y) (p3:Y0):Y:=fun (v0,v1,v2,v3,v4,v5) =>
bnd (p0 (v0,v1,v2,v3)) fun r=>br (!decide (r = 0)) (some (0,r)) (bnd (p1 (v0,v1,v2,v3,v4)) fun r=>br (!r) (some (0,4)) (bnd (p2 v5) fun r=>bnd (p2 v0) fun r_1=>bnd (p2 (wrap .i64 (r - r_1))) fun r=>br (decide (v1 < wrap .i64 (v0 + r))) (some (0,4)) (p3 (v4,wrap .i64 (v0 + r),wrap .i64 (v0 + r),v0,v1,v2,v3))))
theorem d_cn (k0:Pr E g36.A g36.R) (k1:Pr E g37.A g37.R) (k2:Pr E g151.A g151.R) (k3:Pr E T0 R):∀ v:A,Cn E (d k0.p k1.p k2.p k3.p v) fun i=>d (k0.q i) (k1.q i) (k2.q i) (k3.q i) v:=fun (v0,v1,v2,v3,v4,v5)=>(.bnd (k0.h _) fun _=>(.br .some (.bnd (k1.h _) fun _=>(.br .some (.bnd (k2.h _) fun _=>(.bnd (k2.h _) fun _=>(.bnd (k2.h _) fun _=>(.br .some (k3.h _)))))))))
theorem f_b (k:Nat):∀ v:A,f k v = d (g36.f k) (g37.f k) (g151.f k) (l0 k k) v:=fun (v0,v1,v2,v3,v4,v5)=>(held_eq _).trans (by kernel_rfl)
theorem F_of (v:A) {r:R} (h:d g36.F g37.F g151.F D0 v = some r):F v = some r:=join_of (fun L=>f_b (L 0) v) (d_cn (lp g36.f 0) (lp g37.f 0) (lp g151.f 0) (.mk fun v=>(D0_cn v).re [0,0]) v) h
noncomputable def spec (k:Nat):List AV→List Slot→Option Ans:=specS sh os (f k)
theorem spec_ok (k:Nat):SpecOk Tryz.prog 130 (spec k):=specS_ok cs_ok Tryz.func130 rfl rfl (fun _ _=>held_eq _) k
end g153
noncomputable def tg153:=tg152.cons 130 g153.spec g153.spec_ok
namespace g154 -- slew_fastest
abbrev R:Type:=Int
abbrev A:Type:=Int × Int × Int × Int × Int
abbrev Y:=A→Option R
def lv:List (Nat × List Nat):=[(2000000,[4]),(2,[1,2,5])]
noncomputable def cs:Nat→Ctx:=ctxOf tis modes tg153.1 lv
theorem cs_ok (n:Nat):CtxOk Tryz.prog (cs n):=ctxOf_ok rfl tis_ok tg153.2 n
def sh:AS:=⟨[.agg [.int .i64,.int .i64,.int .i64,.int .i64],.c (.int .i64)],[]⟩
def os:OS:=⟨.c (.int .i64),[]⟩
def enc (r:R):Out:=os.enc r
def dec:Out→Option R:=os.dec
noncomputable def b0:Code:=subF [] Tryz.f169
noncomputable def K0 (k:Nat):Kt R:=kTop (cs k) Tryz.f169 dec
noncomputable def b2:Code:=sub [1,0,1,0,0] b0
noncomputable def K2 ( k:Nat):Kt R:=kAt (cs k) (loopN cs k) [1,0,1,0] b0 (K0 k)
abbrev T0:Type:=Int × Int × Int × Int × Int × Int
abbrev Y0:=T0→Option R
def s0:T0→St:=fun (v0,v1,v2,v3,v4,v5)=>⟨37,0,[(1,.c (.int .i64 v0)),(2,.c (.ptr 64000000 0)),(5,.c (.int .i64 v1))],[],[(256000000,.gone),(64000000,.box [.int .i64 v2,.int .i64 v3,.int .i64 v4,.int .i64 v5])]⟩
noncomputable def l0 ( k n:Nat) (v:T0):Option R:=held (loopN cs n b2 (K2 k) (s0 v))
noncomputable def D0 (v:T0):Option R:=lim fun L=>l0 (L 0) (L 1) v
theorem D0_cn (v:T0):Cn late (D0 v) fun L=>l0 (L 0) (L 1) v:=of_lim
def d0 (p0:Y0):Y0:=fun (v0,v1,v2,v3,v4,v5) =>
br (decide (v1 ≤ 64)) (br (!decide (2 = 0)) (br (decide (v0 ≤ wrap .i64 (v5 * wrap .i64 ((wrap .i64 (v1 * wrap .i64 (v1 + 1))).tdiv 2)))) (br (!decide (2 = 0)) (br (!decide (v1 = 0)) (some (min v4 (wrap .i64 ((wrap .i64 (v0 + wrap .i64 (v5 * wrap .i64 ((wrap .i64 (v1 * wrap .i64 (v1 - 1))).tdiv 2)))).tdiv v1)))) none) none) (p0 (v0,wrap .i64 (v1 + 1),v2,v3,v4,v5))) none) (some v4)
theorem d0_cn (k0:Pr E T0 R):∀ v:T0,Cn E (d0 k0.p v) fun i=>d0 (k0.q i) v:=fun (v0,v1,v2,v3,v4,v5)=>(.br (.br (.br (.br (.br .some .none) .none) (k0.h _)) .none) .some)
theorem l0_b ( k m1:Nat):∀ v:T0,run (cs m1) (loopN cs m1) b2 (kLoop cs m1 b2 (K2 k)) (s0 v) = d0 (l0 k m1) v:=fun (v0,v1,v2,v3,v4,v5)=>by kernel_rfl
theorem D0_of (v:T0) {r:R} (h:d0 D0 v = some r):D0 v = some r:=loop_of 1 (fun L n hn=>by show l0 (L 0) (L 1) v = _; rw [hn]; exact (held_eq _).trans ((loopN_succ _ _ _ _ _).trans (l0_b (L 0) n v))) (d0_cn (.mk fun v=>(D0_cn v).re [0,1]) v) h
noncomputable def f (k:Nat):Y:=fun v=>held (runFn cs k Tryz.f169 (sh.args v) (sh.slots v) dec)
noncomputable def F:Y:=lm f
def d (p0:Y0):Y:=fun (v0,v1,v2,v3,v4) =>
p0 (v4,1,v0,v1,v2,v3)
theorem d_cn (k0:Pr E T0 R):∀ v:A,Cn E (d k0.p v) fun i=>d (k0.q i) v:=fun (v0,v1,v2,v3,v4)=>(k0.h _)
theorem f_b (k:Nat):∀ v:A,f k v = d (l0 k k) v:=fun (v0,v1,v2,v3,v4)=>(held_eq _).trans (by kernel_rfl)
theorem F_of (v:A) {r:R} (h:d D0 v = some r):F v = some r:=join_of (fun L=>f_b (L 0) v) (d_cn (.mk fun v=>(D0_cn v).re [0,0]) v) h
noncomputable def spec (k:Nat):List AV→List Slot→Option Ans:=specS sh os (f k)
theorem spec_ok (k:Nat):SpecOk Tryz.prog 169 (spec k):=specS_ok cs_ok Tryz.func169 rfl rfl (fun _ _=>held_eq _) k
end g154
noncomputable def tg154:=tg153.cons 169 g154.spec g154.spec_ok
namespace g155 -- slew_stop
abbrev R:Type:=Int
abbrev A:Type:=Int × Int × Int × Int
abbrev Y:=A→Option R
def lv:List (Nat × List Nat):=[(2000000,[2])]
noncomputable def cs:Nat→Ctx:=ctxOf tis modes tg154.1 lv
theorem cs_ok (n:Nat):CtxOk Tryz.prog (cs n):=ctxOf_ok rfl tis_ok tg154.2 n
def sh:AS:=⟨[(.agg [.int .i64,.int .i64,.int .i64,.int .i64])],[]⟩
def os:OS:=⟨.c (.int .i64),[]⟩
def enc (r:R):Out:=os.enc r
def dec:Out→Option R:=os.dec
noncomputable def b0:Code:=subF [] Tryz.f170
noncomputable def K0 (k:Nat):Kt R:=kTop (cs k) Tryz.f170 dec
noncomputable def f (k:Nat):Y:=fun v=>held (runFn cs k Tryz.f170 (sh.args v) (sh.slots v) dec)
noncomputable def F:Y:=lm f
def d:Y:=fun (v0,v1,v2,v3) =>
br (!decide (v3 = 0)) (br (!decide (2 = 0)) (some (wrap .i64 (wrap .i64 (wrap .i64 ((wrap .i64 (wrap .i64 (v2 + v3) - 1)).tdiv v3) * v2) - wrap .i64 (v3 * wrap .i64 ((wrap .i64 (wrap .i64 ((wrap .i64 (wrap .i64 (v2 + v3) - 1)).tdiv v3) * wrap .i64 (wrap .i64 ((wrap .i64 (wrap .i64 (v2 + v3) - 1)).tdiv v3) - 1))).tdiv 2))))) none) none
theorem d_cn:∀ v:A,Cn E (d v) fun i=>d v:=fun (v0,v1,v2,v3)=>(.br (.br .some .none) .none)
theorem f_b (k:Nat):∀ v:A,f k v = d v:=fun (v0,v1,v2,v3)=>(held_eq _).trans (by kernel_rfl)
theorem F_of (v:A) {r:R} (h:d v = some r):F v = some r:=join_of (fun L=>f_b (L 0) v) (d_cn v) h
noncomputable def spec (k:Nat):List AV→List Slot→Option Ans:=specS sh os (f k)
theorem spec_ok (k:Nat):SpecOk Tryz.prog 170 (spec k):=specS_ok cs_ok Tryz.func170 rfl rfl (fun _ _=>held_eq _) k
end g155
noncomputable def tg155:=tg154.cons 170 g155.spec g155.spec_ok
namespace g156 -- slew_Steps
abbrev R:Type:=Int × Int
abbrev A:Type:=Int × Int × Int × Int × Int × Int
abbrev Y:=A→Option R
def lv:List (Nat × List Nat):=[(2000000,[6,7]),(7,[3,9,10,11]),(1000013,[3,9,10,11]),(1000017,[11])]
noncomputable def cs:Nat→Ctx:=ctxOf tis modes tg155.1 lv
theorem cs_ok (n:Nat):CtxOk Tryz.prog (cs n):=ctxOf_ok rfl tis_ok tg155.2 n
def sh:AS:=⟨[.agg [.int .i64,.int .i64,.int .i64,.int .i64],.c (.int .i64),.c (.int .i64)],[]⟩
def os:OS:=⟨.tup [.c (.int .i64),.c (.int .i64)],[]⟩
def enc (r:R):Out:=os.enc r
def dec:Out→Option R:=os.dec
noncomputable def b0:Code:=subF [] Tryz.f131
noncomputable def K0 (k:Nat):Kt R:=kTop (cs k) Tryz.f131 dec
noncomputable def b7:Code:=sub [1,1,1,1,0,0,0] b0
noncomputable def K7 ( k:Nat):Kt R:=kAt (cs k) (loopN cs k) [1,1,1,1,0,0] b0 (K0 k)
noncomputable def c1000013:Code:=sub [1,0,1,1] b7
noncomputable def J1000013 ( k m1:Nat):Kt R:=kAt (cs m1) (loopN cs m1) [1,0,1,1] b7 (kLoop cs m1 b7 (K7 k))
noncomputable def c1000017:Code:=sub [1,1,1,1,1,1] b0
noncomputable def J1000017 ( k:Nat):Kt R:=kAt (cs k) (loopN cs k) [1,1,1,1,1,1] b0 (K0 k)
abbrev T0:Type:=Int × Int × Int × Int × Int × Int × Int
abbrev Y0:=T0→Option R
def s0:T0→St:=fun (v0,v1,v2,v3,v4,v5,v6)=>⟨78,0,[(3,.c (.ptr 64000000 0)),(9,.c (.int .i64 v0)),(10,.c (.int .i64 v1)),(11,.c (.int .i64 v2))],[],[(256000000,.gone),(64000000,.box [.int .i64 v3,.int .i64 v4,.int .i64 v5,.int .i64 v6])]⟩
noncomputable def l0 ( k n:Nat) (v:T0):Option R:=held (loopN cs n b7 (K7 k) (s0 v))
noncomputable def D0 (v:T0):Option R:=lim fun L=>l0 (L 0) (L 1) v
theorem D0_cn (v:T0):Cn late (D0 v) fun L=>l0 (L 0) (L 1) v:=of_lim
abbrev T1:Type:=Int × Int × Int × Int × Int × Int × Int
abbrev Y1:=T1→Option R
def s1:T1→St:=fun (v0,v1,v2,v3,v4,v5,v6)=>⟨78,0,[(3,.c (.ptr 64000000 0)),(9,.c (.int .i64 v0)),(10,.c (.int .i64 v1)),(11,.c (.int .i64 v2))],[],[(256000000,.gone),(64000000,.box [.int .i64 v3,.int .i64 v4,.int .i64 v5,.int .i64 v6])]⟩
noncomputable def l1 ( k m1:Nat) (v:T1):Option R:=held (run (cs m1) (loopN cs m1) c1000013 (J1000013 k m1) (s1 v))
noncomputable def D1 (v:T1):Option R:=lim fun L=>l1 (L 0) (L 1) v
theorem D1_cn (v:T1):Cn late (D1 v) fun L=>l1 (L 0) (L 1) v:=of_lim
abbrev T2:Type:=Int
abbrev Y2:=T2→Option R
def s2:T2→St:=fun v0=>⟨78,0,[(11,.c (.int .i64 v0))],[],[(256000000,.gone)]⟩
noncomputable def l2 ( k:Nat) (v:T2):Option R:=held (run (cs k) (loopN cs k) c1000017 (J1000017 k) (s2 v))
noncomputable def D2 (v:T2):Option R:=lim fun L=>l2 (L 0) v
theorem D2_cn (v:T2):Cn late (D2 v) fun L=>l2 (L 0) v:=of_lim
def d0 (p0:g154.Y) (p1:g155.Y) (p2:Y1) (p3:Y2):Y0:=fun (v0,v1,v2,v3,v4,v5,v6) =>
br (decide (0 < v0)) (bnd (p0 (v3,v4,v5,v6,v0)) fun r=>bnd (p1 (v3,v4,v5,v6)) fun r_1=>br (!decide (v5 = 0)) (br (decide (min (wrap .i64 (v1 + v6)) r = v5) && decide (1 < wrap .i64 ((wrap .i64 (v0 - r_1)).tdiv v5))) (p2 (wrap .i64 (v0 - wrap .i64 (wrap .i64 (wrap .i64 ((wrap .i64 (v0 - r_1)).tdiv v5) - 1) * v5)),min (wrap .i64 (v1 + v6)) r,wrap .i64 (v2 + wrap .i64 (wrap .i64 ((wrap .i64 (v0 - r_1)).tdiv v5) - 1)),v3,v4,v5,v6)) (p2 (v0,min (wrap .i64 (v1 + v6)) r,v2,v3,v4,v5,v6))) none) (br (decide (0 < v1)) (p3 (wrap .i64 (v2 + 1))) (p3 v2))
theorem d0_cn (k0:Pr E g154.A g154.R) (k1:Pr E g155.A g155.R) (k2:Pr E T1 R) (k3:Pr E T2 R):∀ v:T0,Cn E (d0 k0.p k1.p k2.p k3.p v) fun i=>d0 (k0.q i) (k1.q i) (k2.q i) (k3.q i) v:=fun (v0,v1,v2,v3,v4,v5,v6)=>(.br (.bnd (k0.h _) fun _=>(.bnd (k1.h _) fun _=>(.br (.br (k2.h _) (k2.h _)) .none))) (.br (k3.h _) (k3.h _)))
theorem l0_b ( k m1:Nat):∀ v:T0,run (cs m1) (loopN cs m1) b7 (kLoop cs m1 b7 (K7 k)) (s0 v) = d0 (g154.f m1) (g155.f m1) (l1 k m1) (l2 k) v:=fun (v0,v1,v2,v3,v4,v5,v6)=>by kernel_rfl
theorem D0_of (v:T0) {r:R} (h:d0 g154.F g155.F D1 D2 v = some r):D0 v = some r:=loop_of 1 (fun L n hn=>by show l0 (L 0) (L 1) v = _; rw [hn]; exact (held_eq _).trans ((loopN_succ _ _ _ _ _).trans (l0_b (L 0) n v))) (d0_cn (lp g154.f 1) (lp g155.f 1) (.mk fun v=>(D1_cn v).re [0,1]) (.mk fun v=>(D2_cn v).re [0]) v) h
def d1 (p0:Y0):Y1:=fun (v0,v1,v2,v3,v4,v5,v6) =>
p0 (wrap .i64 (v0 - v1),v1,wrap .i64 (v2 + 1),v3,v4,v5,v6)
theorem d1_cn (k0:Pr E T0 R):∀ v:T1,Cn E (d1 k0.p v) fun i=>d1 (k0.q i) v:=fun (v0,v1,v2,v3,v4,v5,v6)=>(k0.h _)
theorem l1_b ( k m1:Nat):∀ v:T1,run (cs m1) (loopN cs m1) c1000013 (J1000013 k m1) (s1 v) = d1 (l0 k m1) v:=fun (v0,v1,v2,v3,v4,v5,v6)=>by kernel_rfl
theorem D1_of (v:T1) {r:R} (h:d1 D0 v = some r):D1 v = some r:=join_of (fun L=>(held_eq _).trans (l1_b (L 0) (L 1) v)) (d1_cn (.mk fun v=>(D0_cn v).re [0,1]) v) h
def d2:Y2:=fun v0 =>
some (v0,0)
theorem d2_cn:∀ v:T2,Cn E (d2 v) fun i=>d2 v:=fun v0=>.some
theorem l2_b ( k:Nat):∀ v:T2,run (cs k) (loopN cs k) c1000017 (J1000017 k) (s2 v) = d2 v:=fun v0=>by kernel_rfl
theorem D2_of (v:T2) {r:R} (h:d2 v = some r):D2 v = some r:=join_of (fun L=>(held_eq _).trans (l2_b (L 0) v)) (d2_cn v) h
noncomputable def f (k:Nat):Y:=fun v=>held (runFn cs k Tryz.f131 (sh.args v) (sh.slots v) dec)
noncomputable def F:Y:=lm f
def d (p0:g36.Y) (p1:g37.Y) (p2:g152.Y) (p3:Y0):Y:=fun (v0,v1,v2,v3,v4,v5) =>
bnd (p0 (v0,v1,v2,v3)) fun r=>br (!decide (r = 0)) (some (0,r)) (bnd (p1 (v0,v1,v2,v3,v4)) fun r=>br ((!r) == false) (bnd (p1 (v0,v1,v2,v3,v5)) fun r=>br (!r) (some (0,4)) (bnd (p2 (wrap .i64 (v5 - v4))) fun r=>p3 (r,0,0,v0,v1,v2,v3))) (some (0,4)))
theorem d_cn (k0:Pr E g36.A g36.R) (k1:Pr E g37.A g37.R) (k2:Pr E g152.A g152.R) (k3:Pr E T0 R):∀ v:A,Cn E (d k0.p k1.p k2.p k3.p v) fun i=>d (k0.q i) (k1.q i) (k2.q i) (k3.q i) v:=fun (v0,v1,v2,v3,v4,v5)=>(.bnd (k0.h _) fun _=>(.br .some (.bnd (k1.h _) fun _=>(.br (.bnd (k1.h _) fun _=>(.br .some (.bnd (k2.h _) fun _=>(k3.h _)))) .some))))
theorem f_b (k:Nat):∀ v:A,f k v = d (g36.f k) (g37.f k) (g152.f k) (l0 k k) v:=fun (v0,v1,v2,v3,v4,v5)=>(held_eq _).trans (by kernel_rfl)
theorem F_of (v:A) {r:R} (h:d g36.F g37.F g152.F D0 v = some r):F v = some r:=join_of (fun L=>f_b (L 0) v) (d_cn (lp g36.f 0) (lp g37.f 0) (lp g152.f 0) (.mk fun v=>(D0_cn v).re [0,0]) v) h
noncomputable def spec (k:Nat):List AV→List Slot→Option Ans:=specS sh os (f k)
theorem spec_ok (k:Nat):SpecOk Tryz.prog 131 (spec k):=specS_ok cs_ok Tryz.func131 rfl rfl (fun _ _=>held_eq _) k
end g156
noncomputable def tg156:=tg155.cons 131 g156.spec g156.spec_ok
namespace g157 -- slew_To
abbrev R:Type:=Int × Int × Int × Int
abbrev A:Type:=Int × Int × Int × Int × Int × Int × Int × Int × Int × Int × Int × Int × Int × Int
abbrev Y:=A→Option R
def lv:List (Nat × List Nat):=[(2000000,[6,7,8])]
noncomputable def cs:Nat→Ctx:=ctxOf tis modes tg156.1 lv
theorem cs_ok (n:Nat):CtxOk Tryz.prog (cs n):=ctxOf_ok rfl tis_ok tg156.2 n
def sh:AS:=⟨[.agg [.int .i64,.int .i64,.int .i64,.int .i64,.int .i64,.int .i64,.int .i64,.int .i64,.int .i64,.int .i64],.agg [.int .i64,.int .i64],.agg [.int .i64,.int .i64]],[]⟩
def os:OS:=⟨.tup [.agg [.int .i64,.int .i64],.c (.int .i64),.c (.int .i64)],[]⟩
def enc (r:R):Out:=os.enc r
def dec:Out→Option R:=os.dec
noncomputable def b0:Code:=subF [] Tryz.f94
noncomputable def K0 (k:Nat):Kt R:=kTop (cs k) Tryz.f94 dec
noncomputable def f (k:Nat):Y:=fun v=>held (runFn cs k Tryz.f94 (sh.args v) (sh.slots v) dec)
noncomputable def F:Y:=lm f
def d (p0:g38.Y) (p1:g153.Y) (p2:g156.Y):Y:=fun (v0,v1,v2,v3,v4,v5,v6,v7,v8,v9,v10,v11,v12,v13) =>
bnd (p0 (v0,v1,v2,v3,v4,v5,v6,v7,v8,v9)) fun r=>br (!decide (r = 0)) (some (0,0,0,r)) (bnd (p1 (v0,v1,v2,v3,v10,v12)) fun r=>br (!decide (r.2 = 0)) (some (0,0,0,r.2)) (bnd (p1 (v4,v5,v6,v7,v11,v13)) fun r_1=>br (!decide (r_1.2 = 0)) (some (0,0,0,r_1.2)) (bnd (p2 (v0,v1,v2,v3,v10,r.1)) fun r_2=>bnd (p2 (v4,v5,v6,v7,v11,r_1.1)) fun r_3=>some (r.1,r_1.1,max r_2.1 r_3.1,0))))
theorem d_cn (k0:Pr E g38.A g38.R) (k1:Pr E g153.A g153.R) (k2:Pr E g156.A g156.R):∀ v:A,Cn E (d k0.p k1.p k2.p v) fun i=>d (k0.q i) (k1.q i) (k2.q i) v:=fun (v0,v1,v2,v3,v4,v5,v6,v7,v8,v9,v10,v11,v12,v13)=>(.bnd (k0.h _) fun _=>(.br .some (.bnd (k1.h _) fun _=>(.br .some (.bnd (k1.h _) fun _=>(.br .some (.bnd (k2.h _) fun _=>(.bnd (k2.h _) fun _=>.some))))))))
theorem f_b (k:Nat):∀ v:A,f k v = d (g38.f k) (g153.f k) (g156.f k) v:=fun (v0,v1,v2,v3,v4,v5,v6,v7,v8,v9,v10,v11,v12,v13)=>(held_eq _).trans (by kernel_rfl)
theorem F_of (v:A) {r:R} (h:d g38.F g153.F g156.F v = some r):F v = some r:=join_of (fun L=>f_b (L 0) v) (d_cn (lp g38.f 0) (lp g153.f 0) (lp g156.f 0) v) h
noncomputable def spec (k:Nat):List AV→List Slot→Option Ans:=specS sh os (f k)
theorem spec_ok (k:Nat):SpecOk Tryz.prog 94 (spec k):=specS_ok cs_ok Tryz.func94 rfl rfl (fun _ _=>held_eq _) k
end g157
noncomputable def tg157:=tg156.cons 94 g157.spec g157.spec_ok
namespace g158 -- slew_Slots
abbrev R:Type:=Int
abbrev A:Type:=Int × Int × Int × Int × Int × Int × Int × Int × Int × Int × Int × Int × Int × Int × Int × Int × List Int × Int
abbrev Y:=A→Option R
def lv:List (Nat × List Nat):=[(2000000,[4])]
noncomputable def cs:Nat→Ctx:=ctxOf tis modes tg157.1 lv
theorem cs_ok (n:Nat):CtxOk Tryz.prog (cs n):=ctxOf_ok rfl tis_ok tg157.2 n
def sh:AS:=⟨[.agg [.int .i64,.int .i64,.int .i64,.int .i64,.int .i64,.int .i64,.int .i64,.int .i64,.int .i64,.int .i64,.int .i64,.int .i64,.int .i64,.int .i64,.int .i64,.int .i64,.frz (.int .i64)],.c (.int .i64)],[]⟩
def os:OS:=⟨.c (.int .i64),[]⟩
def enc (r:R):Out:=os.enc r
def dec:Out→Option R:=os.dec
noncomputable def b0:Code:=subF [] Tryz.f95
noncomputable def K0 (k:Nat):Kt R:=kTop (cs k) Tryz.f95 dec
noncomputable def f (k:Nat):Y:=fun v=>held (runFn cs k Tryz.f95 (sh.args v) (sh.slots v) dec)
noncomputable def F:Y:=lm f
def d (p0:g35.Y):Y:=fun (v0,v1,v2,v3,v4,v5,v6,v7,v8,v9,v10,v11,v12,v13,v14,v15,v16,v17) =>
bnd (p0 (v0,v1,v2,v3,v4,v5,v6,v7,v8,v9,v10,v11,v12,v13,v14,v15,v16)) fun r=>br (!decide (r = 0) || decide (v17 ≤ 0)) (some 0) (br (!decide (v7 = 0)) (some (wrap .i64 ((wrap .i64 (wrap .i64 (wrap .i64 (min v17 1048576 * 1000) + v7) - 1)).tdiv v7))) none)
theorem d_cn (k0:Pr E g35.A g35.R):∀ v:A,Cn E (d k0.p v) fun i=>d (k0.q i) v:=fun (v0,v1,v2,v3,v4,v5,v6,v7,v8,v9,v10,v11,v12,v13,v14,v15,v16,v17)=>(.bnd (k0.h _) fun _=>(.br .some (.br .some .none)))
theorem f_b (k:Nat):∀ v:A,f k v = d (g35.f k) v:=fun (v0,v1,v2,v3,v4,v5,v6,v7,v8,v9,v10,v11,v12,v13,v14,v15,v16,v17)=>(held_eq _).trans (by kernel_rfl)
theorem F_of (v:A) {r:R} (h:d g35.F v = some r):F v = some r:=join_of (fun L=>f_b (L 0) v) (d_cn (lp g35.f 0) v) h
noncomputable def spec (k:Nat):List AV→List Slot→Option Ans:=specS sh os (f k)
theorem spec_ok (k:Nat):SpecOk Tryz.prog 95 (spec k):=specS_ok cs_ok Tryz.func95 rfl rfl (fun _ _=>held_eq _) k
end g158
noncomputable def tg158:=tg157.cons 95 g158.spec g158.spec_ok
namespace g159 -- plan_Desk_reach
abbrev R:Type:=Int × Int × Int × Bool
abbrev A:Type:=Int × Int × Int × Int × Int × Int × Int × Int × Int × Int × Int × Int × Int × Int × Int × Int × List Int × Int × Int × Int × Int × Int × Int × Int × Int × Int × Int × List (ByteArray × Int) × List (Int × Int × (Int × Int × Int) × Int × Int × Int × Int × Int × Int × Int × Int) × List (List Int) × List (List (Int × Int)) × Int × Int × Int × List (List Int) × Int
abbrev Y:=A→Option R
def lv:List (Nat × List Nat):=[(2000000,[6,7,8]),(2,[2,3,4,7,9])]
noncomputable def cs:Nat→Ctx:=ctxOf tis modes tg158.1 lv
theorem cs_ok (n:Nat):CtxOk Tryz.prog (cs n):=ctxOf_ok rfl tis_ok tg158.2 n
def sh:AS:=⟨[.agg [.int .i64,.int .i64,.int .i64,.int .i64,.int .i64,.int .i64,.int .i64,.int .i64,.int .i64,.int .i64,.int .i64,.int .i64,.int .i64,.int .i64,.int .i64,.int .i64,.frz (.int .i64),.int .i64,.int .i64,.int .i64,.int .i64,.int .i64,.int .i64,.int .i64,.int .i64,.int .i64,.int .i64,.frz y19,.frz y27,.frz y4,.frz y38],.agg [.int .i64,.int .i64,.int .i64,.frz y4],.c (.int .i64)],[]⟩
def os:OS:=⟨.tup [.c (.int .i64),.agg [.int .i64,.int .i64],.c .bool],[]⟩
def enc (r:R):Out:=os.enc r
def dec:Out→Option R:=os.dec
noncomputable def b0:Code:=subF [] Tryz.f90
noncomputable def K0 (k:Nat):Kt R:=kTop (cs k) Tryz.f90 dec
noncomputable def b2:Code:=sub [1,0,1,0,0] b0
noncomputable def K2 ( k:Nat):Kt R:=kAt (cs k) (loopN cs k) [1,0,1,0] b0 (K0 k)
abbrev T0:Type:=Int × Int × Int × Int × Int × Int × Int × Int × Int × Int × Int × Int × Int × Int × Int × Int × Int × Int × List Int × Int × Int × Int × Int × Int × Int × Int × Int × Int × Int × List (ByteArray × Int) × List (Int × Int × (Int × Int × Int) × Int × Int × Int × Int × Int × Int × Int × Int) × List (List Int) × List (List (Int × Int)) × Int × Int × Int × List (List Int) × Int × Int
abbrev Y0:=T0→Option R
noncomputable def s0:T0→St:=fun (v0,v1,v2,v3,v4,v5,v6,v7,v8,v9,v10,v11,v12,v13,v14,v15,v16,v17,v18,v19,v20,v21,v22,v23,v24,v25,v26,v27,v28,v29,v30,v31,v32,v33,v34,v35,v36,v37,v38)=>⟨63,0,[(2,.c (.int .i64 v0)),(3,.c (.ptr 64000000 0)),(4,.c (.ptr 64000001 0)),(7,.c (.ptr 64000002 0)),(9,.c (.int .i64 v1))],[],[(256000000,.gone),(64000000,.box [.int .i64 v2,.int .i64 v3,.int .i64 v4,.int .i64 v5,.int .i64 v6,.int .i64 v7,.int .i64 v8,.int .i64 v9,.int .i64 v10,.int .i64 v11,.int .i64 v12,.int .i64 v13,.int .i64 v14,.int .i64 v15,.int .i64 v16,.int .i64 v17,.frz (.int .i64) v18,.int .i64 v19,.int .i64 v20,.int .i64 v21,.int .i64 v22,.int .i64 v23,.int .i64 v24,.int .i64 v25,.int .i64 v26,.int .i64 v27,.int .i64 v28,.frz y19 v29,.frz y27 v30,.frz y4 v31,.frz y38 v32]),(64000001,.box [.int .i64 v33,.int .i64 v34,.int .i64 v35,.frz y4 v36]),(64000002,.box [.int .i64 v37,.int .i64 v38])]⟩
noncomputable def l0 ( k n:Nat) (v:T0):Option R:=held (loopN cs n b2 (K2 k) (s0 v))
noncomputable def D0 (v:T0):Option R:=lim fun L=>l0 (L 0) (L 1) v
theorem D0_cn (v:T0):Cn late (D0 v) fun L=>l0 (L 0) (L 1) v:=of_lim
noncomputable def d0 (p0:g157.Y) (p1:g158.Y) (p2:Y0):Y0:=fun (v0,v1,v2,v3,v4,v5,v6,v7,v8,v9,v10,v11,v12,v13,v14,v15,v16,v17,v18,v19,v20,v21,v22,v23,v24,v25,v26,v27,v28,v29,v30,v31,v32,v33,v34,v35,v36,v37,v38) =>
br (decide (0 ≤ v0 ∧ v0 < (↑v30.length:Int))) (br (decide (v1 ≤ wrap .i64 (v10 - (rd ty0 v30 v0).2.2.2.1))) (br (decide (0 ≤ v0 ∧ v0 < (↑v32.length:Int))) (br (decide (0 ≤ v1 ∧ v1 < (↑(List.length (rd ((Ty.int .i64).pair (Ty.int .i64)).slice v32 v0)):Int))) (bnd (p0 (v19,v20,v21,v22,v23,v24,v25,v26,v27,v28,v34,v35,(rd ((Ty.int .i64).pair (Ty.int .i64)) (rd ((Ty.int .i64).pair (Ty.int .i64)).slice v32 v0) v1).1,(rd ((Ty.int .i64).pair (Ty.int .i64)) (rd ((Ty.int .i64).pair (Ty.int .i64)).slice v32 v0) v1).2)) fun r=>br (decide (r.2.2.2 = 0) == true) (br (decide (r.2.2.2 = 0) == true) (bnd (p1 (v2,v3,v4,v5,v6,v7,v8,v9,v10,v11,v12,v13,v14,v15,v16,v17,v18,r.2.2.1)) fun r_1=>br (decide (r.2.2.2 = 0) && decide (r_1 ≤ wrap .i64 (v1 - v33))) (some (v1,r.1,r.2.1,true)) (p2 (v0,wrap .i64 (v1 + 1),v2,v3,v4,v5,v6,v7,v8,v9,v10,v11,v12,v13,v14,v15,v16,v17,v18,v19,v20,v21,v22,v23,v24,v25,v26,v27,v28,v29,v30,v31,v32,v33,v34,v35,v36,v37,v38))) (br (!decide (r.2.2.2 = 0) == true) (br (!decide (r.2.2.2 = 0)) (p2 (v0,wrap .i64 (v1 + 1),v2,v3,v4,v5,v6,v7,v8,v9,v10,v11,v12,v13,v14,v15,v16,v17,v18,v19,v20,v21,v22,v23,v24,v25,v26,v27,v28,v29,v30,v31,v32,v33,v34,v35,v36,v37,v38)) none) none)) (br (decide (r.2.2.2 = 0) == true) none (br (!decide (r.2.2.2 = 0) == true) (br (!decide (r.2.2.2 = 0)) (p2 (v0,wrap .i64 (v1 + 1),v2,v3,v4,v5,v6,v7,v8,v9,v10,v11,v12,v13,v14,v15,v16,v17,v18,v19,v20,v21,v22,v23,v24,v25,v26,v27,v28,v29,v30,v31,v32,v33,v34,v35,v36,v37,v38)) none) none))) none) none) (some (0,0,0,false))) none
theorem d0_cn (k0:Pr E g157.A g157.R) (k1:Pr E g158.A g158.R) (k2:Pr E T0 R):∀ v:T0,Cn E (d0 k0.p k1.p k2.p v) fun i=>d0 (k0.q i) (k1.q i) (k2.q i) v:=fun (v0,v1,v2,v3,v4,v5,v6,v7,v8,v9,v10,v11,v12,v13,v14,v15,v16,v17,v18,v19,v20,v21,v22,v23,v24,v25,v26,v27,v28,v29,v30,v31,v32,v33,v34,v35,v36,v37,v38)=>(.br (.br (.br (.br (.bnd (k0.h _) fun _=>(.br (.br (.bnd (k1.h _) fun _=>(.br .some (k2.h _))) (.br (.br (k2.h _) .none) .none)) (.br .none (.br (.br (k2.h _) .none) .none)))) .none) .none) .some) .none)
theorem l0_b ( k m1:Nat):∀ v:T0,run (cs m1) (loopN cs m1) b2 (kLoop cs m1 b2 (K2 k)) (s0 v) = d0 (g157.f m1) (g158.f m1) (l0 k m1) v:=fun (v0,v1,v2,v3,v4,v5,v6,v7,v8,v9,v10,v11,v12,v13,v14,v15,v16,v17,v18,v19,v20,v21,v22,v23,v24,v25,v26,v27,v28,v29,v30,v31,v32,v33,v34,v35,v36,v37,v38)=>by kernel_rfl
theorem D0_of (v:T0) {r:R} (h:d0 g157.F g158.F D0 v = some r):D0 v = some r:=loop_of 1 (fun L n hn=>by show l0 (L 0) (L 1) v = _; rw [hn]; exact (held_eq _).trans ((loopN_succ _ _ _ _ _).trans (l0_b (L 0) n v))) (d0_cn (lp g157.f 1) (lp g158.f 1) (.mk fun v=>(D0_cn v).re [0,1]) v) h
noncomputable def f (k:Nat):Y:=fun v=>held (runFn cs k Tryz.f90 (sh.args v) (sh.slots v) dec)
noncomputable def F:Y:=lm f
def d (p0:Y0):Y:=fun (v0,v1,v2,v3,v4,v5,v6,v7,v8,v9,v10,v11,v12,v13,v14,v15,v16,v17,v18,v19,v20,v21,v22,v23,v24,v25,v26,v27,v28,v29,v30,v31,v32,v33,v34,v35) =>
p0 (v35,v31,v0,v1,v2,v3,v4,v5,v6,v7,v8,v9,v10,v11,v12,v13,v14,v15,v16,v17,v18,v19,v20,v21,v22,v23,v24,v25,v26,v27,v28,v29,v30,v31,v32,v33,v34,0,0)
theorem d_cn (k0:Pr E T0 R):∀ v:A,Cn E (d k0.p v) fun i=>d (k0.q i) v:=fun (v0,v1,v2,v3,v4,v5,v6,v7,v8,v9,v10,v11,v12,v13,v14,v15,v16,v17,v18,v19,v20,v21,v22,v23,v24,v25,v26,v27,v28,v29,v30,v31,v32,v33,v34,v35)=>(k0.h _)
theorem f_b (k:Nat):∀ v:A,f k v = d (l0 k k) v:=fun (v0,v1,v2,v3,v4,v5,v6,v7,v8,v9,v10,v11,v12,v13,v14,v15,v16,v17,v18,v19,v20,v21,v22,v23,v24,v25,v26,v27,v28,v29,v30,v31,v32,v33,v34,v35)=>(held_eq _).trans (by kernel_rfl)
theorem F_of (v:A) {r:R} (h:d D0 v = some r):F v = some r:=join_of (fun L=>f_b (L 0) v) (d_cn (.mk fun v=>(D0_cn v).re [0,0]) v) h
noncomputable def spec (k:Nat):List AV→List Slot→Option Ans:=specS sh os (f k)
theorem spec_ok (k:Nat):SpecOk Tryz.prog 90 (spec k):=specS_ok cs_ok Tryz.func90 rfl rfl (fun _ _=>held_eq _) k
end g159
noncomputable def tg159:=tg158.cons 90 g159.spec g159.spec_ok
namespace g160 -- slew_Track
abbrev R:Type:=Int × Int × Int
abbrev A:Type:=Int × Int × Int × Int × Int × Int × Int × Int × Int × Int × Int × Int × Int × Int × Int × Int × Int × Int × Int × Int × Int × Int × Int × Int × Int × Int × List Int × Int × Int × Int × Int × Int × Int × Int
abbrev Y:=A→Option R
def lv:List (Nat × List Nat):=[(2000000,[12,13]),(10,[5,6,7,8,9,12,16])]
noncomputable def cs:Nat→Ctx:=ctxOf tis modes tg159.1 lv
theorem cs_ok (n:Nat):CtxOk Tryz.prog (cs n):=ctxOf_ok rfl tis_ok tg159.2 n
def sh:AS:=⟨[.agg [.int .i64,.int .i64,.int .i64,.int .i64,.int .i64,.int .i64,.int .i64,.int .i64,.int .i64,.int .i64],.agg [.int .i64,.int .i64,.int .i64,.int .i64,.int .i64,.int .i64,.int .i64,.int .i64,.int .i64,.int .i64,.int .i64,.int .i64,.int .i64,.int .i64,.int .i64,.int .i64,.frz (.int .i64)],.agg [.int .i64,.int .i64],.agg [.int .i64,.int .i64,.int .i64],.c (.int .i64),.c (.int .i64)],[]⟩
def os:OS:=⟨.tup [.agg [.int .i64,.int .i64],.c (.int .i64)],[]⟩
def enc (r:R):Out:=os.enc r
def dec:Out→Option R:=os.dec
noncomputable def b0:Code:=subF [] Tryz.f91
noncomputable def K0 (k:Nat):Kt R:=kTop (cs k) Tryz.f91 dec
noncomputable def b10:Code:=sub [1,1,1,1,0,1,0,0] b0
noncomputable def K10 ( k:Nat):Kt R:=kAt (cs k) (loopN cs k) [1,1,1,1,0,1,0] b0 (K0 k)
abbrev T0:Type:=Int × Int × Int × Int × Int × Int × Int × Int × Int × Int × Int × Int × Int × Int × Int × Int × Int × Int × Int × Int × Int × Int × Int × Int × Int × Int × Int × Int × List Int × Int × Int × Int × Int × Int × Int × Int
abbrev Y0:=T0→Option R
noncomputable def s0:T0→St:=fun (v0,v1,v2,v3,v4,v5,v6,v7,v8,v9,v10,v11,v12,v13,v14,v15,v16,v17,v18,v19,v20,v21,v22,v23,v24,v25,v26,v27,v28,v29,v30,v31,v32,v33,v34,v35)=>⟨112,0,[(5,.c (.int .i64 v0)),(6,.c (.ptr 64000000 0)),(7,.c (.ptr 64000001 0)),(8,.c (.ptr 64000002 0)),(9,.c (.ptr 64000003 0)),(12,.c (.ptr 64000004 0)),(16,.c (.int .i64 v1))],[],[(256000000,.gone),(64000000,.box [.int .i64 v2,.int .i64 v3,.int .i64 v4,.int .i64 v5,.int .i64 v6,.int .i64 v7,.int .i64 v8,.int .i64 v9,.int .i64 v10,.int .i64 v11]),(64000001,.box [.int .i64 v12,.int .i64 v13,.int .i64 v14,.int .i64 v15,.int .i64 v16,.int .i64 v17,.int .i64 v18,.int .i64 v19,.int .i64 v20,.int .i64 v21,.int .i64 v22,.int .i64 v23,.int .i64 v24,.int .i64 v25,.int .i64 v26,.int .i64 v27,.frz (.int .i64) v28]),(64000002,.box [.int .i64 v29,.int .i64 v30]),(64000003,.box [.int .i64 v31,.int .i64 v32,.int .i64 v33]),(64000004,.box [.int .i64 v34,.int .i64 v35])]⟩
noncomputable def l0 ( k n:Nat) (v:T0):Option R:=held (loopN cs n b10 (K10 k) (s0 v))
noncomputable def D0 (v:T0):Option R:=lim fun L=>l0 (L 0) (L 1) v
theorem D0_cn (v:T0):Cn late (D0 v) fun L=>l0 (L 0) (L 1) v:=of_lim
noncomputable def d0 (p0:g145.Y) (p1:g157.Y) (p2:g152.Y) (p3:Y0):Y0:=fun (v0,v1,v2,v3,v4,v5,v6,v7,v8,v9,v10,v11,v12,v13,v14,v15,v16,v17,v18,v19,v20,v21,v22,v23,v24,v25,v26,v27,v28,v29,v30,v31,v32,v33,v34,v35) =>
br (decide (v1 ≤ v0)) (bnd (p0 (v12,v13,v14,v15,v16,v17,v18,v19,v20,v21,v22,v23,v24,v25,v26,v27,v28,v31,v32,v33,v1)) fun r=>br (!decide (r.2.2 = 0)) (some (0,0,r.2.2)) (bnd (p1 (v2,v3,v4,v5,v6,v7,v8,v9,v10,v11,v29,v30,r.1,r.2.1)) fun r=>br (!decide (r.2.2.2 = 0)) (some (0,0,r.2.2.2)) (bnd (p2 (wrap .i64 (r.1 - v29))) fun r_1=>br (decide (1073741824 < r_1) == false) (bnd (p2 (wrap .i64 (r.2.1 - v30))) fun r_2=>br (decide (1073741824 < r_2)) (some (0,0,4)) (p3 (v0,wrap .i64 (v1 + 1),v2,v3,v4,v5,v6,v7,v8,v9,v10,v11,v12,v13,v14,v15,v16,v17,v18,v19,v20,v21,v22,v23,v24,v25,v26,v27,v28,r.1,r.2.1,v31,v32,v33,v34,v35))) (some (0,0,4))))) (some (v29,v30,0))
theorem d0_cn (k0:Pr E g145.A g145.R) (k1:Pr E g157.A g157.R) (k2:Pr E g152.A g152.R) (k3:Pr E T0 R):∀ v:T0,Cn E (d0 k0.p k1.p k2.p k3.p v) fun i=>d0 (k0.q i) (k1.q i) (k2.q i) (k3.q i) v:=fun (v0,v1,v2,v3,v4,v5,v6,v7,v8,v9,v10,v11,v12,v13,v14,v15,v16,v17,v18,v19,v20,v21,v22,v23,v24,v25,v26,v27,v28,v29,v30,v31,v32,v33,v34,v35)=>(.br (.bnd (k0.h _) fun _=>(.br .some (.bnd (k1.h _) fun _=>(.br .some (.bnd (k2.h _) fun _=>(.br (.bnd (k2.h _) fun _=>(.br .some (k3.h _))) .some)))))) .some)
theorem l0_b ( k m1:Nat):∀ v:T0,run (cs m1) (loopN cs m1) b10 (kLoop cs m1 b10 (K10 k)) (s0 v) = d0 (g145.f m1) (g157.f m1) (g152.f m1) (l0 k m1) v:=fun (v0,v1,v2,v3,v4,v5,v6,v7,v8,v9,v10,v11,v12,v13,v14,v15,v16,v17,v18,v19,v20,v21,v22,v23,v24,v25,v26,v27,v28,v29,v30,v31,v32,v33,v34,v35)=>by kernel_rfl
theorem D0_of (v:T0) {r:R} (h:d0 g145.F g157.F g152.F D0 v = some r):D0 v = some r:=loop_of 1 (fun L n hn=>by show l0 (L 0) (L 1) v = _; rw [hn]; exact (held_eq _).trans ((loopN_succ _ _ _ _ _).trans (l0_b (L 0) n v))) (d0_cn (lp g145.f 1) (lp g157.f 1) (lp g152.f 1) (.mk fun v=>(D0_cn v).re [0,1]) v) h
noncomputable def f (k:Nat):Y:=fun v=>held (runFn cs k Tryz.f91 (sh.args v) (sh.slots v) dec)
noncomputable def F:Y:=lm f
noncomputable def d (p0:g38.Y) (p1:g35.Y) (p2:g37.Y) (p3:Y0):Y:=fun (v0,v1,v2,v3,v4,v5,v6,v7,v8,v9,v10,v11,v12,v13,v14,v15,v16,v17,v18,v19,v20,v21,v22,v23,v24,v25,v26,v27,v28,v29,v30,v31,v32,v33) =>
bnd (p0 (v0,v1,v2,v3,v4,v5,v6,v7,v8,v9)) fun r=>br (!decide (r = 0)) (some (0,0,r)) (bnd (p1 (v10,v11,v12,v13,v14,v15,v16,v17,v18,v19,v20,v21,v22,v23,v24,v25,v26)) fun r=>br (!decide (r = 0)) (some (0,0,r)) (bnd (p2 (v0,v1,v2,v3,v27)) fun r=>br ((!r) == false) (bnd (p2 (v4,v5,v6,v7,v28)) fun r=>br (!r || decide (v32 < 0) || decide (v33 < v32) || decide (v18 < v33)) (some (0,0,4)) (p3 (v33,wrap .i64 (v32 + 1),v0,v1,v2,v3,v4,v5,v6,v7,v8,v9,v10,v11,v12,v13,v14,v15,v16,v17,v18,v19,v20,v21,v22,v23,v24,v25,v26,v27,v28,v29,v30,v31,0,0))) (some (0,0,4))))
theorem d_cn (k0:Pr E g38.A g38.R) (k1:Pr E g35.A g35.R) (k2:Pr E g37.A g37.R) (k3:Pr E T0 R):∀ v:A,Cn E (d k0.p k1.p k2.p k3.p v) fun i=>d (k0.q i) (k1.q i) (k2.q i) (k3.q i) v:=fun (v0,v1,v2,v3,v4,v5,v6,v7,v8,v9,v10,v11,v12,v13,v14,v15,v16,v17,v18,v19,v20,v21,v22,v23,v24,v25,v26,v27,v28,v29,v30,v31,v32,v33)=>(.bnd (k0.h _) fun _=>(.br .some (.bnd (k1.h _) fun _=>(.br .some (.bnd (k2.h _) fun _=>(.br (.bnd (k2.h _) fun _=>(.br .some (k3.h _))) .some))))))
theorem f_b (k:Nat):∀ v:A,f k v = d (g38.f k) (g35.f k) (g37.f k) (l0 k k) v:=fun (v0,v1,v2,v3,v4,v5,v6,v7,v8,v9,v10,v11,v12,v13,v14,v15,v16,v17,v18,v19,v20,v21,v22,v23,v24,v25,v26,v27,v28,v29,v30,v31,v32,v33)=>(held_eq _).trans (by kernel_rfl)
theorem F_of (v:A) {r:R} (h:d g38.F g35.F g37.F D0 v = some r):F v = some r:=join_of (fun L=>f_b (L 0) v) (d_cn (lp g38.f 0) (lp g35.f 0) (lp g37.f 0) (.mk fun v=>(D0_cn v).re [0,0]) v) h
noncomputable def spec (k:Nat):List AV→List Slot→Option Ans:=specS sh os (f k)
theorem spec_ok (k:Nat):SpecOk Tryz.prog 91 (spec k):=specS_ok cs_ok Tryz.func91 rfl rfl (fun _ _=>held_eq _) k
end g160
noncomputable def tg160:=tg159.cons 91 g160.spec g160.spec_ok
namespace g161 -- plan_Desk_look
abbrev R:Type:=Int × Int × Int × Int × Int × Int × Int
abbrev A:Type:=Int × Int × Int × Int × Int × Int × Int × Int × Int × Int × Int × Int × Int × Int × Int × Int × List Int × Int × Int × Int × Int × Int × Int × Int × Int × Int × Int × List (ByteArray × Int) × List (Int × Int × (Int × Int × Int) × Int × Int × Int × Int × Int × Int × Int × Int) × List (List Int) × List (List (Int × Int)) × Int × Int × Int × List (List Int) × Int
abbrev Y:=A→Option R
def lv:List (Nat × List Nat):=[(2000000,[6,7]),(1000014,[2,3,6,8,10,11,13]),(15,[2,3,6,8,10,11,13,15])]
noncomputable def cs:Nat→Ctx:=ctxOf tis modes tg160.1 lv
theorem cs_ok (n:Nat):CtxOk Tryz.prog (cs n):=ctxOf_ok rfl tis_ok tg160.2 n
def sh:AS:=⟨[.agg [.int .i64,.int .i64,.int .i64,.int .i64,.int .i64,.int .i64,.int .i64,.int .i64,.int .i64,.int .i64,.int .i64,.int .i64,.int .i64,.int .i64,.int .i64,.int .i64,.frz (.int .i64),.int .i64,.int .i64,.int .i64,.int .i64,.int .i64,.int .i64,.int .i64,.int .i64,.int .i64,.int .i64,.frz y19,.frz y27,.frz y4,.frz y38],.agg [.int .i64,.int .i64,.int .i64,.frz y4],.c (.int .i64)],[]⟩
def os:OS:=⟨.tup [.agg [.int .i64,.int .i64,.int .i64,.int .i64,.int .i64,.int .i64],.c (.int .i64)],[]⟩
def enc (r:R):Out:=os.enc r
def dec:Out→Option R:=os.dec
noncomputable def b0:Code:=subF [] Tryz.f63
noncomputable def K0 (k:Nat):Kt R:=kTop (cs k) Tryz.f63 dec
noncomputable def c1000014:Code:=sub [1,1,1,1,1,1,1] b0
noncomputable def J1000014 ( k:Nat):Kt R:=kAt (cs k) (loopN cs k) [1,1,1,1,1,1,1] b0 (K0 k)
noncomputable def b15:Code:=sub [1,1,1,1,1,1,1,0,1,0,0] b0
noncomputable def K15 ( k:Nat):Kt R:=kAt (cs k) (loopN cs k) [1,1,1,1,1,1,1,0,1,0] b0 (K0 k)
abbrev T0:Type:=Int × Int × Int × Int × Int × Int × Int × Int × Int × Int × Int × Int × Int × Int × Int × Int × Int × Int × List Int × Int × Int × Int × Int × Int × Int × Int × Int × Int × Int × List (ByteArray × Int) × List (Int × Int × (Int × Int × Int) × Int × Int × Int × Int × Int × Int × Int × Int) × List (List Int) × List (List (Int × Int)) × Int × Int × Int × Int × Int × Int × Int × Int × Int × Int × Int × Int × Int × Int × Int × Int × Int × Int × Int × Int × Int × Int × Int × Int × Int × Int × Int
abbrev Y0:=T0→Option R
noncomputable def s0:T0→St:=fun (v0,v1,v2,v3,v4,v5,v6,v7,v8,v9,v10,v11,v12,v13,v14,v15,v16,v17,v18,v19,v20,v21,v22,v23,v24,v25,v26,v27,v28,v29,v30,v31,v32,v33,v34,v35,v36,v37,v38,v39,v40,v41,v42,v43,v44,v45,v46,v47,v48,v49,v50,v51,v52,v53,v54,v55,v56,v57,v58,v59)=>⟨114,0,[(2,.c (.int .i64 v0)),(3,.c (.ptr 64000000 0)),(6,.c (.ptr 64000001 0)),(8,.c (.ptr 64000002 0)),(10,.c (.int .i64 v1)),(11,.c (.ptr 64000003 0)),(13,.c (.ptr 64000004 0))],[],[(256000000,.gone),(64000000,.box [.int .i64 v2,.int .i64 v3,.int .i64 v4,.int .i64 v5,.int .i64 v6,.int .i64 v7,.int .i64 v8,.int .i64 v9,.int .i64 v10,.int .i64 v11,.int .i64 v12,.int .i64 v13,.int .i64 v14,.int .i64 v15,.int .i64 v16,.int .i64 v17,.frz (.int .i64) v18,.int .i64 v19,.int .i64 v20,.int .i64 v21,.int .i64 v22,.int .i64 v23,.int .i64 v24,.int .i64 v25,.int .i64 v26,.int .i64 v27,.int .i64 v28,.frz y19 v29,.frz y27 v30,.frz y4 v31,.frz y38 v32]),(64000001,.box [.int .i64 v33,.int .i64 v34,.int .i64 v35,.int .i64 v36,.int .i64 v37,.int .i64 v38]),(64000002,.box [.int .i64 v39,.int .i64 v40,.int .i64 v41,.int .i64 v42,.int .i64 v43,.int .i64 v44,.int .i64 v45,.int .i64 v46,.int .i64 v47,.int .i64 v48,.int .i64 v49,.int .i64 v50,.int .i64 v51]),(64000003,.box [.int .i64 v52,.int .i64 v53]),(64000004,.box [.int .i64 v54,.int .i64 v55,.int .i64 v56,.int .i64 v57,.int .i64 v58,.int .i64 v59])]⟩
noncomputable def l0 ( k:Nat) (v:T0):Option R:=held (run (cs k) (loopN cs k) c1000014 (J1000014 k) (s0 v))
noncomputable def D0 (v:T0):Option R:=lim fun L=>l0 (L 0) v
theorem D0_cn (v:T0):Cn late (D0 v) fun L=>l0 (L 0) v:=of_lim
abbrev T1:Type:=Int × Int × Int × Int × Int × Int × Int × Int × Int × Int × Int × Int × Int × Int × Int × Int × Int × Int × Int × List Int × Int × Int × Int × Int × Int × Int × Int × Int × Int × Int × List (ByteArray × Int) × List (Int × Int × (Int × Int × Int) × Int × Int × Int × Int × Int × Int × Int × Int) × List (List Int) × List (List (Int × Int)) × Int × Int × Int × Int × Int × Int × Int × Int × Int × Int × Int × Int × Int × Int × Int × Int × Int × Int × Int × Int × Int × Int × Int × Int × Int × Int × Int
abbrev Y1:=T1→Option R
noncomputable def s1:T1→St:=fun (v0,v1,v2,v3,v4,v5,v6,v7,v8,v9,v10,v11,v12,v13,v14,v15,v16,v17,v18,v19,v20,v21,v22,v23,v24,v25,v26,v27,v28,v29,v30,v31,v32,v33,v34,v35,v36,v37,v38,v39,v40,v41,v42,v43,v44,v45,v46,v47,v48,v49,v50,v51,v52,v53,v54,v55,v56,v57,v58,v59,v60)=>⟨114,0,[(2,.c (.int .i64 v0)),(3,.c (.ptr 64000000 0)),(6,.c (.ptr 64000001 0)),(8,.c (.ptr 64000002 0)),(10,.c (.int .i64 v1)),(11,.c (.ptr 64000003 0)),(13,.c (.ptr 64000004 0)),(15,.c (.int .i64 v2))],[],[(256000000,.gone),(64000000,.box [.int .i64 v3,.int .i64 v4,.int .i64 v5,.int .i64 v6,.int .i64 v7,.int .i64 v8,.int .i64 v9,.int .i64 v10,.int .i64 v11,.int .i64 v12,.int .i64 v13,.int .i64 v14,.int .i64 v15,.int .i64 v16,.int .i64 v17,.int .i64 v18,.frz (.int .i64) v19,.int .i64 v20,.int .i64 v21,.int .i64 v22,.int .i64 v23,.int .i64 v24,.int .i64 v25,.int .i64 v26,.int .i64 v27,.int .i64 v28,.int .i64 v29,.frz y19 v30,.frz y27 v31,.frz y4 v32,.frz y38 v33]),(64000001,.box [.int .i64 v34,.int .i64 v35,.int .i64 v36,.int .i64 v37,.int .i64 v38,.int .i64 v39]),(64000002,.box [.int .i64 v40,.int .i64 v41,.int .i64 v42,.int .i64 v43,.int .i64 v44,.int .i64 v45,.int .i64 v46,.int .i64 v47,.int .i64 v48,.int .i64 v49,.int .i64 v50,.int .i64 v51,.int .i64 v52]),(64000003,.box [.int .i64 v53,.int .i64 v54]),(64000004,.box [.int .i64 v55,.int .i64 v56,.int .i64 v57,.int .i64 v58,.int .i64 v59,.int .i64 v60])]⟩
noncomputable def l1 ( k n:Nat) (v:T1):Option R:=held (loopN cs n b15 (K15 k) (s1 v))
noncomputable def D1 (v:T1):Option R:=lim fun L=>l1 (L 0) (L 1) v
theorem D1_cn (v:T1):Cn late (D1 v) fun L=>l1 (L 0) (L 1) v:=of_lim
def d0 (p0:Y1):Y0:=fun (v0,v1,v2,v3,v4,v5,v6,v7,v8,v9,v10,v11,v12,v13,v14,v15,v16,v17,v18,v19,v20,v21,v22,v23,v24,v25,v26,v27,v28,v29,v30,v31,v32,v33,v34,v35,v36,v37,v38,v39,v40,v41,v42,v43,v44,v45,v46,v47,v48,v49,v50,v51,v52,v53,v54,v55,v56,v57,v58,v59) =>
p0 (v0,v1,v1,v2,v3,v4,v5,v6,v7,v8,v9,v10,v11,v12,v13,v14,v15,v16,v17,v18,v19,v20,v21,v22,v23,v24,v25,v26,v27,v28,v29,v30,v31,v32,v33,v34,v35,v36,v37,v38,v39,v40,v41,v42,v43,v44,v45,v46,v47,v48,v49,v50,v51,v52,v53,v54,v55,v56,v57,v58,v59)
theorem d0_cn (k0:Pr E T1 R):∀ v:T0,Cn E (d0 k0.p v) fun i=>d0 (k0.q i) v:=fun (v0,v1,v2,v3,v4,v5,v6,v7,v8,v9,v10,v11,v12,v13,v14,v15,v16,v17,v18,v19,v20,v21,v22,v23,v24,v25,v26,v27,v28,v29,v30,v31,v32,v33,v34,v35,v36,v37,v38,v39,v40,v41,v42,v43,v44,v45,v46,v47,v48,v49,v50,v51,v52,v53,v54,v55,v56,v57,v58,v59)=>(k0.h _)
theorem l0_b ( k:Nat):∀ v:T0,run (cs k) (loopN cs k) c1000014 (J1000014 k) (s0 v) = d0 (l1 k k) v:=fun (v0,v1,v2,v3,v4,v5,v6,v7,v8,v9,v10,v11,v12,v13,v14,v15,v16,v17,v18,v19,v20,v21,v22,v23,v24,v25,v26,v27,v28,v29,v30,v31,v32,v33,v34,v35,v36,v37,v38,v39,v40,v41,v42,v43,v44,v45,v46,v47,v48,v49,v50,v51,v52,v53,v54,v55,v56,v57,v58,v59)=>by kernel_rfl
theorem D0_of (v:T0) {r:R} (h:d0 D1 v = some r):D0 v = some r:=join_of (fun L=>(held_eq _).trans (l0_b (L 0) v)) (d0_cn (.mk fun v=>(D1_cn v).re [0,0]) v) h
noncomputable def d1 (p0:Y1) (p1:g160.Y):Y1:=fun (v0,v1,v2,v3,v4,v5,v6,v7,v8,v9,v10,v11,v12,v13,v14,v15,v16,v17,v18,v19,v20,v21,v22,v23,v24,v25,v26,v27,v28,v29,v30,v31,v32,v33,v34,v35,v36,v37,v38,v39,v40,v41,v42,v43,v44,v45,v46,v47,v48,v49,v50,v51,v52,v53,v54,v55,v56,v57,v58,v59,v60) =>
br (decide (v2 < wrap .i64 (v1 + v45))) (br (decide (0 ≤ v0 ∧ v0 < (↑v32.length:Int))) (br (decide (0 ≤ v2 ∧ v2 < (↑(List.length (rd (Ty.int .i64).slice v32 v0)):Int))) (br (!decide (rd (Ty.int .i64) (rd (Ty.int .i64).slice v32 v0) v2 = 0)) (some (v55,v56,v57,v58,v59,v60,5)) (p0 (v0,v1,wrap .i64 (v2 + 1),v3,v4,v5,v6,v7,v8,v9,v10,v11,v12,v13,v14,v15,v16,v17,v18,v19,v20,v21,v22,v23,v24,v25,v26,v27,v28,v29,v30,v31,v32,v33,v34,v35,v36,v37,v38,v39,v40,v41,v42,v43,v44,v45,v46,v47,v48,v49,v50,v51,v52,v53,v54,v55,v56,v57,v58,v59,v60))) none) none) (bnd (p1 (v20,v21,v22,v23,v24,v25,v26,v27,v28,v29,v3,v4,v5,v6,v7,v8,v9,v10,v11,v12,v13,v14,v15,v16,v17,v18,v19,v53,v54,v42,v43,v44,v1,wrap .i64 (v1 + v45))) fun r=>br (!decide (r.2.2 = 0)) (some (v55,v56,v57,v58,v59,v60,6)) (some (v55,v56,v57,v58,r.1,r.2.1,0)))
theorem d1_cn (k0:Pr E T1 R) (k1:Pr E g160.A g160.R):∀ v:T1,Cn E (d1 k0.p k1.p v) fun i=>d1 (k0.q i) (k1.q i) v:=fun (v0,v1,v2,v3,v4,v5,v6,v7,v8,v9,v10,v11,v12,v13,v14,v15,v16,v17,v18,v19,v20,v21,v22,v23,v24,v25,v26,v27,v28,v29,v30,v31,v32,v33,v34,v35,v36,v37,v38,v39,v40,v41,v42,v43,v44,v45,v46,v47,v48,v49,v50,v51,v52,v53,v54,v55,v56,v57,v58,v59,v60)=>(.br (.br (.br (.br .some (k0.h _)) .none) .none) (.bnd (k1.h _) fun _=>(.br .some .some)))
theorem l1_b ( k m1:Nat):∀ v:T1,run (cs m1) (loopN cs m1) b15 (kLoop cs m1 b15 (K15 k)) (s1 v) = d1 (l1 k m1) (g160.f k) v:=fun (v0,v1,v2,v3,v4,v5,v6,v7,v8,v9,v10,v11,v12,v13,v14,v15,v16,v17,v18,v19,v20,v21,v22,v23,v24,v25,v26,v27,v28,v29,v30,v31,v32,v33,v34,v35,v36,v37,v38,v39,v40,v41,v42,v43,v44,v45,v46,v47,v48,v49,v50,v51,v52,v53,v54,v55,v56,v57,v58,v59,v60)=>by kernel_rfl
theorem D1_of (v:T1) {r:R} (h:d1 D1 g160.F v = some r):D1 v = some r:=loop_of 1 (fun L n hn=>by show l1 (L 0) (L 1) v = _; rw [hn]; exact (held_eq _).trans ((loopN_succ _ _ _ _ _).trans (l1_b (L 0) n v))) (d1_cn (.mk fun v=>(D1_cn v).re [0,1]) (lp g160.f 0) v) h
noncomputable def f (k:Nat):Y:=fun v=>held (runFn cs k Tryz.f63 (sh.args v) (sh.slots v) dec)
noncomputable def F:Y:=lm f
noncomputable def d (p0:g159.Y) (p1:Y0):Y:=fun (v0,v1,v2,v3,v4,v5,v6,v7,v8,v9,v10,v11,v12,v13,v14,v15,v16,v17,v18,v19,v20,v21,v22,v23,v24,v25,v26,v27,v28,v29,v30,v31,v32,v33,v34,v35) =>
br (decide (0 ≤ v35 ∧ v35 < (↑v28.length:Int))) (br (decide (0 ≤ v35 ∧ v35 < (↑v34.length:Int))) (br (decide ((rd ty0 v28 v35).2.2.2.2.1 ≤ (↑(List.length (rd (Ty.int .i64).slice v34 v35)):Int))) (some (0,0,0,0,0,0,1)) (bnd (p0 (v0,v1,v2,v3,v4,v5,v6,v7,v8,v9,v10,v11,v12,v13,v14,v15,v16,v17,v18,v19,v20,v21,v22,v23,v24,v25,v26,v27,v28,v29,v30,v31,v32,v33,v34,v35)) fun r=>br (!r.2.2.2) (some (0,0,0,0,0,0,2)) (br (decide (0 < (↑(List.length (rd (Ty.int .i64).slice v34 v35)):Int))) (br (decide (0 ≤ wrap .i64 ((↑(List.length (rd (Ty.int .i64).slice v34 v35)):Int) - 1) ∧ wrap .i64 ((↑(List.length (rd (Ty.int .i64).slice v34 v35)):Int) - 1) < (↑(List.length (rd (Ty.int .i64).slice v34 v35)):Int))) (br (decide (wrap .i64 (r.1 - rd (Ty.int .i64) (rd (Ty.int .i64).slice v34 v35) (wrap .i64 ((↑(List.length (rd (Ty.int .i64).slice v34 v35)):Int) - 1))) < (rd ty0 v28 v35).2.2.2.2.2.1)) (some (v35,r.1,r.2.1,r.2.2.1,0,0,3)) (br (decide ((rd ty0 v28 v35).2.2.2.2.2.2.1 < wrap .i64 (r.1 - rd (Ty.int .i64) (rd (Ty.int .i64).slice v34 v35) (wrap .i64 ((↑(List.length (rd (Ty.int .i64).slice v34 v35)):Int) - 1))))) (some (v35,r.1,r.2.1,r.2.2.1,0,0,4)) (p1 (v35,r.1,v0,v1,v2,v3,v4,v5,v6,v7,v8,v9,v10,v11,v12,v13,v14,v15,v16,v17,v18,v19,v20,v21,v22,v23,v24,v25,v26,v27,v28,v29,v30,0,0,0,0,0,0,(rd ty0 v28 v35).1,(rd ty0 v28 v35).2.1,(rd ty0 v28 v35).2.2.1.1,(rd ty0 v28 v35).2.2.1.2.1,(rd ty0 v28 v35).2.2.1.2.2,(rd ty0 v28 v35).2.2.2.1,(rd ty0 v28 v35).2.2.2.2.1,(rd ty0 v28 v35).2.2.2.2.2.1,(rd ty0 v28 v35).2.2.2.2.2.2.1,(rd ty0 v28 v35).2.2.2.2.2.2.2.1,(rd ty0 v28 v35).2.2.2.2.2.2.2.2.1,(rd ty0 v28 v35).2.2.2.2.2.2.2.2.2.1,(rd ty0 v28 v35).2.2.2.2.2.2.2.2.2.2,r.2.1,r.2.2.1,v35,r.1,r.2.1,r.2.2.1,0,0)))) none) (p1 (v35,r.1,v0,v1,v2,v3,v4,v5,v6,v7,v8,v9,v10,v11,v12,v13,v14,v15,v16,v17,v18,v19,v20,v21,v22,v23,v24,v25,v26,v27,v28,v29,v30,0,0,0,0,0,0,(rd ty0 v28 v35).1,(rd ty0 v28 v35).2.1,(rd ty0 v28 v35).2.2.1.1,(rd ty0 v28 v35).2.2.1.2.1,(rd ty0 v28 v35).2.2.1.2.2,(rd ty0 v28 v35).2.2.2.1,(rd ty0 v28 v35).2.2.2.2.1,(rd ty0 v28 v35).2.2.2.2.2.1,(rd ty0 v28 v35).2.2.2.2.2.2.1,(rd ty0 v28 v35).2.2.2.2.2.2.2.1,(rd ty0 v28 v35).2.2.2.2.2.2.2.2.1,(rd ty0 v28 v35).2.2.2.2.2.2.2.2.2.1,(rd ty0 v28 v35).2.2.2.2.2.2.2.2.2.2,r.2.1,r.2.2.1,v35,r.1,r.2.1,r.2.2.1,0,0))))) none) none
theorem d_cn (k0:Pr E g159.A g159.R) (k1:Pr E T0 R):∀ v:A,Cn E (d k0.p k1.p v) fun i=>d (k0.q i) (k1.q i) v:=fun (v0,v1,v2,v3,v4,v5,v6,v7,v8,v9,v10,v11,v12,v13,v14,v15,v16,v17,v18,v19,v20,v21,v22,v23,v24,v25,v26,v27,v28,v29,v30,v31,v32,v33,v34,v35)=>(.br (.br (.br .some (.bnd (k0.h _) fun _=>(.br .some (.br (.br (.br .some (.br .some (k1.h _))) .none) (k1.h _))))) .none) .none)
theorem f_b (k:Nat):∀ v:A,f k v = d (g159.f k) (l0 k) v:=fun (v0,v1,v2,v3,v4,v5,v6,v7,v8,v9,v10,v11,v12,v13,v14,v15,v16,v17,v18,v19,v20,v21,v22,v23,v24,v25,v26,v27,v28,v29,v30,v31,v32,v33,v34,v35)=>(held_eq _).trans (by kernel_rfl)
theorem F_of (v:A) {r:R} (h:d g159.F D0 v = some r):F v = some r:=join_of (fun L=>f_b (L 0) v) (d_cn (lp g159.f 0) (.mk fun v=>(D0_cn v).re [0]) v) h
noncomputable def spec (k:Nat):List AV→List Slot→Option Ans:=specS sh os (f k)
theorem spec_ok (k:Nat):SpecOk Tryz.prog 63 (spec k):=specS_ok cs_ok Tryz.func63 rfl rfl (fun _ _=>held_eq _) k
end g161
noncomputable def tg161:=tg160.cons 63 g161.spec g161.spec_ok
namespace g162 -- plan_queue_Push
abbrev R:Type:=Int × Int × Int × Int × Int × Int × Int × Int × Int × Int × Int × Int × Int × Int × Int × Int × Int × Int × Int × Int × Int × Int × Int × Int × Int × Int × List Int × List (ByteArray × Int) × List (Int × Int × (Int × Int × Int) × Int × Int × Int × Int × Int × Int × Int × Int) × List (List Int) × List (List (Int × Int)) × List Int × List (Int × Int × (Int × Int) × Int × Int)
abbrev A:Type:=(Int × Int × (Int × Int) × Int × Int) × Int × Int × Int × Int × Int × Int × Int × Int × Int × Int × Int × Int × Int × Int × Int × Int × Int × Int × Int × Int × Int × Int × Int × Int × Int × Int × List Int × List (ByteArray × Int) × List (Int × Int × (Int × Int × Int) × Int × Int × Int × Int × Int × Int × Int × Int) × List (List Int) × List (List (Int × Int)) × List Int × List (Int × Int × (Int × Int) × Int × Int)
abbrev Y:=A→Option R
def lv:List (Nat × List Nat):=[(2000000,[0])]
noncomputable def cs:Nat→Ctx:=ctxOf tis modes tg161.1 lv
theorem cs_ok (n:Nat):CtxOk Tryz.prog (cs n):=ctxOf_ok rfl tis_ok tg161.2 n
noncomputable def sh:AS:=⟨[.c (.ptr 128000000 0),.c (.ifd 96 .true y46)],[.box [.int .i64,.int .i64,.int .i64,.int .i64,.int .i64,.int .i64,.int .i64,.int .i64,.int .i64,.int .i64,.int .i64,.int .i64,.int .i64,.int .i64,.int .i64,.int .i64,.sl 128000001,.int .i64,.int .i64,.int .i64,.int .i64,.int .i64,.int .i64,.int .i64,.int .i64,.int .i64,.int .i64,.sl 128000002,.sl 128000003,.sl 128000004,.sl 128000005,.sl 128000006,.sl 128000007],.row (.int .i64),.row y19,.row y27,.nest y4,.nest y38,.row (.int .i64),.row y46]⟩
def os:OS:=⟨.tup [],[.box [.int .i64,.int .i64,.int .i64,.int .i64,.int .i64,.int .i64,.int .i64,.int .i64,.int .i64,.int .i64,.int .i64,.int .i64,.int .i64,.int .i64,.int .i64,.int .i64,.sl 128000001,.int .i64,.int .i64,.int .i64,.int .i64,.int .i64,.int .i64,.int .i64,.int .i64,.int .i64,.int .i64,.sl 128000002,.sl 128000003,.sl 128000004,.sl 128000005,.sl 128000006,.sl 128000008],.row (.int .i64),.row y19,.row y27,.nest y4,.nest y38,.row (.int .i64),.gone,.row y46]⟩
def enc (r:R):Out:=os.enc r
def dec:Out→Option R:=os.dec
noncomputable def b0:Code:=subF [] Tryz.f243
noncomputable def K0 (k:Nat):Kt R:=kTop (cs k) Tryz.f243 dec
noncomputable def f (k:Nat):Y:=fun v=>held (runFn cs k Tryz.f243 (sh.args v) (sh.slots v) dec)
noncomputable def F:Y:=lm f
def d:Y:=fun (v0,v1,v2,v3,v4,v5,v6,v7,v8,v9,v10,v11,v12,v13,v14,v15,v16,v17,v18,v19,v20,v21,v22,v23,v24,v25,v26,v27,v28,v29,v30,v31,v32,v33) =>
br (decide (v33.length + [(v0.1,v0.2.1,(v0.2.2.1.1,v0.2.2.1.2),v0.2.2.2.1,v0.2.2.2.2)].length ≤ 140737488355328 / 48)) (some (v1,v2,v3,v4,v5,v6,v7,v8,v9,v10,v11,v12,v13,v14,v15,v16,v17,v18,v19,v20,v21,v22,v23,v24,v25,v26,v27,v28,v29,v30,v31,v32,v33 ++ [(v0.1,v0.2.1,(v0.2.2.1.1,v0.2.2.1.2),v0.2.2.2.1,v0.2.2.2.2)])) none
theorem d_cn:∀ v:A,Cn E (d v) fun i=>d v:=fun (v0,v1,v2,v3,v4,v5,v6,v7,v8,v9,v10,v11,v12,v13,v14,v15,v16,v17,v18,v19,v20,v21,v22,v23,v24,v25,v26,v27,v28,v29,v30,v31,v32,v33)=>(.br .some .none)
theorem f_b (k:Nat):∀ v:A,f k v = d v:=fun (v0,v1,v2,v3,v4,v5,v6,v7,v8,v9,v10,v11,v12,v13,v14,v15,v16,v17,v18,v19,v20,v21,v22,v23,v24,v25,v26,v27,v28,v29,v30,v31,v32,v33)=>(held_eq _).trans (by kernel_rfl)
theorem F_of (v:A) {r:R} (h:d v = some r):F v = some r:=join_of (fun L=>f_b (L 0) v) (d_cn v) h
noncomputable def spec (k:Nat):List AV→List Slot→Option Ans:=specS sh os (f k)
theorem spec_ok (k:Nat):SpecOk Tryz.prog 243 (spec k):=specS_ok cs_ok Tryz.func243 rfl rfl (fun _ _=>held_eq _) k
end g162
noncomputable def tg162:=tg161.cons 243 g162.spec g162.spec_ok
namespace g163 -- plan_queue_Len
abbrev R:Type:=Int × Int × Int × Int × Int × Int × Int × Int × Int × Int × Int × Int × Int × Int × Int × Int × Int × Int × Int × Int × Int × Int × Int × Int × Int × Int × Int × List Int × List (ByteArray × Int) × List (Int × Int × (Int × Int × Int) × Int × Int × Int × Int × Int × Int × Int × Int) × List (List Int) × List (List (Int × Int)) × List Int × List (Int × Int × (Int × Int) × Int × Int)
abbrev A:Type:=Int × Int × Int × Int × Int × Int × Int × Int × Int × Int × Int × Int × Int × Int × Int × Int × Int × Int × Int × Int × Int × Int × Int × Int × Int × Int × List Int × List (ByteArray × Int) × List (Int × Int × (Int × Int × Int) × Int × Int × Int × Int × Int × Int × Int × Int) × List (List Int) × List (List (Int × Int)) × List Int × List (Int × Int × (Int × Int) × Int × Int)
abbrev Y:=A→Option R
def lv:List (Nat × List Nat):=[(2000000,[2])]
noncomputable def cs:Nat→Ctx:=ctxOf tis modes tg162.1 lv
theorem cs_ok (n:Nat):CtxOk Tryz.prog (cs n):=ctxOf_ok rfl tis_ok tg162.2 n
noncomputable def sh:AS:=⟨[(.c (.ptr 128000000 0))],[.box [.int .i64,.int .i64,.int .i64,.int .i64,.int .i64,.int .i64,.int .i64,.int .i64,.int .i64,.int .i64,.int .i64,.int .i64,.int .i64,.int .i64,.int .i64,.int .i64,.sl 128000001,.int .i64,.int .i64,.int .i64,.int .i64,.int .i64,.int .i64,.int .i64,.int .i64,.int .i64,.int .i64,.sl 128000002,.sl 128000003,.sl 128000004,.sl 128000005,.sl 128000006,.sl 128000007],.row (.int .i64),.row y19,.row y27,.nest y4,.nest y38,.row (.int .i64),.row y46]⟩
def os:OS:=⟨.c (.int .i64),[.box [.int .i64,.int .i64,.int .i64,.int .i64,.int .i64,.int .i64,.int .i64,.int .i64,.int .i64,.int .i64,.int .i64,.int .i64,.int .i64,.int .i64,.int .i64,.int .i64,.sl 128000001,.int .i64,.int .i64,.int .i64,.int .i64,.int .i64,.int .i64,.int .i64,.int .i64,.int .i64,.int .i64,.sl 128000002,.sl 128000003,.sl 128000004,.sl 128000005,.sl 128000006,.sl 128000007],.row (.int .i64),.row y19,.row y27,.nest y4,.nest y38,.row (.int .i64),.row y46]⟩
def enc (r:R):Out:=os.enc r
def dec:Out→Option R:=os.dec
noncomputable def b0:Code:=subF [] Tryz.f113
noncomputable def K0 (k:Nat):Kt R:=kTop (cs k) Tryz.f113 dec
noncomputable def f (k:Nat):Y:=fun v=>held (runFn cs k Tryz.f113 (sh.args v) (sh.slots v) dec)
noncomputable def F:Y:=lm f
def d:Y:=fun (v0,v1,v2,v3,v4,v5,v6,v7,v8,v9,v10,v11,v12,v13,v14,v15,v16,v17,v18,v19,v20,v21,v22,v23,v24,v25,v26,v27,v28,v29,v30,v31,v32) =>
some ((↑v32.length:Int),v0,v1,v2,v3,v4,v5,v6,v7,v8,v9,v10,v11,v12,v13,v14,v15,v16,v17,v18,v19,v20,v21,v22,v23,v24,v25,v26,v27,v28,v29,v30,v31,v32)
theorem d_cn:∀ v:A,Cn E (d v) fun i=>d v:=fun (v0,v1,v2,v3,v4,v5,v6,v7,v8,v9,v10,v11,v12,v13,v14,v15,v16,v17,v18,v19,v20,v21,v22,v23,v24,v25,v26,v27,v28,v29,v30,v31,v32)=>.some
theorem f_b (k:Nat):∀ v:A,f k v = d v:=fun (v0,v1,v2,v3,v4,v5,v6,v7,v8,v9,v10,v11,v12,v13,v14,v15,v16,v17,v18,v19,v20,v21,v22,v23,v24,v25,v26,v27,v28,v29,v30,v31,v32)=>(held_eq _).trans (by kernel_rfl)
theorem F_of (v:A) {r:R} (h:d v = some r):F v = some r:=join_of (fun L=>f_b (L 0) v) (d_cn v) h
noncomputable def spec (k:Nat):List AV→List Slot→Option Ans:=specS sh os (f k)
theorem spec_ok (k:Nat):SpecOk Tryz.prog 113 (spec k):=specS_ok cs_ok Tryz.func113 rfl rfl (fun _ _=>held_eq _) k
end g163
noncomputable def tg163:=tg162.cons 113 g163.spec g163.spec_ok
namespace g164 -- plan_Desk_better
abbrev R:Type:=Bool
abbrev A:Type:=Int × Int × Int × Int × Int × Int × Int × Int × Int × Int × Int × Int × Int × Int × Int × Int × List Int × Int × Int × Int × Int × Int × Int × Int × Int × Int × Int × List (ByteArray × Int) × List (Int × Int × (Int × Int × Int) × Int × Int × Int × Int × Int × Int × Int × Int) × List (List Int) × List (List (Int × Int)) × List Int × Int × Int × Int × Int × Int × Int × Int × Int × Int × Int × Int × Int
abbrev Y:=A→Option R
def lv:List (Nat × List Nat):=[(2000000,[8])]
noncomputable def cs:Nat→Ctx:=ctxOf tis modes tg163.1 lv
theorem cs_ok (n:Nat):CtxOk Tryz.prog (cs n):=ctxOf_ok rfl tis_ok tg163.2 n
def sh:AS:=⟨[.agg [.int .i64,.int .i64,.int .i64,.int .i64,.int .i64,.int .i64,.int .i64,.int .i64,.int .i64,.int .i64,.int .i64,.int .i64,.int .i64,.int .i64,.int .i64,.int .i64,.frz (.int .i64),.int .i64,.int .i64,.int .i64,.int .i64,.int .i64,.int .i64,.int .i64,.int .i64,.int .i64,.int .i64,.frz y19,.frz y27,.frz y4,.frz y38],.c (.frz (.int .i64)),.agg [.int .i64,.int .i64,.int .i64,.int .i64,.int .i64,.int .i64],.agg [.int .i64,.int .i64,.int .i64,.int .i64,.int .i64,.int .i64]],[]⟩
def os:OS:=⟨.c .bool,[]⟩
def enc (r:R):Out:=os.enc r
def dec:Out→Option R:=os.dec
noncomputable def b0:Code:=subF [] Tryz.f64
noncomputable def K0 (k:Nat):Kt R:=kTop (cs k) Tryz.f64 dec
noncomputable def f (k:Nat):Y:=fun v=>held (runFn cs k Tryz.f64 (sh.args v) (sh.slots v) dec)
noncomputable def F:Y:=lm f
noncomputable def d:Y:=fun (v0,v1,v2,v3,v4,v5,v6,v7,v8,v9,v10,v11,v12,v13,v14,v15,v16,v17,v18,v19,v20,v21,v22,v23,v24,v25,v26,v27,v28,v29,v30,v31,v32,v33,v34,v35,v36,v37,v38,v39,v40,v41,v42,v43) =>
br (decide (0 ≤ v32 ∧ v32 < (↑v28.length:Int))) (br (decide (0 ≤ v38 ∧ v38 < (↑v28.length:Int))) (br (decide (0 ≤ (rd ty0 v28 v32).2.1 ∧ (rd ty0 v28 v32).2.1 < (↑v31.length:Int))) (br (decide (0 ≤ (rd ty0 v28 v38).2.1 ∧ (rd ty0 v28 v38).2.1 < (↑v27.length:Int))) (br (decide (0 ≤ (rd ty0 v28 v38).2.1 ∧ (rd ty0 v28 v38).2.1 < (↑v31.length:Int))) (br (decide (0 ≤ (rd ty0 v28 v32).2.1 ∧ (rd ty0 v28 v32).2.1 < (↑v27.length:Int))) (br (!decide (wrap .i64 (rd (Ty.int .i64) v31 (rd ty0 v28 v32).2.1 * (rd (Ty.str.pair (Ty.int .i64)) v27 (rd ty0 v28 v38).2.1).2) = wrap .i64 (rd (Ty.int .i64) v31 (rd ty0 v28 v38).2.1 * (rd (Ty.str.pair (Ty.int .i64)) v27 (rd ty0 v28 v32).2.1).2))) (some (decide (wrap .i64 (rd (Ty.int .i64) v31 (rd ty0 v28 v32).2.1 * (rd (Ty.str.pair (Ty.int .i64)) v27 (rd ty0 v28 v38).2.1).2) < wrap .i64 (rd (Ty.int .i64) v31 (rd ty0 v28 v38).2.1 * (rd (Ty.str.pair (Ty.int .i64)) v27 (rd ty0 v28 v32).2.1).2)))) (br (!decide ((rd ty0 v28 v32).2.2.2.2.2.2.2.2.2.2 = (rd ty0 v28 v38).2.2.2.2.2.2.2.2.2.2)) (some (decide ((rd ty0 v28 v38).2.2.2.2.2.2.2.2.2.2 < (rd ty0 v28 v32).2.2.2.2.2.2.2.2.2.2))) (br (!decide (v33 = v39)) (some (decide (v33 < v39))) (some (decide (v32 < v38)))))) none) none) none) none) none) none
theorem d_cn:∀ v:A,Cn E (d v) fun i=>d v:=fun (v0,v1,v2,v3,v4,v5,v6,v7,v8,v9,v10,v11,v12,v13,v14,v15,v16,v17,v18,v19,v20,v21,v22,v23,v24,v25,v26,v27,v28,v29,v30,v31,v32,v33,v34,v35,v36,v37,v38,v39,v40,v41,v42,v43)=>(.br (.br (.br (.br (.br (.br (.br .some (.br .some (.br .some .some))) .none) .none) .none) .none) .none) .none)
theorem f_b (k:Nat):∀ v:A,f k v = d v:=fun (v0,v1,v2,v3,v4,v5,v6,v7,v8,v9,v10,v11,v12,v13,v14,v15,v16,v17,v18,v19,v20,v21,v22,v23,v24,v25,v26,v27,v28,v29,v30,v31,v32,v33,v34,v35,v36,v37,v38,v39,v40,v41,v42,v43)=>(held_eq _).trans (by kernel_rfl)
theorem F_of (v:A) {r:R} (h:d v = some r):F v = some r:=join_of (fun L=>f_b (L 0) v) (d_cn v) h
noncomputable def spec (k:Nat):List AV→List Slot→Option Ans:=specS sh os (f k)
theorem spec_ok (k:Nat):SpecOk Tryz.prog 64 (spec k):=specS_ok cs_ok Tryz.func64 rfl rfl (fun _ _=>held_eq _) k
end g164
noncomputable def tg164:=tg163.cons 64 g164.spec g164.spec_ok
namespace g165 -- plan_queue_Less
abbrev R:Type:=Bool × Int × Int × Int × Int × Int × Int × Int × Int × Int × Int × Int × Int × Int × Int × Int × Int × Int × Int × Int × Int × Int × Int × Int × Int × Int × Int × List Int × List (ByteArray × Int) × List (Int × Int × (Int × Int × Int) × Int × Int × Int × Int × Int × Int × Int × Int) × List (List Int) × List (List (Int × Int)) × List Int × List (Int × Int × (Int × Int) × Int × Int)
abbrev A:Type:=Int × Int × Int × Int × Int × Int × Int × Int × Int × Int × Int × Int × Int × Int × Int × Int × Int × Int × Int × Int × Int × Int × Int × Int × Int × Int × Int × Int × List Int × List (ByteArray × Int) × List (Int × Int × (Int × Int × Int) × Int × Int × Int × Int × Int × Int × Int × Int) × List (List Int) × List (List (Int × Int)) × List Int × List (Int × Int × (Int × Int) × Int × Int)
abbrev Y:=A→Option R
def lv:List (Nat × List Nat):=[(2000000,[6])]
noncomputable def cs:Nat→Ctx:=ctxOf tis modes tg164.1 lv
theorem cs_ok (n:Nat):CtxOk Tryz.prog (cs n):=ctxOf_ok rfl tis_ok tg164.2 n
noncomputable def sh:AS:=⟨[.c (.ptr 128000000 0),.c (.int .i64),.c (.int .i64)],[.box [.int .i64,.int .i64,.int .i64,.int .i64,.int .i64,.int .i64,.int .i64,.int .i64,.int .i64,.int .i64,.int .i64,.int .i64,.int .i64,.int .i64,.int .i64,.int .i64,.sl 128000001,.int .i64,.int .i64,.int .i64,.int .i64,.int .i64,.int .i64,.int .i64,.int .i64,.int .i64,.int .i64,.sl 128000002,.sl 128000003,.sl 128000004,.sl 128000005,.sl 128000006,.sl 128000007],.row (.int .i64),.row y19,.row y27,.nest y4,.nest y38,.row (.int .i64),.row y46]⟩
def os:OS:=⟨.c .bool,[.box [.int .i64,.int .i64,.int .i64,.int .i64,.int .i64,.int .i64,.int .i64,.int .i64,.int .i64,.int .i64,.int .i64,.int .i64,.int .i64,.int .i64,.int .i64,.int .i64,.sl 128000001,.int .i64,.int .i64,.int .i64,.int .i64,.int .i64,.int .i64,.int .i64,.int .i64,.int .i64,.int .i64,.sl 128000002,.sl 128000003,.sl 128000004,.sl 128000005,.sl 128000006,.sl 128000007],.row (.int .i64),.row y19,.row y27,.nest y4,.nest y38,.row (.int .i64),.row y46]⟩
def enc (r:R):Out:=os.enc r
def dec:Out→Option R:=os.dec
noncomputable def b0:Code:=subF [] Tryz.f241
noncomputable def K0 (k:Nat):Kt R:=kTop (cs k) Tryz.f241 dec
noncomputable def f (k:Nat):Y:=fun v=>held (runFn cs k Tryz.f241 (sh.args v) (sh.slots v) dec)
noncomputable def F:Y:=lm f
noncomputable def d (p0:g164.Y):Y:=fun (v0,v1,v2,v3,v4,v5,v6,v7,v8,v9,v10,v11,v12,v13,v14,v15,v16,v17,v18,v19,v20,v21,v22,v23,v24,v25,v26,v27,v28,v29,v30,v31,v32,v33,v34) =>
br (decide (0 ≤ v0 ∧ v0 < (↑v34.length:Int))) (br (decide (0 ≤ v1 ∧ v1 < (↑v34.length:Int))) (bnd (p0 (v2,v3,v4,v5,v6,v7,v8,v9,v10,v11,v12,v13,v14,v15,v16,v17,v28,v18,v19,v20,v21,v22,v23,v24,v25,v26,v27,v29,v30,v31,v32,v33,(rd ty1 v34 v0).1,(rd ty1 v34 v0).2.1,(rd ty1 v34 v0).2.2.1.1,(rd ty1 v34 v0).2.2.1.2,(rd ty1 v34 v0).2.2.2.1,(rd ty1 v34 v0).2.2.2.2,(rd ty1 v34 v1).1,(rd ty1 v34 v1).2.1,(rd ty1 v34 v1).2.2.1.1,(rd ty1 v34 v1).2.2.1.2,(rd ty1 v34 v1).2.2.2.1,(rd ty1 v34 v1).2.2.2.2)) fun r=>some (r,v2,v3,v4,v5,v6,v7,v8,v9,v10,v11,v12,v13,v14,v15,v16,v17,v18,v19,v20,v21,v22,v23,v24,v25,v26,v27,v28,v29,v30,v31,v32,v33,v34)) none) none
theorem d_cn (k0:Pr E g164.A g164.R):∀ v:A,Cn E (d k0.p v) fun i=>d (k0.q i) v:=fun (v0,v1,v2,v3,v4,v5,v6,v7,v8,v9,v10,v11,v12,v13,v14,v15,v16,v17,v18,v19,v20,v21,v22,v23,v24,v25,v26,v27,v28,v29,v30,v31,v32,v33,v34)=>(.br (.br (.bnd (k0.h _) fun _=>.some) .none) .none)
theorem f_b (k:Nat):∀ v:A,f k v = d (g164.f k) v:=fun (v0,v1,v2,v3,v4,v5,v6,v7,v8,v9,v10,v11,v12,v13,v14,v15,v16,v17,v18,v19,v20,v21,v22,v23,v24,v25,v26,v27,v28,v29,v30,v31,v32,v33,v34)=>(held_eq _).trans (by kernel_rfl)
theorem F_of (v:A) {r:R} (h:d g164.F v = some r):F v = some r:=join_of (fun L=>f_b (L 0) v) (d_cn (lp g164.f 0) v) h
noncomputable def spec (k:Nat):List AV→List Slot→Option Ans:=specS sh os (f k)
theorem spec_ok (k:Nat):SpecOk Tryz.prog 241 (spec k):=specS_ok cs_ok Tryz.func241 rfl rfl (fun _ _=>held_eq _) k
end g165
noncomputable def tg165:=tg164.cons 241 g165.spec g165.spec_ok
namespace g166 -- plan_queue_Swap
abbrev R:Type:=Int × Int × Int × Int × Int × Int × Int × Int × Int × Int × Int × Int × Int × Int × Int × Int × Int × Int × Int × Int × Int × Int × Int × Int × Int × Int × List Int × List (ByteArray × Int) × List (Int × Int × (Int × Int × Int) × Int × Int × Int × Int × Int × Int × Int × Int) × List (List Int) × List (List (Int × Int)) × List Int × List (Int × Int × (Int × Int) × Int × Int)
abbrev A:Type:=Int × Int × Int × Int × Int × Int × Int × Int × Int × Int × Int × Int × Int × Int × Int × Int × Int × Int × Int × Int × Int × Int × Int × Int × Int × Int × Int × Int × List Int × List (ByteArray × Int) × List (Int × Int × (Int × Int × Int) × Int × Int × Int × Int × Int × Int × Int × Int) × List (List Int) × List (List (Int × Int)) × List Int × List (Int × Int × (Int × Int) × Int × Int)
abbrev Y:=A→Option R
def lv:List (Nat × List Nat):=[(2000000,[0])]
noncomputable def cs:Nat→Ctx:=ctxOf tis modes tg165.1 lv
theorem cs_ok (n:Nat):CtxOk Tryz.prog (cs n):=ctxOf_ok rfl tis_ok tg165.2 n
noncomputable def sh:AS:=⟨[.c (.ptr 128000000 0),.c (.int .i64),.c (.int .i64)],[.box [.int .i64,.int .i64,.int .i64,.int .i64,.int .i64,.int .i64,.int .i64,.int .i64,.int .i64,.int .i64,.int .i64,.int .i64,.int .i64,.int .i64,.int .i64,.int .i64,.sl 128000001,.int .i64,.int .i64,.int .i64,.int .i64,.int .i64,.int .i64,.int .i64,.int .i64,.int .i64,.int .i64,.sl 128000002,.sl 128000003,.sl 128000004,.sl 128000005,.sl 128000006,.sl 128000007],.row (.int .i64),.row y19,.row y27,.nest y4,.nest y38,.row (.int .i64),.row y46]⟩
def os:OS:=⟨.tup [],[.box [.int .i64,.int .i64,.int .i64,.int .i64,.int .i64,.int .i64,.int .i64,.int .i64,.int .i64,.int .i64,.int .i64,.int .i64,.int .i64,.int .i64,.int .i64,.int .i64,.sl 128000001,.int .i64,.int .i64,.int .i64,.int .i64,.int .i64,.int .i64,.int .i64,.int .i64,.int .i64,.int .i64,.sl 128000002,.sl 128000003,.sl 128000004,.sl 128000005,.sl 128000006,.sl 128000007],.row (.int .i64),.row y19,.row y27,.nest y4,.nest y38,.row (.int .i64),.row y46]⟩
def enc (r:R):Out:=os.enc r
def dec:Out→Option R:=os.dec
noncomputable def b0:Code:=subF [] Tryz.f244
noncomputable def K0 (k:Nat):Kt R:=kTop (cs k) Tryz.f244 dec
noncomputable def f (k:Nat):Y:=fun v=>held (runFn cs k Tryz.f244 (sh.args v) (sh.slots v) dec)
noncomputable def F:Y:=lm f
noncomputable def d:Y:=fun (v0,v1,v2,v3,v4,v5,v6,v7,v8,v9,v10,v11,v12,v13,v14,v15,v16,v17,v18,v19,v20,v21,v22,v23,v24,v25,v26,v27,v28,v29,v30,v31,v32,v33,v34) =>
br (decide (0 ≤ v1 ∧ v1 < (↑v34.length:Int))) (br (decide (0 ≤ v0 ∧ v0 < (↑v34.length:Int))) (br (decide (0 ≤ v0 ∧ v0 < (↑v34.length:Int))) (br (decide (0 ≤ v1 ∧ v1 < (↑(v34.set v0.toNat ((rd ty1 v34 v1).1,(rd ty1 v34 v1).2.1,((rd ty1 v34 v1).2.2.1.1,(rd ty1 v34 v1).2.2.1.2),(rd ty1 v34 v1).2.2.2.1,(rd ty1 v34 v1).2.2.2.2)).length:Int))) (some (v2,v3,v4,v5,v6,v7,v8,v9,v10,v11,v12,v13,v14,v15,v16,v17,v18,v19,v20,v21,v22,v23,v24,v25,v26,v27,v28,v29,v30,v31,v32,v33,(v34.set v0.toNat ((rd ty1 v34 v1).1,(rd ty1 v34 v1).2.1,((rd ty1 v34 v1).2.2.1.1,(rd ty1 v34 v1).2.2.1.2),(rd ty1 v34 v1).2.2.2.1,(rd ty1 v34 v1).2.2.2.2)).set v1.toNat ((rd ty1 v34 v0).1,(rd ty1 v34 v0).2.1,((rd ty1 v34 v0).2.2.1.1,(rd ty1 v34 v0).2.2.1.2),(rd ty1 v34 v0).2.2.2.1,(rd ty1 v34 v0).2.2.2.2))) none) none) none) none
theorem d_cn:∀ v:A,Cn E (d v) fun i=>d v:=fun (v0,v1,v2,v3,v4,v5,v6,v7,v8,v9,v10,v11,v12,v13,v14,v15,v16,v17,v18,v19,v20,v21,v22,v23,v24,v25,v26,v27,v28,v29,v30,v31,v32,v33,v34)=>(.br (.br (.br (.br .some .none) .none) .none) .none)
theorem f_b (k:Nat):∀ v:A,f k v = d v:=fun (v0,v1,v2,v3,v4,v5,v6,v7,v8,v9,v10,v11,v12,v13,v14,v15,v16,v17,v18,v19,v20,v21,v22,v23,v24,v25,v26,v27,v28,v29,v30,v31,v32,v33,v34)=>(held_eq _).trans (by kernel_rfl)
theorem F_of (v:A) {r:R} (h:d v = some r):F v = some r:=join_of (fun L=>f_b (L 0) v) (d_cn v) h
noncomputable def spec (k:Nat):List AV→List Slot→Option Ans:=specS sh os (f k)
theorem spec_ok (k:Nat):SpecOk Tryz.prog 244 (spec k):=specS_ok cs_ok Tryz.func244 rfl rfl (fun _ _=>held_eq _) k
end g166
noncomputable def tg166:=tg165.cons 244 g166.spec g166.spec_ok
namespace g167 -- heap_up
abbrev R:Type:=Int × Int × Int × Int × Int × Int × Int × Int × Int × Int × Int × Int × Int × Int × Int × Int × Int × Int × Int × Int × Int × Int × Int × Int × Int × Int × List Int × List (ByteArray × Int) × List (Int × Int × (Int × Int × Int) × Int × Int × Int × Int × Int × Int × Int × Int) × List (List Int) × List (List (Int × Int)) × List Int × List (Int × Int × (Int × Int) × Int × Int)
abbrev A:Type:=Int × Int × Int × Int × Int × Int × Int × Int × Int × Int × Int × Int × Int × Int × Int × Int × Int × Int × Int × Int × Int × Int × Int × Int × Int × Int × Int × List Int × List (ByteArray × Int) × List (Int × Int × (Int × Int × Int) × Int × Int × Int × Int × Int × Int × Int × Int) × List (List Int) × List (List (Int × Int)) × List Int × List (Int × Int × (Int × Int) × Int × Int)
abbrev Y:=A→Option R
def lv:List (Nat × List Nat):=[(2000000,[0]),(0,[0,1])]
noncomputable def cs:Nat→Ctx:=ctxOf tis modes tg166.1 lv
theorem cs_ok (n:Nat):CtxOk Tryz.prog (cs n):=ctxOf_ok rfl tis_ok tg166.2 n
noncomputable def sh:AS:=⟨[.c (.ifp 217 128000000 0),.c (.int .i64)],[.box [.int .i64,.int .i64,.int .i64,.int .i64,.int .i64,.int .i64,.int .i64,.int .i64,.int .i64,.int .i64,.int .i64,.int .i64,.int .i64,.int .i64,.int .i64,.int .i64,.sl 128000001,.int .i64,.int .i64,.int .i64,.int .i64,.int .i64,.int .i64,.int .i64,.int .i64,.int .i64,.int .i64,.sl 128000002,.sl 128000003,.sl 128000004,.sl 128000005,.sl 128000006,.sl 128000007],.row (.int .i64),.row y19,.row y27,.nest y4,.nest y38,.row (.int .i64),.row y46]⟩
def os:OS:=⟨.tup [],[.box [.int .i64,.int .i64,.int .i64,.int .i64,.int .i64,.int .i64,.int .i64,.int .i64,.int .i64,.int .i64,.int .i64,.int .i64,.int .i64,.int .i64,.int .i64,.int .i64,.sl 128000001,.int .i64,.int .i64,.int .i64,.int .i64,.int .i64,.int .i64,.int .i64,.int .i64,.int .i64,.int .i64,.sl 128000002,.sl 128000003,.sl 128000004,.sl 128000005,.sl 128000006,.sl 128000007],.row (.int .i64),.row y19,.row y27,.nest y4,.nest y38,.row (.int .i64),.row y46]⟩
def enc (r:R):Out:=os.enc r
def dec:Out→Option R:=os.dec
noncomputable def bR:Code:=subF [] Tryz.f161
noncomputable def KR (k:Nat):Kt R:=kTop (cs k) Tryz.f161 dec
noncomputable def b0:Code:=sub [0,0] bR
noncomputable def K0 ( k:Nat):Kt R:=kAt (cs k) (loopN cs k) [0] bR (KR k)
abbrev T0:Type:=Int × Int × Int × Int × Int × Int × Int × Int × Int × Int × Int × Int × Int × Int × Int × Int × Int × Int × Int × Int × Int × Int × Int × Int × Int × Int × Int × List Int × List (ByteArray × Int) × List (Int × Int × (Int × Int × Int) × Int × Int × Int × Int × Int × Int × Int × Int) × List (List Int) × List (List (Int × Int)) × List Int × List (Int × Int × (Int × Int) × Int × Int)
abbrev Y0:=T0→Option R
noncomputable def s0:T0→St:=fun (v0,v1,v2,v3,v4,v5,v6,v7,v8,v9,v10,v11,v12,v13,v14,v15,v16,v17,v18,v19,v20,v21,v22,v23,v24,v25,v26,v27,v28,v29,v30,v31,v32,v33)=>⟨23,8,[(0,.c (.ifp 217 128000000 0)),(1,.c (.int .i64 v0))],[],[(128000000,.box [.int .i64 v1,.int .i64 v2,.int .i64 v3,.int .i64 v4,.int .i64 v5,.int .i64 v6,.int .i64 v7,.int .i64 v8,.int .i64 v9,.int .i64 v10,.int .i64 v11,.int .i64 v12,.int .i64 v13,.int .i64 v14,.int .i64 v15,.int .i64 v16,.sl 128000001,.int .i64 v17,.int .i64 v18,.int .i64 v19,.int .i64 v20,.int .i64 v21,.int .i64 v22,.int .i64 v23,.int .i64 v24,.int .i64 v25,.int .i64 v26,.sl 128000002,.sl 128000003,.sl 128000004,.sl 128000005,.sl 128000006,.sl 128000007]),(128000001,.row (.int .i64) v27),(128000002,.row y19 v28),(128000003,.row y27 v29),(128000004,.nest y4 v30 .none),(128000005,.nest y38 v31 .none),(128000006,.row (.int .i64) v32),(128000007,.row y46 v33),(256000000,.gone)]⟩
noncomputable def l0 ( k n:Nat) (v:T0):Option R:=held (loopN cs n b0 (K0 k) (s0 v))
noncomputable def D0 (v:T0):Option R:=lim fun L=>l0 (L 0) (L 1) v
theorem D0_cn (v:T0):Cn late (D0 v) fun L=>l0 (L 0) (L 1) v:=of_lim
noncomputable def d0 (p0:g165.Y) (p1:g166.Y) (p2:Y0):Y0:=fun (v0,v1,v2,v3,v4,v5,v6,v7,v8,v9,v10,v11,v12,v13,v14,v15,v16,v17,v18,v19,v20,v21,v22,v23,v24,v25,v26,v27,v28,v29,v30,v31,v32,v33) =>
br (!decide (2 = 0)) (br (decide (wrap .i64 ((wrap .i64 (v0 - 1)).tdiv 2) = v0) == false) (bnd (p0 (v0,wrap .i64 ((wrap .i64 (v0 - 1)).tdiv 2),v1,v2,v3,v4,v5,v6,v7,v8,v9,v10,v11,v12,v13,v14,v15,v16,v17,v18,v19,v20,v21,v22,v23,v24,v25,v26,v27,v28,v29,v30,v31,v32,v33)) fun r=>br (!r.1) (some (r.2.1,r.2.2.1,r.2.2.2.1,r.2.2.2.2.1,r.2.2.2.2.2.1,r.2.2.2.2.2.2.1,r.2.2.2.2.2.2.2.1,r.2.2.2.2.2.2.2.2.1,r.2.2.2.2.2.2.2.2.2.1,r.2.2.2.2.2.2.2.2.2.2.1,r.2.2.2.2.2.2.2.2.2.2.2.1,r.2.2.2.2.2.2.2.2.2.2.2.2.1,r.2.2.2.2.2.2.2.2.2.2.2.2.2.1,r.2.2.2.2.2.2.2.2.2.2.2.2.2.2.1,r.2.2.2.2.2.2.2.2.2.2.2.2.2.2.2.1,r.2.2.2.2.2.2.2.2.2.2.2.2.2.2.2.2.1,r.2.2.2.2.2.2.2.2.2.2.2.2.2.2.2.2.2.1,r.2.2.2.2.2.2.2.2.2.2.2.2.2.2.2.2.2.2.1,r.2.2.2.2.2.2.2.2.2.2.2.2.2.2.2.2.2.2.2.1,r.2.2.2.2.2.2.2.2.2.2.2.2.2.2.2.2.2.2.2.2.1,r.2.2.2.2.2.2.2.2.2.2.2.2.2.2.2.2.2.2.2.2.2.1,r.2.2.2.2.2.2.2.2.2.2.2.2.2.2.2.2.2.2.2.2.2.2.1,r.2.2.2.2.2.2.2.2.2.2.2.2.2.2.2.2.2.2.2.2.2.2.2.1,r.2.2.2.2.2.2.2.2.2.2.2.2.2.2.2.2.2.2.2.2.2.2.2.2.1,r.2.2.2.2.2.2.2.2.2.2.2.2.2.2.2.2.2.2.2.2.2.2.2.2.2.1,r.2.2.2.2.2.2.2.2.2.2.2.2.2.2.2.2.2.2.2.2.2.2.2.2.2.2.1,r.2.2.2.2.2.2.2.2.2.2.2.2.2.2.2.2.2.2.2.2.2.2.2.2.2.2.2.1,r.2.2.2.2.2.2.2.2.2.2.2.2.2.2.2.2.2.2.2.2.2.2.2.2.2.2.2.2.1,r.2.2.2.2.2.2.2.2.2.2.2.2.2.2.2.2.2.2.2.2.2.2.2.2.2.2.2.2.2.1,r.2.2.2.2.2.2.2.2.2.2.2.2.2.2.2.2.2.2.2.2.2.2.2.2.2.2.2.2.2.2.1,r.2.2.2.2.2.2.2.2.2.2.2.2.2.2.2.2.2.2.2.2.2.2.2.2.2.2.2.2.2.2.2.1,r.2.2.2.2.2.2.2.2.2.2.2.2.2.2.2.2.2.2.2.2.2.2.2.2.2.2.2.2.2.2.2.2.1,r.2.2.2.2.2.2.2.2.2.2.2.2.2.2.2.2.2.2.2.2.2.2.2.2.2.2.2.2.2.2.2.2.2)) (bnd (p1 (wrap .i64 ((wrap .i64 (v0 - 1)).tdiv 2),v0,r.2.1,r.2.2.1,r.2.2.2.1,r.2.2.2.2.1,r.2.2.2.2.2.1,r.2.2.2.2.2.2.1,r.2.2.2.2.2.2.2.1,r.2.2.2.2.2.2.2.2.1,r.2.2.2.2.2.2.2.2.2.1,r.2.2.2.2.2.2.2.2.2.2.1,r.2.2.2.2.2.2.2.2.2.2.2.1,r.2.2.2.2.2.2.2.2.2.2.2.2.1,r.2.2.2.2.2.2.2.2.2.2.2.2.2.1,r.2.2.2.2.2.2.2.2.2.2.2.2.2.2.1,r.2.2.2.2.2.2.2.2.2.2.2.2.2.2.2.1,r.2.2.2.2.2.2.2.2.2.2.2.2.2.2.2.2.1,r.2.2.2.2.2.2.2.2.2.2.2.2.2.2.2.2.2.1,r.2.2.2.2.2.2.2.2.2.2.2.2.2.2.2.2.2.2.1,r.2.2.2.2.2.2.2.2.2.2.2.2.2.2.2.2.2.2.2.1,r.2.2.2.2.2.2.2.2.2.2.2.2.2.2.2.2.2.2.2.2.1,r.2.2.2.2.2.2.2.2.2.2.2.2.2.2.2.2.2.2.2.2.2.1,r.2.2.2.2.2.2.2.2.2.2.2.2.2.2.2.2.2.2.2.2.2.2.1,r.2.2.2.2.2.2.2.2.2.2.2.2.2.2.2.2.2.2.2.2.2.2.2.1,r.2.2.2.2.2.2.2.2.2.2.2.2.2.2.2.2.2.2.2.2.2.2.2.2.1,r.2.2.2.2.2.2.2.2.2.2.2.2.2.2.2.2.2.2.2.2.2.2.2.2.2.1,r.2.2.2.2.2.2.2.2.2.2.2.2.2.2.2.2.2.2.2.2.2.2.2.2.2.2.1,r.2.2.2.2.2.2.2.2.2.2.2.2.2.2.2.2.2.2.2.2.2.2.2.2.2.2.2.1,r.2.2.2.2.2.2.2.2.2.2.2.2.2.2.2.2.2.2.2.2.2.2.2.2.2.2.2.2.1,r.2.2.2.2.2.2.2.2.2.2.2.2.2.2.2.2.2.2.2.2.2.2.2.2.2.2.2.2.2.1,r.2.2.2.2.2.2.2.2.2.2.2.2.2.2.2.2.2.2.2.2.2.2.2.2.2.2.2.2.2.2.1,r.2.2.2.2.2.2.2.2.2.2.2.2.2.2.2.2.2.2.2.2.2.2.2.2.2.2.2.2.2.2.2.1,r.2.2.2.2.2.2.2.2.2.2.2.2.2.2.2.2.2.2.2.2.2.2.2.2.2.2.2.2.2.2.2.2.1,r.2.2.2.2.2.2.2.2.2.2.2.2.2.2.2.2.2.2.2.2.2.2.2.2.2.2.2.2.2.2.2.2.2)) fun r=>p2 (wrap .i64 ((wrap .i64 (v0 - 1)).tdiv 2),r.1,r.2.1,r.2.2.1,r.2.2.2.1,r.2.2.2.2.1,r.2.2.2.2.2.1,r.2.2.2.2.2.2.1,r.2.2.2.2.2.2.2.1,r.2.2.2.2.2.2.2.2.1,r.2.2.2.2.2.2.2.2.2.1,r.2.2.2.2.2.2.2.2.2.2.1,r.2.2.2.2.2.2.2.2.2.2.2.1,r.2.2.2.2.2.2.2.2.2.2.2.2.1,r.2.2.2.2.2.2.2.2.2.2.2.2.2.1,r.2.2.2.2.2.2.2.2.2.2.2.2.2.2.1,r.2.2.2.2.2.2.2.2.2.2.2.2.2.2.2.1,r.2.2.2.2.2.2.2.2.2.2.2.2.2.2.2.2.1,r.2.2.2.2.2.2.2.2.2.2.2.2.2.2.2.2.2.1,r.2.2.2.2.2.2.2.2.2.2.2.2.2.2.2.2.2.2.1,r.2.2.2.2.2.2.2.2.2.2.2.2.2.2.2.2.2.2.2.1,r.2.2.2.2.2.2.2.2.2.2.2.2.2.2.2.2.2.2.2.2.1,r.2.2.2.2.2.2.2.2.2.2.2.2.2.2.2.2.2.2.2.2.2.1,r.2.2.2.2.2.2.2.2.2.2.2.2.2.2.2.2.2.2.2.2.2.2.1,r.2.2.2.2.2.2.2.2.2.2.2.2.2.2.2.2.2.2.2.2.2.2.2.1,r.2.2.2.2.2.2.2.2.2.2.2.2.2.2.2.2.2.2.2.2.2.2.2.2.1,r.2.2.2.2.2.2.2.2.2.2.2.2.2.2.2.2.2.2.2.2.2.2.2.2.2.1,r.2.2.2.2.2.2.2.2.2.2.2.2.2.2.2.2.2.2.2.2.2.2.2.2.2.2.1,r.2.2.2.2.2.2.2.2.2.2.2.2.2.2.2.2.2.2.2.2.2.2.2.2.2.2.2.1,r.2.2.2.2.2.2.2.2.2.2.2.2.2.2.2.2.2.2.2.2.2.2.2.2.2.2.2.2.1,r.2.2.2.2.2.2.2.2.2.2.2.2.2.2.2.2.2.2.2.2.2.2.2.2.2.2.2.2.2.1,r.2.2.2.2.2.2.2.2.2.2.2.2.2.2.2.2.2.2.2.2.2.2.2.2.2.2.2.2.2.2.1,r.2.2.2.2.2.2.2.2.2.2.2.2.2.2.2.2.2.2.2.2.2.2.2.2.2.2.2.2.2.2.2.1,r.2.2.2.2.2.2.2.2.2.2.2.2.2.2.2.2.2.2.2.2.2.2.2.2.2.2.2.2.2.2.2.2))) (some (v1,v2,v3,v4,v5,v6,v7,v8,v9,v10,v11,v12,v13,v14,v15,v16,v17,v18,v19,v20,v21,v22,v23,v24,v25,v26,v27,v28,v29,v30,v31,v32,v33))) none
theorem d0_cn (k0:Pr E g165.A g165.R) (k1:Pr E g166.A g166.R) (k2:Pr E T0 R):∀ v:T0,Cn E (d0 k0.p k1.p k2.p v) fun i=>d0 (k0.q i) (k1.q i) (k2.q i) v:=fun (v0,v1,v2,v3,v4,v5,v6,v7,v8,v9,v10,v11,v12,v13,v14,v15,v16,v17,v18,v19,v20,v21,v22,v23,v24,v25,v26,v27,v28,v29,v30,v31,v32,v33)=>(.br (.br (.bnd (k0.h _) fun _=>(.br .some (.bnd (k1.h _) fun _=>(k2.h _)))) .some) .none)
theorem l0_b ( k m1:Nat):∀ v:T0,run (cs m1) (loopN cs m1) b0 (kLoop cs m1 b0 (K0 k)) (s0 v) = d0 (g165.f m1) (g166.f m1) (l0 k m1) v:=fun (v0,v1,v2,v3,v4,v5,v6,v7,v8,v9,v10,v11,v12,v13,v14,v15,v16,v17,v18,v19,v20,v21,v22,v23,v24,v25,v26,v27,v28,v29,v30,v31,v32,v33)=>by kernel_rfl
theorem D0_of (v:T0) {r:R} (h:d0 g165.F g166.F D0 v = some r):D0 v = some r:=loop_of 1 (fun L n hn=>by show l0 (L 0) (L 1) v = _; rw [hn]; exact (held_eq _).trans ((loopN_succ _ _ _ _ _).trans (l0_b (L 0) n v))) (d0_cn (lp g165.f 1) (lp g166.f 1) (.mk fun v=>(D0_cn v).re [0,1]) v) h
noncomputable def f (k:Nat):Y:=fun v=>held (runFn cs k Tryz.f161 (sh.args v) (sh.slots v) dec)
noncomputable def F:Y:=lm f
def d (p0:Y0):Y:=fun (v0,v1,v2,v3,v4,v5,v6,v7,v8,v9,v10,v11,v12,v13,v14,v15,v16,v17,v18,v19,v20,v21,v22,v23,v24,v25,v26,v27,v28,v29,v30,v31,v32,v33) =>
p0 (v0,v1,v2,v3,v4,v5,v6,v7,v8,v9,v10,v11,v12,v13,v14,v15,v16,v17,v18,v19,v20,v21,v22,v23,v24,v25,v26,v27,v28,v29,v30,v31,v32,v33)
theorem d_cn (k0:Pr E T0 R):∀ v:A,Cn E (d k0.p v) fun i=>d (k0.q i) v:=fun (v0,v1,v2,v3,v4,v5,v6,v7,v8,v9,v10,v11,v12,v13,v14,v15,v16,v17,v18,v19,v20,v21,v22,v23,v24,v25,v26,v27,v28,v29,v30,v31,v32,v33)=>(k0.h _)
theorem f_b (k:Nat):∀ v:A,f k v = d (l0 k k) v:=fun (v0,v1,v2,v3,v4,v5,v6,v7,v8,v9,v10,v11,v12,v13,v14,v15,v16,v17,v18,v19,v20,v21,v22,v23,v24,v25,v26,v27,v28,v29,v30,v31,v32,v33)=>(held_eq _).trans (by kernel_rfl)
theorem F_of (v:A) {r:R} (h:d D0 v = some r):F v = some r:=join_of (fun L=>f_b (L 0) v) (d_cn (.mk fun v=>(D0_cn v).re [0,0]) v) h
noncomputable def spec (k:Nat):List AV→List Slot→Option Ans:=specS sh os (f k)
theorem spec_ok (k:Nat):SpecOk Tryz.prog 161 (spec k):=specS_ok cs_ok Tryz.func161 rfl rfl (fun _ _=>held_eq _) k
end g167
noncomputable def tg167:=tg166.cons 161 g167.spec g167.spec_ok
namespace g168 -- heap_Push
abbrev R:Type:=Int × Int × Int × Int × Int × Int × Int × Int × Int × Int × Int × Int × Int × Int × Int × Int × Int × Int × Int × Int × Int × Int × Int × Int × Int × Int × List Int × List (ByteArray × Int) × List (Int × Int × (Int × Int × Int) × Int × Int × Int × Int × Int × Int × Int × Int) × List (List Int) × List (List (Int × Int)) × List Int × List (Int × Int × (Int × Int) × Int × Int)
abbrev A:Type:=(Int × Int × (Int × Int) × Int × Int) × Int × Int × Int × Int × Int × Int × Int × Int × Int × Int × Int × Int × Int × Int × Int × Int × Int × Int × Int × Int × Int × Int × Int × Int × Int × Int × List Int × List (ByteArray × Int) × List (Int × Int × (Int × Int × Int) × Int × Int × Int × Int × Int × Int × Int × Int) × List (List Int) × List (List (Int × Int)) × List Int × List (Int × Int × (Int × Int) × Int × Int)
abbrev Y:=A→Option R
def lv:List (Nat × List Nat):=[(2000000,[0])]
noncomputable def cs:Nat→Ctx:=ctxOf tis modes tg167.1 lv
theorem cs_ok (n:Nat):CtxOk Tryz.prog (cs n):=ctxOf_ok rfl tis_ok tg167.2 n
noncomputable def sh:AS:=⟨[.c (.ifp 217 128000000 0),.c (.ifd 96 .true y46)],[.box [.int .i64,.int .i64,.int .i64,.int .i64,.int .i64,.int .i64,.int .i64,.int .i64,.int .i64,.int .i64,.int .i64,.int .i64,.int .i64,.int .i64,.int .i64,.int .i64,.sl 128000001,.int .i64,.int .i64,.int .i64,.int .i64,.int .i64,.int .i64,.int .i64,.int .i64,.int .i64,.int .i64,.sl 128000002,.sl 128000003,.sl 128000004,.sl 128000005,.sl 128000006,.sl 128000007],.row (.int .i64),.row y19,.row y27,.nest y4,.nest y38,.row (.int .i64),.row y46]⟩
def os:OS:=⟨.tup [],[.box [.int .i64,.int .i64,.int .i64,.int .i64,.int .i64,.int .i64,.int .i64,.int .i64,.int .i64,.int .i64,.int .i64,.int .i64,.int .i64,.int .i64,.int .i64,.int .i64,.sl 128000001,.int .i64,.int .i64,.int .i64,.int .i64,.int .i64,.int .i64,.int .i64,.int .i64,.int .i64,.int .i64,.sl 128000002,.sl 128000003,.sl 128000004,.sl 128000005,.sl 128000006,.sl 128000008],.row (.int .i64),.row y19,.row y27,.nest y4,.nest y38,.row (.int .i64),.gone,.row y46]⟩
def enc (r:R):Out:=os.enc r
def dec:Out→Option R:=os.dec
noncomputable def b0:Code:=subF [] Tryz.f112
noncomputable def K0 (k:Nat):Kt R:=kTop (cs k) Tryz.f112 dec
noncomputable def f (k:Nat):Y:=fun v=>held (runFn cs k Tryz.f112 (sh.args v) (sh.slots v) dec)
noncomputable def F:Y:=lm f
noncomputable def d (p0:g162.Y) (p1:g163.Y) (p2:g167.Y):Y:=fun (v0,v1,v2,v3,v4,v5,v6,v7,v8,v9,v10,v11,v12,v13,v14,v15,v16,v17,v18,v19,v20,v21,v22,v23,v24,v25,v26,v27,v28,v29,v30,v31,v32,v33) =>
bnd (p0 (v0,v1,v2,v3,v4,v5,v6,v7,v8,v9,v10,v11,v12,v13,v14,v15,v16,v17,v18,v19,v20,v21,v22,v23,v24,v25,v26,v27,v28,v29,v30,v31,v32,v33)) fun r=>bnd (p1 (r.1,r.2.1,r.2.2.1,r.2.2.2.1,r.2.2.2.2.1,r.2.2.2.2.2.1,r.2.2.2.2.2.2.1,r.2.2.2.2.2.2.2.1,r.2.2.2.2.2.2.2.2.1,r.2.2.2.2.2.2.2.2.2.1,r.2.2.2.2.2.2.2.2.2.2.1,r.2.2.2.2.2.2.2.2.2.2.2.1,r.2.2.2.2.2.2.2.2.2.2.2.2.1,r.2.2.2.2.2.2.2.2.2.2.2.2.2.1,r.2.2.2.2.2.2.2.2.2.2.2.2.2.2.1,r.2.2.2.2.2.2.2.2.2.2.2.2.2.2.2.1,r.2.2.2.2.2.2.2.2.2.2.2.2.2.2.2.2.1,r.2.2.2.2.2.2.2.2.2.2.2.2.2.2.2.2.2.1,r.2.2.2.2.2.2.2.2.2.2.2.2.2.2.2.2.2.2.1,r.2.2.2.2.2.2.2.2.2.2.2.2.2.2.2.2.2.2.2.1,r.2.2.2.2.2.2.2.2.2.2.2.2.2.2.2.2.2.2.2.2.1,r.2.2.2.2.2.2.2.2.2.2.2.2.2.2.2.2.2.2.2.2.2.1,r.2.2.2.2.2.2.2.2.2.2.2.2.2.2.2.2.2.2.2.2.2.2.1,r.2.2.2.2.2.2.2.2.2.2.2.2.2.2.2.2.2.2.2.2.2.2.2.1,r.2.2.2.2.2.2.2.2.2.2.2.2.2.2.2.2.2.2.2.2.2.2.2.2.1,r.2.2.2.2.2.2.2.2.2.2.2.2.2.2.2.2.2.2.2.2.2.2.2.2.2.1,r.2.2.2.2.2.2.2.2.2.2.2.2.2.2.2.2.2.2.2.2.2.2.2.2.2.2.1,r.2.2.2.2.2.2.2.2.2.2.2.2.2.2.2.2.2.2.2.2.2.2.2.2.2.2.2.1,r.2.2.2.2.2.2.2.2.2.2.2.2.2.2.2.2.2.2.2.2.2.2.2.2.2.2.2.2.1,r.2.2.2.2.2.2.2.2.2.2.2.2.2.2.2.2.2.2.2.2.2.2.2.2.2.2.2.2.2.1,r.2.2.2.2.2.2.2.2.2.2.2.2.2.2.2.2.2.2.2.2.2.2.2.2.2.2.2.2.2.2.1,r.2.2.2.2.2.2.2.2.2.2.2.2.2.2.2.2.2.2.2.2.2.2.2.2.2.2.2.2.2.2.2.1,r.2.2.2.2.2.2.2.2.2.2.2.2.2.2.2.2.2.2.2.2.2.2.2.2.2.2.2.2.2.2.2.2)) fun r=>bnd (p2 (wrap .i64 (r.1 - 1),r.2.1,r.2.2.1,r.2.2.2.1,r.2.2.2.2.1,r.2.2.2.2.2.1,r.2.2.2.2.2.2.1,r.2.2.2.2.2.2.2.1,r.2.2.2.2.2.2.2.2.1,r.2.2.2.2.2.2.2.2.2.1,r.2.2.2.2.2.2.2.2.2.2.1,r.2.2.2.2.2.2.2.2.2.2.2.1,r.2.2.2.2.2.2.2.2.2.2.2.2.1,r.2.2.2.2.2.2.2.2.2.2.2.2.2.1,r.2.2.2.2.2.2.2.2.2.2.2.2.2.2.1,r.2.2.2.2.2.2.2.2.2.2.2.2.2.2.2.1,r.2.2.2.2.2.2.2.2.2.2.2.2.2.2.2.2.1,r.2.2.2.2.2.2.2.2.2.2.2.2.2.2.2.2.2.1,r.2.2.2.2.2.2.2.2.2.2.2.2.2.2.2.2.2.2.1,r.2.2.2.2.2.2.2.2.2.2.2.2.2.2.2.2.2.2.2.1,r.2.2.2.2.2.2.2.2.2.2.2.2.2.2.2.2.2.2.2.2.1,r.2.2.2.2.2.2.2.2.2.2.2.2.2.2.2.2.2.2.2.2.2.1,r.2.2.2.2.2.2.2.2.2.2.2.2.2.2.2.2.2.2.2.2.2.2.1,r.2.2.2.2.2.2.2.2.2.2.2.2.2.2.2.2.2.2.2.2.2.2.2.1,r.2.2.2.2.2.2.2.2.2.2.2.2.2.2.2.2.2.2.2.2.2.2.2.2.1,r.2.2.2.2.2.2.2.2.2.2.2.2.2.2.2.2.2.2.2.2.2.2.2.2.2.1,r.2.2.2.2.2.2.2.2.2.2.2.2.2.2.2.2.2.2.2.2.2.2.2.2.2.2.1,r.2.2.2.2.2.2.2.2.2.2.2.2.2.2.2.2.2.2.2.2.2.2.2.2.2.2.2.1,r.2.2.2.2.2.2.2.2.2.2.2.2.2.2.2.2.2.2.2.2.2.2.2.2.2.2.2.2.1,r.2.2.2.2.2.2.2.2.2.2.2.2.2.2.2.2.2.2.2.2.2.2.2.2.2.2.2.2.2.1,r.2.2.2.2.2.2.2.2.2.2.2.2.2.2.2.2.2.2.2.2.2.2.2.2.2.2.2.2.2.2.1,r.2.2.2.2.2.2.2.2.2.2.2.2.2.2.2.2.2.2.2.2.2.2.2.2.2.2.2.2.2.2.2.1,r.2.2.2.2.2.2.2.2.2.2.2.2.2.2.2.2.2.2.2.2.2.2.2.2.2.2.2.2.2.2.2.2.1,r.2.2.2.2.2.2.2.2.2.2.2.2.2.2.2.2.2.2.2.2.2.2.2.2.2.2.2.2.2.2.2.2.2)) fun r=>some (r.1,r.2.1,r.2.2.1,r.2.2.2.1,r.2.2.2.2.1,r.2.2.2.2.2.1,r.2.2.2.2.2.2.1,r.2.2.2.2.2.2.2.1,r.2.2.2.2.2.2.2.2.1,r.2.2.2.2.2.2.2.2.2.1,r.2.2.2.2.2.2.2.2.2.2.1,r.2.2.2.2.2.2.2.2.2.2.2.1,r.2.2.2.2.2.2.2.2.2.2.2.2.1,r.2.2.2.2.2.2.2.2.2.2.2.2.2.1,r.2.2.2.2.2.2.2.2.2.2.2.2.2.2.1,r.2.2.2.2.2.2.2.2.2.2.2.2.2.2.2.1,r.2.2.2.2.2.2.2.2.2.2.2.2.2.2.2.2.1,r.2.2.2.2.2.2.2.2.2.2.2.2.2.2.2.2.2.1,r.2.2.2.2.2.2.2.2.2.2.2.2.2.2.2.2.2.2.1,r.2.2.2.2.2.2.2.2.2.2.2.2.2.2.2.2.2.2.2.1,r.2.2.2.2.2.2.2.2.2.2.2.2.2.2.2.2.2.2.2.2.1,r.2.2.2.2.2.2.2.2.2.2.2.2.2.2.2.2.2.2.2.2.2.1,r.2.2.2.2.2.2.2.2.2.2.2.2.2.2.2.2.2.2.2.2.2.2.1,r.2.2.2.2.2.2.2.2.2.2.2.2.2.2.2.2.2.2.2.2.2.2.2.1,r.2.2.2.2.2.2.2.2.2.2.2.2.2.2.2.2.2.2.2.2.2.2.2.2.1,r.2.2.2.2.2.2.2.2.2.2.2.2.2.2.2.2.2.2.2.2.2.2.2.2.2.1,r.2.2.2.2.2.2.2.2.2.2.2.2.2.2.2.2.2.2.2.2.2.2.2.2.2.2.1,r.2.2.2.2.2.2.2.2.2.2.2.2.2.2.2.2.2.2.2.2.2.2.2.2.2.2.2.1,r.2.2.2.2.2.2.2.2.2.2.2.2.2.2.2.2.2.2.2.2.2.2.2.2.2.2.2.2.1,r.2.2.2.2.2.2.2.2.2.2.2.2.2.2.2.2.2.2.2.2.2.2.2.2.2.2.2.2.2.1,r.2.2.2.2.2.2.2.2.2.2.2.2.2.2.2.2.2.2.2.2.2.2.2.2.2.2.2.2.2.2.1,r.2.2.2.2.2.2.2.2.2.2.2.2.2.2.2.2.2.2.2.2.2.2.2.2.2.2.2.2.2.2.2.1,r.2.2.2.2.2.2.2.2.2.2.2.2.2.2.2.2.2.2.2.2.2.2.2.2.2.2.2.2.2.2.2.2)
theorem d_cn (k0:Pr E g162.A g162.R) (k1:Pr E g163.A g163.R) (k2:Pr E g167.A g167.R):∀ v:A,Cn E (d k0.p k1.p k2.p v) fun i=>d (k0.q i) (k1.q i) (k2.q i) v:=fun (v0,v1,v2,v3,v4,v5,v6,v7,v8,v9,v10,v11,v12,v13,v14,v15,v16,v17,v18,v19,v20,v21,v22,v23,v24,v25,v26,v27,v28,v29,v30,v31,v32,v33)=>(.bnd (k0.h _) fun _=>(.bnd (k1.h _) fun _=>(.bnd (k2.h _) fun _=>.some)))
theorem f_b (k:Nat):∀ v:A,f k v = d (g162.f k) (g163.f k) (g167.f k) v:=fun (v0,v1,v2,v3,v4,v5,v6,v7,v8,v9,v10,v11,v12,v13,v14,v15,v16,v17,v18,v19,v20,v21,v22,v23,v24,v25,v26,v27,v28,v29,v30,v31,v32,v33)=>(held_eq _).trans (by kernel_rfl)
theorem F_of (v:A) {r:R} (h:d g162.F g163.F g167.F v = some r):F v = some r:=join_of (fun L=>f_b (L 0) v) (d_cn (lp g162.f 0) (lp g163.f 0) (lp g167.f 0) v) h
noncomputable def spec (k:Nat):List AV→List Slot→Option Ans:=specS sh os (f k)
theorem spec_ok (k:Nat):SpecOk Tryz.prog 112 (spec k):=specS_ok cs_ok Tryz.func112 rfl rfl (fun _ _=>held_eq _) k
end g168
noncomputable def tg168:=tg167.cons 112 g168.spec g168.spec_ok
namespace g169 -- heap_down
abbrev R:Type:=Bool × Int × Int × Int × Int × Int × Int × Int × Int × Int × Int × Int × Int × Int × Int × Int × Int × Int × Int × Int × Int × Int × Int × Int × Int × Int × Int × List Int × List (ByteArray × Int) × List (Int × Int × (Int × Int × Int) × Int × Int × Int × Int × Int × Int × Int × Int) × List (List Int) × List (List (Int × Int)) × List Int × List (Int × Int × (Int × Int) × Int × Int)
abbrev A:Type:=Int × Int × Int × Int × Int × Int × Int × Int × Int × Int × Int × Int × Int × Int × Int × Int × Int × Int × Int × Int × Int × Int × Int × Int × Int × Int × Int × Int × List Int × List (ByteArray × Int) × List (Int × Int × (Int × Int × Int) × Int × Int × Int × Int × Int × Int × Int × Int) × List (List Int) × List (List (Int × Int)) × List Int × List (Int × Int × (Int × Int) × Int × Int)
abbrev Y:=A→Option R
def lv:List (Nat × List Nat):=[(2000000,[6]),(2,[0,1,2,7]),(1000008,[0,1,2,7,9]),(1000011,[1,7])]
noncomputable def cs:Nat→Ctx:=ctxOf tis modes tg168.1 lv
theorem cs_ok (n:Nat):CtxOk Tryz.prog (cs n):=ctxOf_ok rfl tis_ok tg168.2 n
noncomputable def sh:AS:=⟨[.c (.ifp 217 128000000 0),.c (.int .i64),.c (.int .i64)],[.box [.int .i64,.int .i64,.int .i64,.int .i64,.int .i64,.int .i64,.int .i64,.int .i64,.int .i64,.int .i64,.int .i64,.int .i64,.int .i64,.int .i64,.int .i64,.int .i64,.sl 128000001,.int .i64,.int .i64,.int .i64,.int .i64,.int .i64,.int .i64,.int .i64,.int .i64,.int .i64,.int .i64,.sl 128000002,.sl 128000003,.sl 128000004,.sl 128000005,.sl 128000006,.sl 128000007],.row (.int .i64),.row y19,.row y27,.nest y4,.nest y38,.row (.int .i64),.row y46]⟩
def os:OS:=⟨.c .bool,[.box [.int .i64,.int .i64,.int .i64,.int .i64,.int .i64,.int .i64,.int .i64,.int .i64,.int .i64,.int .i64,.int .i64,.int .i64,.int .i64,.int .i64,.int .i64,.int .i64,.sl 128000001,.int .i64,.int .i64,.int .i64,.int .i64,.int .i64,.int .i64,.int .i64,.int .i64,.int .i64,.int .i64,.sl 128000002,.sl 128000003,.sl 128000004,.sl 128000005,.sl 128000006,.sl 128000007],.row (.int .i64),.row y19,.row y27,.nest y4,.nest y38,.row (.int .i64),.row y46]⟩
def enc (r:R):Out:=os.enc r
def dec:Out→Option R:=os.dec
noncomputable def b0:Code:=subF [] Tryz.f162
noncomputable def K0 (k:Nat):Kt R:=kTop (cs k) Tryz.f162 dec
noncomputable def c1000011:Code:=sub [1,1,1] b0
noncomputable def J1000011 ( k:Nat):Kt R:=kAt (cs k) (loopN cs k) [1,1,1] b0 (K0 k)
noncomputable def b2:Code:=sub [1,1,0,0,0] b0
noncomputable def K2 ( k:Nat):Kt R:=kAt (cs k) (loopN cs k) [1,1,0,0] b0 (K0 k)
noncomputable def c1000008:Code:=sub [0,1,1,1,1] b2
noncomputable def J1000008 ( k m1:Nat):Kt R:=kAt (cs m1) (loopN cs m1) [0,1,1,1,1] b2 (kLoop cs m1 b2 (K2 k))
abbrev T0:Type:=Int × Int × Int × Int × Int × Int × Int × Int × Int × Int × Int × Int × Int × Int × Int × Int × Int × Int × Int × Int × Int × Int × Int × Int × Int × Int × Int × Int × Int × List Int × List (ByteArray × Int) × List (Int × Int × (Int × Int × Int) × Int × Int × Int × Int × Int × Int × Int × Int) × List (List Int) × List (List (Int × Int)) × List Int × List (Int × Int × (Int × Int) × Int × Int)
abbrev Y0:=T0→Option R
noncomputable def s0:T0→St:=fun (v0,v1,v2,v3,v4,v5,v6,v7,v8,v9,v10,v11,v12,v13,v14,v15,v16,v17,v18,v19,v20,v21,v22,v23,v24,v25,v26,v27,v28,v29,v30,v31,v32,v33,v34,v35)=>⟨48,8,[(0,.c (.ifp 217 128000000 0)),(1,.c (.int .i64 v0)),(2,.c (.int .i64 v1)),(7,.c (.int .i64 v2))],[],[(128000000,.box [.int .i64 v3,.int .i64 v4,.int .i64 v5,.int .i64 v6,.int .i64 v7,.int .i64 v8,.int .i64 v9,.int .i64 v10,.int .i64 v11,.int .i64 v12,.int .i64 v13,.int .i64 v14,.int .i64 v15,.int .i64 v16,.int .i64 v17,.int .i64 v18,.sl 128000001,.int .i64 v19,.int .i64 v20,.int .i64 v21,.int .i64 v22,.int .i64 v23,.int .i64 v24,.int .i64 v25,.int .i64 v26,.int .i64 v27,.int .i64 v28,.sl 128000002,.sl 128000003,.sl 128000004,.sl 128000005,.sl 128000006,.sl 128000007]),(128000001,.row (.int .i64) v29),(128000002,.row y19 v30),(128000003,.row y27 v31),(128000004,.nest y4 v32 .none),(128000005,.nest y38 v33 .none),(128000006,.row (.int .i64) v34),(128000007,.row y46 v35),(256000000,.gone)]⟩
noncomputable def l0 ( k n:Nat) (v:T0):Option R:=held (loopN cs n b2 (K2 k) (s0 v))
noncomputable def D0 (v:T0):Option R:=lim fun L=>l0 (L 0) (L 1) v
theorem D0_cn (v:T0):Cn late (D0 v) fun L=>l0 (L 0) (L 1) v:=of_lim
abbrev T1:Type:=Int × Int × Int × Int × Int × Int × Int × Int × Int × Int × Int × Int × Int × Int × Int × Int × Int × Int × Int × Int × Int × Int × Int × Int × Int × Int × Int × Int × List Int × List (ByteArray × Int) × List (Int × Int × (Int × Int × Int) × Int × Int × Int × Int × Int × Int × Int × Int) × List (List Int) × List (List (Int × Int)) × List Int × List (Int × Int × (Int × Int) × Int × Int)
abbrev Y1:=T1→Option R
noncomputable def s1:T1→St:=fun (v0,v1,v2,v3,v4,v5,v6,v7,v8,v9,v10,v11,v12,v13,v14,v15,v16,v17,v18,v19,v20,v21,v22,v23,v24,v25,v26,v27,v28,v29,v30,v31,v32,v33,v34)=>⟨48,8,[(1,.c (.int .i64 v0)),(7,.c (.int .i64 v1))],[],[(128000000,.box [.int .i64 v2,.int .i64 v3,.int .i64 v4,.int .i64 v5,.int .i64 v6,.int .i64 v7,.int .i64 v8,.int .i64 v9,.int .i64 v10,.int .i64 v11,.int .i64 v12,.int .i64 v13,.int .i64 v14,.int .i64 v15,.int .i64 v16,.int .i64 v17,.sl 128000001,.int .i64 v18,.int .i64 v19,.int .i64 v20,.int .i64 v21,.int .i64 v22,.int .i64 v23,.int .i64 v24,.int .i64 v25,.int .i64 v26,.int .i64 v27,.sl 128000002,.sl 128000003,.sl 128000004,.sl 128000005,.sl 128000006,.sl 128000007]),(128000001,.row (.int .i64) v28),(128000002,.row y19 v29),(128000003,.row y27 v30),(128000004,.nest y4 v31 .none),(128000005,.nest y38 v32 .none),(128000006,.row (.int .i64) v33),(128000007,.row y46 v34),(256000000,.gone)]⟩
noncomputable def l1 ( k:Nat) (v:T1):Option R:=held (run (cs k) (loopN cs k) c1000011 (J1000011 k) (s1 v))
noncomputable def D1 (v:T1):Option R:=lim fun L=>l1 (L 0) v
theorem D1_cn (v:T1):Cn late (D1 v) fun L=>l1 (L 0) v:=of_lim
abbrev T2:Type:=Int × Int × Int × Int × Int × Int × Int × Int × Int × Int × Int × Int × Int × Int × Int × Int × Int × Int × Int × Int × Int × Int × Int × Int × Int × Int × Int × Int × Int × Int × List Int × List (ByteArray × Int) × List (Int × Int × (Int × Int × Int) × Int × Int × Int × Int × Int × Int × Int × Int) × List (List Int) × List (List (Int × Int)) × List Int × List (Int × Int × (Int × Int) × Int × Int)
abbrev Y2:=T2→Option R
noncomputable def s2:T2→St:=fun (v0,v1,v2,v3,v4,v5,v6,v7,v8,v9,v10,v11,v12,v13,v14,v15,v16,v17,v18,v19,v20,v21,v22,v23,v24,v25,v26,v27,v28,v29,v30,v31,v32,v33,v34,v35,v36)=>⟨48,8,[(0,.c (.ifp 217 128000000 0)),(1,.c (.int .i64 v0)),(2,.c (.int .i64 v1)),(7,.c (.int .i64 v2)),(9,.c (.int .i64 v3))],[],[(128000000,.box [.int .i64 v4,.int .i64 v5,.int .i64 v6,.int .i64 v7,.int .i64 v8,.int .i64 v9,.int .i64 v10,.int .i64 v11,.int .i64 v12,.int .i64 v13,.int .i64 v14,.int .i64 v15,.int .i64 v16,.int .i64 v17,.int .i64 v18,.int .i64 v19,.sl 128000001,.int .i64 v20,.int .i64 v21,.int .i64 v22,.int .i64 v23,.int .i64 v24,.int .i64 v25,.int .i64 v26,.int .i64 v27,.int .i64 v28,.int .i64 v29,.sl 128000002,.sl 128000003,.sl 128000004,.sl 128000005,.sl 128000006,.sl 128000007]),(128000001,.row (.int .i64) v30),(128000002,.row y19 v31),(128000003,.row y27 v32),(128000004,.nest y4 v33 .none),(128000005,.nest y38 v34 .none),(128000006,.row (.int .i64) v35),(128000007,.row y46 v36),(256000000,.gone)]⟩
noncomputable def l2 ( k m1:Nat) (v:T2):Option R:=held (run (cs m1) (loopN cs m1) c1000008 (J1000008 k m1) (s2 v))
noncomputable def D2 (v:T2):Option R:=lim fun L=>l2 (L 0) (L 1) v
theorem D2_cn (v:T2):Cn late (D2 v) fun L=>l2 (L 0) (L 1) v:=of_lim
noncomputable def d0 (p0:Y1) (p1:g165.Y) (p2:Y2):Y0:=fun (v0,v1,v2,v3,v4,v5,v6,v7,v8,v9,v10,v11,v12,v13,v14,v15,v16,v17,v18,v19,v20,v21,v22,v23,v24,v25,v26,v27,v28,v29,v30,v31,v32,v33,v34,v35) =>
br (decide (v1 ≤ wrap .i64 (wrap .i64 (2 * v2) + 1)) || decide (wrap .i64 (wrap .i64 (2 * v2) + 1) < 0)) (p0 (v0,v2,v3,v4,v5,v6,v7,v8,v9,v10,v11,v12,v13,v14,v15,v16,v17,v18,v19,v20,v21,v22,v23,v24,v25,v26,v27,v28,v29,v30,v31,v32,v33,v34,v35)) (br (decide (wrap .i64 (wrap .i64 (wrap .i64 (2 * v2) + 1) + 1) < v1) == true) (bnd (p1 (wrap .i64 (wrap .i64 (wrap .i64 (2 * v2) + 1) + 1),wrap .i64 (wrap .i64 (2 * v2) + 1),v3,v4,v5,v6,v7,v8,v9,v10,v11,v12,v13,v14,v15,v16,v17,v18,v19,v20,v21,v22,v23,v24,v25,v26,v27,v28,v29,v30,v31,v32,v33,v34,v35)) fun r=>br r.1 (p2 (v0,v1,v2,wrap .i64 (wrap .i64 (wrap .i64 (2 * v2) + 1) + 1),r.2.1,r.2.2.1,r.2.2.2.1,r.2.2.2.2.1,r.2.2.2.2.2.1,r.2.2.2.2.2.2.1,r.2.2.2.2.2.2.2.1,r.2.2.2.2.2.2.2.2.1,r.2.2.2.2.2.2.2.2.2.1,r.2.2.2.2.2.2.2.2.2.2.1,r.2.2.2.2.2.2.2.2.2.2.2.1,r.2.2.2.2.2.2.2.2.2.2.2.2.1,r.2.2.2.2.2.2.2.2.2.2.2.2.2.1,r.2.2.2.2.2.2.2.2.2.2.2.2.2.2.1,r.2.2.2.2.2.2.2.2.2.2.2.2.2.2.2.1,r.2.2.2.2.2.2.2.2.2.2.2.2.2.2.2.2.1,r.2.2.2.2.2.2.2.2.2.2.2.2.2.2.2.2.2.1,r.2.2.2.2.2.2.2.2.2.2.2.2.2.2.2.2.2.2.1,r.2.2.2.2.2.2.2.2.2.2.2.2.2.2.2.2.2.2.2.1,r.2.2.2.2.2.2.2.2.2.2.2.2.2.2.2.2.2.2.2.2.1,r.2.2.2.2.2.2.2.2.2.2.2.2.2.2.2.2.2.2.2.2.2.1,r.2.2.2.2.2.2.2.2.2.2.2.2.2.2.2.2.2.2.2.2.2.2.1,r.2.2.2.2.2.2.2.2.2.2.2.2.2.2.2.2.2.2.2.2.2.2.2.1,r.2.2.2.2.2.2.2.2.2.2.2.2.2.2.2.2.2.2.2.2.2.2.2.2.1,r.2.2.2.2.2.2.2.2.2.2.2.2.2.2.2.2.2.2.2.2.2.2.2.2.2.1,r.2.2.2.2.2.2.2.2.2.2.2.2.2.2.2.2.2.2.2.2.2.2.2.2.2.2.1,r.2.2.2.2.2.2.2.2.2.2.2.2.2.2.2.2.2.2.2.2.2.2.2.2.2.2.2.1,r.2.2.2.2.2.2.2.2.2.2.2.2.2.2.2.2.2.2.2.2.2.2.2.2.2.2.2.2.1,r.2.2.2.2.2.2.2.2.2.2.2.2.2.2.2.2.2.2.2.2.2.2.2.2.2.2.2.2.2.1,r.2.2.2.2.2.2.2.2.2.2.2.2.2.2.2.2.2.2.2.2.2.2.2.2.2.2.2.2.2.2.1,r.2.2.2.2.2.2.2.2.2.2.2.2.2.2.2.2.2.2.2.2.2.2.2.2.2.2.2.2.2.2.2.1,r.2.2.2.2.2.2.2.2.2.2.2.2.2.2.2.2.2.2.2.2.2.2.2.2.2.2.2.2.2.2.2.2.1,r.2.2.2.2.2.2.2.2.2.2.2.2.2.2.2.2.2.2.2.2.2.2.2.2.2.2.2.2.2.2.2.2.2)) (p2 (v0,v1,v2,wrap .i64 (wrap .i64 (2 * v2) + 1),r.2.1,r.2.2.1,r.2.2.2.1,r.2.2.2.2.1,r.2.2.2.2.2.1,r.2.2.2.2.2.2.1,r.2.2.2.2.2.2.2.1,r.2.2.2.2.2.2.2.2.1,r.2.2.2.2.2.2.2.2.2.1,r.2.2.2.2.2.2.2.2.2.2.1,r.2.2.2.2.2.2.2.2.2.2.2.1,r.2.2.2.2.2.2.2.2.2.2.2.2.1,r.2.2.2.2.2.2.2.2.2.2.2.2.2.1,r.2.2.2.2.2.2.2.2.2.2.2.2.2.2.1,r.2.2.2.2.2.2.2.2.2.2.2.2.2.2.2.1,r.2.2.2.2.2.2.2.2.2.2.2.2.2.2.2.2.1,r.2.2.2.2.2.2.2.2.2.2.2.2.2.2.2.2.2.1,r.2.2.2.2.2.2.2.2.2.2.2.2.2.2.2.2.2.2.1,r.2.2.2.2.2.2.2.2.2.2.2.2.2.2.2.2.2.2.2.1,r.2.2.2.2.2.2.2.2.2.2.2.2.2.2.2.2.2.2.2.2.1,r.2.2.2.2.2.2.2.2.2.2.2.2.2.2.2.2.2.2.2.2.2.1,r.2.2.2.2.2.2.2.2.2.2.2.2.2.2.2.2.2.2.2.2.2.2.1,r.2.2.2.2.2.2.2.2.2.2.2.2.2.2.2.2.2.2.2.2.2.2.2.1,r.2.2.2.2.2.2.2.2.2.2.2.2.2.2.2.2.2.2.2.2.2.2.2.2.1,r.2.2.2.2.2.2.2.2.2.2.2.2.2.2.2.2.2.2.2.2.2.2.2.2.2.1,r.2.2.2.2.2.2.2.2.2.2.2.2.2.2.2.2.2.2.2.2.2.2.2.2.2.2.1,r.2.2.2.2.2.2.2.2.2.2.2.2.2.2.2.2.2.2.2.2.2.2.2.2.2.2.2.1,r.2.2.2.2.2.2.2.2.2.2.2.2.2.2.2.2.2.2.2.2.2.2.2.2.2.2.2.2.1,r.2.2.2.2.2.2.2.2.2.2.2.2.2.2.2.2.2.2.2.2.2.2.2.2.2.2.2.2.2.1,r.2.2.2.2.2.2.2.2.2.2.2.2.2.2.2.2.2.2.2.2.2.2.2.2.2.2.2.2.2.2.1,r.2.2.2.2.2.2.2.2.2.2.2.2.2.2.2.2.2.2.2.2.2.2.2.2.2.2.2.2.2.2.2.1,r.2.2.2.2.2.2.2.2.2.2.2.2.2.2.2.2.2.2.2.2.2.2.2.2.2.2.2.2.2.2.2.2.1,r.2.2.2.2.2.2.2.2.2.2.2.2.2.2.2.2.2.2.2.2.2.2.2.2.2.2.2.2.2.2.2.2.2))) (p2 (v0,v1,v2,wrap .i64 (wrap .i64 (2 * v2) + 1),v3,v4,v5,v6,v7,v8,v9,v10,v11,v12,v13,v14,v15,v16,v17,v18,v19,v20,v21,v22,v23,v24,v25,v26,v27,v28,v29,v30,v31,v32,v33,v34,v35)))
theorem d0_cn (k0:Pr E T1 R) (k1:Pr E g165.A g165.R) (k2:Pr E T2 R):∀ v:T0,Cn E (d0 k0.p k1.p k2.p v) fun i=>d0 (k0.q i) (k1.q i) (k2.q i) v:=fun (v0,v1,v2,v3,v4,v5,v6,v7,v8,v9,v10,v11,v12,v13,v14,v15,v16,v17,v18,v19,v20,v21,v22,v23,v24,v25,v26,v27,v28,v29,v30,v31,v32,v33,v34,v35)=>(.br (k0.h _) (.br (.bnd (k1.h _) fun _=>(.br (k2.h _) (k2.h _))) (k2.h _)))
theorem l0_b ( k m1:Nat):∀ v:T0,run (cs m1) (loopN cs m1) b2 (kLoop cs m1 b2 (K2 k)) (s0 v) = d0 (l1 k) (g165.f m1) (l2 k m1) v:=fun (v0,v1,v2,v3,v4,v5,v6,v7,v8,v9,v10,v11,v12,v13,v14,v15,v16,v17,v18,v19,v20,v21,v22,v23,v24,v25,v26,v27,v28,v29,v30,v31,v32,v33,v34,v35)=>by kernel_rfl
theorem D0_of (v:T0) {r:R} (h:d0 D1 g165.F D2 v = some r):D0 v = some r:=loop_of 1 (fun L n hn=>by show l0 (L 0) (L 1) v = _; rw [hn]; exact (held_eq _).trans ((loopN_succ _ _ _ _ _).trans (l0_b (L 0) n v))) (d0_cn (.mk fun v=>(D1_cn v).re [0]) (lp g165.f 1) (.mk fun v=>(D2_cn v).re [0,1]) v) h
def d1:Y1:=fun (v0,v1,v2,v3,v4,v5,v6,v7,v8,v9,v10,v11,v12,v13,v14,v15,v16,v17,v18,v19,v20,v21,v22,v23,v24,v25,v26,v27,v28,v29,v30,v31,v32,v33,v34) =>
some (decide (v0 < v1),v2,v3,v4,v5,v6,v7,v8,v9,v10,v11,v12,v13,v14,v15,v16,v17,v18,v19,v20,v21,v22,v23,v24,v25,v26,v27,v28,v29,v30,v31,v32,v33,v34)
theorem d1_cn:∀ v:T1,Cn E (d1 v) fun i=>d1 v:=fun (v0,v1,v2,v3,v4,v5,v6,v7,v8,v9,v10,v11,v12,v13,v14,v15,v16,v17,v18,v19,v20,v21,v22,v23,v24,v25,v26,v27,v28,v29,v30,v31,v32,v33,v34)=>.some
theorem l1_b ( k:Nat):∀ v:T1,run (cs k) (loopN cs k) c1000011 (J1000011 k) (s1 v) = d1 v:=fun (v0,v1,v2,v3,v4,v5,v6,v7,v8,v9,v10,v11,v12,v13,v14,v15,v16,v17,v18,v19,v20,v21,v22,v23,v24,v25,v26,v27,v28,v29,v30,v31,v32,v33,v34)=>by kernel_rfl
theorem D1_of (v:T1) {r:R} (h:d1 v = some r):D1 v = some r:=join_of (fun L=>(held_eq _).trans (l1_b (L 0) v)) (d1_cn v) h
noncomputable def d2 (p0:g165.Y) (p1:Y1) (p2:g166.Y) (p3:Y0):Y2:=fun (v0,v1,v2,v3,v4,v5,v6,v7,v8,v9,v10,v11,v12,v13,v14,v15,v16,v17,v18,v19,v20,v21,v22,v23,v24,v25,v26,v27,v28,v29,v30,v31,v32,v33,v34,v35,v36) =>
bnd (p0 (v3,v2,v4,v5,v6,v7,v8,v9,v10,v11,v12,v13,v14,v15,v16,v17,v18,v19,v20,v21,v22,v23,v24,v25,v26,v27,v28,v29,v30,v31,v32,v33,v34,v35,v36)) fun r=>br (!r.1) (p1 (v0,v2,r.2.1,r.2.2.1,r.2.2.2.1,r.2.2.2.2.1,r.2.2.2.2.2.1,r.2.2.2.2.2.2.1,r.2.2.2.2.2.2.2.1,r.2.2.2.2.2.2.2.2.1,r.2.2.2.2.2.2.2.2.2.1,r.2.2.2.2.2.2.2.2.2.2.1,r.2.2.2.2.2.2.2.2.2.2.2.1,r.2.2.2.2.2.2.2.2.2.2.2.2.1,r.2.2.2.2.2.2.2.2.2.2.2.2.2.1,r.2.2.2.2.2.2.2.2.2.2.2.2.2.2.1,r.2.2.2.2.2.2.2.2.2.2.2.2.2.2.2.1,r.2.2.2.2.2.2.2.2.2.2.2.2.2.2.2.2.1,r.2.2.2.2.2.2.2.2.2.2.2.2.2.2.2.2.2.1,r.2.2.2.2.2.2.2.2.2.2.2.2.2.2.2.2.2.2.1,r.2.2.2.2.2.2.2.2.2.2.2.2.2.2.2.2.2.2.2.1,r.2.2.2.2.2.2.2.2.2.2.2.2.2.2.2.2.2.2.2.2.1,r.2.2.2.2.2.2.2.2.2.2.2.2.2.2.2.2.2.2.2.2.2.1,r.2.2.2.2.2.2.2.2.2.2.2.2.2.2.2.2.2.2.2.2.2.2.1,r.2.2.2.2.2.2.2.2.2.2.2.2.2.2.2.2.2.2.2.2.2.2.2.1,r.2.2.2.2.2.2.2.2.2.2.2.2.2.2.2.2.2.2.2.2.2.2.2.2.1,r.2.2.2.2.2.2.2.2.2.2.2.2.2.2.2.2.2.2.2.2.2.2.2.2.2.1,r.2.2.2.2.2.2.2.2.2.2.2.2.2.2.2.2.2.2.2.2.2.2.2.2.2.2.1,r.2.2.2.2.2.2.2.2.2.2.2.2.2.2.2.2.2.2.2.2.2.2.2.2.2.2.2.1,r.2.2.2.2.2.2.2.2.2.2.2.2.2.2.2.2.2.2.2.2.2.2.2.2.2.2.2.2.1,r.2.2.2.2.2.2.2.2.2.2.2.2.2.2.2.2.2.2.2.2.2.2.2.2.2.2.2.2.2.1,r.2.2.2.2.2.2.2.2.2.2.2.2.2.2.2.2.2.2.2.2.2.2.2.2.2.2.2.2.2.2.1,r.2.2.2.2.2.2.2.2.2.2.2.2.2.2.2.2.2.2.2.2.2.2.2.2.2.2.2.2.2.2.2.1,r.2.2.2.2.2.2.2.2.2.2.2.2.2.2.2.2.2.2.2.2.2.2.2.2.2.2.2.2.2.2.2.2.1,r.2.2.2.2.2.2.2.2.2.2.2.2.2.2.2.2.2.2.2.2.2.2.2.2.2.2.2.2.2.2.2.2.2)) (bnd (p2 (v2,v3,r.2.1,r.2.2.1,r.2.2.2.1,r.2.2.2.2.1,r.2.2.2.2.2.1,r.2.2.2.2.2.2.1,r.2.2.2.2.2.2.2.1,r.2.2.2.2.2.2.2.2.1,r.2.2.2.2.2.2.2.2.2.1,r.2.2.2.2.2.2.2.2.2.2.1,r.2.2.2.2.2.2.2.2.2.2.2.1,r.2.2.2.2.2.2.2.2.2.2.2.2.1,r.2.2.2.2.2.2.2.2.2.2.2.2.2.1,r.2.2.2.2.2.2.2.2.2.2.2.2.2.2.1,r.2.2.2.2.2.2.2.2.2.2.2.2.2.2.2.1,r.2.2.2.2.2.2.2.2.2.2.2.2.2.2.2.2.1,r.2.2.2.2.2.2.2.2.2.2.2.2.2.2.2.2.2.1,r.2.2.2.2.2.2.2.2.2.2.2.2.2.2.2.2.2.2.1,r.2.2.2.2.2.2.2.2.2.2.2.2.2.2.2.2.2.2.2.1,r.2.2.2.2.2.2.2.2.2.2.2.2.2.2.2.2.2.2.2.2.1,r.2.2.2.2.2.2.2.2.2.2.2.2.2.2.2.2.2.2.2.2.2.1,r.2.2.2.2.2.2.2.2.2.2.2.2.2.2.2.2.2.2.2.2.2.2.1,r.2.2.2.2.2.2.2.2.2.2.2.2.2.2.2.2.2.2.2.2.2.2.2.1,r.2.2.2.2.2.2.2.2.2.2.2.2.2.2.2.2.2.2.2.2.2.2.2.2.1,r.2.2.2.2.2.2.2.2.2.2.2.2.2.2.2.2.2.2.2.2.2.2.2.2.2.1,r.2.2.2.2.2.2.2.2.2.2.2.2.2.2.2.2.2.2.2.2.2.2.2.2.2.2.1,r.2.2.2.2.2.2.2.2.2.2.2.2.2.2.2.2.2.2.2.2.2.2.2.2.2.2.2.1,r.2.2.2.2.2.2.2.2.2.2.2.2.2.2.2.2.2.2.2.2.2.2.2.2.2.2.2.2.1,r.2.2.2.2.2.2.2.2.2.2.2.2.2.2.2.2.2.2.2.2.2.2.2.2.2.2.2.2.2.1,r.2.2.2.2.2.2.2.2.2.2.2.2.2.2.2.2.2.2.2.2.2.2.2.2.2.2.2.2.2.2.1,r.2.2.2.2.2.2.2.2.2.2.2.2.2.2.2.2.2.2.2.2.2.2.2.2.2.2.2.2.2.2.2.1,r.2.2.2.2.2.2.2.2.2.2.2.2.2.2.2.2.2.2.2.2.2.2.2.2.2.2.2.2.2.2.2.2.1,r.2.2.2.2.2.2.2.2.2.2.2.2.2.2.2.2.2.2.2.2.2.2.2.2.2.2.2.2.2.2.2.2.2)) fun r=>p3 (v0,v1,v3,r.1,r.2.1,r.2.2.1,r.2.2.2.1,r.2.2.2.2.1,r.2.2.2.2.2.1,r.2.2.2.2.2.2.1,r.2.2.2.2.2.2.2.1,r.2.2.2.2.2.2.2.2.1,r.2.2.2.2.2.2.2.2.2.1,r.2.2.2.2.2.2.2.2.2.2.1,r.2.2.2.2.2.2.2.2.2.2.2.1,r.2.2.2.2.2.2.2.2.2.2.2.2.1,r.2.2.2.2.2.2.2.2.2.2.2.2.2.1,r.2.2.2.2.2.2.2.2.2.2.2.2.2.2.1,r.2.2.2.2.2.2.2.2.2.2.2.2.2.2.2.1,r.2.2.2.2.2.2.2.2.2.2.2.2.2.2.2.2.1,r.2.2.2.2.2.2.2.2.2.2.2.2.2.2.2.2.2.1,r.2.2.2.2.2.2.2.2.2.2.2.2.2.2.2.2.2.2.1,r.2.2.2.2.2.2.2.2.2.2.2.2.2.2.2.2.2.2.2.1,r.2.2.2.2.2.2.2.2.2.2.2.2.2.2.2.2.2.2.2.2.1,r.2.2.2.2.2.2.2.2.2.2.2.2.2.2.2.2.2.2.2.2.2.1,r.2.2.2.2.2.2.2.2.2.2.2.2.2.2.2.2.2.2.2.2.2.2.1,r.2.2.2.2.2.2.2.2.2.2.2.2.2.2.2.2.2.2.2.2.2.2.2.1,r.2.2.2.2.2.2.2.2.2.2.2.2.2.2.2.2.2.2.2.2.2.2.2.2.1,r.2.2.2.2.2.2.2.2.2.2.2.2.2.2.2.2.2.2.2.2.2.2.2.2.2.1,r.2.2.2.2.2.2.2.2.2.2.2.2.2.2.2.2.2.2.2.2.2.2.2.2.2.2.1,r.2.2.2.2.2.2.2.2.2.2.2.2.2.2.2.2.2.2.2.2.2.2.2.2.2.2.2.1,r.2.2.2.2.2.2.2.2.2.2.2.2.2.2.2.2.2.2.2.2.2.2.2.2.2.2.2.2.1,r.2.2.2.2.2.2.2.2.2.2.2.2.2.2.2.2.2.2.2.2.2.2.2.2.2.2.2.2.2.1,r.2.2.2.2.2.2.2.2.2.2.2.2.2.2.2.2.2.2.2.2.2.2.2.2.2.2.2.2.2.2.1,r.2.2.2.2.2.2.2.2.2.2.2.2.2.2.2.2.2.2.2.2.2.2.2.2.2.2.2.2.2.2.2.1,r.2.2.2.2.2.2.2.2.2.2.2.2.2.2.2.2.2.2.2.2.2.2.2.2.2.2.2.2.2.2.2.2))
theorem d2_cn (k0:Pr E g165.A g165.R) (k1:Pr E T1 R) (k2:Pr E g166.A g166.R) (k3:Pr E T0 R):∀ v:T2,Cn E (d2 k0.p k1.p k2.p k3.p v) fun i=>d2 (k0.q i) (k1.q i) (k2.q i) (k3.q i) v:=fun (v0,v1,v2,v3,v4,v5,v6,v7,v8,v9,v10,v11,v12,v13,v14,v15,v16,v17,v18,v19,v20,v21,v22,v23,v24,v25,v26,v27,v28,v29,v30,v31,v32,v33,v34,v35,v36)=>(.bnd (k0.h _) fun _=>(.br (k1.h _) (.bnd (k2.h _) fun _=>(k3.h _))))
theorem l2_b ( k m1:Nat):∀ v:T2,run (cs m1) (loopN cs m1) c1000008 (J1000008 k m1) (s2 v) = d2 (g165.f m1) (l1 k) (g166.f m1) (l0 k m1) v:=fun (v0,v1,v2,v3,v4,v5,v6,v7,v8,v9,v10,v11,v12,v13,v14,v15,v16,v17,v18,v19,v20,v21,v22,v23,v24,v25,v26,v27,v28,v29,v30,v31,v32,v33,v34,v35,v36)=>by kernel_rfl
theorem D2_of (v:T2) {r:R} (h:d2 g165.F D1 g166.F D0 v = some r):D2 v = some r:=join_of (fun L=>(held_eq _).trans (l2_b (L 0) (L 1) v)) (d2_cn (lp g165.f 1) (.mk fun v=>(D1_cn v).re [0]) (lp g166.f 1) (.mk fun v=>(D0_cn v).re [0,1]) v) h
noncomputable def f (k:Nat):Y:=fun v=>held (runFn cs k Tryz.f162 (sh.args v) (sh.slots v) dec)
noncomputable def F:Y:=lm f
def d (p0:Y0):Y:=fun (v0,v1,v2,v3,v4,v5,v6,v7,v8,v9,v10,v11,v12,v13,v14,v15,v16,v17,v18,v19,v20,v21,v22,v23,v24,v25,v26,v27,v28,v29,v30,v31,v32,v33,v34) =>
p0 (v0,v1,v0,v2,v3,v4,v5,v6,v7,v8,v9,v10,v11,v12,v13,v14,v15,v16,v17,v18,v19,v20,v21,v22,v23,v24,v25,v26,v27,v28,v29,v30,v31,v32,v33,v34)
theorem d_cn (k0:Pr E T0 R):∀ v:A,Cn E (d k0.p v) fun i=>d (k0.q i) v:=fun (v0,v1,v2,v3,v4,v5,v6,v7,v8,v9,v10,v11,v12,v13,v14,v15,v16,v17,v18,v19,v20,v21,v22,v23,v24,v25,v26,v27,v28,v29,v30,v31,v32,v33,v34)=>(k0.h _)
theorem f_b (k:Nat):∀ v:A,f k v = d (l0 k k) v:=fun (v0,v1,v2,v3,v4,v5,v6,v7,v8,v9,v10,v11,v12,v13,v14,v15,v16,v17,v18,v19,v20,v21,v22,v23,v24,v25,v26,v27,v28,v29,v30,v31,v32,v33,v34)=>(held_eq _).trans (by kernel_rfl)
theorem F_of (v:A) {r:R} (h:d D0 v = some r):F v = some r:=join_of (fun L=>f_b (L 0) v) (d_cn (.mk fun v=>(D0_cn v).re [0,0]) v) h
noncomputable def spec (k:Nat):List AV→List Slot→Option Ans:=specS sh os (f k)
theorem spec_ok (k:Nat):SpecOk Tryz.prog 162 (spec k):=specS_ok cs_ok Tryz.func162 rfl rfl (fun _ _=>held_eq _) k
end g169
noncomputable def tg169:=tg168.cons 162 g169.spec g169.spec_ok
namespace g170 -- plan_queue_Pop
abbrev R:Type:=(Int × Int × (Int × Int) × Int × Int) × Int × Int × Int × Int × Int × Int × Int × Int × Int × Int × Int × Int × Int × Int × Int × Int × Int × Int × Int × Int × Int × Int × Int × Int × Int × Int × Int × Int × List Int × List (ByteArray × Int) × List (Int × Int × (Int × Int × Int) × Int × Int × Int × Int × Int × Int × Int × Int) × List (List Int) × List (List (Int × Int)) × List Int × List (Int × Int × (Int × Int) × Int × Int)
abbrev A:Type:=Int × Int × Int × Int × Int × Int × Int × Int × Int × Int × Int × Int × Int × Int × Int × Int × Int × Int × Int × Int × Int × Int × Int × Int × Int × Int × List Int × List (ByteArray × Int) × List (Int × Int × (Int × Int × Int) × Int × Int × Int × Int × Int × Int × Int × Int) × List (List Int) × List (List (Int × Int)) × List Int × List (Int × Int × (Int × Int) × Int × Int)
abbrev Y:=A→Option R
def lv:List (Nat × List Nat):=[(2000000,[2])]
noncomputable def cs:Nat→Ctx:=ctxOf tis modes tg169.1 lv
theorem cs_ok (n:Nat):CtxOk Tryz.prog (cs n):=ctxOf_ok rfl tis_ok tg169.2 n
noncomputable def sh:AS:=⟨[(.c (.ptr 128000000 0))],[.box [.int .i64,.int .i64,.int .i64,.int .i64,.int .i64,.int .i64,.int .i64,.int .i64,.int .i64,.int .i64,.int .i64,.int .i64,.int .i64,.int .i64,.int .i64,.int .i64,.sl 128000001,.int .i64,.int .i64,.int .i64,.int .i64,.int .i64,.int .i64,.int .i64,.int .i64,.int .i64,.int .i64,.sl 128000002,.sl 128000003,.sl 128000004,.sl 128000005,.sl 128000006,.sl 128000007],.row (.int .i64),.row y19,.row y27,.nest y4,.nest y38,.row (.int .i64),.row y46]⟩
def os:OS:=⟨.c (.ifd 96 .true y46),[.box [.int .i64,.int .i64,.int .i64,.int .i64,.int .i64,.int .i64,.int .i64,.int .i64,.int .i64,.int .i64,.int .i64,.int .i64,.int .i64,.int .i64,.int .i64,.int .i64,.sl 128000001,.int .i64,.int .i64,.int .i64,.int .i64,.int .i64,.int .i64,.int .i64,.int .i64,.int .i64,.int .i64,.sl 128000002,.sl 128000003,.sl 128000004,.sl 128000005,.sl 128000006,.sub 128000007],.row (.int .i64),.row y19,.row y27,.nest y4,.nest y38,.row (.int .i64),.row y46]⟩
def enc (r:R):Out:=os.enc r
def dec:Out→Option R:=os.dec
noncomputable def b0:Code:=subF [] Tryz.f242
noncomputable def K0 (k:Nat):Kt R:=kTop (cs k) Tryz.f242 dec
noncomputable def f (k:Nat):Y:=fun v=>held (runFn cs k Tryz.f242 (sh.args v) (sh.slots v) dec)
noncomputable def F:Y:=lm f
noncomputable def d:Y:=fun (v0,v1,v2,v3,v4,v5,v6,v7,v8,v9,v10,v11,v12,v13,v14,v15,v16,v17,v18,v19,v20,v21,v22,v23,v24,v25,v26,v27,v28,v29,v30,v31,v32) =>
br (decide (0 ≤ wrap .i64 ((↑v32.length:Int) - 1) ∧ wrap .i64 ((↑v32.length:Int) - 1) < (↑v32.length:Int))) (br (decide (0 ≤ wrap .i64 ((↑v32.length:Int) - 1) ∧ wrap .i64 ((↑v32.length:Int) - 1) ≤ (↑v32.length:Int))) (some (((rd ty1 v32 (wrap .i64 ((↑v32.length:Int) - 1))).1,(rd ty1 v32 (wrap .i64 ((↑v32.length:Int) - 1))).2.1,((rd ty1 v32 (wrap .i64 ((↑v32.length:Int) - 1))).2.2.1.1,(rd ty1 v32 (wrap .i64 ((↑v32.length:Int) - 1))).2.2.1.2),(rd ty1 v32 (wrap .i64 ((↑v32.length:Int) - 1))).2.2.2.1,(rd ty1 v32 (wrap .i64 ((↑v32.length:Int) - 1))).2.2.2.2),v0,v1,v2,v3,v4,v5,v6,v7,v8,v9,v10,v11,v12,v13,v14,v15,v16,v17,v18,v19,v20,v21,v22,v23,v24,v25,0,wrap .i64 ((↑v32.length:Int) - 1),v26,v27,v28,v29,v30,v31,v32)) none) none
theorem d_cn:∀ v:A,Cn E (d v) fun i=>d v:=fun (v0,v1,v2,v3,v4,v5,v6,v7,v8,v9,v10,v11,v12,v13,v14,v15,v16,v17,v18,v19,v20,v21,v22,v23,v24,v25,v26,v27,v28,v29,v30,v31,v32)=>(.br (.br .some .none) .none)
theorem f_b (k:Nat):∀ v:A,f k v = d v:=fun (v0,v1,v2,v3,v4,v5,v6,v7,v8,v9,v10,v11,v12,v13,v14,v15,v16,v17,v18,v19,v20,v21,v22,v23,v24,v25,v26,v27,v28,v29,v30,v31,v32)=>(held_eq _).trans (by kernel_rfl)
theorem F_of (v:A) {r:R} (h:d v = some r):F v = some r:=join_of (fun L=>f_b (L 0) v) (d_cn v) h
noncomputable def spec (k:Nat):List AV→List Slot→Option Ans:=specS sh os (f k)
theorem spec_ok (k:Nat):SpecOk Tryz.prog 242 (spec k):=specS_ok cs_ok Tryz.func242 rfl rfl (fun _ _=>held_eq _) k
end g170
noncomputable def tg170:=tg169.cons 242 g170.spec g170.spec_ok
namespace g171 -- heap_Pop
abbrev R:Type:=(Int × Int × (Int × Int) × Int × Int) × Int × Int × Int × Int × Int × Int × Int × Int × Int × Int × Int × Int × Int × Int × Int × Int × Int × Int × Int × Int × Int × Int × Int × Int × Int × Int × Int × Int × List Int × List (ByteArray × Int) × List (Int × Int × (Int × Int × Int) × Int × Int × Int × Int × Int × Int × Int × Int) × List (List Int) × List (List (Int × Int)) × List Int × List (Int × Int × (Int × Int) × Int × Int)
abbrev A:Type:=Int × Int × Int × Int × Int × Int × Int × Int × Int × Int × Int × Int × Int × Int × Int × Int × Int × Int × Int × Int × Int × Int × Int × Int × Int × Int × List Int × List (ByteArray × Int) × List (Int × Int × (Int × Int × Int) × Int × Int × Int × Int × Int × Int × Int × Int) × List (List Int) × List (List (Int × Int)) × List Int × List (Int × Int × (Int × Int) × Int × Int)
abbrev Y:=A→Option R
def lv:List (Nat × List Nat):=[(2000000,[2])]
noncomputable def cs:Nat→Ctx:=ctxOf tis modes tg170.1 lv
theorem cs_ok (n:Nat):CtxOk Tryz.prog (cs n):=ctxOf_ok rfl tis_ok tg170.2 n
noncomputable def sh:AS:=⟨[(.c (.ifp 217 128000000 0))],[.box [.int .i64,.int .i64,.int .i64,.int .i64,.int .i64,.int .i64,.int .i64,.int .i64,.int .i64,.int .i64,.int .i64,.int .i64,.int .i64,.int .i64,.int .i64,.int .i64,.sl 128000001,.int .i64,.int .i64,.int .i64,.int .i64,.int .i64,.int .i64,.int .i64,.int .i64,.int .i64,.int .i64,.sl 128000002,.sl 128000003,.sl 128000004,.sl 128000005,.sl 128000006,.sl 128000007],.row (.int .i64),.row y19,.row y27,.nest y4,.nest y38,.row (.int .i64),.row y46]⟩
def os:OS:=⟨.c (.ifd 96 .true y46),[.box [.int .i64,.int .i64,.int .i64,.int .i64,.int .i64,.int .i64,.int .i64,.int .i64,.int .i64,.int .i64,.int .i64,.int .i64,.int .i64,.int .i64,.int .i64,.int .i64,.sl 128000001,.int .i64,.int .i64,.int .i64,.int .i64,.int .i64,.int .i64,.int .i64,.int .i64,.int .i64,.int .i64,.sl 128000002,.sl 128000003,.sl 128000004,.sl 128000005,.sl 128000006,.sub 128000007],.row (.int .i64),.row y19,.row y27,.nest y4,.nest y38,.row (.int .i64),.row y46]⟩
def enc (r:R):Out:=os.enc r
def dec:Out→Option R:=os.dec
noncomputable def b0:Code:=subF [] Tryz.f114
noncomputable def K0 (k:Nat):Kt R:=kTop (cs k) Tryz.f114 dec
noncomputable def f (k:Nat):Y:=fun v=>held (runFn cs k Tryz.f114 (sh.args v) (sh.slots v) dec)
noncomputable def F:Y:=lm f
noncomputable def d (p0:g163.Y) (p1:g166.Y) (p2:g169.Y) (p3:g170.Y):Y:=fun (v0,v1,v2,v3,v4,v5,v6,v7,v8,v9,v10,v11,v12,v13,v14,v15,v16,v17,v18,v19,v20,v21,v22,v23,v24,v25,v26,v27,v28,v29,v30,v31,v32) =>
bnd (p0 (v0,v1,v2,v3,v4,v5,v6,v7,v8,v9,v10,v11,v12,v13,v14,v15,v16,v17,v18,v19,v20,v21,v22,v23,v24,v25,v26,v27,v28,v29,v30,v31,v32)) fun r=>bnd (p1 (0,wrap .i64 (r.1 - 1),r.2.1,r.2.2.1,r.2.2.2.1,r.2.2.2.2.1,r.2.2.2.2.2.1,r.2.2.2.2.2.2.1,r.2.2.2.2.2.2.2.1,r.2.2.2.2.2.2.2.2.1,r.2.2.2.2.2.2.2.2.2.1,r.2.2.2.2.2.2.2.2.2.2.1,r.2.2.2.2.2.2.2.2.2.2.2.1,r.2.2.2.2.2.2.2.2.2.2.2.2.1,r.2.2.2.2.2.2.2.2.2.2.2.2.2.1,r.2.2.2.2.2.2.2.2.2.2.2.2.2.2.1,r.2.2.2.2.2.2.2.2.2.2.2.2.2.2.2.1,r.2.2.2.2.2.2.2.2.2.2.2.2.2.2.2.2.1,r.2.2.2.2.2.2.2.2.2.2.2.2.2.2.2.2.2.1,r.2.2.2.2.2.2.2.2.2.2.2.2.2.2.2.2.2.2.1,r.2.2.2.2.2.2.2.2.2.2.2.2.2.2.2.2.2.2.2.1,r.2.2.2.2.2.2.2.2.2.2.2.2.2.2.2.2.2.2.2.2.1,r.2.2.2.2.2.2.2.2.2.2.2.2.2.2.2.2.2.2.2.2.2.1,r.2.2.2.2.2.2.2.2.2.2.2.2.2.2.2.2.2.2.2.2.2.2.1,r.2.2.2.2.2.2.2.2.2.2.2.2.2.2.2.2.2.2.2.2.2.2.2.1,r.2.2.2.2.2.2.2.2.2.2.2.2.2.2.2.2.2.2.2.2.2.2.2.2.1,r.2.2.2.2.2.2.2.2.2.2.2.2.2.2.2.2.2.2.2.2.2.2.2.2.2.1,r.2.2.2.2.2.2.2.2.2.2.2.2.2.2.2.2.2.2.2.2.2.2.2.2.2.2.1,r.2.2.2.2.2.2.2.2.2.2.2.2.2.2.2.2.2.2.2.2.2.2.2.2.2.2.2.1,r.2.2.2.2.2.2.2.2.2.2.2.2.2.2.2.2.2.2.2.2.2.2.2.2.2.2.2.2.1,r.2.2.2.2.2.2.2.2.2.2.2.2.2.2.2.2.2.2.2.2.2.2.2.2.2.2.2.2.2.1,r.2.2.2.2.2.2.2.2.2.2.2.2.2.2.2.2.2.2.2.2.2.2.2.2.2.2.2.2.2.2.1,r.2.2.2.2.2.2.2.2.2.2.2.2.2.2.2.2.2.2.2.2.2.2.2.2.2.2.2.2.2.2.2.1,r.2.2.2.2.2.2.2.2.2.2.2.2.2.2.2.2.2.2.2.2.2.2.2.2.2.2.2.2.2.2.2.2.1,r.2.2.2.2.2.2.2.2.2.2.2.2.2.2.2.2.2.2.2.2.2.2.2.2.2.2.2.2.2.2.2.2.2)) fun r_1=>bnd (p2 (0,wrap .i64 (r.1 - 1),r_1.1,r_1.2.1,r_1.2.2.1,r_1.2.2.2.1,r_1.2.2.2.2.1,r_1.2.2.2.2.2.1,r_1.2.2.2.2.2.2.1,r_1.2.2.2.2.2.2.2.1,r_1.2.2.2.2.2.2.2.2.1,r_1.2.2.2.2.2.2.2.2.2.1,r_1.2.2.2.2.2.2.2.2.2.2.1,r_1.2.2.2.2.2.2.2.2.2.2.2.1,r_1.2.2.2.2.2.2.2.2.2.2.2.2.1,r_1.2.2.2.2.2.2.2.2.2.2.2.2.2.1,r_1.2.2.2.2.2.2.2.2.2.2.2.2.2.2.1,r_1.2.2.2.2.2.2.2.2.2.2.2.2.2.2.2.1,r_1.2.2.2.2.2.2.2.2.2.2.2.2.2.2.2.2.1,r_1.2.2.2.2.2.2.2.2.2.2.2.2.2.2.2.2.2.1,r_1.2.2.2.2.2.2.2.2.2.2.2.2.2.2.2.2.2.2.1,r_1.2.2.2.2.2.2.2.2.2.2.2.2.2.2.2.2.2.2.2.1,r_1.2.2.2.2.2.2.2.2.2.2.2.2.2.2.2.2.2.2.2.2.1,r_1.2.2.2.2.2.2.2.2.2.2.2.2.2.2.2.2.2.2.2.2.2.1,r_1.2.2.2.2.2.2.2.2.2.2.2.2.2.2.2.2.2.2.2.2.2.2.1,r_1.2.2.2.2.2.2.2.2.2.2.2.2.2.2.2.2.2.2.2.2.2.2.2.1,r_1.2.2.2.2.2.2.2.2.2.2.2.2.2.2.2.2.2.2.2.2.2.2.2.2.1,r_1.2.2.2.2.2.2.2.2.2.2.2.2.2.2.2.2.2.2.2.2.2.2.2.2.2.1,r_1.2.2.2.2.2.2.2.2.2.2.2.2.2.2.2.2.2.2.2.2.2.2.2.2.2.2.1,r_1.2.2.2.2.2.2.2.2.2.2.2.2.2.2.2.2.2.2.2.2.2.2.2.2.2.2.2.1,r_1.2.2.2.2.2.2.2.2.2.2.2.2.2.2.2.2.2.2.2.2.2.2.2.2.2.2.2.2.1,r_1.2.2.2.2.2.2.2.2.2.2.2.2.2.2.2.2.2.2.2.2.2.2.2.2.2.2.2.2.2.1,r_1.2.2.2.2.2.2.2.2.2.2.2.2.2.2.2.2.2.2.2.2.2.2.2.2.2.2.2.2.2.2.1,r_1.2.2.2.2.2.2.2.2.2.2.2.2.2.2.2.2.2.2.2.2.2.2.2.2.2.2.2.2.2.2.2.1,r_1.2.2.2.2.2.2.2.2.2.2.2.2.2.2.2.2.2.2.2.2.2.2.2.2.2.2.2.2.2.2.2.2)) fun r=>bnd (p3 (r.2.1,r.2.2.1,r.2.2.2.1,r.2.2.2.2.1,r.2.2.2.2.2.1,r.2.2.2.2.2.2.1,r.2.2.2.2.2.2.2.1,r.2.2.2.2.2.2.2.2.1,r.2.2.2.2.2.2.2.2.2.1,r.2.2.2.2.2.2.2.2.2.2.1,r.2.2.2.2.2.2.2.2.2.2.2.1,r.2.2.2.2.2.2.2.2.2.2.2.2.1,r.2.2.2.2.2.2.2.2.2.2.2.2.2.1,r.2.2.2.2.2.2.2.2.2.2.2.2.2.2.1,r.2.2.2.2.2.2.2.2.2.2.2.2.2.2.2.1,r.2.2.2.2.2.2.2.2.2.2.2.2.2.2.2.2.1,r.2.2.2.2.2.2.2.2.2.2.2.2.2.2.2.2.2.1,r.2.2.2.2.2.2.2.2.2.2.2.2.2.2.2.2.2.2.1,r.2.2.2.2.2.2.2.2.2.2.2.2.2.2.2.2.2.2.2.1,r.2.2.2.2.2.2.2.2.2.2.2.2.2.2.2.2.2.2.2.2.1,r.2.2.2.2.2.2.2.2.2.2.2.2.2.2.2.2.2.2.2.2.2.1,r.2.2.2.2.2.2.2.2.2.2.2.2.2.2.2.2.2.2.2.2.2.2.1,r.2.2.2.2.2.2.2.2.2.2.2.2.2.2.2.2.2.2.2.2.2.2.2.1,r.2.2.2.2.2.2.2.2.2.2.2.2.2.2.2.2.2.2.2.2.2.2.2.2.1,r.2.2.2.2.2.2.2.2.2.2.2.2.2.2.2.2.2.2.2.2.2.2.2.2.2.1,r.2.2.2.2.2.2.2.2.2.2.2.2.2.2.2.2.2.2.2.2.2.2.2.2.2.2.1,r.2.2.2.2.2.2.2.2.2.2.2.2.2.2.2.2.2.2.2.2.2.2.2.2.2.2.2.1,r.2.2.2.2.2.2.2.2.2.2.2.2.2.2.2.2.2.2.2.2.2.2.2.2.2.2.2.2.1,r.2.2.2.2.2.2.2.2.2.2.2.2.2.2.2.2.2.2.2.2.2.2.2.2.2.2.2.2.2.1,r.2.2.2.2.2.2.2.2.2.2.2.2.2.2.2.2.2.2.2.2.2.2.2.2.2.2.2.2.2.2.1,r.2.2.2.2.2.2.2.2.2.2.2.2.2.2.2.2.2.2.2.2.2.2.2.2.2.2.2.2.2.2.2.1,r.2.2.2.2.2.2.2.2.2.2.2.2.2.2.2.2.2.2.2.2.2.2.2.2.2.2.2.2.2.2.2.2.1,r.2.2.2.2.2.2.2.2.2.2.2.2.2.2.2.2.2.2.2.2.2.2.2.2.2.2.2.2.2.2.2.2.2)) fun r=>some (r.1,r.2.1,r.2.2.1,r.2.2.2.1,r.2.2.2.2.1,r.2.2.2.2.2.1,r.2.2.2.2.2.2.1,r.2.2.2.2.2.2.2.1,r.2.2.2.2.2.2.2.2.1,r.2.2.2.2.2.2.2.2.2.1,r.2.2.2.2.2.2.2.2.2.2.1,r.2.2.2.2.2.2.2.2.2.2.2.1,r.2.2.2.2.2.2.2.2.2.2.2.2.1,r.2.2.2.2.2.2.2.2.2.2.2.2.2.1,r.2.2.2.2.2.2.2.2.2.2.2.2.2.2.1,r.2.2.2.2.2.2.2.2.2.2.2.2.2.2.2.1,r.2.2.2.2.2.2.2.2.2.2.2.2.2.2.2.2.1,r.2.2.2.2.2.2.2.2.2.2.2.2.2.2.2.2.2.1,r.2.2.2.2.2.2.2.2.2.2.2.2.2.2.2.2.2.2.1,r.2.2.2.2.2.2.2.2.2.2.2.2.2.2.2.2.2.2.2.1,r.2.2.2.2.2.2.2.2.2.2.2.2.2.2.2.2.2.2.2.2.1,r.2.2.2.2.2.2.2.2.2.2.2.2.2.2.2.2.2.2.2.2.2.1,r.2.2.2.2.2.2.2.2.2.2.2.2.2.2.2.2.2.2.2.2.2.2.1,r.2.2.2.2.2.2.2.2.2.2.2.2.2.2.2.2.2.2.2.2.2.2.2.1,r.2.2.2.2.2.2.2.2.2.2.2.2.2.2.2.2.2.2.2.2.2.2.2.2.1,r.2.2.2.2.2.2.2.2.2.2.2.2.2.2.2.2.2.2.2.2.2.2.2.2.2.1,r.2.2.2.2.2.2.2.2.2.2.2.2.2.2.2.2.2.2.2.2.2.2.2.2.2.2.1,r.2.2.2.2.2.2.2.2.2.2.2.2.2.2.2.2.2.2.2.2.2.2.2.2.2.2.2.1,r.2.2.2.2.2.2.2.2.2.2.2.2.2.2.2.2.2.2.2.2.2.2.2.2.2.2.2.2.1,r.2.2.2.2.2.2.2.2.2.2.2.2.2.2.2.2.2.2.2.2.2.2.2.2.2.2.2.2.2.1,r.2.2.2.2.2.2.2.2.2.2.2.2.2.2.2.2.2.2.2.2.2.2.2.2.2.2.2.2.2.2.1,r.2.2.2.2.2.2.2.2.2.2.2.2.2.2.2.2.2.2.2.2.2.2.2.2.2.2.2.2.2.2.2.1,r.2.2.2.2.2.2.2.2.2.2.2.2.2.2.2.2.2.2.2.2.2.2.2.2.2.2.2.2.2.2.2.2.1,r.2.2.2.2.2.2.2.2.2.2.2.2.2.2.2.2.2.2.2.2.2.2.2.2.2.2.2.2.2.2.2.2.2.1,r.2.2.2.2.2.2.2.2.2.2.2.2.2.2.2.2.2.2.2.2.2.2.2.2.2.2.2.2.2.2.2.2.2.2.1,r.2.2.2.2.2.2.2.2.2.2.2.2.2.2.2.2.2.2.2.2.2.2.2.2.2.2.2.2.2.2.2.2.2.2.2)
theorem d_cn (k0:Pr E g163.A g163.R) (k1:Pr E g166.A g166.R) (k2:Pr E g169.A g169.R) (k3:Pr E g170.A g170.R):∀ v:A,Cn E (d k0.p k1.p k2.p k3.p v) fun i=>d (k0.q i) (k1.q i) (k2.q i) (k3.q i) v:=fun (v0,v1,v2,v3,v4,v5,v6,v7,v8,v9,v10,v11,v12,v13,v14,v15,v16,v17,v18,v19,v20,v21,v22,v23,v24,v25,v26,v27,v28,v29,v30,v31,v32)=>(.bnd (k0.h _) fun _=>(.bnd (k1.h _) fun _=>(.bnd (k2.h _) fun _=>(.bnd (k3.h _) fun _=>.some))))
theorem f_b (k:Nat):∀ v:A,f k v = d (g163.f k) (g166.f k) (g169.f k) (g170.f k) v:=fun (v0,v1,v2,v3,v4,v5,v6,v7,v8,v9,v10,v11,v12,v13,v14,v15,v16,v17,v18,v19,v20,v21,v22,v23,v24,v25,v26,v27,v28,v29,v30,v31,v32)=>(held_eq _).trans (by kernel_rfl)
theorem F_of (v:A) {r:R} (h:d g163.F g166.F g169.F g170.F v = some r):F v = some r:=join_of (fun L=>f_b (L 0) v) (d_cn (lp g163.f 0) (lp g166.f 0) (lp g169.f 0) (lp g170.f 0) v) h
noncomputable def spec (k:Nat):List AV→List Slot→Option Ans:=specS sh os (f k)
theorem spec_ok (k:Nat):SpecOk Tryz.prog 114 (spec k):=specS_ok cs_ok Tryz.func114 rfl rfl (fun _ _=>held_eq _) k
end g171
noncomputable def tg171:=tg170.cons 114 g171.spec g171.spec_ok
namespace g172 -- plan_Desk_choose
abbrev R:Type:=Int × Int × Int × Int × Int × Int × Bool × List Int × List (ByteArray × Int) × List (Int × Int × (Int × Int × Int) × Int × Int × Int × Int × Int × Int × Int × Int) × List (List Int) × List (List (Int × Int))
abbrev A:Type:=Int × Int × Int × Int × Int × Int × Int × Int × Int × Int × Int × Int × Int × Int × Int × Int × Int × Int × Int × Int × Int × Int × Int × Int × Int × Int × Int × Int × Int × List (List Int) × List Int × List (ByteArray × Int) × List (Int × Int × (Int × Int × Int) × Int × Int × Int × Int × Int × Int × Int × Int) × List (List Int) × List (List (Int × Int))
abbrev Y:=A→Option R
def lv:List (Nat × List Nat):=[(2000000,[4,5]),(3,[2,3,4,6,20,21]),(1000008,[2,3,4,6,20,21])]
noncomputable def cs:Nat→Ctx:=ctxOf tis modes tg171.1 lv
theorem cs_ok (n:Nat):CtxOk Tryz.prog (cs n):=ctxOf_ok rfl tis_ok tg171.2 n
noncomputable def sh:AS:=⟨[.agg [.int .i64,.int .i64,.int .i64,.int .i64,.int .i64,.int .i64,.int .i64,.int .i64,.int .i64,.int .i64,.int .i64,.int .i64,.int .i64,.int .i64,.int .i64,.int .i64,.sl 128000000,.int .i64,.int .i64,.int .i64,.int .i64,.int .i64,.int .i64,.int .i64,.int .i64,.int .i64,.int .i64,.sl 128000001,.sl 128000002,.sl 128000003,.sl 128000004],.agg [.int .i64,.int .i64,.int .i64,.frz y4]],[.row (.int .i64),.row y19,.row y27,.nest y4,.nest y38]⟩
def os:OS:=⟨.tup [.agg [.int .i64,.int .i64,.int .i64,.int .i64,.int .i64,.int .i64],.c .bool],[.row (.int .i64),.row y19,.row y27,.nest y4,.nest y38]⟩
def enc (r:R):Out:=os.enc r
def dec:Out→Option R:=os.dec
noncomputable def b0:Code:=subF [] Tryz.f86
noncomputable def K0 (k:Nat):Kt R:=kTop (cs k) Tryz.f86 dec
noncomputable def b3:Code:=sub [1,1,0,1,0,0] b0
noncomputable def K3 ( k:Nat):Kt R:=kAt (cs k) (loopN cs k) [1,1,0,1,0] b0 (K0 k)
noncomputable def c1000008:Code:=sub [1,1,1] b3
noncomputable def J1000008 ( k m1:Nat):Kt R:=kAt (cs m1) (loopN cs m1) [1,1,1] b3 (kLoop cs m1 b3 (K3 k))
abbrev T0:Type:=Int × Int × List Int × List (ByteArray × Int) × List (Int × Int × (Int × Int × Int) × Int × Int × Int × Int × Int × Int × Int × Int) × List (List Int) × List (List (Int × Int)) × Int × Int × Int × Int × Int × Int × Int × Int × Int × Int × Int × Int × Int × Int × Int × Int × Int × Int × Int × Int × Int × Int × Int × Int × Int × Int × Int × Int × Int × List (List Int) × Int × Int × Int × Int × Int × Int × Int × Int × Int × Int × Int × Int × Int × Int × Int × Int × Int × Int × Int × Int × Int × Int × Int × Int × Int × Int × Int × Int × Int × Int × Int × Int × List Int × List (Int × Int × (Int × Int) × Int × Int)
abbrev Y0:=T0→Option R
noncomputable def s0:T0→St:=fun (v0,v1,v2,v3,v4,v5,v6,v7,v8,v9,v10,v11,v12,v13,v14,v15,v16,v17,v18,v19,v20,v21,v22,v23,v24,v25,v26,v27,v28,v29,v30,v31,v32,v33,v34,v35,v36,v37,v38,v39,v40,v41,v42,v43,v44,v45,v46,v47,v48,v49,v50,v51,v52,v53,v54,v55,v56,v57,v58,v59,v60,v61,v62,v63,v64,v65,v66,v67,v68,v69,v70)=>⟨47,5,[(2,.c (.ptr 64000000 0)),(3,.c (.ptr 64000001 0)),(4,.c (.ptr 64000002 0)),(6,.c (.ptr 64000003 0)),(20,.c (.int .i64 v0)),(21,.c (.int .i64 v1))],[],[(128000000,.row (.int .i64) v2),(128000001,.row y19 v3),(128000002,.row y27 v4),(128000003,.nest y4 v5 .none),(128000004,.nest y38 v6 .none),(256000000,.gone),(64000000,.box [.int .i64 v7,.int .i64 v8,.int .i64 v9,.int .i64 v10,.int .i64 v11,.int .i64 v12,.int .i64 v13,.int .i64 v14,.int .i64 v15,.int .i64 v16,.int .i64 v17,.int .i64 v18,.int .i64 v19,.int .i64 v20,.int .i64 v21,.int .i64 v22,.sl 128000000,.int .i64 v23,.int .i64 v24,.int .i64 v25,.int .i64 v26,.int .i64 v27,.int .i64 v28,.int .i64 v29,.int .i64 v30,.int .i64 v31,.int .i64 v32,.sl 128000001,.sl 128000002,.sl 128000003,.sl 128000004]),(64000001,.box [.int .i64 v33,.int .i64 v34,.int .i64 v35,.frz y4 v36]),(64000002,.box [.int .i64 v37,.int .i64 v38,.int .i64 v39,.int .i64 v40,.int .i64 v41,.int .i64 v42]),(64000003,.box [.int .i64 v43,.int .i64 v44,.int .i64 v45,.int .i64 v46,.int .i64 v47,.int .i64 v48,.int .i64 v49,.int .i64 v50,.int .i64 v51,.int .i64 v52,.int .i64 v53,.int .i64 v54,.int .i64 v55,.int .i64 v56,.int .i64 v57,.int .i64 v58,.sl 128000000,.int .i64 v59,.int .i64 v60,.int .i64 v61,.int .i64 v62,.int .i64 v63,.int .i64 v64,.int .i64 v65,.int .i64 v66,.int .i64 v67,.int .i64 v68,.sl 128000001,.sl 128000002,.sl 128000003,.sl 128000004,.sl 64000004,.sl 64000005]),(64000004,.row (.int .i64) v69),(64000005,.row y46 v70)]⟩
noncomputable def l0 ( k n:Nat) (v:T0):Option R:=held (loopN cs n b3 (K3 k) (s0 v))
noncomputable def D0 (v:T0):Option R:=lim fun L=>l0 (L 0) (L 1) v
theorem D0_cn (v:T0):Cn late (D0 v) fun L=>l0 (L 0) (L 1) v:=of_lim
abbrev T1:Type:=Int × Int × List Int × List (ByteArray × Int) × List (Int × Int × (Int × Int × Int) × Int × Int × Int × Int × Int × Int × Int × Int) × List (List Int) × List (List (Int × Int)) × Int × Int × Int × Int × Int × Int × Int × Int × Int × Int × Int × Int × Int × Int × Int × Int × Int × Int × Int × Int × Int × Int × Int × Int × Int × Int × Int × Int × Int × List (List Int) × Int × Int × Int × Int × Int × Int × Int × Int × Int × Int × Int × Int × Int × Int × Int × Int × Int × Int × Int × Int × Int × Int × Int × Int × Int × Int × Int × Int × Int × Int × Int × Int × List Int × List (Int × Int × (Int × Int) × Int × Int)
abbrev Y1:=T1→Option R
noncomputable def s1:T1→St:=fun (v0,v1,v2,v3,v4,v5,v6,v7,v8,v9,v10,v11,v12,v13,v14,v15,v16,v17,v18,v19,v20,v21,v22,v23,v24,v25,v26,v27,v28,v29,v30,v31,v32,v33,v34,v35,v36,v37,v38,v39,v40,v41,v42,v43,v44,v45,v46,v47,v48,v49,v50,v51,v52,v53,v54,v55,v56,v57,v58,v59,v60,v61,v62,v63,v64,v65,v66,v67,v68,v69,v70)=>⟨47,5,[(2,.c (.ptr 64000000 0)),(3,.c (.ptr 64000001 0)),(4,.c (.ptr 64000002 0)),(6,.c (.ptr 64000003 0)),(20,.c (.int .i64 v0)),(21,.c (.int .i64 v1))],[],[(128000000,.row (.int .i64) v2),(128000001,.row y19 v3),(128000002,.row y27 v4),(128000003,.nest y4 v5 .none),(128000004,.nest y38 v6 .none),(256000000,.gone),(64000000,.box [.int .i64 v7,.int .i64 v8,.int .i64 v9,.int .i64 v10,.int .i64 v11,.int .i64 v12,.int .i64 v13,.int .i64 v14,.int .i64 v15,.int .i64 v16,.int .i64 v17,.int .i64 v18,.int .i64 v19,.int .i64 v20,.int .i64 v21,.int .i64 v22,.sl 128000000,.int .i64 v23,.int .i64 v24,.int .i64 v25,.int .i64 v26,.int .i64 v27,.int .i64 v28,.int .i64 v29,.int .i64 v30,.int .i64 v31,.int .i64 v32,.sl 128000001,.sl 128000002,.sl 128000003,.sl 128000004]),(64000001,.box [.int .i64 v33,.int .i64 v34,.int .i64 v35,.frz y4 v36]),(64000002,.box [.int .i64 v37,.int .i64 v38,.int .i64 v39,.int .i64 v40,.int .i64 v41,.int .i64 v42]),(64000003,.box [.int .i64 v43,.int .i64 v44,.int .i64 v45,.int .i64 v46,.int .i64 v47,.int .i64 v48,.int .i64 v49,.int .i64 v50,.int .i64 v51,.int .i64 v52,.int .i64 v53,.int .i64 v54,.int .i64 v55,.int .i64 v56,.int .i64 v57,.int .i64 v58,.sl 128000000,.int .i64 v59,.int .i64 v60,.int .i64 v61,.int .i64 v62,.int .i64 v63,.int .i64 v64,.int .i64 v65,.int .i64 v66,.int .i64 v67,.int .i64 v68,.sl 128000001,.sl 128000002,.sl 128000003,.sl 128000004,.sl 64000004,.sl 64000005]),(64000004,.row (.int .i64) v69),(64000005,.row y46 v70)]⟩
noncomputable def l1 ( k m1:Nat) (v:T1):Option R:=held (run (cs m1) (loopN cs m1) c1000008 (J1000008 k m1) (s1 v))
noncomputable def D1 (v:T1):Option R:=lim fun L=>l1 (L 0) (L 1) v
theorem D1_cn (v:T1):Cn late (D1 v) fun L=>l1 (L 0) (L 1) v:=of_lim
noncomputable def d0 (p0:g161.Y) (p1:g168.Y) (p2:Y1) (p3:g163.Y) (p4:g171.Y):Y0:=fun (v0,v1,v2,v3,v4,v5,v6,v7,v8,v9,v10,v11,v12,v13,v14,v15,v16,v17,v18,v19,v20,v21,v22,v23,v24,v25,v26,v27,v28,v29,v30,v31,v32,v33,v34,v35,v36,v37,v38,v39,v40,v41,v42,v43,v44,v45,v46,v47,v48,v49,v50,v51,v52,v53,v54,v55,v56,v57,v58,v59,v60,v61,v62,v63,v64,v65,v66,v67,v68,v69,v70) =>
br (decide (v1 < v0)) (bnd (p0 (v7,v8,v9,v10,v11,v12,v13,v14,v15,v16,v17,v18,v19,v20,v21,v22,v2,v23,v24,v25,v26,v27,v28,v29,v30,v31,v32,v3,v4,v5,v6,v33,v34,v35,v36,v1)) fun r=>br (decide (r.2.2.2.2.2.2 = 0)) (bnd (p1 ((r.1,r.2.1,(r.2.2.1,r.2.2.2.1),r.2.2.2.2.1,r.2.2.2.2.2.1),v43,v44,v45,v46,v47,v48,v49,v50,v51,v52,v53,v54,v55,v56,v57,v58,v59,v60,v61,v62,v63,v64,v65,v66,v67,v68,v2,v3,v4,v5,v6,v69,v70)) fun r=>p2 (v0,v1,r.2.2.2.2.2.2.2.2.2.2.2.2.2.2.2.2.2.2.2.2.2.2.2.2.2.2.1,r.2.2.2.2.2.2.2.2.2.2.2.2.2.2.2.2.2.2.2.2.2.2.2.2.2.2.2.1,r.2.2.2.2.2.2.2.2.2.2.2.2.2.2.2.2.2.2.2.2.2.2.2.2.2.2.2.2.1,r.2.2.2.2.2.2.2.2.2.2.2.2.2.2.2.2.2.2.2.2.2.2.2.2.2.2.2.2.2.1,r.2.2.2.2.2.2.2.2.2.2.2.2.2.2.2.2.2.2.2.2.2.2.2.2.2.2.2.2.2.2.1,v7,v8,v9,v10,v11,v12,v13,v14,v15,v16,v17,v18,v19,v20,v21,v22,v23,v24,v25,v26,v27,v28,v29,v30,v31,v32,v33,v34,v35,v36,v37,v38,v39,v40,v41,v42,r.1,r.2.1,r.2.2.1,r.2.2.2.1,r.2.2.2.2.1,r.2.2.2.2.2.1,r.2.2.2.2.2.2.1,r.2.2.2.2.2.2.2.1,r.2.2.2.2.2.2.2.2.1,r.2.2.2.2.2.2.2.2.2.1,r.2.2.2.2.2.2.2.2.2.2.1,r.2.2.2.2.2.2.2.2.2.2.2.1,r.2.2.2.2.2.2.2.2.2.2.2.2.1,r.2.2.2.2.2.2.2.2.2.2.2.2.2.1,r.2.2.2.2.2.2.2.2.2.2.2.2.2.2.1,r.2.2.2.2.2.2.2.2.2.2.2.2.2.2.2.1,r.2.2.2.2.2.2.2.2.2.2.2.2.2.2.2.2.1,r.2.2.2.2.2.2.2.2.2.2.2.2.2.2.2.2.2.1,r.2.2.2.2.2.2.2.2.2.2.2.2.2.2.2.2.2.2.1,r.2.2.2.2.2.2.2.2.2.2.2.2.2.2.2.2.2.2.2.1,r.2.2.2.2.2.2.2.2.2.2.2.2.2.2.2.2.2.2.2.2.1,r.2.2.2.2.2.2.2.2.2.2.2.2.2.2.2.2.2.2.2.2.2.1,r.2.2.2.2.2.2.2.2.2.2.2.2.2.2.2.2.2.2.2.2.2.2.1,r.2.2.2.2.2.2.2.2.2.2.2.2.2.2.2.2.2.2.2.2.2.2.2.1,r.2.2.2.2.2.2.2.2.2.2.2.2.2.2.2.2.2.2.2.2.2.2.2.2.1,r.2.2.2.2.2.2.2.2.2.2.2.2.2.2.2.2.2.2.2.2.2.2.2.2.2.1,r.2.2.2.2.2.2.2.2.2.2.2.2.2.2.2.2.2.2.2.2.2.2.2.2.2.2.2.2.2.2.2.1,r.2.2.2.2.2.2.2.2.2.2.2.2.2.2.2.2.2.2.2.2.2.2.2.2.2.2.2.2.2.2.2.2)) (p2 (v0,v1,v2,v3,v4,v5,v6,v7,v8,v9,v10,v11,v12,v13,v14,v15,v16,v17,v18,v19,v20,v21,v22,v23,v24,v25,v26,v27,v28,v29,v30,v31,v32,v33,v34,v35,v36,v37,v38,v39,v40,v41,v42,v43,v44,v45,v46,v47,v48,v49,v50,v51,v52,v53,v54,v55,v56,v57,v58,v59,v60,v61,v62,v63,v64,v65,v66,v67,v68,v69,v70))) (bnd (p3 (v43,v44,v45,v46,v47,v48,v49,v50,v51,v52,v53,v54,v55,v56,v57,v58,v59,v60,v61,v62,v63,v64,v65,v66,v67,v68,v2,v3,v4,v5,v6,v69,v70)) fun r=>br (decide (r.1 = 0)) (some (0,0,0,0,0,0,false,r.2.2.2.2.2.2.2.2.2.2.2.2.2.2.2.2.2.2.2.2.2.2.2.2.2.2.2.1,r.2.2.2.2.2.2.2.2.2.2.2.2.2.2.2.2.2.2.2.2.2.2.2.2.2.2.2.2.1,r.2.2.2.2.2.2.2.2.2.2.2.2.2.2.2.2.2.2.2.2.2.2.2.2.2.2.2.2.2.1,r.2.2.2.2.2.2.2.2.2.2.2.2.2.2.2.2.2.2.2.2.2.2.2.2.2.2.2.2.2.2.1,r.2.2.2.2.2.2.2.2.2.2.2.2.2.2.2.2.2.2.2.2.2.2.2.2.2.2.2.2.2.2.2.1)) (bnd (p4 (r.2.1,r.2.2.1,r.2.2.2.1,r.2.2.2.2.1,r.2.2.2.2.2.1,r.2.2.2.2.2.2.1,r.2.2.2.2.2.2.2.1,r.2.2.2.2.2.2.2.2.1,r.2.2.2.2.2.2.2.2.2.1,r.2.2.2.2.2.2.2.2.2.2.1,r.2.2.2.2.2.2.2.2.2.2.2.1,r.2.2.2.2.2.2.2.2.2.2.2.2.1,r.2.2.2.2.2.2.2.2.2.2.2.2.2.1,r.2.2.2.2.2.2.2.2.2.2.2.2.2.2.1,r.2.2.2.2.2.2.2.2.2.2.2.2.2.2.2.1,r.2.2.2.2.2.2.2.2.2.2.2.2.2.2.2.2.1,r.2.2.2.2.2.2.2.2.2.2.2.2.2.2.2.2.2.1,r.2.2.2.2.2.2.2.2.2.2.2.2.2.2.2.2.2.2.1,r.2.2.2.2.2.2.2.2.2.2.2.2.2.2.2.2.2.2.2.1,r.2.2.2.2.2.2.2.2.2.2.2.2.2.2.2.2.2.2.2.2.1,r.2.2.2.2.2.2.2.2.2.2.2.2.2.2.2.2.2.2.2.2.2.1,r.2.2.2.2.2.2.2.2.2.2.2.2.2.2.2.2.2.2.2.2.2.2.1,r.2.2.2.2.2.2.2.2.2.2.2.2.2.2.2.2.2.2.2.2.2.2.2.1,r.2.2.2.2.2.2.2.2.2.2.2.2.2.2.2.2.2.2.2.2.2.2.2.2.1,r.2.2.2.2.2.2.2.2.2.2.2.2.2.2.2.2.2.2.2.2.2.2.2.2.2.1,r.2.2.2.2.2.2.2.2.2.2.2.2.2.2.2.2.2.2.2.2.2.2.2.2.2.2.1,r.2.2.2.2.2.2.2.2.2.2.2.2.2.2.2.2.2.2.2.2.2.2.2.2.2.2.2.1,r.2.2.2.2.2.2.2.2.2.2.2.2.2.2.2.2.2.2.2.2.2.2.2.2.2.2.2.2.1,r.2.2.2.2.2.2.2.2.2.2.2.2.2.2.2.2.2.2.2.2.2.2.2.2.2.2.2.2.2.1,r.2.2.2.2.2.2.2.2.2.2.2.2.2.2.2.2.2.2.2.2.2.2.2.2.2.2.2.2.2.2.1,r.2.2.2.2.2.2.2.2.2.2.2.2.2.2.2.2.2.2.2.2.2.2.2.2.2.2.2.2.2.2.2.1,r.2.2.2.2.2.2.2.2.2.2.2.2.2.2.2.2.2.2.2.2.2.2.2.2.2.2.2.2.2.2.2.2.1,r.2.2.2.2.2.2.2.2.2.2.2.2.2.2.2.2.2.2.2.2.2.2.2.2.2.2.2.2.2.2.2.2.2)) fun r=>some (r.1.1,r.1.2.1,r.1.2.2.1.1,r.1.2.2.1.2,r.1.2.2.2.1,r.1.2.2.2.2,true,r.2.2.2.2.2.2.2.2.2.2.2.2.2.2.2.2.2.2.2.2.2.2.2.2.2.2.2.2.2.1,r.2.2.2.2.2.2.2.2.2.2.2.2.2.2.2.2.2.2.2.2.2.2.2.2.2.2.2.2.2.2.1,r.2.2.2.2.2.2.2.2.2.2.2.2.2.2.2.2.2.2.2.2.2.2.2.2.2.2.2.2.2.2.2.1,r.2.2.2.2.2.2.2.2.2.2.2.2.2.2.2.2.2.2.2.2.2.2.2.2.2.2.2.2.2.2.2.2.1,r.2.2.2.2.2.2.2.2.2.2.2.2.2.2.2.2.2.2.2.2.2.2.2.2.2.2.2.2.2.2.2.2.2.1)))
theorem d0_cn (k0:Pr E g161.A g161.R) (k1:Pr E g168.A g168.R) (k2:Pr E T1 R) (k3:Pr E g163.A g163.R) (k4:Pr E g171.A g171.R):∀ v:T0,Cn E (d0 k0.p k1.p k2.p k3.p k4.p v) fun i=>d0 (k0.q i) (k1.q i) (k2.q i) (k3.q i) (k4.q i) v:=fun (v0,v1,v2,v3,v4,v5,v6,v7,v8,v9,v10,v11,v12,v13,v14,v15,v16,v17,v18,v19,v20,v21,v22,v23,v24,v25,v26,v27,v28,v29,v30,v31,v32,v33,v34,v35,v36,v37,v38,v39,v40,v41,v42,v43,v44,v45,v46,v47,v48,v49,v50,v51,v52,v53,v54,v55,v56,v57,v58,v59,v60,v61,v62,v63,v64,v65,v66,v67,v68,v69,v70)=>(.br (.bnd (k0.h _) fun _=>(.br (.bnd (k1.h _) fun _=>(k2.h _)) (k2.h _))) (.bnd (k3.h _) fun _=>(.br .some (.bnd (k4.h _) fun _=>.some))))
theorem l0_b ( k m1:Nat):∀ v:T0,run (cs m1) (loopN cs m1) b3 (kLoop cs m1 b3 (K3 k)) (s0 v) = d0 (g161.f m1) (g168.f m1) (l1 k m1) (g163.f k) (g171.f k) v:=fun (v0,v1,v2,v3,v4,v5,v6,v7,v8,v9,v10,v11,v12,v13,v14,v15,v16,v17,v18,v19,v20,v21,v22,v23,v24,v25,v26,v27,v28,v29,v30,v31,v32,v33,v34,v35,v36,v37,v38,v39,v40,v41,v42,v43,v44,v45,v46,v47,v48,v49,v50,v51,v52,v53,v54,v55,v56,v57,v58,v59,v60,v61,v62,v63,v64,v65,v66,v67,v68,v69,v70)=>by kernel_rfl
theorem D0_of (v:T0) {r:R} (h:d0 g161.F g168.F D1 g163.F g171.F v = some r):D0 v = some r:=loop_of 1 (fun L n hn=>by show l0 (L 0) (L 1) v = _; rw [hn]; exact (held_eq _).trans ((loopN_succ _ _ _ _ _).trans (l0_b (L 0) n v))) (d0_cn (lp g161.f 1) (lp g168.f 1) (.mk fun v=>(D1_cn v).re [0,1]) (lp g163.f 0) (lp g171.f 0) v) h
def d1 (p0:Y0):Y1:=fun (v0,v1,v2,v3,v4,v5,v6,v7,v8,v9,v10,v11,v12,v13,v14,v15,v16,v17,v18,v19,v20,v21,v22,v23,v24,v25,v26,v27,v28,v29,v30,v31,v32,v33,v34,v35,v36,v37,v38,v39,v40,v41,v42,v43,v44,v45,v46,v47,v48,v49,v50,v51,v52,v53,v54,v55,v56,v57,v58,v59,v60,v61,v62,v63,v64,v65,v66,v67,v68,v69,v70) =>
p0 (v0,wrap .i64 (v1 + 1),v2,v3,v4,v5,v6,v7,v8,v9,v10,v11,v12,v13,v14,v15,v16,v17,v18,v19,v20,v21,v22,v23,v24,v25,v26,v27,v28,v29,v30,v31,v32,v33,v34,v35,v36,v37,v38,v39,v40,v41,v42,v43,v44,v45,v46,v47,v48,v49,v50,v51,v52,v53,v54,v55,v56,v57,v58,v59,v60,v61,v62,v63,v64,v65,v66,v67,v68,v69,v70)
theorem d1_cn (k0:Pr E T0 R):∀ v:T1,Cn E (d1 k0.p v) fun i=>d1 (k0.q i) v:=fun (v0,v1,v2,v3,v4,v5,v6,v7,v8,v9,v10,v11,v12,v13,v14,v15,v16,v17,v18,v19,v20,v21,v22,v23,v24,v25,v26,v27,v28,v29,v30,v31,v32,v33,v34,v35,v36,v37,v38,v39,v40,v41,v42,v43,v44,v45,v46,v47,v48,v49,v50,v51,v52,v53,v54,v55,v56,v57,v58,v59,v60,v61,v62,v63,v64,v65,v66,v67,v68,v69,v70)=>(k0.h _)
theorem l1_b ( k m1:Nat):∀ v:T1,run (cs m1) (loopN cs m1) c1000008 (J1000008 k m1) (s1 v) = d1 (l0 k m1) v:=fun (v0,v1,v2,v3,v4,v5,v6,v7,v8,v9,v10,v11,v12,v13,v14,v15,v16,v17,v18,v19,v20,v21,v22,v23,v24,v25,v26,v27,v28,v29,v30,v31,v32,v33,v34,v35,v36,v37,v38,v39,v40,v41,v42,v43,v44,v45,v46,v47,v48,v49,v50,v51,v52,v53,v54,v55,v56,v57,v58,v59,v60,v61,v62,v63,v64,v65,v66,v67,v68,v69,v70)=>by kernel_rfl
theorem D1_of (v:T1) {r:R} (h:d1 D0 v = some r):D1 v = some r:=join_of (fun L=>(held_eq _).trans (l1_b (L 0) (L 1) v)) (d1_cn (.mk fun v=>(D0_cn v).re [0,1]) v) h
noncomputable def f (k:Nat):Y:=fun v=>held (runFn cs k Tryz.f86 (sh.args v) (sh.slots v) dec)
noncomputable def F:Y:=lm f
def d (p0:g150.Y) (p1:Y0):Y:=fun (v0,v1,v2,v3,v4,v5,v6,v7,v8,v9,v10,v11,v12,v13,v14,v15,v16,v17,v18,v19,v20,v21,v22,v23,v24,v25,v26,v27,v28,v29,v30,v31,v32,v33,v34) =>
bnd (p0 (v31,v32,v26,v27,v28,v29)) fun r=>p1 ((↑v32.length:Int),0,v30,v31,v32,v33,v34,v0,v1,v2,v3,v4,v5,v6,v7,v8,v9,v10,v11,v12,v13,v14,v15,v16,v17,v18,v19,v20,v21,v22,v23,v24,v25,v26,v27,v28,v29,0,0,0,0,0,0,v0,v1,v2,v3,v4,v5,v6,v7,v8,v9,v10,v11,v12,v13,v14,v15,v16,v17,v18,v19,v20,v21,v22,v23,v24,v25,r,[])
theorem d_cn (k0:Pr E g150.A g150.R) (k1:Pr E T0 R):∀ v:A,Cn E (d k0.p k1.p v) fun i=>d (k0.q i) (k1.q i) v:=fun (v0,v1,v2,v3,v4,v5,v6,v7,v8,v9,v10,v11,v12,v13,v14,v15,v16,v17,v18,v19,v20,v21,v22,v23,v24,v25,v26,v27,v28,v29,v30,v31,v32,v33,v34)=>(.bnd (k0.h _) fun _=>(k1.h _))
theorem f_b (k:Nat):∀ v:A,f k v = d (g150.f k) (l0 k k) v:=fun (v0,v1,v2,v3,v4,v5,v6,v7,v8,v9,v10,v11,v12,v13,v14,v15,v16,v17,v18,v19,v20,v21,v22,v23,v24,v25,v26,v27,v28,v29,v30,v31,v32,v33,v34)=>(held_eq _).trans (by kernel_rfl)
theorem F_of (v:A) {r:R} (h:d g150.F D0 v = some r):F v = some r:=join_of (fun L=>f_b (L 0) v) (d_cn (lp g150.f 0) (.mk fun v=>(D0_cn v).re [0,0]) v) h
noncomputable def spec (k:Nat):List AV→List Slot→Option Ans:=specS sh os (f k)
theorem spec_ok (k:Nat):SpecOk Tryz.prog 86 (spec k):=specS_ok cs_ok Tryz.func86 rfl rfl (fun _ _=>held_eq _) k
end g172
noncomputable def tg172:=tg171.cons 86 g172.spec g172.spec_ok
namespace g173 -- plan_Desk_take
abbrev R:Type:=Int × Int × Int × Int × Int × Int × Int × List (List Int)
abbrev A:Type:=Int × Int × Int × Int × Int × Int × Int × Int × Int × Int × Int × Int × Int × Int × Int × Int × List Int × Int × Int × Int × Int × Int × Int × Int × Int × Int × Int × List (ByteArray × Int) × List (Int × Int × (Int × Int × Int) × Int × Int × Int × Int × Int × Int × Int × Int) × List (List Int) × List (List (Int × Int)) × Int × Int × Int × Int × Int × Int × Int × Int × Int × List (List Int)
abbrev Y:=A→Option R
def lv:List (Nat × List Nat):=[(2000000,[6])]
noncomputable def cs:Nat→Ctx:=ctxOf tis modes tg172.1 lv
theorem cs_ok (n:Nat):CtxOk Tryz.prog (cs n):=ctxOf_ok rfl tis_ok tg172.2 n
noncomputable def sh:AS:=⟨[.agg [.int .i64,.int .i64,.int .i64,.int .i64,.int .i64,.int .i64,.int .i64,.int .i64,.int .i64,.int .i64,.int .i64,.int .i64,.int .i64,.int .i64,.int .i64,.int .i64,.frz (.int .i64),.int .i64,.int .i64,.int .i64,.int .i64,.int .i64,.int .i64,.int .i64,.int .i64,.int .i64,.int .i64,.frz y19,.frz y27,.frz y4,.frz y38],.c (.ptr 128000000 0),.agg [.int .i64,.int .i64,.int .i64,.int .i64,.int .i64,.int .i64]],[.box [.int .i64,.int .i64,.int .i64,.sl 128000001],.nest y4]⟩
def os:OS:=⟨.agg [.int .i64,.int .i64,.int .i64,.int .i64],[.box [.int .i64,.int .i64,.int .i64,.sl 128000001],.nest y4]⟩
def enc (r:R):Out:=os.enc r
def dec:Out→Option R:=os.dec
noncomputable def b0:Code:=subF [] Tryz.f68
noncomputable def K0 (k:Nat):Kt R:=kTop (cs k) Tryz.f68 dec
noncomputable def f (k:Nat):Y:=fun v=>held (runFn cs k Tryz.f68 (sh.args v) (sh.slots v) dec)
noncomputable def F:Y:=lm f
def d:Y:=fun (v0,v1,v2,v3,v4,v5,v6,v7,v8,v9,v10,v11,v12,v13,v14,v15,v16,v17,v18,v19,v20,v21,v22,v23,v24,v25,v26,v27,v28,v29,v30,v31,v32,v33,v34,v35,v36,v37,v38,v39,v40) =>
br (decide (0 ≤ v31 ∧ v31 < (↑v28.length:Int))) (br (decide (0 ≤ v31 ∧ v31 < (↑v40.length:Int))) (br (decide (List.length (rd (Ty.int .i64).slice v40 v31) + [v32].length ≤ 140737488355328 / 8)) (br (decide (0 ≤ v31 ∧ v31 < (↑v40.length:Int))) (br (decide (v31 = v31)) (some ((rd ty0 v28 v31).1,wrap .i64 (v32 - v37),v32,(rd ty0 v28 v31).2.2.2.1,wrap .i64 (v32 + (rd ty0 v28 v31).2.2.2.1),v35,v36,v40.set v31.toNat (rd (Ty.int .i64).slice v40 v31 ++ [v32]))) none) none) none) none) none
theorem d_cn:∀ v:A,Cn E (d v) fun i=>d v:=fun (v0,v1,v2,v3,v4,v5,v6,v7,v8,v9,v10,v11,v12,v13,v14,v15,v16,v17,v18,v19,v20,v21,v22,v23,v24,v25,v26,v27,v28,v29,v30,v31,v32,v33,v34,v35,v36,v37,v38,v39,v40)=>(.br (.br (.br (.br (.br .some .none) .none) .none) .none) .none)
theorem f_b (k:Nat):∀ v:A,f k v = d v:=fun (v0,v1,v2,v3,v4,v5,v6,v7,v8,v9,v10,v11,v12,v13,v14,v15,v16,v17,v18,v19,v20,v21,v22,v23,v24,v25,v26,v27,v28,v29,v30,v31,v32,v33,v34,v35,v36,v37,v38,v39,v40)=>(held_eq _).trans (by kernel_rfl)
theorem F_of (v:A) {r:R} (h:d v = some r):F v = some r:=join_of (fun L=>f_b (L 0) v) (d_cn v) h
noncomputable def spec (k:Nat):List AV→List Slot→Option Ans:=specS sh os (f k)
theorem spec_ok (k:Nat):SpecOk Tryz.prog 68 (spec k):=specS_ok cs_ok Tryz.func68 rfl rfl (fun _ _=>held_eq _) k
end g173
noncomputable def tg173:=tg172.cons 68 g173.spec g173.spec_ok
end Go.Proofs.RPo
