import Derived.Test.YtfkampndpkfcmaaGreatRPl1
import Derived.Test.YtfkampndpkfcmaaGreatProg
namespace Go.Proofs.RPl
open Go Go.Eng Go.Proofs
set_option maxRecDepth 100000
set_option linter.unusedVariables false
variable {ι : Type} {E : Fil ι}
namespace g145 -- slew_Steps
abbrev R:Type:=Int × Int
abbrev A:Type:=Int × Int × Int × Int × Int × Int
abbrev Y:=A→Option R
def lv:List (Nat × List Nat):=[(2000000,[6,7]),(7,[3,9,10,11]),(1000013,[3,9,10,11]),(1000017,[11])]
noncomputable def cs:Nat→Ctx:=ctxOf tis modes tg144.1 lv
theorem cs_ok (n:Nat):CtxOk Tryz.prog (cs n):=ctxOf_ok rfl tis_ok tg144.2 n
def sh:AS:=⟨[.agg [.int .i64,.int .i64,.int .i64,.int .i64],.c (.int .i64),.c (.int .i64)],[]⟩
def os:OS:=⟨.tup [.c (.int .i64),.c (.int .i64)],[]⟩
def enc (r:R):Out:=os.enc r
def dec:Out→Option R:=os.dec
noncomputable def b0:Code:=subF [] Tryz.f131
noncomputable def K0 (k:Nat):Kt R:=kTop (cs k) Tryz.f131 dec
noncomputable def b7:Code:=sub [1,1,1,1,0,0,0] b0
noncomputable def K7 ( k:Nat):Kt R:=kAt (cs k) (loopN cs k) [1,1,1,1,0,0] b0 (K0 k)
noncomputable def c1000013:Code:=sub [1,0,1,1] b7
noncomputable def J1000013 ( k m1:Nat):Kt R:=kAt (cs m1) (loopN cs m1) [1,0,1,1] b7 (kLoop cs m1 b7 (K7 k))
noncomputable def c1000017:Code:=sub [1,1,1,1,1,1] b0
noncomputable def J1000017 ( k:Nat):Kt R:=kAt (cs k) (loopN cs k) [1,1,1,1,1,1] b0 (K0 k)
abbrev T0:Type:=Int × Int × Int × Int × Int × Int × Int
abbrev Y0:=T0→Option R
def s0:T0→St:=fun (v0,v1,v2,v3,v4,v5,v6)=>⟨78,0,[(3,.c (.ptr 64000000 0)),(9,.c (.int .i64 v0)),(10,.c (.int .i64 v1)),(11,.c (.int .i64 v2))],[],[(256000000,.gone),(64000000,.box [.int .i64 v3,.int .i64 v4,.int .i64 v5,.int .i64 v6])]⟩
noncomputable def l0 ( k n:Nat) (v:T0):Option R:=held (loopN cs n b7 (K7 k) (s0 v))
noncomputable def D0 (v:T0):Option R:=lim fun L=>l0 (L 0) (L 1) v
theorem D0_cn (v:T0):Cn late (D0 v) fun L=>l0 (L 0) (L 1) v:=of_lim
abbrev T1:Type:=Int × Int × Int × Int × Int × Int × Int
abbrev Y1:=T1→Option R
def s1:T1→St:=fun (v0,v1,v2,v3,v4,v5,v6)=>⟨78,0,[(3,.c (.ptr 64000000 0)),(9,.c (.int .i64 v0)),(10,.c (.int .i64 v1)),(11,.c (.int .i64 v2))],[],[(256000000,.gone),(64000000,.box [.int .i64 v3,.int .i64 v4,.int .i64 v5,.int .i64 v6])]⟩
noncomputable def l1 ( k m1:Nat) (v:T1):Option R:=held (run (cs m1) (loopN cs m1) c1000013 (J1000013 k m1) (s1 v))
noncomputable def D1 (v:T1):Option R:=lim fun L=>l1 (L 0) (L 1) v
theorem D1_cn (v:T1):Cn late (D1 v) fun L=>l1 (L 0) (L 1) v:=of_lim
abbrev T2:Type:=Int
abbrev Y2:=T2→Option R
def s2:T2→St:=fun v0=>⟨78,0,[(11,.c (.int .i64 v0))],[],[(256000000,.gone)]⟩
noncomputable def l2 ( k:Nat) (v:T2):Option R:=held (run (cs k) (loopN cs k) c1000017 (J1000017 k) (s2 v))
noncomputable def D2 (v:T2):Option R:=lim fun L=>l2 (L 0) v
theorem D2_cn (v:T2):Cn late (D2 v) fun L=>l2 (L 0) v:=of_lim
def d0 (p0:g143.Y) (p1:g144.Y) (p2:Y1) (p3:Y2):Y0:=fun (v0,v1,v2,v3,v4,v5,v6) =>
br (decide (0 < v0)) (bnd (p0 (v3,v4,v5,v6,v0)) fun r=>bnd (p1 (v3,v4,v5,v6)) fun r_1=>br (!decide (v5 = 0)) (br (decide (min (wrap .i64 (v1 + v6)) r = v5) && decide (1 < wrap .i64 ((wrap .i64 (v0 - r_1)).tdiv v5))) (p2 (wrap .i64 (v0 - wrap .i64 (wrap .i64 (wrap .i64 ((wrap .i64 (v0 - r_1)).tdiv v5) - 1) * v5)),min (wrap .i64 (v1 + v6)) r,wrap .i64 (v2 + wrap .i64 (wrap .i64 ((wrap .i64 (v0 - r_1)).tdiv v5) - 1)),v3,v4,v5,v6)) (p2 (v0,min (wrap .i64 (v1 + v6)) r,v2,v3,v4,v5,v6))) none) (br (decide (0 < v1)) (p3 (wrap .i64 (v2 + 1))) (p3 v2))
theorem d0_cn (k0:Pr E g143.A g143.R) (k1:Pr E g144.A g144.R) (k2:Pr E T1 R) (k3:Pr E T2 R):∀ v:T0,Cn E (d0 k0.p k1.p k2.p k3.p v) fun i=>d0 (k0.q i) (k1.q i) (k2.q i) (k3.q i) v:=fun (v0,v1,v2,v3,v4,v5,v6)=>(.br (.bnd (k0.h _) fun _=>(.bnd (k1.h _) fun _=>(.br (.br (k2.h _) (k2.h _)) .none))) (.br (k3.h _) (k3.h _)))
theorem l0_b ( k m1:Nat):∀ v:T0,run (cs m1) (loopN cs m1) b7 (kLoop cs m1 b7 (K7 k)) (s0 v) = d0 (g143.f m1) (g144.f m1) (l1 k m1) (l2 k) v:=fun (v0,v1,v2,v3,v4,v5,v6)=>by kernel_rfl
theorem D0_of (v:T0) {r:R} (h:d0 g143.F g144.F D1 D2 v = some r):D0 v = some r:=loop_of 1 (fun L n hn=>by show l0 (L 0) (L 1) v = _; rw [hn]; exact (held_eq _).trans ((loopN_succ _ _ _ _ _).trans (l0_b (L 0) n v))) (d0_cn (lp g143.f 1) (lp g144.f 1) (.mk fun v=>(D1_cn v).re [0,1]) (.mk fun v=>(D2_cn v).re [0]) v) h
def d1 (p0:Y0):Y1:=fun (v0,v1,v2,v3,v4,v5,v6) =>
p0 (wrap .i64 (v0 - v1),v1,wrap .i64 (v2 + 1),v3,v4,v5,v6)
theorem d1_cn (k0:Pr E T0 R):∀ v:T1,Cn E (d1 k0.p v) fun i=>d1 (k0.q i) v:=fun (v0,v1,v2,v3,v4,v5,v6)=>(k0.h _)
theorem l1_b ( k m1:Nat):∀ v:T1,run (cs m1) (loopN cs m1) c1000013 (J1000013 k m1) (s1 v) = d1 (l0 k m1) v:=fun (v0,v1,v2,v3,v4,v5,v6)=>by kernel_rfl
theorem D1_of (v:T1) {r:R} (h:d1 D0 v = some r):D1 v = some r:=join_of (fun L=>(held_eq _).trans (l1_b (L 0) (L 1) v)) (d1_cn (.mk fun v=>(D0_cn v).re [0,1]) v) h
def d2:Y2:=fun v0 =>
some (v0,0)
theorem d2_cn:∀ v:T2,Cn E (d2 v) fun i=>d2 v:=fun v0=>.some
theorem l2_b ( k:Nat):∀ v:T2,run (cs k) (loopN cs k) c1000017 (J1000017 k) (s2 v) = d2 v:=fun v0=>by kernel_rfl
theorem D2_of (v:T2) {r:R} (h:d2 v = some r):D2 v = some r:=join_of (fun L=>(held_eq _).trans (l2_b (L 0) v)) (d2_cn v) h
noncomputable def f (k:Nat):Y:=fun v=>held (runFn cs k Tryz.f131 (sh.args v) (sh.slots v) dec)
noncomputable def F:Y:=lm f
def d (p0:g25.Y) (p1:g26.Y) (p2:g141.Y) (p3:Y0):Y:=fun (v0,v1,v2,v3,v4,v5) =>
bnd (p0 (v0,v1,v2,v3)) fun r=>br (!decide (r = 0)) (some (0,r)) (bnd (p1 (v0,v1,v2,v3,v4)) fun r=>br ((!r) == false) (bnd (p1 (v0,v1,v2,v3,v5)) fun r=>br (!r) (some (0,4)) (bnd (p2 (wrap .i64 (v5 - v4))) fun r=>p3 (r,0,0,v0,v1,v2,v3))) (some (0,4)))
theorem d_cn (k0:Pr E g25.A g25.R) (k1:Pr E g26.A g26.R) (k2:Pr E g141.A g141.R) (k3:Pr E T0 R):∀ v:A,Cn E (d k0.p k1.p k2.p k3.p v) fun i=>d (k0.q i) (k1.q i) (k2.q i) (k3.q i) v:=fun (v0,v1,v2,v3,v4,v5)=>(.bnd (k0.h _) fun _=>(.br .some (.bnd (k1.h _) fun _=>(.br (.bnd (k1.h _) fun _=>(.br .some (.bnd (k2.h _) fun _=>(k3.h _)))) .some))))
theorem f_b (k:Nat):∀ v:A,f k v = d (g25.f k) (g26.f k) (g141.f k) (l0 k k) v:=fun (v0,v1,v2,v3,v4,v5)=>(held_eq _).trans (by kernel_rfl)
theorem F_of (v:A) {r:R} (h:d g25.F g26.F g141.F D0 v = some r):F v = some r:=join_of (fun L=>f_b (L 0) v) (d_cn (lp g25.f 0) (lp g26.f 0) (lp g141.f 0) (.mk fun v=>(D0_cn v).re [0,0]) v) h
noncomputable def spec (k:Nat):List AV→List Slot→Option Ans:=specS sh os (f k)
theorem spec_ok (k:Nat):SpecOk Tryz.prog 131 (spec k):=specS_ok cs_ok Tryz.func131 rfl rfl (fun _ _=>held_eq _) k
end g145
noncomputable def tg145:=tg144.cons 131 g145.spec g145.spec_ok
namespace g146 -- slew_To
abbrev R:Type:=Int × Int × Int × Int
abbrev A:Type:=Int × Int × Int × Int × Int × Int × Int × Int × Int × Int × Int × Int × Int × Int
abbrev Y:=A→Option R
def lv:List (Nat × List Nat):=[(2000000,[6,7,8])]
noncomputable def cs:Nat→Ctx:=ctxOf tis modes tg145.1 lv
theorem cs_ok (n:Nat):CtxOk Tryz.prog (cs n):=ctxOf_ok rfl tis_ok tg145.2 n
def sh:AS:=⟨[.agg [.int .i64,.int .i64,.int .i64,.int .i64,.int .i64,.int .i64,.int .i64,.int .i64,.int .i64,.int .i64],.agg [.int .i64,.int .i64],.agg [.int .i64,.int .i64]],[]⟩
def os:OS:=⟨.tup [.agg [.int .i64,.int .i64],.c (.int .i64),.c (.int .i64)],[]⟩
def enc (r:R):Out:=os.enc r
def dec:Out→Option R:=os.dec
noncomputable def b0:Code:=subF [] Tryz.f94
noncomputable def K0 (k:Nat):Kt R:=kTop (cs k) Tryz.f94 dec
noncomputable def f (k:Nat):Y:=fun v=>held (runFn cs k Tryz.f94 (sh.args v) (sh.slots v) dec)
noncomputable def F:Y:=lm f
def d (p0:g27.Y) (p1:g142.Y) (p2:g145.Y):Y:=fun (v0,v1,v2,v3,v4,v5,v6,v7,v8,v9,v10,v11,v12,v13) =>
bnd (p0 (v0,v1,v2,v3,v4,v5,v6,v7,v8,v9)) fun r=>br (!decide (r = 0)) (some (0,0,0,r)) (bnd (p1 (v0,v1,v2,v3,v10,v12)) fun r=>br (!decide (r.2 = 0)) (some (0,0,0,r.2)) (bnd (p1 (v4,v5,v6,v7,v11,v13)) fun r_1=>br (!decide (r_1.2 = 0)) (some (0,0,0,r_1.2)) (bnd (p2 (v0,v1,v2,v3,v10,r.1)) fun r_2=>bnd (p2 (v4,v5,v6,v7,v11,r_1.1)) fun r_3=>some (r.1,r_1.1,max r_2.1 r_3.1,0))))
theorem d_cn (k0:Pr E g27.A g27.R) (k1:Pr E g142.A g142.R) (k2:Pr E g145.A g145.R):∀ v:A,Cn E (d k0.p k1.p k2.p v) fun i=>d (k0.q i) (k1.q i) (k2.q i) v:=fun (v0,v1,v2,v3,v4,v5,v6,v7,v8,v9,v10,v11,v12,v13)=>(.bnd (k0.h _) fun _=>(.br .some (.bnd (k1.h _) fun _=>(.br .some (.bnd (k1.h _) fun _=>(.br .some (.bnd (k2.h _) fun _=>(.bnd (k2.h _) fun _=>.some))))))))
theorem f_b (k:Nat):∀ v:A,f k v = d (g27.f k) (g142.f k) (g145.f k) v:=fun (v0,v1,v2,v3,v4,v5,v6,v7,v8,v9,v10,v11,v12,v13)=>(held_eq _).trans (by kernel_rfl)
theorem F_of (v:A) {r:R} (h:d g27.F g142.F g145.F v = some r):F v = some r:=join_of (fun L=>f_b (L 0) v) (d_cn (lp g27.f 0) (lp g142.f 0) (lp g145.f 0) v) h
noncomputable def spec (k:Nat):List AV→List Slot→Option Ans:=specS sh os (f k)
theorem spec_ok (k:Nat):SpecOk Tryz.prog 94 (spec k):=specS_ok cs_ok Tryz.func94 rfl rfl (fun _ _=>held_eq _) k
end g146
noncomputable def tg146:=tg145.cons 94 g146.spec g146.spec_ok
namespace g147 -- slew_Slots
abbrev R:Type:=Int
abbrev A:Type:=Int × Int × Int × Int × Int × Int × Int × Int × Int × Int × Int × Int × Int × Int × Int × Int × List Int × Int
abbrev Y:=A→Option R
def lv:List (Nat × List Nat):=[(2000000,[4])]
noncomputable def cs:Nat→Ctx:=ctxOf tis modes tg146.1 lv
theorem cs_ok (n:Nat):CtxOk Tryz.prog (cs n):=ctxOf_ok rfl tis_ok tg146.2 n
def sh:AS:=⟨[.agg [.int .i64,.int .i64,.int .i64,.int .i64,.int .i64,.int .i64,.int .i64,.int .i64,.int .i64,.int .i64,.int .i64,.int .i64,.int .i64,.int .i64,.int .i64,.int .i64,.frz (.int .i64)],.c (.int .i64)],[]⟩
def os:OS:=⟨.c (.int .i64),[]⟩
def enc (r:R):Out:=os.enc r
def dec:Out→Option R:=os.dec
noncomputable def b0:Code:=subF [] Tryz.f95
noncomputable def K0 (k:Nat):Kt R:=kTop (cs k) Tryz.f95 dec
noncomputable def f (k:Nat):Y:=fun v=>held (runFn cs k Tryz.f95 (sh.args v) (sh.slots v) dec)
noncomputable def F:Y:=lm f
def d (p0:g24.Y):Y:=fun (v0,v1,v2,v3,v4,v5,v6,v7,v8,v9,v10,v11,v12,v13,v14,v15,v16,v17) =>
bnd (p0 (v0,v1,v2,v3,v4,v5,v6,v7,v8,v9,v10,v11,v12,v13,v14,v15,v16)) fun r=>br (!decide (r = 0) || decide (v17 ≤ 0)) (some 0) (br (!decide (v7 = 0)) (some (wrap .i64 ((wrap .i64 (wrap .i64 (wrap .i64 (min v17 1048576 * 1000) + v7) - 1)).tdiv v7))) none)
theorem d_cn (k0:Pr E g24.A g24.R):∀ v:A,Cn E (d k0.p v) fun i=>d (k0.q i) v:=fun (v0,v1,v2,v3,v4,v5,v6,v7,v8,v9,v10,v11,v12,v13,v14,v15,v16,v17)=>(.bnd (k0.h _) fun _=>(.br .some (.br .some .none)))
theorem f_b (k:Nat):∀ v:A,f k v = d (g24.f k) v:=fun (v0,v1,v2,v3,v4,v5,v6,v7,v8,v9,v10,v11,v12,v13,v14,v15,v16,v17)=>(held_eq _).trans (by kernel_rfl)
theorem F_of (v:A) {r:R} (h:d g24.F v = some r):F v = some r:=join_of (fun L=>f_b (L 0) v) (d_cn (lp g24.f 0) v) h
noncomputable def spec (k:Nat):List AV→List Slot→Option Ans:=specS sh os (f k)
theorem spec_ok (k:Nat):SpecOk Tryz.prog 95 (spec k):=specS_ok cs_ok Tryz.func95 rfl rfl (fun _ _=>held_eq _) k
end g147
noncomputable def tg147:=tg146.cons 95 g147.spec g147.spec_ok
namespace g148 -- plan_Desk_reach
abbrev R:Type:=Int × Int × Int × Bool
abbrev A:Type:=Int × Int × Int × Int × Int × Int × Int × Int × Int × Int × Int × Int × Int × Int × Int × Int × List Int × Int × Int × Int × Int × Int × Int × Int × Int × Int × Int × List (ByteArray × Int) × List (Int × Int × (Int × Int × Int) × Int × Int × Int × Int × Int × Int × Int × Int) × List (List Int) × List (List (Int × Int)) × Int × Int × Int × List (List Int) × Int
abbrev Y:=A→Option R
def lv:List (Nat × List Nat):=[(2000000,[6,7,8]),(2,[2,3,4,7,9])]
noncomputable def cs:Nat→Ctx:=ctxOf tis modes tg147.1 lv
theorem cs_ok (n:Nat):CtxOk Tryz.prog (cs n):=ctxOf_ok rfl tis_ok tg147.2 n
def sh:AS:=⟨[.agg [.int .i64,.int .i64,.int .i64,.int .i64,.int .i64,.int .i64,.int .i64,.int .i64,.int .i64,.int .i64,.int .i64,.int .i64,.int .i64,.int .i64,.int .i64,.int .i64,.frz (.int .i64),.int .i64,.int .i64,.int .i64,.int .i64,.int .i64,.int .i64,.int .i64,.int .i64,.int .i64,.int .i64,.frz y19,.frz y27,.frz y4,.frz y38],.agg [.int .i64,.int .i64,.int .i64,.frz y4],.c (.int .i64)],[]⟩
def os:OS:=⟨.tup [.c (.int .i64),.agg [.int .i64,.int .i64],.c .bool],[]⟩
def enc (r:R):Out:=os.enc r
def dec:Out→Option R:=os.dec
noncomputable def b0:Code:=subF [] Tryz.f90
noncomputable def K0 (k:Nat):Kt R:=kTop (cs k) Tryz.f90 dec
noncomputable def b2:Code:=sub [1,0,1,0,0] b0
noncomputable def K2 ( k:Nat):Kt R:=kAt (cs k) (loopN cs k) [1,0,1,0] b0 (K0 k)
abbrev T0:Type:=Int × Int × Int × Int × Int × Int × Int × Int × Int × Int × Int × Int × Int × Int × Int × Int × Int × Int × List Int × Int × Int × Int × Int × Int × Int × Int × Int × Int × Int × List (ByteArray × Int) × List (Int × Int × (Int × Int × Int) × Int × Int × Int × Int × Int × Int × Int × Int) × List (List Int) × List (List (Int × Int)) × Int × Int × Int × List (List Int) × Int × Int
abbrev Y0:=T0→Option R
noncomputable def s0:T0→St:=fun (v0,v1,v2,v3,v4,v5,v6,v7,v8,v9,v10,v11,v12,v13,v14,v15,v16,v17,v18,v19,v20,v21,v22,v23,v24,v25,v26,v27,v28,v29,v30,v31,v32,v33,v34,v35,v36,v37,v38)=>⟨63,0,[(2,.c (.int .i64 v0)),(3,.c (.ptr 64000000 0)),(4,.c (.ptr 64000001 0)),(7,.c (.ptr 64000002 0)),(9,.c (.int .i64 v1))],[],[(256000000,.gone),(64000000,.box [.int .i64 v2,.int .i64 v3,.int .i64 v4,.int .i64 v5,.int .i64 v6,.int .i64 v7,.int .i64 v8,.int .i64 v9,.int .i64 v10,.int .i64 v11,.int .i64 v12,.int .i64 v13,.int .i64 v14,.int .i64 v15,.int .i64 v16,.int .i64 v17,.frz (.int .i64) v18,.int .i64 v19,.int .i64 v20,.int .i64 v21,.int .i64 v22,.int .i64 v23,.int .i64 v24,.int .i64 v25,.int .i64 v26,.int .i64 v27,.int .i64 v28,.frz y19 v29,.frz y27 v30,.frz y4 v31,.frz y38 v32]),(64000001,.box [.int .i64 v33,.int .i64 v34,.int .i64 v35,.frz y4 v36]),(64000002,.box [.int .i64 v37,.int .i64 v38])]⟩
noncomputable def l0 ( k n:Nat) (v:T0):Option R:=held (loopN cs n b2 (K2 k) (s0 v))
noncomputable def D0 (v:T0):Option R:=lim fun L=>l0 (L 0) (L 1) v
theorem D0_cn (v:T0):Cn late (D0 v) fun L=>l0 (L 0) (L 1) v:=of_lim
noncomputable def d0 (p0:g146.Y) (p1:g147.Y) (p2:Y0):Y0:=fun (v0,v1,v2,v3,v4,v5,v6,v7,v8,v9,v10,v11,v12,v13,v14,v15,v16,v17,v18,v19,v20,v21,v22,v23,v24,v25,v26,v27,v28,v29,v30,v31,v32,v33,v34,v35,v36,v37,v38) =>
br (decide (0 ≤ v0 ∧ v0 < (↑v30.length:Int))) (br (decide (v1 ≤ wrap .i64 (v10 - (rd ty0 v30 v0).2.2.2.1))) (br (decide (0 ≤ v0 ∧ v0 < (↑v32.length:Int))) (br (decide (0 ≤ v1 ∧ v1 < (↑(List.length (rd ((Ty.int .i64).pair (Ty.int .i64)).slice v32 v0)):Int))) (bnd (p0 (v19,v20,v21,v22,v23,v24,v25,v26,v27,v28,v34,v35,(rd ((Ty.int .i64).pair (Ty.int .i64)) (rd ((Ty.int .i64).pair (Ty.int .i64)).slice v32 v0) v1).1,(rd ((Ty.int .i64).pair (Ty.int .i64)) (rd ((Ty.int .i64).pair (Ty.int .i64)).slice v32 v0) v1).2)) fun r=>br (decide (r.2.2.2 = 0) == true) (br (decide (r.2.2.2 = 0) == true) (bnd (p1 (v2,v3,v4,v5,v6,v7,v8,v9,v10,v11,v12,v13,v14,v15,v16,v17,v18,r.2.2.1)) fun r_1=>br (decide (r.2.2.2 = 0) && decide (r_1 ≤ wrap .i64 (v1 - v33))) (some (v1,r.1,r.2.1,true)) (p2 (v0,wrap .i64 (v1 + 1),v2,v3,v4,v5,v6,v7,v8,v9,v10,v11,v12,v13,v14,v15,v16,v17,v18,v19,v20,v21,v22,v23,v24,v25,v26,v27,v28,v29,v30,v31,v32,v33,v34,v35,v36,v37,v38))) (br (!decide (r.2.2.2 = 0) == true) (br (!decide (r.2.2.2 = 0)) (p2 (v0,wrap .i64 (v1 + 1),v2,v3,v4,v5,v6,v7,v8,v9,v10,v11,v12,v13,v14,v15,v16,v17,v18,v19,v20,v21,v22,v23,v24,v25,v26,v27,v28,v29,v30,v31,v32,v33,v34,v35,v36,v37,v38)) none) none)) (br (decide (r.2.2.2 = 0) == true) none (br (!decide (r.2.2.2 = 0) == true) (br (!decide (r.2.2.2 = 0)) (p2 (v0,wrap .i64 (v1 + 1),v2,v3,v4,v5,v6,v7,v8,v9,v10,v11,v12,v13,v14,v15,v16,v17,v18,v19,v20,v21,v22,v23,v24,v25,v26,v27,v28,v29,v30,v31,v32,v33,v34,v35,v36,v37,v38)) none) none))) none) none) (some (0,0,0,false))) none
theorem d0_cn (k0:Pr E g146.A g146.R) (k1:Pr E g147.A g147.R) (k2:Pr E T0 R):∀ v:T0,Cn E (d0 k0.p k1.p k2.p v) fun i=>d0 (k0.q i) (k1.q i) (k2.q i) v:=fun (v0,v1,v2,v3,v4,v5,v6,v7,v8,v9,v10,v11,v12,v13,v14,v15,v16,v17,v18,v19,v20,v21,v22,v23,v24,v25,v26,v27,v28,v29,v30,v31,v32,v33,v34,v35,v36,v37,v38)=>(.br (.br (.br (.br (.bnd (k0.h _) fun _=>(.br (.br (.bnd (k1.h _) fun _=>(.br .some (k2.h _))) (.br (.br (k2.h _) .none) .none)) (.br .none (.br (.br (k2.h _) .none) .none)))) .none) .none) .some) .none)
theorem l0_b ( k m1:Nat):∀ v:T0,run (cs m1) (loopN cs m1) b2 (kLoop cs m1 b2 (K2 k)) (s0 v) = d0 (g146.f m1) (g147.f m1) (l0 k m1) v:=fun (v0,v1,v2,v3,v4,v5,v6,v7,v8,v9,v10,v11,v12,v13,v14,v15,v16,v17,v18,v19,v20,v21,v22,v23,v24,v25,v26,v27,v28,v29,v30,v31,v32,v33,v34,v35,v36,v37,v38)=>by kernel_rfl
theorem D0_of (v:T0) {r:R} (h:d0 g146.F g147.F D0 v = some r):D0 v = some r:=loop_of 1 (fun L n hn=>by show l0 (L 0) (L 1) v = _; rw [hn]; exact (held_eq _).trans ((loopN_succ _ _ _ _ _).trans (l0_b (L 0) n v))) (d0_cn (lp g146.f 1) (lp g147.f 1) (.mk fun v=>(D0_cn v).re [0,1]) v) h
noncomputable def f (k:Nat):Y:=fun v=>held (runFn cs k Tryz.f90 (sh.args v) (sh.slots v) dec)
noncomputable def F:Y:=lm f
def d (p0:Y0):Y:=fun (v0,v1,v2,v3,v4,v5,v6,v7,v8,v9,v10,v11,v12,v13,v14,v15,v16,v17,v18,v19,v20,v21,v22,v23,v24,v25,v26,v27,v28,v29,v30,v31,v32,v33,v34,v35) =>
p0 (v35,v31,v0,v1,v2,v3,v4,v5,v6,v7,v8,v9,v10,v11,v12,v13,v14,v15,v16,v17,v18,v19,v20,v21,v22,v23,v24,v25,v26,v27,v28,v29,v30,v31,v32,v33,v34,0,0)
theorem d_cn (k0:Pr E T0 R):∀ v:A,Cn E (d k0.p v) fun i=>d (k0.q i) v:=fun (v0,v1,v2,v3,v4,v5,v6,v7,v8,v9,v10,v11,v12,v13,v14,v15,v16,v17,v18,v19,v20,v21,v22,v23,v24,v25,v26,v27,v28,v29,v30,v31,v32,v33,v34,v35)=>(k0.h _)
theorem f_b (k:Nat):∀ v:A,f k v = d (l0 k k) v:=fun (v0,v1,v2,v3,v4,v5,v6,v7,v8,v9,v10,v11,v12,v13,v14,v15,v16,v17,v18,v19,v20,v21,v22,v23,v24,v25,v26,v27,v28,v29,v30,v31,v32,v33,v34,v35)=>(held_eq _).trans (by kernel_rfl)
theorem F_of (v:A) {r:R} (h:d D0 v = some r):F v = some r:=join_of (fun L=>f_b (L 0) v) (d_cn (.mk fun v=>(D0_cn v).re [0,0]) v) h
noncomputable def spec (k:Nat):List AV→List Slot→Option Ans:=specS sh os (f k)
theorem spec_ok (k:Nat):SpecOk Tryz.prog 90 (spec k):=specS_ok cs_ok Tryz.func90 rfl rfl (fun _ _=>held_eq _) k
end g148
noncomputable def tg148:=tg147.cons 90 g148.spec g148.spec_ok
namespace g149 -- slew_Track
abbrev R:Type:=Int × Int × Int
abbrev A:Type:=Int × Int × Int × Int × Int × Int × Int × Int × Int × Int × Int × Int × Int × Int × Int × Int × Int × Int × Int × Int × Int × Int × Int × Int × Int × Int × List Int × Int × Int × Int × Int × Int × Int × Int
abbrev Y:=A→Option R
def lv:List (Nat × List Nat):=[(2000000,[12,13]),(10,[5,6,7,8,9,12,16])]
noncomputable def cs:Nat→Ctx:=ctxOf tis modes tg148.1 lv
theorem cs_ok (n:Nat):CtxOk Tryz.prog (cs n):=ctxOf_ok rfl tis_ok tg148.2 n
def sh:AS:=⟨[.agg [.int .i64,.int .i64,.int .i64,.int .i64,.int .i64,.int .i64,.int .i64,.int .i64,.int .i64,.int .i64],.agg [.int .i64,.int .i64,.int .i64,.int .i64,.int .i64,.int .i64,.int .i64,.int .i64,.int .i64,.int .i64,.int .i64,.int .i64,.int .i64,.int .i64,.int .i64,.int .i64,.frz (.int .i64)],.agg [.int .i64,.int .i64],.agg [.int .i64,.int .i64,.int .i64],.c (.int .i64),.c (.int .i64)],[]⟩
def os:OS:=⟨.tup [.agg [.int .i64,.int .i64],.c (.int .i64)],[]⟩
def enc (r:R):Out:=os.enc r
def dec:Out→Option R:=os.dec
noncomputable def b0:Code:=subF [] Tryz.f91
noncomputable def K0 (k:Nat):Kt R:=kTop (cs k) Tryz.f91 dec
noncomputable def b10:Code:=sub [1,1,1,1,0,1,0,0] b0
noncomputable def K10 ( k:Nat):Kt R:=kAt (cs k) (loopN cs k) [1,1,1,1,0,1,0] b0 (K0 k)
abbrev T0:Type:=Int × Int × Int × Int × Int × Int × Int × Int × Int × Int × Int × Int × Int × Int × Int × Int × Int × Int × Int × Int × Int × Int × Int × Int × Int × Int × Int × Int × List Int × Int × Int × Int × Int × Int × Int × Int
abbrev Y0:=T0→Option R
noncomputable def s0:T0→St:=fun (v0,v1,v2,v3,v4,v5,v6,v7,v8,v9,v10,v11,v12,v13,v14,v15,v16,v17,v18,v19,v20,v21,v22,v23,v24,v25,v26,v27,v28,v29,v30,v31,v32,v33,v34,v35)=>⟨112,0,[(5,.c (.int .i64 v0)),(6,.c (.ptr 64000000 0)),(7,.c (.ptr 64000001 0)),(8,.c (.ptr 64000002 0)),(9,.c (.ptr 64000003 0)),(12,.c (.ptr 64000004 0)),(16,.c (.int .i64 v1))],[],[(256000000,.gone),(64000000,.box [.int .i64 v2,.int .i64 v3,.int .i64 v4,.int .i64 v5,.int .i64 v6,.int .i64 v7,.int .i64 v8,.int .i64 v9,.int .i64 v10,.int .i64 v11]),(64000001,.box [.int .i64 v12,.int .i64 v13,.int .i64 v14,.int .i64 v15,.int .i64 v16,.int .i64 v17,.int .i64 v18,.int .i64 v19,.int .i64 v20,.int .i64 v21,.int .i64 v22,.int .i64 v23,.int .i64 v24,.int .i64 v25,.int .i64 v26,.int .i64 v27,.frz (.int .i64) v28]),(64000002,.box [.int .i64 v29,.int .i64 v30]),(64000003,.box [.int .i64 v31,.int .i64 v32,.int .i64 v33]),(64000004,.box [.int .i64 v34,.int .i64 v35])]⟩
noncomputable def l0 ( k n:Nat) (v:T0):Option R:=held (loopN cs n b10 (K10 k) (s0 v))
noncomputable def D0 (v:T0):Option R:=lim fun L=>l0 (L 0) (L 1) v
theorem D0_cn (v:T0):Cn late (D0 v) fun L=>l0 (L 0) (L 1) v:=of_lim
noncomputable def d0 (p0:g134.Y) (p1:g146.Y) (p2:g141.Y) (p3:Y0):Y0:=fun (v0,v1,v2,v3,v4,v5,v6,v7,v8,v9,v10,v11,v12,v13,v14,v15,v16,v17,v18,v19,v20,v21,v22,v23,v24,v25,v26,v27,v28,v29,v30,v31,v32,v33,v34,v35) =>
br (decide (v1 ≤ v0)) (bnd (p0 (v12,v13,v14,v15,v16,v17,v18,v19,v20,v21,v22,v23,v24,v25,v26,v27,v28,v31,v32,v33,v1)) fun r=>br (!decide (r.2.2 = 0)) (some (0,0,r.2.2)) (bnd (p1 (v2,v3,v4,v5,v6,v7,v8,v9,v10,v11,v29,v30,r.1,r.2.1)) fun r=>br (!decide (r.2.2.2 = 0)) (some (0,0,r.2.2.2)) (bnd (p2 (wrap .i64 (r.1 - v29))) fun r_1=>br (decide (1073741824 < r_1) == false) (bnd (p2 (wrap .i64 (r.2.1 - v30))) fun r_2=>br (decide (1073741824 < r_2)) (some (0,0,4)) (p3 (v0,wrap .i64 (v1 + 1),v2,v3,v4,v5,v6,v7,v8,v9,v10,v11,v12,v13,v14,v15,v16,v17,v18,v19,v20,v21,v22,v23,v24,v25,v26,v27,v28,r.1,r.2.1,v31,v32,v33,v34,v35))) (some (0,0,4))))) (some (v29,v30,0))
theorem d0_cn (k0:Pr E g134.A g134.R) (k1:Pr E g146.A g146.R) (k2:Pr E g141.A g141.R) (k3:Pr E T0 R):∀ v:T0,Cn E (d0 k0.p k1.p k2.p k3.p v) fun i=>d0 (k0.q i) (k1.q i) (k2.q i) (k3.q i) v:=fun (v0,v1,v2,v3,v4,v5,v6,v7,v8,v9,v10,v11,v12,v13,v14,v15,v16,v17,v18,v19,v20,v21,v22,v23,v24,v25,v26,v27,v28,v29,v30,v31,v32,v33,v34,v35)=>(.br (.bnd (k0.h _) fun _=>(.br .some (.bnd (k1.h _) fun _=>(.br .some (.bnd (k2.h _) fun _=>(.br (.bnd (k2.h _) fun _=>(.br .some (k3.h _))) .some)))))) .some)
theorem l0_b ( k m1:Nat):∀ v:T0,run (cs m1) (loopN cs m1) b10 (kLoop cs m1 b10 (K10 k)) (s0 v) = d0 (g134.f m1) (g146.f m1) (g141.f m1) (l0 k m1) v:=fun (v0,v1,v2,v3,v4,v5,v6,v7,v8,v9,v10,v11,v12,v13,v14,v15,v16,v17,v18,v19,v20,v21,v22,v23,v24,v25,v26,v27,v28,v29,v30,v31,v32,v33,v34,v35)=>by kernel_rfl
theorem D0_of (v:T0) {r:R} (h:d0 g134.F g146.F g141.F D0 v = some r):D0 v = some r:=loop_of 1 (fun L n hn=>by show l0 (L 0) (L 1) v = _; rw [hn]; exact (held_eq _).trans ((loopN_succ _ _ _ _ _).trans (l0_b (L 0) n v))) (d0_cn (lp g134.f 1) (lp g146.f 1) (lp g141.f 1) (.mk fun v=>(D0_cn v).re [0,1]) v) h
noncomputable def f (k:Nat):Y:=fun v=>held (runFn cs k Tryz.f91 (sh.args v) (sh.slots v) dec)
noncomputable def F:Y:=lm f
noncomputable def d (p0:g27.Y) (p1:g24.Y) (p2:g26.Y) (p3:Y0):Y:=fun (v0,v1,v2,v3,v4,v5,v6,v7,v8,v9,v10,v11,v12,v13,v14,v15,v16,v17,v18,v19,v20,v21,v22,v23,v24,v25,v26,v27,v28,v29,v30,v31,v32,v33) =>
bnd (p0 (v0,v1,v2,v3,v4,v5,v6,v7,v8,v9)) fun r=>br (!decide (r = 0)) (some (0,0,r)) (bnd (p1 (v10,v11,v12,v13,v14,v15,v16,v17,v18,v19,v20,v21,v22,v23,v24,v25,v26)) fun r=>br (!decide (r = 0)) (some (0,0,r)) (bnd (p2 (v0,v1,v2,v3,v27)) fun r=>br ((!r) == false) (bnd (p2 (v4,v5,v6,v7,v28)) fun r=>br (!r || decide (v32 < 0) || decide (v33 < v32) || decide (v18 < v33)) (some (0,0,4)) (p3 (v33,wrap .i64 (v32 + 1),v0,v1,v2,v3,v4,v5,v6,v7,v8,v9,v10,v11,v12,v13,v14,v15,v16,v17,v18,v19,v20,v21,v22,v23,v24,v25,v26,v27,v28,v29,v30,v31,0,0))) (some (0,0,4))))
theorem d_cn (k0:Pr E g27.A g27.R) (k1:Pr E g24.A g24.R) (k2:Pr E g26.A g26.R) (k3:Pr E T0 R):∀ v:A,Cn E (d k0.p k1.p k2.p k3.p v) fun i=>d (k0.q i) (k1.q i) (k2.q i) (k3.q i) v:=fun (v0,v1,v2,v3,v4,v5,v6,v7,v8,v9,v10,v11,v12,v13,v14,v15,v16,v17,v18,v19,v20,v21,v22,v23,v24,v25,v26,v27,v28,v29,v30,v31,v32,v33)=>(.bnd (k0.h _) fun _=>(.br .some (.bnd (k1.h _) fun _=>(.br .some (.bnd (k2.h _) fun _=>(.br (.bnd (k2.h _) fun _=>(.br .some (k3.h _))) .some))))))
theorem f_b (k:Nat):∀ v:A,f k v = d (g27.f k) (g24.f k) (g26.f k) (l0 k k) v:=fun (v0,v1,v2,v3,v4,v5,v6,v7,v8,v9,v10,v11,v12,v13,v14,v15,v16,v17,v18,v19,v20,v21,v22,v23,v24,v25,v26,v27,v28,v29,v30,v31,v32,v33)=>(held_eq _).trans (by kernel_rfl)
theorem F_of (v:A) {r:R} (h:d g27.F g24.F g26.F D0 v = some r):F v = some r:=join_of (fun L=>f_b (L 0) v) (d_cn (lp g27.f 0) (lp g24.f 0) (lp g26.f 0) (.mk fun v=>(D0_cn v).re [0,0]) v) h
noncomputable def spec (k:Nat):List AV→List Slot→Option Ans:=specS sh os (f k)
theorem spec_ok (k:Nat):SpecOk Tryz.prog 91 (spec k):=specS_ok cs_ok Tryz.func91 rfl rfl (fun _ _=>held_eq _) k
end g149
noncomputable def tg149:=tg148.cons 91 g149.spec g149.spec_ok
namespace g150 -- plan_Desk_look
abbrev R:Type:=Int × Int × Int × Int × Int × Int × Int
abbrev A:Type:=Int × Int × Int × Int × Int × Int × Int × Int × Int × Int × Int × Int × Int × Int × Int × Int × List Int × Int × Int × Int × Int × Int × Int × Int × Int × Int × Int × List (ByteArray × Int) × List (Int × Int × (Int × Int × Int) × Int × Int × Int × Int × Int × Int × Int × Int) × List (List Int) × List (List (Int × Int)) × Int × Int × Int × List (List Int) × Int
abbrev Y:=A→Option R
def lv:List (Nat × List Nat):=[(2000000,[6,7]),(1000014,[2,3,6,8,10,11,13]),(15,[2,3,6,8,10,11,13,15])]
noncomputable def cs:Nat→Ctx:=ctxOf tis modes tg149.1 lv
theorem cs_ok (n:Nat):CtxOk Tryz.prog (cs n):=ctxOf_ok rfl tis_ok tg149.2 n
def sh:AS:=⟨[.agg [.int .i64,.int .i64,.int .i64,.int .i64,.int .i64,.int .i64,.int .i64,.int .i64,.int .i64,.int .i64,.int .i64,.int .i64,.int .i64,.int .i64,.int .i64,.int .i64,.frz (.int .i64),.int .i64,.int .i64,.int .i64,.int .i64,.int .i64,.int .i64,.int .i64,.int .i64,.int .i64,.int .i64,.frz y19,.frz y27,.frz y4,.frz y38],.agg [.int .i64,.int .i64,.int .i64,.frz y4],.c (.int .i64)],[]⟩
def os:OS:=⟨.tup [.agg [.int .i64,.int .i64,.int .i64,.int .i64,.int .i64,.int .i64],.c (.int .i64)],[]⟩
def enc (r:R):Out:=os.enc r
def dec:Out→Option R:=os.dec
noncomputable def b0:Code:=subF [] Tryz.f63
noncomputable def K0 (k:Nat):Kt R:=kTop (cs k) Tryz.f63 dec
noncomputable def c1000014:Code:=sub [1,1,1,1,1,1,1] b0
noncomputable def J1000014 ( k:Nat):Kt R:=kAt (cs k) (loopN cs k) [1,1,1,1,1,1,1] b0 (K0 k)
noncomputable def b15:Code:=sub [1,1,1,1,1,1,1,0,1,0,0] b0
noncomputable def K15 ( k:Nat):Kt R:=kAt (cs k) (loopN cs k) [1,1,1,1,1,1,1,0,1,0] b0 (K0 k)
abbrev T0:Type:=Int × Int × Int × Int × Int × Int × Int × Int × Int × Int × Int × Int × Int × Int × Int × Int × Int × Int × List Int × Int × Int × Int × Int × Int × Int × Int × Int × Int × Int × List (ByteArray × Int) × List (Int × Int × (Int × Int × Int) × Int × Int × Int × Int × Int × Int × Int × Int) × List (List Int) × List (List (Int × Int)) × Int × Int × Int × Int × Int × Int × Int × Int × Int × Int × Int × Int × Int × Int × Int × Int × Int × Int × Int × Int × Int × Int × Int × Int × Int × Int × Int
abbrev Y0:=T0→Option R
noncomputable def s0:T0→St:=fun (v0,v1,v2,v3,v4,v5,v6,v7,v8,v9,v10,v11,v12,v13,v14,v15,v16,v17,v18,v19,v20,v21,v22,v23,v24,v25,v26,v27,v28,v29,v30,v31,v32,v33,v34,v35,v36,v37,v38,v39,v40,v41,v42,v43,v44,v45,v46,v47,v48,v49,v50,v51,v52,v53,v54,v55,v56,v57,v58,v59)=>⟨114,0,[(2,.c (.int .i64 v0)),(3,.c (.ptr 64000000 0)),(6,.c (.ptr 64000001 0)),(8,.c (.ptr 64000002 0)),(10,.c (.int .i64 v1)),(11,.c (.ptr 64000003 0)),(13,.c (.ptr 64000004 0))],[],[(256000000,.gone),(64000000,.box [.int .i64 v2,.int .i64 v3,.int .i64 v4,.int .i64 v5,.int .i64 v6,.int .i64 v7,.int .i64 v8,.int .i64 v9,.int .i64 v10,.int .i64 v11,.int .i64 v12,.int .i64 v13,.int .i64 v14,.int .i64 v15,.int .i64 v16,.int .i64 v17,.frz (.int .i64) v18,.int .i64 v19,.int .i64 v20,.int .i64 v21,.int .i64 v22,.int .i64 v23,.int .i64 v24,.int .i64 v25,.int .i64 v26,.int .i64 v27,.int .i64 v28,.frz y19 v29,.frz y27 v30,.frz y4 v31,.frz y38 v32]),(64000001,.box [.int .i64 v33,.int .i64 v34,.int .i64 v35,.int .i64 v36,.int .i64 v37,.int .i64 v38]),(64000002,.box [.int .i64 v39,.int .i64 v40,.int .i64 v41,.int .i64 v42,.int .i64 v43,.int .i64 v44,.int .i64 v45,.int .i64 v46,.int .i64 v47,.int .i64 v48,.int .i64 v49,.int .i64 v50,.int .i64 v51]),(64000003,.box [.int .i64 v52,.int .i64 v53]),(64000004,.box [.int .i64 v54,.int .i64 v55,.int .i64 v56,.int .i64 v57,.int .i64 v58,.int .i64 v59])]⟩
noncomputable def l0 ( k:Nat) (v:T0):Option R:=held (run (cs k) (loopN cs k) c1000014 (J1000014 k) (s0 v))
noncomputable def D0 (v:T0):Option R:=lim fun L=>l0 (L 0) v
theorem D0_cn (v:T0):Cn late (D0 v) fun L=>l0 (L 0) v:=of_lim
abbrev T1:Type:=Int × Int × Int × Int × Int × Int × Int × Int × Int × Int × Int × Int × Int × Int × Int × Int × Int × Int × Int × List Int × Int × Int × Int × Int × Int × Int × Int × Int × Int × Int × List (ByteArray × Int) × List (Int × Int × (Int × Int × Int) × Int × Int × Int × Int × Int × Int × Int × Int) × List (List Int) × List (List (Int × Int)) × Int × Int × Int × Int × Int × Int × Int × Int × Int × Int × Int × Int × Int × Int × Int × Int × Int × Int × Int × Int × Int × Int × Int × Int × Int × Int × Int
abbrev Y1:=T1→Option R
noncomputable def s1:T1→St:=fun (v0,v1,v2,v3,v4,v5,v6,v7,v8,v9,v10,v11,v12,v13,v14,v15,v16,v17,v18,v19,v20,v21,v22,v23,v24,v25,v26,v27,v28,v29,v30,v31,v32,v33,v34,v35,v36,v37,v38,v39,v40,v41,v42,v43,v44,v45,v46,v47,v48,v49,v50,v51,v52,v53,v54,v55,v56,v57,v58,v59,v60)=>⟨114,0,[(2,.c (.int .i64 v0)),(3,.c (.ptr 64000000 0)),(6,.c (.ptr 64000001 0)),(8,.c (.ptr 64000002 0)),(10,.c (.int .i64 v1)),(11,.c (.ptr 64000003 0)),(13,.c (.ptr 64000004 0)),(15,.c (.int .i64 v2))],[],[(256000000,.gone),(64000000,.box [.int .i64 v3,.int .i64 v4,.int .i64 v5,.int .i64 v6,.int .i64 v7,.int .i64 v8,.int .i64 v9,.int .i64 v10,.int .i64 v11,.int .i64 v12,.int .i64 v13,.int .i64 v14,.int .i64 v15,.int .i64 v16,.int .i64 v17,.int .i64 v18,.frz (.int .i64) v19,.int .i64 v20,.int .i64 v21,.int .i64 v22,.int .i64 v23,.int .i64 v24,.int .i64 v25,.int .i64 v26,.int .i64 v27,.int .i64 v28,.int .i64 v29,.frz y19 v30,.frz y27 v31,.frz y4 v32,.frz y38 v33]),(64000001,.box [.int .i64 v34,.int .i64 v35,.int .i64 v36,.int .i64 v37,.int .i64 v38,.int .i64 v39]),(64000002,.box [.int .i64 v40,.int .i64 v41,.int .i64 v42,.int .i64 v43,.int .i64 v44,.int .i64 v45,.int .i64 v46,.int .i64 v47,.int .i64 v48,.int .i64 v49,.int .i64 v50,.int .i64 v51,.int .i64 v52]),(64000003,.box [.int .i64 v53,.int .i64 v54]),(64000004,.box [.int .i64 v55,.int .i64 v56,.int .i64 v57,.int .i64 v58,.int .i64 v59,.int .i64 v60])]⟩
noncomputable def l1 ( k n:Nat) (v:T1):Option R:=held (loopN cs n b15 (K15 k) (s1 v))
noncomputable def D1 (v:T1):Option R:=lim fun L=>l1 (L 0) (L 1) v
theorem D1_cn (v:T1):Cn late (D1 v) fun L=>l1 (L 0) (L 1) v:=of_lim
def d0 (p0:Y1):Y0:=fun (v0,v1,v2,v3,v4,v5,v6,v7,v8,v9,v10,v11,v12,v13,v14,v15,v16,v17,v18,v19,v20,v21,v22,v23,v24,v25,v26,v27,v28,v29,v30,v31,v32,v33,v34,v35,v36,v37,v38,v39,v40,v41,v42,v43,v44,v45,v46,v47,v48,v49,v50,v51,v52,v53,v54,v55,v56,v57,v58,v59) =>
p0 (v0,v1,v1,v2,v3,v4,v5,v6,v7,v8,v9,v10,v11,v12,v13,v14,v15,v16,v17,v18,v19,v20,v21,v22,v23,v24,v25,v26,v27,v28,v29,v30,v31,v32,v33,v34,v35,v36,v37,v38,v39,v40,v41,v42,v43,v44,v45,v46,v47,v48,v49,v50,v51,v52,v53,v54,v55,v56,v57,v58,v59)
theorem d0_cn (k0:Pr E T1 R):∀ v:T0,Cn E (d0 k0.p v) fun i=>d0 (k0.q i) v:=fun (v0,v1,v2,v3,v4,v5,v6,v7,v8,v9,v10,v11,v12,v13,v14,v15,v16,v17,v18,v19,v20,v21,v22,v23,v24,v25,v26,v27,v28,v29,v30,v31,v32,v33,v34,v35,v36,v37,v38,v39,v40,v41,v42,v43,v44,v45,v46,v47,v48,v49,v50,v51,v52,v53,v54,v55,v56,v57,v58,v59)=>(k0.h _)
theorem l0_b ( k:Nat):∀ v:T0,run (cs k) (loopN cs k) c1000014 (J1000014 k) (s0 v) = d0 (l1 k k) v:=fun (v0,v1,v2,v3,v4,v5,v6,v7,v8,v9,v10,v11,v12,v13,v14,v15,v16,v17,v18,v19,v20,v21,v22,v23,v24,v25,v26,v27,v28,v29,v30,v31,v32,v33,v34,v35,v36,v37,v38,v39,v40,v41,v42,v43,v44,v45,v46,v47,v48,v49,v50,v51,v52,v53,v54,v55,v56,v57,v58,v59)=>by kernel_rfl
theorem D0_of (v:T0) {r:R} (h:d0 D1 v = some r):D0 v = some r:=join_of (fun L=>(held_eq _).trans (l0_b (L 0) v)) (d0_cn (.mk fun v=>(D1_cn v).re [0,0]) v) h
noncomputable def d1 (p0:Y1) (p1:g149.Y):Y1:=fun (v0,v1,v2,v3,v4,v5,v6,v7,v8,v9,v10,v11,v12,v13,v14,v15,v16,v17,v18,v19,v20,v21,v22,v23,v24,v25,v26,v27,v28,v29,v30,v31,v32,v33,v34,v35,v36,v37,v38,v39,v40,v41,v42,v43,v44,v45,v46,v47,v48,v49,v50,v51,v52,v53,v54,v55,v56,v57,v58,v59,v60) =>
br (decide (v2 < wrap .i64 (v1 + v45))) (br (decide (0 ≤ v0 ∧ v0 < (↑v32.length:Int))) (br (decide (0 ≤ v2 ∧ v2 < (↑(List.length (rd (Ty.int .i64).slice v32 v0)):Int))) (br (!decide (rd (Ty.int .i64) (rd (Ty.int .i64).slice v32 v0) v2 = 0)) (some (v55,v56,v57,v58,v59,v60,5)) (p0 (v0,v1,wrap .i64 (v2 + 1),v3,v4,v5,v6,v7,v8,v9,v10,v11,v12,v13,v14,v15,v16,v17,v18,v19,v20,v21,v22,v23,v24,v25,v26,v27,v28,v29,v30,v31,v32,v33,v34,v35,v36,v37,v38,v39,v40,v41,v42,v43,v44,v45,v46,v47,v48,v49,v50,v51,v52,v53,v54,v55,v56,v57,v58,v59,v60))) none) none) (bnd (p1 (v20,v21,v22,v23,v24,v25,v26,v27,v28,v29,v3,v4,v5,v6,v7,v8,v9,v10,v11,v12,v13,v14,v15,v16,v17,v18,v19,v53,v54,v42,v43,v44,v1,wrap .i64 (v1 + v45))) fun r=>br (!decide (r.2.2 = 0)) (some (v55,v56,v57,v58,v59,v60,6)) (some (v55,v56,v57,v58,r.1,r.2.1,0)))
theorem d1_cn (k0:Pr E T1 R) (k1:Pr E g149.A g149.R):∀ v:T1,Cn E (d1 k0.p k1.p v) fun i=>d1 (k0.q i) (k1.q i) v:=fun (v0,v1,v2,v3,v4,v5,v6,v7,v8,v9,v10,v11,v12,v13,v14,v15,v16,v17,v18,v19,v20,v21,v22,v23,v24,v25,v26,v27,v28,v29,v30,v31,v32,v33,v34,v35,v36,v37,v38,v39,v40,v41,v42,v43,v44,v45,v46,v47,v48,v49,v50,v51,v52,v53,v54,v55,v56,v57,v58,v59,v60)=>(.br (.br (.br (.br .some (k0.h _)) .none) .none) (.bnd (k1.h _) fun _=>(.br .some .some)))
theorem l1_b ( k m1:Nat):∀ v:T1,run (cs m1) (loopN cs m1) b15 (kLoop cs m1 b15 (K15 k)) (s1 v) = d1 (l1 k m1) (g149.f k) v:=fun (v0,v1,v2,v3,v4,v5,v6,v7,v8,v9,v10,v11,v12,v13,v14,v15,v16,v17,v18,v19,v20,v21,v22,v23,v24,v25,v26,v27,v28,v29,v30,v31,v32,v33,v34,v35,v36,v37,v38,v39,v40,v41,v42,v43,v44,v45,v46,v47,v48,v49,v50,v51,v52,v53,v54,v55,v56,v57,v58,v59,v60)=>by kernel_rfl
theorem D1_of (v:T1) {r:R} (h:d1 D1 g149.F v = some r):D1 v = some r:=loop_of 1 (fun L n hn=>by show l1 (L 0) (L 1) v = _; rw [hn]; exact (held_eq _).trans ((loopN_succ _ _ _ _ _).trans (l1_b (L 0) n v))) (d1_cn (.mk fun v=>(D1_cn v).re [0,1]) (lp g149.f 0) v) h
noncomputable def f (k:Nat):Y:=fun v=>held (runFn cs k Tryz.f63 (sh.args v) (sh.slots v) dec)
noncomputable def F:Y:=lm f
noncomputable def d (p0:g148.Y) (p1:Y0):Y:=fun (v0,v1,v2,v3,v4,v5,v6,v7,v8,v9,v10,v11,v12,v13,v14,v15,v16,v17,v18,v19,v20,v21,v22,v23,v24,v25,v26,v27,v28,v29,v30,v31,v32,v33,v34,v35) =>
br (decide (0 ≤ v35 ∧ v35 < (↑v28.length:Int))) (br (decide (0 ≤ v35 ∧ v35 < (↑v34.length:Int))) (br (decide ((rd ty0 v28 v35).2.2.2.2.1 ≤ (↑(List.length (rd (Ty.int .i64).slice v34 v35)):Int))) (some (0,0,0,0,0,0,1)) (bnd (p0 (v0,v1,v2,v3,v4,v5,v6,v7,v8,v9,v10,v11,v12,v13,v14,v15,v16,v17,v18,v19,v20,v21,v22,v23,v24,v25,v26,v27,v28,v29,v30,v31,v32,v33,v34,v35)) fun r=>br (!r.2.2.2) (some (0,0,0,0,0,0,2)) (br (decide (0 < (↑(List.length (rd (Ty.int .i64).slice v34 v35)):Int))) (br (decide (0 ≤ wrap .i64 ((↑(List.length (rd (Ty.int .i64).slice v34 v35)):Int) - 1) ∧ wrap .i64 ((↑(List.length (rd (Ty.int .i64).slice v34 v35)):Int) - 1) < (↑(List.length (rd (Ty.int .i64).slice v34 v35)):Int))) (br (decide (wrap .i64 (r.1 - rd (Ty.int .i64) (rd (Ty.int .i64).slice v34 v35) (wrap .i64 ((↑(List.length (rd (Ty.int .i64).slice v34 v35)):Int) - 1))) < (rd ty0 v28 v35).2.2.2.2.2.1)) (some (v35,r.1,r.2.1,r.2.2.1,0,0,3)) (br (decide ((rd ty0 v28 v35).2.2.2.2.2.2.1 < wrap .i64 (r.1 - rd (Ty.int .i64) (rd (Ty.int .i64).slice v34 v35) (wrap .i64 ((↑(List.length (rd (Ty.int .i64).slice v34 v35)):Int) - 1))))) (some (v35,r.1,r.2.1,r.2.2.1,0,0,4)) (p1 (v35,r.1,v0,v1,v2,v3,v4,v5,v6,v7,v8,v9,v10,v11,v12,v13,v14,v15,v16,v17,v18,v19,v20,v21,v22,v23,v24,v25,v26,v27,v28,v29,v30,0,0,0,0,0,0,(rd ty0 v28 v35).1,(rd ty0 v28 v35).2.1,(rd ty0 v28 v35).2.2.1.1,(rd ty0 v28 v35).2.2.1.2.1,(rd ty0 v28 v35).2.2.1.2.2,(rd ty0 v28 v35).2.2.2.1,(rd ty0 v28 v35).2.2.2.2.1,(rd ty0 v28 v35).2.2.2.2.2.1,(rd ty0 v28 v35).2.2.2.2.2.2.1,(rd ty0 v28 v35).2.2.2.2.2.2.2.1,(rd ty0 v28 v35).2.2.2.2.2.2.2.2.1,(rd ty0 v28 v35).2.2.2.2.2.2.2.2.2.1,(rd ty0 v28 v35).2.2.2.2.2.2.2.2.2.2,r.2.1,r.2.2.1,v35,r.1,r.2.1,r.2.2.1,0,0)))) none) (p1 (v35,r.1,v0,v1,v2,v3,v4,v5,v6,v7,v8,v9,v10,v11,v12,v13,v14,v15,v16,v17,v18,v19,v20,v21,v22,v23,v24,v25,v26,v27,v28,v29,v30,0,0,0,0,0,0,(rd ty0 v28 v35).1,(rd ty0 v28 v35).2.1,(rd ty0 v28 v35).2.2.1.1,(rd ty0 v28 v35).2.2.1.2.1,(rd ty0 v28 v35).2.2.1.2.2,(rd ty0 v28 v35).2.2.2.1,(rd ty0 v28 v35).2.2.2.2.1,(rd ty0 v28 v35).2.2.2.2.2.1,(rd ty0 v28 v35).2.2.2.2.2.2.1,(rd ty0 v28 v35).2.2.2.2.2.2.2.1,(rd ty0 v28 v35).2.2.2.2.2.2.2.2.1,(rd ty0 v28 v35).2.2.2.2.2.2.2.2.2.1,(rd ty0 v28 v35).2.2.2.2.2.2.2.2.2.2,r.2.1,r.2.2.1,v35,r.1,r.2.1,r.2.2.1,0,0))))) none) none
theorem d_cn (k0:Pr E g148.A g148.R) (k1:Pr E T0 R):∀ v:A,Cn E (d k0.p k1.p v) fun i=>d (k0.q i) (k1.q i) v:=fun (v0,v1,v2,v3,v4,v5,v6,v7,v8,v9,v10,v11,v12,v13,v14,v15,v16,v17,v18,v19,v20,v21,v22,v23,v24,v25,v26,v27,v28,v29,v30,v31,v32,v33,v34,v35)=>(.br (.br (.br .some (.bnd (k0.h _) fun _=>(.br .some (.br (.br (.br .some (.br .some (k1.h _))) .none) (k1.h _))))) .none) .none)
theorem f_b (k:Nat):∀ v:A,f k v = d (g148.f k) (l0 k) v:=fun (v0,v1,v2,v3,v4,v5,v6,v7,v8,v9,v10,v11,v12,v13,v14,v15,v16,v17,v18,v19,v20,v21,v22,v23,v24,v25,v26,v27,v28,v29,v30,v31,v32,v33,v34,v35)=>(held_eq _).trans (by kernel_rfl)
theorem F_of (v:A) {r:R} (h:d g148.F D0 v = some r):F v = some r:=join_of (fun L=>f_b (L 0) v) (d_cn (lp g148.f 0) (.mk fun v=>(D0_cn v).re [0]) v) h
noncomputable def spec (k:Nat):List AV→List Slot→Option Ans:=specS sh os (f k)
theorem spec_ok (k:Nat):SpecOk Tryz.prog 63 (spec k):=specS_ok cs_ok Tryz.func63 rfl rfl (fun _ _=>held_eq _) k
end g150
noncomputable def tg150:=tg149.cons 63 g150.spec g150.spec_ok
namespace g151 -- plan_queue_Push
abbrev R:Type:=Int × Int × Int × Int × Int × Int × Int × Int × Int × Int × Int × Int × Int × Int × Int × Int × Int × Int × Int × Int × Int × Int × Int × Int × Int × Int × List Int × List (ByteArray × Int) × List (Int × Int × (Int × Int × Int) × Int × Int × Int × Int × Int × Int × Int × Int) × List (List Int) × List (List (Int × Int)) × List Int × List (Int × Int × (Int × Int) × Int × Int)
abbrev A:Type:=(Int × Int × (Int × Int) × Int × Int) × Int × Int × Int × Int × Int × Int × Int × Int × Int × Int × Int × Int × Int × Int × Int × Int × Int × Int × Int × Int × Int × Int × Int × Int × Int × Int × List Int × List (ByteArray × Int) × List (Int × Int × (Int × Int × Int) × Int × Int × Int × Int × Int × Int × Int × Int) × List (List Int) × List (List (Int × Int)) × List Int × List (Int × Int × (Int × Int) × Int × Int)
abbrev Y:=A→Option R
def lv:List (Nat × List Nat):=[(2000000,[0])]
noncomputable def cs:Nat→Ctx:=ctxOf tis modes tg150.1 lv
theorem cs_ok (n:Nat):CtxOk Tryz.prog (cs n):=ctxOf_ok rfl tis_ok tg150.2 n
noncomputable def sh:AS:=⟨[.c (.ptr 128000000 0),.c (.ifd 96 .true y46)],[.box [.int .i64,.int .i64,.int .i64,.int .i64,.int .i64,.int .i64,.int .i64,.int .i64,.int .i64,.int .i64,.int .i64,.int .i64,.int .i64,.int .i64,.int .i64,.int .i64,.sl 128000001,.int .i64,.int .i64,.int .i64,.int .i64,.int .i64,.int .i64,.int .i64,.int .i64,.int .i64,.int .i64,.sl 128000002,.sl 128000003,.sl 128000004,.sl 128000005,.sl 128000006,.sl 128000007],.row (.int .i64),.row y19,.row y27,.nest y4,.nest y38,.row (.int .i64),.row y46]⟩
def os:OS:=⟨.tup [],[.box [.int .i64,.int .i64,.int .i64,.int .i64,.int .i64,.int .i64,.int .i64,.int .i64,.int .i64,.int .i64,.int .i64,.int .i64,.int .i64,.int .i64,.int .i64,.int .i64,.sl 128000001,.int .i64,.int .i64,.int .i64,.int .i64,.int .i64,.int .i64,.int .i64,.int .i64,.int .i64,.int .i64,.sl 128000002,.sl 128000003,.sl 128000004,.sl 128000005,.sl 128000006,.sl 128000008],.row (.int .i64),.row y19,.row y27,.nest y4,.nest y38,.row (.int .i64),.gone,.row y46]⟩
def enc (r:R):Out:=os.enc r
def dec:Out→Option R:=os.dec
noncomputable def b0:Code:=subF [] Tryz.f243
noncomputable def K0 (k:Nat):Kt R:=kTop (cs k) Tryz.f243 dec
noncomputable def f (k:Nat):Y:=fun v=>held (runFn cs k Tryz.f243 (sh.args v) (sh.slots v) dec)
noncomputable def F:Y:=lm f
def d:Y:=fun (v0,v1,v2,v3,v4,v5,v6,v7,v8,v9,v10,v11,v12,v13,v14,v15,v16,v17,v18,v19,v20,v21,v22,v23,v24,v25,v26,v27,v28,v29,v30,v31,v32,v33) =>
br (decide (v33.length + [(v0.1,v0.2.1,(v0.2.2.1.1,v0.2.2.1.2),v0.2.2.2.1,v0.2.2.2.2)].length ≤ 140737488355328 / 48)) (some (v1,v2,v3,v4,v5,v6,v7,v8,v9,v10,v11,v12,v13,v14,v15,v16,v17,v18,v19,v20,v21,v22,v23,v24,v25,v26,v27,v28,v29,v30,v31,v32,v33 ++ [(v0.1,v0.2.1,(v0.2.2.1.1,v0.2.2.1.2),v0.2.2.2.1,v0.2.2.2.2)])) none
theorem d_cn:∀ v:A,Cn E (d v) fun i=>d v:=fun (v0,v1,v2,v3,v4,v5,v6,v7,v8,v9,v10,v11,v12,v13,v14,v15,v16,v17,v18,v19,v20,v21,v22,v23,v24,v25,v26,v27,v28,v29,v30,v31,v32,v33)=>(.br .some .none)
theorem f_b (k:Nat):∀ v:A,f k v = d v:=fun (v0,v1,v2,v3,v4,v5,v6,v7,v8,v9,v10,v11,v12,v13,v14,v15,v16,v17,v18,v19,v20,v21,v22,v23,v24,v25,v26,v27,v28,v29,v30,v31,v32,v33)=>(held_eq _).trans (by kernel_rfl)
theorem F_of (v:A) {r:R} (h:d v = some r):F v = some r:=join_of (fun L=>f_b (L 0) v) (d_cn v) h
noncomputable def spec (k:Nat):List AV→List Slot→Option Ans:=specS sh os (f k)
theorem spec_ok (k:Nat):SpecOk Tryz.prog 243 (spec k):=specS_ok cs_ok Tryz.func243 rfl rfl (fun _ _=>held_eq _) k
end g151
noncomputable def tg151:=tg150.cons 243 g151.spec g151.spec_ok
namespace g152 -- plan_queue_Len
abbrev R:Type:=Int × Int × Int × Int × Int × Int × Int × Int × Int × Int × Int × Int × Int × Int × Int × Int × Int × Int × Int × Int × Int × Int × Int × Int × Int × Int × Int × List Int × List (ByteArray × Int) × List (Int × Int × (Int × Int × Int) × Int × Int × Int × Int × Int × Int × Int × Int) × List (List Int) × List (List (Int × Int)) × List Int × List (Int × Int × (Int × Int) × Int × Int)
abbrev A:Type:=Int × Int × Int × Int × Int × Int × Int × Int × Int × Int × Int × Int × Int × Int × Int × Int × Int × Int × Int × Int × Int × Int × Int × Int × Int × Int × List Int × List (ByteArray × Int) × List (Int × Int × (Int × Int × Int) × Int × Int × Int × Int × Int × Int × Int × Int) × List (List Int) × List (List (Int × Int)) × List Int × List (Int × Int × (Int × Int) × Int × Int)
abbrev Y:=A→Option R
def lv:List (Nat × List Nat):=[(2000000,[2])]
noncomputable def cs:Nat→Ctx:=ctxOf tis modes tg151.1 lv
theorem cs_ok (n:Nat):CtxOk Tryz.prog (cs n):=ctxOf_ok rfl tis_ok tg151.2 n
noncomputable def sh:AS:=⟨[(.c (.ptr 128000000 0))],[.box [.int .i64,.int .i64,.int .i64,.int .i64,.int .i64,.int .i64,.int .i64,.int .i64,.int .i64,.int .i64,.int .i64,.int .i64,.int .i64,.int .i64,.int .i64,.int .i64,.sl 128000001,.int .i64,.int .i64,.int .i64,.int .i64,.int .i64,.int .i64,.int .i64,.int .i64,.int .i64,.int .i64,.sl 128000002,.sl 128000003,.sl 128000004,.sl 128000005,.sl 128000006,.sl 128000007],.row (.int .i64),.row y19,.row y27,.nest y4,.nest y38,.row (.int .i64),.row y46]⟩
def os:OS:=⟨.c (.int .i64),[.box [.int .i64,.int .i64,.int .i64,.int .i64,.int .i64,.int .i64,.int .i64,.int .i64,.int .i64,.int .i64,.int .i64,.int .i64,.int .i64,.int .i64,.int .i64,.int .i64,.sl 128000001,.int .i64,.int .i64,.int .i64,.int .i64,.int .i64,.int .i64,.int .i64,.int .i64,.int .i64,.int .i64,.sl 128000002,.sl 128000003,.sl 128000004,.sl 128000005,.sl 128000006,.sl 128000007],.row (.int .i64),.row y19,.row y27,.nest y4,.nest y38,.row (.int .i64),.row y46]⟩
def enc (r:R):Out:=os.enc r
def dec:Out→Option R:=os.dec
noncomputable def b0:Code:=subF [] Tryz.f113
noncomputable def K0 (k:Nat):Kt R:=kTop (cs k) Tryz.f113 dec
noncomputable def f (k:Nat):Y:=fun v=>held (runFn cs k Tryz.f113 (sh.args v) (sh.slots v) dec)
noncomputable def F:Y:=lm f
def d:Y:=fun (v0,v1,v2,v3,v4,v5,v6,v7,v8,v9,v10,v11,v12,v13,v14,v15,v16,v17,v18,v19,v20,v21,v22,v23,v24,v25,v26,v27,v28,v29,v30,v31,v32) =>
some ((↑v32.length:Int),v0,v1,v2,v3,v4,v5,v6,v7,v8,v9,v10,v11,v12,v13,v14,v15,v16,v17,v18,v19,v20,v21,v22,v23,v24,v25,v26,v27,v28,v29,v30,v31,v32)
theorem d_cn:∀ v:A,Cn E (d v) fun i=>d v:=fun (v0,v1,v2,v3,v4,v5,v6,v7,v8,v9,v10,v11,v12,v13,v14,v15,v16,v17,v18,v19,v20,v21,v22,v23,v24,v25,v26,v27,v28,v29,v30,v31,v32)=>.some
theorem f_b (k:Nat):∀ v:A,f k v = d v:=fun (v0,v1,v2,v3,v4,v5,v6,v7,v8,v9,v10,v11,v12,v13,v14,v15,v16,v17,v18,v19,v20,v21,v22,v23,v24,v25,v26,v27,v28,v29,v30,v31,v32)=>(held_eq _).trans (by kernel_rfl)
theorem F_of (v:A) {r:R} (h:d v = some r):F v = some r:=join_of (fun L=>f_b (L 0) v) (d_cn v) h
noncomputable def spec (k:Nat):List AV→List Slot→Option Ans:=specS sh os (f k)
theorem spec_ok (k:Nat):SpecOk Tryz.prog 113 (spec k):=specS_ok cs_ok Tryz.func113 rfl rfl (fun _ _=>held_eq _) k
end g152
noncomputable def tg152:=tg151.cons 113 g152.spec g152.spec_ok
namespace g153 -- plan_Desk_better
abbrev R:Type:=Bool
abbrev A:Type:=Int × Int × Int × Int × Int × Int × Int × Int × Int × Int × Int × Int × Int × Int × Int × Int × List Int × Int × Int × Int × Int × Int × Int × Int × Int × Int × Int × List (ByteArray × Int) × List (Int × Int × (Int × Int × Int) × Int × Int × Int × Int × Int × Int × Int × Int) × List (List Int) × List (List (Int × Int)) × List Int × Int × Int × Int × Int × Int × Int × Int × Int × Int × Int × Int × Int
abbrev Y:=A→Option R
def lv:List (Nat × List Nat):=[(2000000,[8])]
noncomputable def cs:Nat→Ctx:=ctxOf tis modes tg152.1 lv
theorem cs_ok (n:Nat):CtxOk Tryz.prog (cs n):=ctxOf_ok rfl tis_ok tg152.2 n
def sh:AS:=⟨[.agg [.int .i64,.int .i64,.int .i64,.int .i64,.int .i64,.int .i64,.int .i64,.int .i64,.int .i64,.int .i64,.int .i64,.int .i64,.int .i64,.int .i64,.int .i64,.int .i64,.frz (.int .i64),.int .i64,.int .i64,.int .i64,.int .i64,.int .i64,.int .i64,.int .i64,.int .i64,.int .i64,.int .i64,.frz y19,.frz y27,.frz y4,.frz y38],.c (.frz (.int .i64)),.agg [.int .i64,.int .i64,.int .i64,.int .i64,.int .i64,.int .i64],.agg [.int .i64,.int .i64,.int .i64,.int .i64,.int .i64,.int .i64]],[]⟩
def os:OS:=⟨.c .bool,[]⟩
def enc (r:R):Out:=os.enc r
def dec:Out→Option R:=os.dec
noncomputable def b0:Code:=subF [] Tryz.f64
noncomputable def K0 (k:Nat):Kt R:=kTop (cs k) Tryz.f64 dec
noncomputable def f (k:Nat):Y:=fun v=>held (runFn cs k Tryz.f64 (sh.args v) (sh.slots v) dec)
noncomputable def F:Y:=lm f
noncomputable def d:Y:=fun (v0,v1,v2,v3,v4,v5,v6,v7,v8,v9,v10,v11,v12,v13,v14,v15,v16,v17,v18,v19,v20,v21,v22,v23,v24,v25,v26,v27,v28,v29,v30,v31,v32,v33,v34,v35,v36,v37,v38,v39,v40,v41,v42,v43) =>
br (decide (0 ≤ v32 ∧ v32 < (↑v28.length:Int))) (br (decide (0 ≤ v38 ∧ v38 < (↑v28.length:Int))) (br (decide (0 ≤ (rd ty0 v28 v32).2.1 ∧ (rd ty0 v28 v32).2.1 < (↑v31.length:Int))) (br (decide (0 ≤ (rd ty0 v28 v38).2.1 ∧ (rd ty0 v28 v38).2.1 < (↑v27.length:Int))) (br (decide (0 ≤ (rd ty0 v28 v38).2.1 ∧ (rd ty0 v28 v38).2.1 < (↑v31.length:Int))) (br (decide (0 ≤ (rd ty0 v28 v32).2.1 ∧ (rd ty0 v28 v32).2.1 < (↑v27.length:Int))) (br (!decide (wrap .i64 (rd (Ty.int .i64) v31 (rd ty0 v28 v32).2.1 * (rd (Ty.str.pair (Ty.int .i64)) v27 (rd ty0 v28 v38).2.1).2) = wrap .i64 (rd (Ty.int .i64) v31 (rd ty0 v28 v38).2.1 * (rd (Ty.str.pair (Ty.int .i64)) v27 (rd ty0 v28 v32).2.1).2))) (some (decide (wrap .i64 (rd (Ty.int .i64) v31 (rd ty0 v28 v32).2.1 * (rd (Ty.str.pair (Ty.int .i64)) v27 (rd ty0 v28 v38).2.1).2) < wrap .i64 (rd (Ty.int .i64) v31 (rd ty0 v28 v38).2.1 * (rd (Ty.str.pair (Ty.int .i64)) v27 (rd ty0 v28 v32).2.1).2)))) (br (!decide ((rd ty0 v28 v32).2.2.2.2.2.2.2.2.2.2 = (rd ty0 v28 v38).2.2.2.2.2.2.2.2.2.2)) (some (decide ((rd ty0 v28 v38).2.2.2.2.2.2.2.2.2.2 < (rd ty0 v28 v32).2.2.2.2.2.2.2.2.2.2))) (br (!decide (v33 = v39)) (some (decide (v33 < v39))) (some (decide (v32 < v38)))))) none) none) none) none) none) none
theorem d_cn:∀ v:A,Cn E (d v) fun i=>d v:=fun (v0,v1,v2,v3,v4,v5,v6,v7,v8,v9,v10,v11,v12,v13,v14,v15,v16,v17,v18,v19,v20,v21,v22,v23,v24,v25,v26,v27,v28,v29,v30,v31,v32,v33,v34,v35,v36,v37,v38,v39,v40,v41,v42,v43)=>(.br (.br (.br (.br (.br (.br (.br .some (.br .some (.br .some .some))) .none) .none) .none) .none) .none) .none)
theorem f_b (k:Nat):∀ v:A,f k v = d v:=fun (v0,v1,v2,v3,v4,v5,v6,v7,v8,v9,v10,v11,v12,v13,v14,v15,v16,v17,v18,v19,v20,v21,v22,v23,v24,v25,v26,v27,v28,v29,v30,v31,v32,v33,v34,v35,v36,v37,v38,v39,v40,v41,v42,v43)=>(held_eq _).trans (by kernel_rfl)
theorem F_of (v:A) {r:R} (h:d v = some r):F v = some r:=join_of (fun L=>f_b (L 0) v) (d_cn v) h
noncomputable def spec (k:Nat):List AV→List Slot→Option Ans:=specS sh os (f k)
theorem spec_ok (k:Nat):SpecOk Tryz.prog 64 (spec k):=specS_ok cs_ok Tryz.func64 rfl rfl (fun _ _=>held_eq _) k
end g153
noncomputable def tg153:=tg152.cons 64 g153.spec g153.spec_ok
namespace g154 -- plan_queue_Less
abbrev R:Type:=Bool × Int × Int × Int × Int × Int × Int × Int × Int × Int × Int × Int × Int × Int × Int × Int × Int × Int × Int × Int × Int × Int × Int × Int × Int × Int × Int × List Int × List (ByteArray × Int) × List (Int × Int × (Int × Int × Int) × Int × Int × Int × Int × Int × Int × Int × Int) × List (List Int) × List (List (Int × Int)) × List Int × List (Int × Int × (Int × Int) × Int × Int)
abbrev A:Type:=Int × Int × Int × Int × Int × Int × Int × Int × Int × Int × Int × Int × Int × Int × Int × Int × Int × Int × Int × Int × Int × Int × Int × Int × Int × Int × Int × Int × List Int × List (ByteArray × Int) × List (Int × Int × (Int × Int × Int) × Int × Int × Int × Int × Int × Int × Int × Int) × List (List Int) × List (List (Int × Int)) × List Int × List (Int × Int × (Int × Int) × Int × Int)
abbrev Y:=A→Option R
def lv:List (Nat × List Nat):=[(2000000,[6])]
noncomputable def cs:Nat→Ctx:=ctxOf tis modes tg153.1 lv
theorem cs_ok (n:Nat):CtxOk Tryz.prog (cs n):=ctxOf_ok rfl tis_ok tg153.2 n
noncomputable def sh:AS:=⟨[.c (.ptr 128000000 0),.c (.int .i64),.c (.int .i64)],[.box [.int .i64,.int .i64,.int .i64,.int .i64,.int .i64,.int .i64,.int .i64,.int .i64,.int .i64,.int .i64,.int .i64,.int .i64,.int .i64,.int .i64,.int .i64,.int .i64,.sl 128000001,.int .i64,.int .i64,.int .i64,.int .i64,.int .i64,.int .i64,.int .i64,.int .i64,.int .i64,.int .i64,.sl 128000002,.sl 128000003,.sl 128000004,.sl 128000005,.sl 128000006,.sl 128000007],.row (.int .i64),.row y19,.row y27,.nest y4,.nest y38,.row (.int .i64),.row y46]⟩
def os:OS:=⟨.c .bool,[.box [.int .i64,.int .i64,.int .i64,.int .i64,.int .i64,.int .i64,.int .i64,.int .i64,.int .i64,.int .i64,.int .i64,.int .i64,.int .i64,.int .i64,.int .i64,.int .i64,.sl 128000001,.int .i64,.int .i64,.int .i64,.int .i64,.int .i64,.int .i64,.int .i64,.int .i64,.int .i64,.int .i64,.sl 128000002,.sl 128000003,.sl 128000004,.sl 128000005,.sl 128000006,.sl 128000007],.row (.int .i64),.row y19,.row y27,.nest y4,.nest y38,.row (.int .i64),.row y46]⟩
def enc (r:R):Out:=os.enc r
def dec:Out→Option R:=os.dec
noncomputable def b0:Code:=subF [] Tryz.f241
noncomputable def K0 (k:Nat):Kt R:=kTop (cs k) Tryz.f241 dec
noncomputable def f (k:Nat):Y:=fun v=>held (runFn cs k Tryz.f241 (sh.args v) (sh.slots v) dec)
noncomputable def F:Y:=lm f
noncomputable def d (p0:g153.Y):Y:=fun (v0,v1,v2,v3,v4,v5,v6,v7,v8,v9,v10,v11,v12,v13,v14,v15,v16,v17,v18,v19,v20,v21,v22,v23,v24,v25,v26,v27,v28,v29,v30,v31,v32,v33,v34) =>
br (decide (0 ≤ v0 ∧ v0 < (↑v34.length:Int))) (br (decide (0 ≤ v1 ∧ v1 < (↑v34.length:Int))) (bnd (p0 (v2,v3,v4,v5,v6,v7,v8,v9,v10,v11,v12,v13,v14,v15,v16,v17,v28,v18,v19,v20,v21,v22,v23,v24,v25,v26,v27,v29,v30,v31,v32,v33,(rd ty1 v34 v0).1,(rd ty1 v34 v0).2.1,(rd ty1 v34 v0).2.2.1.1,(rd ty1 v34 v0).2.2.1.2,(rd ty1 v34 v0).2.2.2.1,(rd ty1 v34 v0).2.2.2.2,(rd ty1 v34 v1).1,(rd ty1 v34 v1).2.1,(rd ty1 v34 v1).2.2.1.1,(rd ty1 v34 v1).2.2.1.2,(rd ty1 v34 v1).2.2.2.1,(rd ty1 v34 v1).2.2.2.2)) fun r=>some (r,v2,v3,v4,v5,v6,v7,v8,v9,v10,v11,v12,v13,v14,v15,v16,v17,v18,v19,v20,v21,v22,v23,v24,v25,v26,v27,v28,v29,v30,v31,v32,v33,v34)) none) none
theorem d_cn (k0:Pr E g153.A g153.R):∀ v:A,Cn E (d k0.p v) fun i=>d (k0.q i) v:=fun (v0,v1,v2,v3,v4,v5,v6,v7,v8,v9,v10,v11,v12,v13,v14,v15,v16,v17,v18,v19,v20,v21,v22,v23,v24,v25,v26,v27,v28,v29,v30,v31,v32,v33,v34)=>(.br (.br (.bnd (k0.h _) fun _=>.some) .none) .none)
theorem f_b (k:Nat):∀ v:A,f k v = d (g153.f k) v:=fun (v0,v1,v2,v3,v4,v5,v6,v7,v8,v9,v10,v11,v12,v13,v14,v15,v16,v17,v18,v19,v20,v21,v22,v23,v24,v25,v26,v27,v28,v29,v30,v31,v32,v33,v34)=>(held_eq _).trans (by kernel_rfl)
theorem F_of (v:A) {r:R} (h:d g153.F v = some r):F v = some r:=join_of (fun L=>f_b (L 0) v) (d_cn (lp g153.f 0) v) h
noncomputable def spec (k:Nat):List AV→List Slot→Option Ans:=specS sh os (f k)
theorem spec_ok (k:Nat):SpecOk Tryz.prog 241 (spec k):=specS_ok cs_ok Tryz.func241 rfl rfl (fun _ _=>held_eq _) k
end g154
noncomputable def tg154:=tg153.cons 241 g154.spec g154.spec_ok
namespace g155 -- plan_queue_Swap
abbrev R:Type:=Int × Int × Int × Int × Int × Int × Int × Int × Int × Int × Int × Int × Int × Int × Int × Int × Int × Int × Int × Int × Int × Int × Int × Int × Int × Int × List Int × List (ByteArray × Int) × List (Int × Int × (Int × Int × Int) × Int × Int × Int × Int × Int × Int × Int × Int) × List (List Int) × List (List (Int × Int)) × List Int × List (Int × Int × (Int × Int) × Int × Int)
abbrev A:Type:=Int × Int × Int × Int × Int × Int × Int × Int × Int × Int × Int × Int × Int × Int × Int × Int × Int × Int × Int × Int × Int × Int × Int × Int × Int × Int × Int × Int × List Int × List (ByteArray × Int) × List (Int × Int × (Int × Int × Int) × Int × Int × Int × Int × Int × Int × Int × Int) × List (List Int) × List (List (Int × Int)) × List Int × List (Int × Int × (Int × Int) × Int × Int)
abbrev Y:=A→Option R
def lv:List (Nat × List Nat):=[(2000000,[0])]
noncomputable def cs:Nat→Ctx:=ctxOf tis modes tg154.1 lv
theorem cs_ok (n:Nat):CtxOk Tryz.prog (cs n):=ctxOf_ok rfl tis_ok tg154.2 n
noncomputable def sh:AS:=⟨[.c (.ptr 128000000 0),.c (.int .i64),.c (.int .i64)],[.box [.int .i64,.int .i64,.int .i64,.int .i64,.int .i64,.int .i64,.int .i64,.int .i64,.int .i64,.int .i64,.int .i64,.int .i64,.int .i64,.int .i64,.int .i64,.int .i64,.sl 128000001,.int .i64,.int .i64,.int .i64,.int .i64,.int .i64,.int .i64,.int .i64,.int .i64,.int .i64,.int .i64,.sl 128000002,.sl 128000003,.sl 128000004,.sl 128000005,.sl 128000006,.sl 128000007],.row (.int .i64),.row y19,.row y27,.nest y4,.nest y38,.row (.int .i64),.row y46]⟩
def os:OS:=⟨.tup [],[.box [.int .i64,.int .i64,.int .i64,.int .i64,.int .i64,.int .i64,.int .i64,.int .i64,.int .i64,.int .i64,.int .i64,.int .i64,.int .i64,.int .i64,.int .i64,.int .i64,.sl 128000001,.int .i64,.int .i64,.int .i64,.int .i64,.int .i64,.int .i64,.int .i64,.int .i64,.int .i64,.int .i64,.sl 128000002,.sl 128000003,.sl 128000004,.sl 128000005,.sl 128000006,.sl 128000007],.row (.int .i64),.row y19,.row y27,.nest y4,.nest y38,.row (.int .i64),.row y46]⟩
def enc (r:R):Out:=os.enc r
def dec:Out→Option R:=os.dec
noncomputable def b0:Code:=subF [] Tryz.f244
noncomputable def K0 (k:Nat):Kt R:=kTop (cs k) Tryz.f244 dec
noncomputable def f (k:Nat):Y:=fun v=>held (runFn cs k Tryz.f244 (sh.args v) (sh.slots v) dec)
noncomputable def F:Y:=lm f
noncomputable def d:Y:=fun (v0,v1,v2,v3,v4,v5,v6,v7,v8,v9,v10,v11,v12,v13,v14,v15,v16,v17,v18,v19,v20,v21,v22,v23,v24,v25,v26,v27,v28,v29,v30,v31,v32,v33,v34) =>
br (decide (0 ≤ v1 ∧ v1 < (↑v34.length:Int))) (br (decide (0 ≤ v0 ∧ v0 < (↑v34.length:Int))) (br (decide (0 ≤ v0 ∧ v0 < (↑v34.length:Int))) (br (decide (0 ≤ v1 ∧ v1 < (↑(v34.set v0.toNat ((rd ty1 v34 v1).1,(rd ty1 v34 v1).2.1,((rd ty1 v34 v1).2.2.1.1,(rd ty1 v34 v1).2.2.1.2),(rd ty1 v34 v1).2.2.2.1,(rd ty1 v34 v1).2.2.2.2)).length:Int))) (some (v2,v3,v4,v5,v6,v7,v8,v9,v10,v11,v12,v13,v14,v15,v16,v17,v18,v19,v20,v21,v22,v23,v24,v25,v26,v27,v28,v29,v30,v31,v32,v33,(v34.set v0.toNat ((rd ty1 v34 v1).1,(rd ty1 v34 v1).2.1,((rd ty1 v34 v1).2.2.1.1,(rd ty1 v34 v1).2.2.1.2),(rd ty1 v34 v1).2.2.2.1,(rd ty1 v34 v1).2.2.2.2)).set v1.toNat ((rd ty1 v34 v0).1,(rd ty1 v34 v0).2.1,((rd ty1 v34 v0).2.2.1.1,(rd ty1 v34 v0).2.2.1.2),(rd ty1 v34 v0).2.2.2.1,(rd ty1 v34 v0).2.2.2.2))) none) none) none) none
theorem d_cn:∀ v:A,Cn E (d v) fun i=>d v:=fun (v0,v1,v2,v3,v4,v5,v6,v7,v8,v9,v10,v11,v12,v13,v14,v15,v16,v17,v18,v19,v20,v21,v22,v23,v24,v25,v26,v27,v28,v29,v30,v31,v32,v33,v34)=>(.br (.br (.br (.br .some .none) .none) .none) .none)
theorem f_b (k:Nat):∀ v:A,f k v = d v:=fun (v0,v1,v2,v3,v4,v5,v6,v7,v8,v9,v10,v11,v12,v13,v14,v15,v16,v17,v18,v19,v20,v21,v22,v23,v24,v25,v26,v27,v28,v29,v30,v31,v32,v33,v34)=>(held_eq _).trans (by kernel_rfl)
theorem F_of (v:A) {r:R} (h:d v = some r):F v = some r:=join_of (fun L=>f_b (L 0) v) (d_cn v) h
noncomputable def spec (k:Nat):List AV→List Slot→Option Ans:=specS sh os (f k)
theorem spec_ok (k:Nat):SpecOk Tryz.prog 244 (spec k):=specS_ok cs_ok Tryz.func244 rfl rfl (fun _ _=>held_eq _) k
end g155
noncomputable def tg155:=tg154.cons 244 g155.spec g155.spec_ok
namespace g156 -- heap_up
abbrev R:Type:=Int × Int × Int × Int × Int × Int × Int × Int × Int × Int × Int × Int × Int × Int × Int × Int × Int × Int × Int × Int × Int × Int × Int × Int × Int × Int × List Int × List (ByteArray × Int) × List (Int × Int × (Int × Int × Int) × Int × Int × Int × Int × Int × Int × Int × Int) × List (List Int) × List (List (Int × Int)) × List Int × List (Int × Int × (Int × Int) × Int × Int)
abbrev A:Type:=Int × Int × Int × Int × Int × Int × Int × Int × Int × Int × Int × Int × Int × Int × Int × Int × Int × Int × Int × Int × Int × Int × Int × Int × Int × Int × Int × List Int × List (ByteArray × Int) × List (Int × Int × (Int × Int × Int) × Int × Int × Int × Int × Int × Int × Int × Int) × List (List Int) × List (List (Int × Int)) × List Int × List (Int × Int × (Int × Int) × Int × Int)
abbrev Y:=A→Option R
def lv:List (Nat × List Nat):=[(2000000,[0]),(0,[0,1])]
noncomputable def cs:Nat→Ctx:=ctxOf tis modes tg155.1 lv
theorem cs_ok (n:Nat):CtxOk Tryz.prog (cs n):=ctxOf_ok rfl tis_ok tg155.2 n
noncomputable def sh:AS:=⟨[.c (.ifp 217 128000000 0),.c (.int .i64)],[.box [.int .i64,.int .i64,.int .i64,.int .i64,.int .i64,.int .i64,.int .i64,.int .i64,.int .i64,.int .i64,.int .i64,.int .i64,.int .i64,.int .i64,.int .i64,.int .i64,.sl 128000001,.int .i64,.int .i64,.int .i64,.int .i64,.int .i64,.int .i64,.int .i64,.int .i64,.int .i64,.int .i64,.sl 128000002,.sl 128000003,.sl 128000004,.sl 128000005,.sl 128000006,.sl 128000007],.row (.int .i64),.row y19,.row y27,.nest y4,.nest y38,.row (.int .i64),.row y46]⟩
def os:OS:=⟨.tup [],[.box [.int .i64,.int .i64,.int .i64,.int .i64,.int .i64,.int .i64,.int .i64,.int .i64,.int .i64,.int .i64,.int .i64,.int .i64,.int .i64,.int .i64,.int .i64,.int .i64,.sl 128000001,.int .i64,.int .i64,.int .i64,.int .i64,.int .i64,.int .i64,.int .i64,.int .i64,.int .i64,.int .i64,.sl 128000002,.sl 128000003,.sl 128000004,.sl 128000005,.sl 128000006,.sl 128000007],.row (.int .i64),.row y19,.row y27,.nest y4,.nest y38,.row (.int .i64),.row y46]⟩
def enc (r:R):Out:=os.enc r
def dec:Out→Option R:=os.dec
noncomputable def bR:Code:=subF [] Tryz.f161
noncomputable def KR (k:Nat):Kt R:=kTop (cs k) Tryz.f161 dec
noncomputable def b0:Code:=sub [0,0] bR
noncomputable def K0 ( k:Nat):Kt R:=kAt (cs k) (loopN cs k) [0] bR (KR k)
abbrev T0:Type:=Int × Int × Int × Int × Int × Int × Int × Int × Int × Int × Int × Int × Int × Int × Int × Int × Int × Int × Int × Int × Int × Int × Int × Int × Int × Int × Int × List Int × List (ByteArray × Int) × List (Int × Int × (Int × Int × Int) × Int × Int × Int × Int × Int × Int × Int × Int) × List (List Int) × List (List (Int × Int)) × List Int × List (Int × Int × (Int × Int) × Int × Int)
abbrev Y0:=T0→Option R
noncomputable def s0:T0→St:=fun (v0,v1,v2,v3,v4,v5,v6,v7,v8,v9,v10,v11,v12,v13,v14,v15,v16,v17,v18,v19,v20,v21,v22,v23,v24,v25,v26,v27,v28,v29,v30,v31,v32,v33)=>⟨23,8,[(0,.c (.ifp 217 128000000 0)),(1,.c (.int .i64 v0))],[],[(128000000,.box [.int .i64 v1,.int .i64 v2,.int .i64 v3,.int .i64 v4,.int .i64 v5,.int .i64 v6,.int .i64 v7,.int .i64 v8,.int .i64 v9,.int .i64 v10,.int .i64 v11,.int .i64 v12,.int .i64 v13,.int .i64 v14,.int .i64 v15,.int .i64 v16,.sl 128000001,.int .i64 v17,.int .i64 v18,.int .i64 v19,.int .i64 v20,.int .i64 v21,.int .i64 v22,.int .i64 v23,.int .i64 v24,.int .i64 v25,.int .i64 v26,.sl 128000002,.sl 128000003,.sl 128000004,.sl 128000005,.sl 128000006,.sl 128000007]),(128000001,.row (.int .i64) v27),(128000002,.row y19 v28),(128000003,.row y27 v29),(128000004,.nest y4 v30 .none),(128000005,.nest y38 v31 .none),(128000006,.row (.int .i64) v32),(128000007,.row y46 v33),(256000000,.gone)]⟩
noncomputable def l0 ( k n:Nat) (v:T0):Option R:=held (loopN cs n b0 (K0 k) (s0 v))
noncomputable def D0 (v:T0):Option R:=lim fun L=>l0 (L 0) (L 1) v
theorem D0_cn (v:T0):Cn late (D0 v) fun L=>l0 (L 0) (L 1) v:=of_lim
noncomputable def d0 (p0:g154.Y) (p1:g155.Y) (p2:Y0):Y0:=fun (v0,v1,v2,v3,v4,v5,v6,v7,v8,v9,v10,v11,v12,v13,v14,v15,v16,v17,v18,v19,v20,v21,v22,v23,v24,v25,v26,v27,v28,v29,v30,v31,v32,v33) =>
br (!decide (2 = 0)) (br (decide (wrap .i64 ((wrap .i64 (v0 - 1)).tdiv 2) = v0) == false) (bnd (p0 (v0,wrap .i64 ((wrap .i64 (v0 - 1)).tdiv 2),v1,v2,v3,v4,v5,v6,v7,v8,v9,v10,v11,v12,v13,v14,v15,v16,v17,v18,v19,v20,v21,v22,v23,v24,v25,v26,v27,v28,v29,v30,v31,v32,v33)) fun r=>br (!r.1) (some (r.2.1,r.2.2.1,r.2.2.2.1,r.2.2.2.2.1,r.2.2.2.2.2.1,r.2.2.2.2.2.2.1,r.2.2.2.2.2.2.2.1,r.2.2.2.2.2.2.2.2.1,r.2.2.2.2.2.2.2.2.2.1,r.2.2.2.2.2.2.2.2.2.2.1,r.2.2.2.2.2.2.2.2.2.2.2.1,r.2.2.2.2.2.2.2.2.2.2.2.2.1,r.2.2.2.2.2.2.2.2.2.2.2.2.2.1,r.2.2.2.2.2.2.2.2.2.2.2.2.2.2.1,r.2.2.2.2.2.2.2.2.2.2.2.2.2.2.2.1,r.2.2.2.2.2.2.2.2.2.2.2.2.2.2.2.2.1,r.2.2.2.2.2.2.2.2.2.2.2.2.2.2.2.2.2.1,r.2.2.2.2.2.2.2.2.2.2.2.2.2.2.2.2.2.2.1,r.2.2.2.2.2.2.2.2.2.2.2.2.2.2.2.2.2.2.2.1,r.2.2.2.2.2.2.2.2.2.2.2.2.2.2.2.2.2.2.2.2.1,r.2.2.2.2.2.2.2.2.2.2.2.2.2.2.2.2.2.2.2.2.2.1,r.2.2.2.2.2.2.2.2.2.2.2.2.2.2.2.2.2.2.2.2.2.2.1,r.2.2.2.2.2.2.2.2.2.2.2.2.2.2.2.2.2.2.2.2.2.2.2.1,r.2.2.2.2.2.2.2.2.2.2.2.2.2.2.2.2.2.2.2.2.2.2.2.2.1,r.2.2.2.2.2.2.2.2.2.2.2.2.2.2.2.2.2.2.2.2.2.2.2.2.2.1,r.2.2.2.2.2.2.2.2.2.2.2.2.2.2.2.2.2.2.2.2.2.2.2.2.2.2.1,r.2.2.2.2.2.2.2.2.2.2.2.2.2.2.2.2.2.2.2.2.2.2.2.2.2.2.2.1,r.2.2.2.2.2.2.2.2.2.2.2.2.2.2.2.2.2.2.2.2.2.2.2.2.2.2.2.2.1,r.2.2.2.2.2.2.2.2.2.2.2.2.2.2.2.2.2.2.2.2.2.2.2.2.2.2.2.2.2.1,r.2.2.2.2.2.2.2.2.2.2.2.2.2.2.2.2.2.2.2.2.2.2.2.2.2.2.2.2.2.2.1,r.2.2.2.2.2.2.2.2.2.2.2.2.2.2.2.2.2.2.2.2.2.2.2.2.2.2.2.2.2.2.2.1,r.2.2.2.2.2.2.2.2.2.2.2.2.2.2.2.2.2.2.2.2.2.2.2.2.2.2.2.2.2.2.2.2.1,r.2.2.2.2.2.2.2.2.2.2.2.2.2.2.2.2.2.2.2.2.2.2.2.2.2.2.2.2.2.2.2.2.2)) (bnd (p1 (wrap .i64 ((wrap .i64 (v0 - 1)).tdiv 2),v0,r.2.1,r.2.2.1,r.2.2.2.1,r.2.2.2.2.1,r.2.2.2.2.2.1,r.2.2.2.2.2.2.1,r.2.2.2.2.2.2.2.1,r.2.2.2.2.2.2.2.2.1,r.2.2.2.2.2.2.2.2.2.1,r.2.2.2.2.2.2.2.2.2.2.1,r.2.2.2.2.2.2.2.2.2.2.2.1,r.2.2.2.2.2.2.2.2.2.2.2.2.1,r.2.2.2.2.2.2.2.2.2.2.2.2.2.1,r.2.2.2.2.2.2.2.2.2.2.2.2.2.2.1,r.2.2.2.2.2.2.2.2.2.2.2.2.2.2.2.1,r.2.2.2.2.2.2.2.2.2.2.2.2.2.2.2.2.1,r.2.2.2.2.2.2.2.2.2.2.2.2.2.2.2.2.2.1,r.2.2.2.2.2.2.2.2.2.2.2.2.2.2.2.2.2.2.1,r.2.2.2.2.2.2.2.2.2.2.2.2.2.2.2.2.2.2.2.1,r.2.2.2.2.2.2.2.2.2.2.2.2.2.2.2.2.2.2.2.2.1,r.2.2.2.2.2.2.2.2.2.2.2.2.2.2.2.2.2.2.2.2.2.1,r.2.2.2.2.2.2.2.2.2.2.2.2.2.2.2.2.2.2.2.2.2.2.1,r.2.2.2.2.2.2.2.2.2.2.2.2.2.2.2.2.2.2.2.2.2.2.2.1,r.2.2.2.2.2.2.2.2.2.2.2.2.2.2.2.2.2.2.2.2.2.2.2.2.1,r.2.2.2.2.2.2.2.2.2.2.2.2.2.2.2.2.2.2.2.2.2.2.2.2.2.1,r.2.2.2.2.2.2.2.2.2.2.2.2.2.2.2.2.2.2.2.2.2.2.2.2.2.2.1,r.2.2.2.2.2.2.2.2.2.2.2.2.2.2.2.2.2.2.2.2.2.2.2.2.2.2.2.1,r.2.2.2.2.2.2.2.2.2.2.2.2.2.2.2.2.2.2.2.2.2.2.2.2.2.2.2.2.1,r.2.2.2.2.2.2.2.2.2.2.2.2.2.2.2.2.2.2.2.2.2.2.2.2.2.2.2.2.2.1,r.2.2.2.2.2.2.2.2.2.2.2.2.2.2.2.2.2.2.2.2.2.2.2.2.2.2.2.2.2.2.1,r.2.2.2.2.2.2.2.2.2.2.2.2.2.2.2.2.2.2.2.2.2.2.2.2.2.2.2.2.2.2.2.1,r.2.2.2.2.2.2.2.2.2.2.2.2.2.2.2.2.2.2.2.2.2.2.2.2.2.2.2.2.2.2.2.2.1,r.2.2.2.2.2.2.2.2.2.2.2.2.2.2.2.2.2.2.2.2.2.2.2.2.2.2.2.2.2.2.2.2.2)) fun r=>p2 (wrap .i64 ((wrap .i64 (v0 - 1)).tdiv 2),r.1,r.2.1,r.2.2.1,r.2.2.2.1,r.2.2.2.2.1,r.2.2.2.2.2.1,r.2.2.2.2.2.2.1,r.2.2.2.2.2.2.2.1,r.2.2.2.2.2.2.2.2.1,r.2.2.2.2.2.2.2.2.2.1,r.2.2.2.2.2.2.2.2.2.2.1,r.2.2.2.2.2.2.2.2.2.2.2.1,r.2.2.2.2.2.2.2.2.2.2.2.2.1,r.2.2.2.2.2.2.2.2.2.2.2.2.2.1,r.2.2.2.2.2.2.2.2.2.2.2.2.2.2.1,r.2.2.2.2.2.2.2.2.2.2.2.2.2.2.2.1,r.2.2.2.2.2.2.2.2.2.2.2.2.2.2.2.2.1,r.2.2.2.2.2.2.2.2.2.2.2.2.2.2.2.2.2.1,r.2.2.2.2.2.2.2.2.2.2.2.2.2.2.2.2.2.2.1,r.2.2.2.2.2.2.2.2.2.2.2.2.2.2.2.2.2.2.2.1,r.2.2.2.2.2.2.2.2.2.2.2.2.2.2.2.2.2.2.2.2.1,r.2.2.2.2.2.2.2.2.2.2.2.2.2.2.2.2.2.2.2.2.2.1,r.2.2.2.2.2.2.2.2.2.2.2.2.2.2.2.2.2.2.2.2.2.2.1,r.2.2.2.2.2.2.2.2.2.2.2.2.2.2.2.2.2.2.2.2.2.2.2.1,r.2.2.2.2.2.2.2.2.2.2.2.2.2.2.2.2.2.2.2.2.2.2.2.2.1,r.2.2.2.2.2.2.2.2.2.2.2.2.2.2.2.2.2.2.2.2.2.2.2.2.2.1,r.2.2.2.2.2.2.2.2.2.2.2.2.2.2.2.2.2.2.2.2.2.2.2.2.2.2.1,r.2.2.2.2.2.2.2.2.2.2.2.2.2.2.2.2.2.2.2.2.2.2.2.2.2.2.2.1,r.2.2.2.2.2.2.2.2.2.2.2.2.2.2.2.2.2.2.2.2.2.2.2.2.2.2.2.2.1,r.2.2.2.2.2.2.2.2.2.2.2.2.2.2.2.2.2.2.2.2.2.2.2.2.2.2.2.2.2.1,r.2.2.2.2.2.2.2.2.2.2.2.2.2.2.2.2.2.2.2.2.2.2.2.2.2.2.2.2.2.2.1,r.2.2.2.2.2.2.2.2.2.2.2.2.2.2.2.2.2.2.2.2.2.2.2.2.2.2.2.2.2.2.2.1,r.2.2.2.2.2.2.2.2.2.2.2.2.2.2.2.2.2.2.2.2.2.2.2.2.2.2.2.2.2.2.2.2))) (some (v1,v2,v3,v4,v5,v6,v7,v8,v9,v10,v11,v12,v13,v14,v15,v16,v17,v18,v19,v20,v21,v22,v23,v24,v25,v26,v27,v28,v29,v30,v31,v32,v33))) none
theorem d0_cn (k0:Pr E g154.A g154.R) (k1:Pr E g155.A g155.R) (k2:Pr E T0 R):∀ v:T0,Cn E (d0 k0.p k1.p k2.p v) fun i=>d0 (k0.q i) (k1.q i) (k2.q i) v:=fun (v0,v1,v2,v3,v4,v5,v6,v7,v8,v9,v10,v11,v12,v13,v14,v15,v16,v17,v18,v19,v20,v21,v22,v23,v24,v25,v26,v27,v28,v29,v30,v31,v32,v33)=>(.br (.br (.bnd (k0.h _) fun _=>(.br .some (.bnd (k1.h _) fun _=>(k2.h _)))) .some) .none)
theorem l0_b ( k m1:Nat):∀ v:T0,run (cs m1) (loopN cs m1) b0 (kLoop cs m1 b0 (K0 k)) (s0 v) = d0 (g154.f m1) (g155.f m1) (l0 k m1) v:=fun (v0,v1,v2,v3,v4,v5,v6,v7,v8,v9,v10,v11,v12,v13,v14,v15,v16,v17,v18,v19,v20,v21,v22,v23,v24,v25,v26,v27,v28,v29,v30,v31,v32,v33)=>by kernel_rfl
theorem D0_of (v:T0) {r:R} (h:d0 g154.F g155.F D0 v = some r):D0 v = some r:=loop_of 1 (fun L n hn=>by show l0 (L 0) (L 1) v = _; rw [hn]; exact (held_eq _).trans ((loopN_succ _ _ _ _ _).trans (l0_b (L 0) n v))) (d0_cn (lp g154.f 1) (lp g155.f 1) (.mk fun v=>(D0_cn v).re [0,1]) v) h
noncomputable def f (k:Nat):Y:=fun v=>held (runFn cs k Tryz.f161 (sh.args v) (sh.slots v) dec)
noncomputable def F:Y:=lm f
def d (p0:Y0):Y:=fun (v0,v1,v2,v3,v4,v5,v6,v7,v8,v9,v10,v11,v12,v13,v14,v15,v16,v17,v18,v19,v20,v21,v22,v23,v24,v25,v26,v27,v28,v29,v30,v31,v32,v33) =>
p0 (v0,v1,v2,v3,v4,v5,v6,v7,v8,v9,v10,v11,v12,v13,v14,v15,v16,v17,v18,v19,v20,v21,v22,v23,v24,v25,v26,v27,v28,v29,v30,v31,v32,v33)
theorem d_cn (k0:Pr E T0 R):∀ v:A,Cn E (d k0.p v) fun i=>d (k0.q i) v:=fun (v0,v1,v2,v3,v4,v5,v6,v7,v8,v9,v10,v11,v12,v13,v14,v15,v16,v17,v18,v19,v20,v21,v22,v23,v24,v25,v26,v27,v28,v29,v30,v31,v32,v33)=>(k0.h _)
theorem f_b (k:Nat):∀ v:A,f k v = d (l0 k k) v:=fun (v0,v1,v2,v3,v4,v5,v6,v7,v8,v9,v10,v11,v12,v13,v14,v15,v16,v17,v18,v19,v20,v21,v22,v23,v24,v25,v26,v27,v28,v29,v30,v31,v32,v33)=>(held_eq _).trans (by kernel_rfl)
theorem F_of (v:A) {r:R} (h:d D0 v = some r):F v = some r:=join_of (fun L=>f_b (L 0) v) (d_cn (.mk fun v=>(D0_cn v).re [0,0]) v) h
noncomputable def spec (k:Nat):List AV→List Slot→Option Ans:=specS sh os (f k)
theorem spec_ok (k:Nat):SpecOk Tryz.prog 161 (spec k):=specS_ok cs_ok Tryz.func161 rfl rfl (fun _ _=>held_eq _) k
end g156
noncomputable def tg156:=tg155.cons 161 g156.spec g156.spec_ok
namespace g157 -- heap_Push
abbrev R:Type:=Int × Int × Int × Int × Int × Int × Int × Int × Int × Int × Int × Int × Int × Int × Int × Int × Int × Int × Int × Int × Int × Int × Int × Int × Int × Int × List Int × List (ByteArray × Int) × List (Int × Int × (Int × Int × Int) × Int × Int × Int × Int × Int × Int × Int × Int) × List (List Int) × List (List (Int × Int)) × List Int × List (Int × Int × (Int × Int) × Int × Int)
abbrev A:Type:=(Int × Int × (Int × Int) × Int × Int) × Int × Int × Int × Int × Int × Int × Int × Int × Int × Int × Int × Int × Int × Int × Int × Int × Int × Int × Int × Int × Int × Int × Int × Int × Int × Int × List Int × List (ByteArray × Int) × List (Int × Int × (Int × Int × Int) × Int × Int × Int × Int × Int × Int × Int × Int) × List (List Int) × List (List (Int × Int)) × List Int × List (Int × Int × (Int × Int) × Int × Int)
abbrev Y:=A→Option R
def lv:List (Nat × List Nat):=[(2000000,[0])]
noncomputable def cs:Nat→Ctx:=ctxOf tis modes tg156.1 lv
theorem cs_ok (n:Nat):CtxOk Tryz.prog (cs n):=ctxOf_ok rfl tis_ok tg156.2 n
noncomputable def sh:AS:=⟨[.c (.ifp 217 128000000 0),.c (.ifd 96 .true y46)],[.box [.int .i64,.int .i64,.int .i64,.int .i64,.int .i64,.int .i64,.int .i64,.int .i64,.int .i64,.int .i64,.int .i64,.int .i64,.int .i64,.int .i64,.int .i64,.int .i64,.sl 128000001,.int .i64,.int .i64,.int .i64,.int .i64,.int .i64,.int .i64,.int .i64,.int .i64,.int .i64,.int .i64,.sl 128000002,.sl 128000003,.sl 128000004,.sl 128000005,.sl 128000006,.sl 128000007],.row (.int .i64),.row y19,.row y27,.nest y4,.nest y38,.row (.int .i64),.row y46]⟩
def os:OS:=⟨.tup [],[.box [.int .i64,.int .i64,.int .i64,.int .i64,.int .i64,.int .i64,.int .i64,.int .i64,.int .i64,.int .i64,.int .i64,.int .i64,.int .i64,.int .i64,.int .i64,.int .i64,.sl 128000001,.int .i64,.int .i64,.int .i64,.int .i64,.int .i64,.int .i64,.int .i64,.int .i64,.int .i64,.int .i64,.sl 128000002,.sl 128000003,.sl 128000004,.sl 128000005,.sl 128000006,.sl 128000008],.row (.int .i64),.row y19,.row y27,.nest y4,.nest y38,.row (.int .i64),.gone,.row y46]⟩
def enc (r:R):Out:=os.enc r
def dec:Out→Option R:=os.dec
noncomputable def b0:Code:=subF [] Tryz.f112
noncomputable def K0 (k:Nat):Kt R:=kTop (cs k) Tryz.f112 dec
noncomputable def f (k:Nat):Y:=fun v=>held (runFn cs k Tryz.f112 (sh.args v) (sh.slots v) dec)
noncomputable def F:Y:=lm f
noncomputable def d (p0:g151.Y) (p1:g152.Y) (p2:g156.Y):Y:=fun (v0,v1,v2,v3,v4,v5,v6,v7,v8,v9,v10,v11,v12,v13,v14,v15,v16,v17,v18,v19,v20,v21,v22,v23,v24,v25,v26,v27,v28,v29,v30,v31,v32,v33) =>
bnd (p0 (v0,v1,v2,v3,v4,v5,v6,v7,v8,v9,v10,v11,v12,v13,v14,v15,v16,v17,v18,v19,v20,v21,v22,v23,v24,v25,v26,v27,v28,v29,v30,v31,v32,v33)) fun r=>bnd (p1 (r.1,r.2.1,r.2.2.1,r.2.2.2.1,r.2.2.2.2.1,r.2.2.2.2.2.1,r.2.2.2.2.2.2.1,r.2.2.2.2.2.2.2.1,r.2.2.2.2.2.2.2.2.1,r.2.2.2.2.2.2.2.2.2.1,r.2.2.2.2.2.2.2.2.2.2.1,r.2.2.2.2.2.2.2.2.2.2.2.1,r.2.2.2.2.2.2.2.2.2.2.2.2.1,r.2.2.2.2.2.2.2.2.2.2.2.2.2.1,r.2.2.2.2.2.2.2.2.2.2.2.2.2.2.1,r.2.2.2.2.2.2.2.2.2.2.2.2.2.2.2.1,r.2.2.2.2.2.2.2.2.2.2.2.2.2.2.2.2.1,r.2.2.2.2.2.2.2.2.2.2.2.2.2.2.2.2.2.1,r.2.2.2.2.2.2.2.2.2.2.2.2.2.2.2.2.2.2.1,r.2.2.2.2.2.2.2.2.2.2.2.2.2.2.2.2.2.2.2.1,r.2.2.2.2.2.2.2.2.2.2.2.2.2.2.2.2.2.2.2.2.1,r.2.2.2.2.2.2.2.2.2.2.2.2.2.2.2.2.2.2.2.2.2.1,r.2.2.2.2.2.2.2.2.2.2.2.2.2.2.2.2.2.2.2.2.2.2.1,r.2.2.2.2.2.2.2.2.2.2.2.2.2.2.2.2.2.2.2.2.2.2.2.1,r.2.2.2.2.2.2.2.2.2.2.2.2.2.2.2.2.2.2.2.2.2.2.2.2.1,r.2.2.2.2.2.2.2.2.2.2.2.2.2.2.2.2.2.2.2.2.2.2.2.2.2.1,r.2.2.2.2.2.2.2.2.2.2.2.2.2.2.2.2.2.2.2.2.2.2.2.2.2.2.1,r.2.2.2.2.2.2.2.2.2.2.2.2.2.2.2.2.2.2.2.2.2.2.2.2.2.2.2.1,r.2.2.2.2.2.2.2.2.2.2.2.2.2.2.2.2.2.2.2.2.2.2.2.2.2.2.2.2.1,r.2.2.2.2.2.2.2.2.2.2.2.2.2.2.2.2.2.2.2.2.2.2.2.2.2.2.2.2.2.1,r.2.2.2.2.2.2.2.2.2.2.2.2.2.2.2.2.2.2.2.2.2.2.2.2.2.2.2.2.2.2.1,r.2.2.2.2.2.2.2.2.2.2.2.2.2.2.2.2.2.2.2.2.2.2.2.2.2.2.2.2.2.2.2.1,r.2.2.2.2.2.2.2.2.2.2.2.2.2.2.2.2.2.2.2.2.2.2.2.2.2.2.2.2.2.2.2.2)) fun r=>bnd (p2 (wrap .i64 (r.1 - 1),r.2.1,r.2.2.1,r.2.2.2.1,r.2.2.2.2.1,r.2.2.2.2.2.1,r.2.2.2.2.2.2.1,r.2.2.2.2.2.2.2.1,r.2.2.2.2.2.2.2.2.1,r.2.2.2.2.2.2.2.2.2.1,r.2.2.2.2.2.2.2.2.2.2.1,r.2.2.2.2.2.2.2.2.2.2.2.1,r.2.2.2.2.2.2.2.2.2.2.2.2.1,r.2.2.2.2.2.2.2.2.2.2.2.2.2.1,r.2.2.2.2.2.2.2.2.2.2.2.2.2.2.1,r.2.2.2.2.2.2.2.2.2.2.2.2.2.2.2.1,r.2.2.2.2.2.2.2.2.2.2.2.2.2.2.2.2.1,r.2.2.2.2.2.2.2.2.2.2.2.2.2.2.2.2.2.1,r.2.2.2.2.2.2.2.2.2.2.2.2.2.2.2.2.2.2.1,r.2.2.2.2.2.2.2.2.2.2.2.2.2.2.2.2.2.2.2.1,r.2.2.2.2.2.2.2.2.2.2.2.2.2.2.2.2.2.2.2.2.1,r.2.2.2.2.2.2.2.2.2.2.2.2.2.2.2.2.2.2.2.2.2.1,r.2.2.2.2.2.2.2.2.2.2.2.2.2.2.2.2.2.2.2.2.2.2.1,r.2.2.2.2.2.2.2.2.2.2.2.2.2.2.2.2.2.2.2.2.2.2.2.1,r.2.2.2.2.2.2.2.2.2.2.2.2.2.2.2.2.2.2.2.2.2.2.2.2.1,r.2.2.2.2.2.2.2.2.2.2.2.2.2.2.2.2.2.2.2.2.2.2.2.2.2.1,r.2.2.2.2.2.2.2.2.2.2.2.2.2.2.2.2.2.2.2.2.2.2.2.2.2.2.1,r.2.2.2.2.2.2.2.2.2.2.2.2.2.2.2.2.2.2.2.2.2.2.2.2.2.2.2.1,r.2.2.2.2.2.2.2.2.2.2.2.2.2.2.2.2.2.2.2.2.2.2.2.2.2.2.2.2.1,r.2.2.2.2.2.2.2.2.2.2.2.2.2.2.2.2.2.2.2.2.2.2.2.2.2.2.2.2.2.1,r.2.2.2.2.2.2.2.2.2.2.2.2.2.2.2.2.2.2.2.2.2.2.2.2.2.2.2.2.2.2.1,r.2.2.2.2.2.2.2.2.2.2.2.2.2.2.2.2.2.2.2.2.2.2.2.2.2.2.2.2.2.2.2.1,r.2.2.2.2.2.2.2.2.2.2.2.2.2.2.2.2.2.2.2.2.2.2.2.2.2.2.2.2.2.2.2.2.1,r.2.2.2.2.2.2.2.2.2.2.2.2.2.2.2.2.2.2.2.2.2.2.2.2.2.2.2.2.2.2.2.2.2)) fun r=>some (r.1,r.2.1,r.2.2.1,r.2.2.2.1,r.2.2.2.2.1,r.2.2.2.2.2.1,r.2.2.2.2.2.2.1,r.2.2.2.2.2.2.2.1,r.2.2.2.2.2.2.2.2.1,r.2.2.2.2.2.2.2.2.2.1,r.2.2.2.2.2.2.2.2.2.2.1,r.2.2.2.2.2.2.2.2.2.2.2.1,r.2.2.2.2.2.2.2.2.2.2.2.2.1,r.2.2.2.2.2.2.2.2.2.2.2.2.2.1,r.2.2.2.2.2.2.2.2.2.2.2.2.2.2.1,r.2.2.2.2.2.2.2.2.2.2.2.2.2.2.2.1,r.2.2.2.2.2.2.2.2.2.2.2.2.2.2.2.2.1,r.2.2.2.2.2.2.2.2.2.2.2.2.2.2.2.2.2.1,r.2.2.2.2.2.2.2.2.2.2.2.2.2.2.2.2.2.2.1,r.2.2.2.2.2.2.2.2.2.2.2.2.2.2.2.2.2.2.2.1,r.2.2.2.2.2.2.2.2.2.2.2.2.2.2.2.2.2.2.2.2.1,r.2.2.2.2.2.2.2.2.2.2.2.2.2.2.2.2.2.2.2.2.2.1,r.2.2.2.2.2.2.2.2.2.2.2.2.2.2.2.2.2.2.2.2.2.2.1,r.2.2.2.2.2.2.2.2.2.2.2.2.2.2.2.2.2.2.2.2.2.2.2.1,r.2.2.2.2.2.2.2.2.2.2.2.2.2.2.2.2.2.2.2.2.2.2.2.2.1,r.2.2.2.2.2.2.2.2.2.2.2.2.2.2.2.2.2.2.2.2.2.2.2.2.2.1,r.2.2.2.2.2.2.2.2.2.2.2.2.2.2.2.2.2.2.2.2.2.2.2.2.2.2.1,r.2.2.2.2.2.2.2.2.2.2.2.2.2.2.2.2.2.2.2.2.2.2.2.2.2.2.2.1,r.2.2.2.2.2.2.2.2.2.2.2.2.2.2.2.2.2.2.2.2.2.2.2.2.2.2.2.2.1,r.2.2.2.2.2.2.2.2.2.2.2.2.2.2.2.2.2.2.2.2.2.2.2.2.2.2.2.2.2.1,r.2.2.2.2.2.2.2.2.2.2.2.2.2.2.2.2.2.2.2.2.2.2.2.2.2.2.2.2.2.2.1,r.2.2.2.2.2.2.2.2.2.2.2.2.2.2.2.2.2.2.2.2.2.2.2.2.2.2.2.2.2.2.2.1,r.2.2.2.2.2.2.2.2.2.2.2.2.2.2.2.2.2.2.2.2.2.2.2.2.2.2.2.2.2.2.2.2)
theorem d_cn (k0:Pr E g151.A g151.R) (k1:Pr E g152.A g152.R) (k2:Pr E g156.A g156.R):∀ v:A,Cn E (d k0.p k1.p k2.p v) fun i=>d (k0.q i) (k1.q i) (k2.q i) v:=fun (v0,v1,v2,v3,v4,v5,v6,v7,v8,v9,v10,v11,v12,v13,v14,v15,v16,v17,v18,v19,v20,v21,v22,v23,v24,v25,v26,v27,v28,v29,v30,v31,v32,v33)=>(.bnd (k0.h _) fun _=>(.bnd (k1.h _) fun _=>(.bnd (k2.h _) fun _=>.some)))
theorem f_b (k:Nat):∀ v:A,f k v = d (g151.f k) (g152.f k) (g156.f k) v:=fun (v0,v1,v2,v3,v4,v5,v6,v7,v8,v9,v10,v11,v12,v13,v14,v15,v16,v17,v18,v19,v20,v21,v22,v23,v24,v25,v26,v27,v28,v29,v30,v31,v32,v33)=>(held_eq _).trans (by kernel_rfl)
theorem F_of (v:A) {r:R} (h:d g151.F g152.F g156.F v = some r):F v = some r:=join_of (fun L=>f_b (L 0) v) (d_cn (lp g151.f 0) (lp g152.f 0) (lp g156.f 0) v) h
noncomputable def spec (k:Nat):List AV→List Slot→Option Ans:=specS sh os (f k)
theorem spec_ok (k:Nat):SpecOk Tryz.prog 112 (spec k):=specS_ok cs_ok Tryz.func112 rfl rfl (fun _ _=>held_eq _) k
end g157
noncomputable def tg157:=tg156.cons 112 g157.spec g157.spec_ok
namespace g158 -- heap_down
abbrev R:Type:=Bool × Int × Int × Int × Int × Int × Int × Int × Int × Int × Int × Int × Int × Int × Int × Int × Int × Int × Int × Int × Int × Int × Int × Int × Int × Int × Int × List Int × List (ByteArray × Int) × List (Int × Int × (Int × Int × Int) × Int × Int × Int × Int × Int × Int × Int × Int) × List (List Int) × List (List (Int × Int)) × List Int × List (Int × Int × (Int × Int) × Int × Int)
abbrev A:Type:=Int × Int × Int × Int × Int × Int × Int × Int × Int × Int × Int × Int × Int × Int × Int × Int × Int × Int × Int × Int × Int × Int × Int × Int × Int × Int × Int × Int × List Int × List (ByteArray × Int) × List (Int × Int × (Int × Int × Int) × Int × Int × Int × Int × Int × Int × Int × Int) × List (List Int) × List (List (Int × Int)) × List Int × List (Int × Int × (Int × Int) × Int × Int)
abbrev Y:=A→Option R
def lv:List (Nat × List Nat):=[(2000000,[6]),(2,[0,1,2,7]),(1000008,[0,1,2,7,9]),(1000011,[1,7])]
noncomputable def cs:Nat→Ctx:=ctxOf tis modes tg157.1 lv
theorem cs_ok (n:Nat):CtxOk Tryz.prog (cs n):=ctxOf_ok rfl tis_ok tg157.2 n
noncomputable def sh:AS:=⟨[.c (.ifp 217 128000000 0),.c (.int .i64),.c (.int .i64)],[.box [.int .i64,.int .i64,.int .i64,.int .i64,.int .i64,.int .i64,.int .i64,.int .i64,.int .i64,.int .i64,.int .i64,.int .i64,.int .i64,.int .i64,.int .i64,.int .i64,.sl 128000001,.int .i64,.int .i64,.int .i64,.int .i64,.int .i64,.int .i64,.int .i64,.int .i64,.int .i64,.int .i64,.sl 128000002,.sl 128000003,.sl 128000004,.sl 128000005,.sl 128000006,.sl 128000007],.row (.int .i64),.row y19,.row y27,.nest y4,.nest y38,.row (.int .i64),.row y46]⟩
def os:OS:=⟨.c .bool,[.box [.int .i64,.int .i64,.int .i64,.int .i64,.int .i64,.int .i64,.int .i64,.int .i64,.int .i64,.int .i64,.int .i64,.int .i64,.int .i64,.int .i64,.int .i64,.int .i64,.sl 128000001,.int .i64,.int .i64,.int .i64,.int .i64,.int .i64,.int .i64,.int .i64,.int .i64,.int .i64,.int .i64,.sl 128000002,.sl 128000003,.sl 128000004,.sl 128000005,.sl 128000006,.sl 128000007],.row (.int .i64),.row y19,.row y27,.nest y4,.nest y38,.row (.int .i64),.row y46]⟩
def enc (r:R):Out:=os.enc r
def dec:Out→Option R:=os.dec
noncomputable def b0:Code:=subF [] Tryz.f162
noncomputable def K0 (k:Nat):Kt R:=kTop (cs k) Tryz.f162 dec
noncomputable def c1000011:Code:=sub [1,1,1] b0
noncomputable def J1000011 ( k:Nat):Kt R:=kAt (cs k) (loopN cs k) [1,1,1] b0 (K0 k)
noncomputable def b2:Code:=sub [1,1,0,0,0] b0
noncomputable def K2 ( k:Nat):Kt R:=kAt (cs k) (loopN cs k) [1,1,0,0] b0 (K0 k)
noncomputable def c1000008:Code:=sub [0,1,1,1,1] b2
noncomputable def J1000008 ( k m1:Nat):Kt R:=kAt (cs m1) (loopN cs m1) [0,1,1,1,1] b2 (kLoop cs m1 b2 (K2 k))
abbrev T0:Type:=Int × Int × Int × Int × Int × Int × Int × Int × Int × Int × Int × Int × Int × Int × Int × Int × Int × Int × Int × Int × Int × Int × Int × Int × Int × Int × Int × Int × Int × List Int × List (ByteArray × Int) × List (Int × Int × (Int × Int × Int) × Int × Int × Int × Int × Int × Int × Int × Int) × List (List Int) × List (List (Int × Int)) × List Int × List (Int × Int × (Int × Int) × Int × Int)
abbrev Y0:=T0→Option R
noncomputable def s0:T0→St:=fun (v0,v1,v2,v3,v4,v5,v6,v7,v8,v9,v10,v11,v12,v13,v14,v15,v16,v17,v18,v19,v20,v21,v22,v23,v24,v25,v26,v27,v28,v29,v30,v31,v32,v33,v34,v35)=>⟨48,8,[(0,.c (.ifp 217 128000000 0)),(1,.c (.int .i64 v0)),(2,.c (.int .i64 v1)),(7,.c (.int .i64 v2))],[],[(128000000,.box [.int .i64 v3,.int .i64 v4,.int .i64 v5,.int .i64 v6,.int .i64 v7,.int .i64 v8,.int .i64 v9,.int .i64 v10,.int .i64 v11,.int .i64 v12,.int .i64 v13,.int .i64 v14,.int .i64 v15,.int .i64 v16,.int .i64 v17,.int .i64 v18,.sl 128000001,.int .i64 v19,.int .i64 v20,.int .i64 v21,.int .i64 v22,.int .i64 v23,.int .i64 v24,.int .i64 v25,.int .i64 v26,.int .i64 v27,.int .i64 v28,.sl 128000002,.sl 128000003,.sl 128000004,.sl 128000005,.sl 128000006,.sl 128000007]),(128000001,.row (.int .i64) v29),(128000002,.row y19 v30),(128000003,.row y27 v31),(128000004,.nest y4 v32 .none),(128000005,.nest y38 v33 .none),(128000006,.row (.int .i64) v34),(128000007,.row y46 v35),(256000000,.gone)]⟩
noncomputable def l0 ( k n:Nat) (v:T0):Option R:=held (loopN cs n b2 (K2 k) (s0 v))
noncomputable def D0 (v:T0):Option R:=lim fun L=>l0 (L 0) (L 1) v
theorem D0_cn (v:T0):Cn late (D0 v) fun L=>l0 (L 0) (L 1) v:=of_lim
abbrev T1:Type:=Int × Int × Int × Int × Int × Int × Int × Int × Int × Int × Int × Int × Int × Int × Int × Int × Int × Int × Int × Int × Int × Int × Int × Int × Int × Int × Int × Int × List Int × List (ByteArray × Int) × List (Int × Int × (Int × Int × Int) × Int × Int × Int × Int × Int × Int × Int × Int) × List (List Int) × List (List (Int × Int)) × List Int × List (Int × Int × (Int × Int) × Int × Int)
abbrev Y1:=T1→Option R
noncomputable def s1:T1→St:=fun (v0,v1,v2,v3,v4,v5,v6,v7,v8,v9,v10,v11,v12,v13,v14,v15,v16,v17,v18,v19,v20,v21,v22,v23,v24,v25,v26,v27,v28,v29,v30,v31,v32,v33,v34)=>⟨48,8,[(1,.c (.int .i64 v0)),(7,.c (.int .i64 v1))],[],[(128000000,.box [.int .i64 v2,.int .i64 v3,.int .i64 v4,.int .i64 v5,.int .i64 v6,.int .i64 v7,.int .i64 v8,.int .i64 v9,.int .i64 v10,.int .i64 v11,.int .i64 v12,.int .i64 v13,.int .i64 v14,.int .i64 v15,.int .i64 v16,.int .i64 v17,.sl 128000001,.int .i64 v18,.int .i64 v19,.int .i64 v20,.int .i64 v21,.int .i64 v22,.int .i64 v23,.int .i64 v24,.int .i64 v25,.int .i64 v26,.int .i64 v27,.sl 128000002,.sl 128000003,.sl 128000004,.sl 128000005,.sl 128000006,.sl 128000007]),(128000001,.row (.int .i64) v28),(128000002,.row y19 v29),(128000003,.row y27 v30),(128000004,.nest y4 v31 .none),(128000005,.nest y38 v32 .none),(128000006,.row (.int .i64) v33),(128000007,.row y46 v34),(256000000,.gone)]⟩
noncomputable def l1 ( k:Nat) (v:T1):Option R:=held (run (cs k) (loopN cs k) c1000011 (J1000011 k) (s1 v))
noncomputable def D1 (v:T1):Option R:=lim fun L=>l1 (L 0) v
theorem D1_cn (v:T1):Cn late (D1 v) fun L=>l1 (L 0) v:=of_lim
abbrev T2:Type:=Int × Int × Int × Int × Int × Int × Int × Int × Int × Int × Int × Int × Int × Int × Int × Int × Int × Int × Int × Int × Int × Int × Int × Int × Int × Int × Int × Int × Int × Int × List Int × List (ByteArray × Int) × List (Int × Int × (Int × Int × Int) × Int × Int × Int × Int × Int × Int × Int × Int) × List (List Int) × List (List (Int × Int)) × List Int × List (Int × Int × (Int × Int) × Int × Int)
abbrev Y2:=T2→Option R
noncomputable def s2:T2→St:=fun (v0,v1,v2,v3,v4,v5,v6,v7,v8,v9,v10,v11,v12,v13,v14,v15,v16,v17,v18,v19,v20,v21,v22,v23,v24,v25,v26,v27,v28,v29,v30,v31,v32,v33,v34,v35,v36)=>⟨48,8,[(0,.c (.ifp 217 128000000 0)),(1,.c (.int .i64 v0)),(2,.c (.int .i64 v1)),(7,.c (.int .i64 v2)),(9,.c (.int .i64 v3))],[],[(128000000,.box [.int .i64 v4,.int .i64 v5,.int .i64 v6,.int .i64 v7,.int .i64 v8,.int .i64 v9,.int .i64 v10,.int .i64 v11,.int .i64 v12,.int .i64 v13,.int .i64 v14,.int .i64 v15,.int .i64 v16,.int .i64 v17,.int .i64 v18,.int .i64 v19,.sl 128000001,.int .i64 v20,.int .i64 v21,.int .i64 v22,.int .i64 v23,.int .i64 v24,.int .i64 v25,.int .i64 v26,.int .i64 v27,.int .i64 v28,.int .i64 v29,.sl 128000002,.sl 128000003,.sl 128000004,.sl 128000005,.sl 128000006,.sl 128000007]),(128000001,.row (.int .i64) v30),(128000002,.row y19 v31),(128000003,.row y27 v32),(128000004,.nest y4 v33 .none),(128000005,.nest y38 v34 .none),(128000006,.row (.int .i64) v35),(128000007,.row y46 v36),(256000000,.gone)]⟩
noncomputable def l2 ( k m1:Nat) (v:T2):Option R:=held (run (cs m1) (loopN cs m1) c1000008 (J1000008 k m1) (s2 v))
noncomputable def D2 (v:T2):Option R:=lim fun L=>l2 (L 0) (L 1) v
theorem D2_cn (v:T2):Cn late (D2 v) fun L=>l2 (L 0) (L 1) v:=of_lim
noncomputable def d0 (p0:Y1) (p1:g154.Y) (p2:Y2):Y0:=fun (v0,v1,v2,v3,v4,v5,v6,v7,v8,v9,v10,v11,v12,v13,v14,v15,v16,v17,v18,v19,v20,v21,v22,v23,v24,v25,v26,v27,v28,v29,v30,v31,v32,v33,v34,v35) =>
br (decide (v1 ≤ wrap .i64 (wrap .i64 (2 * v2) + 1)) || decide (wrap .i64 (wrap .i64 (2 * v2) + 1) < 0)) (p0 (v0,v2,v3,v4,v5,v6,v7,v8,v9,v10,v11,v12,v13,v14,v15,v16,v17,v18,v19,v20,v21,v22,v23,v24,v25,v26,v27,v28,v29,v30,v31,v32,v33,v34,v35)) (br (decide (wrap .i64 (wrap .i64 (wrap .i64 (2 * v2) + 1) + 1) < v1) == true) (bnd (p1 (wrap .i64 (wrap .i64 (wrap .i64 (2 * v2) + 1) + 1),wrap .i64 (wrap .i64 (2 * v2) + 1),v3,v4,v5,v6,v7,v8,v9,v10,v11,v12,v13,v14,v15,v16,v17,v18,v19,v20,v21,v22,v23,v24,v25,v26,v27,v28,v29,v30,v31,v32,v33,v34,v35)) fun r=>br r.1 (p2 (v0,v1,v2,wrap .i64 (wrap .i64 (wrap .i64 (2 * v2) + 1) + 1),r.2.1,r.2.2.1,r.2.2.2.1,r.2.2.2.2.1,r.2.2.2.2.2.1,r.2.2.2.2.2.2.1,r.2.2.2.2.2.2.2.1,r.2.2.2.2.2.2.2.2.1,r.2.2.2.2.2.2.2.2.2.1,r.2.2.2.2.2.2.2.2.2.2.1,r.2.2.2.2.2.2.2.2.2.2.2.1,r.2.2.2.2.2.2.2.2.2.2.2.2.1,r.2.2.2.2.2.2.2.2.2.2.2.2.2.1,r.2.2.2.2.2.2.2.2.2.2.2.2.2.2.1,r.2.2.2.2.2.2.2.2.2.2.2.2.2.2.2.1,r.2.2.2.2.2.2.2.2.2.2.2.2.2.2.2.2.1,r.2.2.2.2.2.2.2.2.2.2.2.2.2.2.2.2.2.1,r.2.2.2.2.2.2.2.2.2.2.2.2.2.2.2.2.2.2.1,r.2.2.2.2.2.2.2.2.2.2.2.2.2.2.2.2.2.2.2.1,r.2.2.2.2.2.2.2.2.2.2.2.2.2.2.2.2.2.2.2.2.1,r.2.2.2.2.2.2.2.2.2.2.2.2.2.2.2.2.2.2.2.2.2.1,r.2.2.2.2.2.2.2.2.2.2.2.2.2.2.2.2.2.2.2.2.2.2.1,r.2.2.2.2.2.2.2.2.2.2.2.2.2.2.2.2.2.2.2.2.2.2.2.1,r.2.2.2.2.2.2.2.2.2.2.2.2.2.2.2.2.2.2.2.2.2.2.2.2.1,r.2.2.2.2.2.2.2.2.2.2.2.2.2.2.2.2.2.2.2.2.2.2.2.2.2.1,r.2.2.2.2.2.2.2.2.2.2.2.2.2.2.2.2.2.2.2.2.2.2.2.2.2.2.1,r.2.2.2.2.2.2.2.2.2.2.2.2.2.2.2.2.2.2.2.2.2.2.2.2.2.2.2.1,r.2.2.2.2.2.2.2.2.2.2.2.2.2.2.2.2.2.2.2.2.2.2.2.2.2.2.2.2.1,r.2.2.2.2.2.2.2.2.2.2.2.2.2.2.2.2.2.2.2.2.2.2.2.2.2.2.2.2.2.1,r.2.2.2.2.2.2.2.2.2.2.2.2.2.2.2.2.2.2.2.2.2.2.2.2.2.2.2.2.2.2.1,r.2.2.2.2.2.2.2.2.2.2.2.2.2.2.2.2.2.2.2.2.2.2.2.2.2.2.2.2.2.2.2.1,r.2.2.2.2.2.2.2.2.2.2.2.2.2.2.2.2.2.2.2.2.2.2.2.2.2.2.2.2.2.2.2.2.1,r.2.2.2.2.2.2.2.2.2.2.2.2.2.2.2.2.2.2.2.2.2.2.2.2.2.2.2.2.2.2.2.2.2)) (p2 (v0,v1,v2,wrap .i64 (wrap .i64 (2 * v2) + 1),r.2.1,r.2.2.1,r.2.2.2.1,r.2.2.2.2.1,r.2.2.2.2.2.1,r.2.2.2.2.2.2.1,r.2.2.2.2.2.2.2.1,r.2.2.2.2.2.2.2.2.1,r.2.2.2.2.2.2.2.2.2.1,r.2.2.2.2.2.2.2.2.2.2.1,r.2.2.2.2.2.2.2.2.2.2.2.1,r.2.2.2.2.2.2.2.2.2.2.2.2.1,r.2.2.2.2.2.2.2.2.2.2.2.2.2.1,r.2.2.2.2.2.2.2.2.2.2.2.2.2.2.1,r.2.2.2.2.2.2.2.2.2.2.2.2.2.2.2.1,r.2.2.2.2.2.2.2.2.2.2.2.2.2.2.2.2.1,r.2.2.2.2.2.2.2.2.2.2.2.2.2.2.2.2.2.1,r.2.2.2.2.2.2.2.2.2.2.2.2.2.2.2.2.2.2.1,r.2.2.2.2.2.2.2.2.2.2.2.2.2.2.2.2.2.2.2.1,r.2.2.2.2.2.2.2.2.2.2.2.2.2.2.2.2.2.2.2.2.1,r.2.2.2.2.2.2.2.2.2.2.2.2.2.2.2.2.2.2.2.2.2.1,r.2.2.2.2.2.2.2.2.2.2.2.2.2.2.2.2.2.2.2.2.2.2.1,r.2.2.2.2.2.2.2.2.2.2.2.2.2.2.2.2.2.2.2.2.2.2.2.1,r.2.2.2.2.2.2.2.2.2.2.2.2.2.2.2.2.2.2.2.2.2.2.2.2.1,r.2.2.2.2.2.2.2.2.2.2.2.2.2.2.2.2.2.2.2.2.2.2.2.2.2.1,r.2.2.2.2.2.2.2.2.2.2.2.2.2.2.2.2.2.2.2.2.2.2.2.2.2.2.1,r.2.2.2.2.2.2.2.2.2.2.2.2.2.2.2.2.2.2.2.2.2.2.2.2.2.2.2.1,r.2.2.2.2.2.2.2.2.2.2.2.2.2.2.2.2.2.2.2.2.2.2.2.2.2.2.2.2.1,r.2.2.2.2.2.2.2.2.2.2.2.2.2.2.2.2.2.2.2.2.2.2.2.2.2.2.2.2.2.1,r.2.2.2.2.2.2.2.2.2.2.2.2.2.2.2.2.2.2.2.2.2.2.2.2.2.2.2.2.2.2.1,r.2.2.2.2.2.2.2.2.2.2.2.2.2.2.2.2.2.2.2.2.2.2.2.2.2.2.2.2.2.2.2.1,r.2.2.2.2.2.2.2.2.2.2.2.2.2.2.2.2.2.2.2.2.2.2.2.2.2.2.2.2.2.2.2.2.1,r.2.2.2.2.2.2.2.2.2.2.2.2.2.2.2.2.2.2.2.2.2.2.2.2.2.2.2.2.2.2.2.2.2))) (p2 (v0,v1,v2,wrap .i64 (wrap .i64 (2 * v2) + 1),v3,v4,v5,v6,v7,v8,v9,v10,v11,v12,v13,v14,v15,v16,v17,v18,v19,v20,v21,v22,v23,v24,v25,v26,v27,v28,v29,v30,v31,v32,v33,v34,v35)))
theorem d0_cn (k0:Pr E T1 R) (k1:Pr E g154.A g154.R) (k2:Pr E T2 R):∀ v:T0,Cn E (d0 k0.p k1.p k2.p v) fun i=>d0 (k0.q i) (k1.q i) (k2.q i) v:=fun (v0,v1,v2,v3,v4,v5,v6,v7,v8,v9,v10,v11,v12,v13,v14,v15,v16,v17,v18,v19,v20,v21,v22,v23,v24,v25,v26,v27,v28,v29,v30,v31,v32,v33,v34,v35)=>(.br (k0.h _) (.br (.bnd (k1.h _) fun _=>(.br (k2.h _) (k2.h _))) (k2.h _)))
theorem l0_b ( k m1:Nat):∀ v:T0,run (cs m1) (loopN cs m1) b2 (kLoop cs m1 b2 (K2 k)) (s0 v) = d0 (l1 k) (g154.f m1) (l2 k m1) v:=fun (v0,v1,v2,v3,v4,v5,v6,v7,v8,v9,v10,v11,v12,v13,v14,v15,v16,v17,v18,v19,v20,v21,v22,v23,v24,v25,v26,v27,v28,v29,v30,v31,v32,v33,v34,v35)=>by kernel_rfl
theorem D0_of (v:T0) {r:R} (h:d0 D1 g154.F D2 v = some r):D0 v = some r:=loop_of 1 (fun L n hn=>by show l0 (L 0) (L 1) v = _; rw [hn]; exact (held_eq _).trans ((loopN_succ _ _ _ _ _).trans (l0_b (L 0) n v))) (d0_cn (.mk fun v=>(D1_cn v).re [0]) (lp g154.f 1) (.mk fun v=>(D2_cn v).re [0,1]) v) h
def d1:Y1:=fun (v0,v1,v2,v3,v4,v5,v6,v7,v8,v9,v10,v11,v12,v13,v14,v15,v16,v17,v18,v19,v20,v21,v22,v23,v24,v25,v26,v27,v28,v29,v30,v31,v32,v33,v34) =>
some (decide (v0 < v1),v2,v3,v4,v5,v6,v7,v8,v9,v10,v11,v12,v13,v14,v15,v16,v17,v18,v19,v20,v21,v22,v23,v24,v25,v26,v27,v28,v29,v30,v31,v32,v33,v34)
theorem d1_cn:∀ v:T1,Cn E (d1 v) fun i=>d1 v:=fun (v0,v1,v2,v3,v4,v5,v6,v7,v8,v9,v10,v11,v12,v13,v14,v15,v16,v17,v18,v19,v20,v21,v22,v23,v24,v25,v26,v27,v28,v29,v30,v31,v32,v33,v34)=>.some
theorem l1_b ( k:Nat):∀ v:T1,run (cs k) (loopN cs k) c1000011 (J1000011 k) (s1 v) = d1 v:=fun (v0,v1,v2,v3,v4,v5,v6,v7,v8,v9,v10,v11,v12,v13,v14,v15,v16,v17,v18,v19,v20,v21,v22,v23,v24,v25,v26,v27,v28,v29,v30,v31,v32,v33,v34)=>by kernel_rfl
theorem D1_of (v:T1) {r:R} (h:d1 v = some r):D1 v = some r:=join_of (fun L=>(held_eq _).trans (l1_b (L 0) v)) (d1_cn v) h
noncomputable def d2 (p0:g154.Y) (p1:Y1) (p2:g155.Y) (p3:Y0):Y2:=fun (v0,v1,v2,v3,v4,v5,v6,v7,v8,v9,v10,v11,v12,v13,v14,v15,v16,v17,v18,v19,v20,v21,v22,v23,v24,v25,v26,v27,v28,v29,v30,v31,v32,v33,v34,v35,v36) =>
bnd (p0 (v3,v2,v4,v5,v6,v7,v8,v9,v10,v11,v12,v13,v14,v15,v16,v17,v18,v19,v20,v21,v22,v23,v24,v25,v26,v27,v28,v29,v30,v31,v32,v33,v34,v35,v36)) fun r=>br (!r.1) (p1 (v0,v2,r.2.1,r.2.2.1,r.2.2.2.1,r.2.2.2.2.1,r.2.2.2.2.2.1,r.2.2.2.2.2.2.1,r.2.2.2.2.2.2.2.1,r.2.2.2.2.2.2.2.2.1,r.2.2.2.2.2.2.2.2.2.1,r.2.2.2.2.2.2.2.2.2.2.1,r.2.2.2.2.2.2.2.2.2.2.2.1,r.2.2.2.2.2.2.2.2.2.2.2.2.1,r.2.2.2.2.2.2.2.2.2.2.2.2.2.1,r.2.2.2.2.2.2.2.2.2.2.2.2.2.2.1,r.2.2.2.2.2.2.2.2.2.2.2.2.2.2.2.1,r.2.2.2.2.2.2.2.2.2.2.2.2.2.2.2.2.1,r.2.2.2.2.2.2.2.2.2.2.2.2.2.2.2.2.2.1,r.2.2.2.2.2.2.2.2.2.2.2.2.2.2.2.2.2.2.1,r.2.2.2.2.2.2.2.2.2.2.2.2.2.2.2.2.2.2.2.1,r.2.2.2.2.2.2.2.2.2.2.2.2.2.2.2.2.2.2.2.2.1,r.2.2.2.2.2.2.2.2.2.2.2.2.2.2.2.2.2.2.2.2.2.1,r.2.2.2.2.2.2.2.2.2.2.2.2.2.2.2.2.2.2.2.2.2.2.1,r.2.2.2.2.2.2.2.2.2.2.2.2.2.2.2.2.2.2.2.2.2.2.2.1,r.2.2.2.2.2.2.2.2.2.2.2.2.2.2.2.2.2.2.2.2.2.2.2.2.1,r.2.2.2.2.2.2.2.2.2.2.2.2.2.2.2.2.2.2.2.2.2.2.2.2.2.1,r.2.2.2.2.2.2.2.2.2.2.2.2.2.2.2.2.2.2.2.2.2.2.2.2.2.2.1,r.2.2.2.2.2.2.2.2.2.2.2.2.2.2.2.2.2.2.2.2.2.2.2.2.2.2.2.1,r.2.2.2.2.2.2.2.2.2.2.2.2.2.2.2.2.2.2.2.2.2.2.2.2.2.2.2.2.1,r.2.2.2.2.2.2.2.2.2.2.2.2.2.2.2.2.2.2.2.2.2.2.2.2.2.2.2.2.2.1,r.2.2.2.2.2.2.2.2.2.2.2.2.2.2.2.2.2.2.2.2.2.2.2.2.2.2.2.2.2.2.1,r.2.2.2.2.2.2.2.2.2.2.2.2.2.2.2.2.2.2.2.2.2.2.2.2.2.2.2.2.2.2.2.1,r.2.2.2.2.2.2.2.2.2.2.2.2.2.2.2.2.2.2.2.2.2.2.2.2.2.2.2.2.2.2.2.2.1,r.2.2.2.2.2.2.2.2.2.2.2.2.2.2.2.2.2.2.2.2.2.2.2.2.2.2.2.2.2.2.2.2.2)) (bnd (p2 (v2,v3,r.2.1,r.2.2.1,r.2.2.2.1,r.2.2.2.2.1,r.2.2.2.2.2.1,r.2.2.2.2.2.2.1,r.2.2.2.2.2.2.2.1,r.2.2.2.2.2.2.2.2.1,r.2.2.2.2.2.2.2.2.2.1,r.2.2.2.2.2.2.2.2.2.2.1,r.2.2.2.2.2.2.2.2.2.2.2.1,r.2.2.2.2.2.2.2.2.2.2.2.2.1,r.2.2.2.2.2.2.2.2.2.2.2.2.2.1,r.2.2.2.2.2.2.2.2.2.2.2.2.2.2.1,r.2.2.2.2.2.2.2.2.2.2.2.2.2.2.2.1,r.2.2.2.2.2.2.2.2.2.2.2.2.2.2.2.2.1,r.2.2.2.2.2.2.2.2.2.2.2.2.2.2.2.2.2.1,r.2.2.2.2.2.2.2.2.2.2.2.2.2.2.2.2.2.2.1,r.2.2.2.2.2.2.2.2.2.2.2.2.2.2.2.2.2.2.2.1,r.2.2.2.2.2.2.2.2.2.2.2.2.2.2.2.2.2.2.2.2.1,r.2.2.2.2.2.2.2.2.2.2.2.2.2.2.2.2.2.2.2.2.2.1,r.2.2.2.2.2.2.2.2.2.2.2.2.2.2.2.2.2.2.2.2.2.2.1,r.2.2.2.2.2.2.2.2.2.2.2.2.2.2.2.2.2.2.2.2.2.2.2.1,r.2.2.2.2.2.2.2.2.2.2.2.2.2.2.2.2.2.2.2.2.2.2.2.2.1,r.2.2.2.2.2.2.2.2.2.2.2.2.2.2.2.2.2.2.2.2.2.2.2.2.2.1,r.2.2.2.2.2.2.2.2.2.2.2.2.2.2.2.2.2.2.2.2.2.2.2.2.2.2.1,r.2.2.2.2.2.2.2.2.2.2.2.2.2.2.2.2.2.2.2.2.2.2.2.2.2.2.2.1,r.2.2.2.2.2.2.2.2.2.2.2.2.2.2.2.2.2.2.2.2.2.2.2.2.2.2.2.2.1,r.2.2.2.2.2.2.2.2.2.2.2.2.2.2.2.2.2.2.2.2.2.2.2.2.2.2.2.2.2.1,r.2.2.2.2.2.2.2.2.2.2.2.2.2.2.2.2.2.2.2.2.2.2.2.2.2.2.2.2.2.2.1,r.2.2.2.2.2.2.2.2.2.2.2.2.2.2.2.2.2.2.2.2.2.2.2.2.2.2.2.2.2.2.2.1,r.2.2.2.2.2.2.2.2.2.2.2.2.2.2.2.2.2.2.2.2.2.2.2.2.2.2.2.2.2.2.2.2.1,r.2.2.2.2.2.2.2.2.2.2.2.2.2.2.2.2.2.2.2.2.2.2.2.2.2.2.2.2.2.2.2.2.2)) fun r=>p3 (v0,v1,v3,r.1,r.2.1,r.2.2.1,r.2.2.2.1,r.2.2.2.2.1,r.2.2.2.2.2.1,r.2.2.2.2.2.2.1,r.2.2.2.2.2.2.2.1,r.2.2.2.2.2.2.2.2.1,r.2.2.2.2.2.2.2.2.2.1,r.2.2.2.2.2.2.2.2.2.2.1,r.2.2.2.2.2.2.2.2.2.2.2.1,r.2.2.2.2.2.2.2.2.2.2.2.2.1,r.2.2.2.2.2.2.2.2.2.2.2.2.2.1,r.2.2.2.2.2.2.2.2.2.2.2.2.2.2.1,r.2.2.2.2.2.2.2.2.2.2.2.2.2.2.2.1,r.2.2.2.2.2.2.2.2.2.2.2.2.2.2.2.2.1,r.2.2.2.2.2.2.2.2.2.2.2.2.2.2.2.2.2.1,r.2.2.2.2.2.2.2.2.2.2.2.2.2.2.2.2.2.2.1,r.2.2.2.2.2.2.2.2.2.2.2.2.2.2.2.2.2.2.2.1,r.2.2.2.2.2.2.2.2.2.2.2.2.2.2.2.2.2.2.2.2.1,r.2.2.2.2.2.2.2.2.2.2.2.2.2.2.2.2.2.2.2.2.2.1,r.2.2.2.2.2.2.2.2.2.2.2.2.2.2.2.2.2.2.2.2.2.2.1,r.2.2.2.2.2.2.2.2.2.2.2.2.2.2.2.2.2.2.2.2.2.2.2.1,r.2.2.2.2.2.2.2.2.2.2.2.2.2.2.2.2.2.2.2.2.2.2.2.2.1,r.2.2.2.2.2.2.2.2.2.2.2.2.2.2.2.2.2.2.2.2.2.2.2.2.2.1,r.2.2.2.2.2.2.2.2.2.2.2.2.2.2.2.2.2.2.2.2.2.2.2.2.2.2.1,r.2.2.2.2.2.2.2.2.2.2.2.2.2.2.2.2.2.2.2.2.2.2.2.2.2.2.2.1,r.2.2.2.2.2.2.2.2.2.2.2.2.2.2.2.2.2.2.2.2.2.2.2.2.2.2.2.2.1,r.2.2.2.2.2.2.2.2.2.2.2.2.2.2.2.2.2.2.2.2.2.2.2.2.2.2.2.2.2.1,r.2.2.2.2.2.2.2.2.2.2.2.2.2.2.2.2.2.2.2.2.2.2.2.2.2.2.2.2.2.2.1,r.2.2.2.2.2.2.2.2.2.2.2.2.2.2.2.2.2.2.2.2.2.2.2.2.2.2.2.2.2.2.2.1,r.2.2.2.2.2.2.2.2.2.2.2.2.2.2.2.2.2.2.2.2.2.2.2.2.2.2.2.2.2.2.2.2))
theorem d2_cn (k0:Pr E g154.A g154.R) (k1:Pr E T1 R) (k2:Pr E g155.A g155.R) (k3:Pr E T0 R):∀ v:T2,Cn E (d2 k0.p k1.p k2.p k3.p v) fun i=>d2 (k0.q i) (k1.q i) (k2.q i) (k3.q i) v:=fun (v0,v1,v2,v3,v4,v5,v6,v7,v8,v9,v10,v11,v12,v13,v14,v15,v16,v17,v18,v19,v20,v21,v22,v23,v24,v25,v26,v27,v28,v29,v30,v31,v32,v33,v34,v35,v36)=>(.bnd (k0.h _) fun _=>(.br (k1.h _) (.bnd (k2.h _) fun _=>(k3.h _))))
theorem l2_b ( k m1:Nat):∀ v:T2,run (cs m1) (loopN cs m1) c1000008 (J1000008 k m1) (s2 v) = d2 (g154.f m1) (l1 k) (g155.f m1) (l0 k m1) v:=fun (v0,v1,v2,v3,v4,v5,v6,v7,v8,v9,v10,v11,v12,v13,v14,v15,v16,v17,v18,v19,v20,v21,v22,v23,v24,v25,v26,v27,v28,v29,v30,v31,v32,v33,v34,v35,v36)=>by kernel_rfl
theorem D2_of (v:T2) {r:R} (h:d2 g154.F D1 g155.F D0 v = some r):D2 v = some r:=join_of (fun L=>(held_eq _).trans (l2_b (L 0) (L 1) v)) (d2_cn (lp g154.f 1) (.mk fun v=>(D1_cn v).re [0]) (lp g155.f 1) (.mk fun v=>(D0_cn v).re [0,1]) v) h
noncomputable def f (k:Nat):Y:=fun v=>held (runFn cs k Tryz.f162 (sh.args v) (sh.slots v) dec)
noncomputable def F:Y:=lm f
def d (p0:Y0):Y:=fun (v0,v1,v2,v3,v4,v5,v6,v7,v8,v9,v10,v11,v12,v13,v14,v15,v16,v17,v18,v19,v20,v21,v22,v23,v24,v25,v26,v27,v28,v29,v30,v31,v32,v33,v34) =>
p0 (v0,v1,v0,v2,v3,v4,v5,v6,v7,v8,v9,v10,v11,v12,v13,v14,v15,v16,v17,v18,v19,v20,v21,v22,v23,v24,v25,v26,v27,v28,v29,v30,v31,v32,v33,v34)
theorem d_cn (k0:Pr E T0 R):∀ v:A,Cn E (d k0.p v) fun i=>d (k0.q i) v:=fun (v0,v1,v2,v3,v4,v5,v6,v7,v8,v9,v10,v11,v12,v13,v14,v15,v16,v17,v18,v19,v20,v21,v22,v23,v24,v25,v26,v27,v28,v29,v30,v31,v32,v33,v34)=>(k0.h _)
theorem f_b (k:Nat):∀ v:A,f k v = d (l0 k k) v:=fun (v0,v1,v2,v3,v4,v5,v6,v7,v8,v9,v10,v11,v12,v13,v14,v15,v16,v17,v18,v19,v20,v21,v22,v23,v24,v25,v26,v27,v28,v29,v30,v31,v32,v33,v34)=>(held_eq _).trans (by kernel_rfl)
theorem F_of (v:A) {r:R} (h:d D0 v = some r):F v = some r:=join_of (fun L=>f_b (L 0) v) (d_cn (.mk fun v=>(D0_cn v).re [0,0]) v) h
noncomputable def spec (k:Nat):List AV→List Slot→Option Ans:=specS sh os (f k)
theorem spec_ok (k:Nat):SpecOk Tryz.prog 162 (spec k):=specS_ok cs_ok Tryz.func162 rfl rfl (fun _ _=>held_eq _) k
end g158
noncomputable def tg158:=tg157.cons 162 g158.spec g158.spec_ok
namespace g159 -- plan_queue_Pop
abbrev R:Type:=(Int × Int × (Int × Int) × Int × Int) × Int × Int × Int × Int × Int × Int × Int × Int × Int × Int × Int × Int × Int × Int × Int × Int × Int × Int × Int × Int × Int × Int × Int × Int × Int × Int × Int × Int × List Int × List (ByteArray × Int) × List (Int × Int × (Int × Int × Int) × Int × Int × Int × Int × Int × Int × Int × Int) × List (List Int) × List (List (Int × Int)) × List Int × List (Int × Int × (Int × Int) × Int × Int)
abbrev A:Type:=Int × Int × Int × Int × Int × Int × Int × Int × Int × Int × Int × Int × Int × Int × Int × Int × Int × Int × Int × Int × Int × Int × Int × Int × Int × Int × List Int × List (ByteArray × Int) × List (Int × Int × (Int × Int × Int) × Int × Int × Int × Int × Int × Int × Int × Int) × List (List Int) × List (List (Int × Int)) × List Int × List (Int × Int × (Int × Int) × Int × Int)
abbrev Y:=A→Option R
def lv:List (Nat × List Nat):=[(2000000,[2])]
noncomputable def cs:Nat→Ctx:=ctxOf tis modes tg158.1 lv
theorem cs_ok (n:Nat):CtxOk Tryz.prog (cs n):=ctxOf_ok rfl tis_ok tg158.2 n
noncomputable def sh:AS:=⟨[(.c (.ptr 128000000 0))],[.box [.int .i64,.int .i64,.int .i64,.int .i64,.int .i64,.int .i64,.int .i64,.int .i64,.int .i64,.int .i64,.int .i64,.int .i64,.int .i64,.int .i64,.int .i64,.int .i64,.sl 128000001,.int .i64,.int .i64,.int .i64,.int .i64,.int .i64,.int .i64,.int .i64,.int .i64,.int .i64,.int .i64,.sl 128000002,.sl 128000003,.sl 128000004,.sl 128000005,.sl 128000006,.sl 128000007],.row (.int .i64),.row y19,.row y27,.nest y4,.nest y38,.row (.int .i64),.row y46]⟩
def os:OS:=⟨.c (.ifd 96 .true y46),[.box [.int .i64,.int .i64,.int .i64,.int .i64,.int .i64,.int .i64,.int .i64,.int .i64,.int .i64,.int .i64,.int .i64,.int .i64,.int .i64,.int .i64,.int .i64,.int .i64,.sl 128000001,.int .i64,.int .i64,.int .i64,.int .i64,.int .i64,.int .i64,.int .i64,.int .i64,.int .i64,.int .i64,.sl 128000002,.sl 128000003,.sl 128000004,.sl 128000005,.sl 128000006,.sub 128000007],.row (.int .i64),.row y19,.row y27,.nest y4,.nest y38,.row (.int .i64),.row y46]⟩
def enc (r:R):Out:=os.enc r
def dec:Out→Option R:=os.dec
noncomputable def b0:Code:=subF [] Tryz.f242
noncomputable def K0 (k:Nat):Kt R:=kTop (cs k) Tryz.f242 dec
noncomputable def f (k:Nat):Y:=fun v=>held (runFn cs k Tryz.f242 (sh.args v) (sh.slots v) dec)
noncomputable def F:Y:=lm f
noncomputable def d:Y:=fun (v0,v1,v2,v3,v4,v5,v6,v7,v8,v9,v10,v11,v12,v13,v14,v15,v16,v17,v18,v19,v20,v21,v22,v23,v24,v25,v26,v27,v28,v29,v30,v31,v32) =>
br (decide (0 ≤ wrap .i64 ((↑v32.length:Int) - 1) ∧ wrap .i64 ((↑v32.length:Int) - 1) < (↑v32.length:Int))) (br (decide (0 ≤ wrap .i64 ((↑v32.length:Int) - 1) ∧ wrap .i64 ((↑v32.length:Int) - 1) ≤ (↑v32.length:Int))) (some (((rd ty1 v32 (wrap .i64 ((↑v32.length:Int) - 1))).1,(rd ty1 v32 (wrap .i64 ((↑v32.length:Int) - 1))).2.1,((rd ty1 v32 (wrap .i64 ((↑v32.length:Int) - 1))).2.2.1.1,(rd ty1 v32 (wrap .i64 ((↑v32.length:Int) - 1))).2.2.1.2),(rd ty1 v32 (wrap .i64 ((↑v32.length:Int) - 1))).2.2.2.1,(rd ty1 v32 (wrap .i64 ((↑v32.length:Int) - 1))).2.2.2.2),v0,v1,v2,v3,v4,v5,v6,v7,v8,v9,v10,v11,v12,v13,v14,v15,v16,v17,v18,v19,v20,v21,v22,v23,v24,v25,0,wrap .i64 ((↑v32.length:Int) - 1),v26,v27,v28,v29,v30,v31,v32)) none) none
theorem d_cn:∀ v:A,Cn E (d v) fun i=>d v:=fun (v0,v1,v2,v3,v4,v5,v6,v7,v8,v9,v10,v11,v12,v13,v14,v15,v16,v17,v18,v19,v20,v21,v22,v23,v24,v25,v26,v27,v28,v29,v30,v31,v32)=>(.br (.br .some .none) .none)
theorem f_b (k:Nat):∀ v:A,f k v = d v:=fun (v0,v1,v2,v3,v4,v5,v6,v7,v8,v9,v10,v11,v12,v13,v14,v15,v16,v17,v18,v19,v20,v21,v22,v23,v24,v25,v26,v27,v28,v29,v30,v31,v32)=>(held_eq _).trans (by kernel_rfl)
theorem F_of (v:A) {r:R} (h:d v = some r):F v = some r:=join_of (fun L=>f_b (L 0) v) (d_cn v) h
noncomputable def spec (k:Nat):List AV→List Slot→Option Ans:=specS sh os (f k)
theorem spec_ok (k:Nat):SpecOk Tryz.prog 242 (spec k):=specS_ok cs_ok Tryz.func242 rfl rfl (fun _ _=>held_eq _) k
end g159
noncomputable def tg159:=tg158.cons 242 g159.spec g159.spec_ok
namespace g160 -- heap_Pop
abbrev R:Type:=(Int × Int × (Int × Int) × Int × Int) × Int × Int × Int × Int × Int × Int × Int × Int × Int × Int × Int × Int × Int × Int × Int × Int × Int × Int × Int × Int × Int × Int × Int × Int × Int × Int × Int × Int × List Int × List (ByteArray × Int) × List (Int × Int × (Int × Int × Int) × Int × Int × Int × Int × Int × Int × Int × Int) × List (List Int) × List (List (Int × Int)) × List Int × List (Int × Int × (Int × Int) × Int × Int)
abbrev A:Type:=Int × Int × Int × Int × Int × Int × Int × Int × Int × Int × Int × Int × Int × Int × Int × Int × Int × Int × Int × Int × Int × Int × Int × Int × Int × Int × List Int × List (ByteArray × Int) × List (Int × Int × (Int × Int × Int) × Int × Int × Int × Int × Int × Int × Int × Int) × List (List Int) × List (List (Int × Int)) × List Int × List (Int × Int × (Int × Int) × Int × Int)
abbrev Y:=A→Option R
def lv:List (Nat × List Nat):=[(2000000,[2])]
noncomputable def cs:Nat→Ctx:=ctxOf tis modes tg159.1 lv
theorem cs_ok (n:Nat):CtxOk Tryz.prog (cs n):=ctxOf_ok rfl tis_ok tg159.2 n
noncomputable def sh:AS:=⟨[(.c (.ifp 217 128000000 0))],[.box [.int .i64,.int .i64,.int .i64,.int .i64,.int .i64,.int .i64,.int .i64,.int .i64,.int .i64,.int .i64,.int .i64,.int .i64,.int .i64,.int .i64,.int .i64,.int .i64,.sl 128000001,.int .i64,.int .i64,.int .i64,.int .i64,.int .i64,.int .i64,.int .i64,.int .i64,.int .i64,.int .i64,.sl 128000002,.sl 128000003,.sl 128000004,.sl 128000005,.sl 128000006,.sl 128000007],.row (.int .i64),.row y19,.row y27,.nest y4,.nest y38,.row (.int .i64),.row y46]⟩
def os:OS:=⟨.c (.ifd 96 .true y46),[.box [.int .i64,.int .i64,.int .i64,.int .i64,.int .i64,.int .i64,.int .i64,.int .i64,.int .i64,.int .i64,.int .i64,.int .i64,.int .i64,.int .i64,.int .i64,.int .i64,.sl 128000001,.int .i64,.int .i64,.int .i64,.int .i64,.int .i64,.int .i64,.int .i64,.int .i64,.int .i64,.int .i64,.sl 128000002,.sl 128000003,.sl 128000004,.sl 128000005,.sl 128000006,.sub 128000007],.row (.int .i64),.row y19,.row y27,.nest y4,.nest y38,.row (.int .i64),.row y46]⟩
def enc (r:R):Out:=os.enc r
def dec:Out→Option R:=os.dec
noncomputable def b0:Code:=subF [] Tryz.f114
noncomputable def K0 (k:Nat):Kt R:=kTop (cs k) Tryz.f114 dec
noncomputable def f (k:Nat):Y:=fun v=>held (runFn cs k Tryz.f114 (sh.args v) (sh.slots v) dec)
noncomputable def F:Y:=lm f
noncomputable def d (p0:g152.Y) (p1:g155.Y) (p2:g158.Y) (p3:g159.Y):Y:=fun (v0,v1,v2,v3,v4,v5,v6,v7,v8,v9,v10,v11,v12,v13,v14,v15,v16,v17,v18,v19,v20,v21,v22,v23,v24,v25,v26,v27,v28,v29,v30,v31,v32) =>
bnd (p0 (v0,v1,v2,v3,v4,v5,v6,v7,v8,v9,v10,v11,v12,v13,v14,v15,v16,v17,v18,v19,v20,v21,v22,v23,v24,v25,v26,v27,v28,v29,v30,v31,v32)) fun r=>bnd (p1 (0,wrap .i64 (r.1 - 1),r.2.1,r.2.2.1,r.2.2.2.1,r.2.2.2.2.1,r.2.2.2.2.2.1,r.2.2.2.2.2.2.1,r.2.2.2.2.2.2.2.1,r.2.2.2.2.2.2.2.2.1,r.2.2.2.2.2.2.2.2.2.1,r.2.2.2.2.2.2.2.2.2.2.1,r.2.2.2.2.2.2.2.2.2.2.2.1,r.2.2.2.2.2.2.2.2.2.2.2.2.1,r.2.2.2.2.2.2.2.2.2.2.2.2.2.1,r.2.2.2.2.2.2.2.2.2.2.2.2.2.2.1,r.2.2.2.2.2.2.2.2.2.2.2.2.2.2.2.1,r.2.2.2.2.2.2.2.2.2.2.2.2.2.2.2.2.1,r.2.2.2.2.2.2.2.2.2.2.2.2.2.2.2.2.2.1,r.2.2.2.2.2.2.2.2.2.2.2.2.2.2.2.2.2.2.1,r.2.2.2.2.2.2.2.2.2.2.2.2.2.2.2.2.2.2.2.1,r.2.2.2.2.2.2.2.2.2.2.2.2.2.2.2.2.2.2.2.2.1,r.2.2.2.2.2.2.2.2.2.2.2.2.2.2.2.2.2.2.2.2.2.1,r.2.2.2.2.2.2.2.2.2.2.2.2.2.2.2.2.2.2.2.2.2.2.1,r.2.2.2.2.2.2.2.2.2.2.2.2.2.2.2.2.2.2.2.2.2.2.2.1,r.2.2.2.2.2.2.2.2.2.2.2.2.2.2.2.2.2.2.2.2.2.2.2.2.1,r.2.2.2.2.2.2.2.2.2.2.2.2.2.2.2.2.2.2.2.2.2.2.2.2.2.1,r.2.2.2.2.2.2.2.2.2.2.2.2.2.2.2.2.2.2.2.2.2.2.2.2.2.2.1,r.2.2.2.2.2.2.2.2.2.2.2.2.2.2.2.2.2.2.2.2.2.2.2.2.2.2.2.1,r.2.2.2.2.2.2.2.2.2.2.2.2.2.2.2.2.2.2.2.2.2.2.2.2.2.2.2.2.1,r.2.2.2.2.2.2.2.2.2.2.2.2.2.2.2.2.2.2.2.2.2.2.2.2.2.2.2.2.2.1,r.2.2.2.2.2.2.2.2.2.2.2.2.2.2.2.2.2.2.2.2.2.2.2.2.2.2.2.2.2.2.1,r.2.2.2.2.2.2.2.2.2.2.2.2.2.2.2.2.2.2.2.2.2.2.2.2.2.2.2.2.2.2.2.1,r.2.2.2.2.2.2.2.2.2.2.2.2.2.2.2.2.2.2.2.2.2.2.2.2.2.2.2.2.2.2.2.2.1,r.2.2.2.2.2.2.2.2.2.2.2.2.2.2.2.2.2.2.2.2.2.2.2.2.2.2.2.2.2.2.2.2.2)) fun r_1=>bnd (p2 (0,wrap .i64 (r.1 - 1),r_1.1,r_1.2.1,r_1.2.2.1,r_1.2.2.2.1,r_1.2.2.2.2.1,r_1.2.2.2.2.2.1,r_1.2.2.2.2.2.2.1,r_1.2.2.2.2.2.2.2.1,r_1.2.2.2.2.2.2.2.2.1,r_1.2.2.2.2.2.2.2.2.2.1,r_1.2.2.2.2.2.2.2.2.2.2.1,r_1.2.2.2.2.2.2.2.2.2.2.2.1,r_1.2.2.2.2.2.2.2.2.2.2.2.2.1,r_1.2.2.2.2.2.2.2.2.2.2.2.2.2.1,r_1.2.2.2.2.2.2.2.2.2.2.2.2.2.2.1,r_1.2.2.2.2.2.2.2.2.2.2.2.2.2.2.2.1,r_1.2.2.2.2.2.2.2.2.2.2.2.2.2.2.2.2.1,r_1.2.2.2.2.2.2.2.2.2.2.2.2.2.2.2.2.2.1,r_1.2.2.2.2.2.2.2.2.2.2.2.2.2.2.2.2.2.2.1,r_1.2.2.2.2.2.2.2.2.2.2.2.2.2.2.2.2.2.2.2.1,r_1.2.2.2.2.2.2.2.2.2.2.2.2.2.2.2.2.2.2.2.2.1,r_1.2.2.2.2.2.2.2.2.2.2.2.2.2.2.2.2.2.2.2.2.2.1,r_1.2.2.2.2.2.2.2.2.2.2.2.2.2.2.2.2.2.2.2.2.2.2.1,r_1.2.2.2.2.2.2.2.2.2.2.2.2.2.2.2.2.2.2.2.2.2.2.2.1,r_1.2.2.2.2.2.2.2.2.2.2.2.2.2.2.2.2.2.2.2.2.2.2.2.2.1,r_1.2.2.2.2.2.2.2.2.2.2.2.2.2.2.2.2.2.2.2.2.2.2.2.2.2.1,r_1.2.2.2.2.2.2.2.2.2.2.2.2.2.2.2.2.2.2.2.2.2.2.2.2.2.2.1,r_1.2.2.2.2.2.2.2.2.2.2.2.2.2.2.2.2.2.2.2.2.2.2.2.2.2.2.2.1,r_1.2.2.2.2.2.2.2.2.2.2.2.2.2.2.2.2.2.2.2.2.2.2.2.2.2.2.2.2.1,r_1.2.2.2.2.2.2.2.2.2.2.2.2.2.2.2.2.2.2.2.2.2.2.2.2.2.2.2.2.2.1,r_1.2.2.2.2.2.2.2.2.2.2.2.2.2.2.2.2.2.2.2.2.2.2.2.2.2.2.2.2.2.2.1,r_1.2.2.2.2.2.2.2.2.2.2.2.2.2.2.2.2.2.2.2.2.2.2.2.2.2.2.2.2.2.2.2.1,r_1.2.2.2.2.2.2.2.2.2.2.2.2.2.2.2.2.2.2.2.2.2.2.2.2.2.2.2.2.2.2.2.2)) fun r=>bnd (p3 (r.2.1,r.2.2.1,r.2.2.2.1,r.2.2.2.2.1,r.2.2.2.2.2.1,r.2.2.2.2.2.2.1,r.2.2.2.2.2.2.2.1,r.2.2.2.2.2.2.2.2.1,r.2.2.2.2.2.2.2.2.2.1,r.2.2.2.2.2.2.2.2.2.2.1,r.2.2.2.2.2.2.2.2.2.2.2.1,r.2.2.2.2.2.2.2.2.2.2.2.2.1,r.2.2.2.2.2.2.2.2.2.2.2.2.2.1,r.2.2.2.2.2.2.2.2.2.2.2.2.2.2.1,r.2.2.2.2.2.2.2.2.2.2.2.2.2.2.2.1,r.2.2.2.2.2.2.2.2.2.2.2.2.2.2.2.2.1,r.2.2.2.2.2.2.2.2.2.2.2.2.2.2.2.2.2.1,r.2.2.2.2.2.2.2.2.2.2.2.2.2.2.2.2.2.2.1,r.2.2.2.2.2.2.2.2.2.2.2.2.2.2.2.2.2.2.2.1,r.2.2.2.2.2.2.2.2.2.2.2.2.2.2.2.2.2.2.2.2.1,r.2.2.2.2.2.2.2.2.2.2.2.2.2.2.2.2.2.2.2.2.2.1,r.2.2.2.2.2.2.2.2.2.2.2.2.2.2.2.2.2.2.2.2.2.2.1,r.2.2.2.2.2.2.2.2.2.2.2.2.2.2.2.2.2.2.2.2.2.2.2.1,r.2.2.2.2.2.2.2.2.2.2.2.2.2.2.2.2.2.2.2.2.2.2.2.2.1,r.2.2.2.2.2.2.2.2.2.2.2.2.2.2.2.2.2.2.2.2.2.2.2.2.2.1,r.2.2.2.2.2.2.2.2.2.2.2.2.2.2.2.2.2.2.2.2.2.2.2.2.2.2.1,r.2.2.2.2.2.2.2.2.2.2.2.2.2.2.2.2.2.2.2.2.2.2.2.2.2.2.2.1,r.2.2.2.2.2.2.2.2.2.2.2.2.2.2.2.2.2.2.2.2.2.2.2.2.2.2.2.2.1,r.2.2.2.2.2.2.2.2.2.2.2.2.2.2.2.2.2.2.2.2.2.2.2.2.2.2.2.2.2.1,r.2.2.2.2.2.2.2.2.2.2.2.2.2.2.2.2.2.2.2.2.2.2.2.2.2.2.2.2.2.2.1,r.2.2.2.2.2.2.2.2.2.2.2.2.2.2.2.2.2.2.2.2.2.2.2.2.2.2.2.2.2.2.2.1,r.2.2.2.2.2.2.2.2.2.2.2.2.2.2.2.2.2.2.2.2.2.2.2.2.2.2.2.2.2.2.2.2.1,r.2.2.2.2.2.2.2.2.2.2.2.2.2.2.2.2.2.2.2.2.2.2.2.2.2.2.2.2.2.2.2.2.2)) fun r=>some (r.1,r.2.1,r.2.2.1,r.2.2.2.1,r.2.2.2.2.1,r.2.2.2.2.2.1,r.2.2.2.2.2.2.1,r.2.2.2.2.2.2.2.1,r.2.2.2.2.2.2.2.2.1,r.2.2.2.2.2.2.2.2.2.1,r.2.2.2.2.2.2.2.2.2.2.1,r.2.2.2.2.2.2.2.2.2.2.2.1,r.2.2.2.2.2.2.2.2.2.2.2.2.1,r.2.2.2.2.2.2.2.2.2.2.2.2.2.1,r.2.2.2.2.2.2.2.2.2.2.2.2.2.2.1,r.2.2.2.2.2.2.2.2.2.2.2.2.2.2.2.1,r.2.2.2.2.2.2.2.2.2.2.2.2.2.2.2.2.1,r.2.2.2.2.2.2.2.2.2.2.2.2.2.2.2.2.2.1,r.2.2.2.2.2.2.2.2.2.2.2.2.2.2.2.2.2.2.1,r.2.2.2.2.2.2.2.2.2.2.2.2.2.2.2.2.2.2.2.1,r.2.2.2.2.2.2.2.2.2.2.2.2.2.2.2.2.2.2.2.2.1,r.2.2.2.2.2.2.2.2.2.2.2.2.2.2.2.2.2.2.2.2.2.1,r.2.2.2.2.2.2.2.2.2.2.2.2.2.2.2.2.2.2.2.2.2.2.1,r.2.2.2.2.2.2.2.2.2.2.2.2.2.2.2.2.2.2.2.2.2.2.2.1,r.2.2.2.2.2.2.2.2.2.2.2.2.2.2.2.2.2.2.2.2.2.2.2.2.1,r.2.2.2.2.2.2.2.2.2.2.2.2.2.2.2.2.2.2.2.2.2.2.2.2.2.1,r.2.2.2.2.2.2.2.2.2.2.2.2.2.2.2.2.2.2.2.2.2.2.2.2.2.2.1,r.2.2.2.2.2.2.2.2.2.2.2.2.2.2.2.2.2.2.2.2.2.2.2.2.2.2.2.1,r.2.2.2.2.2.2.2.2.2.2.2.2.2.2.2.2.2.2.2.2.2.2.2.2.2.2.2.2.1,r.2.2.2.2.2.2.2.2.2.2.2.2.2.2.2.2.2.2.2.2.2.2.2.2.2.2.2.2.2.1,r.2.2.2.2.2.2.2.2.2.2.2.2.2.2.2.2.2.2.2.2.2.2.2.2.2.2.2.2.2.2.1,r.2.2.2.2.2.2.2.2.2.2.2.2.2.2.2.2.2.2.2.2.2.2.2.2.2.2.2.2.2.2.2.1,r.2.2.2.2.2.2.2.2.2.2.2.2.2.2.2.2.2.2.2.2.2.2.2.2.2.2.2.2.2.2.2.2.1,r.2.2.2.2.2.2.2.2.2.2.2.2.2.2.2.2.2.2.2.2.2.2.2.2.2.2.2.2.2.2.2.2.2.1,r.2.2.2.2.2.2.2.2.2.2.2.2.2.2.2.2.2.2.2.2.2.2.2.2.2.2.2.2.2.2.2.2.2.2.1,r.2.2.2.2.2.2.2.2.2.2.2.2.2.2.2.2.2.2.2.2.2.2.2.2.2.2.2.2.2.2.2.2.2.2.2)
theorem d_cn (k0:Pr E g152.A g152.R) (k1:Pr E g155.A g155.R) (k2:Pr E g158.A g158.R) (k3:Pr E g159.A g159.R):∀ v:A,Cn E (d k0.p k1.p k2.p k3.p v) fun i=>d (k0.q i) (k1.q i) (k2.q i) (k3.q i) v:=fun (v0,v1,v2,v3,v4,v5,v6,v7,v8,v9,v10,v11,v12,v13,v14,v15,v16,v17,v18,v19,v20,v21,v22,v23,v24,v25,v26,v27,v28,v29,v30,v31,v32)=>(.bnd (k0.h _) fun _=>(.bnd (k1.h _) fun _=>(.bnd (k2.h _) fun _=>(.bnd (k3.h _) fun _=>.some))))
theorem f_b (k:Nat):∀ v:A,f k v = d (g152.f k) (g155.f k) (g158.f k) (g159.f k) v:=fun (v0,v1,v2,v3,v4,v5,v6,v7,v8,v9,v10,v11,v12,v13,v14,v15,v16,v17,v18,v19,v20,v21,v22,v23,v24,v25,v26,v27,v28,v29,v30,v31,v32)=>(held_eq _).trans (by kernel_rfl)
theorem F_of (v:A) {r:R} (h:d g152.F g155.F g158.F g159.F v = some r):F v = some r:=join_of (fun L=>f_b (L 0) v) (d_cn (lp g152.f 0) (lp g155.f 0) (lp g158.f 0) (lp g159.f 0) v) h
noncomputable def spec (k:Nat):List AV→List Slot→Option Ans:=specS sh os (f k)
theorem spec_ok (k:Nat):SpecOk Tryz.prog 114 (spec k):=specS_ok cs_ok Tryz.func114 rfl rfl (fun _ _=>held_eq _) k
end g160
noncomputable def tg160:=tg159.cons 114 g160.spec g160.spec_ok
namespace g161 -- plan_Desk_choose
abbrev R:Type:=Int × Int × Int × Int × Int × Int × Bool × List Int × List (ByteArray × Int) × List (Int × Int × (Int × Int × Int) × Int × Int × Int × Int × Int × Int × Int × Int) × List (List Int) × List (List (Int × Int))
abbrev A:Type:=Int × Int × Int × Int × Int × Int × Int × Int × Int × Int × Int × Int × Int × Int × Int × Int × Int × Int × Int × Int × Int × Int × Int × Int × Int × Int × Int × Int × Int × List (List Int) × List Int × List (ByteArray × Int) × List (Int × Int × (Int × Int × Int) × Int × Int × Int × Int × Int × Int × Int × Int) × List (List Int) × List (List (Int × Int))
abbrev Y:=A→Option R
def lv:List (Nat × List Nat):=[(2000000,[4,5]),(3,[2,3,4,6,20,21]),(1000008,[2,3,4,6,20,21])]
noncomputable def cs:Nat→Ctx:=ctxOf tis modes tg160.1 lv
theorem cs_ok (n:Nat):CtxOk Tryz.prog (cs n):=ctxOf_ok rfl tis_ok tg160.2 n
noncomputable def sh:AS:=⟨[.agg [.int .i64,.int .i64,.int .i64,.int .i64,.int .i64,.int .i64,.int .i64,.int .i64,.int .i64,.int .i64,.int .i64,.int .i64,.int .i64,.int .i64,.int .i64,.int .i64,.sl 128000000,.int .i64,.int .i64,.int .i64,.int .i64,.int .i64,.int .i64,.int .i64,.int .i64,.int .i64,.int .i64,.sl 128000001,.sl 128000002,.sl 128000003,.sl 128000004],.agg [.int .i64,.int .i64,.int .i64,.frz y4]],[.row (.int .i64),.row y19,.row y27,.nest y4,.nest y38]⟩
def os:OS:=⟨.tup [.agg [.int .i64,.int .i64,.int .i64,.int .i64,.int .i64,.int .i64],.c .bool],[.row (.int .i64),.row y19,.row y27,.nest y4,.nest y38]⟩
def enc (r:R):Out:=os.enc r
def dec:Out→Option R:=os.dec
noncomputable def b0:Code:=subF [] Tryz.f86
noncomputable def K0 (k:Nat):Kt R:=kTop (cs k) Tryz.f86 dec
noncomputable def b3:Code:=sub [1,1,0,1,0,0] b0
noncomputable def K3 ( k:Nat):Kt R:=kAt (cs k) (loopN cs k) [1,1,0,1,0] b0 (K0 k)
noncomputable def c1000008:Code:=sub [1,1,1] b3
noncomputable def J1000008 ( k m1:Nat):Kt R:=kAt (cs m1) (loopN cs m1) [1,1,1] b3 (kLoop cs m1 b3 (K3 k))
abbrev T0:Type:=Int × Int × List Int × List (ByteArray × Int) × List (Int × Int × (Int × Int × Int) × Int × Int × Int × Int × Int × Int × Int × Int) × List (List Int) × List (List (Int × Int)) × Int × Int × Int × Int × Int × Int × Int × Int × Int × Int × Int × Int × Int × Int × Int × Int × Int × Int × Int × Int × Int × Int × Int × Int × Int × Int × Int × Int × Int × List (List Int) × Int × Int × Int × Int × Int × Int × Int × Int × Int × Int × Int × Int × Int × Int × Int × Int × Int × Int × Int × Int × Int × Int × Int × Int × Int × Int × Int × Int × Int × Int × Int × Int × List Int × List (Int × Int × (Int × Int) × Int × Int)
abbrev Y0:=T0→Option R
noncomputable def s0:T0→St:=fun (v0,v1,v2,v3,v4,v5,v6,v7,v8,v9,v10,v11,v12,v13,v14,v15,v16,v17,v18,v19,v20,v21,v22,v23,v24,v25,v26,v27,v28,v29,v30,v31,v32,v33,v34,v35,v36,v37,v38,v39,v40,v41,v42,v43,v44,v45,v46,v47,v48,v49,v50,v51,v52,v53,v54,v55,v56,v57,v58,v59,v60,v61,v62,v63,v64,v65,v66,v67,v68,v69,v70)=>⟨47,5,[(2,.c (.ptr 64000000 0)),(3,.c (.ptr 64000001 0)),(4,.c (.ptr 64000002 0)),(6,.c (.ptr 64000003 0)),(20,.c (.int .i64 v0)),(21,.c (.int .i64 v1))],[],[(128000000,.row (.int .i64) v2),(128000001,.row y19 v3),(128000002,.row y27 v4),(128000003,.nest y4 v5 .none),(128000004,.nest y38 v6 .none),(256000000,.gone),(64000000,.box [.int .i64 v7,.int .i64 v8,.int .i64 v9,.int .i64 v10,.int .i64 v11,.int .i64 v12,.int .i64 v13,.int .i64 v14,.int .i64 v15,.int .i64 v16,.int .i64 v17,.int .i64 v18,.int .i64 v19,.int .i64 v20,.int .i64 v21,.int .i64 v22,.sl 128000000,.int .i64 v23,.int .i64 v24,.int .i64 v25,.int .i64 v26,.int .i64 v27,.int .i64 v28,.int .i64 v29,.int .i64 v30,.int .i64 v31,.int .i64 v32,.sl 128000001,.sl 128000002,.sl 128000003,.sl 128000004]),(64000001,.box [.int .i64 v33,.int .i64 v34,.int .i64 v35,.frz y4 v36]),(64000002,.box [.int .i64 v37,.int .i64 v38,.int .i64 v39,.int .i64 v40,.int .i64 v41,.int .i64 v42]),(64000003,.box [.int .i64 v43,.int .i64 v44,.int .i64 v45,.int .i64 v46,.int .i64 v47,.int .i64 v48,.int .i64 v49,.int .i64 v50,.int .i64 v51,.int .i64 v52,.int .i64 v53,.int .i64 v54,.int .i64 v55,.int .i64 v56,.int .i64 v57,.int .i64 v58,.sl 128000000,.int .i64 v59,.int .i64 v60,.int .i64 v61,.int .i64 v62,.int .i64 v63,.int .i64 v64,.int .i64 v65,.int .i64 v66,.int .i64 v67,.int .i64 v68,.sl 128000001,.sl 128000002,.sl 128000003,.sl 128000004,.sl 64000004,.sl 64000005]),(64000004,.row (.int .i64) v69),(64000005,.row y46 v70)]⟩
noncomputable def l0 ( k n:Nat) (v:T0):Option R:=held (loopN cs n b3 (K3 k) (s0 v))
noncomputable def D0 (v:T0):Option R:=lim fun L=>l0 (L 0) (L 1) v
theorem D0_cn (v:T0):Cn late (D0 v) fun L=>l0 (L 0) (L 1) v:=of_lim
abbrev T1:Type:=Int × Int × List Int × List (ByteArray × Int) × List (Int × Int × (Int × Int × Int) × Int × Int × Int × Int × Int × Int × Int × Int) × List (List Int) × List (List (Int × Int)) × Int × Int × Int × Int × Int × Int × Int × Int × Int × Int × Int × Int × Int × Int × Int × Int × Int × Int × Int × Int × Int × Int × Int × Int × Int × Int × Int × Int × Int × List (List Int) × Int × Int × Int × Int × Int × Int × Int × Int × Int × Int × Int × Int × Int × Int × Int × Int × Int × Int × Int × Int × Int × Int × Int × Int × Int × Int × Int × Int × Int × Int × Int × Int × List Int × List (Int × Int × (Int × Int) × Int × Int)
abbrev Y1:=T1→Option R
noncomputable def s1:T1→St:=fun (v0,v1,v2,v3,v4,v5,v6,v7,v8,v9,v10,v11,v12,v13,v14,v15,v16,v17,v18,v19,v20,v21,v22,v23,v24,v25,v26,v27,v28,v29,v30,v31,v32,v33,v34,v35,v36,v37,v38,v39,v40,v41,v42,v43,v44,v45,v46,v47,v48,v49,v50,v51,v52,v53,v54,v55,v56,v57,v58,v59,v60,v61,v62,v63,v64,v65,v66,v67,v68,v69,v70)=>⟨47,5,[(2,.c (.ptr 64000000 0)),(3,.c (.ptr 64000001 0)),(4,.c (.ptr 64000002 0)),(6,.c (.ptr 64000003 0)),(20,.c (.int .i64 v0)),(21,.c (.int .i64 v1))],[],[(128000000,.row (.int .i64) v2),(128000001,.row y19 v3),(128000002,.row y27 v4),(128000003,.nest y4 v5 .none),(128000004,.nest y38 v6 .none),(256000000,.gone),(64000000,.box [.int .i64 v7,.int .i64 v8,.int .i64 v9,.int .i64 v10,.int .i64 v11,.int .i64 v12,.int .i64 v13,.int .i64 v14,.int .i64 v15,.int .i64 v16,.int .i64 v17,.int .i64 v18,.int .i64 v19,.int .i64 v20,.int .i64 v21,.int .i64 v22,.sl 128000000,.int .i64 v23,.int .i64 v24,.int .i64 v25,.int .i64 v26,.int .i64 v27,.int .i64 v28,.int .i64 v29,.int .i64 v30,.int .i64 v31,.int .i64 v32,.sl 128000001,.sl 128000002,.sl 128000003,.sl 128000004]),(64000001,.box [.int .i64 v33,.int .i64 v34,.int .i64 v35,.frz y4 v36]),(64000002,.box [.int .i64 v37,.int .i64 v38,.int .i64 v39,.int .i64 v40,.int .i64 v41,.int .i64 v42]),(64000003,.box [.int .i64 v43,.int .i64 v44,.int .i64 v45,.int .i64 v46,.int .i64 v47,.int .i64 v48,.int .i64 v49,.int .i64 v50,.int .i64 v51,.int .i64 v52,.int .i64 v53,.int .i64 v54,.int .i64 v55,.int .i64 v56,.int .i64 v57,.int .i64 v58,.sl 128000000,.int .i64 v59,.int .i64 v60,.int .i64 v61,.int .i64 v62,.int .i64 v63,.int .i64 v64,.int .i64 v65,.int .i64 v66,.int .i64 v67,.int .i64 v68,.sl 128000001,.sl 128000002,.sl 128000003,.sl 128000004,.sl 64000004,.sl 64000005]),(64000004,.row (.int .i64) v69),(64000005,.row y46 v70)]⟩
noncomputable def l1 ( k m1:Nat) (v:T1):Option R:=held (run (cs m1) (loopN cs m1) c1000008 (J1000008 k m1) (s1 v))
noncomputable def D1 (v:T1):Option R:=lim fun L=>l1 (L 0) (L 1) v
theorem D1_cn (v:T1):Cn late (D1 v) fun L=>l1 (L 0) (L 1) v:=of_lim
noncomputable def d0 (p0:g150.Y) (p1:g157.Y) (p2:Y1) (p3:g152.Y) (p4:g160.Y):Y0:=fun (v0,v1,v2,v3,v4,v5,v6,v7,v8,v9,v10,v11,v12,v13,v14,v15,v16,v17,v18,v19,v20,v21,v22,v23,v24,v25,v26,v27,v28,v29,v30,v31,v32,v33,v34,v35,v36,v37,v38,v39,v40,v41,v42,v43,v44,v45,v46,v47,v48,v49,v50,v51,v52,v53,v54,v55,v56,v57,v58,v59,v60,v61,v62,v63,v64,v65,v66,v67,v68,v69,v70) =>
br (decide (v1 < v0)) (bnd (p0 (v7,v8,v9,v10,v11,v12,v13,v14,v15,v16,v17,v18,v19,v20,v21,v22,v2,v23,v24,v25,v26,v27,v28,v29,v30,v31,v32,v3,v4,v5,v6,v33,v34,v35,v36,v1)) fun r=>br (decide (r.2.2.2.2.2.2 = 0)) (bnd (p1 ((r.1,r.2.1,(r.2.2.1,r.2.2.2.1),r.2.2.2.2.1,r.2.2.2.2.2.1),v43,v44,v45,v46,v47,v48,v49,v50,v51,v52,v53,v54,v55,v56,v57,v58,v59,v60,v61,v62,v63,v64,v65,v66,v67,v68,v2,v3,v4,v5,v6,v69,v70)) fun r=>p2 (v0,v1,r.2.2.2.2.2.2.2.2.2.2.2.2.2.2.2.2.2.2.2.2.2.2.2.2.2.2.1,r.2.2.2.2.2.2.2.2.2.2.2.2.2.2.2.2.2.2.2.2.2.2.2.2.2.2.2.1,r.2.2.2.2.2.2.2.2.2.2.2.2.2.2.2.2.2.2.2.2.2.2.2.2.2.2.2.2.1,r.2.2.2.2.2.2.2.2.2.2.2.2.2.2.2.2.2.2.2.2.2.2.2.2.2.2.2.2.2.1,r.2.2.2.2.2.2.2.2.2.2.2.2.2.2.2.2.2.2.2.2.2.2.2.2.2.2.2.2.2.2.1,v7,v8,v9,v10,v11,v12,v13,v14,v15,v16,v17,v18,v19,v20,v21,v22,v23,v24,v25,v26,v27,v28,v29,v30,v31,v32,v33,v34,v35,v36,v37,v38,v39,v40,v41,v42,r.1,r.2.1,r.2.2.1,r.2.2.2.1,r.2.2.2.2.1,r.2.2.2.2.2.1,r.2.2.2.2.2.2.1,r.2.2.2.2.2.2.2.1,r.2.2.2.2.2.2.2.2.1,r.2.2.2.2.2.2.2.2.2.1,r.2.2.2.2.2.2.2.2.2.2.1,r.2.2.2.2.2.2.2.2.2.2.2.1,r.2.2.2.2.2.2.2.2.2.2.2.2.1,r.2.2.2.2.2.2.2.2.2.2.2.2.2.1,r.2.2.2.2.2.2.2.2.2.2.2.2.2.2.1,r.2.2.2.2.2.2.2.2.2.2.2.2.2.2.2.1,r.2.2.2.2.2.2.2.2.2.2.2.2.2.2.2.2.1,r.2.2.2.2.2.2.2.2.2.2.2.2.2.2.2.2.2.1,r.2.2.2.2.2.2.2.2.2.2.2.2.2.2.2.2.2.2.1,r.2.2.2.2.2.2.2.2.2.2.2.2.2.2.2.2.2.2.2.1,r.2.2.2.2.2.2.2.2.2.2.2.2.2.2.2.2.2.2.2.2.1,r.2.2.2.2.2.2.2.2.2.2.2.2.2.2.2.2.2.2.2.2.2.1,r.2.2.2.2.2.2.2.2.2.2.2.2.2.2.2.2.2.2.2.2.2.2.1,r.2.2.2.2.2.2.2.2.2.2.2.2.2.2.2.2.2.2.2.2.2.2.2.1,r.2.2.2.2.2.2.2.2.2.2.2.2.2.2.2.2.2.2.2.2.2.2.2.2.1,r.2.2.2.2.2.2.2.2.2.2.2.2.2.2.2.2.2.2.2.2.2.2.2.2.2.1,r.2.2.2.2.2.2.2.2.2.2.2.2.2.2.2.2.2.2.2.2.2.2.2.2.2.2.2.2.2.2.2.1,r.2.2.2.2.2.2.2.2.2.2.2.2.2.2.2.2.2.2.2.2.2.2.2.2.2.2.2.2.2.2.2.2)) (p2 (v0,v1,v2,v3,v4,v5,v6,v7,v8,v9,v10,v11,v12,v13,v14,v15,v16,v17,v18,v19,v20,v21,v22,v23,v24,v25,v26,v27,v28,v29,v30,v31,v32,v33,v34,v35,v36,v37,v38,v39,v40,v41,v42,v43,v44,v45,v46,v47,v48,v49,v50,v51,v52,v53,v54,v55,v56,v57,v58,v59,v60,v61,v62,v63,v64,v65,v66,v67,v68,v69,v70))) (bnd (p3 (v43,v44,v45,v46,v47,v48,v49,v50,v51,v52,v53,v54,v55,v56,v57,v58,v59,v60,v61,v62,v63,v64,v65,v66,v67,v68,v2,v3,v4,v5,v6,v69,v70)) fun r=>br (decide (r.1 = 0)) (some (0,0,0,0,0,0,false,r.2.2.2.2.2.2.2.2.2.2.2.2.2.2.2.2.2.2.2.2.2.2.2.2.2.2.2.1,r.2.2.2.2.2.2.2.2.2.2.2.2.2.2.2.2.2.2.2.2.2.2.2.2.2.2.2.2.1,r.2.2.2.2.2.2.2.2.2.2.2.2.2.2.2.2.2.2.2.2.2.2.2.2.2.2.2.2.2.1,r.2.2.2.2.2.2.2.2.2.2.2.2.2.2.2.2.2.2.2.2.2.2.2.2.2.2.2.2.2.2.1,r.2.2.2.2.2.2.2.2.2.2.2.2.2.2.2.2.2.2.2.2.2.2.2.2.2.2.2.2.2.2.2.1)) (bnd (p4 (r.2.1,r.2.2.1,r.2.2.2.1,r.2.2.2.2.1,r.2.2.2.2.2.1,r.2.2.2.2.2.2.1,r.2.2.2.2.2.2.2.1,r.2.2.2.2.2.2.2.2.1,r.2.2.2.2.2.2.2.2.2.1,r.2.2.2.2.2.2.2.2.2.2.1,r.2.2.2.2.2.2.2.2.2.2.2.1,r.2.2.2.2.2.2.2.2.2.2.2.2.1,r.2.2.2.2.2.2.2.2.2.2.2.2.2.1,r.2.2.2.2.2.2.2.2.2.2.2.2.2.2.1,r.2.2.2.2.2.2.2.2.2.2.2.2.2.2.2.1,r.2.2.2.2.2.2.2.2.2.2.2.2.2.2.2.2.1,r.2.2.2.2.2.2.2.2.2.2.2.2.2.2.2.2.2.1,r.2.2.2.2.2.2.2.2.2.2.2.2.2.2.2.2.2.2.1,r.2.2.2.2.2.2.2.2.2.2.2.2.2.2.2.2.2.2.2.1,r.2.2.2.2.2.2.2.2.2.2.2.2.2.2.2.2.2.2.2.2.1,r.2.2.2.2.2.2.2.2.2.2.2.2.2.2.2.2.2.2.2.2.2.1,r.2.2.2.2.2.2.2.2.2.2.2.2.2.2.2.2.2.2.2.2.2.2.1,r.2.2.2.2.2.2.2.2.2.2.2.2.2.2.2.2.2.2.2.2.2.2.2.1,r.2.2.2.2.2.2.2.2.2.2.2.2.2.2.2.2.2.2.2.2.2.2.2.2.1,r.2.2.2.2.2.2.2.2.2.2.2.2.2.2.2.2.2.2.2.2.2.2.2.2.2.1,r.2.2.2.2.2.2.2.2.2.2.2.2.2.2.2.2.2.2.2.2.2.2.2.2.2.2.1,r.2.2.2.2.2.2.2.2.2.2.2.2.2.2.2.2.2.2.2.2.2.2.2.2.2.2.2.1,r.2.2.2.2.2.2.2.2.2.2.2.2.2.2.2.2.2.2.2.2.2.2.2.2.2.2.2.2.1,r.2.2.2.2.2.2.2.2.2.2.2.2.2.2.2.2.2.2.2.2.2.2.2.2.2.2.2.2.2.1,r.2.2.2.2.2.2.2.2.2.2.2.2.2.2.2.2.2.2.2.2.2.2.2.2.2.2.2.2.2.2.1,r.2.2.2.2.2.2.2.2.2.2.2.2.2.2.2.2.2.2.2.2.2.2.2.2.2.2.2.2.2.2.2.1,r.2.2.2.2.2.2.2.2.2.2.2.2.2.2.2.2.2.2.2.2.2.2.2.2.2.2.2.2.2.2.2.2.1,r.2.2.2.2.2.2.2.2.2.2.2.2.2.2.2.2.2.2.2.2.2.2.2.2.2.2.2.2.2.2.2.2.2)) fun r=>some (r.1.1,r.1.2.1,r.1.2.2.1.1,r.1.2.2.1.2,r.1.2.2.2.1,r.1.2.2.2.2,true,r.2.2.2.2.2.2.2.2.2.2.2.2.2.2.2.2.2.2.2.2.2.2.2.2.2.2.2.2.2.1,r.2.2.2.2.2.2.2.2.2.2.2.2.2.2.2.2.2.2.2.2.2.2.2.2.2.2.2.2.2.2.1,r.2.2.2.2.2.2.2.2.2.2.2.2.2.2.2.2.2.2.2.2.2.2.2.2.2.2.2.2.2.2.2.1,r.2.2.2.2.2.2.2.2.2.2.2.2.2.2.2.2.2.2.2.2.2.2.2.2.2.2.2.2.2.2.2.2.1,r.2.2.2.2.2.2.2.2.2.2.2.2.2.2.2.2.2.2.2.2.2.2.2.2.2.2.2.2.2.2.2.2.2.1)))
theorem d0_cn (k0:Pr E g150.A g150.R) (k1:Pr E g157.A g157.R) (k2:Pr E T1 R) (k3:Pr E g152.A g152.R) (k4:Pr E g160.A g160.R):∀ v:T0,Cn E (d0 k0.p k1.p k2.p k3.p k4.p v) fun i=>d0 (k0.q i) (k1.q i) (k2.q i) (k3.q i) (k4.q i) v:=fun (v0,v1,v2,v3,v4,v5,v6,v7,v8,v9,v10,v11,v12,v13,v14,v15,v16,v17,v18,v19,v20,v21,v22,v23,v24,v25,v26,v27,v28,v29,v30,v31,v32,v33,v34,v35,v36,v37,v38,v39,v40,v41,v42,v43,v44,v45,v46,v47,v48,v49,v50,v51,v52,v53,v54,v55,v56,v57,v58,v59,v60,v61,v62,v63,v64,v65,v66,v67,v68,v69,v70)=>(.br (.bnd (k0.h _) fun _=>(.br (.bnd (k1.h _) fun _=>(k2.h _)) (k2.h _))) (.bnd (k3.h _) fun _=>(.br .some (.bnd (k4.h _) fun _=>.some))))
theorem l0_b ( k m1:Nat):∀ v:T0,run (cs m1) (loopN cs m1) b3 (kLoop cs m1 b3 (K3 k)) (s0 v) = d0 (g150.f m1) (g157.f m1) (l1 k m1) (g152.f k) (g160.f k) v:=fun (v0,v1,v2,v3,v4,v5,v6,v7,v8,v9,v10,v11,v12,v13,v14,v15,v16,v17,v18,v19,v20,v21,v22,v23,v24,v25,v26,v27,v28,v29,v30,v31,v32,v33,v34,v35,v36,v37,v38,v39,v40,v41,v42,v43,v44,v45,v46,v47,v48,v49,v50,v51,v52,v53,v54,v55,v56,v57,v58,v59,v60,v61,v62,v63,v64,v65,v66,v67,v68,v69,v70)=>by kernel_rfl
theorem D0_of (v:T0) {r:R} (h:d0 g150.F g157.F D1 g152.F g160.F v = some r):D0 v = some r:=loop_of 1 (fun L n hn=>by show l0 (L 0) (L 1) v = _; rw [hn]; exact (held_eq _).trans ((loopN_succ _ _ _ _ _).trans (l0_b (L 0) n v))) (d0_cn (lp g150.f 1) (lp g157.f 1) (.mk fun v=>(D1_cn v).re [0,1]) (lp g152.f 0) (lp g160.f 0) v) h
def d1 (p0:Y0):Y1:=fun (v0,v1,v2,v3,v4,v5,v6,v7,v8,v9,v10,v11,v12,v13,v14,v15,v16,v17,v18,v19,v20,v21,v22,v23,v24,v25,v26,v27,v28,v29,v30,v31,v32,v33,v34,v35,v36,v37,v38,v39,v40,v41,v42,v43,v44,v45,v46,v47,v48,v49,v50,v51,v52,v53,v54,v55,v56,v57,v58,v59,v60,v61,v62,v63,v64,v65,v66,v67,v68,v69,v70) =>
p0 (v0,wrap .i64 (v1 + 1),v2,v3,v4,v5,v6,v7,v8,v9,v10,v11,v12,v13,v14,v15,v16,v17,v18,v19,v20,v21,v22,v23,v24,v25,v26,v27,v28,v29,v30,v31,v32,v33,v34,v35,v36,v37,v38,v39,v40,v41,v42,v43,v44,v45,v46,v47,v48,v49,v50,v51,v52,v53,v54,v55,v56,v57,v58,v59,v60,v61,v62,v63,v64,v65,v66,v67,v68,v69,v70)
theorem d1_cn (k0:Pr E T0 R):∀ v:T1,Cn E (d1 k0.p v) fun i=>d1 (k0.q i) v:=fun (v0,v1,v2,v3,v4,v5,v6,v7,v8,v9,v10,v11,v12,v13,v14,v15,v16,v17,v18,v19,v20,v21,v22,v23,v24,v25,v26,v27,v28,v29,v30,v31,v32,v33,v34,v35,v36,v37,v38,v39,v40,v41,v42,v43,v44,v45,v46,v47,v48,v49,v50,v51,v52,v53,v54,v55,v56,v57,v58,v59,v60,v61,v62,v63,v64,v65,v66,v67,v68,v69,v70)=>(k0.h _)
theorem l1_b ( k m1:Nat):∀ v:T1,run (cs m1) (loopN cs m1) c1000008 (J1000008 k m1) (s1 v) = d1 (l0 k m1) v:=fun (v0,v1,v2,v3,v4,v5,v6,v7,v8,v9,v10,v11,v12,v13,v14,v15,v16,v17,v18,v19,v20,v21,v22,v23,v24,v25,v26,v27,v28,v29,v30,v31,v32,v33,v34,v35,v36,v37,v38,v39,v40,v41,v42,v43,v44,v45,v46,v47,v48,v49,v50,v51,v52,v53,v54,v55,v56,v57,v58,v59,v60,v61,v62,v63,v64,v65,v66,v67,v68,v69,v70)=>by kernel_rfl
theorem D1_of (v:T1) {r:R} (h:d1 D0 v = some r):D1 v = some r:=join_of (fun L=>(held_eq _).trans (l1_b (L 0) (L 1) v)) (d1_cn (.mk fun v=>(D0_cn v).re [0,1]) v) h
noncomputable def f (k:Nat):Y:=fun v=>held (runFn cs k Tryz.f86 (sh.args v) (sh.slots v) dec)
noncomputable def F:Y:=lm f
def d (p0:g139.Y) (p1:Y0):Y:=fun (v0,v1,v2,v3,v4,v5,v6,v7,v8,v9,v10,v11,v12,v13,v14,v15,v16,v17,v18,v19,v20,v21,v22,v23,v24,v25,v26,v27,v28,v29,v30,v31,v32,v33,v34) =>
bnd (p0 (v31,v32,v26,v27,v28,v29)) fun r=>p1 ((↑v32.length:Int),0,v30,v31,v32,v33,v34,v0,v1,v2,v3,v4,v5,v6,v7,v8,v9,v10,v11,v12,v13,v14,v15,v16,v17,v18,v19,v20,v21,v22,v23,v24,v25,v26,v27,v28,v29,0,0,0,0,0,0,v0,v1,v2,v3,v4,v5,v6,v7,v8,v9,v10,v11,v12,v13,v14,v15,v16,v17,v18,v19,v20,v21,v22,v23,v24,v25,r,[])
theorem d_cn (k0:Pr E g139.A g139.R) (k1:Pr E T0 R):∀ v:A,Cn E (d k0.p k1.p v) fun i=>d (k0.q i) (k1.q i) v:=fun (v0,v1,v2,v3,v4,v5,v6,v7,v8,v9,v10,v11,v12,v13,v14,v15,v16,v17,v18,v19,v20,v21,v22,v23,v24,v25,v26,v27,v28,v29,v30,v31,v32,v33,v34)=>(.bnd (k0.h _) fun _=>(k1.h _))
theorem f_b (k:Nat):∀ v:A,f k v = d (g139.f k) (l0 k k) v:=fun (v0,v1,v2,v3,v4,v5,v6,v7,v8,v9,v10,v11,v12,v13,v14,v15,v16,v17,v18,v19,v20,v21,v22,v23,v24,v25,v26,v27,v28,v29,v30,v31,v32,v33,v34)=>(held_eq _).trans (by kernel_rfl)
theorem F_of (v:A) {r:R} (h:d g139.F D0 v = some r):F v = some r:=join_of (fun L=>f_b (L 0) v) (d_cn (lp g139.f 0) (.mk fun v=>(D0_cn v).re [0,0]) v) h
noncomputable def spec (k:Nat):List AV→List Slot→Option Ans:=specS sh os (f k)
theorem spec_ok (k:Nat):SpecOk Tryz.prog 86 (spec k):=specS_ok cs_ok Tryz.func86 rfl rfl (fun _ _=>held_eq _) k
end g161
noncomputable def tg161:=tg160.cons 86 g161.spec g161.spec_ok
namespace g162 -- plan_Desk_take
abbrev R:Type:=Int × Int × Int × Int × Int × Int × Int × List (List Int)
abbrev A:Type:=Int × Int × Int × Int × Int × Int × Int × Int × Int × Int × Int × Int × Int × Int × Int × Int × List Int × Int × Int × Int × Int × Int × Int × Int × Int × Int × Int × List (ByteArray × Int) × List (Int × Int × (Int × Int × Int) × Int × Int × Int × Int × Int × Int × Int × Int) × List (List Int) × List (List (Int × Int)) × Int × Int × Int × Int × Int × Int × Int × Int × Int × List (List Int)
abbrev Y:=A→Option R
def lv:List (Nat × List Nat):=[(2000000,[6])]
noncomputable def cs:Nat→Ctx:=ctxOf tis modes tg161.1 lv
theorem cs_ok (n:Nat):CtxOk Tryz.prog (cs n):=ctxOf_ok rfl tis_ok tg161.2 n
noncomputable def sh:AS:=⟨[.agg [.int .i64,.int .i64,.int .i64,.int .i64,.int .i64,.int .i64,.int .i64,.int .i64,.int .i64,.int .i64,.int .i64,.int .i64,.int .i64,.int .i64,.int .i64,.int .i64,.frz (.int .i64),.int .i64,.int .i64,.int .i64,.int .i64,.int .i64,.int .i64,.int .i64,.int .i64,.int .i64,.int .i64,.frz y19,.frz y27,.frz y4,.frz y38],.c (.ptr 128000000 0),.agg [.int .i64,.int .i64,.int .i64,.int .i64,.int .i64,.int .i64]],[.box [.int .i64,.int .i64,.int .i64,.sl 128000001],.nest y4]⟩
def os:OS:=⟨.agg [.int .i64,.int .i64,.int .i64,.int .i64],[.box [.int .i64,.int .i64,.int .i64,.sl 128000001],.nest y4]⟩
def enc (r:R):Out:=os.enc r
def dec:Out→Option R:=os.dec
noncomputable def b0:Code:=subF [] Tryz.f68
noncomputable def K0 (k:Nat):Kt R:=kTop (cs k) Tryz.f68 dec
noncomputable def f (k:Nat):Y:=fun v=>held (runFn cs k Tryz.f68 (sh.args v) (sh.slots v) dec)
noncomputable def F:Y:=lm f
def d:Y:=fun (v0,v1,v2,v3,v4,v5,v6,v7,v8,v9,v10,v11,v12,v13,v14,v15,v16,v17,v18,v19,v20,v21,v22,v23,v24,v25,v26,v27,v28,v29,v30,v31,v32,v33,v34,v35,v36,v37,v38,v39,v40) =>
br (decide (0 ≤ v31 ∧ v31 < (↑v28.length:Int))) (br (decide (0 ≤ v31 ∧ v31 < (↑v40.length:Int))) (br (decide (List.length (rd (Ty.int .i64).slice v40 v31) + [v32].length ≤ 140737488355328 / 8)) (br (decide (0 ≤ v31 ∧ v31 < (↑v40.length:Int))) (br (decide (v31 = v31)) (some ((rd ty0 v28 v31).1,wrap .i64 (v32 - v37),v32,(rd ty0 v28 v31).2.2.2.1,wrap .i64 (v32 + (rd ty0 v28 v31).2.2.2.1),v35,v36,v40.set v31.toNat (rd (Ty.int .i64).slice v40 v31 ++ [v32]))) none) none) none) none) none
theorem d_cn:∀ v:A,Cn E (d v) fun i=>d v:=fun (v0,v1,v2,v3,v4,v5,v6,v7,v8,v9,v10,v11,v12,v13,v14,v15,v16,v17,v18,v19,v20,v21,v22,v23,v24,v25,v26,v27,v28,v29,v30,v31,v32,v33,v34,v35,v36,v37,v38,v39,v40)=>(.br (.br (.br (.br (.br .some .none) .none) .none) .none) .none)
theorem f_b (k:Nat):∀ v:A,f k v = d v:=fun (v0,v1,v2,v3,v4,v5,v6,v7,v8,v9,v10,v11,v12,v13,v14,v15,v16,v17,v18,v19,v20,v21,v22,v23,v24,v25,v26,v27,v28,v29,v30,v31,v32,v33,v34,v35,v36,v37,v38,v39,v40)=>(held_eq _).trans (by kernel_rfl)
theorem F_of (v:A) {r:R} (h:d v = some r):F v = some r:=join_of (fun L=>f_b (L 0) v) (d_cn v) h
noncomputable def spec (k:Nat):List AV→List Slot→Option Ans:=specS sh os (f k)
theorem spec_ok (k:Nat):SpecOk Tryz.prog 68 (spec k):=specS_ok cs_ok Tryz.func68 rfl rfl (fun _ _=>held_eq _) k
end g162
noncomputable def tg162:=tg161.cons 68 g162.spec g162.spec_ok
namespace g163 -- plan_Desk_From
abbrev R:Type:=Int × List Int × List (ByteArray × Int) × List (Int × Int × (Int × Int × Int) × Int × Int × Int × Int × Int × Int × Int × Int) × List (List Int) × List (List (Int × Int)) × List (Int × Int × Int × Int)
abbrev A:Type:=Int × Int × Int × Int × Int × Int × Int × Int × Int × Int × Int × Int × Int × Int × Int × Int × Int × Int × Int × Int × Int × Int × Int × Int × Int × Int × Int × Int × Int × List (List Int) × List Int × List (ByteArray × Int) × List (Int × Int × (Int × Int × Int) × Int × Int × Int × Int × Int × Int × Int × Int) × List (List Int) × List (List (Int × Int))
abbrev Y:=A→Option R
def lv:List (Nat × List Nat):=[(2000000,[4,5]),(6,[2,3,7])]
noncomputable def cs:Nat→Ctx:=ctxOf tis modes tg162.1 lv
theorem cs_ok (n:Nat):CtxOk Tryz.prog (cs n):=ctxOf_ok rfl tis_ok tg162.2 n
def sh:AS:=⟨[.agg [.int .i64,.int .i64,.int .i64,.int .i64,.int .i64,.int .i64,.int .i64,.int .i64,.int .i64,.int .i64,.int .i64,.int .i64,.int .i64,.int .i64,.int .i64,.int .i64,.sl 128000000,.int .i64,.int .i64,.int .i64,.int .i64,.int .i64,.int .i64,.int .i64,.int .i64,.int .i64,.int .i64,.sl 128000001,.sl 128000002,.sl 128000003,.sl 128000004],.agg [.int .i64,.int .i64,.int .i64,.frz y4]],[.row (.int .i64),.row y19,.row y27,.nest y4,.nest y38]⟩
def os:OS:=⟨.tup [.c (.sl 128000005),.c (.int .i64)],[.row (.int .i64),.row y19,.row y27,.nest y4,.nest y38,.row y8]⟩
def enc (r:R):Out:=os.enc r
def dec:Out→Option R:=os.dec
noncomputable def b0:Code:=subF [] Tryz.f56
noncomputable def K0 (k:Nat):Kt R:=kTop (cs k) Tryz.f56 dec
noncomputable def b6:Code:=sub [1,1,1,1,0,0,0] b0
noncomputable def K6 ( k:Nat):Kt R:=kAt (cs k) (loopN cs k) [1,1,1,1,0,0] b0 (K0 k)
abbrev T0:Type:=List Int × List (ByteArray × Int) × List (Int × Int × (Int × Int × Int) × Int × Int × Int × Int × Int × Int × Int × Int) × List (List Int) × List (List (Int × Int)) × Int × Int × Int × Int × Int × Int × Int × Int × Int × Int × Int × Int × Int × Int × Int × Int × Int × Int × Int × Int × Int × Int × Int × Int × Int × Int × Int × Int × Int × List (Int × Int × Int × Int) × List (List Int)
abbrev Y0:=T0→Option R
noncomputable def s0:T0→St:=fun (v0,v1,v2,v3,v4,v5,v6,v7,v8,v9,v10,v11,v12,v13,v14,v15,v16,v17,v18,v19,v20,v21,v22,v23,v24,v25,v26,v27,v28,v29,v30,v31,v32,v33,v34,v35)=>⟨43,5,[(2,.c (.ptr 64000000 0)),(3,.c (.ptr 64000001 0)),(7,.c (.sl 64000002))],[],[(128000000,.row (.int .i64) v0),(128000001,.row y19 v1),(128000002,.row y27 v2),(128000003,.nest y4 v3 .none),(128000004,.nest y38 v4 .none),(256000000,.gone),(64000000,.box [.int .i64 v5,.int .i64 v6,.int .i64 v7,.int .i64 v8,.int .i64 v9,.int .i64 v10,.int .i64 v11,.int .i64 v12,.int .i64 v13,.int .i64 v14,.int .i64 v15,.int .i64 v16,.int .i64 v17,.int .i64 v18,.int .i64 v19,.int .i64 v20,.sl 128000000,.int .i64 v21,.int .i64 v22,.int .i64 v23,.int .i64 v24,.int .i64 v25,.int .i64 v26,.int .i64 v27,.int .i64 v28,.int .i64 v29,.int .i64 v30,.sl 128000001,.sl 128000002,.sl 128000003,.sl 128000004]),(64000001,.box [.int .i64 v31,.int .i64 v32,.int .i64 v33,.sl 64000003]),(64000002,.row y8 v34),(64000003,.nest y4 v35 .none)]⟩
noncomputable def l0 ( k n:Nat) (v:T0):Option R:=held (loopN cs n b6 (K6 k) (s0 v))
noncomputable def D0 (v:T0):Option R:=lim fun L=>l0 (L 0) (L 1) v
theorem D0_cn (v:T0):Cn late (D0 v) fun L=>l0 (L 0) (L 1) v:=of_lim
noncomputable def d0 (p0:g161.Y) (p1:Y0) (p2:g162.Y):Y0:=fun (v0,v1,v2,v3,v4,v5,v6,v7,v8,v9,v10,v11,v12,v13,v14,v15,v16,v17,v18,v19,v20,v21,v22,v23,v24,v25,v26,v27,v28,v29,v30,v31,v32,v33,v34,v35) =>
br (decide (v31 < v13)) (bnd (p0 (v5,v6,v7,v8,v9,v10,v11,v12,v13,v14,v15,v16,v17,v18,v19,v20,v21,v22,v23,v24,v25,v26,v27,v28,v29,v30,v31,v32,v33,v35,v0,v1,v2,v3,v4)) fun r=>br (!r.2.2.2.2.2.2.1) (p1 (r.2.2.2.2.2.2.2.1,r.2.2.2.2.2.2.2.2.1,r.2.2.2.2.2.2.2.2.2.1,r.2.2.2.2.2.2.2.2.2.2.1,r.2.2.2.2.2.2.2.2.2.2.2,v5,v6,v7,v8,v9,v10,v11,v12,v13,v14,v15,v16,v17,v18,v19,v20,v21,v22,v23,v24,v25,v26,v27,v28,v29,v30,wrap .i64 (v31 + 1),v32,v33,v34,v35)) (bnd (p2 (v5,v6,v7,v8,v9,v10,v11,v12,v13,v14,v15,v16,v17,v18,v19,v20,r.2.2.2.2.2.2.2.1,v21,v22,v23,v24,v25,v26,v27,v28,v29,v30,r.2.2.2.2.2.2.2.2.1,r.2.2.2.2.2.2.2.2.2.1,r.2.2.2.2.2.2.2.2.2.2.1,r.2.2.2.2.2.2.2.2.2.2.2,r.1,r.2.1,r.2.2.1,r.2.2.2.1,r.2.2.2.2.1,r.2.2.2.2.2.1,v31,v32,v33,v35)) fun r_1=>br (decide (v34.length + [(r_1.1,r_1.2.1,r_1.2.2.1,r_1.2.2.2.1)].length ≤ 140737488355328 / 32)) (p1 (r.2.2.2.2.2.2.2.1,r.2.2.2.2.2.2.2.2.1,r.2.2.2.2.2.2.2.2.2.1,r.2.2.2.2.2.2.2.2.2.2.1,r.2.2.2.2.2.2.2.2.2.2.2,v5,v6,v7,v8,v9,v10,v11,v12,v13,v14,v15,v16,v17,v18,v19,v20,v21,v22,v23,v24,v25,v26,v27,v28,v29,v30,r_1.2.2.2.2.1,r_1.2.2.2.2.2.1,r_1.2.2.2.2.2.2.1,v34 ++ [(r_1.1,r_1.2.1,r_1.2.2.1,r_1.2.2.2.1)],r_1.2.2.2.2.2.2.2)) none)) (some (0,v0,v1,v2,v3,v4,v34))
theorem d0_cn (k0:Pr E g161.A g161.R) (k1:Pr E T0 R) (k2:Pr E g162.A g162.R):∀ v:T0,Cn E (d0 k0.p k1.p k2.p v) fun i=>d0 (k0.q i) (k1.q i) (k2.q i) v:=fun (v0,v1,v2,v3,v4,v5,v6,v7,v8,v9,v10,v11,v12,v13,v14,v15,v16,v17,v18,v19,v20,v21,v22,v23,v24,v25,v26,v27,v28,v29,v30,v31,v32,v33,v34,v35)=>(.br (.bnd (k0.h _) fun _=>(.br (k1.h _) (.bnd (k2.h _) fun _=>(.br (k1.h _) .none)))) .some)
theorem l0_b ( k m1:Nat):∀ v:T0,run (cs m1) (loopN cs m1) b6 (kLoop cs m1 b6 (K6 k)) (s0 v) = d0 (g161.f m1) (l0 k m1) (g162.f m1) v:=fun (v0,v1,v2,v3,v4,v5,v6,v7,v8,v9,v10,v11,v12,v13,v14,v15,v16,v17,v18,v19,v20,v21,v22,v23,v24,v25,v26,v27,v28,v29,v30,v31,v32,v33,v34,v35)=>by kernel_rfl
theorem D0_of (v:T0) {r:R} (h:d0 g161.F D0 g162.F v = some r):D0 v = some r:=loop_of 1 (fun L n hn=>by show l0 (L 0) (L 1) v = _; rw [hn]; exact (held_eq _).trans ((loopN_succ _ _ _ _ _).trans (l0_b (L 0) n v))) (d0_cn (lp g161.f 1) (.mk fun v=>(D0_cn v).re [0,1]) (lp g162.f 1) v) h
noncomputable def f (k:Nat):Y:=fun v=>held (runFn cs k Tryz.f56 (sh.args v) (sh.slots v) dec)
noncomputable def F:Y:=lm f
def d (p0:g137.Y) (p1:g138.Y) (p2:Y0):Y:=fun (v0,v1,v2,v3,v4,v5,v6,v7,v8,v9,v10,v11,v12,v13,v14,v15,v16,v17,v18,v19,v20,v21,v22,v23,v24,v25,v26,v27,v28,v29,v30,v31,v32,v33,v34) =>
bnd (p0 (v0,v1,v2,v3,v4,v5,v6,v7,v8,v9,v10,v11,v12,v13,v14,v15,v30,v16,v17,v18,v19,v20,v21,v22,v23,v24,v25,v31,v32,v33,v34,v26,v27,v28,v29)) fun r=>br (!decide (r = 0)) (some (r,v30,v31,v32,v33,v34,[])) (bnd (p1 (v26,v27,v28,v29)) fun r=>p2 (v30,v31,v32,v33,v34,v0,v1,v2,v3,v4,v5,v6,v7,v8,v9,v10,v11,v12,v13,v14,v15,v16,v17,v18,v19,v20,v21,v22,v23,v24,v25,r.1,r.2.1,r.2.2.1,[],r.2.2.2))
theorem d_cn (k0:Pr E g137.A g137.R) (k1:Pr E g138.A g138.R) (k2:Pr E T0 R):∀ v:A,Cn E (d k0.p k1.p k2.p v) fun i=>d (k0.q i) (k1.q i) (k2.q i) v:=fun (v0,v1,v2,v3,v4,v5,v6,v7,v8,v9,v10,v11,v12,v13,v14,v15,v16,v17,v18,v19,v20,v21,v22,v23,v24,v25,v26,v27,v28,v29,v30,v31,v32,v33,v34)=>(.bnd (k0.h _) fun _=>(.br .some (.bnd (k1.h _) fun _=>(k2.h _))))
theorem f_b (k:Nat):∀ v:A,f k v = d (g137.f k) (g138.f k) (l0 k k) v:=fun (v0,v1,v2,v3,v4,v5,v6,v7,v8,v9,v10,v11,v12,v13,v14,v15,v16,v17,v18,v19,v20,v21,v22,v23,v24,v25,v26,v27,v28,v29,v30,v31,v32,v33,v34)=>(held_eq _).trans (by kernel_rfl)
theorem F_of (v:A) {r:R} (h:d g137.F g138.F D0 v = some r):F v = some r:=join_of (fun L=>f_b (L 0) v) (d_cn (lp g137.f 0) (lp g138.f 0) (.mk fun v=>(D0_cn v).re [0,0]) v) h
noncomputable def spec (k:Nat):List AV→List Slot→Option Ans:=specS sh os (f k)
theorem spec_ok (k:Nat):SpecOk Tryz.prog 56 (spec k):=specS_ok cs_ok Tryz.func56 rfl rfl (fun _ _=>held_eq _) k
end g163
noncomputable def tg163:=tg162.cons 56 g163.spec g163.spec_ok
namespace g164 -- plan_From
abbrev R:Type:=Int × List (Int × Int × Int × Int)
abbrev A:Type:=Int × Int × Int × Int × Int × Int × Int × Int × Int × Int × Int × Int × Int × Int × Int × Int × List Int × Int × Int × Int × Int × Int × Int × Int × Int × Int × Int × List (ByteArray × Int) × List (Int × Int × (Int × Int × Int) × Int × Int × Int × Int × Int × Int × Int × Int) × Int × Int × Int × List (List Int)
abbrev Y:=A→Option R
def lv:List (Nat × List Nat):=[(2000000,[8,9])]
noncomputable def cs:Nat→Ctx:=ctxOf tis modes tg163.1 lv
theorem cs_ok (n:Nat):CtxOk Tryz.prog (cs n):=ctxOf_ok rfl tis_ok tg163.2 n
def sh:AS:=⟨[.agg [.int .i64,.int .i64,.int .i64,.int .i64,.int .i64,.int .i64,.int .i64,.int .i64,.int .i64,.int .i64,.int .i64,.int .i64,.int .i64,.int .i64,.int .i64,.int .i64,.frz (.int .i64)],.agg [.int .i64,.int .i64,.int .i64,.int .i64,.int .i64,.int .i64,.int .i64,.int .i64,.int .i64,.int .i64],.agg [.frz y19,.frz y27],.agg [.int .i64,.int .i64,.int .i64,.frz y4]],[]⟩
def os:OS:=⟨.tup [.c (.sl 128000000),.c (.int .i64)],[(.row y8)]⟩
def enc (r:R):Out:=os.enc r
def dec:Out→Option R:=os.dec
noncomputable def b0:Code:=subF [] Tryz.f26
noncomputable def K0 (k:Nat):Kt R:=kTop (cs k) Tryz.f26 dec
noncomputable def f (k:Nat):Y:=fun v=>held (runFn cs k Tryz.f26 (sh.args v) (sh.slots v) dec)
noncomputable def F:Y:=lm f
noncomputable def d (p0:g135.Y) (p1:g163.Y):Y:=fun (v0,v1,v2,v3,v4,v5,v6,v7,v8,v9,v10,v11,v12,v13,v14,v15,v16,v17,v18,v19,v20,v21,v22,v23,v24,v25,v26,v27,v28,v29,v30,v31,v32) =>
bnd (p0 (v0,v1,v2,v3,v4,v5,v6,v7,v8,v9,v10,v11,v12,v13,v14,v15,v16,v17,v18,v19,v20,v21,v22,v23,v24,v25,v26,v27,v28)) fun r=>br (!decide (r.2.2.2.2.2.2.2.2.2.2.2.2.2.2.2.2.2.2.2.2.2.2.2.2.2.2.1 = 0)) (some (r.2.2.2.2.2.2.2.2.2.2.2.2.2.2.2.2.2.2.2.2.2.2.2.2.2.2.1,[])) (bnd (p1 (r.1,r.2.1,r.2.2.1,r.2.2.2.1,r.2.2.2.2.1,r.2.2.2.2.2.1,r.2.2.2.2.2.2.1,r.2.2.2.2.2.2.2.1,r.2.2.2.2.2.2.2.2.1,r.2.2.2.2.2.2.2.2.2.1,r.2.2.2.2.2.2.2.2.2.2.1,r.2.2.2.2.2.2.2.2.2.2.2.1,r.2.2.2.2.2.2.2.2.2.2.2.2.1,r.2.2.2.2.2.2.2.2.2.2.2.2.2.1,r.2.2.2.2.2.2.2.2.2.2.2.2.2.2.1,r.2.2.2.2.2.2.2.2.2.2.2.2.2.2.2.1,r.2.2.2.2.2.2.2.2.2.2.2.2.2.2.2.2.1,r.2.2.2.2.2.2.2.2.2.2.2.2.2.2.2.2.2.1,r.2.2.2.2.2.2.2.2.2.2.2.2.2.2.2.2.2.2.1,r.2.2.2.2.2.2.2.2.2.2.2.2.2.2.2.2.2.2.2.1,r.2.2.2.2.2.2.2.2.2.2.2.2.2.2.2.2.2.2.2.2.1,r.2.2.2.2.2.2.2.2.2.2.2.2.2.2.2.2.2.2.2.2.2.1,r.2.2.2.2.2.2.2.2.2.2.2.2.2.2.2.2.2.2.2.2.2.2.1,r.2.2.2.2.2.2.2.2.2.2.2.2.2.2.2.2.2.2.2.2.2.2.2.1,r.2.2.2.2.2.2.2.2.2.2.2.2.2.2.2.2.2.2.2.2.2.2.2.2.1,r.2.2.2.2.2.2.2.2.2.2.2.2.2.2.2.2.2.2.2.2.2.2.2.2.2.1,v29,v30,v31,v32,r.2.2.2.2.2.2.2.2.2.2.2.2.2.2.2.2.2.2.2.2.2.2.2.2.2.2.2.1,r.2.2.2.2.2.2.2.2.2.2.2.2.2.2.2.2.2.2.2.2.2.2.2.2.2.2.2.2.1,r.2.2.2.2.2.2.2.2.2.2.2.2.2.2.2.2.2.2.2.2.2.2.2.2.2.2.2.2.2.1,r.2.2.2.2.2.2.2.2.2.2.2.2.2.2.2.2.2.2.2.2.2.2.2.2.2.2.2.2.2.2.1,r.2.2.2.2.2.2.2.2.2.2.2.2.2.2.2.2.2.2.2.2.2.2.2.2.2.2.2.2.2.2.2)) fun r=>some (r.1,r.2.2.2.2.2.2))
theorem d_cn (k0:Pr E g135.A g135.R) (k1:Pr E g163.A g163.R):∀ v:A,Cn E (d k0.p k1.p v) fun i=>d (k0.q i) (k1.q i) v:=fun (v0,v1,v2,v3,v4,v5,v6,v7,v8,v9,v10,v11,v12,v13,v14,v15,v16,v17,v18,v19,v20,v21,v22,v23,v24,v25,v26,v27,v28,v29,v30,v31,v32)=>(.bnd (k0.h _) fun _=>(.br .some (.bnd (k1.h _) fun _=>.some)))
theorem f_b (k:Nat):∀ v:A,f k v = d (g135.f k) (g163.f k) v:=fun (v0,v1,v2,v3,v4,v5,v6,v7,v8,v9,v10,v11,v12,v13,v14,v15,v16,v17,v18,v19,v20,v21,v22,v23,v24,v25,v26,v27,v28,v29,v30,v31,v32)=>(held_eq _).trans (by kernel_rfl)
theorem F_of (v:A) {r:R} (h:d g135.F g163.F v = some r):F v = some r:=join_of (fun L=>f_b (L 0) v) (d_cn (lp g135.f 0) (lp g163.f 0) v) h
noncomputable def spec (k:Nat):List AV→List Slot→Option Ans:=specS sh os (f k)
theorem spec_ok (k:Nat):SpecOk Tryz.prog 26 (spec k):=specS_ok cs_ok Tryz.func26 rfl rfl (fun _ _=>held_eq _) k
end g164
noncomputable def tg164:=tg163.cons 26 g164.spec g164.spec_ok
namespace g165 -- plan_Make
abbrev R:Type:=Int × List (Int × Int × Int × Int)
abbrev A:Type:=Int × Int × Int × Int × Int × Int × Int × Int × Int × Int × Int × Int × Int × Int × Int × Int × List Int × Int × Int × Int × Int × Int × Int × Int × Int × Int × Int × List (ByteArray × Int) × List (Int × Int × (Int × Int × Int) × Int × Int × Int × Int × Int × Int × Int × Int)
abbrev Y:=A→Option R
def lv:List (Nat × List Nat):=[(2000000,[6,7])]
noncomputable def cs:Nat→Ctx:=ctxOf tis modes tg164.1 lv
theorem cs_ok (n:Nat):CtxOk Tryz.prog (cs n):=ctxOf_ok rfl tis_ok tg164.2 n
def sh:AS:=⟨[.agg [.int .i64,.int .i64,.int .i64,.int .i64,.int .i64,.int .i64,.int .i64,.int .i64,.int .i64,.int .i64,.int .i64,.int .i64,.int .i64,.int .i64,.int .i64,.int .i64,.frz (.int .i64)],.agg [.int .i64,.int .i64,.int .i64,.int .i64,.int .i64,.int .i64,.int .i64,.int .i64,.int .i64,.int .i64],.agg [.frz y19,.frz y27]],[]⟩
def os:OS:=⟨.tup [.c (.sl 128000000),.c (.int .i64)],[(.row y8)]⟩
def enc (r:R):Out:=os.enc r
def dec:Out→Option R:=os.dec
noncomputable def b0:Code:=subF [] Tryz.f18
noncomputable def K0 (k:Nat):Kt R:=kTop (cs k) Tryz.f18 dec
noncomputable def f (k:Nat):Y:=fun v=>held (runFn cs k Tryz.f18 (sh.args v) (sh.slots v) dec)
noncomputable def F:Y:=lm f
def d (p0:g0.Y) (p1:g164.Y):Y:=fun (v0,v1,v2,v3,v4,v5,v6,v7,v8,v9,v10,v11,v12,v13,v14,v15,v16,v17,v18,v19,v20,v21,v22,v23,v24,v25,v26,v27,v28) =>
bnd (p0 (v17,v18,v19,v20,v21,v22,v23,v24,v25,v26,v27,v28)) fun r=>bnd (p1 (v0,v1,v2,v3,v4,v5,v6,v7,v8,v9,v10,v11,v12,v13,v14,v15,v16,v17,v18,v19,v20,v21,v22,v23,v24,v25,v26,v27,v28,r.1,r.2.1,r.2.2.1,r.2.2.2)) fun r=>some (r.1,r.2)
theorem d_cn (k0:Pr E g0.A g0.R) (k1:Pr E g164.A g164.R):∀ v:A,Cn E (d k0.p k1.p v) fun i=>d (k0.q i) (k1.q i) v:=fun (v0,v1,v2,v3,v4,v5,v6,v7,v8,v9,v10,v11,v12,v13,v14,v15,v16,v17,v18,v19,v20,v21,v22,v23,v24,v25,v26,v27,v28)=>(.bnd (k0.h _) fun _=>(.bnd (k1.h _) fun _=>.some))
theorem f_b (k:Nat):∀ v:A,f k v = d (g0.f k) (g164.f k) v:=fun (v0,v1,v2,v3,v4,v5,v6,v7,v8,v9,v10,v11,v12,v13,v14,v15,v16,v17,v18,v19,v20,v21,v22,v23,v24,v25,v26,v27,v28)=>(held_eq _).trans (by kernel_rfl)
theorem F_of (v:A) {r:R} (h:d g0.F g164.F v = some r):F v = some r:=join_of (fun L=>f_b (L 0) v) (d_cn (lp g0.f 0) (lp g164.f 0) v) h
noncomputable def spec (k:Nat):List AV→List Slot→Option Ans:=specS sh os (f k)
theorem spec_ok (k:Nat):SpecOk Tryz.prog 18 (spec k):=specS_ok cs_ok Tryz.func18 rfl rfl (fun _ _=>held_eq _) k
end g165
noncomputable def tg165:=tg164.cons 18 g165.spec g165.spec_ok
namespace g166 -- spykeep2_plans
abbrev R:Type:=Bool
abbrev A:Type:=Unit
abbrev Y:=A→Option R
def lv:List (Nat × List Nat):=[(2000000,[0])]
noncomputable def cs:Nat→Ctx:=ctxOf tis modes tg165.1 lv
theorem cs_ok (n:Nat):CtxOk Tryz.prog (cs n):=ctxOf_ok rfl tis_ok tg165.2 n
def sh:AS:=⟨[],[]⟩
def os:OS:=⟨.c .bool,[]⟩
def enc (r:R):Out:=os.enc r
def dec:Out→Option R:=os.dec
noncomputable def b0:Code:=subF [] Tryz.f14
noncomputable def K0 (k:Nat):Kt R:=kTop (cs k) Tryz.f14 dec
noncomputable def f (k:Nat):Y:=fun v=>held (runFn cs k Tryz.f14 (sh.args v) (sh.slots v) dec)
noncomputable def F:Y:=lm f
def d (p0:g165.Y):Y:=fun _ =>
bnd (p0 (536870912,0,0,0,50,1,0,600000,2,1,0,-40,1,0,-40,0,[0,0],-8589934592,8589934592,1073741824,1073741824,-8589934592,8589934592,1073741824,1073741824,0,0,[(bs1,1)],[(4,0,(1,0,40),1,1,0,0,0,1073741824,0,1)])) fun r=>br (!(decide (r.1 = 0) && decide ((↑r.2.length:Int) = 1)) == true || decide ((0:Int) ≤ 0 ∧ 0 < (↑r.2.length:Int))) (br (!(decide (r.1 = 0) && decide ((↑r.2.length:Int) = 1) && decide ((rd ty2 r.2 0).1 = 4)) == true || decide ((0:Int) ≤ 0 ∧ 0 < (↑r.2.length:Int))) (some (decide (r.1 = 0) && decide ((↑r.2.length:Int) = 1) && decide ((rd ty2 r.2 0).1 = 4) && decide ((rd ty2 r.2 0).2.2.2 = 1))) none) none
theorem d_cn (k0:Pr E g165.A g165.R):∀ v:A,Cn E (d k0.p v) fun i=>d (k0.q i) v:=fun _=>(.bnd (k0.h _) fun _=>(.br (.br .some .none) .none))
theorem f_b (k:Nat):∀ v:A,f k v = d (g165.f k) v:=fun _=>(held_eq _).trans (by kernel_rfl)
theorem F_of (v:A) {r:R} (h:d g165.F v = some r):F v = some r:=join_of (fun L=>f_b (L 0) v) (d_cn (lp g165.f 0) v) h
noncomputable def spec (k:Nat):List AV→List Slot→Option Ans:=specS sh os (f k)
theorem spec_ok (k:Nat):SpecOk Tryz.prog 14 (spec k):=specS_ok cs_ok Tryz.func14 rfl rfl (fun _ _=>held_eq _) k
end g166
noncomputable def tg166:=tg165.cons 14 g166.spec g166.spec_ok
namespace g167 -- spymake_Below
abbrev R:Type:=Int
abbrev A:Type:=Int × Int
abbrev Y:=A→Option R
def lv:List (Nat × List Nat):=[(2000000,[4]),(1000006,[0])]
noncomputable def cs:Nat→Ctx:=ctxOf tis modes tg166.1 lv
theorem cs_ok (n:Nat):CtxOk Tryz.prog (cs n):=ctxOf_ok rfl tis_ok tg166.2 n
def sh:AS:=⟨[.c (.int .i64),.c (.int .i64)],[]⟩
def os:OS:=⟨.c (.int .i64),[]⟩
def enc (r:R):Out:=os.enc r
def dec:Out→Option R:=os.dec
noncomputable def b0:Code:=subF [] Tryz.f20
noncomputable def K0 (k:Nat):Kt R:=kTop (cs k) Tryz.f20 dec
noncomputable def c1000006:Code:=sub [1,1,1,1] b0
noncomputable def J1000006 ( k:Nat):Kt R:=kAt (cs k) (loopN cs k) [1,1,1,1] b0 (K0 k)
abbrev T0:Type:=Int
abbrev Y0:=T0→Option R
def s0:T0→St:=fun v0=>⟨16,0,[(0,.c (.int .i64 v0))],[],[(256000000,.gone)]⟩
noncomputable def l0 ( k:Nat) (v:T0):Option R:=held (run (cs k) (loopN cs k) c1000006 (J1000006 k) (s0 v))
noncomputable def D0 (v:T0):Option R:=lim fun L=>l0 (L 0) v
theorem D0_cn (v:T0):Cn late (D0 v) fun L=>l0 (L 0) v:=of_lim
def d0:Y0:=fun v0 =>
some v0
theorem d0_cn:∀ v:T0,Cn E (d0 v) fun i=>d0 v:=fun v0=>.some
theorem l0_b ( k:Nat):∀ v:T0,run (cs k) (loopN cs k) c1000006 (J1000006 k) (s0 v) = d0 v:=fun v0=>by kernel_rfl
theorem D0_of (v:T0) {r:R} (h:d0 v = some r):D0 v = some r:=join_of (fun L=>(held_eq _).trans (l0_b (L 0) v)) (d0_cn v) h
noncomputable def f (k:Nat):Y:=fun v=>held (runFn cs k Tryz.f20 (sh.args v) (sh.slots v) dec)
noncomputable def F:Y:=lm f
def d (p0:Y0):Y:=fun (v0,v1) =>
br (decide (v1 < 1)) (some 0) (br (!decide (v1 = 0)) (br (decide (v0.tmod v1 < 0)) (p0 (wrap .i64 (v0.tmod v1 + v1))) (p0 (v0.tmod v1))) none)
theorem d_cn (k0:Pr E T0 R):∀ v:A,Cn E (d k0.p v) fun i=>d (k0.q i) v:=fun (v0,v1)=>(.br .some (.br (.br (k0.h _) (k0.h _)) .none))
theorem f_b (k:Nat):∀ v:A,f k v = d (l0 k) v:=fun (v0,v1)=>(held_eq _).trans (by kernel_rfl)
theorem F_of (v:A) {r:R} (h:d D0 v = some r):F v = some r:=join_of (fun L=>f_b (L 0) v) (d_cn (.mk fun v=>(D0_cn v).re [0]) v) h
noncomputable def spec (k:Nat):List AV→List Slot→Option Ans:=specS sh os (f k)
theorem spec_ok (k:Nat):SpecOk Tryz.prog 20 (spec k):=specS_ok cs_ok Tryz.func20 rfl rfl (fun _ _=>held_eq _) k
end g167
noncomputable def tg167:=tg166.cons 20 g167.spec g167.spec_ok
namespace g168 -- spymake_Stream_Next
abbrev R:Type:=Int × List Int × Int
abbrev A:Type:=Int × List Int × Int
abbrev Y:=A→Option R
def lv:List (Nat × List Nat):=[(2000000,[4])]
noncomputable def cs:Nat→Ctx:=ctxOf tis modes tg167.1 lv
theorem cs_ok (n:Nat):CtxOk Tryz.prog (cs n):=ctxOf_ok rfl tis_ok tg167.2 n
def sh:AS:=⟨[.c (.ptr 128000000 0),.c (.int .i64)],[(.box [.frz (.int .i64),.int .i64])]⟩
def os:OS:=⟨.c (.int .i64),[(.box [.frz (.int .i64),.int .i64])]⟩
def enc (r:R):Out:=os.enc r
def dec:Out→Option R:=os.dec
noncomputable def b0:Code:=subF [] Tryz.f43
noncomputable def K0 (k:Nat):Kt R:=kTop (cs k) Tryz.f43 dec
noncomputable def f (k:Nat):Y:=fun v=>held (runFn cs k Tryz.f43 (sh.args v) (sh.slots v) dec)
noncomputable def F:Y:=lm f
noncomputable def d (p0:g167.Y):Y:=fun (v0,v1,v2) =>
br (decide ((↑v1.length:Int) = 0)) (bnd (p0 (wrap .i64 (wrap .i64 (v2 + 1) * 7919),v0)) fun r=>some (r,v1,wrap .i64 (v2 + 1))) (br (!decide ((↑v1.length:Int) = 0)) (br (!decide ((↑v1.length:Int) = 0)) (br (decide (0 ≤ (wrap .i64 (wrap .i64 (v2 + 1) - 1)).tmod (↑v1.length:Int) ∧ (wrap .i64 (wrap .i64 (v2 + 1) - 1)).tmod (↑v1.length:Int) < (↑v1.length:Int))) (bnd (p0 (rd (Ty.int .i64) v1 ((wrap .i64 (wrap .i64 (v2 + 1) - 1)).tmod (↑v1.length:Int)),1073741824)) fun r=>bnd (p0 (wrap .i64 (r + wrap .i64 (wrap .i64 ((wrap .i64 (wrap .i64 (v2 + 1) - 1)).tdiv (↑v1.length:Int)) * wrap .i64 (7919 + (wrap .i64 (wrap .i64 (v2 + 1) - 1)).tmod (↑v1.length:Int)))),v0)) fun r=>some (r,v1,wrap .i64 (v2 + 1))) none) none) none)
theorem d_cn (k0:Pr E g167.A g167.R):∀ v:A,Cn E (d k0.p v) fun i=>d (k0.q i) v:=fun (v0,v1,v2)=>(.br (.bnd (k0.h _) fun _=>.some) (.br (.br (.br (.bnd (k0.h _) fun _=>(.bnd (k0.h _) fun _=>.some)) .none) .none) .none))
theorem f_b (k:Nat):∀ v:A,f k v = d (g167.f k) v:=fun (v0,v1,v2)=>(held_eq _).trans (by kernel_rfl)
theorem F_of (v:A) {r:R} (h:d g167.F v = some r):F v = some r:=join_of (fun L=>f_b (L 0) v) (d_cn (lp g167.f 0) v) h
noncomputable def spec (k:Nat):List AV→List Slot→Option Ans:=specS sh os (f k)
theorem spec_ok (k:Nat):SpecOk Tryz.prog 43 (spec k):=specS_ok cs_ok Tryz.func43 rfl rfl (fun _ _=>held_eq _) k
end g168
noncomputable def tg168:=tg167.cons 43 g168.spec g168.spec_ok
namespace g169 -- spymake_Stream_Range
abbrev R:Type:=Int × List Int × Int
abbrev A:Type:=Int × Int × List Int × Int
abbrev Y:=A→Option R
def lv:List (Nat × List Nat):=[(2000000,[6])]
noncomputable def cs:Nat→Ctx:=ctxOf tis modes tg168.1 lv
theorem cs_ok (n:Nat):CtxOk Tryz.prog (cs n):=ctxOf_ok rfl tis_ok tg168.2 n
def sh:AS:=⟨[.c (.ptr 128000000 0),.c (.int .i64),.c (.int .i64)],[(.box [.frz (.int .i64),.int .i64])]⟩
def os:OS:=⟨.c (.int .i64),[(.box [.frz (.int .i64),.int .i64])]⟩
def enc (r:R):Out:=os.enc r
def dec:Out→Option R:=os.dec
noncomputable def b0:Code:=subF [] Tryz.f42
noncomputable def K0 (k:Nat):Kt R:=kTop (cs k) Tryz.f42 dec
noncomputable def f (k:Nat):Y:=fun v=>held (runFn cs k Tryz.f42 (sh.args v) (sh.slots v) dec)
noncomputable def F:Y:=lm f
def d (p0:g168.Y):Y:=fun (v0,v1,v2,v3) =>
br (decide (v1 < v0)) (some (v0,v2,v3)) (bnd (p0 (wrap .i64 (wrap .i64 (v1 - v0) + 1),v2,v3)) fun r=>some (wrap .i64 (v0 + r.1),r.2.1,r.2.2))
theorem d_cn (k0:Pr E g168.A g168.R):∀ v:A,Cn E (d k0.p v) fun i=>d (k0.q i) v:=fun (v0,v1,v2,v3)=>(.br .some (.bnd (k0.h _) fun _=>.some))
theorem f_b (k:Nat):∀ v:A,f k v = d (g168.f k) v:=fun (v0,v1,v2,v3)=>(held_eq _).trans (by kernel_rfl)
theorem F_of (v:A) {r:R} (h:d g168.F v = some r):F v = some r:=join_of (fun L=>f_b (L 0) v) (d_cn (lp g168.f 0) v) h
noncomputable def spec (k:Nat):List AV→List Slot→Option Ans:=specS sh os (f k)
theorem spec_ok (k:Nat):SpecOk Tryz.prog 42 (spec k):=specS_ok cs_ok Tryz.func42 rfl rfl (fun _ _=>held_eq _) k
end g169
noncomputable def tg169:=tg168.cons 42 g169.spec g169.spec_ok
namespace g170 -- spymake_Stream_Vec
abbrev R:Type:=Int × Int × Int × List Int × Int
abbrev A:Type:=List Int × Int
abbrev Y:=A→Option R
def lv:List (Nat × List Nat):=[(2000000,[2]),(1000005,[2,4])]
noncomputable def cs:Nat→Ctx:=ctxOf tis modes tg169.1 lv
theorem cs_ok (n:Nat):CtxOk Tryz.prog (cs n):=ctxOf_ok rfl tis_ok tg169.2 n
def sh:AS:=⟨[(.c (.ptr 128000000 0))],[(.box [.frz (.int .i64),.int .i64])]⟩
def os:OS:=⟨.agg [.int .i64,.int .i64,.int .i64],[(.box [.frz (.int .i64),.int .i64])]⟩
def enc (r:R):Out:=os.enc r
def dec:Out→Option R:=os.dec
noncomputable def b0:Code:=subF [] Tryz.f44
noncomputable def K0 (k:Nat):Kt R:=kTop (cs k) Tryz.f44 dec
noncomputable def c1000005:Code:=sub [1,1,1,1] b0
noncomputable def J1000005 ( k:Nat):Kt R:=kAt (cs k) (loopN cs k) [1,1,1,1] b0 (K0 k)
abbrev T0:Type:=List Int × Int × Int × Int × Int × Int × Int × Int
abbrev Y0:=T0→Option R
def s0:T0→St:=fun (v0,v1,v2,v3,v4,v5,v6,v7)=>⟨31,1,[(2,.c (.ptr 64000000 0)),(4,.c (.ptr 64000001 0))],[],[(128000000,.box [.frz (.int .i64) v0,.int .i64 v1]),(256000000,.gone),(64000000,.box [.int .i64 v2,.int .i64 v3,.int .i64 v4]),(64000001,.box [.int .i64 v5,.int .i64 v6,.int .i64 v7])]⟩
noncomputable def l0 ( k:Nat) (v:T0):Option R:=held (run (cs k) (loopN cs k) c1000005 (J1000005 k) (s0 v))
noncomputable def D0 (v:T0):Option R:=lim fun L=>l0 (L 0) v
theorem D0_cn (v:T0):Cn late (D0 v) fun L=>l0 (L 0) v:=of_lim
def d0:Y0:=fun (v0,v1,v2,v3,v4,v5,v6,v7) =>
some (v5,v6,v7,v0,v1)
theorem d0_cn:∀ v:T0,Cn E (d0 v) fun i=>d0 v:=fun (v0,v1,v2,v3,v4,v5,v6,v7)=>.some
theorem l0_b ( k:Nat):∀ v:T0,run (cs k) (loopN cs k) c1000005 (J1000005 k) (s0 v) = d0 v:=fun (v0,v1,v2,v3,v4,v5,v6,v7)=>by kernel_rfl
theorem D0_of (v:T0) {r:R} (h:d0 v = some r):D0 v = some r:=join_of (fun L=>(held_eq _).trans (l0_b (L 0) v)) (d0_cn v) h
noncomputable def f (k:Nat):Y:=fun v=>held (runFn cs k Tryz.f44 (sh.args v) (sh.slots v) dec)
noncomputable def F:Y:=lm f
noncomputable def d (p0:g168.Y) (p1:g169.Y) (p2:Y0):Y:=fun (v0,v1) =>
bnd (p0 (4,v0,v1)) fun r=>br (decide (0 ≤ r.1 ∧ r.1 < (↑[3,100,5000,1048576].length:Int))) (bnd (p1 (wrap .i64 (0 - rd (Ty.int .i64) [3,100,5000,1048576] r.1),rd (Ty.int .i64) [3,100,5000,1048576] r.1,r.2.1,r.2.2)) fun r_1=>bnd (p1 (wrap .i64 (0 - rd (Ty.int .i64) [3,100,5000,1048576] r.1),rd (Ty.int .i64) [3,100,5000,1048576] r.1,r_1.2.1,r_1.2.2)) fun r_2=>bnd (p1 (wrap .i64 (0 - rd (Ty.int .i64) [3,100,5000,1048576] r.1),rd (Ty.int .i64) [3,100,5000,1048576] r.1,r_2.2.1,r_2.2.2)) fun r=>br (decide (r_1.1 = 0) && (decide (r_2.1 = 0) && (decide (r.1 = 0) && true))) (p2 (r.2.1,r.2.2,0,0,0,1,r_2.1,r.1)) (p2 (r.2.1,r.2.2,0,0,0,r_1.1,r_2.1,r.1))) none
theorem d_cn (k0:Pr E g168.A g168.R) (k1:Pr E g169.A g169.R) (k2:Pr E T0 R):∀ v:A,Cn E (d k0.p k1.p k2.p v) fun i=>d (k0.q i) (k1.q i) (k2.q i) v:=fun (v0,v1)=>(.bnd (k0.h _) fun _=>(.br (.bnd (k1.h _) fun _=>(.bnd (k1.h _) fun _=>(.bnd (k1.h _) fun _=>(.br (k2.h _) (k2.h _))))) .none))
theorem f_b (k:Nat):∀ v:A,f k v = d (g168.f k) (g169.f k) (l0 k) v:=fun (v0,v1)=>(held_eq _).trans (by kernel_rfl)
theorem F_of (v:A) {r:R} (h:d g168.F g169.F D0 v = some r):F v = some r:=join_of (fun L=>f_b (L 0) v) (d_cn (lp g168.f 0) (lp g169.f 0) (.mk fun v=>(D0_cn v).re [0]) v) h
noncomputable def spec (k:Nat):List AV→List Slot→Option Ans:=specS sh os (f k)
theorem spec_ok (k:Nat):SpecOk Tryz.prog 44 (spec k):=specS_ok cs_ok Tryz.func44 rfl rfl (fun _ _=>held_eq _) k
end g170
noncomputable def tg170:=tg169.cons 44 g170.spec g170.spec_ok
namespace g171 -- spymake_Stream_Night
abbrev R:Type:=Int × Int × Int × Int × Int × Int × Int × Int × Int × Int × Int × Int × Int × Int × Int × Int × List Int × Int × List Int
abbrev A:Type:=Int × List Int × Int
abbrev Y:=A→Option R
def lv:List (Nat × List Nat):=[(2000000,[4]),(1000012,[0,4,5]),(13,[0,4,5,71,72]),(1000017,[0,4,5,7,71,72]),(1000018,[0,4,5,71,72])]
noncomputable def cs:Nat→Ctx:=ctxOf tis modes tg170.1 lv
theorem cs_ok (n:Nat):CtxOk Tryz.prog (cs n):=ctxOf_ok rfl tis_ok tg170.2 n
def sh:AS:=⟨[.c (.ptr 128000000 0),.c (.int .i64)],[(.box [.frz (.int .i64),.int .i64])]⟩
def os:OS:=⟨.agg [.int .i64,.int .i64,.int .i64,.int .i64,.int .i64,.int .i64,.int .i64,.int .i64,.int .i64,.int .i64,.int .i64,.int .i64,.int .i64,.int .i64,.int .i64,.int .i64,.sl 128000001],[.box [.frz (.int .i64),.int .i64],.row (.int .i64)]⟩
def enc (r:R):Out:=os.enc r
def dec:Out→Option R:=os.dec
noncomputable def b0:Code:=subF [] Tryz.f15
noncomputable def K0 (k:Nat):Kt R:=kTop (cs k) Tryz.f15 dec
noncomputable def c1000012:Code:=sub [1,1,1,1,1,1,1,1] b0
noncomputable def J1000012 ( k:Nat):Kt R:=kAt (cs k) (loopN cs k) [1,1,1,1,1,1,1,1] b0 (K0 k)
noncomputable def b13:Code:=sub [1,1,1,1,1,1,1,1,0,1,0,0] b0
noncomputable def K13 ( k:Nat):Kt R:=kAt (cs k) (loopN cs k) [1,1,1,1,1,1,1,1,0,1,0] b0 (K0 k)
noncomputable def c1000018:Code:=sub [1,1,1] b13
noncomputable def J1000018 ( k m1:Nat):Kt R:=kAt (cs m1) (loopN cs m1) [1,1,1] b13 (kLoop cs m1 b13 (K13 k))
noncomputable def c1000017:Code:=sub [1,1,0,0,1,1] b13
noncomputable def J1000017 ( k m1:Nat):Kt R:=kAt (cs m1) (loopN cs m1) [1,1,0,0,1,1] b13 (kLoop cs m1 b13 (K13 k))
abbrev T0:Type:=List Int × Int × Int × Int × Int × Int × Int × Int × Int × Int × Int × Int × Int × Int × Int × Int × Int × Int × Int × Int × Int × Int × Int × Int × Int × Int × Int × Int × Int × Int × Int × Int × Int × Int × List Int × List Int
abbrev Y0:=T0→Option R
noncomputable def s0:T0→St:=fun (v0,v1,v2,v3,v4,v5,v6,v7,v8,v9,v10,v11,v12,v13,v14,v15,v16,v17,v18,v19,v20,v21,v22,v23,v24,v25,v26,v27,v28,v29,v30,v31,v32,v33,v34,v35)=>⟨87,1,[(0,.c (.ptr 128000000 0)),(4,.c (.ptr 64000000 0)),(5,.c (.ptr 64000001 0))],[],[(128000000,.box [.frz (.int .i64) v0,.int .i64 v1]),(256000000,.gone),(64000000,.box [.int .i64 v2,.int .i64 v3,.int .i64 v4,.int .i64 v5,.int .i64 v6,.int .i64 v7,.int .i64 v8,.int .i64 v9,.int .i64 v10,.int .i64 v11,.int .i64 v12,.int .i64 v13,.int .i64 v14,.int .i64 v15,.int .i64 v16,.int .i64 v17,.sl 64000002]),(64000001,.box [.int .i64 v18,.int .i64 v19,.int .i64 v20,.int .i64 v21,.int .i64 v22,.int .i64 v23,.int .i64 v24,.int .i64 v25,.int .i64 v26,.int .i64 v27,.int .i64 v28,.int .i64 v29,.int .i64 v30,.int .i64 v31,.int .i64 v32,.int .i64 v33,.sl 64000003]),(64000002,.row (.int .i64) v34),(64000003,.row (.int .i64) v35)]⟩
noncomputable def l0 ( k:Nat) (v:T0):Option R:=held (run (cs k) (loopN cs k) c1000012 (J1000012 k) (s0 v))
noncomputable def D0 (v:T0):Option R:=lim fun L=>l0 (L 0) v
theorem D0_cn (v:T0):Cn late (D0 v) fun L=>l0 (L 0) v:=of_lim
abbrev T1:Type:=Int × Int × List Int × Int × Int × Int × Int × Int × Int × Int × Int × Int × Int × Int × Int × Int × Int × Int × Int × Int × Int × Int × Int × Int × Int × Int × Int × Int × Int × Int × Int × Int × Int × Int × Int × Int × List Int × List Int
abbrev Y1:=T1→Option R
noncomputable def s1:T1→St:=fun (v0,v1,v2,v3,v4,v5,v6,v7,v8,v9,v10,v11,v12,v13,v14,v15,v16,v17,v18,v19,v20,v21,v22,v23,v24,v25,v26,v27,v28,v29,v30,v31,v32,v33,v34,v35,v36,v37)=>⟨87,1,[(0,.c (.ptr 128000000 0)),(4,.c (.ptr 64000000 0)),(5,.c (.ptr 64000001 0)),(71,.c (.int .i64 v0)),(72,.c (.int .i64 v1))],[],[(128000000,.box [.frz (.int .i64) v2,.int .i64 v3]),(256000000,.gone),(64000000,.box [.int .i64 v4,.int .i64 v5,.int .i64 v6,.int .i64 v7,.int .i64 v8,.int .i64 v9,.int .i64 v10,.int .i64 v11,.int .i64 v12,.int .i64 v13,.int .i64 v14,.int .i64 v15,.int .i64 v16,.int .i64 v17,.int .i64 v18,.int .i64 v19,.sl 64000002]),(64000001,.box [.int .i64 v20,.int .i64 v21,.int .i64 v22,.int .i64 v23,.int .i64 v24,.int .i64 v25,.int .i64 v26,.int .i64 v27,.int .i64 v28,.int .i64 v29,.int .i64 v30,.int .i64 v31,.int .i64 v32,.int .i64 v33,.int .i64 v34,.int .i64 v35,.sl 64000003]),(64000002,.row (.int .i64) v36),(64000003,.row (.int .i64) v37)]⟩
noncomputable def l1 ( k n:Nat) (v:T1):Option R:=held (loopN cs n b13 (K13 k) (s1 v))
noncomputable def D1 (v:T1):Option R:=lim fun L=>l1 (L 0) (L 1) v
theorem D1_cn (v:T1):Cn late (D1 v) fun L=>l1 (L 0) (L 1) v:=of_lim
abbrev T2:Type:=Int × Int × Int × List Int × Int × Int × Int × Int × Int × Int × Int × Int × Int × Int × Int × Int × Int × Int × Int × Int × Int × Int × Int × Int × Int × Int × Int × Int × Int × Int × Int × Int × Int × Int × Int × Int × Int × List Int × List Int
abbrev Y2:=T2→Option R
noncomputable def s2:T2→St:=fun (v0,v1,v2,v3,v4,v5,v6,v7,v8,v9,v10,v11,v12,v13,v14,v15,v16,v17,v18,v19,v20,v21,v22,v23,v24,v25,v26,v27,v28,v29,v30,v31,v32,v33,v34,v35,v36,v37,v38)=>⟨87,1,[(0,.c (.ptr 128000000 0)),(4,.c (.ptr 64000000 0)),(5,.c (.ptr 64000001 0)),(7,.c (.int .i64 v0)),(71,.c (.int .i64 v1)),(72,.c (.int .i64 v2))],[],[(128000000,.box [.frz (.int .i64) v3,.int .i64 v4]),(256000000,.gone),(64000000,.box [.int .i64 v5,.int .i64 v6,.int .i64 v7,.int .i64 v8,.int .i64 v9,.int .i64 v10,.int .i64 v11,.int .i64 v12,.int .i64 v13,.int .i64 v14,.int .i64 v15,.int .i64 v16,.int .i64 v17,.int .i64 v18,.int .i64 v19,.int .i64 v20,.sl 64000002]),(64000001,.box [.int .i64 v21,.int .i64 v22,.int .i64 v23,.int .i64 v24,.int .i64 v25,.int .i64 v26,.int .i64 v27,.int .i64 v28,.int .i64 v29,.int .i64 v30,.int .i64 v31,.int .i64 v32,.int .i64 v33,.int .i64 v34,.int .i64 v35,.int .i64 v36,.sl 64000003]),(64000002,.row (.int .i64) v37),(64000003,.row (.int .i64) v38)]⟩
noncomputable def l2 ( k m1:Nat) (v:T2):Option R:=held (run (cs m1) (loopN cs m1) c1000017 (J1000017 k m1) (s2 v))
noncomputable def D2 (v:T2):Option R:=lim fun L=>l2 (L 0) (L 1) v
theorem D2_cn (v:T2):Cn late (D2 v) fun L=>l2 (L 0) (L 1) v:=of_lim
abbrev T3:Type:=Int × Int × List Int × Int × Int × Int × Int × Int × Int × Int × Int × Int × Int × Int × Int × Int × Int × Int × Int × Int × Int × Int × Int × Int × Int × Int × Int × Int × Int × Int × Int × Int × Int × Int × Int × Int × List Int × List Int
abbrev Y3:=T3→Option R
noncomputable def s3:T3→St:=fun (v0,v1,v2,v3,v4,v5,v6,v7,v8,v9,v10,v11,v12,v13,v14,v15,v16,v17,v18,v19,v20,v21,v22,v23,v24,v25,v26,v27,v28,v29,v30,v31,v32,v33,v34,v35,v36,v37)=>⟨87,1,[(0,.c (.ptr 128000000 0)),(4,.c (.ptr 64000000 0)),(5,.c (.ptr 64000001 0)),(71,.c (.int .i64 v0)),(72,.c (.int .i64 v1))],[],[(128000000,.box [.frz (.int .i64) v2,.int .i64 v3]),(256000000,.gone),(64000000,.box [.int .i64 v4,.int .i64 v5,.int .i64 v6,.int .i64 v7,.int .i64 v8,.int .i64 v9,.int .i64 v10,.int .i64 v11,.int .i64 v12,.int .i64 v13,.int .i64 v14,.int .i64 v15,.int .i64 v16,.int .i64 v17,.int .i64 v18,.int .i64 v19,.sl 64000002]),(64000001,.box [.int .i64 v20,.int .i64 v21,.int .i64 v22,.int .i64 v23,.int .i64 v24,.int .i64 v25,.int .i64 v26,.int .i64 v27,.int .i64 v28,.int .i64 v29,.int .i64 v30,.int .i64 v31,.int .i64 v32,.int .i64 v33,.int .i64 v34,.int .i64 v35,.sl 64000003]),(64000002,.row (.int .i64) v36),(64000003,.row (.int .i64) v37)]⟩
noncomputable def l3 ( k m1:Nat) (v:T3):Option R:=held (run (cs m1) (loopN cs m1) c1000018 (J1000018 k m1) (s3 v))
noncomputable def D3 (v:T3):Option R:=lim fun L=>l3 (L 0) (L 1) v
theorem D3_cn (v:T3):Cn late (D3 v) fun L=>l3 (L 0) (L 1) v:=of_lim
def d0 (p0:Y1):Y0:=fun (v0,v1,v2,v3,v4,v5,v6,v7,v8,v9,v10,v11,v12,v13,v14,v15,v16,v17,v18,v19,v20,v21,v22,v23,v24,v25,v26,v27,v28,v29,v30,v31,v32,v33,v34,v35) =>
p0 (v26,0,v0,v1,v2,v3,v4,v5,v6,v7,v8,v9,v10,v11,v12,v13,v14,v15,v16,v17,v18,v19,v20,v21,v22,v23,v24,v25,v26,v27,v28,v29,v30,v31,v32,v33,v34,v35)
theorem d0_cn (k0:Pr E T1 R):∀ v:T0,Cn E (d0 k0.p v) fun i=>d0 (k0.q i) v:=fun (v0,v1,v2,v3,v4,v5,v6,v7,v8,v9,v10,v11,v12,v13,v14,v15,v16,v17,v18,v19,v20,v21,v22,v23,v24,v25,v26,v27,v28,v29,v30,v31,v32,v33,v34,v35)=>(k0.h _)
theorem l0_b ( k:Nat):∀ v:T0,run (cs k) (loopN cs k) c1000012 (J1000012 k) (s0 v) = d0 (l1 k k) v:=fun (v0,v1,v2,v3,v4,v5,v6,v7,v8,v9,v10,v11,v12,v13,v14,v15,v16,v17,v18,v19,v20,v21,v22,v23,v24,v25,v26,v27,v28,v29,v30,v31,v32,v33,v34,v35)=>by kernel_rfl
theorem D0_of (v:T0) {r:R} (h:d0 D1 v = some r):D0 v = some r:=join_of (fun L=>(held_eq _).trans (l0_b (L 0) v)) (d0_cn (.mk fun v=>(D1_cn v).re [0,0]) v) h
noncomputable def d1 (p0:g168.Y) (p1:Y2):Y1:=fun (v0,v1,v2,v3,v4,v5,v6,v7,v8,v9,v10,v11,v12,v13,v14,v15,v16,v17,v18,v19,v20,v21,v22,v23,v24,v25,v26,v27,v28,v29,v30,v31,v32,v33,v34,v35,v36,v37) =>
br (decide (v1 < v0)) (bnd (p0 (5,v2,v3)) fun r=>br (decide (r.1 = 0)) (bnd (p0 (5,r.2.1,r.2.2)) fun r=>p1 (r.1,v0,v1,r.2.1,r.2.2,v4,v5,v6,v7,v8,v9,v10,v11,v12,v13,v14,v15,v16,v17,v18,v19,v20,v21,v22,v23,v24,v25,v26,v27,v28,v29,v30,v31,v32,v33,v34,v35,v36,v37)) (p1 (0,v0,v1,r.2.1,r.2.2,v4,v5,v6,v7,v8,v9,v10,v11,v12,v13,v14,v15,v16,v17,v18,v19,v20,v21,v22,v23,v24,v25,v26,v27,v28,v29,v30,v31,v32,v33,v34,v35,v36,v37))) (some (v20,v21,v22,v23,v24,v25,v26,v27,v28,v29,v30,v31,v32,v33,v34,v35,v2,v3,v37))
theorem d1_cn (k0:Pr E g168.A g168.R) (k1:Pr E T2 R):∀ v:T1,Cn E (d1 k0.p k1.p v) fun i=>d1 (k0.q i) (k1.q i) v:=fun (v0,v1,v2,v3,v4,v5,v6,v7,v8,v9,v10,v11,v12,v13,v14,v15,v16,v17,v18,v19,v20,v21,v22,v23,v24,v25,v26,v27,v28,v29,v30,v31,v32,v33,v34,v35,v36,v37)=>(.br (.bnd (k0.h _) fun _=>(.br (.bnd (k0.h _) fun _=>(k1.h _)) (k1.h _))) .some)
theorem l1_b ( k m1:Nat):∀ v:T1,run (cs m1) (loopN cs m1) b13 (kLoop cs m1 b13 (K13 k)) (s1 v) = d1 (g168.f m1) (l2 k m1) v:=fun (v0,v1,v2,v3,v4,v5,v6,v7,v8,v9,v10,v11,v12,v13,v14,v15,v16,v17,v18,v19,v20,v21,v22,v23,v24,v25,v26,v27,v28,v29,v30,v31,v32,v33,v34,v35,v36,v37)=>by kernel_rfl
theorem D1_of (v:T1) {r:R} (h:d1 g168.F D2 v = some r):D1 v = some r:=loop_of 1 (fun L n hn=>by show l1 (L 0) (L 1) v = _; rw [hn]; exact (held_eq _).trans ((loopN_succ _ _ _ _ _).trans (l1_b (L 0) n v))) (d1_cn (lp g168.f 1) (.mk fun v=>(D2_cn v).re [0,1]) v) h
def d2 (p0:Y3):Y2:=fun (v0,v1,v2,v3,v4,v5,v6,v7,v8,v9,v10,v11,v12,v13,v14,v15,v16,v17,v18,v19,v20,v21,v22,v23,v24,v25,v26,v27,v28,v29,v30,v31,v32,v33,v34,v35,v36,v37,v38) =>
br (decide (v38.length + [v0].length ≤ 140737488355328 / 8)) (p0 (v1,v2,v3,v4,v5,v6,v7,v8,v9,v10,v11,v12,v13,v14,v15,v16,v17,v18,v19,v20,v21,v22,v23,v24,v25,v26,v27,v28,v29,v30,v31,v32,v33,v34,v35,v36,v37,v38 ++ [v0])) none
theorem d2_cn (k0:Pr E T3 R):∀ v:T2,Cn E (d2 k0.p v) fun i=>d2 (k0.q i) v:=fun (v0,v1,v2,v3,v4,v5,v6,v7,v8,v9,v10,v11,v12,v13,v14,v15,v16,v17,v18,v19,v20,v21,v22,v23,v24,v25,v26,v27,v28,v29,v30,v31,v32,v33,v34,v35,v36,v37,v38)=>(.br (k0.h _) .none)
theorem l2_b ( k m1:Nat):∀ v:T2,run (cs m1) (loopN cs m1) c1000017 (J1000017 k m1) (s2 v) = d2 (l3 k m1) v:=fun (v0,v1,v2,v3,v4,v5,v6,v7,v8,v9,v10,v11,v12,v13,v14,v15,v16,v17,v18,v19,v20,v21,v22,v23,v24,v25,v26,v27,v28,v29,v30,v31,v32,v33,v34,v35,v36,v37,v38)=>by kernel_rfl
theorem D2_of (v:T2) {r:R} (h:d2 D3 v = some r):D2 v = some r:=join_of (fun L=>(held_eq _).trans (l2_b (L 0) (L 1) v)) (d2_cn (.mk fun v=>(D3_cn v).re [0,1]) v) h
def d3 (p0:Y1):Y3:=fun (v0,v1,v2,v3,v4,v5,v6,v7,v8,v9,v10,v11,v12,v13,v14,v15,v16,v17,v18,v19,v20,v21,v22,v23,v24,v25,v26,v27,v28,v29,v30,v31,v32,v33,v34,v35,v36,v37) =>
p0 (v0,wrap .i64 (v1 + 1),v2,v3,v4,v5,v6,v7,v8,v9,v10,v11,v12,v13,v14,v15,v16,v17,v18,v19,v20,v21,v22,v23,v24,v25,v26,v27,v28,v29,v30,v31,v32,v33,v34,v35,v36,v37)
theorem d3_cn (k0:Pr E T1 R):∀ v:T3,Cn E (d3 k0.p v) fun i=>d3 (k0.q i) v:=fun (v0,v1,v2,v3,v4,v5,v6,v7,v8,v9,v10,v11,v12,v13,v14,v15,v16,v17,v18,v19,v20,v21,v22,v23,v24,v25,v26,v27,v28,v29,v30,v31,v32,v33,v34,v35,v36,v37)=>(k0.h _)
theorem l3_b ( k m1:Nat):∀ v:T3,run (cs m1) (loopN cs m1) c1000018 (J1000018 k m1) (s3 v) = d3 (l1 k m1) v:=fun (v0,v1,v2,v3,v4,v5,v6,v7,v8,v9,v10,v11,v12,v13,v14,v15,v16,v17,v18,v19,v20,v21,v22,v23,v24,v25,v26,v27,v28,v29,v30,v31,v32,v33,v34,v35,v36,v37)=>by kernel_rfl
theorem D3_of (v:T3) {r:R} (h:d3 D1 v = some r):D3 v = some r:=join_of (fun L=>(held_eq _).trans (l3_b (L 0) (L 1) v)) (d3_cn (.mk fun v=>(D1_cn v).re [0,1]) v) h
noncomputable def f (k:Nat):Y:=fun v=>held (runFn cs k Tryz.f15 (sh.args v) (sh.slots v) dec)
noncomputable def F:Y:=lm f
noncomputable def d (p0:g169.Y) (p1:g168.Y) (p2:g170.Y) (p3:Y0):Y:=fun (v0,v1,v2) =>
bnd (p0 (1,v0,v1,v2)) fun r=>bnd (p0 (60,1800,r.2.1,r.2.2)) fun r_1=>bnd (p0 (-1000,1000,r_1.2.1,r_1.2.2)) fun r_2=>bnd (p0 (-16,16,r_2.2.1,r_2.2.2)) fun r_3=>bnd (p1 (64,r_3.2.1,r_3.2.2)) fun r_4=>bnd (p0 (-1000,1000,r_4.2.1,r_4.2.2)) fun r_5=>bnd (p1 (1073741824,r_5.2.1,r_5.2.2)) fun r_6=>bnd (p1 (4,r_6.2.1,r_6.2.2)) fun r_7=>br (decide (0 ≤ r_7.1 ∧ r_7.1 < (↑[(99429,1994),(50,1),(1,1),(100,1)].length:Int))) (bnd (p2 (r_7.2.1,r_7.2.2)) fun r_8=>bnd (p2 (r_8.2.2.2.1,r_8.2.2.2.2)) fun r_9=>bnd (p1 (3,r_9.2.2.2.1,r_9.2.2.2.2)) fun r_10=>bnd (p1 (4,r_10.2.1,r_10.2.2)) fun r_11=>br (decide (0 < r_11.1)) (br (decide (wrap .i64 (r_3.1 * 67108864) < 0)) (p3 (r_11.2.1,r_11.2.2,0,0,0,0,0,0,0,0,0,0,0,0,0,0,0,0,-536870912,wrap .i64 (r_4.1 * 67108864),r_5.1,r_6.1,(rd ((Ty.int .i64).pair (Ty.int .i64)) [(99429,1994),(50,1),(1,1),(100,1)] r_7.1).1,(rd ((Ty.int .i64).pair (Ty.int .i64)) [(99429,1994),(50,1),(1,1),(100,1)] r_7.1).2,wrap .i64 (r_2.1 * 997000),wrap .i64 (r_1.1 * 1000),r.1,1,0,40,r_9.1,r_9.2.1,r_9.2.2.1,0,[],[])) (p3 (r_11.2.1,r_11.2.2,0,0,0,0,0,0,0,0,0,0,0,0,0,0,0,0,536870912,wrap .i64 (r_4.1 * 67108864),r_5.1,r_6.1,(rd ((Ty.int .i64).pair (Ty.int .i64)) [(99429,1994),(50,1),(1,1),(100,1)] r_7.1).1,(rd ((Ty.int .i64).pair (Ty.int .i64)) [(99429,1994),(50,1),(1,1),(100,1)] r_7.1).2,wrap .i64 (r_2.1 * 997000),wrap .i64 (r_1.1 * 1000),r.1,1,0,-40,r_9.1,r_9.2.1,r_9.2.2.1,0,[],[]))) (p3 (r_11.2.1,r_11.2.2,0,0,0,0,0,0,0,0,0,0,0,0,0,0,0,0,wrap .i64 (r_3.1 * 67108864),wrap .i64 (r_4.1 * 67108864),r_5.1,r_6.1,(rd ((Ty.int .i64).pair (Ty.int .i64)) [(99429,1994),(50,1),(1,1),(100,1)] r_7.1).1,(rd ((Ty.int .i64).pair (Ty.int .i64)) [(99429,1994),(50,1),(1,1),(100,1)] r_7.1).2,wrap .i64 (r_2.1 * 997000),wrap .i64 (r_1.1 * 1000),r.1,r_8.1,r_8.2.1,r_8.2.2.1,r_9.1,r_9.2.1,r_9.2.2.1,wrap .i64 (wrap .i64 (0 - r_10.1) * 134217728),[],[]))) none
theorem d_cn (k0:Pr E g169.A g169.R) (k1:Pr E g168.A g168.R) (k2:Pr E g170.A g170.R) (k3:Pr E T0 R):∀ v:A,Cn E (d k0.p k1.p k2.p k3.p v) fun i=>d (k0.q i) (k1.q i) (k2.q i) (k3.q i) v:=fun (v0,v1,v2)=>(.bnd (k0.h _) fun _=>(.bnd (k0.h _) fun _=>(.bnd (k0.h _) fun _=>(.bnd (k0.h _) fun _=>(.bnd (k1.h _) fun _=>(.bnd (k0.h _) fun _=>(.bnd (k1.h _) fun _=>(.bnd (k1.h _) fun _=>(.br (.bnd (k2.h _) fun _=>(.bnd (k2.h _) fun _=>(.bnd (k1.h _) fun _=>(.bnd (k1.h _) fun _=>(.br (.br (k3.h _) (k3.h _)) (k3.h _)))))) .none)))))))))
theorem f_b (k:Nat):∀ v:A,f k v = d (g169.f k) (g168.f k) (g170.f k) (l0 k) v:=fun (v0,v1,v2)=>(held_eq _).trans (by kernel_rfl)
theorem F_of (v:A) {r:R} (h:d g169.F g168.F g170.F D0 v = some r):F v = some r:=join_of (fun L=>f_b (L 0) v) (d_cn (lp g169.f 0) (lp g168.f 0) (lp g170.f 0) (.mk fun v=>(D0_cn v).re [0]) v) h
noncomputable def spec (k:Nat):List AV→List Slot→Option Ans:=specS sh os (f k)
theorem spec_ok (k:Nat):SpecOk Tryz.prog 15 (spec k):=specS_ok cs_ok Tryz.func15 rfl rfl (fun _ _=>held_eq _) k
end g171
noncomputable def tg171:=tg170.cons 15 g171.spec g171.spec_ok
namespace g172 -- spymake_Stream_Axis
abbrev R:Type:=Int × Int × Int × Int × List Int × Int
abbrev A:Type:=List Int × Int
abbrev Y:=A→Option R
def lv:List (Nat × List Nat):=[(2000000,[2]),(1000006,[0,2,3,4]),(1000009,[2,3,4,5,6])]
noncomputable def cs:Nat→Ctx:=ctxOf tis modes tg171.1 lv
theorem cs_ok (n:Nat):CtxOk Tryz.prog (cs n):=ctxOf_ok rfl tis_ok tg171.2 n
def sh:AS:=⟨[(.c (.ptr 128000000 0))],[(.box [.frz (.int .i64),.int .i64])]⟩
def os:OS:=⟨.agg [.int .i64,.int .i64,.int .i64,.int .i64],[(.box [.frz (.int .i64),.int .i64])]⟩
def enc (r:R):Out:=os.enc r
def dec:Out→Option R:=os.dec
noncomputable def b0:Code:=subF [] Tryz.f45
noncomputable def K0 (k:Nat):Kt R:=kTop (cs k) Tryz.f45 dec
noncomputable def c1000006:Code:=sub [1,1,1,1] b0
noncomputable def J1000006 ( k:Nat):Kt R:=kAt (cs k) (loopN cs k) [1,1,1,1] b0 (K0 k)
noncomputable def c1000009:Code:=sub [1,1,1,1,1,1] b0
noncomputable def J1000009 ( k:Nat):Kt R:=kAt (cs k) (loopN cs k) [1,1,1,1,1,1] b0 (K0 k)
abbrev T0:Type:=Int × Int × List Int × Int × Int × Int × Int × Int
abbrev Y0:=T0→Option R
def s0:T0→St:=fun (v0,v1,v2,v3,v4,v5,v6,v7)=>⟨56,1,[(0,.c (.ptr 128000000 0)),(2,.c (.ptr 64000000 0)),(3,.c (.int .i64 v0)),(4,.c (.int .i64 v1))],[],[(128000000,.box [.frz (.int .i64) v2,.int .i64 v3]),(256000000,.gone),(64000000,.box [.int .i64 v4,.int .i64 v5,.int .i64 v6,.int .i64 v7])]⟩
noncomputable def l0 ( k:Nat) (v:T0):Option R:=held (run (cs k) (loopN cs k) c1000006 (J1000006 k) (s0 v))
noncomputable def D0 (v:T0):Option R:=lim fun L=>l0 (L 0) v
theorem D0_cn (v:T0):Cn late (D0 v) fun L=>l0 (L 0) v:=of_lim
abbrev T1:Type:=Int × Int × Int × Int × List Int × Int × Int × Int × Int × Int
abbrev Y1:=T1→Option R
def s1:T1→St:=fun (v0,v1,v2,v3,v4,v5,v6,v7,v8,v9)=>⟨56,1,[(2,.c (.ptr 64000000 0)),(3,.c (.int .i64 v0)),(4,.c (.int .i64 v1)),(5,.c (.int .i64 v2)),(6,.c (.int .i64 v3))],[],[(128000000,.box [.frz (.int .i64) v4,.int .i64 v5]),(256000000,.gone),(64000000,.box [.int .i64 v6,.int .i64 v7,.int .i64 v8,.int .i64 v9])]⟩
noncomputable def l1 ( k:Nat) (v:T1):Option R:=held (run (cs k) (loopN cs k) c1000009 (J1000009 k) (s1 v))
noncomputable def D1 (v:T1):Option R:=lim fun L=>l1 (L 0) v
theorem D1_cn (v:T1):Cn late (D1 v) fun L=>l1 (L 0) v:=of_lim
def d0 (p0:g169.Y) (p1:g168.Y) (p2:Y1):Y0:=fun (v0,v1,v2,v3,v4,v5,v6,v7) =>
bnd (p0 (0,6,v2,v3)) fun r=>bnd (p0 (1,6,r.2.1,r.2.2)) fun r_1=>bnd (p1 (4,r_1.2.1,r_1.2.2)) fun r_2=>br (decide (r_2.1 = 0)) (bnd (p1 (1048576,r_2.2.1,r_2.2.2)) fun r_3=>bnd (p1 (1048576,r_3.2.1,r_3.2.2)) fun r_4=>p2 (v0,v1,wrap .i64 (wrap .i64 (wrap .i64 (0 - r.1) * 1073741824) + r_3.1),wrap .i64 (wrap .i64 (r_1.1 * 1073741824) - r_4.1),r_4.2.1,r_4.2.2,v4,v5,v6,v7)) (p2 (v0,v1,wrap .i64 (wrap .i64 (0 - r.1) * 1073741824),wrap .i64 (r_1.1 * 1073741824),r_2.2.1,r_2.2.2,v4,v5,v6,v7))
theorem d0_cn (k0:Pr E g169.A g169.R) (k1:Pr E g168.A g168.R) (k2:Pr E T1 R):∀ v:T0,Cn E (d0 k0.p k1.p k2.p v) fun i=>d0 (k0.q i) (k1.q i) (k2.q i) v:=fun (v0,v1,v2,v3,v4,v5,v6,v7)=>(.bnd (k0.h _) fun _=>(.bnd (k0.h _) fun _=>(.bnd (k1.h _) fun _=>(.br (.bnd (k1.h _) fun _=>(.bnd (k1.h _) fun _=>(k2.h _))) (k2.h _)))))
theorem l0_b ( k:Nat):∀ v:T0,run (cs k) (loopN cs k) c1000006 (J1000006 k) (s0 v) = d0 (g169.f k) (g168.f k) (l1 k) v:=fun (v0,v1,v2,v3,v4,v5,v6,v7)=>by kernel_rfl
theorem D0_of (v:T0) {r:R} (h:d0 g169.F g168.F D1 v = some r):D0 v = some r:=join_of (fun L=>(held_eq _).trans (l0_b (L 0) v)) (d0_cn (lp g169.f 0) (lp g168.f 0) (.mk fun v=>(D1_cn v).re [0]) v) h
def d1:Y1:=fun (v0,v1,v2,v3,v4,v5,v6,v7,v8,v9) =>
some (v2,v3,v0,v1,v4,v5)
theorem d1_cn:∀ v:T1,Cn E (d1 v) fun i=>d1 v:=fun (v0,v1,v2,v3,v4,v5,v6,v7,v8,v9)=>.some
theorem l1_b ( k:Nat):∀ v:T1,run (cs k) (loopN cs k) c1000009 (J1000009 k) (s1 v) = d1 v:=fun (v0,v1,v2,v3,v4,v5,v6,v7,v8,v9)=>by kernel_rfl
theorem D1_of (v:T1) {r:R} (h:d1 v = some r):D1 v = some r:=join_of (fun L=>(held_eq _).trans (l1_b (L 0) v)) (d1_cn v) h
noncomputable def f (k:Nat):Y:=fun v=>held (runFn cs k Tryz.f45 (sh.args v) (sh.slots v) dec)
noncomputable def F:Y:=lm f
noncomputable def d (p0:g169.Y) (p1:g168.Y) (p2:Y0):Y:=fun (v0,v1) =>
bnd (p0 (24,30,v0,v1)) fun r=>br (decide (0 ≤ r.1)) (bnd (p0 (1,8,r.2.1,r.2.2)) fun r_1=>br (!decide (r_1.1 = 0)) (bnd (p1 (3,r_1.2.1,r_1.2.2)) fun r_2=>br (decide (r_2.1 = 0)) (bnd (p1 (1000,r_2.2.1,r_2.2.2)) fun r_3=>br (decide ((0:Int) ≤ 10)) (bnd (p1 (1000,r_3.2.1,r_3.2.2)) fun r_4=>p2 (wrap .i64 (shl .i64 1 r.1 - wrap .i64 (r_3.1 * min 1 (shr .i64 (wrap .i64 (shl .i64 1 r.1 - 16777216)) 10))),min (wrap .i64 (wrap .i64 ((shl .i64 1 r.1).tdiv r_1.1) + r_4.1)) (wrap .i64 (shl .i64 1 r.1 - wrap .i64 (r_3.1 * min 1 (shr .i64 (wrap .i64 (shl .i64 1 r.1 - 16777216)) 10)))),r_4.2.1,r_4.2.2,0,0,0,0)) none) (p2 (shl .i64 1 r.1,wrap .i64 ((shl .i64 1 r.1).tdiv r_1.1),r_2.2.1,r_2.2.2,0,0,0,0))) none) none
theorem d_cn (k0:Pr E g169.A g169.R) (k1:Pr E g168.A g168.R) (k2:Pr E T0 R):∀ v:A,Cn E (d k0.p k1.p k2.p v) fun i=>d (k0.q i) (k1.q i) (k2.q i) v:=fun (v0,v1)=>(.bnd (k0.h _) fun _=>(.br (.bnd (k0.h _) fun _=>(.br (.bnd (k1.h _) fun _=>(.br (.bnd (k1.h _) fun _=>(.br (.bnd (k1.h _) fun _=>(k2.h _)) .none)) (k2.h _))) .none)) .none))
theorem f_b (k:Nat):∀ v:A,f k v = d (g169.f k) (g168.f k) (l0 k) v:=fun (v0,v1)=>(held_eq _).trans (by kernel_rfl)
theorem F_of (v:A) {r:R} (h:d g169.F g168.F D0 v = some r):F v = some r:=join_of (fun L=>f_b (L 0) v) (d_cn (lp g169.f 0) (lp g168.f 0) (.mk fun v=>(D0_cn v).re [0]) v) h
noncomputable def spec (k:Nat):List AV→List Slot→Option Ans:=specS sh os (f k)
theorem spec_ok (k:Nat):SpecOk Tryz.prog 45 (spec k):=specS_ok cs_ok Tryz.func45 rfl rfl (fun _ _=>held_eq _) k
end g172
noncomputable def tg172:=tg171.cons 45 g172.spec g172.spec_ok
namespace g173 -- spymake_Stream_Inside
abbrev R:Type:=Int × List Int × Int
abbrev A:Type:=Int × Int × Int × Int × List Int × Int
abbrev Y:=A→Option R
def lv:List (Nat × List Nat):=[(2000000,[4])]
noncomputable def cs:Nat→Ctx:=ctxOf tis modes tg172.1 lv
theorem cs_ok (n:Nat):CtxOk Tryz.prog (cs n):=ctxOf_ok rfl tis_ok tg172.2 n
def sh:AS:=⟨[.c (.ptr 128000000 0),.agg [.int .i64,.int .i64,.int .i64,.int .i64]],[(.box [.frz (.int .i64),.int .i64])]⟩
def os:OS:=⟨.c (.int .i64),[(.box [.frz (.int .i64),.int .i64])]⟩
def enc (r:R):Out:=os.enc r
def dec:Out→Option R:=os.dec
noncomputable def b0:Code:=subF [] Tryz.f46
noncomputable def K0 (k:Nat):Kt R:=kTop (cs k) Tryz.f46 dec
noncomputable def f (k:Nat):Y:=fun v=>held (runFn cs k Tryz.f46 (sh.args v) (sh.slots v) dec)
noncomputable def F:Y:=lm f
def d (p0:g168.Y):Y:=fun (v0,v1,v2,v3,v4,v5) =>
bnd (p0 (6,v4,v5)) fun r=>br (decide (r.1 = 0)) (some (v0,r.2.1,r.2.2)) (br (decide (r.1 = 1)) (some (v1,r.2.1,r.2.2)) (br (!decide (1000 = 0)) (bnd (p0 (1000,r.2.1,r.2.2)) fun r=>bnd (p0 (wrap .i64 (wrap .i64 ((wrap .i64 (v1 - v0)).tdiv 1000) + 1),r.2.1,r.2.2)) fun r_1=>some (wrap .i64 (wrap .i64 (v0 + wrap .i64 (wrap .i64 ((wrap .i64 (v1 - v0)).tdiv 1000) * r.1)) + r_1.1),r_1.2.1,r_1.2.2)) none))
theorem d_cn (k0:Pr E g168.A g168.R):∀ v:A,Cn E (d k0.p v) fun i=>d (k0.q i) v:=fun (v0,v1,v2,v3,v4,v5)=>(.bnd (k0.h _) fun _=>(.br .some (.br .some (.br (.bnd (k0.h _) fun _=>(.bnd (k0.h _) fun _=>.some)) .none))))
theorem f_b (k:Nat):∀ v:A,f k v = d (g168.f k) v:=fun (v0,v1,v2,v3,v4,v5)=>(held_eq _).trans (by kernel_rfl)
theorem F_of (v:A) {r:R} (h:d g168.F v = some r):F v = some r:=join_of (fun L=>f_b (L 0) v) (d_cn (lp g168.f 0) v) h
noncomputable def spec (k:Nat):List AV→List Slot→Option Ans:=specS sh os (f k)
theorem spec_ok (k:Nat):SpecOk Tryz.prog 46 (spec k):=specS_ok cs_ok Tryz.func46 rfl rfl (fun _ _=>held_eq _) k
end g173
noncomputable def tg173:=tg172.cons 46 g173.spec g173.spec_ok
namespace g174 -- spymake_Stream_Mount
abbrev R:Type:=Int × Int × Int × Int × Int × Int × Int × Int × Int × Int × List Int × Int
abbrev A:Type:=List Int × Int
abbrev Y:=A→Option R
def lv:List (Nat × List Nat):=[(2000000,[2]),(1000004,[0,2,3]),(1000006,[0,2,3])]
noncomputable def cs:Nat→Ctx:=ctxOf tis modes tg173.1 lv
theorem cs_ok (n:Nat):CtxOk Tryz.prog (cs n):=ctxOf_ok rfl tis_ok tg173.2 n
def sh:AS:=⟨[(.c (.ptr 128000000 0))],[(.box [.frz (.int .i64),.int .i64])]⟩
def os:OS:=⟨.agg [.int .i64,.int .i64,.int .i64,.int .i64,.int .i64,.int .i64,.int .i64,.int .i64,.int .i64,.int .i64],[(.box [.frz (.int .i64),.int .i64])]⟩
def enc (r:R):Out:=os.enc r
def dec:Out→Option R:=os.dec
noncomputable def b0:Code:=subF [] Tryz.f16
noncomputable def K0 (k:Nat):Kt R:=kTop (cs k) Tryz.f16 dec
noncomputable def c1000004:Code:=sub [1,1,1] b0
noncomputable def J1000004 ( k:Nat):Kt R:=kAt (cs k) (loopN cs k) [1,1,1] b0 (K0 k)
noncomputable def c1000006:Code:=sub [1,1,1,1] b0
noncomputable def J1000006 ( k:Nat):Kt R:=kAt (cs k) (loopN cs k) [1,1,1,1] b0 (K0 k)
abbrev T0:Type:=List Int × Int × Int × Int × Int × Int × Int × Int × Int × Int × Int × Int × Int × Int × Int × Int × Int × Int × Int × Int × Int × Int
abbrev Y0:=T0→Option R
def s0:T0→St:=fun (v0,v1,v2,v3,v4,v5,v6,v7,v8,v9,v10,v11,v12,v13,v14,v15,v16,v17,v18,v19,v20,v21)=>⟨34,1,[(0,.c (.ptr 128000000 0)),(2,.c (.ptr 64000000 0)),(3,.c (.ptr 64000001 0))],[],[(128000000,.box [.frz (.int .i64) v0,.int .i64 v1]),(256000000,.gone),(64000000,.box [.int .i64 v2,.int .i64 v3,.int .i64 v4,.int .i64 v5,.int .i64 v6,.int .i64 v7,.int .i64 v8,.int .i64 v9,.int .i64 v10,.int .i64 v11]),(64000001,.box [.int .i64 v12,.int .i64 v13,.int .i64 v14,.int .i64 v15,.int .i64 v16,.int .i64 v17,.int .i64 v18,.int .i64 v19,.int .i64 v20,.int .i64 v21])]⟩
noncomputable def l0 ( k:Nat) (v:T0):Option R:=held (run (cs k) (loopN cs k) c1000004 (J1000004 k) (s0 v))
noncomputable def D0 (v:T0):Option R:=lim fun L=>l0 (L 0) v
theorem D0_cn (v:T0):Cn late (D0 v) fun L=>l0 (L 0) v:=of_lim
abbrev T1:Type:=List Int × Int × Int × Int × Int × Int × Int × Int × Int × Int × Int × Int × Int × Int × Int × Int × Int × Int × Int × Int × Int × Int
abbrev Y1:=T1→Option R
def s1:T1→St:=fun (v0,v1,v2,v3,v4,v5,v6,v7,v8,v9,v10,v11,v12,v13,v14,v15,v16,v17,v18,v19,v20,v21)=>⟨34,1,[(0,.c (.ptr 128000000 0)),(2,.c (.ptr 64000000 0)),(3,.c (.ptr 64000001 0))],[],[(128000000,.box [.frz (.int .i64) v0,.int .i64 v1]),(256000000,.gone),(64000000,.box [.int .i64 v2,.int .i64 v3,.int .i64 v4,.int .i64 v5,.int .i64 v6,.int .i64 v7,.int .i64 v8,.int .i64 v9,.int .i64 v10,.int .i64 v11]),(64000001,.box [.int .i64 v12,.int .i64 v13,.int .i64 v14,.int .i64 v15,.int .i64 v16,.int .i64 v17,.int .i64 v18,.int .i64 v19,.int .i64 v20,.int .i64 v21])]⟩
noncomputable def l1 ( k:Nat) (v:T1):Option R:=held (run (cs k) (loopN cs k) c1000006 (J1000006 k) (s1 v))
noncomputable def D1 (v:T1):Option R:=lim fun L=>l1 (L 0) v
theorem D1_cn (v:T1):Cn late (D1 v) fun L=>l1 (L 0) v:=of_lim
def d0 (p0:g168.Y) (p1:Y1):Y0:=fun (v0,v1,v2,v3,v4,v5,v6,v7,v8,v9,v10,v11,v12,v13,v14,v15,v16,v17,v18,v19,v20,v21) =>
bnd (p0 (3,v0,v1)) fun r=>br (decide (0 < r.1)) (p1 (r.2.1,r.2.2,v2,v3,v4,v5,v6,v7,v8,v9,v10,v11,v12,v13,v14,v15,-1073741824,1073741824,v18,v19,v20,v21)) (p1 (r.2.1,r.2.2,v2,v3,v4,v5,v6,v7,v8,v9,v10,v11,v12,v13,v14,v15,v16,v17,v18,v19,v20,v21))
theorem d0_cn (k0:Pr E g168.A g168.R) (k1:Pr E T1 R):∀ v:T0,Cn E (d0 k0.p k1.p v) fun i=>d0 (k0.q i) (k1.q i) v:=fun (v0,v1,v2,v3,v4,v5,v6,v7,v8,v9,v10,v11,v12,v13,v14,v15,v16,v17,v18,v19,v20,v21)=>(.bnd (k0.h _) fun _=>(.br (k1.h _) (k1.h _)))
theorem l0_b ( k:Nat):∀ v:T0,run (cs k) (loopN cs k) c1000004 (J1000004 k) (s0 v) = d0 (g168.f k) (l1 k) v:=fun (v0,v1,v2,v3,v4,v5,v6,v7,v8,v9,v10,v11,v12,v13,v14,v15,v16,v17,v18,v19,v20,v21)=>by kernel_rfl
theorem D0_of (v:T0) {r:R} (h:d0 g168.F D1 v = some r):D0 v = some r:=join_of (fun L=>(held_eq _).trans (l0_b (L 0) v)) (d0_cn (lp g168.f 0) (.mk fun v=>(D1_cn v).re [0]) v) h
def d1 (p0:g173.Y):Y1:=fun (v0,v1,v2,v3,v4,v5,v6,v7,v8,v9,v10,v11,v12,v13,v14,v15,v16,v17,v18,v19,v20,v21) =>
bnd (p0 (v12,v13,v14,v15,v0,v1)) fun r=>bnd (p0 (v16,v17,v18,v19,r.2.1,r.2.2)) fun r_1=>some (v12,v13,v14,v15,v16,v17,v18,v19,r.1,r_1.1,r_1.2.1,r_1.2.2)
theorem d1_cn (k0:Pr E g173.A g173.R):∀ v:T1,Cn E (d1 k0.p v) fun i=>d1 (k0.q i) v:=fun (v0,v1,v2,v3,v4,v5,v6,v7,v8,v9,v10,v11,v12,v13,v14,v15,v16,v17,v18,v19,v20,v21)=>(.bnd (k0.h _) fun _=>(.bnd (k0.h _) fun _=>.some))
theorem l1_b ( k:Nat):∀ v:T1,run (cs k) (loopN cs k) c1000006 (J1000006 k) (s1 v) = d1 (g173.f k) v:=fun (v0,v1,v2,v3,v4,v5,v6,v7,v8,v9,v10,v11,v12,v13,v14,v15,v16,v17,v18,v19,v20,v21)=>by kernel_rfl
theorem D1_of (v:T1) {r:R} (h:d1 g173.F v = some r):D1 v = some r:=join_of (fun L=>(held_eq _).trans (l1_b (L 0) v)) (d1_cn (lp g173.f 0) v) h
noncomputable def f (k:Nat):Y:=fun v=>held (runFn cs k Tryz.f16 (sh.args v) (sh.slots v) dec)
noncomputable def F:Y:=lm f
def d (p0:g172.Y) (p1:g168.Y) (p2:Y0):Y:=fun (v0,v1) =>
bnd (p0 (v0,v1)) fun r=>bnd (p0 (r.2.2.2.2.1,r.2.2.2.2.2)) fun r_1=>bnd (p1 (3,r_1.2.2.2.2.1,r_1.2.2.2.2.2)) fun r_2=>br (decide (0 < r_2.1)) (p2 (r_2.2.1,r_2.2.2,0,0,0,0,0,0,0,0,0,0,-6442450944,6442450944,r.2.2.1,r.2.2.2.1,r_1.1,r_1.2.1,r_1.2.2.1,r_1.2.2.2.1,0,0)) (p2 (r_2.2.1,r_2.2.2,0,0,0,0,0,0,0,0,0,0,r.1,r.2.1,r.2.2.1,r.2.2.2.1,r_1.1,r_1.2.1,r_1.2.2.1,r_1.2.2.2.1,0,0))
theorem d_cn (k0:Pr E g172.A g172.R) (k1:Pr E g168.A g168.R) (k2:Pr E T0 R):∀ v:A,Cn E (d k0.p k1.p k2.p v) fun i=>d (k0.q i) (k1.q i) (k2.q i) v:=fun (v0,v1)=>(.bnd (k0.h _) fun _=>(.bnd (k0.h _) fun _=>(.bnd (k1.h _) fun _=>(.br (k2.h _) (k2.h _)))))
theorem f_b (k:Nat):∀ v:A,f k v = d (g172.f k) (g168.f k) (l0 k) v:=fun (v0,v1)=>(held_eq _).trans (by kernel_rfl)
theorem F_of (v:A) {r:R} (h:d g172.F g168.F D0 v = some r):F v = some r:=join_of (fun L=>f_b (L 0) v) (d_cn (lp g172.f 0) (lp g168.f 0) (.mk fun v=>(D0_cn v).re [0]) v) h
noncomputable def spec (k:Nat):List AV→List Slot→Option Ans:=specS sh os (f k)
theorem spec_ok (k:Nat):SpecOk Tryz.prog 16 (spec k):=specS_ok cs_ok Tryz.func16 rfl rfl (fun _ _=>held_eq _) k
end g174
noncomputable def tg174:=tg173.cons 16 g174.spec g174.spec_ok
namespace g175 -- spymake_Stream_Name
abbrev R:Type:=ByteArray × List Int × Int
abbrev A:Type:=List Int × Int
abbrev Y:=A→Option R
def lv:List (Nat × List Nat):=[(2000000,[2]),(3,[0,3,10,11])]
noncomputable def cs:Nat→Ctx:=ctxOf tis modes tg174.1 lv
theorem cs_ok (n:Nat):CtxOk Tryz.prog (cs n):=ctxOf_ok rfl tis_ok tg174.2 n
def sh:AS:=⟨[(.c (.ptr 128000000 0))],[(.box [.frz (.int .i64),.int .i64])]⟩
def os:OS:=⟨.c .str,[(.box [.frz (.int .i64),.int .i64])]⟩
def enc (r:R):Out:=os.enc r
def dec:Out→Option R:=os.dec
noncomputable def b0:Code:=subF [] Tryz.f47
noncomputable def K0 (k:Nat):Kt R:=kTop (cs k) Tryz.f47 dec
noncomputable def b3:Code:=sub [1,1,0,1,0,0] b0
noncomputable def K3 ( k:Nat):Kt R:=kAt (cs k) (loopN cs k) [1,1,0,1,0] b0 (K0 k)
abbrev T0:Type:=Int × Int × List Int × Int × List Int
abbrev Y0:=T0→Option R
def s0:T0→St:=fun (v0,v1,v2,v3,v4)=>⟨22,1,[(0,.c (.ptr 128000000 0)),(3,.c (.sl 64000000)),(10,.c (.int .i64 v0)),(11,.c (.int .i64 v1))],[],[(128000000,.box [.frz (.int .i64) v2,.int .i64 v3]),(256000000,.gone),(64000000,.row (.int .u8) v4)]⟩
noncomputable def l0 ( k n:Nat) (v:T0):Option R:=held (loopN cs n b3 (K3 k) (s0 v))
noncomputable def D0 (v:T0):Option R:=lim fun L=>l0 (L 0) (L 1) v
theorem D0_cn (v:T0):Cn late (D0 v) fun L=>l0 (L 0) (L 1) v:=of_lim
def d0 (p0:g168.Y) (p1:Y0):Y0:=fun (v0,v1,v2,v3,v4) =>
br (decide (v1 < v0)) (bnd (p0 (6,v2,v3)) fun r=>br (decide (0 ≤ r.1 ∧ r.1 < (↑bs2.size:Int))) (br (decide (v4.length + [(↑(bs2.data.getD r.1.toNat 0).toNat:Int)].length ≤ 140737488355328 / 1)) (p1 (v0,wrap .i64 (v1 + 1),r.2.1,r.2.2,v4 ++ [(↑(bs2.data.getD r.1.toNat 0).toNat:Int)])) none) none) (some (bytesStr v4,v2,v3))
theorem d0_cn (k0:Pr E g168.A g168.R) (k1:Pr E T0 R):∀ v:T0,Cn E (d0 k0.p k1.p v) fun i=>d0 (k0.q i) (k1.q i) v:=fun (v0,v1,v2,v3,v4)=>(.br (.bnd (k0.h _) fun _=>(.br (.br (k1.h _) .none) .none)) .some)
theorem l0_b ( k m1:Nat):∀ v:T0,run (cs m1) (loopN cs m1) b3 (kLoop cs m1 b3 (K3 k)) (s0 v) = d0 (g168.f m1) (l0 k m1) v:=fun (v0,v1,v2,v3,v4)=>by kernel_rfl
theorem D0_of (v:T0) {r:R} (h:d0 g168.F D0 v = some r):D0 v = some r:=loop_of 1 (fun L n hn=>by show l0 (L 0) (L 1) v = _; rw [hn]; exact (held_eq _).trans ((loopN_succ _ _ _ _ _).trans (l0_b (L 0) n v))) (d0_cn (lp g168.f 1) (.mk fun v=>(D0_cn v).re [0,1]) v) h
noncomputable def f (k:Nat):Y:=fun v=>held (runFn cs k Tryz.f47 (sh.args v) (sh.slots v) dec)
noncomputable def F:Y:=lm f
def d (p0:g168.Y) (p1:Y0):Y:=fun (v0,v1) =>
bnd (p0 (6,v0,v1)) fun r=>bnd (p0 (4,r.2.1,r.2.2)) fun r_1=>p1 (r_1.1,0,r_1.2.1,r_1.2.2,[wrap .u8 (wrap .i64 (97 + r.1))])
theorem d_cn (k0:Pr E g168.A g168.R) (k1:Pr E T0 R):∀ v:A,Cn E (d k0.p k1.p v) fun i=>d (k0.q i) (k1.q i) v:=fun (v0,v1)=>(.bnd (k0.h _) fun _=>(.bnd (k0.h _) fun _=>(k1.h _)))
theorem f_b (k:Nat):∀ v:A,f k v = d (g168.f k) (l0 k k) v:=fun (v0,v1)=>(held_eq _).trans (by kernel_rfl)
theorem F_of (v:A) {r:R} (h:d g168.F D0 v = some r):F v = some r:=join_of (fun L=>f_b (L 0) v) (d_cn (lp g168.f 0) (.mk fun v=>(D0_cn v).re [0,0]) v) h
noncomputable def spec (k:Nat):List AV→List Slot→Option Ans:=specS sh os (f k)
theorem spec_ok (k:Nat):SpecOk Tryz.prog 47 (spec k):=specS_ok cs_ok Tryz.func47 rfl rfl (fun _ _=>held_eq _) k
end g175
noncomputable def tg175:=tg174.cons 47 g175.spec g175.spec_ok
end Go.Proofs.RPl
