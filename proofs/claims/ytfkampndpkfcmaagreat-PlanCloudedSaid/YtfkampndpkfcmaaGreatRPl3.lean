import Derived.Test.YtfkampndpkfcmaaGreatRPl2
import Derived.Test.YtfkampndpkfcmaaGreatProg
namespace Go.Proofs.RPl
open Go Go.Eng Go.Proofs
set_option maxRecDepth 100000
set_option linter.unusedVariables false
variable {ι : Type} {E : Fil ι}
namespace g176 -- spymake_Stream_Request
abbrev R:Type:=Int × Int × Int × Int × Int × Int × Int × Int × Int × Int × Int × Int × Int × List Int × Int
abbrev A:Type:=Int × Int × Int × Int × Int × Int × Int × Int × Int × Int × Int × Int × Int × Int × Int × Int × Int × Int × List Int × Int
abbrev Y:=A→Option R
def lv:List (Nat × List Nat):=[(2000000,[8]),(1000006,[0,8,9]),(1000007,[0,8,9]),(1000010,[0,8,9]),(1000012,[0,8,9]),(1000014,[0,8,9]),(1000016,[8,9])]
noncomputable def cs:Nat→Ctx:=ctxOf tis modes tg175.1 lv
theorem cs_ok (n:Nat):CtxOk Tryz.prog (cs n):=ctxOf_ok rfl tis_ok tg175.2 n
def sh:AS:=⟨[.c (.ptr 128000000 0),.agg [.int .i64,.int .i64,.int .i64,.int .i64,.int .i64,.int .i64,.int .i64,.int .i64,.int .i64,.int .i64,.int .i64,.int .i64,.int .i64,.int .i64,.int .i64,.int .i64,.sl 256000000],.c (.int .i64),.c (.int .i64)],[(.box [.frz (.int .i64),.int .i64])]⟩
def os:OS:=⟨.agg [.int .i64,.int .i64,.int .i64,.int .i64,.int .i64,.int .i64,.int .i64,.int .i64,.int .i64,.int .i64,.int .i64,.int .i64,.int .i64],[(.box [.frz (.int .i64),.int .i64])]⟩
def enc (r:R):Out:=os.enc r
def dec:Out→Option R:=os.dec
noncomputable def b0:Code:=subF [] Tryz.f48
noncomputable def K0 (k:Nat):Kt R:=kTop (cs k) Tryz.f48 dec
noncomputable def c1000007:Code:=sub [1,1,1] b0
noncomputable def J1000007 ( k:Nat):Kt R:=kAt (cs k) (loopN cs k) [1,1,1] b0 (K0 k)
noncomputable def c1000006:Code:=sub [1,1,0,1,0,1,1] b0
noncomputable def J1000006 ( k:Nat):Kt R:=kAt (cs k) (loopN cs k) [1,1,0,1,0,1,1] b0 (K0 k)
noncomputable def c1000010:Code:=sub [1,1,1,1] b0
noncomputable def J1000010 ( k:Nat):Kt R:=kAt (cs k) (loopN cs k) [1,1,1,1] b0 (K0 k)
noncomputable def c1000012:Code:=sub [1,1,1,1,1] b0
noncomputable def J1000012 ( k:Nat):Kt R:=kAt (cs k) (loopN cs k) [1,1,1,1,1] b0 (K0 k)
noncomputable def c1000014:Code:=sub [1,1,1,1,1,1] b0
noncomputable def J1000014 ( k:Nat):Kt R:=kAt (cs k) (loopN cs k) [1,1,1,1,1,1] b0 (K0 k)
noncomputable def c1000016:Code:=sub [1,1,1,1,1,1,1] b0
noncomputable def J1000016 ( k:Nat):Kt R:=kAt (cs k) (loopN cs k) [1,1,1,1,1,1,1] b0 (K0 k)
abbrev T0:Type:=List Int × Int × Int × Int × Int × Int × Int × Int × Int × Int × Int × Int × Int × Int × Int × Int × Int × Int × Int × Int × Int × Int × Int × Int × Int × Int × Int × Int
abbrev Y0:=T0→Option R
noncomputable def s0:T0→St:=fun (v0,v1,v2,v3,v4,v5,v6,v7,v8,v9,v10,v11,v12,v13,v14,v15,v16,v17,v18,v19,v20,v21,v22,v23,v24,v25,v26,v27)=>⟨76,1,[(0,.c (.ptr 128000000 0)),(8,.c (.ptr 64000000 0)),(9,.c (.ptr 64000001 0))],[],[(128000000,.box [.frz (.int .i64) v0,.int .i64 v1]),(256000000,.gone),(64000000,.box [.int .i64 v2,.int .i64 v3,.int .i64 v4,.int .i64 v5,.int .i64 v6,.int .i64 v7,.int .i64 v8,.int .i64 v9,.int .i64 v10,.int .i64 v11,.int .i64 v12,.int .i64 v13,.int .i64 v14]),(64000001,.box [.int .i64 v15,.int .i64 v16,.int .i64 v17,.int .i64 v18,.int .i64 v19,.int .i64 v20,.int .i64 v21,.int .i64 v22,.int .i64 v23,.int .i64 v24,.int .i64 v25,.int .i64 v26,.int .i64 v27])]⟩
noncomputable def l0 ( k:Nat) (v:T0):Option R:=held (run (cs k) (loopN cs k) c1000006 (J1000006 k) (s0 v))
noncomputable def D0 (v:T0):Option R:=lim fun L=>l0 (L 0) v
theorem D0_cn (v:T0):Cn late (D0 v) fun L=>l0 (L 0) v:=of_lim
abbrev T1:Type:=List Int × Int × Int × Int × Int × Int × Int × Int × Int × Int × Int × Int × Int × Int × Int × Int × Int × Int × Int × Int × Int × Int × Int × Int × Int × Int × Int × Int
abbrev Y1:=T1→Option R
noncomputable def s1:T1→St:=fun (v0,v1,v2,v3,v4,v5,v6,v7,v8,v9,v10,v11,v12,v13,v14,v15,v16,v17,v18,v19,v20,v21,v22,v23,v24,v25,v26,v27)=>⟨76,1,[(0,.c (.ptr 128000000 0)),(8,.c (.ptr 64000000 0)),(9,.c (.ptr 64000001 0))],[],[(128000000,.box [.frz (.int .i64) v0,.int .i64 v1]),(256000000,.gone),(64000000,.box [.int .i64 v2,.int .i64 v3,.int .i64 v4,.int .i64 v5,.int .i64 v6,.int .i64 v7,.int .i64 v8,.int .i64 v9,.int .i64 v10,.int .i64 v11,.int .i64 v12,.int .i64 v13,.int .i64 v14]),(64000001,.box [.int .i64 v15,.int .i64 v16,.int .i64 v17,.int .i64 v18,.int .i64 v19,.int .i64 v20,.int .i64 v21,.int .i64 v22,.int .i64 v23,.int .i64 v24,.int .i64 v25,.int .i64 v26,.int .i64 v27])]⟩
noncomputable def l1 ( k:Nat) (v:T1):Option R:=held (run (cs k) (loopN cs k) c1000007 (J1000007 k) (s1 v))
noncomputable def D1 (v:T1):Option R:=lim fun L=>l1 (L 0) v
theorem D1_cn (v:T1):Cn late (D1 v) fun L=>l1 (L 0) v:=of_lim
abbrev T2:Type:=List Int × Int × Int × Int × Int × Int × Int × Int × Int × Int × Int × Int × Int × Int × Int × Int × Int × Int × Int × Int × Int × Int × Int × Int × Int × Int × Int × Int
abbrev Y2:=T2→Option R
noncomputable def s2:T2→St:=fun (v0,v1,v2,v3,v4,v5,v6,v7,v8,v9,v10,v11,v12,v13,v14,v15,v16,v17,v18,v19,v20,v21,v22,v23,v24,v25,v26,v27)=>⟨76,1,[(0,.c (.ptr 128000000 0)),(8,.c (.ptr 64000000 0)),(9,.c (.ptr 64000001 0))],[],[(128000000,.box [.frz (.int .i64) v0,.int .i64 v1]),(256000000,.gone),(64000000,.box [.int .i64 v2,.int .i64 v3,.int .i64 v4,.int .i64 v5,.int .i64 v6,.int .i64 v7,.int .i64 v8,.int .i64 v9,.int .i64 v10,.int .i64 v11,.int .i64 v12,.int .i64 v13,.int .i64 v14]),(64000001,.box [.int .i64 v15,.int .i64 v16,.int .i64 v17,.int .i64 v18,.int .i64 v19,.int .i64 v20,.int .i64 v21,.int .i64 v22,.int .i64 v23,.int .i64 v24,.int .i64 v25,.int .i64 v26,.int .i64 v27])]⟩
noncomputable def l2 ( k:Nat) (v:T2):Option R:=held (run (cs k) (loopN cs k) c1000010 (J1000010 k) (s2 v))
noncomputable def D2 (v:T2):Option R:=lim fun L=>l2 (L 0) v
theorem D2_cn (v:T2):Cn late (D2 v) fun L=>l2 (L 0) v:=of_lim
abbrev T3:Type:=List Int × Int × Int × Int × Int × Int × Int × Int × Int × Int × Int × Int × Int × Int × Int × Int × Int × Int × Int × Int × Int × Int × Int × Int × Int × Int × Int × Int
abbrev Y3:=T3→Option R
noncomputable def s3:T3→St:=fun (v0,v1,v2,v3,v4,v5,v6,v7,v8,v9,v10,v11,v12,v13,v14,v15,v16,v17,v18,v19,v20,v21,v22,v23,v24,v25,v26,v27)=>⟨76,1,[(0,.c (.ptr 128000000 0)),(8,.c (.ptr 64000000 0)),(9,.c (.ptr 64000001 0))],[],[(128000000,.box [.frz (.int .i64) v0,.int .i64 v1]),(256000000,.gone),(64000000,.box [.int .i64 v2,.int .i64 v3,.int .i64 v4,.int .i64 v5,.int .i64 v6,.int .i64 v7,.int .i64 v8,.int .i64 v9,.int .i64 v10,.int .i64 v11,.int .i64 v12,.int .i64 v13,.int .i64 v14]),(64000001,.box [.int .i64 v15,.int .i64 v16,.int .i64 v17,.int .i64 v18,.int .i64 v19,.int .i64 v20,.int .i64 v21,.int .i64 v22,.int .i64 v23,.int .i64 v24,.int .i64 v25,.int .i64 v26,.int .i64 v27])]⟩
noncomputable def l3 ( k:Nat) (v:T3):Option R:=held (run (cs k) (loopN cs k) c1000012 (J1000012 k) (s3 v))
noncomputable def D3 (v:T3):Option R:=lim fun L=>l3 (L 0) v
theorem D3_cn (v:T3):Cn late (D3 v) fun L=>l3 (L 0) v:=of_lim
abbrev T4:Type:=List Int × Int × Int × Int × Int × Int × Int × Int × Int × Int × Int × Int × Int × Int × Int × Int × Int × Int × Int × Int × Int × Int × Int × Int × Int × Int × Int × Int
abbrev Y4:=T4→Option R
noncomputable def s4:T4→St:=fun (v0,v1,v2,v3,v4,v5,v6,v7,v8,v9,v10,v11,v12,v13,v14,v15,v16,v17,v18,v19,v20,v21,v22,v23,v24,v25,v26,v27)=>⟨76,1,[(0,.c (.ptr 128000000 0)),(8,.c (.ptr 64000000 0)),(9,.c (.ptr 64000001 0))],[],[(128000000,.box [.frz (.int .i64) v0,.int .i64 v1]),(256000000,.gone),(64000000,.box [.int .i64 v2,.int .i64 v3,.int .i64 v4,.int .i64 v5,.int .i64 v6,.int .i64 v7,.int .i64 v8,.int .i64 v9,.int .i64 v10,.int .i64 v11,.int .i64 v12,.int .i64 v13,.int .i64 v14]),(64000001,.box [.int .i64 v15,.int .i64 v16,.int .i64 v17,.int .i64 v18,.int .i64 v19,.int .i64 v20,.int .i64 v21,.int .i64 v22,.int .i64 v23,.int .i64 v24,.int .i64 v25,.int .i64 v26,.int .i64 v27])]⟩
noncomputable def l4 ( k:Nat) (v:T4):Option R:=held (run (cs k) (loopN cs k) c1000014 (J1000014 k) (s4 v))
noncomputable def D4 (v:T4):Option R:=lim fun L=>l4 (L 0) v
theorem D4_cn (v:T4):Cn late (D4 v) fun L=>l4 (L 0) v:=of_lim
abbrev T5:Type:=List Int × Int × Int × Int × Int × Int × Int × Int × Int × Int × Int × Int × Int × Int × Int × Int × Int × Int × Int × Int × Int × Int × Int × Int × Int × Int × Int × Int
abbrev Y5:=T5→Option R
def s5:T5→St:=fun (v0,v1,v2,v3,v4,v5,v6,v7,v8,v9,v10,v11,v12,v13,v14,v15,v16,v17,v18,v19,v20,v21,v22,v23,v24,v25,v26,v27)=>⟨76,1,[(8,.c (.ptr 64000000 0)),(9,.c (.ptr 64000001 0))],[],[(128000000,.box [.frz (.int .i64) v0,.int .i64 v1]),(256000000,.gone),(64000000,.box [.int .i64 v2,.int .i64 v3,.int .i64 v4,.int .i64 v5,.int .i64 v6,.int .i64 v7,.int .i64 v8,.int .i64 v9,.int .i64 v10,.int .i64 v11,.int .i64 v12,.int .i64 v13,.int .i64 v14]),(64000001,.box [.int .i64 v15,.int .i64 v16,.int .i64 v17,.int .i64 v18,.int .i64 v19,.int .i64 v20,.int .i64 v21,.int .i64 v22,.int .i64 v23,.int .i64 v24,.int .i64 v25,.int .i64 v26,.int .i64 v27])]⟩
noncomputable def l5 ( k:Nat) (v:T5):Option R:=held (run (cs k) (loopN cs k) c1000016 (J1000016 k) (s5 v))
noncomputable def D5 (v:T5):Option R:=lim fun L=>l5 (L 0) v
theorem D5_cn (v:T5):Cn late (D5 v) fun L=>l5 (L 0) v:=of_lim
def d0 (p0:g169.Y) (p1:Y1):Y0:=fun (v0,v1,v2,v3,v4,v5,v6,v7,v8,v9,v10,v11,v12,v13,v14,v15,v16,v17,v18,v19,v20,v21,v22,v23,v24,v25,v26,v27) =>
bnd (p0 (0,4,v0,v1)) fun r=>p1 (r.2.1,r.2.2,v2,v3,v4,v5,v6,v7,v8,v9,v10,v11,v12,v13,v14,v15,v16,v17,v18,v19,v20,v21,v22,v23,wrap .i64 (r.1 * 134217728),v25,v26,v27)
theorem d0_cn (k0:Pr E g169.A g169.R) (k1:Pr E T1 R):∀ v:T0,Cn E (d0 k0.p k1.p v) fun i=>d0 (k0.q i) (k1.q i) v:=fun (v0,v1,v2,v3,v4,v5,v6,v7,v8,v9,v10,v11,v12,v13,v14,v15,v16,v17,v18,v19,v20,v21,v22,v23,v24,v25,v26,v27)=>(.bnd (k0.h _) fun _=>(k1.h _))
theorem l0_b ( k:Nat):∀ v:T0,run (cs k) (loopN cs k) c1000006 (J1000006 k) (s0 v) = d0 (g169.f k) (l1 k) v:=fun (v0,v1,v2,v3,v4,v5,v6,v7,v8,v9,v10,v11,v12,v13,v14,v15,v16,v17,v18,v19,v20,v21,v22,v23,v24,v25,v26,v27)=>by kernel_rfl
theorem D0_of (v:T0) {r:R} (h:d0 g169.F D1 v = some r):D0 v = some r:=join_of (fun L=>(held_eq _).trans (l0_b (L 0) v)) (d0_cn (lp g169.f 0) (.mk fun v=>(D1_cn v).re [0]) v) h
def d1 (p0:g169.Y) (p1:g168.Y) (p2:Y2):Y1:=fun (v0,v1,v2,v3,v4,v5,v6,v7,v8,v9,v10,v11,v12,v13,v14,v15,v16,v17,v18,v19,v20,v21,v22,v23,v24,v25,v26,v27) =>
br (decide (1 < v21)) (bnd (p0 (1,6,v0,v1)) fun r=>bnd (p1 (12,r.2.1,r.2.2)) fun r_1=>p2 (r_1.2.1,r_1.2.2,v2,v3,v4,v5,v6,v7,v8,v9,v10,v11,v12,v13,v14,v15,v16,v17,v18,v19,v20,v21,r.1,min 64 (wrap .i64 (r.1 + r_1.1)),v24,v25,v26,v27)) (p2 (v0,v1,v2,v3,v4,v5,v6,v7,v8,v9,v10,v11,v12,v13,v14,v15,v16,v17,v18,v19,v20,v21,v22,v23,v24,v25,v26,v27))
theorem d1_cn (k0:Pr E g169.A g169.R) (k1:Pr E g168.A g168.R) (k2:Pr E T2 R):∀ v:T1,Cn E (d1 k0.p k1.p k2.p v) fun i=>d1 (k0.q i) (k1.q i) (k2.q i) v:=fun (v0,v1,v2,v3,v4,v5,v6,v7,v8,v9,v10,v11,v12,v13,v14,v15,v16,v17,v18,v19,v20,v21,v22,v23,v24,v25,v26,v27)=>(.br (.bnd (k0.h _) fun _=>(.bnd (k1.h _) fun _=>(k2.h _))) (k2.h _))
theorem l1_b ( k:Nat):∀ v:T1,run (cs k) (loopN cs k) c1000007 (J1000007 k) (s1 v) = d1 (g169.f k) (g168.f k) (l2 k) v:=fun (v0,v1,v2,v3,v4,v5,v6,v7,v8,v9,v10,v11,v12,v13,v14,v15,v16,v17,v18,v19,v20,v21,v22,v23,v24,v25,v26,v27)=>by kernel_rfl
theorem D1_of (v:T1) {r:R} (h:d1 g169.F g168.F D2 v = some r):D1 v = some r:=join_of (fun L=>(held_eq _).trans (l1_b (L 0) v)) (d1_cn (lp g169.f 0) (lp g168.f 0) (.mk fun v=>(D2_cn v).re [0]) v) h
def d2 (p0:g168.Y) (p1:Y3):Y2:=fun (v0,v1,v2,v3,v4,v5,v6,v7,v8,v9,v10,v11,v12,v13,v14,v15,v16,v17,v18,v19,v20,v21,v22,v23,v24,v25,v26,v27) =>
bnd (p0 (3,v0,v1)) fun r=>br (decide (r.1 = 0)) (bnd (p0 (4,r.2.1,r.2.2)) fun r=>p1 (r.2.1,r.2.2,v2,v3,v4,v5,v6,v7,v8,v9,v10,v11,v12,v13,v14,v15,v16,v17,v18,v19,v20,v21,v22,v23,v24,v25,r.1,v27)) (p1 (r.2.1,r.2.2,v2,v3,v4,v5,v6,v7,v8,v9,v10,v11,v12,v13,v14,v15,v16,v17,v18,v19,v20,v21,v22,v23,v24,v25,v26,v27))
theorem d2_cn (k0:Pr E g168.A g168.R) (k1:Pr E T3 R):∀ v:T2,Cn E (d2 k0.p k1.p v) fun i=>d2 (k0.q i) (k1.q i) v:=fun (v0,v1,v2,v3,v4,v5,v6,v7,v8,v9,v10,v11,v12,v13,v14,v15,v16,v17,v18,v19,v20,v21,v22,v23,v24,v25,v26,v27)=>(.bnd (k0.h _) fun _=>(.br (.bnd (k0.h _) fun _=>(k1.h _)) (k1.h _)))
theorem l2_b ( k:Nat):∀ v:T2,run (cs k) (loopN cs k) c1000010 (J1000010 k) (s2 v) = d2 (g168.f k) (l3 k) v:=fun (v0,v1,v2,v3,v4,v5,v6,v7,v8,v9,v10,v11,v12,v13,v14,v15,v16,v17,v18,v19,v20,v21,v22,v23,v24,v25,v26,v27)=>by kernel_rfl
theorem D2_of (v:T2) {r:R} (h:d2 g168.F D3 v = some r):D2 v = some r:=join_of (fun L=>(held_eq _).trans (l2_b (L 0) v)) (d2_cn (lp g168.f 0) (.mk fun v=>(D3_cn v).re [0]) v) h
def d3 (p0:g168.Y) (p1:g169.Y) (p2:Y4):Y3:=fun (v0,v1,v2,v3,v4,v5,v6,v7,v8,v9,v10,v11,v12,v13,v14,v15,v16,v17,v18,v19,v20,v21,v22,v23,v24,v25,v26,v27) =>
bnd (p0 (4,v0,v1)) fun r=>br (decide (r.1 = 0)) (bnd (p1 (-8,8,r.2.1,r.2.2)) fun r=>p2 (r.2.1,r.2.2,v2,v3,v4,v5,v6,v7,v8,v9,v10,v11,v12,v13,v14,v15,v16,v17,v18,v19,v20,v21,v22,v23,v24,wrap .i64 (r.1 * 134217728),v26,v27)) (p2 (r.2.1,r.2.2,v2,v3,v4,v5,v6,v7,v8,v9,v10,v11,v12,v13,v14,v15,v16,v17,v18,v19,v20,v21,v22,v23,v24,v25,v26,v27))
theorem d3_cn (k0:Pr E g168.A g168.R) (k1:Pr E g169.A g169.R) (k2:Pr E T4 R):∀ v:T3,Cn E (d3 k0.p k1.p k2.p v) fun i=>d3 (k0.q i) (k1.q i) (k2.q i) v:=fun (v0,v1,v2,v3,v4,v5,v6,v7,v8,v9,v10,v11,v12,v13,v14,v15,v16,v17,v18,v19,v20,v21,v22,v23,v24,v25,v26,v27)=>(.bnd (k0.h _) fun _=>(.br (.bnd (k1.h _) fun _=>(k2.h _)) (k2.h _)))
theorem l3_b ( k:Nat):∀ v:T3,run (cs k) (loopN cs k) c1000012 (J1000012 k) (s3 v) = d3 (g168.f k) (g169.f k) (l4 k) v:=fun (v0,v1,v2,v3,v4,v5,v6,v7,v8,v9,v10,v11,v12,v13,v14,v15,v16,v17,v18,v19,v20,v21,v22,v23,v24,v25,v26,v27)=>by kernel_rfl
theorem D3_of (v:T3) {r:R} (h:d3 g168.F g169.F D4 v = some r):D3 v = some r:=join_of (fun L=>(held_eq _).trans (l3_b (L 0) v)) (d3_cn (lp g168.f 0) (lp g169.f 0) (.mk fun v=>(D4_cn v).re [0]) v) h
def d4 (p0:g168.Y) (p1:g169.Y) (p2:Y5):Y4:=fun (v0,v1,v2,v3,v4,v5,v6,v7,v8,v9,v10,v11,v12,v13,v14,v15,v16,v17,v18,v19,v20,v21,v22,v23,v24,v25,v26,v27) =>
bnd (p0 (6,v0,v1)) fun r=>br (decide (r.1 = 0)) (bnd (p1 (-8,8,r.2.1,r.2.2)) fun r=>p2 (r.2.1,r.2.2,v2,v3,v4,v5,v6,v7,v8,v9,v10,v11,v12,v13,v14,v15,v16,v17,v18,v19,v20,v21,v22,v23,wrap .i64 (r.1 * 134217728),v25,v26,v27)) (p2 (r.2.1,r.2.2,v2,v3,v4,v5,v6,v7,v8,v9,v10,v11,v12,v13,v14,v15,v16,v17,v18,v19,v20,v21,v22,v23,v24,v25,v26,v27))
theorem d4_cn (k0:Pr E g168.A g168.R) (k1:Pr E g169.A g169.R) (k2:Pr E T5 R):∀ v:T4,Cn E (d4 k0.p k1.p k2.p v) fun i=>d4 (k0.q i) (k1.q i) (k2.q i) v:=fun (v0,v1,v2,v3,v4,v5,v6,v7,v8,v9,v10,v11,v12,v13,v14,v15,v16,v17,v18,v19,v20,v21,v22,v23,v24,v25,v26,v27)=>(.bnd (k0.h _) fun _=>(.br (.bnd (k1.h _) fun _=>(k2.h _)) (k2.h _)))
theorem l4_b ( k:Nat):∀ v:T4,run (cs k) (loopN cs k) c1000014 (J1000014 k) (s4 v) = d4 (g168.f k) (g169.f k) (l5 k) v:=fun (v0,v1,v2,v3,v4,v5,v6,v7,v8,v9,v10,v11,v12,v13,v14,v15,v16,v17,v18,v19,v20,v21,v22,v23,v24,v25,v26,v27)=>by kernel_rfl
theorem D4_of (v:T4) {r:R} (h:d4 g168.F g169.F D5 v = some r):D4 v = some r:=join_of (fun L=>(held_eq _).trans (l4_b (L 0) v)) (d4_cn (lp g168.f 0) (lp g169.f 0) (.mk fun v=>(D5_cn v).re [0]) v) h
def d5:Y5:=fun (v0,v1,v2,v3,v4,v5,v6,v7,v8,v9,v10,v11,v12,v13,v14,v15,v16,v17,v18,v19,v20,v21,v22,v23,v24,v25,v26,v27) =>
some (v15,v16,v17,v18,v19,v20,v21,v22,v23,v24,v25,v26,v27,v0,v1)
theorem d5_cn:∀ v:T5,Cn E (d5 v) fun i=>d5 v:=fun (v0,v1,v2,v3,v4,v5,v6,v7,v8,v9,v10,v11,v12,v13,v14,v15,v16,v17,v18,v19,v20,v21,v22,v23,v24,v25,v26,v27)=>.some
theorem l5_b ( k:Nat):∀ v:T5,run (cs k) (loopN cs k) c1000016 (J1000016 k) (s5 v) = d5 v:=fun (v0,v1,v2,v3,v4,v5,v6,v7,v8,v9,v10,v11,v12,v13,v14,v15,v16,v17,v18,v19,v20,v21,v22,v23,v24,v25,v26,v27)=>by kernel_rfl
theorem D5_of (v:T5) {r:R} (h:d5 v = some r):D5 v = some r:=join_of (fun L=>(held_eq _).trans (l5_b (L 0) v)) (d5_cn v) h
noncomputable def f (k:Nat):Y:=fun v=>held (runFn cs k Tryz.f48 (sh.args v) (sh.slots v) dec)
noncomputable def F:Y:=lm f
noncomputable def d (p0:g168.Y) (p1:g170.Y) (p2:g169.Y) (p3:Y0) (p4:Y1):Y:=fun (v0,v1,v2,v3,v4,v5,v6,v7,v8,v9,v10,v11,v12,v13,v14,v15,v16,v17,v18,v19) =>
bnd (p0 (v17,v18,v19)) fun r=>bnd (p1 (r.2.1,r.2.2)) fun r_1=>bnd (p2 (1,3,r_1.2.2.2.1,r_1.2.2.2.2)) fun r_2=>bnd (p2 (1,3,r_2.2.1,r_2.2.2)) fun r_3=>bnd (p2 (1,5,r_3.2.1,r_3.2.2)) fun r_4=>bnd (p0 (2,r_4.2.1,r_4.2.2)) fun r_5=>br (decide (r_5.1 = 0)) (bnd (p2 (-9,9,r_5.2.1,r_5.2.2)) fun r_6=>bnd (p2 (-9,9,r_6.2.1,r_6.2.2)) fun r_7=>br (decide (v0 < 0)) (p3 (r_7.2.1,r_7.2.2,0,0,0,0,0,0,0,0,0,0,0,0,0,v16,r.1,r_6.1,r_7.1,-12,r_2.1,r_3.1,0,0,-1073741824,1073741824,4,r_4.1)) (p3 (r_7.2.1,r_7.2.2,0,0,0,0,0,0,0,0,0,0,0,0,0,v16,r.1,r_6.1,r_7.1,12,r_2.1,r_3.1,0,0,-1073741824,1073741824,4,r_4.1))) (p4 (r_5.2.1,r_5.2.2,0,0,0,0,0,0,0,0,0,0,0,0,0,v16,r.1,r_1.1,r_1.2.1,r_1.2.2.1,r_2.1,r_3.1,0,0,-1073741824,1073741824,4,r_4.1))
theorem d_cn (k0:Pr E g168.A g168.R) (k1:Pr E g170.A g170.R) (k2:Pr E g169.A g169.R) (k3:Pr E T0 R) (k4:Pr E T1 R):∀ v:A,Cn E (d k0.p k1.p k2.p k3.p k4.p v) fun i=>d (k0.q i) (k1.q i) (k2.q i) (k3.q i) (k4.q i) v:=fun (v0,v1,v2,v3,v4,v5,v6,v7,v8,v9,v10,v11,v12,v13,v14,v15,v16,v17,v18,v19)=>(.bnd (k0.h _) fun _=>(.bnd (k1.h _) fun _=>(.bnd (k2.h _) fun _=>(.bnd (k2.h _) fun _=>(.bnd (k2.h _) fun _=>(.bnd (k0.h _) fun _=>(.br (.bnd (k2.h _) fun _=>(.bnd (k2.h _) fun _=>(.br (k3.h _) (k3.h _)))) (k4.h _))))))))
theorem f_b (k:Nat):∀ v:A,f k v = d (g168.f k) (g170.f k) (g169.f k) (l0 k) (l1 k) v:=fun (v0,v1,v2,v3,v4,v5,v6,v7,v8,v9,v10,v11,v12,v13,v14,v15,v16,v17,v18,v19)=>(held_eq _).trans (by kernel_rfl)
theorem F_of (v:A) {r:R} (h:d g168.F g170.F g169.F D0 D1 v = some r):F v = some r:=join_of (fun L=>f_b (L 0) v) (d_cn (lp g168.f 0) (lp g170.f 0) (lp g169.f 0) (.mk fun v=>(D0_cn v).re [0]) (.mk fun v=>(D1_cn v).re [0]) v) h
noncomputable def spec (k:Nat):List AV→List Slot→Option Ans:=specS sh os (f k)
theorem spec_ok (k:Nat):SpecOk Tryz.prog 48 (spec k):=specS_ok cs_ok Tryz.func48 rfl rfl (fun _ _=>held_eq _) k
end g176
noncomputable def tg176:=tg175.cons 48 g176.spec g176.spec_ok
namespace g177 -- spymake_Stream_Programme
abbrev R:Type:=List Int × Int × List (ByteArray × Int) × List (Int × Int × (Int × Int × Int) × Int × Int × Int × Int × Int × Int × Int × Int)
abbrev A:Type:=Int × Int × Int × Int × Int × Int × Int × Int × Int × Int × Int × Int × Int × Int × Int × Int × Int × List Int × Int
abbrev Y:=A→Option R
def lv:List (Nat × List Nat):=[(2000000,[6]),(3,[0,2,4,6,7,11,12]),(9,[0,4,6,7,9,35,36])]
noncomputable def cs:Nat→Ctx:=ctxOf tis modes tg176.1 lv
theorem cs_ok (n:Nat):CtxOk Tryz.prog (cs n):=ctxOf_ok rfl tis_ok tg176.2 n
def sh:AS:=⟨[.c (.ptr 128000000 0),.agg [.int .i64,.int .i64,.int .i64,.int .i64,.int .i64,.int .i64,.int .i64,.int .i64,.int .i64,.int .i64,.int .i64,.int .i64,.int .i64,.int .i64,.int .i64,.int .i64,.sl 256000000],.c (.int .i64)],[(.box [.frz (.int .i64),.int .i64])]⟩
def os:OS:=⟨.agg [.sl 128000001,.sl 128000002],[.box [.frz (.int .i64),.int .i64],.row y19,.row y27]⟩
def enc (r:R):Out:=os.enc r
def dec:Out→Option R:=os.dec
noncomputable def b0:Code:=subF [] Tryz.f17
noncomputable def K0 (k:Nat):Kt R:=kTop (cs k) Tryz.f17 dec
noncomputable def b3:Code:=sub [1,1,0,1,0,0] b0
noncomputable def K3 ( k:Nat):Kt R:=kAt (cs k) (loopN cs k) [1,1,0,1,0] b0 (K0 k)
noncomputable def b9:Code:=sub [1,1,1,1,0,1,0,0] b0
noncomputable def K9 ( k:Nat):Kt R:=kAt (cs k) (loopN cs k) [1,1,1,1,0,1,0] b0 (K0 k)
abbrev T0:Type:=Int × Int × Int × List Int × Int × Int × Int × Int × Int × Int × Int × Int × Int × Int × Int × Int × Int × Int × Int × Int × Int × List (ByteArray × Int) × List (Int × Int × (Int × Int × Int) × Int × Int × Int × Int × Int × Int × Int × Int) × List (ByteArray × Int) × List (Int × Int × (Int × Int × Int) × Int × Int × Int × Int × Int × Int × Int × Int)
abbrev Y0:=T0→Option R
noncomputable def s0:T0→St:=fun (v0,v1,v2,v3,v4,v5,v6,v7,v8,v9,v10,v11,v12,v13,v14,v15,v16,v17,v18,v19,v20,v21,v22,v23,v24)=>⟨56,1,[(0,.c (.ptr 128000000 0)),(2,.c (.int .i64 v0)),(4,.c (.ptr 64000000 0)),(6,.c (.ptr 64000001 0)),(7,.c (.ptr 64000002 0)),(11,.c (.int .i64 v1)),(12,.c (.int .i64 v2))],[],[(128000000,.box [.frz (.int .i64) v3,.int .i64 v4]),(256000000,.gone),(64000000,.box [.int .i64 v5,.int .i64 v6,.int .i64 v7,.int .i64 v8,.int .i64 v9,.int .i64 v10,.int .i64 v11,.int .i64 v12,.int .i64 v13,.int .i64 v14,.int .i64 v15,.int .i64 v16,.int .i64 v17,.int .i64 v18,.int .i64 v19,.int .i64 v20,.sl 256000000]),(64000001,.box [.sl 64000003,.sl 64000004]),(64000002,.box [.sl 64000005,.sl 64000006]),(64000003,.row y19 v21),(64000004,.row y27 v22),(64000005,.row y19 v23),(64000006,.row y27 v24)]⟩
noncomputable def l0 ( k n:Nat) (v:T0):Option R:=held (loopN cs n b3 (K3 k) (s0 v))
noncomputable def D0 (v:T0):Option R:=lim fun L=>l0 (L 0) (L 1) v
theorem D0_cn (v:T0):Cn late (D0 v) fun L=>l0 (L 0) (L 1) v:=of_lim
abbrev T1:Type:=Int × Int × Int × List Int × Int × Int × Int × Int × Int × Int × Int × Int × Int × Int × Int × Int × Int × Int × Int × Int × Int × List (ByteArray × Int) × List (Int × Int × (Int × Int × Int) × Int × Int × Int × Int × Int × Int × Int × Int) × List (ByteArray × Int) × List (Int × Int × (Int × Int × Int) × Int × Int × Int × Int × Int × Int × Int × Int)
abbrev Y1:=T1→Option R
noncomputable def s1:T1→St:=fun (v0,v1,v2,v3,v4,v5,v6,v7,v8,v9,v10,v11,v12,v13,v14,v15,v16,v17,v18,v19,v20,v21,v22,v23,v24)=>⟨56,1,[(0,.c (.ptr 128000000 0)),(4,.c (.ptr 64000000 0)),(6,.c (.ptr 64000001 0)),(7,.c (.ptr 64000002 0)),(9,.c (.int .i64 v0)),(35,.c (.int .i64 v1)),(36,.c (.int .i64 v2))],[],[(128000000,.box [.frz (.int .i64) v3,.int .i64 v4]),(256000000,.gone),(64000000,.box [.int .i64 v5,.int .i64 v6,.int .i64 v7,.int .i64 v8,.int .i64 v9,.int .i64 v10,.int .i64 v11,.int .i64 v12,.int .i64 v13,.int .i64 v14,.int .i64 v15,.int .i64 v16,.int .i64 v17,.int .i64 v18,.int .i64 v19,.int .i64 v20,.sl 256000000]),(64000001,.box [.sl 64000003,.sl 64000004]),(64000002,.box [.sl 64000005,.sl 64000006]),(64000003,.row y19 v21),(64000004,.row y27 v22),(64000005,.row y19 v23),(64000006,.row y27 v24)]⟩
noncomputable def l1 ( k n:Nat) (v:T1):Option R:=held (loopN cs n b9 (K9 k) (s1 v))
noncomputable def D1 (v:T1):Option R:=lim fun L=>l1 (L 0) (L 1) v
theorem D1_cn (v:T1):Cn late (D1 v) fun L=>l1 (L 0) (L 1) v:=of_lim
noncomputable def d0 (p0:g175.Y) (p1:g169.Y) (p2:Y0) (p3:g168.Y) (p4:Y1):Y0:=fun (v0,v1,v2,v3,v4,v5,v6,v7,v8,v9,v10,v11,v12,v13,v14,v15,v16,v17,v18,v19,v20,v21,v22,v23,v24) =>
br (decide (v2 < v1)) (bnd (p0 (v3,v4)) fun r=>br (decide (r.1.size + (bytesStr [wrap .u8 (wrap .i64 (48 + v2))]).size < 9223372036854775807)) (bnd (p1 (1,5,r.2.1,r.2.2)) fun r_1=>br (decide (v23.length + [(r.1 ++ bytesStr [wrap .u8 (wrap .i64 (48 + v2))],r_1.1)].length ≤ 140737488355328 / 24)) (p2 (v0,v1,wrap .i64 (v2 + 1),r_1.2.1,r_1.2.2,v5,v6,v7,v8,v9,v10,v11,v12,v13,v14,v15,v16,v17,v18,v19,v20,v21,v22,v23 ++ [(r.1 ++ bytesStr [wrap .u8 (wrap .i64 (48 + v2))],r_1.1)],v24)) none) none) (bnd (p3 (wrap .i64 (v0 + 1),v3,v4)) fun r=>p4 (0,r.1,0,r.2.1,r.2.2,v5,v6,v7,v8,v9,v10,v11,v12,v13,v14,v15,v16,v17,v18,v19,v20,v21,v22,v23,v24))
theorem d0_cn (k0:Pr E g175.A g175.R) (k1:Pr E g169.A g169.R) (k2:Pr E T0 R) (k3:Pr E g168.A g168.R) (k4:Pr E T1 R):∀ v:T0,Cn E (d0 k0.p k1.p k2.p k3.p k4.p v) fun i=>d0 (k0.q i) (k1.q i) (k2.q i) (k3.q i) (k4.q i) v:=fun (v0,v1,v2,v3,v4,v5,v6,v7,v8,v9,v10,v11,v12,v13,v14,v15,v16,v17,v18,v19,v20,v21,v22,v23,v24)=>(.br (.bnd (k0.h _) fun _=>(.br (.bnd (k1.h _) fun _=>(.br (k2.h _) .none)) .none)) (.bnd (k3.h _) fun _=>(k4.h _)))
theorem l0_b ( k m1:Nat):∀ v:T0,run (cs m1) (loopN cs m1) b3 (kLoop cs m1 b3 (K3 k)) (s0 v) = d0 (g175.f m1) (g169.f m1) (l0 k m1) (g168.f k) (l1 k k) v:=fun (v0,v1,v2,v3,v4,v5,v6,v7,v8,v9,v10,v11,v12,v13,v14,v15,v16,v17,v18,v19,v20,v21,v22,v23,v24)=>by kernel_rfl
theorem D0_of (v:T0) {r:R} (h:d0 g175.F g169.F D0 g168.F D1 v = some r):D0 v = some r:=loop_of 1 (fun L n hn=>by show l0 (L 0) (L 1) v = _; rw [hn]; exact (held_eq _).trans ((loopN_succ _ _ _ _ _).trans (l0_b (L 0) n v))) (d0_cn (lp g175.f 1) (lp g169.f 1) (.mk fun v=>(D0_cn v).re [0,1]) (lp g168.f 0) (.mk fun v=>(D1_cn v).re [0,0]) v) h
noncomputable def d1 (p0:g169.Y) (p1:g176.Y) (p2:Y1):Y1:=fun (v0,v1,v2,v3,v4,v5,v6,v7,v8,v9,v10,v11,v12,v13,v14,v15,v16,v17,v18,v19,v20,v21,v22,v23,v24) =>
br (decide (v2 < v1)) (bnd (p0 (1,4,v3,v4)) fun r=>bnd (p1 (v5,v6,v7,v8,v9,v10,v11,v12,v13,v14,v15,v16,v17,v18,v19,v20,wrap .i64 (v0 + r.1),(↑v23.length:Int),r.2.1,r.2.2)) fun r_1=>br (decide (v24.length + [(r_1.1,r_1.2.1,(r_1.2.2.1,r_1.2.2.2.1,r_1.2.2.2.2.1),r_1.2.2.2.2.2.1,r_1.2.2.2.2.2.2.1,r_1.2.2.2.2.2.2.2.1,r_1.2.2.2.2.2.2.2.2.1,r_1.2.2.2.2.2.2.2.2.2.1,r_1.2.2.2.2.2.2.2.2.2.2.1,r_1.2.2.2.2.2.2.2.2.2.2.2.1,r_1.2.2.2.2.2.2.2.2.2.2.2.2.1)].length ≤ 140737488355328 / 104)) (p2 (wrap .i64 (v0 + r.1),v1,wrap .i64 (v2 + 1),r_1.2.2.2.2.2.2.2.2.2.2.2.2.2.1,r_1.2.2.2.2.2.2.2.2.2.2.2.2.2.2,v5,v6,v7,v8,v9,v10,v11,v12,v13,v14,v15,v16,v17,v18,v19,v20,v21,v22,v23,v24 ++ [(r_1.1,r_1.2.1,(r_1.2.2.1,r_1.2.2.2.1,r_1.2.2.2.2.1),r_1.2.2.2.2.2.1,r_1.2.2.2.2.2.2.1,r_1.2.2.2.2.2.2.2.1,r_1.2.2.2.2.2.2.2.2.1,r_1.2.2.2.2.2.2.2.2.2.1,r_1.2.2.2.2.2.2.2.2.2.2.1,r_1.2.2.2.2.2.2.2.2.2.2.2.1,r_1.2.2.2.2.2.2.2.2.2.2.2.2.1)])) none) (some (v3,v4,v23,v24))
theorem d1_cn (k0:Pr E g169.A g169.R) (k1:Pr E g176.A g176.R) (k2:Pr E T1 R):∀ v:T1,Cn E (d1 k0.p k1.p k2.p v) fun i=>d1 (k0.q i) (k1.q i) (k2.q i) v:=fun (v0,v1,v2,v3,v4,v5,v6,v7,v8,v9,v10,v11,v12,v13,v14,v15,v16,v17,v18,v19,v20,v21,v22,v23,v24)=>(.br (.bnd (k0.h _) fun _=>(.bnd (k1.h _) fun _=>(.br (k2.h _) .none))) .some)
theorem l1_b ( k m1:Nat):∀ v:T1,run (cs m1) (loopN cs m1) b9 (kLoop cs m1 b9 (K9 k)) (s1 v) = d1 (g169.f m1) (g176.f m1) (l1 k m1) v:=fun (v0,v1,v2,v3,v4,v5,v6,v7,v8,v9,v10,v11,v12,v13,v14,v15,v16,v17,v18,v19,v20,v21,v22,v23,v24)=>by kernel_rfl
theorem D1_of (v:T1) {r:R} (h:d1 g169.F g176.F D1 v = some r):D1 v = some r:=loop_of 1 (fun L n hn=>by show l1 (L 0) (L 1) v = _; rw [hn]; exact (held_eq _).trans ((loopN_succ _ _ _ _ _).trans (l1_b (L 0) n v))) (d1_cn (lp g169.f 1) (lp g176.f 1) (.mk fun v=>(D1_cn v).re [0,1]) v) h
noncomputable def f (k:Nat):Y:=fun v=>held (runFn cs k Tryz.f17 (sh.args v) (sh.slots v) dec)
noncomputable def F:Y:=lm f
def d (p0:g169.Y) (p1:Y0):Y:=fun (v0,v1,v2,v3,v4,v5,v6,v7,v8,v9,v10,v11,v12,v13,v14,v15,v16,v17,v18) =>
bnd (p0 (1,3,v17,v18)) fun r=>p1 (v16,r.1,0,r.2.1,r.2.2,v0,v1,v2,v3,v4,v5,v6,v7,v8,v9,v10,v11,v12,v13,v14,v15,[],[],[],[])
theorem d_cn (k0:Pr E g169.A g169.R) (k1:Pr E T0 R):∀ v:A,Cn E (d k0.p k1.p v) fun i=>d (k0.q i) (k1.q i) v:=fun (v0,v1,v2,v3,v4,v5,v6,v7,v8,v9,v10,v11,v12,v13,v14,v15,v16,v17,v18)=>(.bnd (k0.h _) fun _=>(k1.h _))
theorem f_b (k:Nat):∀ v:A,f k v = d (g169.f k) (l0 k k) v:=fun (v0,v1,v2,v3,v4,v5,v6,v7,v8,v9,v10,v11,v12,v13,v14,v15,v16,v17,v18)=>(held_eq _).trans (by kernel_rfl)
theorem F_of (v:A) {r:R} (h:d g169.F D0 v = some r):F v = some r:=join_of (fun L=>f_b (L 0) v) (d_cn (lp g169.f 0) (.mk fun v=>(D0_cn v).re [0,0]) v) h
noncomputable def spec (k:Nat):List AV→List Slot→Option Ans:=specS sh os (f k)
theorem spec_ok (k:Nat):SpecOk Tryz.prog 17 (spec k):=specS_ok cs_ok Tryz.func17 rfl rfl (fun _ _=>held_eq _) k
end g177
noncomputable def tg177:=tg176.cons 17 g177.spec g177.spec_ok
namespace g178 -- spykeep2_PlanClouded
abbrev R:Type:=Bool
abbrev A:Type:=List Int
abbrev Y:=A→Option R
def lv:List (Nat × List Nat):=[(2000000,[2]),(7,[4,5,6,25,26]),(12,[4,5,6,44,45])]
noncomputable def cs:Nat→Ctx:=ctxOf tis modes tg177.1 lv
theorem cs_ok (n:Nat):CtxOk Tryz.prog (cs n):=ctxOf_ok rfl tis_ok tg177.2 n
def sh:AS:=⟨[(.c (.frz (.int .i64)))],[]⟩
def os:OS:=⟨.c .bool,[]⟩
def enc (r:R):Out:=os.enc r
def dec:Out→Option R:=os.dec
noncomputable def b0:Code:=subF [] Tryz.f3
noncomputable def K0 (k:Nat):Kt R:=kTop (cs k) Tryz.f3 dec
noncomputable def b7:Code:=sub [1,1,1,1,1,0,1,0,0] b0
noncomputable def K7 ( k:Nat):Kt R:=kAt (cs k) (loopN cs k) [1,1,1,1,1,0,1,0] b0 (K0 k)
noncomputable def b12:Code:=sub [1,1,1,1,1,1,0,1,0,0] b0
noncomputable def K12 ( k:Nat):Kt R:=kAt (cs k) (loopN cs k) [1,1,1,1,1,1,0,1,0] b0 (K0 k)
abbrev T0:Type:=Int × Int × Int × Int × Int × Int × Int × Int × Int × Int × Int × Int × Int × Int × Int × Int × Int × Int × Int × Int × Int × Int × Int × Int × Int × Int × Int × Int × List Int × List (ByteArray × Int) × List (Int × Int × (Int × Int × Int) × Int × Int × Int × Int × Int × Int × Int × Int)
abbrev Y0:=T0→Option R
noncomputable def s0:T0→St:=fun (v0,v1,v2,v3,v4,v5,v6,v7,v8,v9,v10,v11,v12,v13,v14,v15,v16,v17,v18,v19,v20,v21,v22,v23,v24,v25,v26,v27,v28,v29,v30)=>⟨67,0,[(4,.c (.ptr 64000000 0)),(5,.c (.ptr 64000001 0)),(6,.c (.ptr 64000002 0)),(25,.c (.int .i64 v0)),(26,.c (.int .i64 v1))],[],[(256000000,.gone),(64000000,.box [.int .i64 v2,.int .i64 v3,.int .i64 v4,.int .i64 v5,.int .i64 v6,.int .i64 v7,.int .i64 v8,.int .i64 v9,.int .i64 v10,.int .i64 v11,.int .i64 v12,.int .i64 v13,.int .i64 v14,.int .i64 v15,.int .i64 v16,.int .i64 v17,.sl 64000003]),(64000001,.box [.int .i64 v18,.int .i64 v19,.int .i64 v20,.int .i64 v21,.int .i64 v22,.int .i64 v23,.int .i64 v24,.int .i64 v25,.int .i64 v26,.int .i64 v27]),(64000002,.box [.sl 64000004,.sl 64000005]),(64000003,.row (.int .i64) v28),(64000004,.row y19 v29),(64000005,.row y27 v30)]⟩
noncomputable def l0 ( k n:Nat) (v:T0):Option R:=held (loopN cs n b7 (K7 k) (s0 v))
noncomputable def D0 (v:T0):Option R:=lim fun L=>l0 (L 0) (L 1) v
theorem D0_cn (v:T0):Cn late (D0 v) fun L=>l0 (L 0) (L 1) v:=of_lim
abbrev T1:Type:=Int × Int × Int × Int × Int × Int × Int × Int × Int × Int × Int × Int × Int × Int × Int × Int × Int × Int × Int × Int × Int × Int × Int × Int × Int × Int × Int × Int × List Int × List (ByteArray × Int) × List (Int × Int × (Int × Int × Int) × Int × Int × Int × Int × Int × Int × Int × Int)
abbrev Y1:=T1→Option R
noncomputable def s1:T1→St:=fun (v0,v1,v2,v3,v4,v5,v6,v7,v8,v9,v10,v11,v12,v13,v14,v15,v16,v17,v18,v19,v20,v21,v22,v23,v24,v25,v26,v27,v28,v29,v30)=>⟨67,0,[(4,.c (.ptr 64000000 0)),(5,.c (.ptr 64000001 0)),(6,.c (.ptr 64000002 0)),(44,.c (.int .i64 v0)),(45,.c (.int .i64 v1))],[],[(256000000,.gone),(64000000,.box [.int .i64 v2,.int .i64 v3,.int .i64 v4,.int .i64 v5,.int .i64 v6,.int .i64 v7,.int .i64 v8,.int .i64 v9,.int .i64 v10,.int .i64 v11,.int .i64 v12,.int .i64 v13,.int .i64 v14,.int .i64 v15,.int .i64 v16,.int .i64 v17,.sl 64000003]),(64000001,.box [.int .i64 v18,.int .i64 v19,.int .i64 v20,.int .i64 v21,.int .i64 v22,.int .i64 v23,.int .i64 v24,.int .i64 v25,.int .i64 v26,.int .i64 v27]),(64000002,.box [.sl 64000004,.sl 64000005]),(64000003,.row (.int .i64) v28),(64000004,.row y19 v29),(64000005,.row y27 v30)]⟩
noncomputable def l1 ( k n:Nat) (v:T1):Option R:=held (loopN cs n b12 (K12 k) (s1 v))
noncomputable def D1 (v:T1):Option R:=lim fun L=>l1 (L 0) (L 1) v
theorem D1_cn (v:T1):Cn late (D1 v) fun L=>l1 (L 0) (L 1) v:=of_lim
noncomputable def d0 (p0:Y0) (p1:Y1):Y0:=fun (v0,v1,v2,v3,v4,v5,v6,v7,v8,v9,v10,v11,v12,v13,v14,v15,v16,v17,v18,v19,v20,v21,v22,v23,v24,v25,v26,v27,v28,v29,v30) =>
br (decide (v1 < v0)) (br (decide (0 ≤ v1 ∧ v1 < (↑v30.length:Int))) (br (decide (0 ≤ v1 ∧ v1 < (↑v30.length:Int))) (p0 (v0,wrap .i64 (v1 + 1),v2,v3,v4,v5,v6,v7,v8,v9,v10,v11,v12,v13,v14,v15,v16,v17,v18,v19,v20,v21,v22,v23,v24,v25,v26,v27,v28,v29,v30.set v1.toNat ((rd ty0 v30 v1).1,(rd ty0 v30 v1).2.1,((rd ty0 v30 v1).2.2.1.1,(rd ty0 v30 v1).2.2.1.2.1,(rd ty0 v30 v1).2.2.1.2.2),(rd ty0 v30 v1).2.2.2.1,(rd ty0 v30 v1).2.2.2.2.1,(rd ty0 v30 v1).2.2.2.2.2.1,(rd ty0 v30 v1).2.2.2.2.2.2.1,(rd ty0 v30 v1).2.2.2.2.2.2.2.1,(rd ty0 v30 v1).2.2.2.2.2.2.2.2.1,min (rd ty0 v30 v1).2.2.2.2.2.2.2.2.2.1 3,(rd ty0 v30 v1).2.2.2.2.2.2.2.2.2.2))) none) none) (p1 ((↑v28.length:Int),0,v2,v3,v4,v5,v6,v7,v8,v9,v10,v11,v12,v13,v14,v15,v16,v17,v18,v19,v20,v21,v22,v23,v24,v25,v26,v27,v28,v29,v30))
theorem d0_cn (k0:Pr E T0 R) (k1:Pr E T1 R):∀ v:T0,Cn E (d0 k0.p k1.p v) fun i=>d0 (k0.q i) (k1.q i) v:=fun (v0,v1,v2,v3,v4,v5,v6,v7,v8,v9,v10,v11,v12,v13,v14,v15,v16,v17,v18,v19,v20,v21,v22,v23,v24,v25,v26,v27,v28,v29,v30)=>(.br (.br (.br (k0.h _) .none) .none) (k1.h _))
theorem l0_b ( k m1:Nat):∀ v:T0,run (cs m1) (loopN cs m1) b7 (kLoop cs m1 b7 (K7 k)) (s0 v) = d0 (l0 k m1) (l1 k k) v:=fun (v0,v1,v2,v3,v4,v5,v6,v7,v8,v9,v10,v11,v12,v13,v14,v15,v16,v17,v18,v19,v20,v21,v22,v23,v24,v25,v26,v27,v28,v29,v30)=>by kernel_rfl
theorem D0_of (v:T0) {r:R} (h:d0 D0 D1 v = some r):D0 v = some r:=loop_of 1 (fun L n hn=>by show l0 (L 0) (L 1) v = _; rw [hn]; exact (held_eq _).trans ((loopN_succ _ _ _ _ _).trans (l0_b (L 0) n v))) (d0_cn (.mk fun v=>(D0_cn v).re [0,1]) (.mk fun v=>(D1_cn v).re [0,0]) v) h
def d1 (p0:Y1) (p1:g165.Y):Y1:=fun (v0,v1,v2,v3,v4,v5,v6,v7,v8,v9,v10,v11,v12,v13,v14,v15,v16,v17,v18,v19,v20,v21,v22,v23,v24,v25,v26,v27,v28,v29,v30) =>
br (decide (v1 < v0)) (br (decide (0 ≤ v1 ∧ v1 < (↑v28.length:Int))) (p0 (v0,wrap .i64 (v1 + 1),v2,v3,v4,v5,v6,v7,v8,v9,v10,v11,v12,v13,v14,v15,v16,v17,v18,v19,v20,v21,v22,v23,v24,v25,v26,v27,v28.set v1.toNat 4,v29,v30)) none) (bnd (p1 (v2,v3,v4,v5,v6,v7,v8,v9,v10,v11,v12,v13,v14,v15,v16,v17,v28,v18,v19,v20,v21,v22,v23,v24,v25,v26,v27,v29,v30)) fun r=>some (decide (r.1 = 0) && decide ((↑r.2.length:Int) = 0)))
theorem d1_cn (k0:Pr E T1 R) (k1:Pr E g165.A g165.R):∀ v:T1,Cn E (d1 k0.p k1.p v) fun i=>d1 (k0.q i) (k1.q i) v:=fun (v0,v1,v2,v3,v4,v5,v6,v7,v8,v9,v10,v11,v12,v13,v14,v15,v16,v17,v18,v19,v20,v21,v22,v23,v24,v25,v26,v27,v28,v29,v30)=>(.br (.br (k0.h _) .none) (.bnd (k1.h _) fun _=>.some))
theorem l1_b ( k m1:Nat):∀ v:T1,run (cs m1) (loopN cs m1) b12 (kLoop cs m1 b12 (K12 k)) (s1 v) = d1 (l1 k m1) (g165.f k) v:=fun (v0,v1,v2,v3,v4,v5,v6,v7,v8,v9,v10,v11,v12,v13,v14,v15,v16,v17,v18,v19,v20,v21,v22,v23,v24,v25,v26,v27,v28,v29,v30)=>by kernel_rfl
theorem D1_of (v:T1) {r:R} (h:d1 D1 g165.F v = some r):D1 v = some r:=loop_of 1 (fun L n hn=>by show l1 (L 0) (L 1) v = _; rw [hn]; exact (held_eq _).trans ((loopN_succ _ _ _ _ _).trans (l1_b (L 0) n v))) (d1_cn (.mk fun v=>(D1_cn v).re [0,1]) (lp g165.f 0) v) h
noncomputable def f (k:Nat):Y:=fun v=>held (runFn cs k Tryz.f3 (sh.args v) (sh.slots v) dec)
noncomputable def F:Y:=lm f
noncomputable def d (p0:g166.Y) (p1:g171.Y) (p2:g174.Y) (p3:g177.Y) (p4:Y0):Y:=fun v0 =>
bnd (p0 ()) fun r=>br (!r) (some false) (bnd (p1 (20,v0,0)) fun r=>bnd (p2 (r.2.2.2.2.2.2.2.2.2.2.2.2.2.2.2.2.1,r.2.2.2.2.2.2.2.2.2.2.2.2.2.2.2.2.2.1)) fun r_1=>bnd (p3 (r.1,r.2.1,r.2.2.1,r.2.2.2.1,r.2.2.2.2.1,r.2.2.2.2.2.1,r.2.2.2.2.2.2.1,r.2.2.2.2.2.2.2.1,r.2.2.2.2.2.2.2.2.1,r.2.2.2.2.2.2.2.2.2.1,r.2.2.2.2.2.2.2.2.2.2.1,r.2.2.2.2.2.2.2.2.2.2.2.1,r.2.2.2.2.2.2.2.2.2.2.2.2.1,r.2.2.2.2.2.2.2.2.2.2.2.2.2.1,r.2.2.2.2.2.2.2.2.2.2.2.2.2.2.1,r.2.2.2.2.2.2.2.2.2.2.2.2.2.2.2.1,6,r_1.2.2.2.2.2.2.2.2.2.2.1,r_1.2.2.2.2.2.2.2.2.2.2.2)) fun r_2=>p4 ((↑r_2.2.2.2.length:Int),0,r.1,r.2.1,r.2.2.1,r.2.2.2.1,r.2.2.2.2.1,r.2.2.2.2.2.1,r.2.2.2.2.2.2.1,r.2.2.2.2.2.2.2.1,r.2.2.2.2.2.2.2.2.1,r.2.2.2.2.2.2.2.2.2.1,r.2.2.2.2.2.2.2.2.2.2.1,r.2.2.2.2.2.2.2.2.2.2.2.1,r.2.2.2.2.2.2.2.2.2.2.2.2.1,r.2.2.2.2.2.2.2.2.2.2.2.2.2.1,r.2.2.2.2.2.2.2.2.2.2.2.2.2.2.1,r.2.2.2.2.2.2.2.2.2.2.2.2.2.2.2.1,r_1.1,r_1.2.1,r_1.2.2.1,r_1.2.2.2.1,r_1.2.2.2.2.1,r_1.2.2.2.2.2.1,r_1.2.2.2.2.2.2.1,r_1.2.2.2.2.2.2.2.1,r_1.2.2.2.2.2.2.2.2.1,r_1.2.2.2.2.2.2.2.2.2.1,r.2.2.2.2.2.2.2.2.2.2.2.2.2.2.2.2.2.2,r_2.2.2.1,r_2.2.2.2))
theorem d_cn (k0:Pr E g166.A g166.R) (k1:Pr E g171.A g171.R) (k2:Pr E g174.A g174.R) (k3:Pr E g177.A g177.R) (k4:Pr E T0 R):∀ v:A,Cn E (d k0.p k1.p k2.p k3.p k4.p v) fun i=>d (k0.q i) (k1.q i) (k2.q i) (k3.q i) (k4.q i) v:=fun v0=>(.bnd (k0.h _) fun _=>(.br .some (.bnd (k1.h _) fun _=>(.bnd (k2.h _) fun _=>(.bnd (k3.h _) fun _=>(k4.h _))))))
theorem f_b (k:Nat):∀ v:A,f k v = d (g166.f k) (g171.f k) (g174.f k) (g177.f k) (l0 k k) v:=fun v0=>(held_eq _).trans (by kernel_rfl)
theorem F_of (v:A) {r:R} (h:d g166.F g171.F g174.F g177.F D0 v = some r):F v = some r:=join_of (fun L=>f_b (L 0) v) (d_cn (lp g166.f 0) (lp g171.f 0) (lp g174.f 0) (lp g177.f 0) (.mk fun v=>(D0_cn v).re [0,0]) v) h
noncomputable def spec (k:Nat):List AV→List Slot→Option Ans:=specS sh os (f k)
theorem spec_ok (k:Nat):SpecOk Tryz.prog 3 (spec k):=specS_ok cs_ok Tryz.func3 rfl rfl (fun _ _=>held_eq _) k
end g178
noncomputable def tg178:=tg177.cons 3 g178.spec g178.spec_ok
end Go.Proofs.RPl
