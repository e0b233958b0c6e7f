import Derived.Test.YtfkampndpkfcmaaGreatRPo2
import Derived.Test.YtfkampndpkfcmaaGreatProg
namespace Go.Proofs.RPo
open Go Go.Eng Go.Proofs
set_option maxRecDepth 100000
set_option linter.unusedVariables false
variable {ι : Type} {E : Fil ι}
namespace g174 -- plan_Desk_From
abbrev R:Type:=Int × List Int × List (ByteArray × Int) × List (Int × Int × (Int × Int × Int) × Int × Int × Int × Int × Int × Int × Int × Int) × List (List Int) × List (List (Int × Int)) × List (Int × Int × Int × Int)
abbrev A:Type:=Int × Int × Int × Int × Int × Int × Int × Int × Int × Int × Int × Int × Int × Int × Int × Int × Int × Int × Int × Int × Int × Int × Int × Int × Int × Int × Int × Int × Int × List (List Int) × List Int × List (ByteArray × Int) × List (Int × Int × (Int × Int × Int) × Int × Int × Int × Int × Int × Int × Int × Int) × List (List Int) × List (List (Int × Int))
abbrev Y:=A→Option R
def lv:List (Nat × List Nat):=[(2000000,[4,5]),(6,[2,3,7])]
noncomputable def cs:Nat→Ctx:=ctxOf tis modes tg173.1 lv
theorem cs_ok (n:Nat):CtxOk Tryz.prog (cs n):=ctxOf_ok rfl tis_ok tg173.2 n
def sh:AS:=⟨[.agg [.int .i64,.int .i64,.int .i64,.int .i64,.int .i64,.int .i64,.int .i64,.int .i64,.int .i64,.int .i64,.int .i64,.int .i64,.int .i64,.int .i64,.int .i64,.int .i64,.sl 128000000,.int .i64,.int .i64,.int .i64,.int .i64,.int .i64,.int .i64,.int .i64,.int .i64,.int .i64,.int .i64,.sl 128000001,.sl 128000002,.sl 128000003,.sl 128000004],.agg [.int .i64,.int .i64,.int .i64,.frz y4]],[.row (.int .i64),.row y19,.row y27,.nest y4,.nest y38]⟩
def os:OS:=⟨.tup [.c (.sl 128000005),.c (.int .i64)],[.row (.int .i64),.row y19,.row y27,.nest y4,.nest y38,.row y8]⟩
def enc (r:R):Out:=os.enc r
def dec:Out→Option R:=os.dec
noncomputable def b0:Code:=subF [] Tryz.f56
noncomputable def K0 (k:Nat):Kt R:=kTop (cs k) Tryz.f56 dec
noncomputable def b6:Code:=sub [1,1,1,1,0,0,0] b0
noncomputable def K6 ( k:Nat):Kt R:=kAt (cs k) (loopN cs k) [1,1,1,1,0,0] b0 (K0 k)
abbrev T0:Type:=List Int × List (ByteArray × Int) × List (Int × Int × (Int × Int × Int) × Int × Int × Int × Int × Int × Int × Int × Int) × List (List Int) × List (List (Int × Int)) × Int × Int × Int × Int × Int × Int × Int × Int × Int × Int × Int × Int × Int × Int × Int × Int × Int × Int × Int × Int × Int × Int × Int × Int × Int × Int × Int × Int × Int × List (Int × Int × Int × Int) × List (List Int)
abbrev Y0:=T0→Option R
noncomputable def s0:T0→St:=fun (v0,v1,v2,v3,v4,v5,v6,v7,v8,v9,v10,v11,v12,v13,v14,v15,v16,v17,v18,v19,v20,v21,v22,v23,v24,v25,v26,v27,v28,v29,v30,v31,v32,v33,v34,v35)=>⟨43,5,[(2,.c (.ptr 64000000 0)),(3,.c (.ptr 64000001 0)),(7,.c (.sl 64000002))],[],[(128000000,.row (.int .i64) v0),(128000001,.row y19 v1),(128000002,.row y27 v2),(128000003,.nest y4 v3 .none),(128000004,.nest y38 v4 .none),(256000000,.gone),(64000000,.box [.int .i64 v5,.int .i64 v6,.int .i64 v7,.int .i64 v8,.int .i64 v9,.int .i64 v10,.int .i64 v11,.int .i64 v12,.int .i64 v13,.int .i64 v14,.int .i64 v15,.int .i64 v16,.int .i64 v17,.int .i64 v18,.int .i64 v19,.int .i64 v20,.sl 128000000,.int .i64 v21,.int .i64 v22,.int .i64 v23,.int .i64 v24,.int .i64 v25,.int .i64 v26,.int .i64 v27,.int .i64 v28,.int .i64 v29,.int .i64 v30,.sl 128000001,.sl 128000002,.sl 128000003,.sl 128000004]),(64000001,.box [.int .i64 v31,.int .i64 v32,.int .i64 v33,.sl 64000003]),(64000002,.row y8 v34),(64000003,.nest y4 v35 .none)]⟩
noncomputable def l0 ( k n:Nat) (v:T0):Option R:=held (loopN cs n b6 (K6 k) (s0 v))
noncomputable def D0 (v:T0):Option R:=lim fun L=>l0 (L 0) (L 1) v
theorem D0_cn (v:T0):Cn late (D0 v) fun L=>l0 (L 0) (L 1) v:=of_lim
noncomputable def d0 (p0:g172.Y) (p1:Y0) (p2:g173.Y):Y0:=fun (v0,v1,v2,v3,v4,v5,v6,v7,v8,v9,v10,v11,v12,v13,v14,v15,v16,v17,v18,v19,v20,v21,v22,v23,v24,v25,v26,v27,v28,v29,v30,v31,v32,v33,v34,v35) =>
br (decide (v31 < v13)) (bnd (p0 (v5,v6,v7,v8,v9,v10,v11,v12,v13,v14,v15,v16,v17,v18,v19,v20,v21,v22,v23,v24,v25,v26,v27,v28,v29,v30,v31,v32,v33,v35,v0,v1,v2,v3,v4)) fun r=>br (!r.2.2.2.2.2.2.1) (p1 (r.2.2.2.2.2.2.2.1,r.2.2.2.2.2.2.2.2.1,r.2.2.2.2.2.2.2.2.2.1,r.2.2.2.2.2.2.2.2.2.2.1,r.2.2.2.2.2.2.2.2.2.2.2,v5,v6,v7,v8,v9,v10,v11,v12,v13,v14,v15,v16,v17,v18,v19,v20,v21,v22,v23,v24,v25,v26,v27,v28,v29,v30,wrap .i64 (v31 + 1),v32,v33,v34,v35)) (bnd (p2 (v5,v6,v7,v8,v9,v10,v11,v12,v13,v14,v15,v16,v17,v18,v19,v20,r.2.2.2.2.2.2.2.1,v21,v22,v23,v24,v25,v26,v27,v28,v29,v30,r.2.2.2.2.2.2.2.2.1,r.2.2.2.2.2.2.2.2.2.1,r.2.2.2.2.2.2.2.2.2.2.1,r.2.2.2.2.2.2.2.2.2.2.2,r.1,r.2.1,r.2.2.1,r.2.2.2.1,r.2.2.2.2.1,r.2.2.2.2.2.1,v31,v32,v33,v35)) fun r_1=>br (decide (v34.length + [(r_1.1,r_1.2.1,r_1.2.2.1,r_1.2.2.2.1)].length ≤ 140737488355328 / 32)) (p1 (r.2.2.2.2.2.2.2.1,r.2.2.2.2.2.2.2.2.1,r.2.2.2.2.2.2.2.2.2.1,r.2.2.2.2.2.2.2.2.2.2.1,r.2.2.2.2.2.2.2.2.2.2.2,v5,v6,v7,v8,v9,v10,v11,v12,v13,v14,v15,v16,v17,v18,v19,v20,v21,v22,v23,v24,v25,v26,v27,v28,v29,v30,r_1.2.2.2.2.1,r_1.2.2.2.2.2.1,r_1.2.2.2.2.2.2.1,v34 ++ [(r_1.1,r_1.2.1,r_1.2.2.1,r_1.2.2.2.1)],r_1.2.2.2.2.2.2.2)) none)) (some (0,v0,v1,v2,v3,v4,v34))
theorem d0_cn (k0:Pr E g172.A g172.R) (k1:Pr E T0 R) (k2:Pr E g173.A g173.R):∀ v:T0,Cn E (d0 k0.p k1.p k2.p v) fun i=>d0 (k0.q i) (k1.q i) (k2.q i) v:=fun (v0,v1,v2,v3,v4,v5,v6,v7,v8,v9,v10,v11,v12,v13,v14,v15,v16,v17,v18,v19,v20,v21,v22,v23,v24,v25,v26,v27,v28,v29,v30,v31,v32,v33,v34,v35)=>(.br (.bnd (k0.h _) fun _=>(.br (k1.h _) (.bnd (k2.h _) fun _=>(.br (k1.h _) .none)))) .some)
theorem l0_b ( k m1:Nat):∀ v:T0,run (cs m1) (loopN cs m1) b6 (kLoop cs m1 b6 (K6 k)) (s0 v) = d0 (g172.f m1) (l0 k m1) (g173.f m1) v:=fun (v0,v1,v2,v3,v4,v5,v6,v7,v8,v9,v10,v11,v12,v13,v14,v15,v16,v17,v18,v19,v20,v21,v22,v23,v24,v25,v26,v27,v28,v29,v30,v31,v32,v33,v34,v35)=>by kernel_rfl
theorem D0_of (v:T0) {r:R} (h:d0 g172.F D0 g173.F v = some r):D0 v = some r:=loop_of 1 (fun L n hn=>by show l0 (L 0) (L 1) v = _; rw [hn]; exact (held_eq _).trans ((loopN_succ _ _ _ _ _).trans (l0_b (L 0) n v))) (d0_cn (lp g172.f 1) (.mk fun v=>(D0_cn v).re [0,1]) (lp g173.f 1) v) h
noncomputable def f (k:Nat):Y:=fun v=>held (runFn cs k Tryz.f56 (sh.args v) (sh.slots v) dec)
noncomputable def F:Y:=lm f
def d (p0:g148.Y) (p1:g149.Y) (p2:Y0):Y:=fun (v0,v1,v2,v3,v4,v5,v6,v7,v8,v9,v10,v11,v12,v13,v14,v15,v16,v17,v18,v19,v20,v21,v22,v23,v24,v25,v26,v27,v28,v29,v30,v31,v32,v33,v34) =>
bnd (p0 (v0,v1,v2,v3,v4,v5,v6,v7,v8,v9,v10,v11,v12,v13,v14,v15,v30,v16,v17,v18,v19,v20,v21,v22,v23,v24,v25,v31,v32,v33,v34,v26,v27,v28,v29)) fun r=>br (!decide (r = 0)) (some (r,v30,v31,v32,v33,v34,[])) (bnd (p1 (v26,v27,v28,v29)) fun r=>p2 (v30,v31,v32,v33,v34,v0,v1,v2,v3,v4,v5,v6,v7,v8,v9,v10,v11,v12,v13,v14,v15,v16,v17,v18,v19,v20,v21,v22,v23,v24,v25,r.1,r.2.1,r.2.2.1,[],r.2.2.2))
theorem d_cn (k0:Pr E g148.A g148.R) (k1:Pr E g149.A g149.R) (k2:Pr E T0 R):∀ v:A,Cn E (d k0.p k1.p k2.p v) fun i=>d (k0.q i) (k1.q i) (k2.q i) v:=fun (v0,v1,v2,v3,v4,v5,v6,v7,v8,v9,v10,v11,v12,v13,v14,v15,v16,v17,v18,v19,v20,v21,v22,v23,v24,v25,v26,v27,v28,v29,v30,v31,v32,v33,v34)=>(.bnd (k0.h _) fun _=>(.br .some (.bnd (k1.h _) fun _=>(k2.h _))))
theorem f_b (k:Nat):∀ v:A,f k v = d (g148.f k) (g149.f k) (l0 k k) v:=fun (v0,v1,v2,v3,v4,v5,v6,v7,v8,v9,v10,v11,v12,v13,v14,v15,v16,v17,v18,v19,v20,v21,v22,v23,v24,v25,v26,v27,v28,v29,v30,v31,v32,v33,v34)=>(held_eq _).trans (by kernel_rfl)
theorem F_of (v:A) {r:R} (h:d g148.F g149.F D0 v = some r):F v = some r:=join_of (fun L=>f_b (L 0) v) (d_cn (lp g148.f 0) (lp g149.f 0) (.mk fun v=>(D0_cn v).re [0,0]) v) h
noncomputable def spec (k:Nat):List AV→List Slot→Option Ans:=specS sh os (f k)
theorem spec_ok (k:Nat):SpecOk Tryz.prog 56 (spec k):=specS_ok cs_ok Tryz.func56 rfl rfl (fun _ _=>held_eq _) k
end g174
noncomputable def tg174:=tg173.cons 56 g174.spec g174.spec_ok
namespace g175 -- plan_From
abbrev R:Type:=Int × List (Int × Int × Int × Int)
abbrev A:Type:=Int × Int × Int × Int × Int × Int × Int × Int × Int × Int × Int × Int × Int × Int × Int × Int × List Int × Int × Int × Int × Int × Int × Int × Int × Int × Int × Int × List (ByteArray × Int) × List (Int × Int × (Int × Int × Int) × Int × Int × Int × Int × Int × Int × Int × Int) × Int × Int × Int × List (List Int)
abbrev Y:=A→Option R
def lv:List (Nat × List Nat):=[(2000000,[8,9])]
noncomputable def cs:Nat→Ctx:=ctxOf tis modes tg174.1 lv
theorem cs_ok (n:Nat):CtxOk Tryz.prog (cs n):=ctxOf_ok rfl tis_ok tg174.2 n
def sh:AS:=⟨[.agg [.int .i64,.int .i64,.int .i64,.int .i64,.int .i64,.int .i64,.int .i64,.int .i64,.int .i64,.int .i64,.int .i64,.int .i64,.int .i64,.int .i64,.int .i64,.int .i64,.frz (.int .i64)],.agg [.int .i64,.int .i64,.int .i64,.int .i64,.int .i64,.int .i64,.int .i64,.int .i64,.int .i64,.int .i64],.agg [.frz y19,.frz y27],.agg [.int .i64,.int .i64,.int .i64,.frz y4]],[]⟩
def os:OS:=⟨.tup [.c (.sl 128000000),.c (.int .i64)],[(.row y8)]⟩
def enc (r:R):Out:=os.enc r
def dec:Out→Option R:=os.dec
noncomputable def b0:Code:=subF [] Tryz.f26
noncomputable def K0 (k:Nat):Kt R:=kTop (cs k) Tryz.f26 dec
noncomputable def f (k:Nat):Y:=fun v=>held (runFn cs k Tryz.f26 (sh.args v) (sh.slots v) dec)
noncomputable def F:Y:=lm f
noncomputable def d (p0:g146.Y) (p1:g174.Y):Y:=fun (v0,v1,v2,v3,v4,v5,v6,v7,v8,v9,v10,v11,v12,v13,v14,v15,v16,v17,v18,v19,v20,v21,v22,v23,v24,v25,v26,v27,v28,v29,v30,v31,v32) =>
bnd (p0 (v0,v1,v2,v3,v4,v5,v6,v7,v8,v9,v10,v11,v12,v13,v14,v15,v16,v17,v18,v19,v20,v21,v22,v23,v24,v25,v26,v27,v28)) fun r=>br (!decide (r.2.2.2.2.2.2.2.2.2.2.2.2.2.2.2.2.2.2.2.2.2.2.2.2.2.2.1 = 0)) (some (r.2.2.2.2.2.2.2.2.2.2.2.2.2.2.2.2.2.2.2.2.2.2.2.2.2.2.1,[])) (bnd (p1 (r.1,r.2.1,r.2.2.1,r.2.2.2.1,r.2.2.2.2.1,r.2.2.2.2.2.1,r.2.2.2.2.2.2.1,r.2.2.2.2.2.2.2.1,r.2.2.2.2.2.2.2.2.1,r.2.2.2.2.2.2.2.2.2.1,r.2.2.2.2.2.2.2.2.2.2.1,r.2.2.2.2.2.2.2.2.2.2.2.1,r.2.2.2.2.2.2.2.2.2.2.2.2.1,r.2.2.2.2.2.2.2.2.2.2.2.2.2.1,r.2.2.2.2.2.2.2.2.2.2.2.2.2.2.1,r.2.2.2.2.2.2.2.2.2.2.2.2.2.2.2.1,r.2.2.2.2.2.2.2.2.2.2.2.2.2.2.2.2.1,r.2.2.2.2.2.2.2.2.2.2.2.2.2.2.2.2.2.1,r.2.2.2.2.2.2.2.2.2.2.2.2.2.2.2.2.2.2.1,r.2.2.2.2.2.2.2.2.2.2.2.2.2.2.2.2.2.2.2.1,r.2.2.2.2.2.2.2.2.2.2.2.2.2.2.2.2.2.2.2.2.1,r.2.2.2.2.2.2.2.2.2.2.2.2.2.2.2.2.2.2.2.2.2.1,r.2.2.2.2.2.2.2.2.2.2.2.2.2.2.2.2.2.2.2.2.2.2.1,r.2.2.2.2.2.2.2.2.2.2.2.2.2.2.2.2.2.2.2.2.2.2.2.1,r.2.2.2.2.2.2.2.2.2.2.2.2.2.2.2.2.2.2.2.2.2.2.2.2.1,r.2.2.2.2.2.2.2.2.2.2.2.2.2.2.2.2.2.2.2.2.2.2.2.2.2.1,v29,v30,v31,v32,r.2.2.2.2.2.2.2.2.2.2.2.2.2.2.2.2.2.2.2.2.2.2.2.2.2.2.2.1,r.2.2.2.2.2.2.2.2.2.2.2.2.2.2.2.2.2.2.2.2.2.2.2.2.2.2.2.2.1,r.2.2.2.2.2.2.2.2.2.2.2.2.2.2.2.2.2.2.2.2.2.2.2.2.2.2.2.2.2.1,r.2.2.2.2.2.2.2.2.2.2.2.2.2.2.2.2.2.2.2.2.2.2.2.2.2.2.2.2.2.2.1,r.2.2.2.2.2.2.2.2.2.2.2.2.2.2.2.2.2.2.2.2.2.2.2.2.2.2.2.2.2.2.2)) fun r=>some (r.1,r.2.2.2.2.2.2))
theorem d_cn (k0:Pr E g146.A g146.R) (k1:Pr E g174.A g174.R):∀ v:A,Cn E (d k0.p k1.p v) fun i=>d (k0.q i) (k1.q i) v:=fun (v0,v1,v2,v3,v4,v5,v6,v7,v8,v9,v10,v11,v12,v13,v14,v15,v16,v17,v18,v19,v20,v21,v22,v23,v24,v25,v26,v27,v28,v29,v30,v31,v32)=>(.bnd (k0.h _) fun _=>(.br .some (.bnd (k1.h _) fun _=>.some)))
theorem f_b (k:Nat):∀ v:A,f k v = d (g146.f k) (g174.f k) v:=fun (v0,v1,v2,v3,v4,v5,v6,v7,v8,v9,v10,v11,v12,v13,v14,v15,v16,v17,v18,v19,v20,v21,v22,v23,v24,v25,v26,v27,v28,v29,v30,v31,v32)=>(held_eq _).trans (by kernel_rfl)
theorem F_of (v:A) {r:R} (h:d g146.F g174.F v = some r):F v = some r:=join_of (fun L=>f_b (L 0) v) (d_cn (lp g146.f 0) (lp g174.f 0) v) h
noncomputable def spec (k:Nat):List AV→List Slot→Option Ans:=specS sh os (f k)
theorem spec_ok (k:Nat):SpecOk Tryz.prog 26 (spec k):=specS_ok cs_ok Tryz.func26 rfl rfl (fun _ _=>held_eq _) k
end g175
noncomputable def tg175:=tg174.cons 26 g175.spec g175.spec_ok
namespace g176 -- plan_Make
abbrev R:Type:=Int × List (Int × Int × Int × Int)
abbrev A:Type:=Int × Int × Int × Int × Int × Int × Int × Int × Int × Int × Int × Int × Int × Int × Int × Int × List Int × Int × Int × Int × Int × Int × Int × Int × Int × Int × Int × List (ByteArray × Int) × List (Int × Int × (Int × Int × Int) × Int × Int × Int × Int × Int × Int × Int × Int)
abbrev Y:=A→Option R
def lv:List (Nat × List Nat):=[(2000000,[6,7])]
noncomputable def cs:Nat→Ctx:=ctxOf tis modes tg175.1 lv
theorem cs_ok (n:Nat):CtxOk Tryz.prog (cs n):=ctxOf_ok rfl tis_ok tg175.2 n
def sh:AS:=⟨[.agg [.int .i64,.int .i64,.int .i64,.int .i64,.int .i64,.int .i64,.int .i64,.int .i64,.int .i64,.int .i64,.int .i64,.int .i64,.int .i64,.int .i64,.int .i64,.int .i64,.frz (.int .i64)],.agg [.int .i64,.int .i64,.int .i64,.int .i64,.int .i64,.int .i64,.int .i64,.int .i64,.int .i64,.int .i64],.agg [.frz y19,.frz y27]],[]⟩
def os:OS:=⟨.tup [.c (.sl 128000000),.c (.int .i64)],[(.row y8)]⟩
def enc (r:R):Out:=os.enc r
def dec:Out→Option R:=os.dec
noncomputable def b0:Code:=subF [] Tryz.f18
noncomputable def K0 (k:Nat):Kt R:=kTop (cs k) Tryz.f18 dec
noncomputable def f (k:Nat):Y:=fun v=>held (runFn cs k Tryz.f18 (sh.args v) (sh.slots v) dec)
noncomputable def F:Y:=lm f
def d (p0:g11.Y) (p1:g175.Y):Y:=fun (v0,v1,v2,v3,v4,v5,v6,v7,v8,v9,v10,v11,v12,v13,v14,v15,v16,v17,v18,v19,v20,v21,v22,v23,v24,v25,v26,v27,v28) =>
bnd (p0 (v17,v18,v19,v20,v21,v22,v23,v24,v25,v26,v27,v28)) fun r=>bnd (p1 (v0,v1,v2,v3,v4,v5,v6,v7,v8,v9,v10,v11,v12,v13,v14,v15,v16,v17,v18,v19,v20,v21,v22,v23,v24,v25,v26,v27,v28,r.1,r.2.1,r.2.2.1,r.2.2.2)) fun r=>some (r.1,r.2)
theorem d_cn (k0:Pr E g11.A g11.R) (k1:Pr E g175.A g175.R):∀ v:A,Cn E (d k0.p k1.p v) fun i=>d (k0.q i) (k1.q i) v:=fun (v0,v1,v2,v3,v4,v5,v6,v7,v8,v9,v10,v11,v12,v13,v14,v15,v16,v17,v18,v19,v20,v21,v22,v23,v24,v25,v26,v27,v28)=>(.bnd (k0.h _) fun _=>(.bnd (k1.h _) fun _=>.some))
theorem f_b (k:Nat):∀ v:A,f k v = d (g11.f k) (g175.f k) v:=fun (v0,v1,v2,v3,v4,v5,v6,v7,v8,v9,v10,v11,v12,v13,v14,v15,v16,v17,v18,v19,v20,v21,v22,v23,v24,v25,v26,v27,v28)=>(held_eq _).trans (by kernel_rfl)
theorem F_of (v:A) {r:R} (h:d g11.F g175.F v = some r):F v = some r:=join_of (fun L=>f_b (L 0) v) (d_cn (lp g11.f 0) (lp g175.f 0) v) h
noncomputable def spec (k:Nat):List AV→List Slot→Option Ans:=specS sh os (f k)
theorem spec_ok (k:Nat):SpecOk Tryz.prog 18 (spec k):=specS_ok cs_ok Tryz.func18 rfl rfl (fun _ _=>held_eq _) k
end g176
noncomputable def tg176:=tg175.cons 18 g176.spec g176.spec_ok
namespace g177 -- spykeep2_plans
abbrev R:Type:=Bool
abbrev A:Type:=Unit
abbrev Y:=A→Option R
def lv:List (Nat × List Nat):=[(2000000,[0])]
noncomputable def cs:Nat→Ctx:=ctxOf tis modes tg176.1 lv
theorem cs_ok (n:Nat):CtxOk Tryz.prog (cs n):=ctxOf_ok rfl tis_ok tg176.2 n
def sh:AS:=⟨[],[]⟩
def os:OS:=⟨.c .bool,[]⟩
def enc (r:R):Out:=os.enc r
def dec:Out→Option R:=os.dec
noncomputable def b0:Code:=subF [] Tryz.f14
noncomputable def K0 (k:Nat):Kt R:=kTop (cs k) Tryz.f14 dec
noncomputable def f (k:Nat):Y:=fun v=>held (runFn cs k Tryz.f14 (sh.args v) (sh.slots v) dec)
noncomputable def F:Y:=lm f
def d (p0:g176.Y):Y:=fun _ =>
bnd (p0 (536870912,0,0,0,50,1,0,600000,2,1,0,-40,1,0,-40,0,[0,0],-8589934592,8589934592,1073741824,1073741824,-8589934592,8589934592,1073741824,1073741824,0,0,[(bs1,1)],[(4,0,(1,0,40),1,1,0,0,0,1073741824,0,1)])) fun r=>br (!(decide (r.1 = 0) && decide ((↑r.2.length:Int) = 1)) == true || decide ((0:Int) ≤ 0 ∧ 0 < (↑r.2.length:Int))) (br (!(decide (r.1 = 0) && decide ((↑r.2.length:Int) = 1) && decide ((rd ty2 r.2 0).1 = 4)) == true || decide ((0:Int) ≤ 0 ∧ 0 < (↑r.2.length:Int))) (some (decide (r.1 = 0) && decide ((↑r.2.length:Int) = 1) && decide ((rd ty2 r.2 0).1 = 4) && decide ((rd ty2 r.2 0).2.2.2 = 1))) none) none
theorem d_cn (k0:Pr E g176.A g176.R):∀ v:A,Cn E (d k0.p v) fun i=>d (k0.q i) v:=fun _=>(.bnd (k0.h _) fun _=>(.br (.br .some .none) .none))
theorem f_b (k:Nat):∀ v:A,f k v = d (g176.f k) v:=fun _=>(held_eq _).trans (by kernel_rfl)
theorem F_of (v:A) {r:R} (h:d g176.F v = some r):F v = some r:=join_of (fun L=>f_b (L 0) v) (d_cn (lp g176.f 0) v) h
noncomputable def spec (k:Nat):List AV→List Slot→Option Ans:=specS sh os (f k)
theorem spec_ok (k:Nat):SpecOk Tryz.prog 14 (spec k):=specS_ok cs_ok Tryz.func14 rfl rfl (fun _ _=>held_eq _) k
end g177
noncomputable def tg177:=tg176.cons 14 g177.spec g177.spec_ok
namespace g178 -- spykeep2_made_plan
abbrev R:Type:=Bool × Int × Int × Int × Int × Int × Int × Int × Int × Int × Int × Int × Int × Int × Int × Int × Int × Int × Int × Int × Int × Int × Int × Int × Int × Int × Int × List Int × Int × List Int × List (ByteArray × Int) × List (Int × Int × (Int × Int × Int) × Int × Int × Int × Int × Int × Int × Int × Int) × List (Int × Int × Int × Int) × List Int × List (ByteArray × Int) × List (Int × Int × (Int × Int × Int) × Int × Int × Int × Int × Int × Int × Int × Int) × List (Int × Int × Int × Int)
abbrev A:Type:=Int × Int × Int × Int × Int × Int × Int × Int × Int × Int × Int × Int × Int × Int × Int × Int × Int × Int × Int × Int × Int × Int × Int × Int × Int × Int × Int × Int × List Int × Int × List Int × List (ByteArray × Int) × List (Int × Int × (Int × Int × Int) × Int × Int × Int × Int × Int × Int × Int × Int) × List (Int × Int × Int × Int)
abbrev Y:=A→Option R
def lv:List (Nat × List Nat):=[(2000000,[8])]
noncomputable def cs:Nat→Ctx:=ctxOf tis modes tg177.1 lv
theorem cs_ok (n:Nat):CtxOk Tryz.prog (cs n):=ctxOf_ok rfl tis_ok tg177.2 n
noncomputable def sh:AS:=⟨[.c (.ptr 128000000 0),.c (.ptr 128000001 0),.c (.int .i64),.c (.int .i64)],[.box [.int .i64,.int .i64,.int .i64,.int .i64,.int .i64,.int .i64,.int .i64,.int .i64,.int .i64,.int .i64,.int .i64,.int .i64,.int .i64,.int .i64,.int .i64,.int .i64,.sl 128000002,.int .i64,.int .i64,.int .i64,.int .i64,.int .i64,.int .i64,.int .i64,.int .i64,.int .i64,.int .i64,.sl 128000003,.sl 128000004,.sl 128000005],.box [.frz (.int .i64),.int .i64],.row (.int .i64),.row y19,.row y27,.row y8]⟩
def os:OS:=⟨.c .bool,[.box [.int .i64,.int .i64,.int .i64,.int .i64,.int .i64,.int .i64,.int .i64,.int .i64,.int .i64,.int .i64,.int .i64,.int .i64,.int .i64,.int .i64,.int .i64,.int .i64,.sl 128000006,.int .i64,.int .i64,.int .i64,.int .i64,.int .i64,.int .i64,.int .i64,.int .i64,.int .i64,.int .i64,.sl 128000007,.sl 128000008,.sl 128000009],.box [.frz (.int .i64),.int .i64],.row (.int .i64),.row y19,.row y27,.row y8,.row (.int .i64),.row y19,.row y27,.row y8]⟩
def enc (r:R):Out:=os.enc r
def dec:Out→Option R:=os.dec
noncomputable def b0:Code:=subF [] Tryz.f19
noncomputable def K0 (k:Nat):Kt R:=kTop (cs k) Tryz.f19 dec
noncomputable def f (k:Nat):Y:=fun v=>held (runFn cs k Tryz.f19 (sh.args v) (sh.slots v) dec)
noncomputable def F:Y:=lm f
noncomputable def d (p0:g4.Y) (p1:g7.Y) (p2:g10.Y) (p3:g176.Y) (p4:g177.Y):Y:=fun (v0,v1,v2,v3,v4,v5,v6,v7,v8,v9,v10,v11,v12,v13,v14,v15,v16,v17,v18,v19,v20,v21,v22,v23,v24,v25,v26,v27,v28,v29,v30,v31,v32,v33) =>
bnd (p0 (v0,v28,v29)) fun r=>bnd (p1 (r.2.2.2.2.2.2.2.2.2.2.2.2.2.2.2.2.1,r.2.2.2.2.2.2.2.2.2.2.2.2.2.2.2.2.2.1)) fun r_1=>bnd (p2 (r.1,r.2.1,r.2.2.1,r.2.2.2.1,r.2.2.2.2.1,r.2.2.2.2.2.1,r.2.2.2.2.2.2.1,r.2.2.2.2.2.2.2.1,r.2.2.2.2.2.2.2.2.1,r.2.2.2.2.2.2.2.2.2.1,r.2.2.2.2.2.2.2.2.2.2.1,r.2.2.2.2.2.2.2.2.2.2.2.1,r.2.2.2.2.2.2.2.2.2.2.2.2.1,r.2.2.2.2.2.2.2.2.2.2.2.2.2.1,r.2.2.2.2.2.2.2.2.2.2.2.2.2.2.1,r.2.2.2.2.2.2.2.2.2.2.2.2.2.2.2.1,v1,r_1.2.2.2.2.2.2.2.2.2.2.1,r_1.2.2.2.2.2.2.2.2.2.2.2)) fun r_2=>bnd (p3 (r.1,r.2.1,r.2.2.1,r.2.2.2.1,r.2.2.2.2.1,r.2.2.2.2.2.1,r.2.2.2.2.2.2.1,r.2.2.2.2.2.2.2.1,r.2.2.2.2.2.2.2.2.1,r.2.2.2.2.2.2.2.2.2.1,r.2.2.2.2.2.2.2.2.2.2.1,r.2.2.2.2.2.2.2.2.2.2.2.1,r.2.2.2.2.2.2.2.2.2.2.2.2.1,r.2.2.2.2.2.2.2.2.2.2.2.2.2.1,r.2.2.2.2.2.2.2.2.2.2.2.2.2.2.1,r.2.2.2.2.2.2.2.2.2.2.2.2.2.2.2.1,r.2.2.2.2.2.2.2.2.2.2.2.2.2.2.2.2.2.2,r_1.1,r_1.2.1,r_1.2.2.1,r_1.2.2.2.1,r_1.2.2.2.2.1,r_1.2.2.2.2.2.1,r_1.2.2.2.2.2.2.1,r_1.2.2.2.2.2.2.2.1,r_1.2.2.2.2.2.2.2.2.1,r_1.2.2.2.2.2.2.2.2.2.1,r_2.2.2.1,r_2.2.2.2)) fun r_3=>bnd (p4 ()) fun r_4=>some (r_4 && decide (r_3.1 = 0),r.1,r.2.1,r.2.2.1,r.2.2.2.1,r.2.2.2.2.1,r.2.2.2.2.2.1,r.2.2.2.2.2.2.1,r.2.2.2.2.2.2.2.1,r.2.2.2.2.2.2.2.2.1,r.2.2.2.2.2.2.2.2.2.1,r.2.2.2.2.2.2.2.2.2.2.1,r.2.2.2.2.2.2.2.2.2.2.2.1,r.2.2.2.2.2.2.2.2.2.2.2.2.1,r.2.2.2.2.2.2.2.2.2.2.2.2.2.1,r.2.2.2.2.2.2.2.2.2.2.2.2.2.2.1,r.2.2.2.2.2.2.2.2.2.2.2.2.2.2.2.1,r_1.1,r_1.2.1,r_1.2.2.1,r_1.2.2.2.1,r_1.2.2.2.2.1,r_1.2.2.2.2.2.1,r_1.2.2.2.2.2.2.1,r_1.2.2.2.2.2.2.2.1,r_1.2.2.2.2.2.2.2.2.1,r_1.2.2.2.2.2.2.2.2.2.1,r_2.1,r_2.2.1,v30,v31,v32,v33,r.2.2.2.2.2.2.2.2.2.2.2.2.2.2.2.2.2.2,r_2.2.2.1,r_2.2.2.2,r_3.2)
theorem d_cn (k0:Pr E g4.A g4.R) (k1:Pr E g7.A g7.R) (k2:Pr E g10.A g10.R) (k3:Pr E g176.A g176.R) (k4:Pr E g177.A g177.R):∀ v:A,Cn E (d k0.p k1.p k2.p k3.p k4.p v) fun i=>d (k0.q i) (k1.q i) (k2.q i) (k3.q i) (k4.q i) v:=fun (v0,v1,v2,v3,v4,v5,v6,v7,v8,v9,v10,v11,v12,v13,v14,v15,v16,v17,v18,v19,v20,v21,v22,v23,v24,v25,v26,v27,v28,v29,v30,v31,v32,v33)=>(.bnd (k0.h _) fun _=>(.bnd (k1.h _) fun _=>(.bnd (k2.h _) fun _=>(.bnd (k3.h _) fun _=>(.bnd (k4.h _) fun _=>.some)))))
theorem f_b (k:Nat):∀ v:A,f k v = d (g4.f k) (g7.f k) (g10.f k) (g176.f k) (g177.f k) v:=fun (v0,v1,v2,v3,v4,v5,v6,v7,v8,v9,v10,v11,v12,v13,v14,v15,v16,v17,v18,v19,v20,v21,v22,v23,v24,v25,v26,v27,v28,v29,v30,v31,v32,v33)=>(held_eq _).trans (by kernel_rfl)
theorem F_of (v:A) {r:R} (h:d g4.F g7.F g10.F g176.F g177.F v = some r):F v = some r:=join_of (fun L=>f_b (L 0) v) (d_cn (lp g4.f 0) (lp g7.f 0) (lp g10.f 0) (lp g176.f 0) (lp g177.f 0) v) h
noncomputable def spec (k:Nat):List AV→List Slot→Option Ans:=specS sh os (f k)
theorem spec_ok (k:Nat):SpecOk Tryz.prog 19 (spec k):=specS_ok cs_ok Tryz.func19 rfl rfl (fun _ _=>held_eq _) k
end g178
noncomputable def tg178:=tg177.cons 19 g178.spec g178.spec_ok
namespace g179 -- prop_Find
abbrev R:Type:=Int × Int × Int × Int × Int × Int × Int × Int × Int × Int × Int × Int × Int × Bool
abbrev A:Type:=List (ByteArray × Int) × List (Int × Int × (Int × Int × Int) × Int × Int × Int × Int × Int × Int × Int × Int) × Int
abbrev Y:=A→Option R
def lv:List (Nat × List Nat):=[(2000000,[4,5]),(2,[1,4,9,10,11])]
noncomputable def cs:Nat→Ctx:=ctxOf tis modes tg178.1 lv
theorem cs_ok (n:Nat):CtxOk Tryz.prog (cs n):=ctxOf_ok rfl tis_ok tg178.2 n
def sh:AS:=⟨[.agg [.frz y19,.frz y27],.c (.int .i64)],[]⟩
def os:OS:=⟨.tup [.agg [.int .i64,.int .i64,.int .i64,.int .i64,.int .i64,.int .i64,.int .i64,.int .i64,.int .i64,.int .i64,.int .i64,.int .i64,.int .i64],.c .bool],[]⟩
def enc (r:R):Out:=os.enc r
def dec:Out→Option R:=os.dec
noncomputable def b0:Code:=subF [] Tryz.f22
noncomputable def K0 (k:Nat):Kt R:=kTop (cs k) Tryz.f22 dec
noncomputable def b2:Code:=sub [1,0,1,0,0] b0
noncomputable def K2 ( k:Nat):Kt R:=kAt (cs k) (loopN cs k) [1,0,1,0] b0 (K0 k)
abbrev T0:Type:=Int × List (Int × Int × (Int × Int × Int) × Int × Int × Int × Int × Int × Int × Int × Int) × Int × Int × Int × Int × Int × Int × Int × Int × Int × Int × Int × Int × Int × Int × Int
abbrev Y0:=T0→Option R
def s0:T0→St:=fun (v0,v1,v2,v3,v4,v5,v6,v7,v8,v9,v10,v11,v12,v13,v14,v15,v16)=>⟨22,0,[(1,.c (.int .i64 v0)),(4,.c (.ptr 64000000 0)),(9,.c (.frz y27 v1)),(10,.c (.int .i64 v2)),(11,.c (.int .i64 v3))],[],[(256000000,.gone),(64000000,.box [.int .i64 v4,.int .i64 v5,.int .i64 v6,.int .i64 v7,.int .i64 v8,.int .i64 v9,.int .i64 v10,.int .i64 v11,.int .i64 v12,.int .i64 v13,.int .i64 v14,.int .i64 v15,.int .i64 v16])]⟩
noncomputable def l0 ( k n:Nat) (v:T0):Option R:=held (loopN cs n b2 (K2 k) (s0 v))
noncomputable def D0 (v:T0):Option R:=lim fun L=>l0 (L 0) (L 1) v
theorem D0_cn (v:T0):Cn late (D0 v) fun L=>l0 (L 0) (L 1) v:=of_lim
noncomputable def d0 (p0:Y0):Y0:=fun (v0,v1,v2,v3,v4,v5,v6,v7,v8,v9,v10,v11,v12,v13,v14,v15,v16) =>
br (decide (v3 < v2)) (br (decide (0 ≤ v3 ∧ v3 < (↑v1.length:Int))) (br (decide ((rd ty0 v1 v3).1 = v0)) (some ((rd ty0 v1 v3).1,(rd ty0 v1 v3).2.1,(rd ty0 v1 v3).2.2.1.1,(rd ty0 v1 v3).2.2.1.2.1,(rd ty0 v1 v3).2.2.1.2.2,(rd ty0 v1 v3).2.2.2.1,(rd ty0 v1 v3).2.2.2.2.1,(rd ty0 v1 v3).2.2.2.2.2.1,(rd ty0 v1 v3).2.2.2.2.2.2.1,(rd ty0 v1 v3).2.2.2.2.2.2.2.1,(rd ty0 v1 v3).2.2.2.2.2.2.2.2.1,(rd ty0 v1 v3).2.2.2.2.2.2.2.2.2.1,(rd ty0 v1 v3).2.2.2.2.2.2.2.2.2.2,true)) (p0 (v0,v1,v2,wrap .i64 (v3 + 1),v4,v5,v6,v7,v8,v9,v10,v11,v12,v13,v14,v15,v16))) none) (some (0,0,0,0,0,0,0,0,0,0,0,0,0,false))
theorem d0_cn (k0:Pr E T0 R):∀ v:T0,Cn E (d0 k0.p v) fun i=>d0 (k0.q i) v:=fun (v0,v1,v2,v3,v4,v5,v6,v7,v8,v9,v10,v11,v12,v13,v14,v15,v16)=>(.br (.br (.br .some (k0.h _)) .none) .some)
theorem l0_b ( k m1:Nat):∀ v:T0,run (cs m1) (loopN cs m1) b2 (kLoop cs m1 b2 (K2 k)) (s0 v) = d0 (l0 k m1) v:=fun (v0,v1,v2,v3,v4,v5,v6,v7,v8,v9,v10,v11,v12,v13,v14,v15,v16)=>by kernel_rfl
theorem D0_of (v:T0) {r:R} (h:d0 D0 v = some r):D0 v = some r:=loop_of 1 (fun L n hn=>by show l0 (L 0) (L 1) v = _; rw [hn]; exact (held_eq _).trans ((loopN_succ _ _ _ _ _).trans (l0_b (L 0) n v))) (d0_cn (.mk fun v=>(D0_cn v).re [0,1]) v) h
noncomputable def f (k:Nat):Y:=fun v=>held (runFn cs k Tryz.f22 (sh.args v) (sh.slots v) dec)
noncomputable def F:Y:=lm f
def d (p0:Y0):Y:=fun (v0,v1,v2) =>
p0 (v2,v1,(↑v1.length:Int),0,0,0,0,0,0,0,0,0,0,0,0,0,0)
theorem d_cn (k0:Pr E T0 R):∀ v:A,Cn E (d k0.p v) fun i=>d (k0.q i) v:=fun (v0,v1,v2)=>(k0.h _)
theorem f_b (k:Nat):∀ v:A,f k v = d (l0 k k) v:=fun (v0,v1,v2)=>(held_eq _).trans (by kernel_rfl)
theorem F_of (v:A) {r:R} (h:d D0 v = some r):F v = some r:=join_of (fun L=>f_b (L 0) v) (d_cn (.mk fun v=>(D0_cn v).re [0,0]) v) h
noncomputable def spec (k:Nat):List AV→List Slot→Option Ans:=specS sh os (f k)
theorem spec_ok (k:Nat):SpecOk Tryz.prog 22 (spec k):=specS_ok cs_ok Tryz.func22 rfl rfl (fun _ _=>held_eq _) k
end g179
noncomputable def tg179:=tg178.cons 22 g179.spec g179.spec_ok
namespace g180 -- window_Fits
abbrev R:Type:=Bool × Int
abbrev A:Type:=Int × Int × Int × Int × Int × Int × Int × Int × Int × Int × Int × Int × Int × Int × Int × Int × List Int × Int × Int × Int × Int × Int × Int × Int × Int × Int × Int × Int × Int × Int × Int
abbrev Y:=A→Option R
def lv:List (Nat × List Nat):=[(2000000,[6,7]),(7,[2,3,4,9])]
noncomputable def cs:Nat→Ctx:=ctxOf tis modes tg179.1 lv
theorem cs_ok (n:Nat):CtxOk Tryz.prog (cs n):=ctxOf_ok rfl tis_ok tg179.2 n
def sh:AS:=⟨[.agg [.int .i64,.int .i64,.int .i64,.int .i64,.int .i64,.int .i64,.int .i64,.int .i64,.int .i64,.int .i64,.int .i64,.int .i64,.int .i64,.int .i64,.int .i64,.int .i64,.frz (.int .i64)],.agg [.int .i64,.int .i64,.int .i64,.int .i64,.int .i64,.int .i64,.int .i64,.int .i64,.int .i64,.int .i64,.int .i64,.int .i64,.int .i64],.c (.int .i64)],[]⟩
def os:OS:=⟨.tup [.c .bool,.c (.int .i64)],[]⟩
def enc (r:R):Out:=os.enc r
def dec:Out→Option R:=os.dec
noncomputable def b0:Code:=subF [] Tryz.f23
noncomputable def K0 (k:Nat):Kt R:=kTop (cs k) Tryz.f23 dec
noncomputable def b7:Code:=sub [1,1,1,0,1,0,0] b0
noncomputable def K7 ( k:Nat):Kt R:=kAt (cs k) (loopN cs k) [1,1,1,0,1,0] b0 (K0 k)
abbrev T0:Type:=Int × Int × Int × Int × Int × Int × Int × Int × Int × Int × Int × Int × Int × Int × Int × Int × Int × Int × List Int × Int × Int × Int × Int × Int × Int × Int × Int × Int × Int × Int × Int × Int
abbrev Y0:=T0→Option R
noncomputable def s0:T0→St:=fun (v0,v1,v2,v3,v4,v5,v6,v7,v8,v9,v10,v11,v12,v13,v14,v15,v16,v17,v18,v19,v20,v21,v22,v23,v24,v25,v26,v27,v28,v29,v30,v31)=>⟨41,0,[(2,.c (.int .i64 v0)),(3,.c (.ptr 64000000 0)),(4,.c (.ptr 64000001 0)),(9,.c (.int .i64 v1))],[],[(256000000,.gone),(64000000,.box [.int .i64 v2,.int .i64 v3,.int .i64 v4,.int .i64 v5,.int .i64 v6,.int .i64 v7,.int .i64 v8,.int .i64 v9,.int .i64 v10,.int .i64 v11,.int .i64 v12,.int .i64 v13,.int .i64 v14,.int .i64 v15,.int .i64 v16,.int .i64 v17,.frz (.int .i64) v18]),(64000001,.box [.int .i64 v19,.int .i64 v20,.int .i64 v21,.int .i64 v22,.int .i64 v23,.int .i64 v24,.int .i64 v25,.int .i64 v26,.int .i64 v27,.int .i64 v28,.int .i64 v29,.int .i64 v30,.int .i64 v31])]⟩
noncomputable def l0 ( k n:Nat) (v:T0):Option R:=held (loopN cs n b7 (K7 k) (s0 v))
noncomputable def D0 (v:T0):Option R:=lim fun L=>l0 (L 0) (L 1) v
theorem D0_cn (v:T0):Cn late (D0 v) fun L=>l0 (L 0) (L 1) v:=of_lim
def d0 (p0:g134.Y) (p1:Y0):Y0:=fun (v0,v1,v2,v3,v4,v5,v6,v7,v8,v9,v10,v11,v12,v13,v14,v15,v16,v17,v18,v19,v20,v21,v22,v23,v24,v25,v26,v27,v28,v29,v30,v31) =>
br (decide (v1 < wrap .i64 (v0 + v24))) (bnd (p0 (v2,v3,v4,v5,v6,v7,v8,v9,v10,v11,v12,v13,v14,v15,v16,v17,v18,v19,v20,v21,v22,v23,v24,v25,v26,v27,v28,v29,v30,v31,v1)) fun r=>br (!decide (r = 0)) (some (false,0)) (p1 (v0,wrap .i64 (v1 + 1),v2,v3,v4,v5,v6,v7,v8,v9,v10,v11,v12,v13,v14,v15,v16,v17,v18,v19,v20,v21,v22,v23,v24,v25,v26,v27,v28,v29,v30,v31))) (some (true,0))
theorem d0_cn (k0:Pr E g134.A g134.R) (k1:Pr E T0 R):∀ v:T0,Cn E (d0 k0.p k1.p v) fun i=>d0 (k0.q i) (k1.q i) v:=fun (v0,v1,v2,v3,v4,v5,v6,v7,v8,v9,v10,v11,v12,v13,v14,v15,v16,v17,v18,v19,v20,v21,v22,v23,v24,v25,v26,v27,v28,v29,v30,v31)=>(.br (.bnd (k0.h _) fun _=>(.br .some (k1.h _))) .some)
theorem l0_b ( k m1:Nat):∀ v:T0,run (cs m1) (loopN cs m1) b7 (kLoop cs m1 b7 (K7 k)) (s0 v) = d0 (g134.f m1) (l0 k m1) v:=fun (v0,v1,v2,v3,v4,v5,v6,v7,v8,v9,v10,v11,v12,v13,v14,v15,v16,v17,v18,v19,v20,v21,v22,v23,v24,v25,v26,v27,v28,v29,v30,v31)=>by kernel_rfl
theorem D0_of (v:T0) {r:R} (h:d0 g134.F D0 v = some r):D0 v = some r:=loop_of 1 (fun L n hn=>by show l0 (L 0) (L 1) v = _; rw [hn]; exact (held_eq _).trans ((loopN_succ _ _ _ _ _).trans (l0_b (L 0) n v))) (d0_cn (lp g134.f 1) (.mk fun v=>(D0_cn v).re [0,1]) v) h
noncomputable def f (k:Nat):Y:=fun v=>held (runFn cs k Tryz.f23 (sh.args v) (sh.slots v) dec)
noncomputable def F:Y:=lm f
def d (p0:g47.Y) (p1:Y0):Y:=fun (v0,v1,v2,v3,v4,v5,v6,v7,v8,v9,v10,v11,v12,v13,v14,v15,v16,v17,v18,v19,v20,v21,v22,v23,v24,v25,v26,v27,v28,v29,v30) =>
bnd (p0 (v0,v1,v2,v3,v4,v5,v6,v7,v8,v9,v10,v11,v12,v13,v14,v15,v16,v17,v18,v19,v20,v21,v22,v23,v24,v25,v26,v27,v28,v29)) fun r=>br (!decide (r = 0)) (some (false,r)) (br (decide (v30 < 0) || decide (wrap .i64 (v8 - v22) < v30)) (some (false,0)) (p1 (v30,v30,v0,v1,v2,v3,v4,v5,v6,v7,v8,v9,v10,v11,v12,v13,v14,v15,v16,v17,v18,v19,v20,v21,v22,v23,v24,v25,v26,v27,v28,v29)))
theorem d_cn (k0:Pr E g47.A g47.R) (k1:Pr E T0 R):∀ v:A,Cn E (d k0.p k1.p v) fun i=>d (k0.q i) (k1.q i) v:=fun (v0,v1,v2,v3,v4,v5,v6,v7,v8,v9,v10,v11,v12,v13,v14,v15,v16,v17,v18,v19,v20,v21,v22,v23,v24,v25,v26,v27,v28,v29,v30)=>(.bnd (k0.h _) fun _=>(.br .some (.br .some (k1.h _))))
theorem f_b (k:Nat):∀ v:A,f k v = d (g47.f k) (l0 k k) v:=fun (v0,v1,v2,v3,v4,v5,v6,v7,v8,v9,v10,v11,v12,v13,v14,v15,v16,v17,v18,v19,v20,v21,v22,v23,v24,v25,v26,v27,v28,v29,v30)=>(held_eq _).trans (by kernel_rfl)
theorem F_of (v:A) {r:R} (h:d g47.F D0 v = some r):F v = some r:=join_of (fun L=>f_b (L 0) v) (d_cn (lp g47.f 0) (.mk fun v=>(D0_cn v).re [0,0]) v) h
noncomputable def spec (k:Nat):List AV→List Slot→Option Ans:=specS sh os (f k)
theorem spec_ok (k:Nat):SpecOk Tryz.prog 23 (spec k):=specS_ok cs_ok Tryz.func23 rfl rfl (fun _ _=>held_eq _) k
end g180
noncomputable def tg180:=tg179.cons 23 g180.spec g180.spec_ok
namespace g181 -- spykeep2_PlanOpen
abbrev R:Type:=Bool
abbrev A:Type:=List Int
abbrev Y:=A→Option R
def lv:List (Nat × List Nat):=[(2000000,[2]),(6,[3,4,20,21,22])]
noncomputable def cs:Nat→Ctx:=ctxOf tis modes tg180.1 lv
theorem cs_ok (n:Nat):CtxOk Tryz.prog (cs n):=ctxOf_ok rfl tis_ok tg180.2 n
def sh:AS:=⟨[(.c (.frz (.int .i64)))],[]⟩
def os:OS:=⟨.c .bool,[]⟩
def enc (r:R):Out:=os.enc r
def dec:Out→Option R:=os.dec
noncomputable def b0:Code:=subF [] Tryz.f5
noncomputable def K0 (k:Nat):Kt R:=kTop (cs k) Tryz.f5 dec
noncomputable def b6:Code:=sub [1,1,1,1,0,1,0,0] b0
noncomputable def K6 ( k:Nat):Kt R:=kAt (cs k) (loopN cs k) [1,1,1,1,0,1,0] b0 (K0 k)
abbrev T0:Type:=Int × Int × Int × Int × Int × Int × Int × Int × Int × Int × Int × Int × Int × Int × Int × Int × Int × Int × Int × Int × Int × Int × Int × Int × Int × Int × Int × Int × List (Int × Int × Int) × Int × List (Int × Int × Int × Int) × List Int × List (ByteArray × Int) × List (Int × Int × (Int × Int × Int) × Int × Int × Int × Int × Int × Int × Int × Int)
abbrev Y0:=T0→Option R
noncomputable def s0:T0→St:=fun (v0,v1,v2,v3,v4,v5,v6,v7,v8,v9,v10,v11,v12,v13,v14,v15,v16,v17,v18,v19,v20,v21,v22,v23,v24,v25,v26,v27,v28,v29,v30,v31,v32,v33)=>⟨92,0,[(3,.c (.ptr 64000000 0)),(4,.c (.map 64000001)),(20,.c (.sl 64000002)),(21,.c (.int .i64 v0)),(22,.c (.int .i64 v1))],[],[(256000000,.gone),(64000000,.box [.int .i64 v2,.int .i64 v3,.int .i64 v4,.int .i64 v5,.int .i64 v6,.int .i64 v7,.int .i64 v8,.int .i64 v9,.int .i64 v10,.int .i64 v11,.int .i64 v12,.int .i64 v13,.int .i64 v14,.int .i64 v15,.int .i64 v16,.int .i64 v17,.sl 64000003,.int .i64 v18,.int .i64 v19,.int .i64 v20,.int .i64 v21,.int .i64 v22,.int .i64 v23,.int .i64 v24,.int .i64 v25,.int .i64 v26,.int .i64 v27,.sl 64000004,.sl 64000005,.sl 64000002]),(64000001,.mp (.int .i64) (.int .i64) v28 v29),(64000002,.row y8 v30),(64000003,.row (.int .i64) v31),(64000004,.row y19 v32),(64000005,.row y27 v33)]⟩
noncomputable def l0 ( k n:Nat) (v:T0):Option R:=held (loopN cs n b6 (K6 k) (s0 v))
noncomputable def D0 (v:T0):Option R:=lim fun L=>l0 (L 0) (L 1) v
theorem D0_cn (v:T0):Cn late (D0 v) fun L=>l0 (L 0) (L 1) v:=of_lim
noncomputable def d0 (p0:g179.Y) (p1:g180.Y) (p2:Y0):Y0:=fun (v0,v1,v2,v3,v4,v5,v6,v7,v8,v9,v10,v11,v12,v13,v14,v15,v16,v17,v18,v19,v20,v21,v22,v23,v24,v25,v26,v27,v28,v29,v30,v31,v32,v33) =>
br (decide (v1 < v0)) (br (decide (0 ≤ v1 ∧ v1 < (↑v30.length:Int))) (bnd (p0 (v32,v33,(rd ty2 v30 v1).1)) fun r=>bnd (p1 (v2,v3,v4,v5,v6,v7,v8,v9,v10,v11,v12,v13,v14,v15,v16,v17,v31,r.1,r.2.1,r.2.2.1,r.2.2.2.1,r.2.2.2.2.1,r.2.2.2.2.2.1,r.2.2.2.2.2.2.1,r.2.2.2.2.2.2.2.1,r.2.2.2.2.2.2.2.2.1,r.2.2.2.2.2.2.2.2.2.1,r.2.2.2.2.2.2.2.2.2.2.1,r.2.2.2.2.2.2.2.2.2.2.2.1,r.2.2.2.2.2.2.2.2.2.2.2.2.1,(rd ty2 v30 v1).2.2.1)) fun r_1=>br (!r.2.2.2.2.2.2.2.2.2.2.2.2.2 || !r_1.1 || !decide (r_1.2 = 0) || !decide ((rd ty2 v30 v1).2.2.2 = r.2.2.2.2.2.1)) (some false) (br (mHas (Ty.int .i64) (Ty.int .i64) v28 r.1 && (decide (wrap .i64 ((rd ty2 v30 v1).2.2.1 - mGet (Ty.int .i64) (Ty.int .i64) v28 r.1) < r.2.2.2.2.2.2.2.1) || decide (r.2.2.2.2.2.2.2.2.1 < wrap .i64 ((rd ty2 v30 v1).2.2.1 - mGet (Ty.int .i64) (Ty.int .i64) v28 r.1)))) (some false) (p2 (v0,wrap .i64 (v1 + 1),v2,v3,v4,v5,v6,v7,v8,v9,v10,v11,v12,v13,v14,v15,v16,v17,v18,v19,v20,v21,v22,v23,v24,v25,v26,v27,mPut (Ty.int .i64) (Ty.int .i64) v28 v29 r.1 (rd ty2 v30 v1).2.2.1,mClk (Ty.int .i64) (Ty.int .i64) v28 v29 r.1,v30,v31,v32,v33)))) none) (some true)
theorem d0_cn (k0:Pr E g179.A g179.R) (k1:Pr E g180.A g180.R) (k2:Pr E T0 R):∀ v:T0,Cn E (d0 k0.p k1.p k2.p v) fun i=>d0 (k0.q i) (k1.q i) (k2.q i) v:=fun (v0,v1,v2,v3,v4,v5,v6,v7,v8,v9,v10,v11,v12,v13,v14,v15,v16,v17,v18,v19,v20,v21,v22,v23,v24,v25,v26,v27,v28,v29,v30,v31,v32,v33)=>(.br (.br (.bnd (k0.h _) fun _=>(.bnd (k1.h _) fun _=>(.br .some (.br .some (k2.h _))))) .none) .some)
theorem l0_b ( k m1:Nat):∀ v:T0,run (cs m1) (loopN cs m1) b6 (kLoop cs m1 b6 (K6 k)) (s0 v) = d0 (g179.f m1) (g180.f m1) (l0 k m1) v:=fun (v0,v1,v2,v3,v4,v5,v6,v7,v8,v9,v10,v11,v12,v13,v14,v15,v16,v17,v18,v19,v20,v21,v22,v23,v24,v25,v26,v27,v28,v29,v30,v31,v32,v33)=>by kernel_rfl
theorem D0_of (v:T0) {r:R} (h:d0 g179.F g180.F D0 v = some r):D0 v = some r:=loop_of 1 (fun L n hn=>by show l0 (L 0) (L 1) v = _; rw [hn]; exact (held_eq _).trans ((loopN_succ _ _ _ _ _).trans (l0_b (L 0) n v))) (d0_cn (lp g179.f 1) (lp g180.f 1) (.mk fun v=>(D0_cn v).re [0,1]) v) h
noncomputable def f (k:Nat):Y:=fun v=>held (runFn cs k Tryz.f5 (sh.args v) (sh.slots v) dec)
noncomputable def F:Y:=lm f
noncomputable def d (p0:g178.Y) (p1:Y0):Y:=fun v0 =>
bnd (p0 (20,5,0,0,0,0,0,0,0,0,0,0,0,0,0,0,0,0,0,0,0,0,0,0,0,0,0,0,v0,0,[],[],[],[])) fun r=>br (!r.1) (some false) (p1 ((↑r.2.2.2.2.2.2.2.2.2.2.2.2.2.2.2.2.2.2.2.2.2.2.2.2.2.2.2.2.2.2.2.2.2.2.2.2.length:Int),0,r.2.1,r.2.2.1,r.2.2.2.1,r.2.2.2.2.1,r.2.2.2.2.2.1,r.2.2.2.2.2.2.1,r.2.2.2.2.2.2.2.1,r.2.2.2.2.2.2.2.2.1,r.2.2.2.2.2.2.2.2.2.1,r.2.2.2.2.2.2.2.2.2.2.1,r.2.2.2.2.2.2.2.2.2.2.2.1,r.2.2.2.2.2.2.2.2.2.2.2.2.1,r.2.2.2.2.2.2.2.2.2.2.2.2.2.1,r.2.2.2.2.2.2.2.2.2.2.2.2.2.2.1,r.2.2.2.2.2.2.2.2.2.2.2.2.2.2.2.1,r.2.2.2.2.2.2.2.2.2.2.2.2.2.2.2.2.1,r.2.2.2.2.2.2.2.2.2.2.2.2.2.2.2.2.2.1,r.2.2.2.2.2.2.2.2.2.2.2.2.2.2.2.2.2.2.1,r.2.2.2.2.2.2.2.2.2.2.2.2.2.2.2.2.2.2.2.1,r.2.2.2.2.2.2.2.2.2.2.2.2.2.2.2.2.2.2.2.2.1,r.2.2.2.2.2.2.2.2.2.2.2.2.2.2.2.2.2.2.2.2.2.1,r.2.2.2.2.2.2.2.2.2.2.2.2.2.2.2.2.2.2.2.2.2.2.1,r.2.2.2.2.2.2.2.2.2.2.2.2.2.2.2.2.2.2.2.2.2.2.2.1,r.2.2.2.2.2.2.2.2.2.2.2.2.2.2.2.2.2.2.2.2.2.2.2.2.1,r.2.2.2.2.2.2.2.2.2.2.2.2.2.2.2.2.2.2.2.2.2.2.2.2.2.1,r.2.2.2.2.2.2.2.2.2.2.2.2.2.2.2.2.2.2.2.2.2.2.2.2.2.2.1,[],0,r.2.2.2.2.2.2.2.2.2.2.2.2.2.2.2.2.2.2.2.2.2.2.2.2.2.2.2.2.2.2.2.2.2.2.2.2,r.2.2.2.2.2.2.2.2.2.2.2.2.2.2.2.2.2.2.2.2.2.2.2.2.2.2.2.2.2.2.2.2.2.1,r.2.2.2.2.2.2.2.2.2.2.2.2.2.2.2.2.2.2.2.2.2.2.2.2.2.2.2.2.2.2.2.2.2.2.1,r.2.2.2.2.2.2.2.2.2.2.2.2.2.2.2.2.2.2.2.2.2.2.2.2.2.2.2.2.2.2.2.2.2.2.2.1))
theorem d_cn (k0:Pr E g178.A g178.R) (k1:Pr E T0 R):∀ v:A,Cn E (d k0.p k1.p v) fun i=>d (k0.q i) (k1.q i) v:=fun v0=>(.bnd (k0.h _) fun _=>(.br .some (k1.h _)))
theorem f_b (k:Nat):∀ v:A,f k v = d (g178.f k) (l0 k k) v:=fun v0=>(held_eq _).trans (by kernel_rfl)
theorem F_of (v:A) {r:R} (h:d g178.F D0 v = some r):F v = some r:=join_of (fun L=>f_b (L 0) v) (d_cn (lp g178.f 0) (.mk fun v=>(D0_cn v).re [0,0]) v) h
noncomputable def spec (k:Nat):List AV→List Slot→Option Ans:=specS sh os (f k)
theorem spec_ok (k:Nat):SpecOk Tryz.prog 5 (spec k):=specS_ok cs_ok Tryz.func5 rfl rfl (fun _ _=>held_eq _) k
end g181
noncomputable def tg181:=tg180.cons 5 g181.spec g181.spec_ok
end Go.Proofs.RPo
