import Derived.Test.YtjamelcidejnfaaRSl0
import Derived.Test.YtjamelcidejnfaaProg
namespace Go.Proofs.RSl
open Go Go.Eng Go.Proofs
set_option maxRecDepth 100000
set_option linter.unusedVariables false
variable {ι : Type} {E : Fil ι}
namespace g73 -- slew_Track
abbrev R:Type:=Int × Int × Int
abbrev A:Type:=Int × Int × Int × Int × Int × Int × Int × Int × Int × Int × Int × Int × Int × Int × Int × Int × Int × Int × Int × Int × Int × Int × Int × Int × Int × Int × List Int × Int × Int × Int × Int × Int × Int × Int
abbrev Y:=A→Option R
def lv:List (Nat × List Nat):=[(2000000,[12,13]),(10,[5,6,7,8,9,12,16])]
noncomputable def cs:Nat→Ctx:=ctxOf tis modes tg72.1 lv
theorem cs_ok (n:Nat):CtxOk Try.prog (cs n):=ctxOf_ok rfl tis_ok tg72.2 n
def sh:AS:=⟨[.agg [.int .i64,.int .i64,.int .i64,.int .i64,.int .i64,.int .i64,.int .i64,.int .i64,.int .i64,.int .i64],.agg [.int .i64,.int .i64,.int .i64,.int .i64,.int .i64,.int .i64,.int .i64,.int .i64,.int .i64,.int .i64,.int .i64,.int .i64,.int .i64,.int .i64,.int .i64,.int .i64,.frz (.int .i64)],.agg [.int .i64,.int .i64],.agg [.int .i64,.int .i64,.int .i64],.c (.int .i64),.c (.int .i64)],[]⟩
def os:OS:=⟨.tup [.agg [.int .i64,.int .i64],.c (.int .i64)],[]⟩
def enc (r:R):Out:=os.enc r
def dec:Out→Option R:=os.dec
noncomputable def b0:Code:=subF [] Try.f12
noncomputable def K0 (k:Nat):Kt R:=kTop (cs k) Try.f12 dec
noncomputable def b10:Code:=sub [1,1,1,1,0,1,0,0] b0
noncomputable def K10 ( k:Nat):Kt R:=kAt (cs k) (loopN cs k) [1,1,1,1,0,1,0] b0 (K0 k)
abbrev T0:Type:=Int × Int × Int × Int × Int × Int × Int × Int × Int × Int × Int × Int × Int × Int × Int × Int × Int × Int × Int × Int × Int × Int × Int × Int × Int × Int × Int × Int × List Int × Int × Int × Int × Int × Int × Int × Int
abbrev Y0:=T0→Option R
noncomputable def s0:T0→St:=fun (v0,v1,v2,v3,v4,v5,v6,v7,v8,v9,v10,v11,v12,v13,v14,v15,v16,v17,v18,v19,v20,v21,v22,v23,v24,v25,v26,v27,v28,v29,v30,v31,v32,v33,v34,v35)=>⟨112,0,[(5,.c (.int .i64 v0)),(6,.c (.ptr 64000000 0)),(7,.c (.ptr 64000001 0)),(8,.c (.ptr 64000002 0)),(9,.c (.ptr 64000003 0)),(12,.c (.ptr 64000004 0)),(16,.c (.int .i64 v1))],[],[(256000000,.gone),(64000000,.box [.int .i64 v2,.int .i64 v3,.int .i64 v4,.int .i64 v5,.int .i64 v6,.int .i64 v7,.int .i64 v8,.int .i64 v9,.int .i64 v10,.int .i64 v11]),(64000001,.box [.int .i64 v12,.int .i64 v13,.int .i64 v14,.int .i64 v15,.int .i64 v16,.int .i64 v17,.int .i64 v18,.int .i64 v19,.int .i64 v20,.int .i64 v21,.int .i64 v22,.int .i64 v23,.int .i64 v24,.int .i64 v25,.int .i64 v26,.int .i64 v27,.frz (.int .i64) v28]),(64000002,.box [.int .i64 v29,.int .i64 v30]),(64000003,.box [.int .i64 v31,.int .i64 v32,.int .i64 v33]),(64000004,.box [.int .i64 v34,.int .i64 v35])]⟩
noncomputable def l0 ( k n:Nat) (v:T0):Option R:=held (loopN cs n b10 (K10 k) (s0 v))
noncomputable def D0 (v:T0):Option R:=lim fun L=>l0 (L 0) (L 1) v
theorem D0_cn (v:T0):Cn late (D0 v) fun L=>l0 (L 0) (L 1) v:=of_lim
noncomputable def d0 (p0:g70.Y) (p1:g72.Y) (p2:g2.Y) (p3:Y0):Y0:=fun (v0,v1,v2,v3,v4,v5,v6,v7,v8,v9,v10,v11,v12,v13,v14,v15,v16,v17,v18,v19,v20,v21,v22,v23,v24,v25,v26,v27,v28,v29,v30,v31,v32,v33,v34,v35) =>
br (decide (v1 ≤ v0)) (bnd (p0 (v12,v13,v14,v15,v16,v17,v18,v19,v20,v21,v22,v23,v24,v25,v26,v27,v28,v31,v32,v33,v1)) fun r=>br (!decide (r.2.2 = 0)) (some (0,0,r.2.2)) (bnd (p1 (v2,v3,v4,v5,v6,v7,v8,v9,v10,v11,v29,v30,r.1,r.2.1)) fun r=>br (!decide (r.2.2.2 = 0)) (some (0,0,r.2.2.2)) (bnd (p2 (wrap .i64 (r.1 - v29))) fun r_1=>br (decide (1073741824 < r_1) == false) (bnd (p2 (wrap .i64 (r.2.1 - v30))) fun r_2=>br (decide (1073741824 < r_2)) (some (0,0,4)) (p3 (v0,wrap .i64 (v1 + 1),v2,v3,v4,v5,v6,v7,v8,v9,v10,v11,v12,v13,v14,v15,v16,v17,v18,v19,v20,v21,v22,v23,v24,v25,v26,v27,v28,r.1,r.2.1,v31,v32,v33,v34,v35))) (some (0,0,4))))) (some (v29,v30,0))
theorem d0_cn (k0:Pr E g70.A g70.R) (k1:Pr E g72.A g72.R) (k2:Pr E g2.A g2.R) (k3:Pr E T0 R):∀ v:T0,Cn E (d0 k0.p k1.p k2.p k3.p v) fun i=>d0 (k0.q i) (k1.q i) (k2.q i) (k3.q i) v:=fun (v0,v1,v2,v3,v4,v5,v6,v7,v8,v9,v10,v11,v12,v13,v14,v15,v16,v17,v18,v19,v20,v21,v22,v23,v24,v25,v26,v27,v28,v29,v30,v31,v32,v33,v34,v35)=>(.br (.bnd (k0.h _) fun _=>(.br .some (.bnd (k1.h _) fun _=>(.br .some (.bnd (k2.h _) fun _=>(.br (.bnd (k2.h _) fun _=>(.br .some (k3.h _))) .some)))))) .some)
theorem l0_b ( k m1:Nat):∀ v:T0,run (cs m1) (loopN cs m1) b10 (kLoop cs m1 b10 (K10 k)) (s0 v) = d0 (g70.f m1) (g72.f m1) (g2.f m1) (l0 k m1) v:=fun (v0,v1,v2,v3,v4,v5,v6,v7,v8,v9,v10,v11,v12,v13,v14,v15,v16,v17,v18,v19,v20,v21,v22,v23,v24,v25,v26,v27,v28,v29,v30,v31,v32,v33,v34,v35)=>by kernel_rfl
theorem D0_of (v:T0) {r:R} (h:d0 g70.F g72.F g2.F D0 v = some r):D0 v = some r:=loop_of 1 (fun L n hn=>by show l0 (L 0) (L 1) v = _; rw [hn]; exact (held_eq _).trans ((loopN_succ _ _ _ _ _).trans (l0_b (L 0) n v))) (d0_cn (lp g70.f 1) (lp g72.f 1) (lp g2.f 1) (.mk fun v=>(D0_cn v).re [0,1]) v) h
noncomputable def f (k:Nat):Y:=fun v=>held (runFn cs k Try.f12 (sh.args v) (sh.slots v) dec)
noncomputable def F:Y:=lm f
noncomputable def d (p0:g71.Y) (p1:g47.Y) (p2:g1.Y) (p3:Y0):Y:=fun (v0,v1,v2,v3,v4,v5,v6,v7,v8,v9,v10,v11,v12,v13,v14,v15,v16,v17,v18,v19,v20,v21,v22,v23,v24,v25,v26,v27,v28,v29,v30,v31,v32,v33) =>
bnd (p0 (v0,v1,v2,v3,v4,v5,v6,v7,v8,v9)) fun r=>br (!decide (r = 0)) (some (0,0,r)) (bnd (p1 (v10,v11,v12,v13,v14,v15,v16,v17,v18,v19,v20,v21,v22,v23,v24,v25,v26)) fun r=>br (!decide (r = 0)) (some (0,0,r)) (bnd (p2 (v0,v1,v2,v3,v27)) fun r=>br ((!r) == false) (bnd (p2 (v4,v5,v6,v7,v28)) fun r=>br (!r || decide (v32 < 0) || decide (v33 < v32) || decide (v18 < v33)) (some (0,0,4)) (p3 (v33,wrap .i64 (v32 + 1),v0,v1,v2,v3,v4,v5,v6,v7,v8,v9,v10,v11,v12,v13,v14,v15,v16,v17,v18,v19,v20,v21,v22,v23,v24,v25,v26,v27,v28,v29,v30,v31,0,0))) (some (0,0,4))))
theorem d_cn (k0:Pr E g71.A g71.R) (k1:Pr E g47.A g47.R) (k2:Pr E g1.A g1.R) (k3:Pr E T0 R):∀ v:A,Cn E (d k0.p k1.p k2.p k3.p v) fun i=>d (k0.q i) (k1.q i) (k2.q i) (k3.q i) v:=fun (v0,v1,v2,v3,v4,v5,v6,v7,v8,v9,v10,v11,v12,v13,v14,v15,v16,v17,v18,v19,v20,v21,v22,v23,v24,v25,v26,v27,v28,v29,v30,v31,v32,v33)=>(.bnd (k0.h _) fun _=>(.br .some (.bnd (k1.h _) fun _=>(.br .some (.bnd (k2.h _) fun _=>(.br (.bnd (k2.h _) fun _=>(.br .some (k3.h _))) .some))))))
theorem f_b (k:Nat):∀ v:A,f k v = d (g71.f k) (g47.f k) (g1.f k) (l0 k k) v:=fun (v0,v1,v2,v3,v4,v5,v6,v7,v8,v9,v10,v11,v12,v13,v14,v15,v16,v17,v18,v19,v20,v21,v22,v23,v24,v25,v26,v27,v28,v29,v30,v31,v32,v33)=>(held_eq _).trans (by kernel_rfl)
theorem F_of (v:A) {r:R} (h:d g71.F g47.F g1.F D0 v = some r):F v = some r:=join_of (fun L=>f_b (L 0) v) (d_cn (lp g71.f 0) (lp g47.f 0) (lp g1.f 0) (.mk fun v=>(D0_cn v).re [0,0]) v) h
noncomputable def spec (k:Nat):List AV→List Slot→Option Ans:=specS sh os (f k)
theorem spec_ok (k:Nat):SpecOk Try.prog 12 (spec k):=specS_ok cs_ok Try.func12 rfl rfl (fun _ _=>held_eq _) k
end g73
noncomputable def tg73:=tg72.cons 12 g73.spec g73.spec_ok
namespace g74 -- spykeep2_SlewFollows
abbrev R:Type:=Bool
abbrev A:Type:=List Int × Int × Int × Int
abbrev Y:=A→Option R
def lv:List (Nat × List Nat):=[(2000000,[8]),(1000014,[10,11,12,13,14])]
noncomputable def cs:Nat→Ctx:=ctxOf tis modes tg73.1 lv
theorem cs_ok (n:Nat):CtxOk Try.prog (cs n):=ctxOf_ok rfl tis_ok tg73.2 n
def sh:AS:=⟨[.c (.frz (.int .i64)),.c (.int .i64),.c (.int .i64),.c (.int .i64)],[]⟩
def os:OS:=⟨.c .bool,[]⟩
def enc (r:R):Out:=os.enc r
def dec:Out→Option R:=os.dec
noncomputable def b0:Code:=subF [] Try.f3
noncomputable def K0 (k:Nat):Kt R:=kTop (cs k) Try.f3 dec
noncomputable def c1000014:Code:=sub [1,1,1,1,1,1,1,1,1] b0
noncomputable def J1000014 ( k:Nat):Kt R:=kAt (cs k) (loopN cs k) [1,1,1,1,1,1,1,1,1] b0 (K0 k)
abbrev T0:Type:=Int × Int × Int × Int × Int × Int × Int × Int × Int × Int × Int × Int × Int × Int × Int × Int × Int × Int × Int × Int × Int × Int × Int × Int × Int × Int × Int × Int × Int × List Int × Int × Int × List Int
abbrev Y0:=T0→Option R
noncomputable def s0:T0→St:=fun (v0,v1,v2,v3,v4,v5,v6,v7,v8,v9,v10,v11,v12,v13,v14,v15,v16,v17,v18,v19,v20,v21,v22,v23,v24,v25,v26,v27,v28,v29,v30,v31,v32)=>⟨156,0,[(10,.c (.ptr 64000000 0)),(11,.c (.ptr 64000001 0)),(12,.c (.ptr 64000002 0)),(13,.c (.sl 64000003)),(14,.c (.ptr 64000004 0))],[],[(256000000,.gone),(64000000,.box [.int .i64 v0,.int .i64 v1,.int .i64 v2,.int .i64 v3,.int .i64 v4,.int .i64 v5,.int .i64 v6,.int .i64 v7,.int .i64 v8,.int .i64 v9,.int .i64 v10,.int .i64 v11,.int .i64 v12,.int .i64 v13,.int .i64 v14,.int .i64 v15,.sl 64000005]),(64000001,.box [.int .i64 v16,.int .i64 v17,.int .i64 v18,.int .i64 v19,.int .i64 v20,.int .i64 v21,.int .i64 v22,.int .i64 v23,.int .i64 v24,.int .i64 v25]),(64000002,.box [.int .i64 v26,.int .i64 v27,.int .i64 v28]),(64000003,.row (.int .i64) v29),(64000004,.box [.int .i64 v30,.int .i64 v31]),(64000005,.row (.int .i64) v32)]⟩
noncomputable def l0 ( k:Nat) (v:T0):Option R:=held (run (cs k) (loopN cs k) c1000014 (J1000014 k) (s0 v))
noncomputable def D0 (v:T0):Option R:=lim fun L=>l0 (L 0) v
theorem D0_cn (v:T0):Cn late (D0 v) fun L=>l0 (L 0) v:=of_lim
noncomputable def d0 (p0:g73.Y):Y0:=fun (v0,v1,v2,v3,v4,v5,v6,v7,v8,v9,v10,v11,v12,v13,v14,v15,v16,v17,v18,v19,v20,v21,v22,v23,v24,v25,v26,v27,v28,v29,v30,v31,v32) =>
br (decide ((0:Int) ≤ 0 ∧ 0 < (↑v29.length:Int))) (br (decide ((0:Int) ≤ 0 ∧ 0 < (↑v29.length:Int))) (bnd (p0 (v16,v17,v18,v19,v20,v21,v22,v23,v24,v25,v0,v1,v2,v3,v4,v5,v6,v7,v8,v9,v10,v11,v12,v13,v14,v15,v32,v30,v31,v26,v27,v28,rd (Ty.int .i64) v29 0,rd (Ty.int .i64) v29 0)) fun r=>br (decide ((0:Int) ≤ 0 ∧ 0 < (↑v29.length:Int))) (br (decide ((0:Int) ≤ 1 ∧ 1 < (↑v29.length:Int))) (bnd (p0 (v16,v17,v18,v19,v20,v21,v22,v23,v24,v25,v0,v1,v2,v3,v4,v5,v6,v7,v8,v9,v10,v11,v12,v13,v14,v15,v32,v30,v31,v26,v27,v28,rd (Ty.int .i64) v29 0,rd (Ty.int .i64) v29 1)) fun r_1=>br (decide ((0:Int) ≤ 0 ∧ 0 < (↑v29.length:Int))) (br (decide ((0:Int) ≤ 2 ∧ 2 < (↑v29.length:Int))) (bnd (p0 (v16,v17,v18,v19,v20,v21,v22,v23,v24,v25,v0,v1,v2,v3,v4,v5,v6,v7,v8,v9,v10,v11,v12,v13,v14,v15,v32,v30,v31,v26,v27,v28,rd (Ty.int .i64) v29 0,rd (Ty.int .i64) v29 2)) fun r_2=>br ((!decide (r.2.2 = 0)) == false) (br (!(decide (r.1 = v30) && (decide (r.2.1 = v31) && true))) (some false) (br (!decide (r_1.2.2 = 0)) (some (decide (r_2.2.2 = r_1.2.2))) (br (decide ((0:Int) ≤ 1 ∧ 1 < (↑v29.length:Int))) (br (decide ((0:Int) ≤ 2 ∧ 2 < (↑v29.length:Int))) (bnd (p0 (v16,v17,v18,v19,v20,v21,v22,v23,v24,v25,v0,v1,v2,v3,v4,v5,v6,v7,v8,v9,v10,v11,v12,v13,v14,v15,v32,r_1.1,r_1.2.1,v26,v27,v28,rd (Ty.int .i64) v29 1,rd (Ty.int .i64) v29 2)) fun r=>br (decide (r.2.2 = r_2.2.2) == true) (some (decide (r.1 = r_2.1) && (decide (r.2.1 = r_2.2.1) && true))) (some false)) none) none))) (some false)) none) none) none) none) none) none
theorem d0_cn (k0:Pr E g73.A g73.R):∀ v:T0,Cn E (d0 k0.p v) fun i=>d0 (k0.q i) v:=fun (v0,v1,v2,v3,v4,v5,v6,v7,v8,v9,v10,v11,v12,v13,v14,v15,v16,v17,v18,v19,v20,v21,v22,v23,v24,v25,v26,v27,v28,v29,v30,v31,v32)=>(.br (.br (.bnd (k0.h _) fun _=>(.br (.br (.bnd (k0.h _) fun _=>(.br (.br (.bnd (k0.h _) fun _=>(.br (.br .some (.br .some (.br (.br (.bnd (k0.h _) fun _=>(.br .some .some)) .none) .none))) .some)) .none) .none)) .none) .none)) .none) .none)
theorem l0_b ( k:Nat):∀ v:T0,run (cs k) (loopN cs k) c1000014 (J1000014 k) (s0 v) = d0 (g73.f k) v:=fun (v0,v1,v2,v3,v4,v5,v6,v7,v8,v9,v10,v11,v12,v13,v14,v15,v16,v17,v18,v19,v20,v21,v22,v23,v24,v25,v26,v27,v28,v29,v30,v31,v32)=>by kernel_rfl
theorem D0_of (v:T0) {r:R} (h:d0 g73.F v = some r):D0 v = some r:=join_of (fun L=>(held_eq _).trans (l0_b (L 0) v)) (d0_cn (lp g73.f 0) v) h
noncomputable def f (k:Nat):Y:=fun v=>held (runFn cs k Try.f3 (sh.args v) (sh.slots v) dec)
noncomputable def F:Y:=lm f
noncomputable def d (p0:g8.Y) (p1:g13.Y) (p2:g16.Y) (p3:g12.Y) (p4:g9.Y) (p5:g23.Y) (p6:g70.Y) (p7:g72.Y) (p8:Y0):Y:=fun (v0,v1,v2,v3) =>
bnd (p0 ()) fun r=>br (!r) (some false) (bnd (p1 (12,v0,0)) fun r=>bnd (p2 (r.2.2.2.2.2.2.2.2.2.2.2.2.2.2.2.2.1,r.2.2.2.2.2.2.2.2.2.2.2.2.2.2.2.2.2.1)) fun r_1=>bnd (p3 (r_1.2.2.2.2.2.2.2.2.2.2.1,r_1.2.2.2.2.2.2.2.2.2.2.2)) fun r_2=>bnd (p4 (v1,wrap .i64 (r.2.2.2.2.2.2.2.2.1 + 1))) fun r_3=>bnd (p4 (v2,wrap .i64 (r.2.2.2.2.2.2.2.2.1 + 1))) fun r_4=>bnd (p4 (v3,wrap .i64 (r.2.2.2.2.2.2.2.2.1 + 1))) fun r_5=>bnd (p5 [r_3,r_4,r_5]) fun r_6=>br (decide ((0:Int) ≤ 0 ∧ 0 < (↑r_6.length:Int))) (bnd (p6 (r.1,r.2.1,r.2.2.1,r.2.2.2.1,r.2.2.2.2.1,r.2.2.2.2.2.1,r.2.2.2.2.2.2.1,r.2.2.2.2.2.2.2.1,r.2.2.2.2.2.2.2.2.1,r.2.2.2.2.2.2.2.2.2.1,r.2.2.2.2.2.2.2.2.2.2.1,r.2.2.2.2.2.2.2.2.2.2.2.1,r.2.2.2.2.2.2.2.2.2.2.2.2.1,r.2.2.2.2.2.2.2.2.2.2.2.2.2.1,r.2.2.2.2.2.2.2.2.2.2.2.2.2.2.1,r.2.2.2.2.2.2.2.2.2.2.2.2.2.2.2.1,r.2.2.2.2.2.2.2.2.2.2.2.2.2.2.2.2.2.2,r_2.1,r_2.2.1,r_2.2.2.1,rd (Ty.int .i64) r_6 0)) fun r_7=>br (decide (r_7.2.2 = 0)) (bnd (p7 (r_1.1,r_1.2.1,r_1.2.2.1,r_1.2.2.2.1,r_1.2.2.2.2.1,r_1.2.2.2.2.2.1,r_1.2.2.2.2.2.2.1,r_1.2.2.2.2.2.2.2.1,r_1.2.2.2.2.2.2.2.2.1,r_1.2.2.2.2.2.2.2.2.2.1,r_1.2.2.2.2.2.2.2.2.1,r_1.2.2.2.2.2.2.2.2.2.1,r_7.1,r_7.2.1)) fun r_8=>br (decide (r_8.2.2.2 = 0)) (p8 (r.1,r.2.1,r.2.2.1,r.2.2.2.1,r.2.2.2.2.1,r.2.2.2.2.2.1,r.2.2.2.2.2.2.1,r.2.2.2.2.2.2.2.1,r.2.2.2.2.2.2.2.2.1,r.2.2.2.2.2.2.2.2.2.1,r.2.2.2.2.2.2.2.2.2.2.1,r.2.2.2.2.2.2.2.2.2.2.2.1,r.2.2.2.2.2.2.2.2.2.2.2.2.1,r.2.2.2.2.2.2.2.2.2.2.2.2.2.1,r.2.2.2.2.2.2.2.2.2.2.2.2.2.2.1,r.2.2.2.2.2.2.2.2.2.2.2.2.2.2.2.1,r_1.1,r_1.2.1,r_1.2.2.1,r_1.2.2.2.1,r_1.2.2.2.2.1,r_1.2.2.2.2.2.1,r_1.2.2.2.2.2.2.1,r_1.2.2.2.2.2.2.2.1,r_1.2.2.2.2.2.2.2.2.1,r_1.2.2.2.2.2.2.2.2.2.1,r_2.1,r_2.2.1,r_2.2.2.1,r_6,r_8.1,r_8.2.1,r.2.2.2.2.2.2.2.2.2.2.2.2.2.2.2.2.2.2)) (p8 (r.1,r.2.1,r.2.2.1,r.2.2.2.1,r.2.2.2.2.1,r.2.2.2.2.2.1,r.2.2.2.2.2.2.1,r.2.2.2.2.2.2.2.1,r.2.2.2.2.2.2.2.2.1,r.2.2.2.2.2.2.2.2.2.1,r.2.2.2.2.2.2.2.2.2.2.1,r.2.2.2.2.2.2.2.2.2.2.2.1,r.2.2.2.2.2.2.2.2.2.2.2.2.1,r.2.2.2.2.2.2.2.2.2.2.2.2.2.1,r.2.2.2.2.2.2.2.2.2.2.2.2.2.2.1,r.2.2.2.2.2.2.2.2.2.2.2.2.2.2.2.1,r_1.1,r_1.2.1,r_1.2.2.1,r_1.2.2.2.1,r_1.2.2.2.2.1,r_1.2.2.2.2.2.1,r_1.2.2.2.2.2.2.1,r_1.2.2.2.2.2.2.2.1,r_1.2.2.2.2.2.2.2.2.1,r_1.2.2.2.2.2.2.2.2.2.1,r_2.1,r_2.2.1,r_2.2.2.1,r_6,r_1.2.2.2.2.2.2.2.2.1,r_1.2.2.2.2.2.2.2.2.2.1,r.2.2.2.2.2.2.2.2.2.2.2.2.2.2.2.2.2.2))) (p8 (r.1,r.2.1,r.2.2.1,r.2.2.2.1,r.2.2.2.2.1,r.2.2.2.2.2.1,r.2.2.2.2.2.2.1,r.2.2.2.2.2.2.2.1,r.2.2.2.2.2.2.2.2.1,r.2.2.2.2.2.2.2.2.2.1,r.2.2.2.2.2.2.2.2.2.2.1,r.2.2.2.2.2.2.2.2.2.2.2.1,r.2.2.2.2.2.2.2.2.2.2.2.2.1,r.2.2.2.2.2.2.2.2.2.2.2.2.2.1,r.2.2.2.2.2.2.2.2.2.2.2.2.2.2.1,r.2.2.2.2.2.2.2.2.2.2.2.2.2.2.2.1,r_1.1,r_1.2.1,r_1.2.2.1,r_1.2.2.2.1,r_1.2.2.2.2.1,r_1.2.2.2.2.2.1,r_1.2.2.2.2.2.2.1,r_1.2.2.2.2.2.2.2.1,r_1.2.2.2.2.2.2.2.2.1,r_1.2.2.2.2.2.2.2.2.2.1,r_2.1,r_2.2.1,r_2.2.2.1,r_6,r_1.2.2.2.2.2.2.2.2.1,r_1.2.2.2.2.2.2.2.2.2.1,r.2.2.2.2.2.2.2.2.2.2.2.2.2.2.2.2.2.2))) none)
theorem d_cn (k0:Pr E g8.A g8.R) (k1:Pr E g13.A g13.R) (k2:Pr E g16.A g16.R) (k3:Pr E g12.A g12.R) (k4:Pr E g9.A g9.R) (k5:Pr E g23.A g23.R) (k6:Pr E g70.A g70.R) (k7:Pr E g72.A g72.R) (k8:Pr E T0 R):∀ v:A,Cn E (d k0.p k1.p k2.p k3.p k4.p k5.p k6.p k7.p k8.p v) fun i=>d (k0.q i) (k1.q i) (k2.q i) (k3.q i) (k4.q i) (k5.q i) (k6.q i) (k7.q i) (k8.q i) v:=fun (v0,v1,v2,v3)=>(.bnd (k0.h _) fun _=>(.br .some (.bnd (k1.h _) fun _=>(.bnd (k2.h _) fun _=>(.bnd (k3.h _) fun _=>(.bnd (k4.h _) fun _=>(.bnd (k4.h _) fun _=>(.bnd (k4.h _) fun _=>(.bnd (k5.h _) fun _=>(.br (.bnd (k6.h _) fun _=>(.br (.bnd (k7.h _) fun _=>(.br (k8.h _) (k8.h _))) (k8.h _))) .none))))))))))
theorem f_b (k:Nat):∀ v:A,f k v = d (g8.f k) (g13.f k) (g16.f k) (g12.f k) (g9.f k) (g23.f k) (g70.f k) (g72.f k) (l0 k) v:=fun (v0,v1,v2,v3)=>(held_eq _).trans (by kernel_rfl)
theorem F_of (v:A) {r:R} (h:d g8.F g13.F g16.F g12.F g9.F g23.F g70.F g72.F D0 v = some r):F v = some r:=join_of (fun L=>f_b (L 0) v) (d_cn (lp g8.f 0) (lp g13.f 0) (lp g16.f 0) (lp g12.f 0) (lp g9.f 0) (lp g23.f 0) (lp g70.f 0) (lp g72.f 0) (.mk fun v=>(D0_cn v).re [0]) v) h
noncomputable def spec (k:Nat):List AV→List Slot→Option Ans:=specS sh os (f k)
theorem spec_ok (k:Nat):SpecOk Try.prog 3 (spec k):=specS_ok cs_ok Try.func3 rfl rfl (fun _ _=>held_eq _) k
end g74
noncomputable def tg74:=tg73.cons 3 g74.spec g74.spec_ok
end Go.Proofs.RSl
