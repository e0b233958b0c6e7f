import Derived.Test.YtfkampndpkfcmaaGreatRPl0
import Derived.Test.YtfkampndpkfcmaaGreatProg
namespace Go.Proofs.RPl
open Go Go.Eng Go.Proofs
set_option maxRecDepth 100000
set_option linter.unusedVariables false
variable {ι : Type} {E : Fil ι}
namespace g82 -- slices_Min_Fix
abbrev R:Type:=Int
abbrev A:Type:=List Int
abbrev Y:=A→Option R
def lv:List (Nat × List Nat):=[(2000000,[2]),(5,[0,3,4])]
noncomputable def cs:Nat→Ctx:=ctxOf tis modes tg81.1 lv
theorem cs_ok (n:Nat):CtxOk Tryz.prog (cs n):=ctxOf_ok rfl tis_ok tg81.2 n
def sh:AS:=⟨[(.c (.frz (.int .i64)))],[]⟩
def os:OS:=⟨.c (.int .i64),[]⟩
def enc (r:R):Out:=os.enc r
def dec:Out→Option R:=os.dec
noncomputable def b0:Code:=subF [] Tryz.f207
noncomputable def K0 (k:Nat):Kt R:=kTop (cs k) Tryz.f207 dec
noncomputable def b5:Code:=sub [1,1,1,0,1,0,0] b0
noncomputable def K5 ( k:Nat):Kt R:=kAt (cs k) (loopN cs k) [1,1,1,0,1,0] b0 (K0 k)
abbrev T0:Type:=List Int × Int × Int
abbrev Y0:=T0→Option R
def s0:T0→St:=fun (v0,v1,v2)=>⟨25,0,[(0,.c (.frz (.int .i64) v0)),(3,.c (.int .i64 v1)),(4,.c (.int .i64 v2))],[],[(256000000,.gone)]⟩
noncomputable def l0 ( k n:Nat) (v:T0):Option R:=held (loopN cs n b5 (K5 k) (s0 v))
noncomputable def D0 (v:T0):Option R:=lim fun L=>l0 (L 0) (L 1) v
theorem D0_cn (v:T0):Cn late (D0 v) fun L=>l0 (L 0) (L 1) v:=of_lim
def d0 (p0:Y0):Y0:=fun (v0,v1,v2) =>
br (decide (v2 < (↑v0.length:Int))) (br (decide (0 ≤ v2 ∧ v2 < (↑v0.length:Int))) (p0 (v0,min v1 (rd (Ty.int .i64) v0 v2),wrap .i64 (v2 + 1))) none) (some v1)
theorem d0_cn (k0:Pr E T0 R):∀ v:T0,Cn E (d0 k0.p v) fun i=>d0 (k0.q i) v:=fun (v0,v1,v2)=>(.br (.br (k0.h _) .none) .some)
theorem l0_b ( k m1:Nat):∀ v:T0,run (cs m1) (loopN cs m1) b5 (kLoop cs m1 b5 (K5 k)) (s0 v) = d0 (l0 k m1) v:=fun (v0,v1,v2)=>by kernel_rfl
theorem D0_of (v:T0) {r:R} (h:d0 D0 v = some r):D0 v = some r:=loop_of 1 (fun L n hn=>by show l0 (L 0) (L 1) v = _; rw [hn]; exact (held_eq _).trans ((loopN_succ _ _ _ _ _).trans (l0_b (L 0) n v))) (d0_cn (.mk fun v=>(D0_cn v).re [0,1]) v) h
noncomputable def f (k:Nat):Y:=fun v=>held (runFn cs k Tryz.f207 (sh.args v) (sh.slots v) dec)
noncomputable def F:Y:=lm f
def d (p0:Y0):Y:=fun v0 =>
br (decide ((↑v0.length:Int) < 1)) none (br (decide ((0:Int) ≤ 0 ∧ 0 < (↑v0.length:Int))) (p0 (v0,rd (Ty.int .i64) v0 0,1)) none)
theorem d_cn (k0:Pr E T0 R):∀ v:A,Cn E (d k0.p v) fun i=>d (k0.q i) v:=fun v0=>(.br .none (.br (k0.h _) .none))
theorem f_b (k:Nat):∀ v:A,f k v = d (l0 k k) v:=fun v0=>(held_eq _).trans (by kernel_rfl)
theorem F_of (v:A) {r:R} (h:d D0 v = some r):F v = some r:=join_of (fun L=>f_b (L 0) v) (d_cn (.mk fun v=>(D0_cn v).re [0,0]) v) h
noncomputable def spec (k:Nat):List AV→List Slot→Option Ans:=specS sh os (f k)
theorem spec_ok (k:Nat):SpecOk Tryz.prog 207 (spec k):=specS_ok cs_ok Tryz.func207 rfl rfl (fun _ _=>held_eq _) k
end g82
noncomputable def tg82:=tg81.cons 207 g82.spec g82.spec_ok
namespace g83 -- slices_Max_Fix
abbrev R:Type:=Int
abbrev A:Type:=List Int
abbrev Y:=A→Option R
def lv:List (Nat × List Nat):=[(2000000,[2]),(5,[0,3,4])]
noncomputable def cs:Nat→Ctx:=ctxOf tis modes tg82.1 lv
theorem cs_ok (n:Nat):CtxOk Tryz.prog (cs n):=ctxOf_ok rfl tis_ok tg82.2 n
def sh:AS:=⟨[(.c (.frz (.int .i64)))],[]⟩
def os:OS:=⟨.c (.int .i64),[]⟩
def enc (r:R):Out:=os.enc r
def dec:Out→Option R:=os.dec
noncomputable def b0:Code:=subF [] Tryz.f208
noncomputable def K0 (k:Nat):Kt R:=kTop (cs k) Tryz.f208 dec
noncomputable def b5:Code:=sub [1,1,1,0,1,0,0] b0
noncomputable def K5 ( k:Nat):Kt R:=kAt (cs k) (loopN cs k) [1,1,1,0,1,0] b0 (K0 k)
abbrev T0:Type:=List Int × Int × Int
abbrev Y0:=T0→Option R
def s0:T0→St:=fun (v0,v1,v2)=>⟨25,0,[(0,.c (.frz (.int .i64) v0)),(3,.c (.int .i64 v1)),(4,.c (.int .i64 v2))],[],[(256000000,.gone)]⟩
noncomputable def l0 ( k n:Nat) (v:T0):Option R:=held (loopN cs n b5 (K5 k) (s0 v))
noncomputable def D0 (v:T0):Option R:=lim fun L=>l0 (L 0) (L 1) v
theorem D0_cn (v:T0):Cn late (D0 v) fun L=>l0 (L 0) (L 1) v:=of_lim
def d0 (p0:Y0):Y0:=fun (v0,v1,v2) =>
br (decide (v2 < (↑v0.length:Int))) (br (decide (0 ≤ v2 ∧ v2 < (↑v0.length:Int))) (p0 (v0,max v1 (rd (Ty.int .i64) v0 v2),wrap .i64 (v2 + 1))) none) (some v1)
theorem d0_cn (k0:Pr E T0 R):∀ v:T0,Cn E (d0 k0.p v) fun i=>d0 (k0.q i) v:=fun (v0,v1,v2)=>(.br (.br (k0.h _) .none) .some)
theorem l0_b ( k m1:Nat):∀ v:T0,run (cs m1) (loopN cs m1) b5 (kLoop cs m1 b5 (K5 k)) (s0 v) = d0 (l0 k m1) v:=fun (v0,v1,v2)=>by kernel_rfl
theorem D0_of (v:T0) {r:R} (h:d0 D0 v = some r):D0 v = some r:=loop_of 1 (fun L n hn=>by show l0 (L 0) (L 1) v = _; rw [hn]; exact (held_eq _).trans ((loopN_succ _ _ _ _ _).trans (l0_b (L 0) n v))) (d0_cn (.mk fun v=>(D0_cn v).re [0,1]) v) h
noncomputable def f (k:Nat):Y:=fun v=>held (runFn cs k Tryz.f208 (sh.args v) (sh.slots v) dec)
noncomputable def F:Y:=lm f
def d (p0:Y0):Y:=fun v0 =>
br (decide ((↑v0.length:Int) < 1)) none (br (decide ((0:Int) ≤ 0 ∧ 0 < (↑v0.length:Int))) (p0 (v0,rd (Ty.int .i64) v0 0,1)) none)
theorem d_cn (k0:Pr E T0 R):∀ v:A,Cn E (d k0.p v) fun i=>d (k0.q i) v:=fun v0=>(.br .none (.br (k0.h _) .none))
theorem f_b (k:Nat):∀ v:A,f k v = d (l0 k k) v:=fun v0=>(held_eq _).trans (by kernel_rfl)
theorem F_of (v:A) {r:R} (h:d D0 v = some r):F v = some r:=join_of (fun L=>f_b (L 0) v) (d_cn (.mk fun v=>(D0_cn v).re [0,0]) v) h
noncomputable def spec (k:Nat):List AV→List Slot→Option Ans:=specS sh os (f k)
theorem spec_ok (k:Nat):SpecOk Tryz.prog 208 (spec k):=specS_ok cs_ok Tryz.func208 rfl rfl (fun _ _=>held_eq _) k
end g83
noncomputable def tg83:=tg82.cons 208 g83.spec g83.spec_ok
namespace g84 -- bound_corners_Fix
abbrev R:Type:=Int × Int × Bool × Int
abbrev A:Type:=Int × Int × Bool × Int × Int × Bool × Int
abbrev Y:=A→Option R
def lv:List (Nat × List Nat):=[(2000000,[8]),(3,[2,3,5,8,9,22,23,24]),(6,[2,3,5,8,9,11,22,23,24,32,33,34])]
noncomputable def cs:Nat→Ctx:=ctxOf tis modes tg83.1 lv
theorem cs_ok (n:Nat):CtxOk Tryz.prog (cs n):=ctxOf_ok rfl tis_ok tg83.2 n
def sh:AS:=⟨[.agg [.int .i64,.int .i64,.bool],.agg [.int .i64,.int .i64,.bool],.c (.func 178 [(128000000,0)]),.c (.func 179 [(128000000,0)])],[(.box [(.int .i64)])]⟩
def os:OS:=⟨.agg [.int .i64,.int .i64,.bool],[(.box [(.int .i64)])]⟩
def enc (r:R):Out:=os.enc r
def dec:Out→Option R:=os.dec
noncomputable def b0:Code:=subF [] Tryz.f177
noncomputable def K0 (k:Nat):Kt R:=kTop (cs k) Tryz.f177 dec
noncomputable def b3:Code:=sub [1,1,0,1,0,0] b0
noncomputable def K3 ( k:Nat):Kt R:=kAt (cs k) (loopN cs k) [1,1,0,1,0] b0 (K0 k)
noncomputable def b6:Code:=sub [1,1,0,0,1,1,0,0] b3
noncomputable def K6 ( k m1:Nat):Kt R:=kAt (cs m1) (loopN cs m1) [1,1,0,0,1,1,0] b3 (kLoop cs m1 b3 (K3 k))
abbrev T0:Type:=Int × Int × Int × Int × Int × Bool × Int × Int × Bool × List Int × List Int
abbrev Y0:=T0→Option R
def s0:T0→St:=fun (v0,v1,v2,v3,v4,v5,v6,v7,v8,v9,v10)=>⟨71,1,[(2,.c (.func 178 [(128000000,0)])),(3,.c (.func 179 [(128000000,0)])),(5,.c (.ptr 64000000 0)),(8,.c (.ptr 64000001 0)),(9,.c (.sl 64000002)),(22,.c (.sl 64000003)),(23,.c (.int .i64 v0)),(24,.c (.int .i64 v1))],[],[(128000000,.box [(.int .i64 v2)]),(256000000,.gone),(64000000,.box [.int .i64 v3,.int .i64 v4,.bool v5]),(64000001,.box [.int .i64 v6,.int .i64 v7,.bool v8]),(64000002,.row (.int .i64) v9),(64000003,.row (.int .i64) v10)]⟩
noncomputable def l0 ( k n:Nat) (v:T0):Option R:=held (loopN cs n b3 (K3 k) (s0 v))
noncomputable def D0 (v:T0):Option R:=lim fun L=>l0 (L 0) (L 1) v
theorem D0_cn (v:T0):Cn late (D0 v) fun L=>l0 (L 0) (L 1) v:=of_lim
abbrev T1:Type:=Int × Int × Int × Int × Int × Int × Int × Int × Bool × Int × Int × Bool × List Int × List Int × List Int
abbrev Y1:=T1→Option R
def s1:T1→St:=fun (v0,v1,v2,v3,v4,v5,v6,v7,v8,v9,v10,v11,v12,v13,v14)=>⟨71,1,[(2,.c (.func 178 [(128000000,0)])),(3,.c (.func 179 [(128000000,0)])),(5,.c (.ptr 64000000 0)),(8,.c (.ptr 64000001 0)),(9,.c (.sl 64000002)),(11,.c (.int .i64 v0)),(22,.c (.sl 64000003)),(23,.c (.int .i64 v1)),(24,.c (.int .i64 v2)),(32,.c (.sl 64000004)),(33,.c (.int .i64 v3)),(34,.c (.int .i64 v4))],[],[(128000000,.box [(.int .i64 v5)]),(256000000,.gone),(64000000,.box [.int .i64 v6,.int .i64 v7,.bool v8]),(64000001,.box [.int .i64 v9,.int .i64 v10,.bool v11]),(64000002,.row (.int .i64) v12),(64000003,.row (.int .i64) v13),(64000004,.row (.int .i64) v14)]⟩
noncomputable def l1 ( k m1 n:Nat) (v:T1):Option R:=held (loopN cs n b6 (K6 k m1) (s1 v))
noncomputable def D1 (v:T1):Option R:=lim fun L=>l1 (L 0) (L 1) (L 2) v
theorem D1_cn (v:T1):Cn late (D1 v) fun L=>l1 (L 0) (L 1) (L 2) v:=of_lim
def d0 (p0:Y1) (p1:g82.Y) (p2:g83.Y) (p3:g75.Y):Y0:=fun (v0,v1,v2,v3,v4,v5,v6,v7,v8,v9,v10) =>
br (decide (v1 < v0)) (br (decide (0 ≤ v1 ∧ v1 < (↑v10.length:Int))) (p0 (rd (Ty.int .i64) v10 v1,v0,v1,(↑[v3,v4].length:Int),0,v2,v3,v4,v5,v6,v7,v8,v9,v10,[v3,v4])) none) (bnd (p1 v9) fun r=>bnd (p2 v9) fun r_1=>bnd (p3 (r,r_1)) fun r=>some (r.1,r.2.1,r.2.2,v2))
theorem d0_cn (k0:Pr E T1 R) (k1:Pr E g82.A g82.R) (k2:Pr E g83.A g83.R) (k3:Pr E g75.A g75.R):∀ v:T0,Cn E (d0 k0.p k1.p k2.p k3.p v) fun i=>d0 (k0.q i) (k1.q i) (k2.q i) (k3.q i) v:=fun (v0,v1,v2,v3,v4,v5,v6,v7,v8,v9,v10)=>(.br (.br (k0.h _) .none) (.bnd (k1.h _) fun _=>(.bnd (k2.h _) fun _=>(.bnd (k3.h _) fun _=>.some))))
theorem l0_b ( k m1:Nat):∀ v:T0,run (cs m1) (loopN cs m1) b3 (kLoop cs m1 b3 (K3 k)) (s0 v) = d0 (l1 k m1 m1) (g82.f k) (g83.f k) (g75.f k) v:=fun (v0,v1,v2,v3,v4,v5,v6,v7,v8,v9,v10)=>by kernel_rfl
theorem D0_of (v:T0) {r:R} (h:d0 D1 g82.F g83.F g75.F v = some r):D0 v = some r:=loop_of 1 (fun L n hn=>by show l0 (L 0) (L 1) v = _; rw [hn]; exact (held_eq _).trans ((loopN_succ _ _ _ _ _).trans (l0_b (L 0) n v))) (d0_cn (.mk fun v=>(D1_cn v).re [0,1,1]) (lp g82.f 0) (lp g83.f 0) (lp g75.f 0) v) h
def d1 (p0:g80.Y) (p1:g81.Y) (p2:g63.Y) (p3:Y1) (p4:Y0):Y1:=fun (v0,v1,v2,v3,v4,v5,v6,v7,v8,v9,v10,v11,v12,v13,v14) =>
br (decide (v4 < v3)) (br (decide (0 ≤ v4 ∧ v4 < (↑v14.length:Int))) (bnd (p0 (v0,rd (Ty.int .i64) v14 v4,v5)) fun r=>bnd (p1 (v0,rd (Ty.int .i64) v14 v4,r.2.2)) fun r_1=>br (!decide (r.2.1 = 0) || !decide (r_1.2.1 = 0)) (bnd (p2 ()) fun r=>some (r.1,r.2.1,r.2.2,r_1.2.2)) (br (decide (v12.length + [r.1,r_1.1].length ≤ 140737488355328 / 8)) (p3 (v0,v1,v2,v3,wrap .i64 (v4 + 1),r_1.2.2,v6,v7,v8,v9,v10,v11,v12 ++ [r.1,r_1.1],v13,v14)) none)) none) (p4 (v1,wrap .i64 (v2 + 1),v5,v6,v7,v8,v9,v10,v11,v12,v13))
theorem d1_cn (k0:Pr E g80.A g80.R) (k1:Pr E g81.A g81.R) (k2:Pr E g63.A g63.R) (k3:Pr E T1 R) (k4:Pr E T0 R):∀ v:T1,Cn E (d1 k0.p k1.p k2.p k3.p k4.p v) fun i=>d1 (k0.q i) (k1.q i) (k2.q i) (k3.q i) (k4.q i) v:=fun (v0,v1,v2,v3,v4,v5,v6,v7,v8,v9,v10,v11,v12,v13,v14)=>(.br (.br (.bnd (k0.h _) fun _=>(.bnd (k1.h _) fun _=>(.br (.bnd (k2.h _) fun _=>.some) (.br (k3.h _) .none)))) .none) (k4.h _))
theorem l1_b ( k m1 m2:Nat):∀ v:T1,run (cs m2) (loopN cs m2) b6 (kLoop cs m2 b6 (K6 k m1)) (s1 v) = d1 (g80.f m2) (g81.f m2) (g63.f m2) (l1 k m1 m2) (l0 k m1) v:=fun (v0,v1,v2,v3,v4,v5,v6,v7,v8,v9,v10,v11,v12,v13,v14)=>by kernel_rfl
theorem D1_of (v:T1) {r:R} (h:d1 g80.F g81.F g63.F D1 D0 v = some r):D1 v = some r:=loop_of 2 (fun L n hn=>by show l1 (L 0) (L 1) (L 2) v = _; rw [hn]; exact (held_eq _).trans ((loopN_succ _ _ _ _ _).trans (l1_b (L 0) (L 1) n v))) (d1_cn (lp g80.f 2) (lp g81.f 2) (lp g63.f 2) (.mk fun v=>(D1_cn v).re [0,1,2]) (.mk fun v=>(D0_cn v).re [0,1]) v) h
noncomputable def f (k:Nat):Y:=fun v=>held (runFn cs k Tryz.f177 (sh.args v) (sh.slots v) dec)
noncomputable def F:Y:=lm f
def d (p0:Y0):Y:=fun (v0,v1,v2,v3,v4,v5,v6) =>
p0 ((↑[v0,v1].length:Int),0,v6,v3,v4,v5,0,0,false,[],[v0,v1])
theorem d_cn (k0:Pr E T0 R):∀ v:A,Cn E (d k0.p v) fun i=>d (k0.q i) v:=fun (v0,v1,v2,v3,v4,v5,v6)=>(k0.h _)
theorem f_b (k:Nat):∀ v:A,f k v = d (l0 k k) v:=fun (v0,v1,v2,v3,v4,v5,v6)=>(held_eq _).trans (by kernel_rfl)
theorem F_of (v:A) {r:R} (h:d D0 v = some r):F v = some r:=join_of (fun L=>f_b (L 0) v) (d_cn (.mk fun v=>(D0_cn v).re [0,0]) v) h
noncomputable def spec (k:Nat):List AV→List Slot→Option Ans:=specS sh os (f k)
theorem spec_ok (k:Nat):SpecOk Tryz.prog 177 (spec k):=specS_ok cs_ok Tryz.func177 rfl rfl (fun _ _=>held_eq _) k
end g84
noncomputable def tg84:=tg83.cons 177 g84.spec g84.spec_ok
namespace g85 -- bound_Mul_Fix
abbrev R:Type:=Int × Int × Bool
abbrev A:Type:=Int × Int × Bool × Int × Int × Bool × Int
abbrev Y:=A→Option R
def lv:List (Nat × List Nat):=[(2000000,[6])]
noncomputable def cs:Nat→Ctx:=ctxOf tis modes tg84.1 lv
theorem cs_ok (n:Nat):CtxOk Tryz.prog (cs n):=ctxOf_ok rfl tis_ok tg84.2 n
def sh:AS:=⟨[.agg [.int .i64,.int .i64,.bool],.agg [.int .i64,.int .i64,.bool],.c (.int .i64)],[]⟩
def os:OS:=⟨.agg [.int .i64,.int .i64,.bool],[]⟩
def enc (r:R):Out:=os.enc r
def dec:Out→Option R:=os.dec
noncomputable def b0:Code:=subF [] Tryz.f144
noncomputable def K0 (k:Nat):Kt R:=kTop (cs k) Tryz.f144 dec
noncomputable def f (k:Nat):Y:=fun v=>held (runFn cs k Tryz.f144 (sh.args v) (sh.slots v) dec)
noncomputable def F:Y:=lm f
def d (p0:g79.Y) (p1:g63.Y) (p2:g84.Y):Y:=fun (v0,v1,v2,v3,v4,v5,v6) =>
bnd (p0 (v0,v1,v2,v3,v4,v5)) fun r=>br (r || decide (v6 < 1)) (bnd (p1 ()) fun r=>some (r.1,r.2.1,r.2.2)) (bnd (p2 (v0,v1,v2,v3,v4,v5,v6)) fun r=>some (r.1,r.2.1,r.2.2.1))
theorem d_cn (k0:Pr E g79.A g79.R) (k1:Pr E g63.A g63.R) (k2:Pr E g84.A g84.R):∀ v:A,Cn E (d k0.p k1.p k2.p v) fun i=>d (k0.q i) (k1.q i) (k2.q i) v:=fun (v0,v1,v2,v3,v4,v5,v6)=>(.bnd (k0.h _) fun _=>(.br (.bnd (k1.h _) fun _=>.some) (.bnd (k2.h _) fun _=>.some)))
theorem f_b (k:Nat):∀ v:A,f k v = d (g79.f k) (g63.f k) (g84.f k) v:=fun (v0,v1,v2,v3,v4,v5,v6)=>(held_eq _).trans (by kernel_rfl)
theorem F_of (v:A) {r:R} (h:d g79.F g63.F g84.F v = some r):F v = some r:=join_of (fun L=>f_b (L 0) v) (d_cn (lp g79.f 0) (lp g63.f 0) (lp g84.f 0) v) h
noncomputable def spec (k:Nat):List AV→List Slot→Option Ans:=specS sh os (f k)
theorem spec_ok (k:Nat):SpecOk Tryz.prog 144 (spec k):=specS_ok cs_ok Tryz.func144 rfl rfl (fun _ _=>held_eq _) k
end g85
noncomputable def tg85:=tg84.cons 144 g85.spec g85.spec_ok
namespace g86 -- bound_Scale_Fix
abbrev R:Type:=Int × Int × Bool
abbrev A:Type:=Int × Int × Bool × Int × Int
abbrev Y:=A→Option R
def lv:List (Nat × List Nat):=[(2000000,[6])]
noncomputable def cs:Nat→Ctx:=ctxOf tis modes tg85.1 lv
theorem cs_ok (n:Nat):CtxOk Tryz.prog (cs n):=ctxOf_ok rfl tis_ok tg85.2 n
def sh:AS:=⟨[.agg [.int .i64,.int .i64,.bool],.c (.int .i64),.c (.int .i64)],[]⟩
def os:OS:=⟨.agg [.int .i64,.int .i64,.bool],[]⟩
def enc (r:R):Out:=os.enc r
def dec:Out→Option R:=os.dec
noncomputable def b0:Code:=subF [] Tryz.f141
noncomputable def K0 (k:Nat):Kt R:=kTop (cs k) Tryz.f141 dec
noncomputable def f (k:Nat):Y:=fun v=>held (runFn cs k Tryz.f141 (sh.args v) (sh.slots v) dec)
noncomputable def F:Y:=lm f
def d (p0:g78.Y) (p1:g85.Y):Y:=fun (v0,v1,v2,v3,v4) =>
bnd (p0 v3) fun r=>bnd (p1 (v0,v1,v2,r.1,r.2.1,r.2.2,v4)) fun r=>some (r.1,r.2.1,r.2.2)
theorem d_cn (k0:Pr E g78.A g78.R) (k1:Pr E g85.A g85.R):∀ v:A,Cn E (d k0.p k1.p v) fun i=>d (k0.q i) (k1.q i) v:=fun (v0,v1,v2,v3,v4)=>(.bnd (k0.h _) fun _=>(.bnd (k1.h _) fun _=>.some))
theorem f_b (k:Nat):∀ v:A,f k v = d (g78.f k) (g85.f k) v:=fun (v0,v1,v2,v3,v4)=>(held_eq _).trans (by kernel_rfl)
theorem F_of (v:A) {r:R} (h:d g78.F g85.F v = some r):F v = some r:=join_of (fun L=>f_b (L 0) v) (d_cn (lp g78.f 0) (lp g85.f 0) v) h
noncomputable def spec (k:Nat):List AV→List Slot→Option Ans:=specS sh os (f k)
theorem spec_ok (k:Nat):SpecOk Tryz.prog 141 (spec k):=specS_ok cs_ok Tryz.func141 rfl rfl (fun _ _=>held_eq _) k
end g86
noncomputable def tg86:=tg85.cons 141 g86.spec g86.spec_ok
namespace g87 -- trig_wave_1
abbrev R:Type:=Int × Int × Bool
abbrev A:Type:=Int × Int × Bool × Int
abbrev Y:=A→Option R
def lv:List (Nat × List Nat):=[(2000000,[6]),(1000008,[2,3,6,9,10]),(1000010,[6,9,10])]
noncomputable def cs:Nat→Ctx:=ctxOf tis modes tg86.1 lv
theorem cs_ok (n:Nat):CtxOk Tryz.prog (cs n):=ctxOf_ok rfl tis_ok tg86.2 n
def sh:AS:=⟨[.agg [.int .i64,.int .i64,.bool],.c (.func 124 []),.c (.int .i64)],[]⟩
def os:OS:=⟨.agg [.int .i64,.int .i64,.bool],[]⟩
def enc (r:R):Out:=os.enc r
def dec:Out→Option R:=os.dec
noncomputable def b0:Code:=subF [] Tryz.f176
noncomputable def K0 (k:Nat):Kt R:=kTop (cs k) Tryz.f176 dec
noncomputable def c1000008:Code:=sub [1,1,1,1,1] b0
noncomputable def J1000008 ( k:Nat):Kt R:=kAt (cs k) (loopN cs k) [1,1,1,1,1] b0 (K0 k)
noncomputable def c1000010:Code:=sub [1,1,1,1,1,1] b0
noncomputable def J1000010 ( k:Nat):Kt R:=kAt (cs k) (loopN cs k) [1,1,1,1,1,1] b0 (K0 k)
abbrev T0:Type:=Int × Int × Int × Int × Int × Bool × Int × Int × Bool
abbrev Y0:=T0→Option R
def s0:T0→St:=fun (v0,v1,v2,v3,v4,v5,v6,v7,v8)=>⟨44,0,[(2,.c (.int .i64 v0)),(3,.c (.ptr 64000000 0)),(6,.c (.ptr 64000001 0)),(9,.c (.int .i64 v1)),(10,.c (.int .i64 v2))],[],[(256000000,.gone),(64000000,.box [.int .i64 v3,.int .i64 v4,.bool v5]),(64000001,.box [.int .i64 v6,.int .i64 v7,.bool v8])]⟩
noncomputable def l0 ( k:Nat) (v:T0):Option R:=held (run (cs k) (loopN cs k) c1000008 (J1000008 k) (s0 v))
noncomputable def D0 (v:T0):Option R:=lim fun L=>l0 (L 0) v
theorem D0_cn (v:T0):Cn late (D0 v) fun L=>l0 (L 0) v:=of_lim
abbrev T1:Type:=Int × Int × Int × Int × Bool
abbrev Y1:=T1→Option R
def s1:T1→St:=fun (v0,v1,v2,v3,v4)=>⟨44,0,[(6,.c (.ptr 64000000 0)),(9,.c (.int .i64 v0)),(10,.c (.int .i64 v1))],[],[(256000000,.gone),(64000000,.box [.int .i64 v2,.int .i64 v3,.bool v4])]⟩
noncomputable def l1 ( k:Nat) (v:T1):Option R:=held (run (cs k) (loopN cs k) c1000010 (J1000010 k) (s1 v))
noncomputable def D1 (v:T1):Option R:=lim fun L=>l1 (L 0) v
theorem D1_cn (v:T1):Cn late (D1 v) fun L=>l1 (L 0) v:=of_lim
def d0 (p0:g72.Y) (p1:Y1):Y0:=fun (v0,v1,v2,v3,v4,v5,v6,v7,v8) =>
bnd (p0 (v3,v4,v5,wrap .i64 (v0 + 2147483648))) fun r=>br r (p1 (-1073741824,v2,v6,v7,v8)) (p1 (v1,v2,v6,v7,v8))
theorem d0_cn (k0:Pr E g72.A g72.R) (k1:Pr E T1 R):∀ v:T0,Cn E (d0 k0.p k1.p v) fun i=>d0 (k0.q i) (k1.q i) v:=fun (v0,v1,v2,v3,v4,v5,v6,v7,v8)=>(.bnd (k0.h _) fun _=>(.br (k1.h _) (k1.h _)))
theorem l0_b ( k:Nat):∀ v:T0,run (cs k) (loopN cs k) c1000008 (J1000008 k) (s0 v) = d0 (g72.f k) (l1 k) v:=fun (v0,v1,v2,v3,v4,v5,v6,v7,v8)=>by kernel_rfl
theorem D0_of (v:T0) {r:R} (h:d0 g72.F D1 v = some r):D0 v = some r:=join_of (fun L=>(held_eq _).trans (l0_b (L 0) v)) (d0_cn (lp g72.f 0) (.mk fun v=>(D1_cn v).re [0]) v) h
def d1 (p0:g75.Y):Y1:=fun (v0,v1,v2,v3,v4) =>
bnd (p0 (v0,v1)) fun r=>some (r.1,r.2.1,r.2.2)
theorem d1_cn (k0:Pr E g75.A g75.R):∀ v:T1,Cn E (d1 k0.p v) fun i=>d1 (k0.q i) v:=fun (v0,v1,v2,v3,v4)=>(.bnd (k0.h _) fun _=>.some)
theorem l1_b ( k:Nat):∀ v:T1,run (cs k) (loopN cs k) c1000010 (J1000010 k) (s1 v) = d1 (g75.f k) v:=fun (v0,v1,v2,v3,v4)=>by kernel_rfl
theorem D1_of (v:T1) {r:R} (h:d1 g75.F v = some r):D1 v = some r:=join_of (fun L=>(held_eq _).trans (l1_b (L 0) v)) (d1_cn (lp g75.f 0) v) h
noncomputable def f (k:Nat):Y:=fun v=>held (runFn cs k Tryz.f176 (sh.args v) (sh.slots v) dec)
noncomputable def F:Y:=lm f
def d (p0:g56.Y) (p1:g63.Y) (p2:g69.Y) (p3:g72.Y) (p4:Y0):Y:=fun (v0,v1,v2,v3) =>
bnd (p0 (v0,v1,v2)) fun r=>br r.2.2 (bnd (p1 ()) fun r=>some (r.1,r.2.1,r.2.2)) (bnd (p2 r.1) fun r_1=>bnd (p2 r.2.1) fun r_2=>bnd (p3 (r.1,r.2.1,r.2.2,v3)) fun r_3=>br r_3 (p4 (v3,max (-1073741824) (wrap .i64 (min r_1 r_2 - 1)),1073741824,r.1,r.2.1,r.2.2,0,0,false)) (p4 (v3,max (-1073741824) (wrap .i64 (min r_1 r_2 - 1)),min 1073741824 (wrap .i64 (max r_1 r_2 + 1)),r.1,r.2.1,r.2.2,0,0,false)))
theorem d_cn (k0:Pr E g56.A g56.R) (k1:Pr E g63.A g63.R) (k2:Pr E g69.A g69.R) (k3:Pr E g72.A g72.R) (k4:Pr E T0 R):∀ v:A,Cn E (d k0.p k1.p k2.p k3.p k4.p v) fun i=>d (k0.q i) (k1.q i) (k2.q i) (k3.q i) (k4.q i) v:=fun (v0,v1,v2,v3)=>(.bnd (k0.h _) fun _=>(.br (.bnd (k1.h _) fun _=>.some) (.bnd (k2.h _) fun _=>(.bnd (k2.h _) fun _=>(.bnd (k3.h _) fun _=>(.br (k4.h _) (k4.h _)))))))
theorem f_b (k:Nat):∀ v:A,f k v = d (g56.f k) (g63.f k) (g69.f k) (g72.f k) (l0 k) v:=fun (v0,v1,v2,v3)=>(held_eq _).trans (by kernel_rfl)
theorem F_of (v:A) {r:R} (h:d g56.F g63.F g69.F g72.F D0 v = some r):F v = some r:=join_of (fun L=>f_b (L 0) v) (d_cn (lp g56.f 0) (lp g63.f 0) (lp g69.f 0) (lp g72.f 0) (.mk fun v=>(D0_cn v).re [0]) v) h
noncomputable def spec (k:Nat):List AV→List Slot→Option Ans:=specS sh os (f k)
theorem spec_ok (k:Nat):SpecOk Tryz.prog 176 (spec k):=specS_ok cs_ok Tryz.func176 rfl rfl (fun _ _=>held_eq _) k
end g87
noncomputable def tg87:=tg86.cons 176 g87.spec g87.spec_ok
namespace g88 -- trig_SinBound
abbrev R:Type:=Int × Int × Bool
abbrev A:Type:=Int × Int × Bool
abbrev Y:=A→Option R
def lv:List (Nat × List Nat):=[(2000000,[2])]
noncomputable def cs:Nat→Ctx:=ctxOf tis modes tg87.1 lv
theorem cs_ok (n:Nat):CtxOk Tryz.prog (cs n):=ctxOf_ok rfl tis_ok tg87.2 n
def sh:AS:=⟨[(.agg [.int .i64,.int .i64,.bool])],[]⟩
def os:OS:=⟨.agg [.int .i64,.int .i64,.bool],[]⟩
def enc (r:R):Out:=os.enc r
def dec:Out→Option R:=os.dec
noncomputable def b0:Code:=subF [] Tryz.f143
noncomputable def K0 (k:Nat):Kt R:=kTop (cs k) Tryz.f143 dec
noncomputable def f (k:Nat):Y:=fun v=>held (runFn cs k Tryz.f143 (sh.args v) (sh.slots v) dec)
noncomputable def F:Y:=lm f
def d (p0:g87.Y):Y:=fun (v0,v1,v2) =>
bnd (p0 (v0,v1,v2,1073741824)) fun r=>some (r.1,r.2.1,r.2.2)
theorem d_cn (k0:Pr E g87.A g87.R):∀ v:A,Cn E (d k0.p v) fun i=>d (k0.q i) v:=fun (v0,v1,v2)=>(.bnd (k0.h _) fun _=>.some)
theorem f_b (k:Nat):∀ v:A,f k v = d (g87.f k) v:=fun (v0,v1,v2)=>(held_eq _).trans (by kernel_rfl)
theorem F_of (v:A) {r:R} (h:d g87.F v = some r):F v = some r:=join_of (fun L=>f_b (L 0) v) (d_cn (lp g87.f 0) v) h
noncomputable def spec (k:Nat):List AV→List Slot→Option Ans:=specS sh os (f k)
theorem spec_ok (k:Nat):SpecOk Tryz.prog 143 (spec k):=specS_ok cs_ok Tryz.func143 rfl rfl (fun _ _=>held_eq _) k
end g88
noncomputable def tg88:=tg87.cons 143 g88.spec g88.spec_ok
namespace g89 -- bound_Add_Fix
abbrev R:Type:=Int × Int × Bool
abbrev A:Type:=Int × Int × Bool × Int × Int × Bool
abbrev Y:=A→Option R
def lv:List (Nat × List Nat):=[(2000000,[4])]
noncomputable def cs:Nat→Ctx:=ctxOf tis modes tg88.1 lv
theorem cs_ok (n:Nat):CtxOk Tryz.prog (cs n):=ctxOf_ok rfl tis_ok tg88.2 n
def sh:AS:=⟨[.agg [.int .i64,.int .i64,.bool],.agg [.int .i64,.int .i64,.bool]],[]⟩
def os:OS:=⟨.agg [.int .i64,.int .i64,.bool],[]⟩
def enc (r:R):Out:=os.enc r
def dec:Out→Option R:=os.dec
noncomputable def b0:Code:=subF [] Tryz.f140
noncomputable def K0 (k:Nat):Kt R:=kTop (cs k) Tryz.f140 dec
noncomputable def f (k:Nat):Y:=fun v=>held (runFn cs k Tryz.f140 (sh.args v) (sh.slots v) dec)
noncomputable def F:Y:=lm f
def d (p0:g79.Y) (p1:g63.Y) (p2:g75.Y):Y:=fun (v0,v1,v2,v3,v4,v5) =>
bnd (p0 (v0,v1,v2,v3,v4,v5)) fun r=>br r (bnd (p1 ()) fun r=>some (r.1,r.2.1,r.2.2)) (bnd (p2 (wrap .i64 (v0 + v3),wrap .i64 (v1 + v4))) fun r=>some (r.1,r.2.1,r.2.2))
theorem d_cn (k0:Pr E g79.A g79.R) (k1:Pr E g63.A g63.R) (k2:Pr E g75.A g75.R):∀ v:A,Cn E (d k0.p k1.p k2.p v) fun i=>d (k0.q i) (k1.q i) (k2.q i) v:=fun (v0,v1,v2,v3,v4,v5)=>(.bnd (k0.h _) fun _=>(.br (.bnd (k1.h _) fun _=>.some) (.bnd (k2.h _) fun _=>.some)))
theorem f_b (k:Nat):∀ v:A,f k v = d (g79.f k) (g63.f k) (g75.f k) v:=fun (v0,v1,v2,v3,v4,v5)=>(held_eq _).trans (by kernel_rfl)
theorem F_of (v:A) {r:R} (h:d g79.F g63.F g75.F v = some r):F v = some r:=join_of (fun L=>f_b (L 0) v) (d_cn (lp g79.f 0) (lp g63.f 0) (lp g75.f 0) v) h
noncomputable def spec (k:Nat):List AV→List Slot→Option Ans:=specS sh os (f k)
theorem spec_ok (k:Nat):SpecOk Tryz.prog 140 (spec k):=specS_ok cs_ok Tryz.func140 rfl rfl (fun _ _=>held_eq _) k
end g89
noncomputable def tg89:=tg88.cons 140 g89.spec g89.spec_ok
namespace g90 -- num_SqrtMul
abbrev R:Type:=Int
abbrev A:Type:=Int × Int
abbrev Y:=A→Option R
def lv:List (Nat × List Nat):=[(2000000,[4]),(6,[5,6,7,8]),(1000007,[5,6,7,8])]
noncomputable def cs:Nat→Ctx:=ctxOf tis modes tg89.1 lv
theorem cs_ok (n:Nat):CtxOk Tryz.prog (cs n):=ctxOf_ok rfl tis_ok tg89.2 n
def sh:AS:=⟨[.c (.int .i64),.c (.int .i64)],[]⟩
def os:OS:=⟨.c (.int .i64),[]⟩
def enc (r:R):Out:=os.enc r
def dec:Out→Option R:=os.dec
noncomputable def b0:Code:=subF [] Tryz.f167
noncomputable def K0 (k:Nat):Kt R:=kTop (cs k) Tryz.f167 dec
noncomputable def b6:Code:=sub [1,1,1,1,0,1,0,0] b0
noncomputable def K6 ( k:Nat):Kt R:=kAt (cs k) (loopN cs k) [1,1,1,1,0,1,0] b0 (K0 k)
noncomputable def c1000007:Code:=sub [1,1] b6
noncomputable def J1000007 ( k m1:Nat):Kt R:=kAt (cs m1) (loopN cs m1) [1,1] b6 (kLoop cs m1 b6 (K6 k))
abbrev T0:Type:=Int × Int × Int × Int
abbrev Y0:=T0→Option R
def s0:T0→St:=fun (v0,v1,v2,v3)=>⟨57,0,[(5,.c (.int .u64 v0)),(6,.c (.int .u64 v1)),(7,.c (.int .u64 v2)),(8,.c (.int .u64 v3))],[],[(256000000,.gone)]⟩
noncomputable def l0 ( k n:Nat) (v:T0):Option R:=held (loopN cs n b6 (K6 k) (s0 v))
noncomputable def D0 (v:T0):Option R:=lim fun L=>l0 (L 0) (L 1) v
theorem D0_cn (v:T0):Cn late (D0 v) fun L=>l0 (L 0) (L 1) v:=of_lim
abbrev T1:Type:=Int × Int × Int × Int
abbrev Y1:=T1→Option R
def s1:T1→St:=fun (v0,v1,v2,v3)=>⟨57,0,[(5,.c (.int .u64 v0)),(6,.c (.int .u64 v1)),(7,.c (.int .u64 v2)),(8,.c (.int .u64 v3))],[],[(256000000,.gone)]⟩
noncomputable def l1 ( k m1:Nat) (v:T1):Option R:=held (run (cs m1) (loopN cs m1) c1000007 (J1000007 k m1) (s1 v))
noncomputable def D1 (v:T1):Option R:=lim fun L=>l1 (L 0) (L 1) v
theorem D1_cn (v:T1):Cn late (D1 v) fun L=>l1 (L 0) (L 1) v:=of_lim
def d0 (p0:g11.Y) (p1:Y1):Y0:=fun (v0,v1,v2,v3) =>
br (decide (0 < v3)) (bnd (p0 (bOr .u64 v2 v3,bOr .u64 v2 v3)) fun r=>br (decide (r.1 < v0) || decide (r.1 = v0) && decide (r.2 ≤ v1)) (p1 (v0,v1,bOr .u64 v2 v3,v3)) (p1 (v0,v1,v2,v3))) (some (wrap .i64 v2))
theorem d0_cn (k0:Pr E g11.A g11.R) (k1:Pr E T1 R):∀ v:T0,Cn E (d0 k0.p k1.p v) fun i=>d0 (k0.q i) (k1.q i) v:=fun (v0,v1,v2,v3)=>(.br (.bnd (k0.h _) fun _=>(.br (k1.h _) (k1.h _))) .some)
theorem l0_b ( k m1:Nat):∀ v:T0,run (cs m1) (loopN cs m1) b6 (kLoop cs m1 b6 (K6 k)) (s0 v) = d0 (g11.f m1) (l1 k m1) v:=fun (v0,v1,v2,v3)=>by kernel_rfl
theorem D0_of (v:T0) {r:R} (h:d0 g11.F D1 v = some r):D0 v = some r:=loop_of 1 (fun L n hn=>by show l0 (L 0) (L 1) v = _; rw [hn]; exact (held_eq _).trans ((loopN_succ _ _ _ _ _).trans (l0_b (L 0) n v))) (d0_cn (lp g11.f 1) (.mk fun v=>(D1_cn v).re [0,1]) v) h
def d1 (p0:Y0):Y1:=fun (v0,v1,v2,v3) =>
br (decide ((0:Int) ≤ 1)) (p0 (v0,v1,v2,shr .u64 v3 1)) none
theorem d1_cn (k0:Pr E T0 R):∀ v:T1,Cn E (d1 k0.p v) fun i=>d1 (k0.q i) v:=fun (v0,v1,v2,v3)=>(.br (k0.h _) .none)
theorem l1_b ( k m1:Nat):∀ v:T1,run (cs m1) (loopN cs m1) c1000007 (J1000007 k m1) (s1 v) = d1 (l0 k m1) v:=fun (v0,v1,v2,v3)=>by kernel_rfl
theorem D1_of (v:T1) {r:R} (h:d1 D0 v = some r):D1 v = some r:=join_of (fun L=>(held_eq _).trans (l1_b (L 0) (L 1) v)) (d1_cn (.mk fun v=>(D0_cn v).re [0,1]) v) h
noncomputable def f (k:Nat):Y:=fun v=>held (runFn cs k Tryz.f167 (sh.args v) (sh.slots v) dec)
noncomputable def F:Y:=lm f
def d (p0:g11.Y) (p1:Y0):Y:=fun (v0,v1) =>
br (decide (v0 < 0) || decide (v1 < 0)) (some 0) (bnd (p0 (wrap .u64 v0,wrap .u64 v1)) fun r=>p1 (r.1,r.2,0,4611686018427387904))
theorem d_cn (k0:Pr E g11.A g11.R) (k1:Pr E T0 R):∀ v:A,Cn E (d k0.p k1.p v) fun i=>d (k0.q i) (k1.q i) v:=fun (v0,v1)=>(.br .some (.bnd (k0.h _) fun _=>(k1.h _)))
theorem f_b (k:Nat):∀ v:A,f k v = d (g11.f k) (l0 k k) v:=fun (v0,v1)=>(held_eq _).trans (by kernel_rfl)
theorem F_of (v:A) {r:R} (h:d g11.F D0 v = some r):F v = some r:=join_of (fun L=>f_b (L 0) v) (d_cn (lp g11.f 0) (.mk fun v=>(D0_cn v).re [0,0]) v) h
noncomputable def spec (k:Nat):List AV→List Slot→Option Ans:=specS sh os (f k)
theorem spec_ok (k:Nat):SpecOk Tryz.prog 167 (spec k):=specS_ok cs_ok Tryz.func167 rfl rfl (fun _ _=>held_eq _) k
end g90
noncomputable def tg90:=tg89.cons 167 g90.spec g90.spec_ok
namespace g91 -- bound_Root_Fix
abbrev R:Type:=Int × Int × Bool
abbrev A:Type:=Int × Int × Bool × Int
abbrev Y:=A→Option R
def lv:List (Nat × List Nat):=[(2000000,[4]),(1000006,[4,5,6])]
noncomputable def cs:Nat→Ctx:=ctxOf tis modes tg90.1 lv
theorem cs_ok (n:Nat):CtxOk Tryz.prog (cs n):=ctxOf_ok rfl tis_ok tg90.2 n
def sh:AS:=⟨[.agg [.int .i64,.int .i64,.bool],.c (.int .i64)],[]⟩
def os:OS:=⟨.agg [.int .i64,.int .i64,.bool],[]⟩
def enc (r:R):Out:=os.enc r
def dec:Out→Option R:=os.dec
noncomputable def b0:Code:=subF [] Tryz.f145
noncomputable def K0 (k:Nat):Kt R:=kTop (cs k) Tryz.f145 dec
noncomputable def c1000006:Code:=sub [1,1,1,1] b0
noncomputable def J1000006 ( k:Nat):Kt R:=kAt (cs k) (loopN cs k) [1,1,1,1] b0 (K0 k)
abbrev T0:Type:=Int × Int × Int × Int × Bool
abbrev Y0:=T0→Option R
def s0:T0→St:=fun (v0,v1,v2,v3,v4)=>⟨43,0,[(4,.c (.ptr 64000000 0)),(5,.c (.int .i64 v0)),(6,.c (.int .i64 v1))],[],[(256000000,.gone),(64000000,.box [.int .i64 v2,.int .i64 v3,.bool v4])]⟩
noncomputable def l0 ( k:Nat) (v:T0):Option R:=held (run (cs k) (loopN cs k) c1000006 (J1000006 k) (s0 v))
noncomputable def D0 (v:T0):Option R:=lim fun L=>l0 (L 0) v
theorem D0_cn (v:T0):Cn late (D0 v) fun L=>l0 (L 0) v:=of_lim
def d0 (p0:g75.Y):Y0:=fun (v0,v1,v2,v3,v4) =>
bnd (p0 (v0,v1)) fun r=>some (r.1,r.2.1,r.2.2)
theorem d0_cn (k0:Pr E g75.A g75.R):∀ v:T0,Cn E (d0 k0.p v) fun i=>d0 (k0.q i) v:=fun (v0,v1,v2,v3,v4)=>(.bnd (k0.h _) fun _=>.some)
theorem l0_b ( k:Nat):∀ v:T0,run (cs k) (loopN cs k) c1000006 (J1000006 k) (s0 v) = d0 (g75.f k) v:=fun (v0,v1,v2,v3,v4)=>by kernel_rfl
theorem D0_of (v:T0) {r:R} (h:d0 g75.F v = some r):D0 v = some r:=join_of (fun L=>(held_eq _).trans (l0_b (L 0) v)) (d0_cn (lp g75.f 0) v) h
noncomputable def f (k:Nat):Y:=fun v=>held (runFn cs k Tryz.f145 (sh.args v) (sh.slots v) dec)
noncomputable def F:Y:=lm f
def d (p0:g79.Y) (p1:g63.Y) (p2:g90.Y) (p3:g14.Y) (p4:g20.Y) (p5:Y0):Y:=fun (v0,v1,v2,v3) =>
bnd (p0 (v0,v1,v2,v0,v1,v2)) fun r=>br (r || decide (v3 < 1) || decide (v1 < 0)) (bnd (p1 ()) fun r=>some (r.1,r.2.1,r.2.2)) (bnd (p2 (max v0 0,v3)) fun r=>bnd (p2 (v1,v3)) fun r_1=>bnd (p3 (r_1,r_1)) fun r_2=>bnd (p3 (v1,v3)) fun r_3=>bnd (p4 (r_2.1,r_2.2,r_3.1,r_3.2)) fun r_4=>br (decide (r_4 < 0)) (p5 (r,wrap .i64 (r_1 + 1),0,0,false)) (p5 (r,r_1,0,0,false)))
theorem d_cn (k0:Pr E g79.A g79.R) (k1:Pr E g63.A g63.R) (k2:Pr E g90.A g90.R) (k3:Pr E g14.A g14.R) (k4:Pr E g20.A g20.R) (k5:Pr E T0 R):∀ v:A,Cn E (d k0.p k1.p k2.p k3.p k4.p k5.p v) fun i=>d (k0.q i) (k1.q i) (k2.q i) (k3.q i) (k4.q i) (k5.q i) v:=fun (v0,v1,v2,v3)=>(.bnd (k0.h _) fun _=>(.br (.bnd (k1.h _) fun _=>.some) (.bnd (k2.h _) fun _=>(.bnd (k2.h _) fun _=>(.bnd (k3.h _) fun _=>(.bnd (k3.h _) fun _=>(.bnd (k4.h _) fun _=>(.br (k5.h _) (k5.h _)))))))))
theorem f_b (k:Nat):∀ v:A,f k v = d (g79.f k) (g63.f k) (g90.f k) (g14.f k) (g20.f k) (l0 k) v:=fun (v0,v1,v2,v3)=>(held_eq _).trans (by kernel_rfl)
theorem F_of (v:A) {r:R} (h:d g79.F g63.F g90.F g14.F g20.F D0 v = some r):F v = some r:=join_of (fun L=>f_b (L 0) v) (d_cn (lp g79.f 0) (lp g63.f 0) (lp g90.f 0) (lp g14.f 0) (lp g20.f 0) (.mk fun v=>(D0_cn v).re [0]) v) h
noncomputable def spec (k:Nat):List AV→List Slot→Option Ans:=specS sh os (f k)
theorem spec_ok (k:Nat):SpecOk Tryz.prog 145 (spec k):=specS_ok cs_ok Tryz.func145 rfl rfl (fun _ _=>held_eq _) k
end g91
noncomputable def tg91:=tg90.cons 145 g91.spec g91.spec_ok
namespace g92 -- bound_Neg_Fix
abbrev R:Type:=Int × Int × Bool
abbrev A:Type:=Int × Int × Bool
abbrev Y:=A→Option R
def lv:List (Nat × List Nat):=[(2000000,[2])]
noncomputable def cs:Nat→Ctx:=ctxOf tis modes tg91.1 lv
theorem cs_ok (n:Nat):CtxOk Tryz.prog (cs n):=ctxOf_ok rfl tis_ok tg91.2 n
def sh:AS:=⟨[(.agg [.int .i64,.int .i64,.bool])],[]⟩
def os:OS:=⟨.agg [.int .i64,.int .i64,.bool],[]⟩
def enc (r:R):Out:=os.enc r
def dec:Out→Option R:=os.dec
noncomputable def b0:Code:=subF [] Tryz.f180
noncomputable def K0 (k:Nat):Kt R:=kTop (cs k) Tryz.f180 dec
noncomputable def f (k:Nat):Y:=fun v=>held (runFn cs k Tryz.f180 (sh.args v) (sh.slots v) dec)
noncomputable def F:Y:=lm f
def d (p0:g74.Y):Y:=fun (v0,v1,v2) =>
bnd (p0 (v0,v1,v2)) fun r=>some (wrap .i64 (0 - r.2.1),wrap .i64 (0 - r.1),r.2.2)
theorem d_cn (k0:Pr E g74.A g74.R):∀ v:A,Cn E (d k0.p v) fun i=>d (k0.q i) v:=fun (v0,v1,v2)=>(.bnd (k0.h _) fun _=>.some)
theorem f_b (k:Nat):∀ v:A,f k v = d (g74.f k) v:=fun (v0,v1,v2)=>(held_eq _).trans (by kernel_rfl)
theorem F_of (v:A) {r:R} (h:d g74.F v = some r):F v = some r:=join_of (fun L=>f_b (L 0) v) (d_cn (lp g74.f 0) v) h
noncomputable def spec (k:Nat):List AV→List Slot→Option Ans:=specS sh os (f k)
theorem spec_ok (k:Nat):SpecOk Tryz.prog 180 (spec k):=specS_ok cs_ok Tryz.func180 rfl rfl (fun _ _=>held_eq _) k
end g92
noncomputable def tg92:=tg91.cons 180 g92.spec g92.spec_ok
namespace g93 -- bound_Div_FixS1
abbrev R:Type:=Int × Int × Int
abbrev A:Type:=Int × Int × Int
abbrev Y:=A→Option R
def lv:List (Nat × List Nat):=[(2000000,[5,6])]
noncomputable def cs:Nat→Ctx:=ctxOf tis modes tg92.1 lv
theorem cs_ok (n:Nat):CtxOk Tryz.prog (cs n):=ctxOf_ok rfl tis_ok tg92.2 n
def sh:AS:=⟨[.c (.int .i64),.c (.int .i64),.c (.ptr 128000000 0)],[(.box [(.int .i64)])]⟩
def os:OS:=⟨.tup [.c (.int .i64),.c (.int .i64)],[(.box [(.int .i64)])]⟩
def enc (r:R):Out:=os.enc r
def dec:Out→Option R:=os.dec
noncomputable def b0:Code:=subF [] Tryz.f181
noncomputable def K0 (k:Nat):Kt R:=kTop (cs k) Tryz.f181 dec
noncomputable def f (k:Nat):Y:=fun v=>held (runFn cs k Tryz.f181 (sh.args v) (sh.slots v) dec)
noncomputable def F:Y:=lm f
def d (p0:g52.Y):Y:=fun (v0,v1,v2) =>
bnd (p0 (v0,v2,v1)) fun r=>some (r.1,r.2,v2)
theorem d_cn (k0:Pr E g52.A g52.R):∀ v:A,Cn E (d k0.p v) fun i=>d (k0.q i) v:=fun (v0,v1,v2)=>(.bnd (k0.h _) fun _=>.some)
theorem f_b (k:Nat):∀ v:A,f k v = d (g52.f k) v:=fun (v0,v1,v2)=>(held_eq _).trans (by kernel_rfl)
theorem F_of (v:A) {r:R} (h:d g52.F v = some r):F v = some r:=join_of (fun L=>f_b (L 0) v) (d_cn (lp g52.f 0) v) h
noncomputable def spec (k:Nat):List AV→List Slot→Option Ans:=specS sh os (f k)
theorem spec_ok (k:Nat):SpecOk Tryz.prog 181 (spec k):=specS_ok cs_ok Tryz.func181 rfl rfl (fun _ _=>held_eq _) k
end g93
noncomputable def tg93:=tg92.cons 181 g93.spec g93.spec_ok
namespace g94 -- bound_Div_FixS2
abbrev R:Type:=Int × Int × Int
abbrev A:Type:=Int × Int × Int
abbrev Y:=A→Option R
def lv:List (Nat × List Nat):=[(2000000,[5,6])]
noncomputable def cs:Nat→Ctx:=ctxOf tis modes tg93.1 lv
theorem cs_ok (n:Nat):CtxOk Tryz.prog (cs n):=ctxOf_ok rfl tis_ok tg93.2 n
def sh:AS:=⟨[.c (.int .i64),.c (.int .i64),.c (.ptr 128000000 0)],[(.box [(.int .i64)])]⟩
def os:OS:=⟨.tup [.c (.int .i64),.c (.int .i64)],[(.box [(.int .i64)])]⟩
def enc (r:R):Out:=os.enc r
def dec:Out→Option R:=os.dec
noncomputable def b0:Code:=subF [] Tryz.f182
noncomputable def K0 (k:Nat):Kt R:=kTop (cs k) Tryz.f182 dec
noncomputable def f (k:Nat):Y:=fun v=>held (runFn cs k Tryz.f182 (sh.args v) (sh.slots v) dec)
noncomputable def F:Y:=lm f
def d (p0:g54.Y):Y:=fun (v0,v1,v2) =>
bnd (p0 (v0,v2,v1)) fun r=>some (r.1,r.2,v2)
theorem d_cn (k0:Pr E g54.A g54.R):∀ v:A,Cn E (d k0.p v) fun i=>d (k0.q i) v:=fun (v0,v1,v2)=>(.bnd (k0.h _) fun _=>.some)
theorem f_b (k:Nat):∀ v:A,f k v = d (g54.f k) v:=fun (v0,v1,v2)=>(held_eq _).trans (by kernel_rfl)
theorem F_of (v:A) {r:R} (h:d g54.F v = some r):F v = some r:=join_of (fun L=>f_b (L 0) v) (d_cn (lp g54.f 0) v) h
noncomputable def spec (k:Nat):List AV→List Slot→Option Ans:=specS sh os (f k)
theorem spec_ok (k:Nat):SpecOk Tryz.prog 182 (spec k):=specS_ok cs_ok Tryz.func182 rfl rfl (fun _ _=>held_eq _) k
end g94
noncomputable def tg94:=tg93.cons 182 g94.spec g94.spec_ok
namespace g95 -- bound_corners_Fix_1
abbrev R:Type:=Int × Int × Bool × Int
abbrev A:Type:=Int × Int × Bool × Int × Int × Bool × Int
abbrev Y:=A→Option R
def lv:List (Nat × List Nat):=[(2000000,[8]),(3,[2,3,5,8,9,22,23,24]),(6,[2,3,5,8,9,11,22,23,24,32,33,34])]
noncomputable def cs:Nat→Ctx:=ctxOf tis modes tg94.1 lv
theorem cs_ok (n:Nat):CtxOk Tryz.prog (cs n):=ctxOf_ok rfl tis_ok tg94.2 n
def sh:AS:=⟨[.agg [.int .i64,.int .i64,.bool],.agg [.int .i64,.int .i64,.bool],.c (.func 181 [(128000000,0)]),.c (.func 182 [(128000000,0)])],[(.box [(.int .i64)])]⟩
def os:OS:=⟨.agg [.int .i64,.int .i64,.bool],[(.box [(.int .i64)])]⟩
def enc (r:R):Out:=os.enc r
def dec:Out→Option R:=os.dec
noncomputable def b0:Code:=subF [] Tryz.f177
noncomputable def K0 (k:Nat):Kt R:=kTop (cs k) Tryz.f177 dec
noncomputable def b3:Code:=sub [1,1,0,1,0,0] b0
noncomputable def K3 ( k:Nat):Kt R:=kAt (cs k) (loopN cs k) [1,1,0,1,0] b0 (K0 k)
noncomputable def b6:Code:=sub [1,1,0,0,1,1,0,0] b3
noncomputable def K6 ( k m1:Nat):Kt R:=kAt (cs m1) (loopN cs m1) [1,1,0,0,1,1,0] b3 (kLoop cs m1 b3 (K3 k))
abbrev T0:Type:=Int × Int × Int × Int × Int × Bool × Int × Int × Bool × List Int × List Int
abbrev Y0:=T0→Option R
def s0:T0→St:=fun (v0,v1,v2,v3,v4,v5,v6,v7,v8,v9,v10)=>⟨71,1,[(2,.c (.func 181 [(128000000,0)])),(3,.c (.func 182 [(128000000,0)])),(5,.c (.ptr 64000000 0)),(8,.c (.ptr 64000001 0)),(9,.c (.sl 64000002)),(22,.c (.sl 64000003)),(23,.c (.int .i64 v0)),(24,.c (.int .i64 v1))],[],[(128000000,.box [(.int .i64 v2)]),(256000000,.gone),(64000000,.box [.int .i64 v3,.int .i64 v4,.bool v5]),(64000001,.box [.int .i64 v6,.int .i64 v7,.bool v8]),(64000002,.row (.int .i64) v9),(64000003,.row (.int .i64) v10)]⟩
noncomputable def l0 ( k n:Nat) (v:T0):Option R:=held (loopN cs n b3 (K3 k) (s0 v))
noncomputable def D0 (v:T0):Option R:=lim fun L=>l0 (L 0) (L 1) v
theorem D0_cn (v:T0):Cn late (D0 v) fun L=>l0 (L 0) (L 1) v:=of_lim
abbrev T1:Type:=Int × Int × Int × Int × Int × Int × Int × Int × Bool × Int × Int × Bool × List Int × List Int × List Int
abbrev Y1:=T1→Option R
def s1:T1→St:=fun (v0,v1,v2,v3,v4,v5,v6,v7,v8,v9,v10,v11,v12,v13,v14)=>⟨71,1,[(2,.c (.func 181 [(128000000,0)])),(3,.c (.func 182 [(128000000,0)])),(5,.c (.ptr 64000000 0)),(8,.c (.ptr 64000001 0)),(9,.c (.sl 64000002)),(11,.c (.int .i64 v0)),(22,.c (.sl 64000003)),(23,.c (.int .i64 v1)),(24,.c (.int .i64 v2)),(32,.c (.sl 64000004)),(33,.c (.int .i64 v3)),(34,.c (.int .i64 v4))],[],[(128000000,.box [(.int .i64 v5)]),(256000000,.gone),(64000000,.box [.int .i64 v6,.int .i64 v7,.bool v8]),(64000001,.box [.int .i64 v9,.int .i64 v10,.bool v11]),(64000002,.row (.int .i64) v12),(64000003,.row (.int .i64) v13),(64000004,.row (.int .i64) v14)]⟩
noncomputable def l1 ( k m1 n:Nat) (v:T1):Option R:=held (loopN cs n b6 (K6 k m1) (s1 v))
noncomputable def D1 (v:T1):Option R:=lim fun L=>l1 (L 0) (L 1) (L 2) v
theorem D1_cn (v:T1):Cn late (D1 v) fun L=>l1 (L 0) (L 1) (L 2) v:=of_lim
def d0 (p0:Y1) (p1:g82.Y) (p2:g83.Y) (p3:g75.Y):Y0:=fun (v0,v1,v2,v3,v4,v5,v6,v7,v8,v9,v10) =>
br (decide (v1 < v0)) (br (decide (0 ≤ v1 ∧ v1 < (↑v10.length:Int))) (p0 (rd (Ty.int .i64) v10 v1,v0,v1,(↑[v3,v4].length:Int),0,v2,v3,v4,v5,v6,v7,v8,v9,v10,[v3,v4])) none) (bnd (p1 v9) fun r=>bnd (p2 v9) fun r_1=>bnd (p3 (r,r_1)) fun r=>some (r.1,r.2.1,r.2.2,v2))
theorem d0_cn (k0:Pr E T1 R) (k1:Pr E g82.A g82.R) (k2:Pr E g83.A g83.R) (k3:Pr E g75.A g75.R):∀ v:T0,Cn E (d0 k0.p k1.p k2.p k3.p v) fun i=>d0 (k0.q i) (k1.q i) (k2.q i) (k3.q i) v:=fun (v0,v1,v2,v3,v4,v5,v6,v7,v8,v9,v10)=>(.br (.br (k0.h _) .none) (.bnd (k1.h _) fun _=>(.bnd (k2.h _) fun _=>(.bnd (k3.h _) fun _=>.some))))
theorem l0_b ( k m1:Nat):∀ v:T0,run (cs m1) (loopN cs m1) b3 (kLoop cs m1 b3 (K3 k)) (s0 v) = d0 (l1 k m1 m1) (g82.f k) (g83.f k) (g75.f k) v:=fun (v0,v1,v2,v3,v4,v5,v6,v7,v8,v9,v10)=>by kernel_rfl
theorem D0_of (v:T0) {r:R} (h:d0 D1 g82.F g83.F g75.F v = some r):D0 v = some r:=loop_of 1 (fun L n hn=>by show l0 (L 0) (L 1) v = _; rw [hn]; exact (held_eq _).trans ((loopN_succ _ _ _ _ _).trans (l0_b (L 0) n v))) (d0_cn (.mk fun v=>(D1_cn v).re [0,1,1]) (lp g82.f 0) (lp g83.f 0) (lp g75.f 0) v) h
def d1 (p0:g93.Y) (p1:g94.Y) (p2:g63.Y) (p3:Y1) (p4:Y0):Y1:=fun (v0,v1,v2,v3,v4,v5,v6,v7,v8,v9,v10,v11,v12,v13,v14) =>
br (decide (v4 < v3)) (br (decide (0 ≤ v4 ∧ v4 < (↑v14.length:Int))) (bnd (p0 (v0,rd (Ty.int .i64) v14 v4,v5)) fun r=>bnd (p1 (v0,rd (Ty.int .i64) v14 v4,r.2.2)) fun r_1=>br (!decide (r.2.1 = 0) || !decide (r_1.2.1 = 0)) (bnd (p2 ()) fun r=>some (r.1,r.2.1,r.2.2,r_1.2.2)) (br (decide (v12.length + [r.1,r_1.1].length ≤ 140737488355328 / 8)) (p3 (v0,v1,v2,v3,wrap .i64 (v4 + 1),r_1.2.2,v6,v7,v8,v9,v10,v11,v12 ++ [r.1,r_1.1],v13,v14)) none)) none) (p4 (v1,wrap .i64 (v2 + 1),v5,v6,v7,v8,v9,v10,v11,v12,v13))
theorem d1_cn (k0:Pr E g93.A g93.R) (k1:Pr E g94.A g94.R) (k2:Pr E g63.A g63.R) (k3:Pr E T1 R) (k4:Pr E T0 R):∀ v:T1,Cn E (d1 k0.p k1.p k2.p k3.p k4.p v) fun i=>d1 (k0.q i) (k1.q i) (k2.q i) (k3.q i) (k4.q i) v:=fun (v0,v1,v2,v3,v4,v5,v6,v7,v8,v9,v10,v11,v12,v13,v14)=>(.br (.br (.bnd (k0.h _) fun _=>(.bnd (k1.h _) fun _=>(.br (.bnd (k2.h _) fun _=>.some) (.br (k3.h _) .none)))) .none) (k4.h _))
theorem l1_b ( k m1 m2:Nat):∀ v:T1,run (cs m2) (loopN cs m2) b6 (kLoop cs m2 b6 (K6 k m1)) (s1 v) = d1 (g93.f m2) (g94.f m2) (g63.f m2) (l1 k m1 m2) (l0 k m1) v:=fun (v0,v1,v2,v3,v4,v5,v6,v7,v8,v9,v10,v11,v12,v13,v14)=>by kernel_rfl
theorem D1_of (v:T1) {r:R} (h:d1 g93.F g94.F g63.F D1 D0 v = some r):D1 v = some r:=loop_of 2 (fun L n hn=>by show l1 (L 0) (L 1) (L 2) v = _; rw [hn]; exact (held_eq _).trans ((loopN_succ _ _ _ _ _).trans (l1_b (L 0) (L 1) n v))) (d1_cn (lp g93.f 2) (lp g94.f 2) (lp g63.f 2) (.mk fun v=>(D1_cn v).re [0,1,2]) (.mk fun v=>(D0_cn v).re [0,1]) v) h
noncomputable def f (k:Nat):Y:=fun v=>held (runFn cs k Tryz.f177 (sh.args v) (sh.slots v) dec)
noncomputable def F:Y:=lm f
def d (p0:Y0):Y:=fun (v0,v1,v2,v3,v4,v5,v6) =>
p0 ((↑[v0,v1].length:Int),0,v6,v3,v4,v5,0,0,false,[],[v0,v1])
theorem d_cn (k0:Pr E T0 R):∀ v:A,Cn E (d k0.p v) fun i=>d (k0.q i) v:=fun (v0,v1,v2,v3,v4,v5,v6)=>(k0.h _)
theorem f_b (k:Nat):∀ v:A,f k v = d (l0 k k) v:=fun (v0,v1,v2,v3,v4,v5,v6)=>(held_eq _).trans (by kernel_rfl)
theorem F_of (v:A) {r:R} (h:d D0 v = some r):F v = some r:=join_of (fun L=>f_b (L 0) v) (d_cn (.mk fun v=>(D0_cn v).re [0,0]) v) h
noncomputable def spec (k:Nat):List AV→List Slot→Option Ans:=specS sh os (f k)
theorem spec_ok (k:Nat):SpecOk Tryz.prog 177 (spec k):=specS_ok cs_ok Tryz.func177 rfl rfl (fun _ _=>held_eq _) k
end g95
noncomputable def tg95:=tg94.cons 177 g95.spec g95.spec_ok
namespace g96 -- bound_Div_Fix
abbrev R:Type:=Int × Int × Bool
abbrev A:Type:=Int × Int × Bool × Int × Int × Bool × Int
abbrev Y:=A→Option R
def lv:List (Nat × List Nat):=[(2000000,[6]),(1000005,[3,4,5,6])]
noncomputable def cs:Nat→Ctx:=ctxOf tis modes tg95.1 lv
theorem cs_ok (n:Nat):CtxOk Tryz.prog (cs n):=ctxOf_ok rfl tis_ok tg95.2 n
def sh:AS:=⟨[.agg [.int .i64,.int .i64,.bool],.agg [.int .i64,.int .i64,.bool],.c (.int .i64)],[]⟩
def os:OS:=⟨.agg [.int .i64,.int .i64,.bool],[]⟩
def enc (r:R):Out:=os.enc r
def dec:Out→Option R:=os.dec
noncomputable def b0:Code:=subF [] Tryz.f147
noncomputable def K0 (k:Nat):Kt R:=kTop (cs k) Tryz.f147 dec
noncomputable def c1000005:Code:=sub [1,1,1] b0
noncomputable def J1000005 ( k:Nat):Kt R:=kAt (cs k) (loopN cs k) [1,1,1] b0 (K0 k)
abbrev T0:Type:=Int × Int × Bool × Int × Int × Bool × Int × Int × Int × Bool
abbrev Y0:=T0→Option R
def s0:T0→St:=fun (v0,v1,v2,v3,v4,v5,v6,v7,v8,v9)=>⟨37,0,[(3,.c (.ptr 64000000 0)),(4,.c (.ptr 64000001 0)),(5,.c (.ptr 64000002 0)),(6,.c (.ptr 64000003 0))],[],[(256000000,.gone),(64000000,.box [.int .i64 v0,.int .i64 v1,.bool v2]),(64000001,.box [.int .i64 v3,.int .i64 v4,.bool v5]),(64000002,.box [(.int .i64 v6)]),(64000003,.box [.int .i64 v7,.int .i64 v8,.bool v9])]⟩
noncomputable def l0 ( k:Nat) (v:T0):Option R:=held (run (cs k) (loopN cs k) c1000005 (J1000005 k) (s0 v))
noncomputable def D0 (v:T0):Option R:=lim fun L=>l0 (L 0) v
theorem D0_cn (v:T0):Cn late (D0 v) fun L=>l0 (L 0) v:=of_lim
def d0 (p0:g95.Y):Y0:=fun (v0,v1,v2,v3,v4,v5,v6,v7,v8,v9) =>
bnd (p0 (v0,v1,v2,v3,v4,v5,v6)) fun r=>some (r.1,r.2.1,r.2.2.1)
theorem d0_cn (k0:Pr E g95.A g95.R):∀ v:T0,Cn E (d0 k0.p v) fun i=>d0 (k0.q i) v:=fun (v0,v1,v2,v3,v4,v5,v6,v7,v8,v9)=>(.bnd (k0.h _) fun _=>.some)
theorem l0_b ( k:Nat):∀ v:T0,run (cs k) (loopN cs k) c1000005 (J1000005 k) (s0 v) = d0 (g95.f k) v:=fun (v0,v1,v2,v3,v4,v5,v6,v7,v8,v9)=>by kernel_rfl
theorem D0_of (v:T0) {r:R} (h:d0 g95.F v = some r):D0 v = some r:=join_of (fun L=>(held_eq _).trans (l0_b (L 0) v)) (d0_cn (lp g95.f 0) v) h
noncomputable def f (k:Nat):Y:=fun v=>held (runFn cs k Tryz.f147 (sh.args v) (sh.slots v) dec)
noncomputable def F:Y:=lm f
def d (p0:g79.Y) (p1:g63.Y) (p2:g92.Y) (p3:Y0):Y:=fun (v0,v1,v2,v3,v4,v5,v6) =>
bnd (p0 (v0,v1,v2,v3,v4,v5)) fun r=>br (r || decide (v6 < 1) || decide (v3 ≤ 0) && decide (0 ≤ v4)) (bnd (p1 ()) fun r=>some (r.1,r.2.1,r.2.2)) (br (decide (v4 < 0)) (bnd (p2 (v0,v1,v2)) fun r=>bnd (p2 (v3,v4,v5)) fun r_1=>p3 (r.1,r.2.1,r.2.2,r_1.1,r_1.2.1,r_1.2.2,v6,0,0,false)) (p3 (v0,v1,v2,v3,v4,v5,v6,0,0,false)))
theorem d_cn (k0:Pr E g79.A g79.R) (k1:Pr E g63.A g63.R) (k2:Pr E g92.A g92.R) (k3:Pr E T0 R):∀ v:A,Cn E (d k0.p k1.p k2.p k3.p v) fun i=>d (k0.q i) (k1.q i) (k2.q i) (k3.q i) v:=fun (v0,v1,v2,v3,v4,v5,v6)=>(.bnd (k0.h _) fun _=>(.br (.bnd (k1.h _) fun _=>.some) (.br (.bnd (k2.h _) fun _=>(.bnd (k2.h _) fun _=>(k3.h _))) (k3.h _))))
theorem f_b (k:Nat):∀ v:A,f k v = d (g79.f k) (g63.f k) (g92.f k) (l0 k) v:=fun (v0,v1,v2,v3,v4,v5,v6)=>(held_eq _).trans (by kernel_rfl)
theorem F_of (v:A) {r:R} (h:d g79.F g63.F g92.F D0 v = some r):F v = some r:=join_of (fun L=>f_b (L 0) v) (d_cn (lp g79.f 0) (lp g63.f 0) (lp g92.f 0) (.mk fun v=>(D0_cn v).re [0]) v) h
noncomputable def spec (k:Nat):List AV→List Slot→Option Ans:=specS sh os (f k)
theorem spec_ok (k:Nat):SpecOk Tryz.prog 147 (spec k):=specS_ok cs_ok Tryz.func147 rfl rfl (fun _ _=>held_eq _) k
end g96
noncomputable def tg96:=tg95.cons 147 g96.spec g96.spec_ok
namespace g97 -- bound_Meet_Fix
abbrev R:Type:=Int × Int × Bool × Bool
abbrev A:Type:=Int × Int × Bool × Int × Int × Bool
abbrev Y:=A→Option R
def lv:List (Nat × List Nat):=[(2000000,[4,5])]
noncomputable def cs:Nat→Ctx:=ctxOf tis modes tg96.1 lv
theorem cs_ok (n:Nat):CtxOk Tryz.prog (cs n):=ctxOf_ok rfl tis_ok tg96.2 n
def sh:AS:=⟨[.agg [.int .i64,.int .i64,.bool],.agg [.int .i64,.int .i64,.bool]],[]⟩
def os:OS:=⟨.tup [.agg [.int .i64,.int .i64,.bool],.c .bool],[]⟩
def enc (r:R):Out:=os.enc r
def dec:Out→Option R:=os.dec
noncomputable def b0:Code:=subF [] Tryz.f148
noncomputable def K0 (k:Nat):Kt R:=kTop (cs k) Tryz.f148 dec
noncomputable def f (k:Nat):Y:=fun v=>held (runFn cs k Tryz.f148 (sh.args v) (sh.slots v) dec)
noncomputable def F:Y:=lm f
def d (p0:g74.Y) (p1:g75.Y):Y:=fun (v0,v1,v2,v3,v4,v5) =>
bnd (p0 (v0,v1,v2)) fun r=>bnd (p0 (v3,v4,v5)) fun r_1=>br r.2.2 (some (r_1.1,r_1.2.1,r_1.2.2,true)) (br r_1.2.2 (some (r.1,r.2.1,r.2.2,true)) (br (decide (min r.2.1 r_1.2.1 < max r.1 r_1.1)) (some (0,0,false,false)) (bnd (p1 (max r.1 r_1.1,min r.2.1 r_1.2.1)) fun r=>some (r.1,r.2.1,r.2.2,true))))
theorem d_cn (k0:Pr E g74.A g74.R) (k1:Pr E g75.A g75.R):∀ v:A,Cn E (d k0.p k1.p v) fun i=>d (k0.q i) (k1.q i) v:=fun (v0,v1,v2,v3,v4,v5)=>(.bnd (k0.h _) fun _=>(.bnd (k0.h _) fun _=>(.br .some (.br .some (.br .some (.bnd (k1.h _) fun _=>.some))))))
theorem f_b (k:Nat):∀ v:A,f k v = d (g74.f k) (g75.f k) v:=fun (v0,v1,v2,v3,v4,v5)=>(held_eq _).trans (by kernel_rfl)
theorem F_of (v:A) {r:R} (h:d g74.F g75.F v = some r):F v = some r:=join_of (fun L=>f_b (L 0) v) (d_cn (lp g74.f 0) (lp g75.f 0) v) h
noncomputable def spec (k:Nat):List AV→List Slot→Option Ans:=specS sh os (f k)
theorem spec_ok (k:Nat):SpecOk Tryz.prog 148 (spec k):=specS_ok cs_ok Tryz.func148 rfl rfl (fun _ _=>held_eq _) k
end g97
noncomputable def tg97:=tg96.cons 148 g97.spec g97.spec_ok
namespace g98 -- horizon_Height
abbrev R:Type:=Int × Int × Bool
abbrev A:Type:=Int × Int × Int × Int × Bool × Int × Int × Int
abbrev Y:=A→Option R
def lv:List (Nat × List Nat):=[(2000000,[6])]
noncomputable def cs:Nat→Ctx:=ctxOf tis modes tg97.1 lv
theorem cs_ok (n:Nat):CtxOk Tryz.prog (cs n):=ctxOf_ok rfl tis_ok tg97.2 n
def sh:AS:=⟨[.agg [.int .i64,.int .i64],.agg [.int .i64,.int .i64,.bool],.agg [.int .i64,.int .i64,.int .i64]],[]⟩
def os:OS:=⟨.agg [.int .i64,.int .i64,.bool],[]⟩
def enc (r:R):Out:=os.enc r
def dec:Out→Option R:=os.dec
noncomputable def b0:Code:=subF [] Tryz.f103
noncomputable def K0 (k:Nat):Kt R:=kTop (cs k) Tryz.f103 dec
noncomputable def f (k:Nat):Y:=fun v=>held (runFn cs k Tryz.f103 (sh.args v) (sh.slots v) dec)
noncomputable def F:Y:=lm f
noncomputable def d (p0:g62.Y) (p1:g23.Y) (p2:g9.Y) (p3:g63.Y) (p4:g64.Y) (p5:g58.Y) (p6:g60.Y) (p7:g77.Y) (p8:g86.Y) (p9:g88.Y) (p10:g89.Y) (p11:g85.Y) (p12:g78.Y) (p13:g91.Y) (p14:g96.Y) (p15:g75.Y) (p16:g97.Y):Y:=fun (v0,v1,v2,v3,v4,v5,v6,v7) =>
bnd (p0 (v0,v1)) fun r=>bnd (p1 (v5,v6,v7)) fun r_1=>bnd (p2 [r,r_1]) fun r=>br (!decide (r = 0)) (bnd (p3 ()) fun r=>some (r.1,r.2.1,r.2.2)) (bnd (p4 (v5,v6,v7)) fun r=>bnd (p5 v1) fun r_2=>bnd (p6 (v2,v3,v4,r_2.1,r_2.2.1,r_2.2.2)) fun r_3=>bnd (p5 v0) fun r_4=>bnd (p7 (r_3.1,r_3.2.1,r_3.2.2)) fun r_5=>bnd (p8 (r_5.1,r_5.2.1,r_5.2.2,r.1,1)) fun r_6=>bnd (p9 (r_3.1,r_3.2.1,r_3.2.2)) fun r_7=>bnd (p8 (r_7.1,r_7.2.1,r_7.2.2,r.2.1,1)) fun r_8=>bnd (p10 (r_6.1,r_6.2.1,r_6.2.2,r_8.1,r_8.2.1,r_8.2.2)) fun r_9=>bnd (p9 (r_4.1,r_4.2.1,r_4.2.2)) fun r_10=>bnd (p8 (r_10.1,r_10.2.1,r_10.2.2,r.2.2,1)) fun r_11=>bnd (p7 (r_4.1,r_4.2.1,r_4.2.2)) fun r_12=>bnd (p11 (r_12.1,r_12.2.1,r_12.2.2,r_9.1,r_9.2.1,r_9.2.2,1073741824)) fun r_13=>bnd (p10 (r_11.1,r_11.2.1,r_11.2.2,r_13.1,r_13.2.1,r_13.2.2)) fun r_14=>bnd (p12 (wrap .i64 (wrap .i64 (wrap .i64 (r.1 * r.1) + wrap .i64 (r.2.1 * r.2.1)) + wrap .i64 (r.2.2 * r.2.2)))) fun r=>bnd (p13 (r.1,r.2.1,r.2.2,1099511627776)) fun r=>bnd (p14 (r_14.1,r_14.2.1,r_14.2.2,r.1,r.2.1,r.2.2,1048576)) fun r=>br r.2.2 (some (r.1,r.2.1,r.2.2)) (bnd (p15 (-1073741824,1073741824)) fun r_15=>bnd (p16 (r.1,r.2.1,r.2.2,r_15.1,r_15.2.1,r_15.2.2)) fun r=>some (r.1,r.2.1,r.2.2.1)))
theorem d_cn (k0:Pr E g62.A g62.R) (k1:Pr E g23.A g23.R) (k2:Pr E g9.A g9.R) (k3:Pr E g63.A g63.R) (k4:Pr E g64.A g64.R) (k5:Pr E g58.A g58.R) (k6:Pr E g60.A g60.R) (k7:Pr E g77.A g77.R) (k8:Pr E g86.A g86.R) (k9:Pr E g88.A g88.R) (k10:Pr E g89.A g89.R) (k11:Pr E g85.A g85.R) (k12:Pr E g78.A g78.R) (k13:Pr E g91.A g91.R) (k14:Pr E g96.A g96.R) (k15:Pr E g75.A g75.R) (k16:Pr E g97.A g97.R):∀ v:A,Cn E (d k0.p k1.p k2.p k3.p k4.p k5.p k6.p k7.p k8.p k9.p k10.p k11.p k12.p k13.p k14.p k15.p k16.p v) fun i=>d (k0.q i) (k1.q i) (k2.q i) (k3.q i) (k4.q i) (k5.q i) (k6.q i) (k7.q i) (k8.q i) (k9.q i) (k10.q i) (k11.q i) (k12.q i) (k13.q i) (k14.q i) (k15.q i) (k16.q i) v:=fun (v0,v1,v2,v3,v4,v5,v6,v7)=>(.bnd (k0.h _) fun _=>(.bnd (k1.h _) fun _=>(.bnd (k2.h _) fun _=>(.br (.bnd (k3.h _) fun _=>.some) (.bnd (k4.h _) fun _=>(.bnd (k5.h _) fun _=>(.bnd (k6.h _) fun _=>(.bnd (k5.h _) fun _=>(.bnd (k7.h _) fun _=>(.bnd (k8.h _) fun _=>(.bnd (k9.h _) fun _=>(.bnd (k8.h _) fun _=>(.bnd (k10.h _) fun _=>(.bnd (k9.h _) fun _=>(.bnd (k8.h _) fun _=>(.bnd (k7.h _) fun _=>(.bnd (k11.h _) fun _=>(.bnd (k10.h _) fun _=>(.bnd (k12.h _) fun _=>(.bnd (k13.h _) fun _=>(.bnd (k14.h _) fun _=>(.br .some (.bnd (k15.h _) fun _=>(.bnd (k16.h _) fun _=>.some))))))))))))))))))))))))
theorem f_b (k:Nat):∀ v:A,f k v = d (g62.f k) (g23.f k) (g9.f k) (g63.f k) (g64.f k) (g58.f k) (g60.f k) (g77.f k) (g86.f k) (g88.f k) (g89.f k) (g85.f k) (g78.f k) (g91.f k) (g96.f k) (g75.f k) (g97.f k) v:=fun (v0,v1,v2,v3,v4,v5,v6,v7)=>(held_eq _).trans (by kernel_rfl)
theorem F_of (v:A) {r:R} (h:d g62.F g23.F g9.F g63.F g64.F g58.F g60.F g77.F g86.F g88.F g89.F g85.F g78.F g91.F g96.F g75.F g97.F v = some r):F v = some r:=join_of (fun L=>f_b (L 0) v) (d_cn (lp g62.f 0) (lp g23.f 0) (lp g9.f 0) (lp g63.f 0) (lp g64.f 0) (lp g58.f 0) (lp g60.f 0) (lp g77.f 0) (lp g86.f 0) (lp g88.f 0) (lp g89.f 0) (lp g85.f 0) (lp g78.f 0) (lp g91.f 0) (lp g96.f 0) (lp g75.f 0) (lp g97.f 0) v) h
noncomputable def spec (k:Nat):List AV→List Slot→Option Ans:=specS sh os (f k)
theorem spec_ok (k:Nat):SpecOk Tryz.prog 103 (spec k):=specS_ok cs_ok Tryz.func103 rfl rfl (fun _ _=>held_eq _) k
end g98
noncomputable def tg98:=tg97.cons 103 g98.spec g98.spec_ok
namespace g99 -- window_height
abbrev R:Type:=Int × Int × Bool
abbrev A:Type:=Int × Int × Int × Int × Int × Int × Int × Int × Int × Int × Int × Int × Int × Int × Int × Int × List Int × Int × Int × Int × Int
abbrev Y:=A→Option R
def lv:List (Nat × List Nat):=[(2000000,[6])]
noncomputable def cs:Nat→Ctx:=ctxOf tis modes tg98.1 lv
theorem cs_ok (n:Nat):CtxOk Tryz.prog (cs n):=ctxOf_ok rfl tis_ok tg98.2 n
def sh:AS:=⟨[.agg [.int .i64,.int .i64,.int .i64,.int .i64,.int .i64,.int .i64,.int .i64,.int .i64,.int .i64,.int .i64,.int .i64,.int .i64,.int .i64,.int .i64,.int .i64,.int .i64,.frz (.int .i64)],.agg [.int .i64,.int .i64,.int .i64],.c (.int .i64)],[]⟩
def os:OS:=⟨.agg [.int .i64,.int .i64,.bool],[]⟩
def enc (r:R):Out:=os.enc r
def dec:Out→Option R:=os.dec
noncomputable def b0:Code:=subF [] Tryz.f83
noncomputable def K0 (k:Nat):Kt R:=kTop (cs k) Tryz.f83 dec
noncomputable def f (k:Nat):Y:=fun v=>held (runFn cs k Tryz.f83 (sh.args v) (sh.slots v) dec)
noncomputable def F:Y:=lm f
def d (p0:g37.Y) (p1:g61.Y) (p2:g98.Y):Y:=fun (v0,v1,v2,v3,v4,v5,v6,v7,v8,v9,v10,v11,v12,v13,v14,v15,v16,v17,v18,v19,v20) =>
bnd (p0 (v0,v1,v2,v3,v4,v5,v6,v7,v8,v9,v10,v11,v12,v13,v14,v15,v16,v20,wrap .i64 (v20 + 1))) fun r=>bnd (p1 (v2,v3,v4,v5,r.1,r.2.1,r.2.2)) fun r=>bnd (p2 (v0,v1,r.1,r.2.1,r.2.2,v17,v18,v19)) fun r=>some (r.1,r.2.1,r.2.2)
theorem d_cn (k0:Pr E g37.A g37.R) (k1:Pr E g61.A g61.R) (k2:Pr E g98.A g98.R):∀ v:A,Cn E (d k0.p k1.p k2.p v) fun i=>d (k0.q i) (k1.q i) (k2.q i) v:=fun (v0,v1,v2,v3,v4,v5,v6,v7,v8,v9,v10,v11,v12,v13,v14,v15,v16,v17,v18,v19,v20)=>(.bnd (k0.h _) fun _=>(.bnd (k1.h _) fun _=>(.bnd (k2.h _) fun _=>.some)))
theorem f_b (k:Nat):∀ v:A,f k v = d (g37.f k) (g61.f k) (g98.f k) v:=fun (v0,v1,v2,v3,v4,v5,v6,v7,v8,v9,v10,v11,v12,v13,v14,v15,v16,v17,v18,v19,v20)=>(held_eq _).trans (by kernel_rfl)
theorem F_of (v:A) {r:R} (h:d g37.F g61.F g98.F v = some r):F v = some r:=join_of (fun L=>f_b (L 0) v) (d_cn (lp g37.f 0) (lp g61.f 0) (lp g98.f 0) v) h
noncomputable def spec (k:Nat):List AV→List Slot→Option Ans:=specS sh os (f k)
theorem spec_ok (k:Nat):SpecOk Tryz.prog 83 (spec k):=specS_ok cs_ok Tryz.func83 rfl rfl (fun _ _=>held_eq _) k
end g99
noncomputable def tg99:=tg98.cons 83 g99.spec g99.spec_ok
namespace g100 -- window_atMost
abbrev R:Type:=Bool
abbrev A:Type:=Int × Int × Bool × Int
abbrev Y:=A→Option R
def lv:List (Nat × List Nat):=[(2000000,[4])]
noncomputable def cs:Nat→Ctx:=ctxOf tis modes tg99.1 lv
theorem cs_ok (n:Nat):CtxOk Tryz.prog (cs n):=ctxOf_ok rfl tis_ok tg99.2 n
def sh:AS:=⟨[.agg [.int .i64,.int .i64,.bool],.c (.int .i64)],[]⟩
def os:OS:=⟨.c .bool,[]⟩
def enc (r:R):Out:=os.enc r
def dec:Out→Option R:=os.dec
noncomputable def b0:Code:=subF [] Tryz.f84
noncomputable def K0 (k:Nat):Kt R:=kTop (cs k) Tryz.f84 dec
noncomputable def f (k:Nat):Y:=fun v=>held (runFn cs k Tryz.f84 (sh.args v) (sh.slots v) dec)
noncomputable def F:Y:=lm f
def d:Y:=fun (v0,v1,v2,v3) =>
some (!v2 && decide (v1 ≤ v3))
theorem d_cn:∀ v:A,Cn E (d v) fun i=>d v:=fun (v0,v1,v2,v3)=>.some
theorem f_b (k:Nat):∀ v:A,f k v = d v:=fun (v0,v1,v2,v3)=>(held_eq _).trans (by kernel_rfl)
theorem F_of (v:A) {r:R} (h:d v = some r):F v = some r:=join_of (fun L=>f_b (L 0) v) (d_cn v) h
noncomputable def spec (k:Nat):List AV→List Slot→Option Ans:=specS sh os (f k)
theorem spec_ok (k:Nat):SpecOk Tryz.prog 84 (spec k):=specS_ok cs_ok Tryz.func84 rfl rfl (fun _ _=>held_eq _) k
end g100
noncomputable def tg100:=tg99.cons 84 g100.spec g100.spec_ok
namespace g101 -- window_dark
abbrev R:Type:=Bool
abbrev A:Type:=Int × Int × Int × Int × Int × Int × Int × Int × Int × Int × Int × Int × Int × Int × Int × Int × List Int × Int
abbrev Y:=A→Option R
def lv:List (Nat × List Nat):=[(2000000,[4])]
noncomputable def cs:Nat→Ctx:=ctxOf tis modes tg100.1 lv
theorem cs_ok (n:Nat):CtxOk Tryz.prog (cs n):=ctxOf_ok rfl tis_ok tg100.2 n
def sh:AS:=⟨[.agg [.int .i64,.int .i64,.int .i64,.int .i64,.int .i64,.int .i64,.int .i64,.int .i64,.int .i64,.int .i64,.int .i64,.int .i64,.int .i64,.int .i64,.int .i64,.int .i64,.frz (.int .i64)],.c (.int .i64)],[]⟩
def os:OS:=⟨.c .bool,[]⟩
def enc (r:R):Out:=os.enc r
def dec:Out→Option R:=os.dec
noncomputable def b0:Code:=subF [] Tryz.f81
noncomputable def K0 (k:Nat):Kt R:=kTop (cs k) Tryz.f81 dec
noncomputable def f (k:Nat):Y:=fun v=>held (runFn cs k Tryz.f81 (sh.args v) (sh.slots v) dec)
noncomputable def F:Y:=lm f
def d (p0:g99.Y) (p1:g100.Y):Y:=fun (v0,v1,v2,v3,v4,v5,v6,v7,v8,v9,v10,v11,v12,v13,v14,v15,v16,v17) =>
bnd (p0 (v0,v1,v2,v3,v4,v5,v6,v7,v8,v9,v10,v11,v12,v13,v14,v15,v16,v9,v10,v11,v17)) fun r=>bnd (p1 (r.1,r.2.1,r.2.2,v15)) fun r=>some r
theorem d_cn (k0:Pr E g99.A g99.R) (k1:Pr E g100.A g100.R):∀ v:A,Cn E (d k0.p k1.p v) fun i=>d (k0.q i) (k1.q i) v:=fun (v0,v1,v2,v3,v4,v5,v6,v7,v8,v9,v10,v11,v12,v13,v14,v15,v16,v17)=>(.bnd (k0.h _) fun _=>(.bnd (k1.h _) fun _=>.some))
theorem f_b (k:Nat):∀ v:A,f k v = d (g99.f k) (g100.f k) v:=fun (v0,v1,v2,v3,v4,v5,v6,v7,v8,v9,v10,v11,v12,v13,v14,v15,v16,v17)=>(held_eq _).trans (by kernel_rfl)
theorem F_of (v:A) {r:R} (h:d g99.F g100.F v = some r):F v = some r:=join_of (fun L=>f_b (L 0) v) (d_cn (lp g99.f 0) (lp g100.f 0) v) h
noncomputable def spec (k:Nat):List AV→List Slot→Option Ans:=specS sh os (f k)
theorem spec_ok (k:Nat):SpecOk Tryz.prog 81 (spec k):=specS_ok cs_ok Tryz.func81 rfl rfl (fun _ _=>held_eq _) k
end g101
noncomputable def tg101:=tg100.cons 81 g101.spec g101.spec_ok
namespace g102 -- window_atLeast
abbrev R:Type:=Bool
abbrev A:Type:=Int × Int × Bool × Int
abbrev Y:=A→Option R
def lv:List (Nat × List Nat):=[(2000000,[4])]
noncomputable def cs:Nat→Ctx:=ctxOf tis modes tg101.1 lv
theorem cs_ok (n:Nat):CtxOk Tryz.prog (cs n):=ctxOf_ok rfl tis_ok tg101.2 n
def sh:AS:=⟨[.agg [.int .i64,.int .i64,.bool],.c (.int .i64)],[]⟩
def os:OS:=⟨.c .bool,[]⟩
def enc (r:R):Out:=os.enc r
def dec:Out→Option R:=os.dec
noncomputable def b0:Code:=subF [] Tryz.f82
noncomputable def K0 (k:Nat):Kt R:=kTop (cs k) Tryz.f82 dec
noncomputable def f (k:Nat):Y:=fun v=>held (runFn cs k Tryz.f82 (sh.args v) (sh.slots v) dec)
noncomputable def F:Y:=lm f
def d:Y:=fun (v0,v1,v2,v3) =>
some (!v2 && decide (v3 ≤ v0))
theorem d_cn:∀ v:A,Cn E (d v) fun i=>d v:=fun (v0,v1,v2,v3)=>.some
theorem f_b (k:Nat):∀ v:A,f k v = d v:=fun (v0,v1,v2,v3)=>(held_eq _).trans (by kernel_rfl)
theorem F_of (v:A) {r:R} (h:d v = some r):F v = some r:=join_of (fun L=>f_b (L 0) v) (d_cn v) h
noncomputable def spec (k:Nat):List AV→List Slot→Option Ans:=specS sh os (f k)
theorem spec_ok (k:Nat):SpecOk Tryz.prog 82 (spec k):=specS_ok cs_ok Tryz.func82 rfl rfl (fun _ _=>held_eq _) k
end g102
noncomputable def tg102:=tg101.cons 82 g102.spec g102.spec_ok
namespace g103 -- sphere_both
abbrev R:Type:=Bool
abbrev A:Type:=Int × Int × Int × Int × Int × Int
abbrev Y:=A→Option R
def lv:List (Nat × List Nat):=[(2000000,[4])]
noncomputable def cs:Nat→Ctx:=ctxOf tis modes tg102.1 lv
theorem cs_ok (n:Nat):CtxOk Tryz.prog (cs n):=ctxOf_ok rfl tis_ok tg102.2 n
def sh:AS:=⟨[.agg [.int .i64,.int .i64,.int .i64],.agg [.int .i64,.int .i64,.int .i64]],[]⟩
def os:OS:=⟨.c .bool,[]⟩
def enc (r:R):Out:=os.enc r
def dec:Out→Option R:=os.dec
noncomputable def b0:Code:=subF [] Tryz.f106
noncomputable def K0 (k:Nat):Kt R:=kTop (cs k) Tryz.f106 dec
noncomputable def f (k:Nat):Y:=fun v=>held (runFn cs k Tryz.f106 (sh.args v) (sh.slots v) dec)
noncomputable def F:Y:=lm f
def d (p0:g23.Y):Y:=fun (v0,v1,v2,v3,v4,v5) =>
bnd (p0 (v0,v1,v2)) fun r=>br (decide (r = 0) == true) (bnd (p0 (v3,v4,v5)) fun r=>some (decide (r = 0))) (some false)
theorem d_cn (k0:Pr E g23.A g23.R):∀ v:A,Cn E (d k0.p v) fun i=>d (k0.q i) v:=fun (v0,v1,v2,v3,v4,v5)=>(.bnd (k0.h _) fun _=>(.br (.bnd (k0.h _) fun _=>.some) .some))
theorem f_b (k:Nat):∀ v:A,f k v = d (g23.f k) v:=fun (v0,v1,v2,v3,v4,v5)=>(held_eq _).trans (by kernel_rfl)
theorem F_of (v:A) {r:R} (h:d g23.F v = some r):F v = some r:=join_of (fun L=>f_b (L 0) v) (d_cn (lp g23.f 0) v) h
noncomputable def spec (k:Nat):List AV→List Slot→Option Ans:=specS sh os (f k)
theorem spec_ok (k:Nat):SpecOk Tryz.prog 106 (spec k):=specS_ok cs_ok Tryz.func106 rfl rfl (fun _ _=>held_eq _) k
end g103
noncomputable def tg103:=tg102.cons 106 g103.spec g103.spec_ok
namespace g104 -- sphere_dot
abbrev R:Type:=Int
abbrev A:Type:=Int × Int × Int × Int × Int × Int
abbrev Y:=A→Option R
def lv:List (Nat × List Nat):=[(2000000,[4])]
noncomputable def cs:Nat→Ctx:=ctxOf tis modes tg103.1 lv
theorem cs_ok (n:Nat):CtxOk Tryz.prog (cs n):=ctxOf_ok rfl tis_ok tg103.2 n
def sh:AS:=⟨[.agg [.int .i64,.int .i64,.int .i64],.agg [.int .i64,.int .i64,.int .i64]],[]⟩
def os:OS:=⟨.c (.int .i64),[]⟩
def enc (r:R):Out:=os.enc r
def dec:Out→Option R:=os.dec
noncomputable def b0:Code:=subF [] Tryz.f107
noncomputable def K0 (k:Nat):Kt R:=kTop (cs k) Tryz.f107 dec
noncomputable def f (k:Nat):Y:=fun v=>held (runFn cs k Tryz.f107 (sh.args v) (sh.slots v) dec)
noncomputable def F:Y:=lm f
def d:Y:=fun (v0,v1,v2,v3,v4,v5) =>
some (wrap .i64 (wrap .i64 (wrap .i64 (v0 * v3) + wrap .i64 (v1 * v4)) + wrap .i64 (v2 * v5)))
theorem d_cn:∀ v:A,Cn E (d v) fun i=>d v:=fun (v0,v1,v2,v3,v4,v5)=>.some
theorem f_b (k:Nat):∀ v:A,f k v = d v:=fun (v0,v1,v2,v3,v4,v5)=>(held_eq _).trans (by kernel_rfl)
theorem F_of (v:A) {r:R} (h:d v = some r):F v = some r:=join_of (fun L=>f_b (L 0) v) (d_cn v) h
noncomputable def spec (k:Nat):List AV→List Slot→Option Ans:=specS sh os (f k)
theorem spec_ok (k:Nat):SpecOk Tryz.prog 107 (spec k):=specS_ok cs_ok Tryz.func107 rfl rfl (fun _ _=>held_eq _) k
end g104
noncomputable def tg104:=tg103.cons 107 g104.spec g104.spec_ok
namespace g105 -- big_trim
abbrev R:Type:=List Int
abbrev A:Type:=List Int
abbrev Y:=A→Option R
def lv:List (Nat × List Nat):=[(2000001,[0]),(2000000,[2]),(1,[0])]
noncomputable def cs:Nat→Ctx:=ctxOf tis modes tg104.1 lv
theorem cs_ok (n:Nat):CtxOk Tryz.prog (cs n):=ctxOf_ok rfl tis_ok tg104.2 n
def sh:AS:=⟨[(.c (.sl 128000000))],[(.row (.int .u32))]⟩
def os:OS:=⟨.c (.sl 128000001),[.gone,.row (.int .u32)]⟩
def enc (r:R):Out:=os.enc r
def dec:Out→Option R:=os.dec
noncomputable def b0:Code:=subF [] Tryz.f215
noncomputable def K0 (k:Nat):Kt R:=kTop (cs k) Tryz.f215 dec
noncomputable def b1:Code:=sub [1,0,0,0] b0
noncomputable def K1 ( k:Nat):Kt R:=kAt (cs k) (loopN cs k) [1,0,0] b0 (K0 k)
abbrev T0:Type:=List Int
abbrev Y0:=T0→Option R
def s0:T0→St:=fun v0=>⟨21,1,[(0,.c (.sl 128000000))],[],[(128000000,.row (.int .u32) v0),(256000000,.gone)]⟩
noncomputable def l0 ( k n:Nat) (v:T0):Option R:=held (loopN cs n b1 (K1 k) (s0 v))
noncomputable def D0 (v:T0):Option R:=lim fun L=>l0 (L 0) (L 1) v
theorem D0_cn (v:T0):Cn late (D0 v) fun L=>l0 (L 0) (L 1) v:=of_lim
abbrev T1:Type:=List Int
abbrev Y1:=T1→Option R
def s1:T1→St:=fun v0=>⟨21,1,[(0,.c (.sl 64000000))],[],[(128000000,.gone),(256000000,.gone),(64000000,.row (.int .u32) v0)]⟩
noncomputable def l1 ( k n:Nat) (v:T1):Option R:=held (loopN cs n b1 (K1 k) (s1 v))
noncomputable def D1 (v:T1):Option R:=lim fun L=>l1 (L 0) (L 1) v
theorem D1_cn (v:T1):Cn late (D1 v) fun L=>l1 (L 0) (L 1) v:=of_lim
def d0 (p0:Y1):Y0:=fun v0 =>
br (!decide (0 < (↑v0.length:Int)) == true || decide (0 ≤ wrap .i64 ((↑v0.length:Int) - 1) ∧ wrap .i64 ((↑v0.length:Int) - 1) < (↑v0.length:Int))) (br (decide (0 < (↑v0.length:Int)) && decide (rd (Ty.int .u32) v0 (wrap .i64 ((↑v0.length:Int) - 1)) = 0)) (br (decide (0 ≤ wrap .i64 ((↑v0.length:Int) - 1) ∧ wrap .i64 ((↑v0.length:Int) - 1) ≤ (↑v0.length:Int))) (p0 (List.drop (Int.toNat 0) (List.take (wrap .i64 ((↑v0.length:Int) - 1)).toNat v0))) none) (some v0)) none
theorem d0_cn (k0:Pr E T1 R):∀ v:T0,Cn E (d0 k0.p v) fun i=>d0 (k0.q i) v:=fun v0=>(.br (.br (.br (k0.h _) .none) .some) .none)
theorem l0_b ( k m1:Nat):∀ v:T0,run (cs m1) (loopN cs m1) b1 (kLoop cs m1 b1 (K1 k)) (s0 v) = d0 (l1 k m1) v:=fun v0=>by kernel_rfl
theorem D0_of (v:T0) {r:R} (h:d0 D1 v = some r):D0 v = some r:=loop_of 1 (fun L n hn=>by show l0 (L 0) (L 1) v = _; rw [hn]; exact (held_eq _).trans ((loopN_succ _ _ _ _ _).trans (l0_b (L 0) n v))) (d0_cn (.mk fun v=>(D1_cn v).re [0,1]) v) h
def d1 (p0:Y1):Y1:=fun v0 =>
br (!decide (0 < (↑v0.length:Int)) == true || decide (0 ≤ wrap .i64 ((↑v0.length:Int) - 1) ∧ wrap .i64 ((↑v0.length:Int) - 1) < (↑v0.length:Int))) (br (decide (0 < (↑v0.length:Int)) && decide (rd (Ty.int .u32) v0 (wrap .i64 ((↑v0.length:Int) - 1)) = 0)) (br (decide (0 ≤ wrap .i64 ((↑v0.length:Int) - 1) ∧ wrap .i64 ((↑v0.length:Int) - 1) ≤ (↑v0.length:Int))) (p0 (List.drop (Int.toNat 0) (List.take (wrap .i64 ((↑v0.length:Int) - 1)).toNat v0))) none) (some v0)) none
theorem d1_cn (k0:Pr E T1 R):∀ v:T1,Cn E (d1 k0.p v) fun i=>d1 (k0.q i) v:=fun v0=>(.br (.br (.br (k0.h _) .none) .some) .none)
theorem l1_b ( k m1:Nat):∀ v:T1,run (cs m1) (loopN cs m1) b1 (kLoop cs m1 b1 (K1 k)) (s1 v) = d1 (l1 k m1) v:=fun v0=>by kernel_rfl
theorem D1_of (v:T1) {r:R} (h:d1 D1 v = some r):D1 v = some r:=loop_of 1 (fun L n hn=>by show l1 (L 0) (L 1) v = _; rw [hn]; exact (held_eq _).trans ((loopN_succ _ _ _ _ _).trans (l1_b (L 0) n v))) (d1_cn (.mk fun v=>(D1_cn v).re [0,1]) v) h
noncomputable def f (k:Nat):Y:=fun v=>held (runFn cs k Tryz.f215 (sh.args v) (sh.slots v) dec)
noncomputable def F:Y:=lm f
def d (p0:Y0):Y:=fun v0 =>
p0 v0
theorem d_cn (k0:Pr E T0 R):∀ v:A,Cn E (d k0.p v) fun i=>d (k0.q i) v:=fun v0=>(k0.h _)
theorem f_b (k:Nat):∀ v:A,f k v = d (l0 k k) v:=fun v0=>(held_eq _).trans (by kernel_rfl)
theorem F_of (v:A) {r:R} (h:d D0 v = some r):F v = some r:=join_of (fun L=>f_b (L 0) v) (d_cn (.mk fun v=>(D0_cn v).re [0,0]) v) h
noncomputable def spec (k:Nat):List AV→List Slot→Option Ans:=specS sh os (f k)
theorem spec_ok (k:Nat):SpecOk Tryz.prog 215 (spec k):=specS_ok cs_ok Tryz.func215 rfl rfl (fun _ _=>held_eq _) k
end g105
noncomputable def tg105:=tg104.cons 215 g105.spec g105.spec_ok
namespace g106 -- big_made
abbrev R:Type:=Bool × List Int
abbrev A:Type:=Bool × List Int
abbrev Y:=A→Option R
def lv:List (Nat × List Nat):=[(2000000,[4])]
noncomputable def cs:Nat→Ctx:=ctxOf tis modes tg105.1 lv
theorem cs_ok (n:Nat):CtxOk Tryz.prog (cs n):=ctxOf_ok rfl tis_ok tg105.2 n
def sh:AS:=⟨[.c .bool,.c (.sl 128000000)],[(.row (.int .u32))]⟩
def os:OS:=⟨.agg [.bool,.sl 128000001],[.gone,.row (.int .u32)]⟩
def enc (r:R):Out:=os.enc r
def dec:Out→Option R:=os.dec
noncomputable def b0:Code:=subF [] Tryz.f190
noncomputable def K0 (k:Nat):Kt R:=kTop (cs k) Tryz.f190 dec
noncomputable def f (k:Nat):Y:=fun v=>held (runFn cs k Tryz.f190 (sh.args v) (sh.slots v) dec)
noncomputable def F:Y:=lm f
def d (p0:g105.Y):Y:=fun (v0,v1) =>
bnd (p0 v1) fun r=>some (v0 && decide (0 < (↑r.length:Int)),r)
theorem d_cn (k0:Pr E g105.A g105.R):∀ v:A,Cn E (d k0.p v) fun i=>d (k0.q i) v:=fun (v0,v1)=>(.bnd (k0.h _) fun _=>.some)
theorem f_b (k:Nat):∀ v:A,f k v = d (g105.f k) v:=fun (v0,v1)=>(held_eq _).trans (by kernel_rfl)
theorem F_of (v:A) {r:R} (h:d g105.F v = some r):F v = some r:=join_of (fun L=>f_b (L 0) v) (d_cn (lp g105.f 0) v) h
noncomputable def spec (k:Nat):List AV→List Slot→Option Ans:=specS sh os (f k)
theorem spec_ok (k:Nat):SpecOk Tryz.prog 190 (spec k):=specS_ok cs_ok Tryz.func190 rfl rfl (fun _ _=>held_eq _) k
end g106
noncomputable def tg106:=tg105.cons 190 g106.spec g106.spec_ok
namespace g107 -- big_Of
abbrev R:Type:=Bool × List Int
abbrev A:Type:=Int
abbrev Y:=A→Option R
def lv:List (Nat × List Nat):=[(2000000,[2]),(1000004,[0,2,3])]
noncomputable def cs:Nat→Ctx:=ctxOf tis modes tg106.1 lv
theorem cs_ok (n:Nat):CtxOk Tryz.prog (cs n):=ctxOf_ok rfl tis_ok tg106.2 n
def sh:AS:=⟨[(.c (.int .i64))],[]⟩
def os:OS:=⟨.agg [.bool,.sl 128000000],[(.row (.int .u32))]⟩
def enc (r:R):Out:=os.enc r
def dec:Out→Option R:=os.dec
noncomputable def b0:Code:=subF [] Tryz.f156
noncomputable def K0 (k:Nat):Kt R:=kTop (cs k) Tryz.f156 dec
noncomputable def c1000004:Code:=sub [1,1,1] b0
noncomputable def J1000004 ( k:Nat):Kt R:=kAt (cs k) (loopN cs k) [1,1,1] b0 (K0 k)
abbrev T0:Type:=Int × Int × Bool × List Int
abbrev Y0:=T0→Option R
def s0:T0→St:=fun (v0,v1,v2,v3)=>⟨19,0,[(0,.c (.int .i64 v0)),(2,.c (.ptr 64000000 0)),(3,.c (.int .u64 v1))],[],[(256000000,.gone),(64000000,.box [.bool v2,.sl 64000001]),(64000001,.row (.int .u32) v3)]⟩
noncomputable def l0 ( k:Nat) (v:T0):Option R:=held (run (cs k) (loopN cs k) c1000004 (J1000004 k) (s0 v))
noncomputable def D0 (v:T0):Option R:=lim fun L=>l0 (L 0) v
theorem D0_cn (v:T0):Cn late (D0 v) fun L=>l0 (L 0) v:=of_lim
def d0 (p0:g106.Y):Y0:=fun (v0,v1,v2,v3) =>
br (decide ((0:Int) ≤ 32)) (bnd (p0 (decide (v0 < 0),[wrap .u32 v1,wrap .u32 (shr .u64 v1 32)])) fun r=>some (r.1,r.2)) none
theorem d0_cn (k0:Pr E g106.A g106.R):∀ v:T0,Cn E (d0 k0.p v) fun i=>d0 (k0.q i) v:=fun (v0,v1,v2,v3)=>(.br (.bnd (k0.h _) fun _=>.some) .none)
theorem l0_b ( k:Nat):∀ v:T0,run (cs k) (loopN cs k) c1000004 (J1000004 k) (s0 v) = d0 (g106.f k) v:=fun (v0,v1,v2,v3)=>by kernel_rfl
theorem D0_of (v:T0) {r:R} (h:d0 g106.F v = some r):D0 v = some r:=join_of (fun L=>(held_eq _).trans (l0_b (L 0) v)) (d0_cn (lp g106.f 0) v) h
noncomputable def f (k:Nat):Y:=fun v=>held (runFn cs k Tryz.f156 (sh.args v) (sh.slots v) dec)
noncomputable def F:Y:=lm f
def d (p0:Y0):Y:=fun v0 =>
br (decide (v0 < 0)) (p0 (v0,wrap .u64 (0 - wrap .u64 v0),false,[])) (p0 (v0,wrap .u64 v0,false,[]))
theorem d_cn (k0:Pr E T0 R):∀ v:A,Cn E (d k0.p v) fun i=>d (k0.q i) v:=fun v0=>(.br (k0.h _) (k0.h _))
theorem f_b (k:Nat):∀ v:A,f k v = d (l0 k) v:=fun v0=>(held_eq _).trans (by kernel_rfl)
theorem F_of (v:A) {r:R} (h:d D0 v = some r):F v = some r:=join_of (fun L=>f_b (L 0) v) (d_cn (.mk fun v=>(D0_cn v).re [0]) v) h
noncomputable def spec (k:Nat):List AV→List Slot→Option Ans:=specS sh os (f k)
theorem spec_ok (k:Nat):SpecOk Tryz.prog 156 (spec k):=specS_ok cs_ok Tryz.func156 rfl rfl (fun _ _=>held_eq _) k
end g107
noncomputable def tg107:=tg106.cons 156 g107.spec g107.spec_ok
namespace g108 -- bits_Len32
abbrev R:Type:=Int
abbrev A:Type:=Int
abbrev Y:=A→Option R
def lv:List (Nat × List Nat):=[(2000000,[2]),(1000004,[0,2]),(1000007,[0,2])]
noncomputable def cs:Nat→Ctx:=ctxOf tis modes tg107.1 lv
theorem cs_ok (n:Nat):CtxOk Tryz.prog (cs n):=ctxOf_ok rfl tis_ok tg107.2 n
def sh:AS:=⟨[(.c (.int .u32))],[]⟩
def os:OS:=⟨.c (.int .i64),[]⟩
def enc (r:R):Out:=os.enc r
def dec:Out→Option R:=os.dec
noncomputable def b0:Code:=subF [] Tryz.f216
noncomputable def K0 (k:Nat):Kt R:=kTop (cs k) Tryz.f216 dec
noncomputable def c1000004:Code:=sub [1,1] b0
noncomputable def J1000004 ( k:Nat):Kt R:=kAt (cs k) (loopN cs k) [1,1] b0 (K0 k)
noncomputable def c1000007:Code:=sub [1,1,1] b0
noncomputable def J1000007 ( k:Nat):Kt R:=kAt (cs k) (loopN cs k) [1,1,1] b0 (K0 k)
abbrev T0:Type:=Int × Int
abbrev Y0:=T0→Option R
def s0:T0→St:=fun (v0,v1)=>⟨19,0,[(0,.c (.int .u32 v0)),(2,.c (.int .i64 v1))],[],[(256000000,.gone)]⟩
noncomputable def l0 ( k:Nat) (v:T0):Option R:=held (run (cs k) (loopN cs k) c1000004 (J1000004 k) (s0 v))
noncomputable def D0 (v:T0):Option R:=lim fun L=>l0 (L 0) v
theorem D0_cn (v:T0):Cn late (D0 v) fun L=>l0 (L 0) v:=of_lim
abbrev T1:Type:=Int × Int
abbrev Y1:=T1→Option R
def s1:T1→St:=fun (v0,v1)=>⟨19,0,[(0,.c (.int .u32 v0)),(2,.c (.int .i64 v1))],[],[(256000000,.gone)]⟩
noncomputable def l1 ( k:Nat) (v:T1):Option R:=held (run (cs k) (loopN cs k) c1000007 (J1000007 k) (s1 v))
noncomputable def D1 (v:T1):Option R:=lim fun L=>l1 (L 0) v
theorem D1_cn (v:T1):Cn late (D1 v) fun L=>l1 (L 0) v:=of_lim
def d0 (p0:Y1):Y0:=fun (v0,v1) =>
br (decide (256 ≤ v0)) (br (decide ((0:Int) ≤ 8)) (p0 (shr .u32 v0 8,wrap .i64 (v1 + 8))) none) (p0 (v0,v1))
theorem d0_cn (k0:Pr E T1 R):∀ v:T0,Cn E (d0 k0.p v) fun i=>d0 (k0.q i) v:=fun (v0,v1)=>(.br (.br (k0.h _) .none) (k0.h _))
theorem l0_b ( k:Nat):∀ v:T0,run (cs k) (loopN cs k) c1000004 (J1000004 k) (s0 v) = d0 (l1 k) v:=fun (v0,v1)=>by kernel_rfl
theorem D0_of (v:T0) {r:R} (h:d0 D1 v = some r):D0 v = some r:=join_of (fun L=>(held_eq _).trans (l0_b (L 0) v)) (d0_cn (.mk fun v=>(D1_cn v).re [0]) v) h
def d1:Y1:=fun (v0,v1) =>
br (decide (0 ≤ wrap .u8 v0 ∧ wrap .u8 v0 < (↑bs0.size:Int))) (some (wrap .i64 (v1 + wrap .i64 (↑(bs0.data.getD (wrap .u8 v0).toNat 0).toNat:Int)))) none
theorem d1_cn:∀ v:T1,Cn E (d1 v) fun i=>d1 v:=fun (v0,v1)=>(.br .some .none)
theorem l1_b ( k:Nat):∀ v:T1,run (cs k) (loopN cs k) c1000007 (J1000007 k) (s1 v) = d1 v:=fun (v0,v1)=>by kernel_rfl
theorem D1_of (v:T1) {r:R} (h:d1 v = some r):D1 v = some r:=join_of (fun L=>(held_eq _).trans (l1_b (L 0) v)) (d1_cn v) h
noncomputable def f (k:Nat):Y:=fun v=>held (runFn cs k Tryz.f216 (sh.args v) (sh.slots v) dec)
noncomputable def F:Y:=lm f
def d (p0:Y0):Y:=fun v0 =>
br (decide (65536 ≤ v0)) (br (decide ((0:Int) ≤ 16)) (p0 (shr .u32 v0 16,16)) none) (p0 (v0,0))
theorem d_cn (k0:Pr E T0 R):∀ v:A,Cn E (d k0.p v) fun i=>d (k0.q i) v:=fun v0=>(.br (.br (k0.h _) .none) (k0.h _))
theorem f_b (k:Nat):∀ v:A,f k v = d (l0 k) v:=fun v0=>(held_eq _).trans (by kernel_rfl)
theorem F_of (v:A) {r:R} (h:d D0 v = some r):F v = some r:=join_of (fun L=>f_b (L 0) v) (d_cn (.mk fun v=>(D0_cn v).re [0]) v) h
noncomputable def spec (k:Nat):List AV→List Slot→Option Ans:=specS sh os (f k)
theorem spec_ok (k:Nat):SpecOk Tryz.prog 216 (spec k):=specS_ok cs_ok Tryz.func216 rfl rfl (fun _ _=>held_eq _) k
end g108
noncomputable def tg108:=tg107.cons 216 g108.spec g108.spec_ok
namespace g109 -- big_Bits
abbrev R:Type:=Int
abbrev A:Type:=Bool × List Int
abbrev Y:=A→Option R
def lv:List (Nat × List Nat):=[(2000000,[2])]
noncomputable def cs:Nat→Ctx:=ctxOf tis modes tg108.1 lv
theorem cs_ok (n:Nat):CtxOk Tryz.prog (cs n):=ctxOf_ok rfl tis_ok tg108.2 n
def sh:AS:=⟨[(.agg [.bool,.frz (.int .u32)])],[]⟩
def os:OS:=⟨.c (.int .i64),[]⟩
def enc (r:R):Out:=os.enc r
def dec:Out→Option R:=os.dec
noncomputable def b0:Code:=subF [] Tryz.f191
noncomputable def K0 (k:Nat):Kt R:=kTop (cs k) Tryz.f191 dec
noncomputable def f (k:Nat):Y:=fun v=>held (runFn cs k Tryz.f191 (sh.args v) (sh.slots v) dec)
noncomputable def F:Y:=lm f
def d (p0:g108.Y):Y:=fun (v0,v1) =>
br (decide ((↑v1.length:Int) = 0)) (some 0) (br (decide (0 ≤ wrap .i64 ((↑v1.length:Int) - 1) ∧ wrap .i64 ((↑v1.length:Int) - 1) < (↑v1.length:Int))) (bnd (p0 (rd (Ty.int .u32) v1 (wrap .i64 ((↑v1.length:Int) - 1)))) fun r=>some (wrap .i64 (wrap .i64 (32 * wrap .i64 ((↑v1.length:Int) - 1)) + r))) none)
theorem d_cn (k0:Pr E g108.A g108.R):∀ v:A,Cn E (d k0.p v) fun i=>d (k0.q i) v:=fun (v0,v1)=>(.br .some (.br (.bnd (k0.h _) fun _=>.some) .none))
theorem f_b (k:Nat):∀ v:A,f k v = d (g108.f k) v:=fun (v0,v1)=>(held_eq _).trans (by kernel_rfl)
theorem F_of (v:A) {r:R} (h:d g108.F v = some r):F v = some r:=join_of (fun L=>f_b (L 0) v) (d_cn (lp g108.f 0) v) h
noncomputable def spec (k:Nat):List AV→List Slot→Option Ans:=specS sh os (f k)
theorem spec_ok (k:Nat):SpecOk Tryz.prog 191 (spec k):=specS_ok cs_ok Tryz.func191 rfl rfl (fun _ _=>held_eq _) k
end g109
noncomputable def tg109:=tg108.cons 191 g109.spec g109.spec_ok
namespace g110 -- big_limited
abbrev R:Type:=Bool × Int × List Int
abbrev A:Type:=Bool × List Int
abbrev Y:=A→Option R
def lv:List (Nat × List Nat):=[(2000000,[4,5])]
noncomputable def cs:Nat→Ctx:=ctxOf tis modes tg109.1 lv
theorem cs_ok (n:Nat):CtxOk Tryz.prog (cs n):=ctxOf_ok rfl tis_ok tg109.2 n
def sh:AS:=⟨[.c .bool,.c (.sl 128000000)],[(.row (.int .u32))]⟩
def os:OS:=⟨.tup [.agg [.bool,.sl 128000001],.c (.int .i64)],[.gone,.row (.int .u32)]⟩
def enc (r:R):Out:=os.enc r
def dec:Out→Option R:=os.dec
noncomputable def b0:Code:=subF [] Tryz.f192
noncomputable def K0 (k:Nat):Kt R:=kTop (cs k) Tryz.f192 dec
noncomputable def f (k:Nat):Y:=fun v=>held (runFn cs k Tryz.f192 (sh.args v) (sh.slots v) dec)
noncomputable def F:Y:=lm f
def d (p0:g106.Y) (p1:g109.Y):Y:=fun (v0,v1) =>
bnd (p0 (v0,v1)) fun r=>bnd (p1 (r.1,r.2)) fun r_1=>br (decide (131072 < r_1)) (some (false,2,[])) (some (r.1,0,r.2))
theorem d_cn (k0:Pr E g106.A g106.R) (k1:Pr E g109.A g109.R):∀ v:A,Cn E (d k0.p k1.p v) fun i=>d (k0.q i) (k1.q i) v:=fun (v0,v1)=>(.bnd (k0.h _) fun _=>(.bnd (k1.h _) fun _=>(.br .some .some)))
theorem f_b (k:Nat):∀ v:A,f k v = d (g106.f k) (g109.f k) v:=fun (v0,v1)=>(held_eq _).trans (by kernel_rfl)
theorem F_of (v:A) {r:R} (h:d g106.F g109.F v = some r):F v = some r:=join_of (fun L=>f_b (L 0) v) (d_cn (lp g106.f 0) (lp g109.f 0) v) h
noncomputable def spec (k:Nat):List AV→List Slot→Option Ans:=specS sh os (f k)
theorem spec_ok (k:Nat):SpecOk Tryz.prog 192 (spec k):=specS_ok cs_ok Tryz.func192 rfl rfl (fun _ _=>held_eq _) k
end g110
noncomputable def tg110:=tg109.cons 192 g110.spec g110.spec_ok
namespace g111 -- big_Mul
abbrev R:Type:=Bool × Int × List Int
abbrev A:Type:=Bool × List Int × Bool × List Int
abbrev Y:=A→Option R
def lv:List (Nat × List Nat):=[(2000000,[4,5]),(5,[2,3,4,6,28,29,30]),(9,[2,3,4,6,7,8,9,28,29,30,36,37,38])]
noncomputable def cs:Nat→Ctx:=ctxOf tis modes tg110.1 lv
theorem cs_ok (n:Nat):CtxOk Tryz.prog (cs n):=ctxOf_ok rfl tis_ok tg110.2 n
def sh:AS:=⟨[.agg [.bool,.frz (.int .u32)],.agg [.bool,.frz (.int .u32)]],[]⟩
def os:OS:=⟨.tup [.agg [.bool,.sl 128000000],.c (.int .i64)],[(.row (.int .u32))]⟩
def enc (r:R):Out:=os.enc r
def dec:Out→Option R:=os.dec
noncomputable def b0:Code:=subF [] Tryz.f157
noncomputable def K0 (k:Nat):Kt R:=kTop (cs k) Tryz.f157 dec
noncomputable def b5:Code:=sub [1,1,1,0,1,0,0] b0
noncomputable def K5 ( k:Nat):Kt R:=kAt (cs k) (loopN cs k) [1,1,1,0,1,0] b0 (K0 k)
noncomputable def b9:Code:=sub [1,1,0,0,1,1,0,1,0,0] b5
noncomputable def K9 ( k m1:Nat):Kt R:=kAt (cs m1) (loopN cs m1) [1,1,0,0,1,1,0,1,0] b5 (kLoop cs m1 b5 (K5 k))
abbrev T0:Type:=List Int × Int × Int × Bool × List Int × Bool × List Int × Bool × List Int × List Int
abbrev Y0:=T0→Option R
def s0:T0→St:=fun (v0,v1,v2,v3,v4,v5,v6,v7,v8,v9)=>⟨87,0,[(2,.c (.ptr 64000000 0)),(3,.c (.ptr 64000001 0)),(4,.c (.ptr 64000002 0)),(6,.c (.sl 64000003)),(28,.c (.frz (.int .u32) v0)),(29,.c (.int .i64 v1)),(30,.c (.int .i64 v2))],[],[(256000000,.gone),(64000000,.box [.bool v3,.frz (.int .u32) v4]),(64000001,.box [.bool v5,.frz (.int .u32) v6]),(64000002,.box [.bool v7,.sl 64000004]),(64000003,.row (.int .u32) v8),(64000004,.row (.int .u32) v9)]⟩
noncomputable def l0 ( k n:Nat) (v:T0):Option R:=held (loopN cs n b5 (K5 k) (s0 v))
noncomputable def D0 (v:T0):Option R:=lim fun L=>l0 (L 0) (L 1) v
theorem D0_cn (v:T0):Cn late (D0 v) fun L=>l0 (L 0) (L 1) v:=of_lim
abbrev T1:Type:=Int × Int × Int × List Int × Int × Int × List Int × Int × Int × Bool × List Int × Bool × List Int × Bool × List Int × List Int
abbrev Y1:=T1→Option R
def s1:T1→St:=fun (v0,v1,v2,v3,v4,v5,v6,v7,v8,v9,v10,v11,v12,v13,v14,v15)=>⟨87,0,[(2,.c (.ptr 64000000 0)),(3,.c (.ptr 64000001 0)),(4,.c (.ptr 64000002 0)),(6,.c (.sl 64000003)),(7,.c (.int .i64 v0)),(8,.c (.int .u32 v1)),(9,.c (.int .u64 v2)),(28,.c (.frz (.int .u32) v3)),(29,.c (.int .i64 v4)),(30,.c (.int .i64 v5)),(36,.c (.frz (.int .u32) v6)),(37,.c (.int .i64 v7)),(38,.c (.int .i64 v8))],[],[(256000000,.gone),(64000000,.box [.bool v9,.frz (.int .u32) v10]),(64000001,.box [.bool v11,.frz (.int .u32) v12]),(64000002,.box [.bool v13,.sl 64000004]),(64000003,.row (.int .u32) v14),(64000004,.row (.int .u32) v15)]⟩
noncomputable def l1 ( k m1 n:Nat) (v:T1):Option R:=held (loopN cs n b9 (K9 k m1) (s1 v))
noncomputable def D1 (v:T1):Option R:=lim fun L=>l1 (L 0) (L 1) (L 2) v
theorem D1_cn (v:T1):Cn late (D1 v) fun L=>l1 (L 0) (L 1) (L 2) v:=of_lim
def d0 (p0:Y1) (p1:g110.Y):Y0:=fun (v0,v1,v2,v3,v4,v5,v6,v7,v8,v9) =>
br (decide (v2 < v1)) (br (decide (0 ≤ v2 ∧ v2 < (↑v0.length:Int))) (p0 (v2,rd (Ty.int .u32) v0 v2,0,v0,v1,v2,v6,(↑v6.length:Int),0,v3,v4,v5,v6,v7,v8,v9)) none) (bnd (p1 (!v3 == v5,v8)) fun r=>some (r.1,r.2.1,r.2.2))
theorem d0_cn (k0:Pr E T1 R) (k1:Pr E g110.A g110.R):∀ v:T0,Cn E (d0 k0.p k1.p v) fun i=>d0 (k0.q i) (k1.q i) v:=fun (v0,v1,v2,v3,v4,v5,v6,v7,v8,v9)=>(.br (.br (k0.h _) .none) (.bnd (k1.h _) fun _=>.some))
theorem l0_b ( k m1:Nat):∀ v:T0,run (cs m1) (loopN cs m1) b5 (kLoop cs m1 b5 (K5 k)) (s0 v) = d0 (l1 k m1 m1) (g110.f k) v:=fun (v0,v1,v2,v3,v4,v5,v6,v7,v8,v9)=>by kernel_rfl
theorem D0_of (v:T0) {r:R} (h:d0 D1 g110.F v = some r):D0 v = some r:=loop_of 1 (fun L n hn=>by show l0 (L 0) (L 1) v = _; rw [hn]; exact (held_eq _).trans ((loopN_succ _ _ _ _ _).trans (l0_b (L 0) n v))) (d0_cn (.mk fun v=>(D1_cn v).re [0,1,1]) (lp g110.f 0) v) h
noncomputable def d1 (p0:Y1) (p1:Y0):Y1:=fun (v0,v1,v2,v3,v4,v5,v6,v7,v8,v9,v10,v11,v12,v13,v14,v15) =>
br (decide (v8 < v7)) (br (decide (0 ≤ v8 ∧ v8 < (↑v6.length:Int))) (br (decide (0 ≤ wrap .i64 (v0 + v8) ∧ wrap .i64 (v0 + v8) < (↑v14.length:Int))) (br (decide (0 ≤ wrap .i64 (v0 + v8) ∧ wrap .i64 (v0 + v8) < (↑v14.length:Int))) (br (decide ((0:Int) ≤ 32)) (p0 (v0,v1,shr .u64 (wrap .u64 (v2 + wrap .u64 (wrap .u64 (wrap .u64 v1 * wrap .u64 (rd (Ty.int .u32) v6 v8)) + wrap .u64 (rd (Ty.int .u32) v14 (wrap .i64 (v0 + v8)))))) 32,v3,v4,v5,v6,v7,wrap .i64 (v8 + 1),v9,v10,v11,v12,v13,v14.set (wrap .i64 (v0 + v8)).toNat (wrap .u32 (wrap .u64 (v2 + wrap .u64 (wrap .u64 (wrap .u64 v1 * wrap .u64 (rd (Ty.int .u32) v6 v8)) + wrap .u64 (rd (Ty.int .u32) v14 (wrap .i64 (v0 + v8))))))),v15)) none) none) none) none) (br (decide (0 ≤ wrap .i64 (v0 + (↑v12.length:Int)) ∧ wrap .i64 (v0 + (↑v12.length:Int)) < (↑v14.length:Int))) (p1 (v3,v4,wrap .i64 (v5 + 1),v9,v10,v11,v12,v13,v14.set (wrap .i64 (v0 + (↑v12.length:Int))).toNat (wrap .u32 v2),v15)) none)
theorem d1_cn (k0:Pr E T1 R) (k1:Pr E T0 R):∀ v:T1,Cn E (d1 k0.p k1.p v) fun i=>d1 (k0.q i) (k1.q i) v:=fun (v0,v1,v2,v3,v4,v5,v6,v7,v8,v9,v10,v11,v12,v13,v14,v15)=>(.br (.br (.br (.br (.br (k0.h _) .none) .none) .none) .none) (.br (k1.h _) .none))
theorem l1_b ( k m1 m2:Nat):∀ v:T1,run (cs m2) (loopN cs m2) b9 (kLoop cs m2 b9 (K9 k m1)) (s1 v) = d1 (l1 k m1 m2) (l0 k m1) v:=fun (v0,v1,v2,v3,v4,v5,v6,v7,v8,v9,v10,v11,v12,v13,v14,v15)=>by kernel_rfl
theorem D1_of (v:T1) {r:R} (h:d1 D1 D0 v = some r):D1 v = some r:=loop_of 2 (fun L n hn=>by show l1 (L 0) (L 1) (L 2) v = _; rw [hn]; exact (held_eq _).trans ((loopN_succ _ _ _ _ _).trans (l1_b (L 0) (L 1) n v))) (d1_cn (.mk fun v=>(D1_cn v).re [0,1,2]) (.mk fun v=>(D0_cn v).re [0,1]) v) h
noncomputable def f (k:Nat):Y:=fun v=>held (runFn cs k Tryz.f157 (sh.args v) (sh.slots v) dec)
noncomputable def F:Y:=lm f
def d (p0:g109.Y) (p1:Y0):Y:=fun (v0,v1,v2,v3) =>
bnd (p0 (v0,v1)) fun r=>bnd (p0 (v2,v3)) fun r_1=>br (decide (131073 < wrap .i64 (r + r_1))) (some (false,2,[])) (br (decide (0 ≤ wrap .i64 ((↑v1.length:Int) + (↑v3.length:Int)) ∧ wrap .i64 ((↑v1.length:Int) + (↑v3.length:Int)) ≤ wrap .i64 ((↑v1.length:Int) + (↑v3.length:Int)) ∧ wrap .i64 ((↑v1.length:Int) + (↑v3.length:Int)) ≤ (↑(140737488355328 / 4):Int))) (p1 (v1,(↑v1.length:Int),0,v0,v1,v2,v3,false,List.replicate (wrap .i64 ((↑v1.length:Int) + (↑v3.length:Int))).toNat (Ty.int .u32).dflt,[])) none)
theorem d_cn (k0:Pr E g109.A g109.R) (k1:Pr E T0 R):∀ v:A,Cn E (d k0.p k1.p v) fun i=>d (k0.q i) (k1.q i) v:=fun (v0,v1,v2,v3)=>(.bnd (k0.h _) fun _=>(.bnd (k0.h _) fun _=>(.br .some (.br (k1.h _) .none))))
theorem f_b (k:Nat):∀ v:A,f k v = d (g109.f k) (l0 k k) v:=fun (v0,v1,v2,v3)=>(held_eq _).trans (by kernel_rfl)
theorem F_of (v:A) {r:R} (h:d g109.F D0 v = some r):F v = some r:=join_of (fun L=>f_b (L 0) v) (d_cn (lp g109.f 0) (.mk fun v=>(D0_cn v).re [0,0]) v) h
noncomputable def spec (k:Nat):List AV→List Slot→Option Ans:=specS sh os (f k)
theorem spec_ok (k:Nat):SpecOk Tryz.prog 157 (spec k):=specS_ok cs_ok Tryz.func157 rfl rfl (fun _ _=>held_eq _) k
end g111
noncomputable def tg111:=tg110.cons 157 g111.spec g111.spec_ok
namespace g112 -- sphere_mul
abbrev R:Type:=Bool × List Int
abbrev A:Type:=Bool × List Int × Bool × List Int
abbrev Y:=A→Option R
def lv:List (Nat × List Nat):=[(2000000,[4])]
noncomputable def cs:Nat→Ctx:=ctxOf tis modes tg111.1 lv
theorem cs_ok (n:Nat):CtxOk Tryz.prog (cs n):=ctxOf_ok rfl tis_ok tg111.2 n
def sh:AS:=⟨[.agg [.bool,.frz (.int .u32)],.agg [.bool,.frz (.int .u32)]],[]⟩
def os:OS:=⟨.agg [.bool,.sl 128000000],[(.row (.int .u32))]⟩
def enc (r:R):Out:=os.enc r
def dec:Out→Option R:=os.dec
noncomputable def b0:Code:=subF [] Tryz.f109
noncomputable def K0 (k:Nat):Kt R:=kTop (cs k) Tryz.f109 dec
noncomputable def f (k:Nat):Y:=fun v=>held (runFn cs k Tryz.f109 (sh.args v) (sh.slots v) dec)
noncomputable def F:Y:=lm f
def d (p0:g111.Y):Y:=fun (v0,v1,v2,v3) =>
bnd (p0 (v0,v1,v2,v3)) fun r=>some (r.1,r.2.2)
theorem d_cn (k0:Pr E g111.A g111.R):∀ v:A,Cn E (d k0.p v) fun i=>d (k0.q i) v:=fun (v0,v1,v2,v3)=>(.bnd (k0.h _) fun _=>.some)
theorem f_b (k:Nat):∀ v:A,f k v = d (g111.f k) v:=fun (v0,v1,v2,v3)=>(held_eq _).trans (by kernel_rfl)
theorem F_of (v:A) {r:R} (h:d g111.F v = some r):F v = some r:=join_of (fun L=>f_b (L 0) v) (d_cn (lp g111.f 0) v) h
noncomputable def spec (k:Nat):List AV→List Slot→Option Ans:=specS sh os (f k)
theorem spec_ok (k:Nat):SpecOk Tryz.prog 109 (spec k):=specS_ok cs_ok Tryz.func109 rfl rfl (fun _ _=>held_eq _) k
end g112
noncomputable def tg112:=tg111.cons 109 g112.spec g112.spec_ok
namespace g113 -- sphere_norms
abbrev R:Type:=Bool × List Int
abbrev A:Type:=Int × Int × Int × Int × Int × Int
abbrev Y:=A→Option R
def lv:List (Nat × List Nat):=[(2000000,[4])]
noncomputable def cs:Nat→Ctx:=ctxOf tis modes tg112.1 lv
theorem cs_ok (n:Nat):CtxOk Tryz.prog (cs n):=ctxOf_ok rfl tis_ok tg112.2 n
def sh:AS:=⟨[.agg [.int .i64,.int .i64,.int .i64],.agg [.int .i64,.int .i64,.int .i64]],[]⟩
def os:OS:=⟨.agg [.bool,.sl 128000000],[(.row (.int .u32))]⟩
def enc (r:R):Out:=os.enc r
def dec:Out→Option R:=os.dec
noncomputable def b0:Code:=subF [] Tryz.f108
noncomputable def K0 (k:Nat):Kt R:=kTop (cs k) Tryz.f108 dec
noncomputable def f (k:Nat):Y:=fun v=>held (runFn cs k Tryz.f108 (sh.args v) (sh.slots v) dec)
noncomputable def F:Y:=lm f
def d (p0:g104.Y) (p1:g107.Y) (p2:g112.Y):Y:=fun (v0,v1,v2,v3,v4,v5) =>
bnd (p0 (v0,v1,v2,v0,v1,v2)) fun r=>bnd (p1 r) fun r=>bnd (p0 (v3,v4,v5,v3,v4,v5)) fun r_1=>bnd (p1 r_1) fun r_2=>bnd (p2 (r.1,r.2,r_2.1,r_2.2)) fun r=>some (r.1,r.2)
theorem d_cn (k0:Pr E g104.A g104.R) (k1:Pr E g107.A g107.R) (k2:Pr E g112.A g112.R):∀ v:A,Cn E (d k0.p k1.p k2.p v) fun i=>d (k0.q i) (k1.q i) (k2.q i) v:=fun (v0,v1,v2,v3,v4,v5)=>(.bnd (k0.h _) fun _=>(.bnd (k1.h _) fun _=>(.bnd (k0.h _) fun _=>(.bnd (k1.h _) fun _=>(.bnd (k2.h _) fun _=>.some)))))
theorem f_b (k:Nat):∀ v:A,f k v = d (g104.f k) (g107.f k) (g112.f k) v:=fun (v0,v1,v2,v3,v4,v5)=>(held_eq _).trans (by kernel_rfl)
theorem F_of (v:A) {r:R} (h:d g104.F g107.F g112.F v = some r):F v = some r:=join_of (fun L=>f_b (L 0) v) (d_cn (lp g104.f 0) (lp g107.f 0) (lp g112.f 0) v) h
noncomputable def spec (k:Nat):List AV→List Slot→Option Ans:=specS sh os (f k)
theorem spec_ok (k:Nat):SpecOk Tryz.prog 108 (spec k):=specS_ok cs_ok Tryz.func108 rfl rfl (fun _ _=>held_eq _) k
end g113
noncomputable def tg113:=tg112.cons 108 g113.spec g113.spec_ok
namespace g114 -- sphere_square
abbrev R:Type:=Bool × List Int
abbrev A:Type:=Int
abbrev Y:=A→Option R
def lv:List (Nat × List Nat):=[(2000000,[2])]
noncomputable def cs:Nat→Ctx:=ctxOf tis modes tg113.1 lv
theorem cs_ok (n:Nat):CtxOk Tryz.prog (cs n):=ctxOf_ok rfl tis_ok tg113.2 n
def sh:AS:=⟨[(.c (.int .i64))],[]⟩
def os:OS:=⟨.agg [.bool,.sl 128000000],[(.row (.int .u32))]⟩
def enc (r:R):Out:=os.enc r
def dec:Out→Option R:=os.dec
noncomputable def b0:Code:=subF [] Tryz.f110
noncomputable def K0 (k:Nat):Kt R:=kTop (cs k) Tryz.f110 dec
noncomputable def f (k:Nat):Y:=fun v=>held (runFn cs k Tryz.f110 (sh.args v) (sh.slots v) dec)
noncomputable def F:Y:=lm f
def d (p0:g107.Y) (p1:g112.Y):Y:=fun v0 =>
bnd (p0 v0) fun r=>bnd (p0 v0) fun r_1=>bnd (p1 (r.1,r.2,r_1.1,r_1.2)) fun r=>some (r.1,r.2)
theorem d_cn (k0:Pr E g107.A g107.R) (k1:Pr E g112.A g112.R):∀ v:A,Cn E (d k0.p k1.p v) fun i=>d (k0.q i) (k1.q i) v:=fun v0=>(.bnd (k0.h _) fun _=>(.bnd (k0.h _) fun _=>(.bnd (k1.h _) fun _=>.some)))
theorem f_b (k:Nat):∀ v:A,f k v = d (g107.f k) (g112.f k) v:=fun v0=>(held_eq _).trans (by kernel_rfl)
theorem F_of (v:A) {r:R} (h:d g107.F g112.F v = some r):F v = some r:=join_of (fun L=>f_b (L 0) v) (d_cn (lp g107.f 0) (lp g112.f 0) v) h
noncomputable def spec (k:Nat):List AV→List Slot→Option Ans:=specS sh os (f k)
theorem spec_ok (k:Nat):SpecOk Tryz.prog 110 (spec k):=specS_ok cs_ok Tryz.func110 rfl rfl (fun _ _=>held_eq _) k
end g114
noncomputable def tg114:=tg113.cons 110 g114.spec g114.spec_ok
namespace g115 -- big_Sign
abbrev R:Type:=Int
abbrev A:Type:=Bool × List Int
abbrev Y:=A→Option R
def lv:List (Nat × List Nat):=[(2000000,[2])]
noncomputable def cs:Nat→Ctx:=ctxOf tis modes tg114.1 lv
theorem cs_ok (n:Nat):CtxOk Tryz.prog (cs n):=ctxOf_ok rfl tis_ok tg114.2 n
def sh:AS:=⟨[(.agg [.bool,.frz (.int .u32)])],[]⟩
def os:OS:=⟨.c (.int .i64),[]⟩
def enc (r:R):Out:=os.enc r
def dec:Out→Option R:=os.dec
noncomputable def b0:Code:=subF [] Tryz.f159
noncomputable def K0 (k:Nat):Kt R:=kTop (cs k) Tryz.f159 dec
noncomputable def f (k:Nat):Y:=fun v=>held (runFn cs k Tryz.f159 (sh.args v) (sh.slots v) dec)
noncomputable def F:Y:=lm f
def d:Y:=fun (v0,v1) =>
br v0 (some (-1)) (br (decide (0 < (↑v1.length:Int))) (some 1) (some 0))
theorem d_cn:∀ v:A,Cn E (d v) fun i=>d v:=fun (v0,v1)=>(.br .some (.br .some .some))
theorem f_b (k:Nat):∀ v:A,f k v = d v:=fun (v0,v1)=>(held_eq _).trans (by kernel_rfl)
theorem F_of (v:A) {r:R} (h:d v = some r):F v = some r:=join_of (fun L=>f_b (L 0) v) (d_cn v) h
noncomputable def spec (k:Nat):List AV→List Slot→Option Ans:=specS sh os (f k)
theorem spec_ok (k:Nat):SpecOk Tryz.prog 159 (spec k):=specS_ok cs_ok Tryz.func159 rfl rfl (fun _ _=>held_eq _) k
end g115
noncomputable def tg115:=tg114.cons 159 g115.spec g115.spec_ok
namespace g116 -- cmp_isNaN_int
abbrev R:Type:=Bool
abbrev A:Type:=Int
abbrev Y:=A→Option R
def lv:List (Nat × List Nat):=[(2000000,[2])]
noncomputable def cs:Nat→Ctx:=ctxOf tis modes tg115.1 lv
theorem cs_ok (n:Nat):CtxOk Tryz.prog (cs n):=ctxOf_ok rfl tis_ok tg115.2 n
def sh:AS:=⟨[(.c (.int .i64))],[]⟩
def os:OS:=⟨.c .bool,[]⟩
def enc (r:R):Out:=os.enc r
def dec:Out→Option R:=os.dec
noncomputable def b0:Code:=subF [] Tryz.f193
noncomputable def K0 (k:Nat):Kt R:=kTop (cs k) Tryz.f193 dec
noncomputable def f (k:Nat):Y:=fun v=>held (runFn cs k Tryz.f193 (sh.args v) (sh.slots v) dec)
noncomputable def F:Y:=lm f
def d:Y:=fun v0 =>
some !decide (v0 = v0)
theorem d_cn:∀ v:A,Cn E (d v) fun i=>d v:=fun v0=>.some
theorem f_b (k:Nat):∀ v:A,f k v = d v:=fun v0=>(held_eq _).trans (by kernel_rfl)
theorem F_of (v:A) {r:R} (h:d v = some r):F v = some r:=join_of (fun L=>f_b (L 0) v) (d_cn v) h
noncomputable def spec (k:Nat):List AV→List Slot→Option Ans:=specS sh os (f k)
theorem spec_ok (k:Nat):SpecOk Tryz.prog 193 (spec k):=specS_ok cs_ok Tryz.func193 rfl rfl (fun _ _=>held_eq _) k
end g116
noncomputable def tg116:=tg115.cons 193 g116.spec g116.spec_ok
namespace g117 -- cmp_Compare_int
abbrev R:Type:=Int
abbrev A:Type:=Int × Int
abbrev Y:=A→Option R
def lv:List (Nat × List Nat):=[(2000000,[4])]
noncomputable def cs:Nat→Ctx:=ctxOf tis modes tg116.1 lv
theorem cs_ok (n:Nat):CtxOk Tryz.prog (cs n):=ctxOf_ok rfl tis_ok tg116.2 n
def sh:AS:=⟨[.c (.int .i64),.c (.int .i64)],[]⟩
def os:OS:=⟨.c (.int .i64),[]⟩
def enc (r:R):Out:=os.enc r
def dec:Out→Option R:=os.dec
noncomputable def b0:Code:=subF [] Tryz.f158
noncomputable def K0 (k:Nat):Kt R:=kTop (cs k) Tryz.f158 dec
noncomputable def f (k:Nat):Y:=fun v=>held (runFn cs k Tryz.f158 (sh.args v) (sh.slots v) dec)
noncomputable def F:Y:=lm f
def d (p0:g116.Y):Y:=fun (v0,v1) =>
bnd (p0 v0) fun r=>bnd (p0 v1) fun r_1=>br r (br r_1 (some 0) (some (-1))) (br r_1 (some 1) (br (decide (v0 < v1)) (some (-1)) (br (decide (v1 < v0)) (some 1) (some 0))))
theorem d_cn (k0:Pr E g116.A g116.R):∀ v:A,Cn E (d k0.p v) fun i=>d (k0.q i) v:=fun (v0,v1)=>(.bnd (k0.h _) fun _=>(.bnd (k0.h _) fun _=>(.br (.br .some .some) (.br .some (.br .some (.br .some .some))))))
theorem f_b (k:Nat):∀ v:A,f k v = d (g116.f k) v:=fun (v0,v1)=>(held_eq _).trans (by kernel_rfl)
theorem F_of (v:A) {r:R} (h:d g116.F v = some r):F v = some r:=join_of (fun L=>f_b (L 0) v) (d_cn (lp g116.f 0) v) h
noncomputable def spec (k:Nat):List AV→List Slot→Option Ans:=specS sh os (f k)
theorem spec_ok (k:Nat):SpecOk Tryz.prog 158 (spec k):=specS_ok cs_ok Tryz.func158 rfl rfl (fun _ _=>held_eq _) k
end g117
noncomputable def tg117:=tg116.cons 158 g117.spec g117.spec_ok
namespace g118 -- cmp_isNaN_uint32
abbrev R:Type:=Bool
abbrev A:Type:=Int
abbrev Y:=A→Option R
def lv:List (Nat × List Nat):=[(2000000,[2])]
noncomputable def cs:Nat→Ctx:=ctxOf tis modes tg117.1 lv
theorem cs_ok (n:Nat):CtxOk Tryz.prog (cs n):=ctxOf_ok rfl tis_ok tg117.2 n
def sh:AS:=⟨[(.c (.int .u32))],[]⟩
def os:OS:=⟨.c .bool,[]⟩
def enc (r:R):Out:=os.enc r
def dec:Out→Option R:=os.dec
noncomputable def b0:Code:=subF [] Tryz.f217
noncomputable def K0 (k:Nat):Kt R:=kTop (cs k) Tryz.f217 dec
noncomputable def f (k:Nat):Y:=fun v=>held (runFn cs k Tryz.f217 (sh.args v) (sh.slots v) dec)
noncomputable def F:Y:=lm f
def d:Y:=fun v0 =>
some !decide (v0 = v0)
theorem d_cn:∀ v:A,Cn E (d v) fun i=>d v:=fun v0=>.some
theorem f_b (k:Nat):∀ v:A,f k v = d v:=fun v0=>(held_eq _).trans (by kernel_rfl)
theorem F_of (v:A) {r:R} (h:d v = some r):F v = some r:=join_of (fun L=>f_b (L 0) v) (d_cn v) h
noncomputable def spec (k:Nat):List AV→List Slot→Option Ans:=specS sh os (f k)
theorem spec_ok (k:Nat):SpecOk Tryz.prog 217 (spec k):=specS_ok cs_ok Tryz.func217 rfl rfl (fun _ _=>held_eq _) k
end g118
noncomputable def tg118:=tg117.cons 217 g118.spec g118.spec_ok
namespace g119 -- cmp_Compare_uint32
abbrev R:Type:=Int
abbrev A:Type:=Int × Int
abbrev Y:=A→Option R
def lv:List (Nat × List Nat):=[(2000000,[4])]
noncomputable def cs:Nat→Ctx:=ctxOf tis modes tg118.1 lv
theorem cs_ok (n:Nat):CtxOk Tryz.prog (cs n):=ctxOf_ok rfl tis_ok tg118.2 n
def sh:AS:=⟨[.c (.int .u32),.c (.int .u32)],[]⟩
def os:OS:=⟨.c (.int .i64),[]⟩
def enc (r:R):Out:=os.enc r
def dec:Out→Option R:=os.dec
noncomputable def b0:Code:=subF [] Tryz.f194
noncomputable def K0 (k:Nat):Kt R:=kTop (cs k) Tryz.f194 dec
noncomputable def f (k:Nat):Y:=fun v=>held (runFn cs k Tryz.f194 (sh.args v) (sh.slots v) dec)
noncomputable def F:Y:=lm f
def d (p0:g118.Y):Y:=fun (v0,v1) =>
bnd (p0 v0) fun r=>bnd (p0 v1) fun r_1=>br r (br r_1 (some 0) (some (-1))) (br r_1 (some 1) (br (decide (v0 < v1)) (some (-1)) (br (decide (v1 < v0)) (some 1) (some 0))))
theorem d_cn (k0:Pr E g118.A g118.R):∀ v:A,Cn E (d k0.p v) fun i=>d (k0.q i) v:=fun (v0,v1)=>(.bnd (k0.h _) fun _=>(.bnd (k0.h _) fun _=>(.br (.br .some .some) (.br .some (.br .some (.br .some .some))))))
theorem f_b (k:Nat):∀ v:A,f k v = d (g118.f k) v:=fun (v0,v1)=>(held_eq _).trans (by kernel_rfl)
theorem F_of (v:A) {r:R} (h:d g118.F v = some r):F v = some r:=join_of (fun L=>f_b (L 0) v) (d_cn (lp g118.f 0) v) h
noncomputable def spec (k:Nat):List AV→List Slot→Option Ans:=specS sh os (f k)
theorem spec_ok (k:Nat):SpecOk Tryz.prog 194 (spec k):=specS_ok cs_ok Tryz.func194 rfl rfl (fun _ _=>held_eq _) k
end g119
noncomputable def tg119:=tg118.cons 194 g119.spec g119.spec_ok
namespace g120 -- big_cmpMag
abbrev R:Type:=Int
abbrev A:Type:=List Int × List Int
abbrev Y:=A→Option R
def lv:List (Nat × List Nat):=[(2000000,[4]),(4,[0,1,5])]
noncomputable def cs:Nat→Ctx:=ctxOf tis modes tg119.1 lv
theorem cs_ok (n:Nat):CtxOk Tryz.prog (cs n):=ctxOf_ok rfl tis_ok tg119.2 n
def sh:AS:=⟨[.c (.frz (.int .u32)),.c (.frz (.int .u32))],[]⟩
def os:OS:=⟨.c (.int .i64),[]⟩
def enc (r:R):Out:=os.enc r
def dec:Out→Option R:=os.dec
noncomputable def b0:Code:=subF [] Tryz.f160
noncomputable def K0 (k:Nat):Kt R:=kTop (cs k) Tryz.f160 dec
noncomputable def b4:Code:=sub [1,1,0,1,0,0] b0
noncomputable def K4 ( k:Nat):Kt R:=kAt (cs k) (loopN cs k) [1,1,0,1,0] b0 (K0 k)
abbrev T0:Type:=List Int × List Int × Int
abbrev Y0:=T0→Option R
def s0:T0→St:=fun (v0,v1,v2)=>⟨41,0,[(0,.c (.frz (.int .u32) v0)),(1,.c (.frz (.int .u32) v1)),(5,.c (.int .i64 v2))],[],[(256000000,.gone)]⟩
noncomputable def l0 ( k n:Nat) (v:T0):Option R:=held (loopN cs n b4 (K4 k) (s0 v))
noncomputable def D0 (v:T0):Option R:=lim fun L=>l0 (L 0) (L 1) v
theorem D0_cn (v:T0):Cn late (D0 v) fun L=>l0 (L 0) (L 1) v:=of_lim
def d0 (p0:g119.Y) (p1:Y0):Y0:=fun (v0,v1,v2) =>
br (decide (0 ≤ v2)) (br (decide (0 ≤ v2 ∧ v2 < (↑v0.length:Int))) (br (decide (0 ≤ v2 ∧ v2 < (↑v1.length:Int))) (br (!decide (rd (Ty.int .u32) v0 v2 = rd (Ty.int .u32) v1 v2)) (br (decide (0 ≤ v2 ∧ v2 < (↑v0.length:Int))) (br (decide (0 ≤ v2 ∧ v2 < (↑v1.length:Int))) (bnd (p0 (rd (Ty.int .u32) v0 v2,rd (Ty.int .u32) v1 v2)) fun r=>some r) none) none) (p1 (v0,v1,wrap .i64 (v2 - 1)))) none) none) (some 0)
theorem d0_cn (k0:Pr E g119.A g119.R) (k1:Pr E T0 R):∀ v:T0,Cn E (d0 k0.p k1.p v) fun i=>d0 (k0.q i) (k1.q i) v:=fun (v0,v1,v2)=>(.br (.br (.br (.br (.br (.br (.bnd (k0.h _) fun _=>.some) .none) .none) (k1.h _)) .none) .none) .some)
theorem l0_b ( k m1:Nat):∀ v:T0,run (cs m1) (loopN cs m1) b4 (kLoop cs m1 b4 (K4 k)) (s0 v) = d0 (g119.f m1) (l0 k m1) v:=fun (v0,v1,v2)=>by kernel_rfl
theorem D0_of (v:T0) {r:R} (h:d0 g119.F D0 v = some r):D0 v = some r:=loop_of 1 (fun L n hn=>by show l0 (L 0) (L 1) v = _; rw [hn]; exact (held_eq _).trans ((loopN_succ _ _ _ _ _).trans (l0_b (L 0) n v))) (d0_cn (lp g119.f 1) (.mk fun v=>(D0_cn v).re [0,1]) v) h
noncomputable def f (k:Nat):Y:=fun v=>held (runFn cs k Tryz.f160 (sh.args v) (sh.slots v) dec)
noncomputable def F:Y:=lm f
def d (p0:g117.Y) (p1:Y0):Y:=fun (v0,v1) =>
br (!decide ((↑v0.length:Int) = (↑v1.length:Int))) (bnd (p0 ((↑v0.length:Int),(↑v1.length:Int))) fun r=>some r) (p1 (v0,v1,wrap .i64 ((↑v0.length:Int) - 1)))
theorem d_cn (k0:Pr E g117.A g117.R) (k1:Pr E T0 R):∀ v:A,Cn E (d k0.p k1.p v) fun i=>d (k0.q i) (k1.q i) v:=fun (v0,v1)=>(.br (.bnd (k0.h _) fun _=>.some) (k1.h _))
theorem f_b (k:Nat):∀ v:A,f k v = d (g117.f k) (l0 k k) v:=fun (v0,v1)=>(held_eq _).trans (by kernel_rfl)
theorem F_of (v:A) {r:R} (h:d g117.F D0 v = some r):F v = some r:=join_of (fun L=>f_b (L 0) v) (d_cn (lp g117.f 0) (.mk fun v=>(D0_cn v).re [0,0]) v) h
noncomputable def spec (k:Nat):List AV→List Slot→Option Ans:=specS sh os (f k)
theorem spec_ok (k:Nat):SpecOk Tryz.prog 160 (spec k):=specS_ok cs_ok Tryz.func160 rfl rfl (fun _ _=>held_eq _) k
end g120
noncomputable def tg120:=tg119.cons 160 g120.spec g120.spec_ok
namespace g121 -- big_Cmp
abbrev R:Type:=Int
abbrev A:Type:=Bool × List Int × Bool × List Int
abbrev Y:=A→Option R
def lv:List (Nat × List Nat):=[(2000000,[4])]
noncomputable def cs:Nat→Ctx:=ctxOf tis modes tg120.1 lv
theorem cs_ok (n:Nat):CtxOk Tryz.prog (cs n):=ctxOf_ok rfl tis_ok tg120.2 n
def sh:AS:=⟨[.agg [.bool,.frz (.int .u32)],.agg [.bool,.frz (.int .u32)]],[]⟩
def os:OS:=⟨.c (.int .i64),[]⟩
def enc (r:R):Out:=os.enc r
def dec:Out→Option R:=os.dec
noncomputable def b0:Code:=subF [] Tryz.f111
noncomputable def K0 (k:Nat):Kt R:=kTop (cs k) Tryz.f111 dec
noncomputable def f (k:Nat):Y:=fun v=>held (runFn cs k Tryz.f111 (sh.args v) (sh.slots v) dec)
noncomputable def F:Y:=lm f
def d (p0:g115.Y) (p1:g117.Y) (p2:g120.Y):Y:=fun (v0,v1,v2,v3) =>
br (!v0 == v2) (bnd (p0 (v0,v1)) fun r=>bnd (p0 (v2,v3)) fun r_1=>bnd (p1 (r,r_1)) fun r=>some r) (br v0 (bnd (p2 (v3,v1)) fun r=>some r) (bnd (p2 (v1,v3)) fun r=>some r))
theorem d_cn (k0:Pr E g115.A g115.R) (k1:Pr E g117.A g117.R) (k2:Pr E g120.A g120.R):∀ v:A,Cn E (d k0.p k1.p k2.p v) fun i=>d (k0.q i) (k1.q i) (k2.q i) v:=fun (v0,v1,v2,v3)=>(.br (.bnd (k0.h _) fun _=>(.bnd (k0.h _) fun _=>(.bnd (k1.h _) fun _=>.some))) (.br (.bnd (k2.h _) fun _=>.some) (.bnd (k2.h _) fun _=>.some)))
theorem f_b (k:Nat):∀ v:A,f k v = d (g115.f k) (g117.f k) (g120.f k) v:=fun (v0,v1,v2,v3)=>(held_eq _).trans (by kernel_rfl)
theorem F_of (v:A) {r:R} (h:d g115.F g117.F g120.F v = some r):F v = some r:=join_of (fun L=>f_b (L 0) v) (d_cn (lp g115.f 0) (lp g117.f 0) (lp g120.f 0) v) h
noncomputable def spec (k:Nat):List AV→List Slot→Option Ans:=specS sh os (f k)
theorem spec_ok (k:Nat):SpecOk Tryz.prog 111 (spec k):=specS_ok cs_ok Tryz.func111 rfl rfl (fun _ _=>held_eq _) k
end g121
noncomputable def tg121:=tg120.cons 111 g121.spec g121.spec_ok
namespace g122 -- sphere_Cosine
abbrev R:Type:=Int × Int × Bool
abbrev A:Type:=Int × Int × Int × Int × Int × Int
abbrev Y:=A→Option R
def lv:List (Nat × List Nat):=[(2000000,[4]),(6,[4,5,6,7,8,9]),(1000013,[4,5,8,9]),(1000015,[4,8,9])]
noncomputable def cs:Nat→Ctx:=ctxOf tis modes tg121.1 lv
theorem cs_ok (n:Nat):CtxOk Tryz.prog (cs n):=ctxOf_ok rfl tis_ok tg121.2 n
def sh:AS:=⟨[.agg [.int .i64,.int .i64,.int .i64],.agg [.int .i64,.int .i64,.int .i64]],[]⟩
def os:OS:=⟨.agg [.int .i64,.int .i64,.bool],[]⟩
def enc (r:R):Out:=os.enc r
def dec:Out→Option R:=os.dec
noncomputable def b0:Code:=subF [] Tryz.f85
noncomputable def K0 (k:Nat):Kt R:=kTop (cs k) Tryz.f85 dec
noncomputable def b6:Code:=sub [1,1,1,1,1,0,0,0] b0
noncomputable def K6 ( k:Nat):Kt R:=kAt (cs k) (loopN cs k) [1,1,1,1,1,0,0] b0 (K0 k)
noncomputable def c1000013:Code:=sub [1,1,1,1,1,1,1] b0
noncomputable def J1000013 ( k:Nat):Kt R:=kAt (cs k) (loopN cs k) [1,1,1,1,1,1,1] b0 (K0 k)
noncomputable def c1000015:Code:=sub [1,1,1,1,1,1,1,1] b0
noncomputable def J1000015 ( k:Nat):Kt R:=kAt (cs k) (loopN cs k) [1,1,1,1,1,1,1,1] b0 (K0 k)
abbrev T0:Type:=Int × Int × Int × Int × Int × Bool × Bool × Bool × List Int × List Int
abbrev Y0:=T0→Option R
def s0:T0→St:=fun (v0,v1,v2,v3,v4,v5,v6,v7,v8,v9)=>⟨60,0,[(4,.c (.ptr 64000000 0)),(5,.c (.int .i64 v0)),(6,.c (.ptr 64000001 0)),(7,.c (.ptr 64000002 0)),(8,.c (.int .i64 v1)),(9,.c (.int .i64 v2))],[],[(256000000,.gone),(64000000,.box [.int .i64 v3,.int .i64 v4,.bool v5]),(64000001,.box [.bool v6,.sl 64000003]),(64000002,.box [.bool v7,.sl 64000004]),(64000003,.row (.int .u32) v8),(64000004,.row (.int .u32) v9)]⟩
noncomputable def l0 ( k n:Nat) (v:T0):Option R:=held (loopN cs n b6 (K6 k) (s0 v))
noncomputable def D0 (v:T0):Option R:=lim fun L=>l0 (L 0) (L 1) v
theorem D0_cn (v:T0):Cn late (D0 v) fun L=>l0 (L 0) (L 1) v:=of_lim
abbrev T1:Type:=Int × Int × Int × Int × Int × Bool
abbrev Y1:=T1→Option R
def s1:T1→St:=fun (v0,v1,v2,v3,v4,v5)=>⟨60,0,[(4,.c (.ptr 64000000 0)),(5,.c (.int .i64 v0)),(8,.c (.int .i64 v1)),(9,.c (.int .i64 v2))],[],[(256000000,.gone),(64000000,.box [.int .i64 v3,.int .i64 v4,.bool v5])]⟩
noncomputable def l1 ( k:Nat) (v:T1):Option R:=held (run (cs k) (loopN cs k) c1000013 (J1000013 k) (s1 v))
noncomputable def D1 (v:T1):Option R:=lim fun L=>l1 (L 0) v
theorem D1_cn (v:T1):Cn late (D1 v) fun L=>l1 (L 0) v:=of_lim
abbrev T2:Type:=Int × Int × Int × Int × Bool
abbrev Y2:=T2→Option R
def s2:T2→St:=fun (v0,v1,v2,v3,v4)=>⟨60,0,[(4,.c (.ptr 64000000 0)),(8,.c (.int .i64 v0)),(9,.c (.int .i64 v1))],[],[(256000000,.gone),(64000000,.box [.int .i64 v2,.int .i64 v3,.bool v4])]⟩
noncomputable def l2 ( k:Nat) (v:T2):Option R:=held (run (cs k) (loopN cs k) c1000015 (J1000015 k) (s2 v))
noncomputable def D2 (v:T2):Option R:=lim fun L=>l2 (L 0) v
theorem D2_cn (v:T2):Cn late (D2 v) fun L=>l2 (L 0) v:=of_lim
noncomputable def d0 (p0:g114.Y) (p1:g112.Y) (p2:g121.Y) (p3:Y0) (p4:g114.Y) (p5:g112.Y) (p6:g121.Y) (p7:Y1):Y0:=fun (v0,v1,v2,v3,v4,v5,v6,v7,v8,v9) =>
br (decide (1 < wrap .i64 (v2 - v1))) (br (!decide (2 = 0)) (bnd (p0 (wrap .i64 ((wrap .i64 (v1 + v2)).tdiv 2))) fun r=>bnd (p1 (r.1,r.2,v6,v8)) fun r=>bnd (p2 (r.1,r.2,v7,v9)) fun r=>br (decide (r ≤ 0)) (p3 (v0,wrap .i64 ((wrap .i64 (v1 + v2)).tdiv 2),v2,v3,v4,v5,v6,v7,v8,v9)) (p3 (v0,v1,wrap .i64 ((wrap .i64 (v1 + v2)).tdiv 2),v3,v4,v5,v6,v7,v8,v9))) none) (bnd (p4 v1) fun r=>bnd (p5 (r.1,r.2,v6,v8)) fun r=>bnd (p6 (r.1,r.2,v7,v9)) fun r=>br (decide (r = 0)) (p7 (v0,v1,v1,v3,v4,v5)) (p7 (v0,v1,v2,v3,v4,v5)))
theorem d0_cn (k0:Pr E g114.A g114.R) (k1:Pr E g112.A g112.R) (k2:Pr E g121.A g121.R) (k3:Pr E T0 R) (k4:Pr E g114.A g114.R) (k5:Pr E g112.A g112.R) (k6:Pr E g121.A g121.R) (k7:Pr E T1 R):∀ v:T0,Cn E (d0 k0.p k1.p k2.p k3.p k4.p k5.p k6.p k7.p v) fun i=>d0 (k0.q i) (k1.q i) (k2.q i) (k3.q i) (k4.q i) (k5.q i) (k6.q i) (k7.q i) v:=fun (v0,v1,v2,v3,v4,v5,v6,v7,v8,v9)=>(.br (.br (.bnd (k0.h _) fun _=>(.bnd (k1.h _) fun _=>(.bnd (k2.h _) fun _=>(.br (k3.h _) (k3.h _))))) .none) (.bnd (k4.h _) fun _=>(.bnd (k5.h _) fun _=>(.bnd (k6.h _) fun _=>(.br (k7.h _) (k7.h _))))))
theorem l0_b ( k m1:Nat):∀ v:T0,run (cs m1) (loopN cs m1) b6 (kLoop cs m1 b6 (K6 k)) (s0 v) = d0 (g114.f m1) (g112.f m1) (g121.f m1) (l0 k m1) (g114.f k) (g112.f k) (g121.f k) (l1 k) v:=fun (v0,v1,v2,v3,v4,v5,v6,v7,v8,v9)=>by kernel_rfl
theorem D0_of (v:T0) {r:R} (h:d0 g114.F g112.F g121.F D0 g114.F g112.F g121.F D1 v = some r):D0 v = some r:=loop_of 1 (fun L n hn=>by show l0 (L 0) (L 1) v = _; rw [hn]; exact (held_eq _).trans ((loopN_succ _ _ _ _ _).trans (l0_b (L 0) n v))) (d0_cn (lp g114.f 1) (lp g112.f 1) (lp g121.f 1) (.mk fun v=>(D0_cn v).re [0,1]) (lp g114.f 0) (lp g112.f 0) (lp g121.f 0) (.mk fun v=>(D1_cn v).re [0]) v) h
def d1 (p0:Y2):Y1:=fun (v0,v1,v2,v3,v4,v5) =>
br (decide (v0 < 0)) (p0 (wrap .i64 (0 - v2),wrap .i64 (0 - v1),v3,v4,v5)) (p0 (v1,v2,v3,v4,v5))
theorem d1_cn (k0:Pr E T2 R):∀ v:T1,Cn E (d1 k0.p v) fun i=>d1 (k0.q i) v:=fun (v0,v1,v2,v3,v4,v5)=>(.br (k0.h _) (k0.h _))
theorem l1_b ( k:Nat):∀ v:T1,run (cs k) (loopN cs k) c1000013 (J1000013 k) (s1 v) = d1 (l2 k) v:=fun (v0,v1,v2,v3,v4,v5)=>by kernel_rfl
theorem D1_of (v:T1) {r:R} (h:d1 D2 v = some r):D1 v = some r:=join_of (fun L=>(held_eq _).trans (l1_b (L 0) v)) (d1_cn (.mk fun v=>(D2_cn v).re [0]) v) h
def d2:Y2:=fun (v0,v1,v2,v3,v4) =>
some (v0,v1,false)
theorem d2_cn:∀ v:T2,Cn E (d2 v) fun i=>d2 v:=fun (v0,v1,v2,v3,v4)=>.some
theorem l2_b ( k:Nat):∀ v:T2,run (cs k) (loopN cs k) c1000015 (J1000015 k) (s2 v) = d2 v:=fun (v0,v1,v2,v3,v4)=>by kernel_rfl
theorem D2_of (v:T2) {r:R} (h:d2 v = some r):D2 v = some r:=join_of (fun L=>(held_eq _).trans (l2_b (L 0) v)) (d2_cn v) h
noncomputable def f (k:Nat):Y:=fun v=>held (runFn cs k Tryz.f85 (sh.args v) (sh.slots v) dec)
noncomputable def F:Y:=lm f
def d (p0:g103.Y) (p1:g104.Y) (p2:g113.Y) (p3:g114.Y) (p4:g112.Y) (p5:Y0):Y:=fun (v0,v1,v2,v3,v4,v5) =>
bnd (p0 (v0,v1,v2,v3,v4,v5)) fun r=>br (!r) (some (0,0,true)) (bnd (p1 (v0,v1,v2,v3,v4,v5)) fun r=>bnd (p2 (v0,v1,v2,v3,v4,v5)) fun r_1=>bnd (p3 r) fun r_2=>bnd (p3 1073741824) fun r_3=>bnd (p4 (r_2.1,r_2.2,r_3.1,r_3.2)) fun r_4=>p5 (r,0,1073741825,0,0,false,r_1.1,r_4.1,r_1.2,r_4.2))
theorem d_cn (k0:Pr E g103.A g103.R) (k1:Pr E g104.A g104.R) (k2:Pr E g113.A g113.R) (k3:Pr E g114.A g114.R) (k4:Pr E g112.A g112.R) (k5:Pr E T0 R):∀ v:A,Cn E (d k0.p k1.p k2.p k3.p k4.p k5.p v) fun i=>d (k0.q i) (k1.q i) (k2.q i) (k3.q i) (k4.q i) (k5.q i) v:=fun (v0,v1,v2,v3,v4,v5)=>(.bnd (k0.h _) fun _=>(.br .some (.bnd (k1.h _) fun _=>(.bnd (k2.h _) fun _=>(.bnd (k3.h _) fun _=>(.bnd (k3.h _) fun _=>(.bnd (k4.h _) fun _=>(k5.h _))))))))
theorem f_b (k:Nat):∀ v:A,f k v = d (g103.f k) (g104.f k) (g113.f k) (g114.f k) (g112.f k) (l0 k k) v:=fun (v0,v1,v2,v3,v4,v5)=>(held_eq _).trans (by kernel_rfl)
theorem F_of (v:A) {r:R} (h:d g103.F g104.F g113.F g114.F g112.F D0 v = some r):F v = some r:=join_of (fun L=>f_b (L 0) v) (d_cn (lp g103.f 0) (lp g104.f 0) (lp g113.f 0) (lp g114.f 0) (lp g112.f 0) (.mk fun v=>(D0_cn v).re [0,0]) v) h
noncomputable def spec (k:Nat):List AV→List Slot→Option Ans:=specS sh os (f k)
theorem spec_ok (k:Nat):SpecOk Tryz.prog 85 (spec k):=specS_ok cs_ok Tryz.func85 rfl rfl (fun _ _=>held_eq _) k
end g122
noncomputable def tg122:=tg121.cons 85 g122.spec g122.spec_ok
namespace g123 -- window_why
abbrev R:Type:=Int
abbrev A:Type:=Int × Int × Int × Int × Int × Int × Int × Int × Int × Int × Int × Int × Int × Int × Int × Int × List Int × Int × Int × Int × Int × Int × Int × Int × Int × Int × Int × Int × Int × Int × Int
abbrev Y:=A→Option R
def lv:List (Nat × List Nat):=[(2000000,[6])]
noncomputable def cs:Nat→Ctx:=ctxOf tis modes tg122.1 lv
theorem cs_ok (n:Nat):CtxOk Tryz.prog (cs n):=ctxOf_ok rfl tis_ok tg122.2 n
def sh:AS:=⟨[.agg [.int .i64,.int .i64,.int .i64,.int .i64,.int .i64,.int .i64,.int .i64,.int .i64,.int .i64,.int .i64,.int .i64,.int .i64,.int .i64,.int .i64,.int .i64,.int .i64,.frz (.int .i64)],.agg [.int .i64,.int .i64,.int .i64,.int .i64,.int .i64,.int .i64,.int .i64,.int .i64,.int .i64,.int .i64,.int .i64,.int .i64,.int .i64],.c (.int .i64)],[]⟩
def os:OS:=⟨.c (.int .i64),[]⟩
def enc (r:R):Out:=os.enc r
def dec:Out→Option R:=os.dec
noncomputable def b0:Code:=subF [] Tryz.f53
noncomputable def K0 (k:Nat):Kt R:=kTop (cs k) Tryz.f53 dec
noncomputable def f (k:Nat):Y:=fun v=>held (runFn cs k Tryz.f53 (sh.args v) (sh.slots v) dec)
noncomputable def F:Y:=lm f
noncomputable def d (p0:g101.Y) (p1:g99.Y) (p2:g102.Y) (p3:g122.Y) (p4:g100.Y):Y:=fun (v0,v1,v2,v3,v4,v5,v6,v7,v8,v9,v10,v11,v12,v13,v14,v15,v16,v17,v18,v19,v20,v21,v22,v23,v24,v25,v26,v27,v28,v29,v30) =>
bnd (p0 (v0,v1,v2,v3,v4,v5,v6,v7,v8,v9,v10,v11,v12,v13,v14,v15,v16,v30)) fun r=>br (!r) (some 1) (br (decide (0 ≤ v30 ∧ v30 < (↑v16.length:Int))) (br (decide (v28 < rd (Ty.int .i64) v16 v30)) (some 2) (bnd (p1 (v0,v1,v2,v3,v4,v5,v6,v7,v8,v9,v10,v11,v12,v13,v14,v15,v16,v19,v20,v21,v30)) fun r=>bnd (p2 (r.1,r.2.1,r.2.2,v26)) fun r=>br (!r) (some 3) (bnd (p3 (v19,v20,v21,v12,v13,v14)) fun r=>bnd (p4 (r.1,r.2.1,r.2.2,v27)) fun r=>br ((!r) == true) (br ((!r) == true) (br ((!r) == true) (bnd (p1 (v0,v1,v2,v3,v4,v5,v6,v7,v8,v9,v10,v11,v12,v13,v14,v15,v16,v12,v13,v14,v30)) fun r_1=>br ((!r) == true) (bnd (p4 (r_1.1,r_1.2.1,r_1.2.2,-1)) fun r_2=>br (!r && !r_2) (some 4) (some 0)) (br (!(!r) == true) (br (!!r) (some 0) none) none)) (br ((!r) == true) none (br (!(!r) == true) (br (!!r) (some 0) none) none))) (br ((!r) == true) none (br ((!r) == true) none (br (!(!r) == true) (br (!!r) (some 0) none) none)))) (br ((!r) == true) (br ((!r) == true) none (br ((!r) == true) none (br (!(!r) == true) (br (!!r) (some 0) none) none))) (br ((!r) == true) none (br ((!r) == true) none (br (!(!r) == true) (br (!!r) (some 0) none) none))))))) none)
theorem d_cn (k0:Pr E g101.A g101.R) (k1:Pr E g99.A g99.R) (k2:Pr E g102.A g102.R) (k3:Pr E g122.A g122.R) (k4:Pr E g100.A g100.R):∀ v:A,Cn E (d k0.p k1.p k2.p k3.p k4.p v) fun i=>d (k0.q i) (k1.q i) (k2.q i) (k3.q i) (k4.q i) v:=fun (v0,v1,v2,v3,v4,v5,v6,v7,v8,v9,v10,v11,v12,v13,v14,v15,v16,v17,v18,v19,v20,v21,v22,v23,v24,v25,v26,v27,v28,v29,v30)=>(.bnd (k0.h _) fun _=>(.br .some (.br (.br .some (.bnd (k1.h _) fun _=>(.bnd (k2.h _) fun _=>(.br .some (.bnd (k3.h _) fun _=>(.bnd (k4.h _) fun _=>(.br (.br (.br (.bnd (k1.h _) fun _=>(.br (.bnd (k4.h _) fun _=>(.br .some .some)) (.br (.br .some .none) .none))) (.br .none (.br (.br .some .none) .none))) (.br .none (.br .none (.br (.br .some .none) .none)))) (.br (.br .none (.br .none (.br (.br .some .none) .none))) (.br .none (.br .none (.br (.br .some .none) .none))))))))))) .none)))
theorem f_b (k:Nat):∀ v:A,f k v = d (g101.f k) (g99.f k) (g102.f k) (g122.f k) (g100.f k) v:=fun (v0,v1,v2,v3,v4,v5,v6,v7,v8,v9,v10,v11,v12,v13,v14,v15,v16,v17,v18,v19,v20,v21,v22,v23,v24,v25,v26,v27,v28,v29,v30)=>(held_eq _).trans (by kernel_rfl)
theorem F_of (v:A) {r:R} (h:d g101.F g99.F g102.F g122.F g100.F v = some r):F v = some r:=join_of (fun L=>f_b (L 0) v) (d_cn (lp g101.f 0) (lp g99.f 0) (lp g102.f 0) (lp g122.f 0) (lp g100.f 0) v) h
noncomputable def spec (k:Nat):List AV→List Slot→Option Ans:=specS sh os (f k)
theorem spec_ok (k:Nat):SpecOk Tryz.prog 53 (spec k):=specS_ok cs_ok Tryz.func53 rfl rfl (fun _ _=>held_eq _) k
end g123
noncomputable def tg123:=tg122.cons 53 g123.spec g123.spec_ok
namespace g124 -- window_Slots
abbrev R:Type:=Int × List Int
abbrev A:Type:=Int × Int × Int × Int × Int × Int × Int × Int × Int × Int × Int × Int × Int × Int × Int × Int × List Int × Int × Int × Int × Int × Int × Int × Int × Int × Int × Int × Int × Int × Int
abbrev Y:=A→Option R
def lv:List (Nat × List Nat):=[(2000000,[4,5]),(6,[2,3,7,19,20])]
noncomputable def cs:Nat→Ctx:=ctxOf tis modes tg123.1 lv
theorem cs_ok (n:Nat):CtxOk Tryz.prog (cs n):=ctxOf_ok rfl tis_ok tg123.2 n
def sh:AS:=⟨[.agg [.int .i64,.int .i64,.int .i64,.int .i64,.int .i64,.int .i64,.int .i64,.int .i64,.int .i64,.int .i64,.int .i64,.int .i64,.int .i64,.int .i64,.int .i64,.int .i64,.frz (.int .i64)],.agg [.int .i64,.int .i64,.int .i64,.int .i64,.int .i64,.int .i64,.int .i64,.int .i64,.int .i64,.int .i64,.int .i64,.int .i64,.int .i64]],[]⟩
def os:OS:=⟨.tup [.c (.sl 128000000),.c (.int .i64)],[(.row (.int .i64))]⟩
def enc (r:R):Out:=os.enc r
def dec:Out→Option R:=os.dec
noncomputable def b0:Code:=subF [] Tryz.f60
noncomputable def K0 (k:Nat):Kt R:=kTop (cs k) Tryz.f60 dec
noncomputable def b6:Code:=sub [1,1,1,0,1,0,0] b0
noncomputable def K6 ( k:Nat):Kt R:=kAt (cs k) (loopN cs k) [1,1,1,0,1,0] b0 (K0 k)
abbrev T0:Type:=Int × Int × Int × Int × Int × Int × Int × Int × Int × Int × Int × Int × Int × Int × Int × Int × Int × Int × List Int × Int × Int × Int × Int × Int × Int × Int × Int × Int × Int × Int × Int × Int × List Int
abbrev Y0:=T0→Option R
noncomputable def s0:T0→St:=fun (v0,v1,v2,v3,v4,v5,v6,v7,v8,v9,v10,v11,v12,v13,v14,v15,v16,v17,v18,v19,v20,v21,v22,v23,v24,v25,v26,v27,v28,v29,v30,v31,v32)=>⟨32,0,[(2,.c (.ptr 64000000 0)),(3,.c (.ptr 64000001 0)),(7,.c (.sl 64000002)),(19,.c (.int .i64 v0)),(20,.c (.int .i64 v1))],[],[(256000000,.gone),(64000000,.box [.int .i64 v2,.int .i64 v3,.int .i64 v4,.int .i64 v5,.int .i64 v6,.int .i64 v7,.int .i64 v8,.int .i64 v9,.int .i64 v10,.int .i64 v11,.int .i64 v12,.int .i64 v13,.int .i64 v14,.int .i64 v15,.int .i64 v16,.int .i64 v17,.frz (.int .i64) v18]),(64000001,.box [.int .i64 v19,.int .i64 v20,.int .i64 v21,.int .i64 v22,.int .i64 v23,.int .i64 v24,.int .i64 v25,.int .i64 v26,.int .i64 v27,.int .i64 v28,.int .i64 v29,.int .i64 v30,.int .i64 v31]),(64000002,.row (.int .i64) v32)]⟩
noncomputable def l0 ( k n:Nat) (v:T0):Option R:=held (loopN cs n b6 (K6 k) (s0 v))
noncomputable def D0 (v:T0):Option R:=lim fun L=>l0 (L 0) (L 1) v
theorem D0_cn (v:T0):Cn late (D0 v) fun L=>l0 (L 0) (L 1) v:=of_lim
def d0 (p0:g123.Y) (p1:Y0):Y0:=fun (v0,v1,v2,v3,v4,v5,v6,v7,v8,v9,v10,v11,v12,v13,v14,v15,v16,v17,v18,v19,v20,v21,v22,v23,v24,v25,v26,v27,v28,v29,v30,v31,v32) =>
br (decide (v1 < v0)) (bnd (p0 (v2,v3,v4,v5,v6,v7,v8,v9,v10,v11,v12,v13,v14,v15,v16,v17,v18,v19,v20,v21,v22,v23,v24,v25,v26,v27,v28,v29,v30,v31,v1)) fun r=>br (decide (0 ≤ v1 ∧ v1 < (↑v32.length:Int))) (p1 (v0,wrap .i64 (v1 + 1),v2,v3,v4,v5,v6,v7,v8,v9,v10,v11,v12,v13,v14,v15,v16,v17,v18,v19,v20,v21,v22,v23,v24,v25,v26,v27,v28,v29,v30,v31,v32.set v1.toNat r)) none) (some (0,v32))
theorem d0_cn (k0:Pr E g123.A g123.R) (k1:Pr E T0 R):∀ v:T0,Cn E (d0 k0.p k1.p v) fun i=>d0 (k0.q i) (k1.q i) v:=fun (v0,v1,v2,v3,v4,v5,v6,v7,v8,v9,v10,v11,v12,v13,v14,v15,v16,v17,v18,v19,v20,v21,v22,v23,v24,v25,v26,v27,v28,v29,v30,v31,v32)=>(.br (.bnd (k0.h _) fun _=>(.br (k1.h _) .none)) .some)
theorem l0_b ( k m1:Nat):∀ v:T0,run (cs m1) (loopN cs m1) b6 (kLoop cs m1 b6 (K6 k)) (s0 v) = d0 (g123.f m1) (l0 k m1) v:=fun (v0,v1,v2,v3,v4,v5,v6,v7,v8,v9,v10,v11,v12,v13,v14,v15,v16,v17,v18,v19,v20,v21,v22,v23,v24,v25,v26,v27,v28,v29,v30,v31,v32)=>by kernel_rfl
theorem D0_of (v:T0) {r:R} (h:d0 g123.F D0 v = some r):D0 v = some r:=loop_of 1 (fun L n hn=>by show l0 (L 0) (L 1) v = _; rw [hn]; exact (held_eq _).trans ((loopN_succ _ _ _ _ _).trans (l0_b (L 0) n v))) (d0_cn (lp g123.f 1) (.mk fun v=>(D0_cn v).re [0,1]) v) h
noncomputable def f (k:Nat):Y:=fun v=>held (runFn cs k Tryz.f60 (sh.args v) (sh.slots v) dec)
noncomputable def F:Y:=lm f
def d (p0:g36.Y) (p1:Y0):Y:=fun (v0,v1,v2,v3,v4,v5,v6,v7,v8,v9,v10,v11,v12,v13,v14,v15,v16,v17,v18,v19,v20,v21,v22,v23,v24,v25,v26,v27,v28,v29) =>
bnd (p0 (v0,v1,v2,v3,v4,v5,v6,v7,v8,v9,v10,v11,v12,v13,v14,v15,v16,v17,v18,v19,v20,v21,v22,v23,v24,v25,v26,v27,v28,v29)) fun r=>br (!decide (r = 0)) (some (r,[])) (br (decide (0 ≤ v8 ∧ v8 ≤ v8 ∧ v8 ≤ (↑(140737488355328 / 8):Int))) (p1 ((↑(List.replicate v8.toNat (Ty.int .i64).dflt).length:Int),0,v0,v1,v2,v3,v4,v5,v6,v7,v8,v9,v10,v11,v12,v13,v14,v15,v16,v17,v18,v19,v20,v21,v22,v23,v24,v25,v26,v27,v28,v29,List.replicate v8.toNat (Ty.int .i64).dflt)) none)
theorem d_cn (k0:Pr E g36.A g36.R) (k1:Pr E T0 R):∀ v:A,Cn E (d k0.p k1.p v) fun i=>d (k0.q i) (k1.q i) v:=fun (v0,v1,v2,v3,v4,v5,v6,v7,v8,v9,v10,v11,v12,v13,v14,v15,v16,v17,v18,v19,v20,v21,v22,v23,v24,v25,v26,v27,v28,v29)=>(.bnd (k0.h _) fun _=>(.br .some (.br (k1.h _) .none)))
theorem f_b (k:Nat):∀ v:A,f k v = d (g36.f k) (l0 k k) v:=fun (v0,v1,v2,v3,v4,v5,v6,v7,v8,v9,v10,v11,v12,v13,v14,v15,v16,v17,v18,v19,v20,v21,v22,v23,v24,v25,v26,v27,v28,v29)=>(held_eq _).trans (by kernel_rfl)
theorem F_of (v:A) {r:R} (h:d g36.F D0 v = some r):F v = some r:=join_of (fun L=>f_b (L 0) v) (d_cn (lp g36.f 0) (.mk fun v=>(D0_cn v).re [0,0]) v) h
noncomputable def spec (k:Nat):List AV→List Slot→Option Ans:=specS sh os (f k)
theorem spec_ok (k:Nat):SpecOk Tryz.prog 60 (spec k):=specS_ok cs_ok Tryz.func60 rfl rfl (fun _ _=>held_eq _) k
end g124
noncomputable def tg124:=tg123.cons 60 g124.spec g124.spec_ok
namespace g125 -- scale_angle
abbrev R:Type:=Int
abbrev A:Type:=Int × Int × Int × Int × Int
abbrev Y:=A→Option R
def lv:List (Nat × List Nat):=[(2000000,[4])]
noncomputable def cs:Nat→Ctx:=ctxOf tis modes tg124.1 lv
theorem cs_ok (n:Nat):CtxOk Tryz.prog (cs n):=ctxOf_ok rfl tis_ok tg124.2 n
def sh:AS:=⟨[.agg [.int .i64,.int .i64,.int .i64,.int .i64],.c (.int .i64)],[]⟩
def os:OS:=⟨.c (.int .i64),[]⟩
def enc (r:R):Out:=os.enc r
def dec:Out→Option R:=os.dec
noncomputable def b0:Code:=subF [] Tryz.f118
noncomputable def K0 (k:Nat):Kt R:=kTop (cs k) Tryz.f118 dec
noncomputable def f (k:Nat):Y:=fun v=>held (runFn cs k Tryz.f118 (sh.args v) (sh.slots v) dec)
noncomputable def F:Y:=lm f
def d (p0:g52.Y):Y:=fun (v0,v1,v2,v3,v4) =>
bnd (p0 (wrap .i64 (v4 - v0),v2,v3)) fun r=>some (wrap .i64 (r.1 + v1))
theorem d_cn (k0:Pr E g52.A g52.R):∀ v:A,Cn E (d k0.p v) fun i=>d (k0.q i) v:=fun (v0,v1,v2,v3,v4)=>(.bnd (k0.h _) fun _=>.some)
theorem f_b (k:Nat):∀ v:A,f k v = d (g52.f k) v:=fun (v0,v1,v2,v3,v4)=>(held_eq _).trans (by kernel_rfl)
theorem F_of (v:A) {r:R} (h:d g52.F v = some r):F v = some r:=join_of (fun L=>f_b (L 0) v) (d_cn (lp g52.f 0) v) h
noncomputable def spec (k:Nat):List AV→List Slot→Option Ans:=specS sh os (f k)
theorem spec_ok (k:Nat):SpecOk Tryz.prog 118 (spec k):=specS_ok cs_ok Tryz.func118 rfl rfl (fun _ _=>held_eq _) k
end g125
noncomputable def tg125:=tg124.cons 118 g125.spec g125.spec_ok
namespace g126 -- num_Mod
abbrev R:Type:=Int
abbrev A:Type:=Int × Int
abbrev Y:=A→Option R
def lv:List (Nat × List Nat):=[(2000000,[4]),(1000006,[5])]
noncomputable def cs:Nat→Ctx:=ctxOf tis modes tg125.1 lv
theorem cs_ok (n:Nat):CtxOk Tryz.prog (cs n):=ctxOf_ok rfl tis_ok tg125.2 n
def sh:AS:=⟨[.c (.int .i64),.c (.int .i64)],[]⟩
def os:OS:=⟨.c (.int .i64),[]⟩
def enc (r:R):Out:=os.enc r
def dec:Out→Option R:=os.dec
noncomputable def b0:Code:=subF [] Tryz.f117
noncomputable def K0 (k:Nat):Kt R:=kTop (cs k) Tryz.f117 dec
noncomputable def c1000006:Code:=sub [1,1,1,1] b0
noncomputable def J1000006 ( k:Nat):Kt R:=kAt (cs k) (loopN cs k) [1,1,1,1] b0 (K0 k)
abbrev T0:Type:=Int
abbrev Y0:=T0→Option R
def s0:T0→St:=fun v0=>⟨17,0,[(5,.c (.int .i64 v0))],[],[(256000000,.gone)]⟩
noncomputable def l0 ( k:Nat) (v:T0):Option R:=held (run (cs k) (loopN cs k) c1000006 (J1000006 k) (s0 v))
noncomputable def D0 (v:T0):Option R:=lim fun L=>l0 (L 0) v
theorem D0_cn (v:T0):Cn late (D0 v) fun L=>l0 (L 0) v:=of_lim
def d0:Y0:=fun v0 =>
some v0
theorem d0_cn:∀ v:T0,Cn E (d0 v) fun i=>d0 v:=fun v0=>.some
theorem l0_b ( k:Nat):∀ v:T0,run (cs k) (loopN cs k) c1000006 (J1000006 k) (s0 v) = d0 v:=fun v0=>by kernel_rfl
theorem D0_of (v:T0) {r:R} (h:d0 v = some r):D0 v = some r:=join_of (fun L=>(held_eq _).trans (l0_b (L 0) v)) (d0_cn v) h
noncomputable def f (k:Nat):Y:=fun v=>held (runFn cs k Tryz.f117 (sh.args v) (sh.slots v) dec)
noncomputable def F:Y:=lm f
def d (p0:Y0):Y:=fun (v0,v1) =>
br (decide (v1 < 1)) (some 0) (br (!decide (v1 = 0)) (br (decide (v0.tmod v1 < 0)) (p0 (wrap .i64 (v0.tmod v1 + v1))) (p0 (v0.tmod v1))) none)
theorem d_cn (k0:Pr E T0 R):∀ v:A,Cn E (d k0.p v) fun i=>d (k0.q i) v:=fun (v0,v1)=>(.br .some (.br (.br (k0.h _) (k0.h _)) .none))
theorem f_b (k:Nat):∀ v:A,f k v = d (l0 k) v:=fun (v0,v1)=>(held_eq _).trans (by kernel_rfl)
theorem F_of (v:A) {r:R} (h:d D0 v = some r):F v = some r:=join_of (fun L=>f_b (L 0) v) (d_cn (.mk fun v=>(D0_cn v).re [0]) v) h
noncomputable def spec (k:Nat):List AV→List Slot→Option Ans:=specS sh os (f k)
theorem spec_ok (k:Nat):SpecOk Tryz.prog 117 (spec k):=specS_ok cs_ok Tryz.func117 rfl rfl (fun _ _=>held_eq _) k
end g126
noncomputable def tg126:=tg125.cons 117 g126.spec g126.spec_ok
namespace g127 -- scale_Angle
abbrev R:Type:=Int
abbrev A:Type:=Int × Int × Int × Int × Int
abbrev Y:=A→Option R
def lv:List (Nat × List Nat):=[(2000000,[4])]
noncomputable def cs:Nat→Ctx:=ctxOf tis modes tg126.1 lv
theorem cs_ok (n:Nat):CtxOk Tryz.prog (cs n):=ctxOf_ok rfl tis_ok tg126.2 n
def sh:AS:=⟨[.agg [.int .i64,.int .i64,.int .i64,.int .i64],.c (.int .i64)],[]⟩
def os:OS:=⟨.c (.int .i64),[]⟩
def enc (r:R):Out:=os.enc r
def dec:Out→Option R:=os.dec
noncomputable def b0:Code:=subF [] Tryz.f88
noncomputable def K0 (k:Nat):Kt R:=kTop (cs k) Tryz.f88 dec
noncomputable def f (k:Nat):Y:=fun v=>held (runFn cs k Tryz.f88 (sh.args v) (sh.slots v) dec)
noncomputable def F:Y:=lm f
def d (p0:g8.Y) (p1:g125.Y) (p2:g126.Y):Y:=fun (v0,v1,v2,v3,v4) =>
bnd (p0 (v0,v1,v2,v3)) fun r=>br (!decide (r = 0) || decide (v4 < -17592186044416) || decide (17592186044416 < v4)) (some 0) (bnd (p1 (v0,v1,v2,v3,v4)) fun r=>bnd (p2 (r,4294967296)) fun r=>some r)
theorem d_cn (k0:Pr E g8.A g8.R) (k1:Pr E g125.A g125.R) (k2:Pr E g126.A g126.R):∀ v:A,Cn E (d k0.p k1.p k2.p v) fun i=>d (k0.q i) (k1.q i) (k2.q i) v:=fun (v0,v1,v2,v3,v4)=>(.bnd (k0.h _) fun _=>(.br .some (.bnd (k1.h _) fun _=>(.bnd (k2.h _) fun _=>.some))))
theorem f_b (k:Nat):∀ v:A,f k v = d (g8.f k) (g125.f k) (g126.f k) v:=fun (v0,v1,v2,v3,v4)=>(held_eq _).trans (by kernel_rfl)
theorem F_of (v:A) {r:R} (h:d g8.F g125.F g126.F v = some r):F v = some r:=join_of (fun L=>f_b (L 0) v) (d_cn (lp g8.f 0) (lp g125.f 0) (lp g126.f 0) v) h
noncomputable def spec (k:Nat):List AV→List Slot→Option Ans:=specS sh os (f k)
theorem spec_ok (k:Nat):SpecOk Tryz.prog 88 (spec k):=specS_ok cs_ok Tryz.func88 rfl rfl (fun _ _=>held_eq _) k
end g127
noncomputable def tg127:=tg126.cons 88 g127.spec g127.spec_ok
namespace g128 -- horizon_AimS1
abbrev R:Type:=Int
abbrev A:Type:=Int
abbrev Y:=A→Option R
def lv:List (Nat × List Nat):=[(2000000,[4])]
noncomputable def cs:Nat→Ctx:=ctxOf tis modes tg127.1 lv
theorem cs_ok (n:Nat):CtxOk Tryz.prog (cs n):=ctxOf_ok rfl tis_ok tg127.2 n
def sh:AS:=⟨[.c (.func 123 []),.c (.int .i64)],[]⟩
def os:OS:=⟨.c (.int .i64),[]⟩
def enc (r:R):Out:=os.enc r
def dec:Out→Option R:=os.dec
noncomputable def b0:Code:=subF [] Tryz.f122
noncomputable def K0 (k:Nat):Kt R:=kTop (cs k) Tryz.f122 dec
noncomputable def f (k:Nat):Y:=fun v=>held (runFn cs k Tryz.f122 (sh.args v) (sh.slots v) dec)
noncomputable def F:Y:=lm f
def d (p0:g70.Y):Y:=fun v0 =>
bnd (p0 v0) fun r=>some r
theorem d_cn (k0:Pr E g70.A g70.R):∀ v:A,Cn E (d k0.p v) fun i=>d (k0.q i) v:=fun v0=>(.bnd (k0.h _) fun _=>.some)
theorem f_b (k:Nat):∀ v:A,f k v = d (g70.f k) v:=fun v0=>(held_eq _).trans (by kernel_rfl)
theorem F_of (v:A) {r:R} (h:d g70.F v = some r):F v = some r:=join_of (fun L=>f_b (L 0) v) (d_cn (lp g70.f 0) v) h
noncomputable def spec (k:Nat):List AV→List Slot→Option Ans:=specS sh os (f k)
theorem spec_ok (k:Nat):SpecOk Tryz.prog 122 (spec k):=specS_ok cs_ok Tryz.func122 rfl rfl (fun _ _=>held_eq _) k
end g128
noncomputable def tg128:=tg127.cons 122 g128.spec g128.spec_ok
namespace g129 -- horizon_AimS1_1
abbrev R:Type:=Int
abbrev A:Type:=Int
abbrev Y:=A→Option R
def lv:List (Nat × List Nat):=[(2000000,[4])]
noncomputable def cs:Nat→Ctx:=ctxOf tis modes tg128.1 lv
theorem cs_ok (n:Nat):CtxOk Tryz.prog (cs n):=ctxOf_ok rfl tis_ok tg128.2 n
def sh:AS:=⟨[.c (.func 124 []),.c (.int .i64)],[]⟩
def os:OS:=⟨.c (.int .i64),[]⟩
def enc (r:R):Out:=os.enc r
def dec:Out→Option R:=os.dec
noncomputable def b0:Code:=subF [] Tryz.f122
noncomputable def K0 (k:Nat):Kt R:=kTop (cs k) Tryz.f122 dec
noncomputable def f (k:Nat):Y:=fun v=>held (runFn cs k Tryz.f122 (sh.args v) (sh.slots v) dec)
noncomputable def F:Y:=lm f
def d (p0:g69.Y):Y:=fun v0 =>
bnd (p0 v0) fun r=>some r
theorem d_cn (k0:Pr E g69.A g69.R):∀ v:A,Cn E (d k0.p v) fun i=>d (k0.q i) v:=fun v0=>(.bnd (k0.h _) fun _=>.some)
theorem f_b (k:Nat):∀ v:A,f k v = d (g69.f k) v:=fun v0=>(held_eq _).trans (by kernel_rfl)
theorem F_of (v:A) {r:R} (h:d g69.F v = some r):F v = some r:=join_of (fun L=>f_b (L 0) v) (d_cn (lp g69.f 0) v) h
noncomputable def spec (k:Nat):List AV→List Slot→Option Ans:=specS sh os (f k)
theorem spec_ok (k:Nat):SpecOk Tryz.prog 122 (spec k):=specS_ok cs_ok Tryz.func122 rfl rfl (fun _ _=>held_eq _) k
end g129
noncomputable def tg129:=tg128.cons 122 g129.spec g129.spec_ok
namespace g130 -- trig_octant
abbrev R:Type:=Int
abbrev A:Type:=Int × Int
abbrev Y:=A→Option R
def lv:List (Nat × List Nat):=[(2000000,[4]),(2,[0,1,5,6])]
noncomputable def cs:Nat→Ctx:=ctxOf tis modes tg129.1 lv
theorem cs_ok (n:Nat):CtxOk Tryz.prog (cs n):=ctxOf_ok rfl tis_ok tg129.2 n
def sh:AS:=⟨[.c (.int .i64),.c (.int .i64)],[]⟩
def os:OS:=⟨.c (.int .i64),[]⟩
def enc (r:R):Out:=os.enc r
def dec:Out→Option R:=os.dec
noncomputable def b0:Code:=subF [] Tryz.f166
noncomputable def K0 (k:Nat):Kt R:=kTop (cs k) Tryz.f166 dec
noncomputable def b2:Code:=sub [1,1,0,0,0] b0
noncomputable def K2 ( k:Nat):Kt R:=kAt (cs k) (loopN cs k) [1,1,0,0] b0 (K0 k)
abbrev T0:Type:=Int × Int × Int × Int
abbrev Y0:=T0→Option R
def s0:T0→St:=fun (v0,v1,v2,v3)=>⟨28,0,[(0,.c (.int .i64 v0)),(1,.c (.int .i64 v1)),(5,.c (.int .i64 v2)),(6,.c (.int .i64 v3))],[],[(256000000,.gone)]⟩
noncomputable def l0 ( k n:Nat) (v:T0):Option R:=held (loopN cs n b2 (K2 k) (s0 v))
noncomputable def D0 (v:T0):Option R:=lim fun L=>l0 (L 0) (L 1) v
theorem D0_cn (v:T0):Cn late (D0 v) fun L=>l0 (L 0) (L 1) v:=of_lim
def d0 (p0:g69.Y) (p1:g70.Y) (p2:Y0):Y0:=fun (v0,v1,v2,v3) =>
br (decide (1 < wrap .i64 (v3 - v2))) (br (!decide (2 = 0)) (bnd (p0 (wrap .i64 ((wrap .i64 (v2 + v3)).tdiv 2))) fun r=>bnd (p1 (wrap .i64 ((wrap .i64 (v2 + v3)).tdiv 2))) fun r_1=>br (decide (wrap .i64 (r * v1) ≤ wrap .i64 (r_1 * v0))) (p2 (v0,v1,wrap .i64 ((wrap .i64 (v2 + v3)).tdiv 2),v3)) (p2 (v0,v1,v2,wrap .i64 ((wrap .i64 (v2 + v3)).tdiv 2)))) none) (some v2)
theorem d0_cn (k0:Pr E g69.A g69.R) (k1:Pr E g70.A g70.R) (k2:Pr E T0 R):∀ v:T0,Cn E (d0 k0.p k1.p k2.p v) fun i=>d0 (k0.q i) (k1.q i) (k2.q i) v:=fun (v0,v1,v2,v3)=>(.br (.br (.bnd (k0.h _) fun _=>(.bnd (k1.h _) fun _=>(.br (k2.h _) (k2.h _)))) .none) .some)
theorem l0_b ( k m1:Nat):∀ v:T0,run (cs m1) (loopN cs m1) b2 (kLoop cs m1 b2 (K2 k)) (s0 v) = d0 (g69.f m1) (g70.f m1) (l0 k m1) v:=fun (v0,v1,v2,v3)=>by kernel_rfl
theorem D0_of (v:T0) {r:R} (h:d0 g69.F g70.F D0 v = some r):D0 v = some r:=loop_of 1 (fun L n hn=>by show l0 (L 0) (L 1) v = _; rw [hn]; exact (held_eq _).trans ((loopN_succ _ _ _ _ _).trans (l0_b (L 0) n v))) (d0_cn (lp g69.f 1) (lp g70.f 1) (.mk fun v=>(D0_cn v).re [0,1]) v) h
noncomputable def f (k:Nat):Y:=fun v=>held (runFn cs k Tryz.f166 (sh.args v) (sh.slots v) dec)
noncomputable def F:Y:=lm f
def d (p0:Y0):Y:=fun (v0,v1) =>
p0 (v0,v1,0,536870913)
theorem d_cn (k0:Pr E T0 R):∀ v:A,Cn E (d k0.p v) fun i=>d (k0.q i) v:=fun (v0,v1)=>(k0.h _)
theorem f_b (k:Nat):∀ v:A,f k v = d (l0 k k) v:=fun (v0,v1)=>(held_eq _).trans (by kernel_rfl)
theorem F_of (v:A) {r:R} (h:d D0 v = some r):F v = some r:=join_of (fun L=>f_b (L 0) v) (d_cn (.mk fun v=>(D0_cn v).re [0,0]) v) h
noncomputable def spec (k:Nat):List AV→List Slot→Option Ans:=specS sh os (f k)
theorem spec_ok (k:Nat):SpecOk Tryz.prog 166 (spec k):=specS_ok cs_ok Tryz.func166 rfl rfl (fun _ _=>held_eq _) k
end g130
noncomputable def tg130:=tg129.cons 166 g130.spec g130.spec_ok
namespace g131 -- trig_Atan2
abbrev R:Type:=Int × Int
abbrev A:Type:=Int × Int
abbrev Y:=A→Option R
def lv:List (Nat × List Nat):=[(2000000,[4,5]),(1000010,[0,1,8]),(1000012,[0,8]),(1000014,[8])]
noncomputable def cs:Nat→Ctx:=ctxOf tis modes tg130.1 lv
theorem cs_ok (n:Nat):CtxOk Tryz.prog (cs n):=ctxOf_ok rfl tis_ok tg130.2 n
def sh:AS:=⟨[.c (.int .i64),.c (.int .i64)],[]⟩
def os:OS:=⟨.tup [.c (.int .i64),.c (.int .i64)],[]⟩
def enc (r:R):Out:=os.enc r
def dec:Out→Option R:=os.dec
noncomputable def b0:Code:=subF [] Tryz.f126
noncomputable def K0 (k:Nat):Kt R:=kTop (cs k) Tryz.f126 dec
noncomputable def c1000010:Code:=sub [1,1,1,1,1] b0
noncomputable def J1000010 ( k:Nat):Kt R:=kAt (cs k) (loopN cs k) [1,1,1,1,1] b0 (K0 k)
noncomputable def c1000012:Code:=sub [1,1,1,1,1,1] b0
noncomputable def J1000012 ( k:Nat):Kt R:=kAt (cs k) (loopN cs k) [1,1,1,1,1,1] b0 (K0 k)
noncomputable def c1000014:Code:=sub [1,1,1,1,1,1,1] b0
noncomputable def J1000014 ( k:Nat):Kt R:=kAt (cs k) (loopN cs k) [1,1,1,1,1,1,1] b0 (K0 k)
abbrev T0:Type:=Int × Int × Int
abbrev Y0:=T0→Option R
def s0:T0→St:=fun (v0,v1,v2)=>⟨59,0,[(0,.c (.int .i64 v0)),(1,.c (.int .i64 v1)),(8,.c (.int .i64 v2))],[],[(256000000,.gone)]⟩
noncomputable def l0 ( k:Nat) (v:T0):Option R:=held (run (cs k) (loopN cs k) c1000010 (J1000010 k) (s0 v))
noncomputable def D0 (v:T0):Option R:=lim fun L=>l0 (L 0) v
theorem D0_cn (v:T0):Cn late (D0 v) fun L=>l0 (L 0) v:=of_lim
abbrev T1:Type:=Int × Int
abbrev Y1:=T1→Option R
def s1:T1→St:=fun (v0,v1)=>⟨59,0,[(0,.c (.int .i64 v0)),(8,.c (.int .i64 v1))],[],[(256000000,.gone)]⟩
noncomputable def l1 ( k:Nat) (v:T1):Option R:=held (run (cs k) (loopN cs k) c1000012 (J1000012 k) (s1 v))
noncomputable def D1 (v:T1):Option R:=lim fun L=>l1 (L 0) v
theorem D1_cn (v:T1):Cn late (D1 v) fun L=>l1 (L 0) v:=of_lim
abbrev T2:Type:=Int
abbrev Y2:=T2→Option R
def s2:T2→St:=fun v0=>⟨59,0,[(8,.c (.int .i64 v0))],[],[(256000000,.gone)]⟩
noncomputable def l2 ( k:Nat) (v:T2):Option R:=held (run (cs k) (loopN cs k) c1000014 (J1000014 k) (s2 v))
noncomputable def D2 (v:T2):Option R:=lim fun L=>l2 (L 0) v
theorem D2_cn (v:T2):Cn late (D2 v) fun L=>l2 (L 0) v:=of_lim
def d0 (p0:Y1):Y0:=fun (v0,v1,v2) =>
br (decide (v1 < 0)) (p0 (v0,wrap .i64 (2147483648 - v2))) (p0 (v0,v2))
theorem d0_cn (k0:Pr E T1 R):∀ v:T0,Cn E (d0 k0.p v) fun i=>d0 (k0.q i) v:=fun (v0,v1,v2)=>(.br (k0.h _) (k0.h _))
theorem l0_b ( k:Nat):∀ v:T0,run (cs k) (loopN cs k) c1000010 (J1000010 k) (s0 v) = d0 (l1 k) v:=fun (v0,v1,v2)=>by kernel_rfl
theorem D0_of (v:T0) {r:R} (h:d0 D1 v = some r):D0 v = some r:=join_of (fun L=>(held_eq _).trans (l0_b (L 0) v)) (d0_cn (.mk fun v=>(D1_cn v).re [0]) v) h
def d1 (p0:Y2):Y1:=fun (v0,v1) =>
br (decide (v0 < 0)) (p0 (wrap .i64 (4294967296 - v1))) (p0 v1)
theorem d1_cn (k0:Pr E T2 R):∀ v:T1,Cn E (d1 k0.p v) fun i=>d1 (k0.q i) v:=fun (v0,v1)=>(.br (k0.h _) (k0.h _))
theorem l1_b ( k:Nat):∀ v:T1,run (cs k) (loopN cs k) c1000012 (J1000012 k) (s1 v) = d1 (l2 k) v:=fun (v0,v1)=>by kernel_rfl
theorem D1_of (v:T1) {r:R} (h:d1 D2 v = some r):D1 v = some r:=join_of (fun L=>(held_eq _).trans (l1_b (L 0) v)) (d1_cn (.mk fun v=>(D2_cn v).re [0]) v) h
def d2:Y2:=fun v0 =>
br (!decide (4294967296 = 0)) (some (v0.tmod 4294967296,0)) none
theorem d2_cn:∀ v:T2,Cn E (d2 v) fun i=>d2 v:=fun v0=>(.br .some .none)
theorem l2_b ( k:Nat):∀ v:T2,run (cs k) (loopN cs k) c1000014 (J1000014 k) (s2 v) = d2 v:=fun v0=>by kernel_rfl
theorem D2_of (v:T2) {r:R} (h:d2 v = some r):D2 v = some r:=join_of (fun L=>(held_eq _).trans (l2_b (L 0) v)) (d2_cn v) h
noncomputable def f (k:Nat):Y:=fun v=>held (runFn cs k Tryz.f126 (sh.args v) (sh.slots v) dec)
noncomputable def F:Y:=lm f
def d (p0:g130.Y) (p1:Y0):Y:=fun (v0,v1) =>
br (decide (v1 < -4294967296) || decide (4294967296 < v1) || decide (v0 < -4294967296) || decide (4294967296 < v0)) (some (0,4)) (br (decide (v1 = 0) && decide (v0 = 0)) (some (0,8)) (br (decide (max v0 (wrap .i64 (0 - v0)) ≤ max v1 (wrap .i64 (0 - v1)))) (bnd (p0 (max v0 (wrap .i64 (0 - v0)),max v1 (wrap .i64 (0 - v1)))) fun r=>p1 (v0,v1,r)) (bnd (p0 (max v1 (wrap .i64 (0 - v1)),max v0 (wrap .i64 (0 - v0)))) fun r=>p1 (v0,v1,wrap .i64 (1073741824 - r)))))
theorem d_cn (k0:Pr E g130.A g130.R) (k1:Pr E T0 R):∀ v:A,Cn E (d k0.p k1.p v) fun i=>d (k0.q i) (k1.q i) v:=fun (v0,v1)=>(.br .some (.br .some (.br (.bnd (k0.h _) fun _=>(k1.h _)) (.bnd (k0.h _) fun _=>(k1.h _)))))
theorem f_b (k:Nat):∀ v:A,f k v = d (g130.f k) (l0 k) v:=fun (v0,v1)=>(held_eq _).trans (by kernel_rfl)
theorem F_of (v:A) {r:R} (h:d g130.F D0 v = some r):F v = some r:=join_of (fun L=>f_b (L 0) v) (d_cn (lp g130.f 0) (.mk fun v=>(D0_cn v).re [0]) v) h
noncomputable def spec (k:Nat):List AV→List Slot→Option Ans:=specS sh os (f k)
theorem spec_ok (k:Nat):SpecOk Tryz.prog 126 (spec k):=specS_ok cs_ok Tryz.func126 rfl rfl (fun _ _=>held_eq _) k
end g131
noncomputable def tg131:=tg130.cons 126 g131.spec g131.spec_ok
namespace g132 -- num_Sqrt
abbrev R:Type:=Int
abbrev A:Type:=Int
abbrev Y:=A→Option R
def lv:List (Nat × List Nat):=[(2000000,[2])]
noncomputable def cs:Nat→Ctx:=ctxOf tis modes tg131.1 lv
theorem cs_ok (n:Nat):CtxOk Tryz.prog (cs n):=ctxOf_ok rfl tis_ok tg131.2 n
def sh:AS:=⟨[(.c (.int .i64))],[]⟩
def os:OS:=⟨.c (.int .i64),[]⟩
def enc (r:R):Out:=os.enc r
def dec:Out→Option R:=os.dec
noncomputable def b0:Code:=subF [] Tryz.f127
noncomputable def K0 (k:Nat):Kt R:=kTop (cs k) Tryz.f127 dec
noncomputable def f (k:Nat):Y:=fun v=>held (runFn cs k Tryz.f127 (sh.args v) (sh.slots v) dec)
noncomputable def F:Y:=lm f
def d (p0:g90.Y):Y:=fun v0 =>
bnd (p0 (v0,1)) fun r=>some r
theorem d_cn (k0:Pr E g90.A g90.R):∀ v:A,Cn E (d k0.p v) fun i=>d (k0.q i) v:=fun v0=>(.bnd (k0.h _) fun _=>.some)
theorem f_b (k:Nat):∀ v:A,f k v = d (g90.f k) v:=fun v0=>(held_eq _).trans (by kernel_rfl)
theorem F_of (v:A) {r:R} (h:d g90.F v = some r):F v = some r:=join_of (fun L=>f_b (L 0) v) (d_cn (lp g90.f 0) v) h
noncomputable def spec (k:Nat):List AV→List Slot→Option Ans:=specS sh os (f k)
theorem spec_ok (k:Nat):SpecOk Tryz.prog 127 (spec k):=specS_ok cs_ok Tryz.func127 rfl rfl (fun _ _=>held_eq _) k
end g132
noncomputable def tg132:=tg131.cons 127 g132.spec g132.spec_ok
namespace g133 -- horizon_Aim
abbrev R:Type:=Int × Int × Int
abbrev A:Type:=Int × Int × Int × Int × Int × Int
abbrev Y:=A→Option R
def lv:List (Nat × List Nat):=[(2000000,[6,7]),(1000017,[6,17,19])]
noncomputable def cs:Nat→Ctx:=ctxOf tis modes tg132.1 lv
theorem cs_ok (n:Nat):CtxOk Tryz.prog (cs n):=ctxOf_ok rfl tis_ok tg132.2 n
def sh:AS:=⟨[.agg [.int .i64,.int .i64],.c (.int .i64),.agg [.int .i64,.int .i64,.int .i64]],[]⟩
def os:OS:=⟨.tup [.agg [.int .i64,.int .i64],.c (.int .i64)],[]⟩
def enc (r:R):Out:=os.enc r
def dec:Out→Option R:=os.dec
noncomputable def b0:Code:=subF [] Tryz.f89
noncomputable def K0 (k:Nat):Kt R:=kTop (cs k) Tryz.f89 dec
noncomputable def c1000017:Code:=sub [1,1,1,1,1,1,1,1,1,1,1,1,1,1] b0
noncomputable def J1000017 ( k:Nat):Kt R:=kAt (cs k) (loopN cs k) [1,1,1,1,1,1,1,1,1,1,1,1,1,1] b0 (K0 k)
abbrev T0:Type:=Int × Int × Int × Int
abbrev Y0:=T0→Option R
def s0:T0→St:=fun (v0,v1,v2,v3)=>⟨118,0,[(6,.c (.ptr 64000000 0)),(17,.c (.int .i64 v0)),(19,.c (.int .i64 v1))],[],[(256000000,.gone),(64000000,.box [.int .i64 v2,.int .i64 v3])]⟩
noncomputable def l0 ( k:Nat) (v:T0):Option R:=held (run (cs k) (loopN cs k) c1000017 (J1000017 k) (s0 v))
noncomputable def D0 (v:T0):Option R:=lim fun L=>l0 (L 0) v
theorem D0_cn (v:T0):Cn late (D0 v) fun L=>l0 (L 0) v:=of_lim
def d0:Y0:=fun (v0,v1,v2,v3) =>
some (v0,v1,0)
theorem d0_cn:∀ v:T0,Cn E (d0 v) fun i=>d0 v:=fun (v0,v1,v2,v3)=>.some
theorem l0_b ( k:Nat):∀ v:T0,run (cs k) (loopN cs k) c1000017 (J1000017 k) (s0 v) = d0 v:=fun (v0,v1,v2,v3)=>by kernel_rfl
theorem D0_of (v:T0) {r:R} (h:d0 v = some r):D0 v = some r:=join_of (fun L=>(held_eq _).trans (l0_b (L 0) v)) (d0_cn v) h
noncomputable def f (k:Nat):Y:=fun v=>held (runFn cs k Tryz.f89 (sh.args v) (sh.slots v) dec)
noncomputable def F:Y:=lm f
noncomputable def d (p0:g62.Y) (p1:g23.Y) (p2:g9.Y) (p3:g64.Y) (p4:g128.Y) (p5:g129.Y) (p6:g67.Y) (p7:g131.Y) (p8:g132.Y) (p9:Y0):Y:=fun (v0,v1,v2,v3,v4,v5) =>
bnd (p0 (v0,v1)) fun r=>bnd (p1 (v3,v4,v5)) fun r_1=>bnd (p2 [r,r_1]) fun r=>br (!decide (r = 0)) (some (0,0,r)) (bnd (p3 (v3,v4,v5)) fun r=>bnd (p4 (wrap .i64 (bAnd .i64 v2 4294967295 + v1))) fun r_2=>bnd (p5 (wrap .i64 (bAnd .i64 v2 4294967295 + v1))) fun r_3=>bnd (p6 (wrap .i64 (wrap .i64 (r.1 * r_2) + wrap .i64 (r.2.1 * r_3)),1048576)) fun r_4=>bnd (p6 (wrap .i64 (wrap .i64 (r.2.1 * r_2) - wrap .i64 (r.1 * r_3)),1048576)) fun r_5=>bnd (p4 v0) fun r_6=>bnd (p5 v0) fun r_7=>bnd (p6 (wrap .i64 (wrap .i64 (wrap .i64 (r.2.2 * 1024) * r_7) + wrap .i64 (r_4 * r_6)),1073741824)) fun r_8=>bnd (p6 (wrap .i64 (wrap .i64 (wrap .i64 (r.2.2 * 1024) * r_6) - wrap .i64 (r_4 * r_7)),1073741824)) fun r=>bnd (p7 (r_5,r)) fun r_9=>bnd (p8 (wrap .i64 (wrap .i64 (r * r) + wrap .i64 (r_5 * r_5)))) fun r=>bnd (p7 (r_8,r)) fun r=>br (decide (2147483648 < r.1)) (p9 (r_9.1,wrap .i64 (r.1 - 4294967296),0,0)) (p9 (r_9.1,r.1,0,0)))
theorem d_cn (k0:Pr E g62.A g62.R) (k1:Pr E g23.A g23.R) (k2:Pr E g9.A g9.R) (k3:Pr E g64.A g64.R) (k4:Pr E g128.A g128.R) (k5:Pr E g129.A g129.R) (k6:Pr E g67.A g67.R) (k7:Pr E g131.A g131.R) (k8:Pr E g132.A g132.R) (k9:Pr E T0 R):∀ v:A,Cn E (d k0.p k1.p k2.p k3.p k4.p k5.p k6.p k7.p k8.p k9.p v) fun i=>d (k0.q i) (k1.q i) (k2.q i) (k3.q i) (k4.q i) (k5.q i) (k6.q i) (k7.q i) (k8.q i) (k9.q i) v:=fun (v0,v1,v2,v3,v4,v5)=>(.bnd (k0.h _) fun _=>(.bnd (k1.h _) fun _=>(.bnd (k2.h _) fun _=>(.br .some (.bnd (k3.h _) fun _=>(.bnd (k4.h _) fun _=>(.bnd (k5.h _) fun _=>(.bnd (k6.h _) fun _=>(.bnd (k6.h _) fun _=>(.bnd (k4.h _) fun _=>(.bnd (k5.h _) fun _=>(.bnd (k6.h _) fun _=>(.bnd (k6.h _) fun _=>(.bnd (k7.h _) fun _=>(.bnd (k8.h _) fun _=>(.bnd (k7.h _) fun _=>(.br (k9.h _) (k9.h _))))))))))))))))))
theorem f_b (k:Nat):∀ v:A,f k v = d (g62.f k) (g23.f k) (g9.f k) (g64.f k) (g128.f k) (g129.f k) (g67.f k) (g131.f k) (g132.f k) (l0 k) v:=fun (v0,v1,v2,v3,v4,v5)=>(held_eq _).trans (by kernel_rfl)
theorem F_of (v:A) {r:R} (h:d g62.F g23.F g9.F g64.F g128.F g129.F g67.F g131.F g132.F D0 v = some r):F v = some r:=join_of (fun L=>f_b (L 0) v) (d_cn (lp g62.f 0) (lp g23.f 0) (lp g9.f 0) (lp g64.f 0) (lp g128.f 0) (lp g129.f 0) (lp g67.f 0) (lp g131.f 0) (lp g132.f 0) (.mk fun v=>(D0_cn v).re [0]) v) h
noncomputable def spec (k:Nat):List AV→List Slot→Option Ans:=specS sh os (f k)
theorem spec_ok (k:Nat):SpecOk Tryz.prog 89 (spec k):=specS_ok cs_ok Tryz.func89 rfl rfl (fun _ _=>held_eq _) k
end g133
noncomputable def tg133:=tg132.cons 89 g133.spec g133.spec_ok
namespace g134 -- slew_Aim
abbrev R:Type:=Int × Int × Int
abbrev A:Type:=Int × Int × Int × Int × Int × Int × Int × Int × Int × Int × Int × Int × Int × Int × Int × Int × List Int × Int × Int × Int × Int
abbrev Y:=A→Option R
def lv:List (Nat × List Nat):=[(2000000,[6,7])]
noncomputable def cs:Nat→Ctx:=ctxOf tis modes tg133.1 lv
theorem cs_ok (n:Nat):CtxOk Tryz.prog (cs n):=ctxOf_ok rfl tis_ok tg133.2 n
def sh:AS:=⟨[.agg [.int .i64,.int .i64,.int .i64,.int .i64,.int .i64,.int .i64,.int .i64,.int .i64,.int .i64,.int .i64,.int .i64,.int .i64,.int .i64,.int .i64,.int .i64,.int .i64,.frz (.int .i64)],.agg [.int .i64,.int .i64,.int .i64],.c (.int .i64)],[]⟩
def os:OS:=⟨.tup [.agg [.int .i64,.int .i64],.c (.int .i64)],[]⟩
def enc (r:R):Out:=os.enc r
def dec:Out→Option R:=os.dec
noncomputable def b0:Code:=subF [] Tryz.f61
noncomputable def K0 (k:Nat):Kt R:=kTop (cs k) Tryz.f61 dec
noncomputable def f (k:Nat):Y:=fun v=>held (runFn cs k Tryz.f61 (sh.args v) (sh.slots v) dec)
noncomputable def F:Y:=lm f
def d (p0:g24.Y) (p1:g127.Y) (p2:g133.Y):Y:=fun (v0,v1,v2,v3,v4,v5,v6,v7,v8,v9,v10,v11,v12,v13,v14,v15,v16,v17,v18,v19,v20) =>
bnd (p0 (v0,v1,v2,v3,v4,v5,v6,v7,v8,v9,v10,v11,v12,v13,v14,v15,v16)) fun r=>br (!decide (r = 0)) (some (0,0,r)) (br (decide (v20 < 0) || decide (v8 < v20)) (some (0,0,4)) (bnd (p1 (v2,v3,v4,v5,wrap .i64 (v6 + wrap .i64 (v20 * v7)))) fun r=>bnd (p2 (v0,v1,r,v17,v18,v19)) fun r=>some (r.1,r.2.1,r.2.2)))
theorem d_cn (k0:Pr E g24.A g24.R) (k1:Pr E g127.A g127.R) (k2:Pr E g133.A g133.R):∀ v:A,Cn E (d k0.p k1.p k2.p v) fun i=>d (k0.q i) (k1.q i) (k2.q i) v:=fun (v0,v1,v2,v3,v4,v5,v6,v7,v8,v9,v10,v11,v12,v13,v14,v15,v16,v17,v18,v19,v20)=>(.bnd (k0.h _) fun _=>(.br .some (.br .some (.bnd (k1.h _) fun _=>(.bnd (k2.h _) fun _=>.some)))))
theorem f_b (k:Nat):∀ v:A,f k v = d (g24.f k) (g127.f k) (g133.f k) v:=fun (v0,v1,v2,v3,v4,v5,v6,v7,v8,v9,v10,v11,v12,v13,v14,v15,v16,v17,v18,v19,v20)=>(held_eq _).trans (by kernel_rfl)
theorem F_of (v:A) {r:R} (h:d g24.F g127.F g133.F v = some r):F v = some r:=join_of (fun L=>f_b (L 0) v) (d_cn (lp g24.f 0) (lp g127.f 0) (lp g133.f 0) v) h
noncomputable def spec (k:Nat):List AV→List Slot→Option Ans:=specS sh os (f k)
theorem spec_ok (k:Nat):SpecOk Tryz.prog 61 (spec k):=specS_ok cs_ok Tryz.func61 rfl rfl (fun _ _=>held_eq _) k
end g134
noncomputable def tg134:=tg133.cons 61 g134.spec g134.spec_ok
namespace g135 -- plan_NewDesk
abbrev R:Type:=Int × Int × Int × Int × Int × Int × Int × Int × Int × Int × Int × Int × Int × Int × Int × Int × Int × Int × Int × Int × Int × Int × Int × Int × Int × Int × Int × List Int × List (ByteArray × Int) × List (Int × Int × (Int × Int × Int) × Int × Int × Int × Int × Int × Int × Int × Int) × List (List Int) × List (List (Int × Int))
abbrev A:Type:=Int × Int × Int × Int × Int × Int × Int × Int × Int × Int × Int × Int × Int × Int × Int × Int × List Int × Int × Int × Int × Int × Int × Int × Int × Int × Int × Int × List (ByteArray × Int) × List (Int × Int × (Int × Int × Int) × Int × Int × Int × Int × Int × Int × Int × Int)
abbrev Y:=A→Option R
def lv:List (Nat × List Nat):=[(3000000,[41,45]),(2000000,[6,7]),(8,[3,6,9,48,49,50]),(12,[3,6,9,10,11,48,49,50,67,68])]
noncomputable def cs:Nat→Ctx:=ctxOf tis modes tg134.1 lv
theorem cs_ok (n:Nat):CtxOk Tryz.prog (cs n):=ctxOf_ok rfl tis_ok tg134.2 n
noncomputable def sh:AS:=⟨[.agg [.int .i64,.int .i64,.int .i64,.int .i64,.int .i64,.int .i64,.int .i64,.int .i64,.int .i64,.int .i64,.int .i64,.int .i64,.int .i64,.int .i64,.int .i64,.int .i64,.frz (.int .i64)],.agg [.int .i64,.int .i64,.int .i64,.int .i64,.int .i64,.int .i64,.int .i64,.int .i64,.int .i64,.int .i64],.agg [.frz y19,.frz y27]],[]⟩
def os:OS:=⟨.tup [.agg [.int .i64,.int .i64,.int .i64,.int .i64,.int .i64,.int .i64,.int .i64,.int .i64,.int .i64,.int .i64,.int .i64,.int .i64,.int .i64,.int .i64,.int .i64,.int .i64,.sl 128000000,.int .i64,.int .i64,.int .i64,.int .i64,.int .i64,.int .i64,.int .i64,.int .i64,.int .i64,.int .i64,.sl 128000001,.sl 128000002,.sl 128000003,.sl 128000004],.c (.int .i64)],[.row (.int .i64),.row y19,.row y27,.nest y4,.nest y38]⟩
def enc (r:R):Out:=os.enc r
def dec:Out→Option R:=os.dec
noncomputable def b0:Code:=subF [] Tryz.f29
noncomputable def K0 (k:Nat):Kt R:=kTop (cs k) Tryz.f29 dec
noncomputable def b8:Code:=sub [1,1,1,1,1,0,1,0,0] b0
noncomputable def K8 ( k:Nat):Kt R:=kAt (cs k) (loopN cs k) [1,1,1,1,1,0,1,0] b0 (K0 k)
noncomputable def b12:Code:=sub [1,1,0,0,1,1,1,0,0] b8
noncomputable def K12 ( k m1:Nat):Kt R:=kAt (cs m1) (loopN cs m1) [1,1,0,0,1,1,1,0] b8 (kLoop cs m1 b8 (K8 k))
abbrev T0:Type:=Int × Int × Int × Int × Int × Int × Int × Int × Int × Int × Int × Int × Int × Int × Int × Int × Int × Int × Int × Int × Int × Int × Int × Int × Int × Int × Int × Int × Int × Int × Int × Int × Int × Int × Int × Int × Int × Int × Int × Int × Int × Int × Int × Int × Int × Int × Int × Int × Int × Int × Int × Int × Int × Int × Int × Int × Int × Int × Int × Int × Int × Int × Int × Int × Int × Int × Int × Int × Int × Int × List (Int × Int × (Int × Int × Int) × Int × Int × Int × Int × Int × Int × Int × Int) × List Int × List Int × List (ByteArray × Int) × List (Int × Int × (Int × Int × Int) × Int × Int × Int × Int × Int × Int × Int × Int) × List (List Int) × List (List (Int × Int)) × List (ByteArray × Int) × List (List Int) × List (List (Int × Int))
abbrev Y0:=T0→Option R
noncomputable def s0:T0→St:=fun (v0,v1,v2,v3,v4,v5,v6,v7,v8,v9,v10,v11,v12,v13,v14,v15,v16,v17,v18,v19,v20,v21,v22,v23,v24,v25,v26,v27,v28,v29,v30,v31,v32,v33,v34,v35,v36,v37,v38,v39,v40,v41,v42,v43,v44,v45,v46,v47,v48,v49,v50,v51,v52,v53,v54,v55,v56,v57,v58,v59,v60,v61,v62,v63,v64,v65,v66,v67,v68,v69,v70,v71,v72,v73,v74,v75,v76,v77,v78,v79)=>⟨94,0,[(3,.c (.ptr 64000000 0)),(6,.c (.ptr 64000001 0)),(9,.c (.ptr 64000002 0)),(48,.c (.sl 64000003)),(49,.c (.int .i64 v0)),(50,.c (.int .i64 v1))],[],[(256000000,.gone),(64000000,.box [.int .i64 v2,.int .i64 v3,.int .i64 v4,.int .i64 v5,.int .i64 v6,.int .i64 v7,.int .i64 v8,.int .i64 v9,.int .i64 v10,.int .i64 v11,.int .i64 v12,.int .i64 v13,.int .i64 v14,.int .i64 v15,.int .i64 v16,.int .i64 v17,.sl 64000004]),(64000001,.box [.int .i64 v18,.int .i64 v19,.int .i64 v20,.int .i64 v21,.int .i64 v22,.int .i64 v23,.int .i64 v24,.int .i64 v25,.int .i64 v26,.int .i64 v27,.int .i64 v28,.int .i64 v29,.int .i64 v30,.int .i64 v31,.int .i64 v32,.int .i64 v33,.sl 64000005,.int .i64 v34,.int .i64 v35,.int .i64 v36,.int .i64 v37,.int .i64 v38,.int .i64 v39,.int .i64 v40,.int .i64 v41,.int .i64 v42,.int .i64 v43,.sl 64000006,.sl 64000007,.sl 64000008,.sl 64000009]),(64000002,.box [.int .i64 v44,.int .i64 v45,.int .i64 v46,.int .i64 v47,.int .i64 v48,.int .i64 v49,.int .i64 v50,.int .i64 v51,.int .i64 v52,.int .i64 v53,.int .i64 v54,.int .i64 v55,.int .i64 v56,.int .i64 v57,.int .i64 v58,.int .i64 v59,.sl 64000004,.int .i64 v60,.int .i64 v61,.int .i64 v62,.int .i64 v63,.int .i64 v64,.int .i64 v65,.int .i64 v66,.int .i64 v67,.int .i64 v68,.int .i64 v69,.sl 64000010,.sl 64000003,.sl 64000011,.sl 64000012]),(64000003,.row y27 v70),(64000004,.row (.int .i64) v71),(64000005,.row (.int .i64) v72),(64000006,.row y19 v73),(64000007,.row y27 v74),(64000008,.nest y4 v75 .none),(64000009,.nest y38 v76 .none),(64000010,.row y19 v77),(64000011,.nest y4 v78 .none),(64000012,.nest y38 v79 .none)]⟩
noncomputable def l0 ( k n:Nat) (v:T0):Option R:=held (loopN cs n b8 (K8 k) (s0 v))
noncomputable def D0 (v:T0):Option R:=lim fun L=>l0 (L 0) (L 1) v
theorem D0_cn (v:T0):Cn late (D0 v) fun L=>l0 (L 0) (L 1) v:=of_lim
abbrev T1:Type:=Int × Int × Int × Int × Int × Int × Int × Int × Int × Int × Int × Int × Int × Int × Int × Int × Int × Int × Int × Int × Int × Int × Int × Int × Int × Int × Int × Int × Int × Int × Int × Int × Int × Int × Int × Int × Int × Int × Int × Int × Int × Int × Int × Int × Int × Int × Int × Int × Int × Int × Int × Int × Int × Int × Int × Int × Int × Int × Int × Int × Int × Int × Int × Int × Int × Int × Int × Int × Int × Int × Int × Int × Int × Int × Int × Int × Int × Int × Int × Int × Int × Int × Int × Int × Int × Int × List (Int × Int × (Int × Int × Int) × Int × Int × Int × Int × Int × Int × Int × Int) × List Int × List Int × List (ByteArray × Int) × List (Int × Int × (Int × Int × Int) × Int × Int × Int × Int × Int × Int × Int × Int) × List (List Int) × List (List (Int × Int)) × List (ByteArray × Int) × List (List Int) × List (List (Int × Int))
abbrev Y1:=T1→Option R
noncomputable def s1:T1→St:=fun (v0,v1,v2,v3,v4,v5,v6,v7,v8,v9,v10,v11,v12,v13,v14,v15,v16,v17,v18,v19,v20,v21,v22,v23,v24,v25,v26,v27,v28,v29,v30,v31,v32,v33,v34,v35,v36,v37,v38,v39,v40,v41,v42,v43,v44,v45,v46,v47,v48,v49,v50,v51,v52,v53,v54,v55,v56,v57,v58,v59,v60,v61,v62,v63,v64,v65,v66,v67,v68,v69,v70,v71,v72,v73,v74,v75,v76,v77,v78,v79,v80,v81,v82,v83,v84,v85,v86,v87,v88,v89,v90,v91,v92,v93,v94,v95)=>⟨94,0,[(3,.c (.ptr 64000000 0)),(6,.c (.ptr 64000001 0)),(9,.c (.ptr 64000002 0)),(10,.c (.int .i64 v0)),(11,.c (.ptr 64000003 0)),(48,.c (.sl 64000004)),(49,.c (.int .i64 v1)),(50,.c (.int .i64 v2)),(67,.c (.int .i64 v3)),(68,.c (.int .i64 v4))],[],[(256000000,.gone),(64000000,.box [.int .i64 v5,.int .i64 v6,.int .i64 v7,.int .i64 v8,.int .i64 v9,.int .i64 v10,.int .i64 v11,.int .i64 v12,.int .i64 v13,.int .i64 v14,.int .i64 v15,.int .i64 v16,.int .i64 v17,.int .i64 v18,.int .i64 v19,.int .i64 v20,.sl 64000005]),(64000001,.box [.int .i64 v21,.int .i64 v22,.int .i64 v23,.int .i64 v24,.int .i64 v25,.int .i64 v26,.int .i64 v27,.int .i64 v28,.int .i64 v29,.int .i64 v30,.int .i64 v31,.int .i64 v32,.int .i64 v33,.int .i64 v34,.int .i64 v35,.int .i64 v36,.sl 64000006,.int .i64 v37,.int .i64 v38,.int .i64 v39,.int .i64 v40,.int .i64 v41,.int .i64 v42,.int .i64 v43,.int .i64 v44,.int .i64 v45,.int .i64 v46,.sl 64000007,.sl 64000008,.sl 64000009,.sl 64000010]),(64000002,.box [.int .i64 v47,.int .i64 v48,.int .i64 v49,.int .i64 v50,.int .i64 v51,.int .i64 v52,.int .i64 v53,.int .i64 v54,.int .i64 v55,.int .i64 v56,.int .i64 v57,.int .i64 v58,.int .i64 v59,.int .i64 v60,.int .i64 v61,.int .i64 v62,.sl 64000005,.int .i64 v63,.int .i64 v64,.int .i64 v65,.int .i64 v66,.int .i64 v67,.int .i64 v68,.int .i64 v69,.int .i64 v70,.int .i64 v71,.int .i64 v72,.sl 64000011,.sl 64000004,.sl 64000012,.sl 64000013]),(64000003,.box [.int .i64 v73,.int .i64 v74,.int .i64 v75,.int .i64 v76,.int .i64 v77,.int .i64 v78,.int .i64 v79,.int .i64 v80,.int .i64 v81,.int .i64 v82,.int .i64 v83,.int .i64 v84,.int .i64 v85]),(64000004,.row y27 v86),(64000005,.row (.int .i64) v87),(64000006,.row (.int .i64) v88),(64000007,.row y19 v89),(64000008,.row y27 v90),(64000009,.nest y4 v91 .none),(64000010,.nest y38 v92 .none),(64000011,.row y19 v93),(64000012,.nest y4 v94 .none),(64000013,.nest y38 v95 .none)]⟩
noncomputable def l1 ( k m1 n:Nat) (v:T1):Option R:=held (loopN cs n b12 (K12 k m1) (s1 v))
noncomputable def D1 (v:T1):Option R:=lim fun L=>l1 (L 0) (L 1) (L 2) v
theorem D1_cn (v:T1):Cn late (D1 v) fun L=>l1 (L 0) (L 1) (L 2) v:=of_lim
noncomputable def d0 (p0:g124.Y) (p1:Y1):Y0:=fun (v0,v1,v2,v3,v4,v5,v6,v7,v8,v9,v10,v11,v12,v13,v14,v15,v16,v17,v18,v19,v20,v21,v22,v23,v24,v25,v26,v27,v28,v29,v30,v31,v32,v33,v34,v35,v36,v37,v38,v39,v40,v41,v42,v43,v44,v45,v46,v47,v48,v49,v50,v51,v52,v53,v54,v55,v56,v57,v58,v59,v60,v61,v62,v63,v64,v65,v66,v67,v68,v69,v70,v71,v72,v73,v74,v75,v76,v77,v78,v79) =>
br (decide (v1 < v0)) (br (decide (0 ≤ v1 ∧ v1 < (↑v70.length:Int))) (bnd (p0 (v2,v3,v4,v5,v6,v7,v8,v9,v10,v11,v12,v13,v14,v15,v16,v17,v71,(rd ty0 v70 v1).1,(rd ty0 v70 v1).2.1,(rd ty0 v70 v1).2.2.1.1,(rd ty0 v70 v1).2.2.1.2.1,(rd ty0 v70 v1).2.2.1.2.2,(rd ty0 v70 v1).2.2.2.1,(rd ty0 v70 v1).2.2.2.2.1,(rd ty0 v70 v1).2.2.2.2.2.1,(rd ty0 v70 v1).2.2.2.2.2.2.1,(rd ty0 v70 v1).2.2.2.2.2.2.2.1,(rd ty0 v70 v1).2.2.2.2.2.2.2.2.1,(rd ty0 v70 v1).2.2.2.2.2.2.2.2.2.1,(rd ty0 v70 v1).2.2.2.2.2.2.2.2.2.2)) fun r=>br (decide (0 ≤ v1 ∧ v1 < (↑v78.length:Int))) (p1 (v1,v0,v1,wrap .i64 (v10 + 1),0,v2,v3,v4,v5,v6,v7,v8,v9,v10,v11,v12,v13,v14,v15,v16,v17,v18,v19,v20,v21,v22,v23,v24,v25,v26,v27,v28,v29,v30,v31,v32,v33,v34,v35,v36,v37,v38,v39,v40,v41,v42,v43,v44,v45,v46,v47,v48,v49,v50,v51,v52,v53,v54,v55,v56,v57,v58,v59,v60,v61,v62,v63,v64,v65,v66,v67,v68,v69,(rd ty0 v70 v1).1,(rd ty0 v70 v1).2.1,(rd ty0 v70 v1).2.2.1.1,(rd ty0 v70 v1).2.2.1.2.1,(rd ty0 v70 v1).2.2.1.2.2,(rd ty0 v70 v1).2.2.2.1,(rd ty0 v70 v1).2.2.2.2.1,(rd ty0 v70 v1).2.2.2.2.2.1,(rd ty0 v70 v1).2.2.2.2.2.2.1,(rd ty0 v70 v1).2.2.2.2.2.2.2.1,(rd ty0 v70 v1).2.2.2.2.2.2.2.2.1,(rd ty0 v70 v1).2.2.2.2.2.2.2.2.2.1,(rd ty0 v70 v1).2.2.2.2.2.2.2.2.2.2,v70,v71,v72,v73,v74,v75,v76,v77,v78.set v1.toNat r.2,v79)) none) none) (some (v44,v45,v46,v47,v48,v49,v50,v51,v52,v53,v54,v55,v56,v57,v58,v59,v60,v61,v62,v63,v64,v65,v66,v67,v68,v69,0,v71,v77,v70,v78,v79))
theorem d0_cn (k0:Pr E g124.A g124.R) (k1:Pr E T1 R):∀ v:T0,Cn E (d0 k0.p k1.p v) fun i=>d0 (k0.q i) (k1.q i) v:=fun (v0,v1,v2,v3,v4,v5,v6,v7,v8,v9,v10,v11,v12,v13,v14,v15,v16,v17,v18,v19,v20,v21,v22,v23,v24,v25,v26,v27,v28,v29,v30,v31,v32,v33,v34,v35,v36,v37,v38,v39,v40,v41,v42,v43,v44,v45,v46,v47,v48,v49,v50,v51,v52,v53,v54,v55,v56,v57,v58,v59,v60,v61,v62,v63,v64,v65,v66,v67,v68,v69,v70,v71,v72,v73,v74,v75,v76,v77,v78,v79)=>(.br (.br (.bnd (k0.h _) fun _=>(.br (k1.h _) .none)) .none) .some)
theorem l0_b ( k m1:Nat):∀ v:T0,run (cs m1) (loopN cs m1) b8 (kLoop cs m1 b8 (K8 k)) (s0 v) = d0 (g124.f m1) (l1 k m1 m1) v:=fun (v0,v1,v2,v3,v4,v5,v6,v7,v8,v9,v10,v11,v12,v13,v14,v15,v16,v17,v18,v19,v20,v21,v22,v23,v24,v25,v26,v27,v28,v29,v30,v31,v32,v33,v34,v35,v36,v37,v38,v39,v40,v41,v42,v43,v44,v45,v46,v47,v48,v49,v50,v51,v52,v53,v54,v55,v56,v57,v58,v59,v60,v61,v62,v63,v64,v65,v66,v67,v68,v69,v70,v71,v72,v73,v74,v75,v76,v77,v78,v79)=>by kernel_rfl
theorem D0_of (v:T0) {r:R} (h:d0 g124.F D1 v = some r):D0 v = some r:=loop_of 1 (fun L n hn=>by show l0 (L 0) (L 1) v = _; rw [hn]; exact (held_eq _).trans ((loopN_succ _ _ _ _ _).trans (l0_b (L 0) n v))) (d0_cn (lp g124.f 1) (.mk fun v=>(D1_cn v).re [0,1,1]) v) h
noncomputable def d1 (p0:g134.Y) (p1:Y1) (p2:Y0):Y1:=fun (v0,v1,v2,v3,v4,v5,v6,v7,v8,v9,v10,v11,v12,v13,v14,v15,v16,v17,v18,v19,v20,v21,v22,v23,v24,v25,v26,v27,v28,v29,v30,v31,v32,v33,v34,v35,v36,v37,v38,v39,v40,v41,v42,v43,v44,v45,v46,v47,v48,v49,v50,v51,v52,v53,v54,v55,v56,v57,v58,v59,v60,v61,v62,v63,v64,v65,v66,v67,v68,v69,v70,v71,v72,v73,v74,v75,v76,v77,v78,v79,v80,v81,v82,v83,v84,v85,v86,v87,v88,v89,v90,v91,v92,v93,v94,v95) =>
br (decide (v4 < v3)) (bnd (p0 (v5,v6,v7,v8,v9,v10,v11,v12,v13,v14,v15,v16,v17,v18,v19,v20,v87,v75,v76,v77,v4)) fun r=>br (decide (0 ≤ v0 ∧ v0 < (↑v95.length:Int))) (br (decide (List.length (rd ((Ty.int .i64).pair (Ty.int .i64)).slice v95 v0) + [(r.1,r.2.1)].length ≤ 140737488355328 / 16)) (br (decide (0 ≤ v0 ∧ v0 < (↑v95.length:Int))) (br (decide (v0 = v0)) (p1 (v0,v1,v2,v3,wrap .i64 (v4 + 1),v5,v6,v7,v8,v9,v10,v11,v12,v13,v14,v15,v16,v17,v18,v19,v20,v21,v22,v23,v24,v25,v26,v27,v28,v29,v30,v31,v32,v33,v34,v35,v36,v37,v38,v39,v40,v41,v42,v43,v44,v45,v46,v47,v48,v49,v50,v51,v52,v53,v54,v55,v56,v57,v58,v59,v60,v61,v62,v63,v64,v65,v66,v67,v68,v69,v70,v71,v72,v73,v74,v75,v76,v77,v78,v79,v80,v81,v82,v83,v84,v85,v86,v87,v88,v89,v90,v91,v92,v93,v94,v95.set v0.toNat (rd ((Ty.int .i64).pair (Ty.int .i64)).slice v95 v0 ++ [(r.1,r.2.1)]))) none) none) none) none) (p2 (v1,wrap .i64 (v2 + 1),v5,v6,v7,v8,v9,v10,v11,v12,v13,v14,v15,v16,v17,v18,v19,v20,v21,v22,v23,v24,v25,v26,v27,v28,v29,v30,v31,v32,v33,v34,v35,v36,v37,v38,v39,v40,v41,v42,v43,v44,v45,v46,v47,v48,v49,v50,v51,v52,v53,v54,v55,v56,v57,v58,v59,v60,v61,v62,v63,v64,v65,v66,v67,v68,v69,v70,v71,v72,v86,v87,v88,v89,v90,v91,v92,v93,v94,v95))
theorem d1_cn (k0:Pr E g134.A g134.R) (k1:Pr E T1 R) (k2:Pr E T0 R):∀ v:T1,Cn E (d1 k0.p k1.p k2.p v) fun i=>d1 (k0.q i) (k1.q i) (k2.q i) v:=fun (v0,v1,v2,v3,v4,v5,v6,v7,v8,v9,v10,v11,v12,v13,v14,v15,v16,v17,v18,v19,v20,v21,v22,v23,v24,v25,v26,v27,v28,v29,v30,v31,v32,v33,v34,v35,v36,v37,v38,v39,v40,v41,v42,v43,v44,v45,v46,v47,v48,v49,v50,v51,v52,v53,v54,v55,v56,v57,v58,v59,v60,v61,v62,v63,v64,v65,v66,v67,v68,v69,v70,v71,v72,v73,v74,v75,v76,v77,v78,v79,v80,v81,v82,v83,v84,v85,v86,v87,v88,v89,v90,v91,v92,v93,v94,v95)=>(.br (.bnd (k0.h _) fun _=>(.br (.br (.br (.br (k1.h _) .none) .none) .none) .none)) (k2.h _))
theorem l1_b ( k m1 m2:Nat):∀ v:T1,run (cs m2) (loopN cs m2) b12 (kLoop cs m2 b12 (K12 k m1)) (s1 v) = d1 (g134.f m2) (l1 k m1 m2) (l0 k m1) v:=fun (v0,v1,v2,v3,v4,v5,v6,v7,v8,v9,v10,v11,v12,v13,v14,v15,v16,v17,v18,v19,v20,v21,v22,v23,v24,v25,v26,v27,v28,v29,v30,v31,v32,v33,v34,v35,v36,v37,v38,v39,v40,v41,v42,v43,v44,v45,v46,v47,v48,v49,v50,v51,v52,v53,v54,v55,v56,v57,v58,v59,v60,v61,v62,v63,v64,v65,v66,v67,v68,v69,v70,v71,v72,v73,v74,v75,v76,v77,v78,v79,v80,v81,v82,v83,v84,v85,v86,v87,v88,v89,v90,v91,v92,v93,v94,v95)=>by kernel_rfl
theorem D1_of (v:T1) {r:R} (h:d1 g134.F D1 D0 v = some r):D1 v = some r:=loop_of 2 (fun L n hn=>by show l1 (L 0) (L 1) (L 2) v = _; rw [hn]; exact (held_eq _).trans ((loopN_succ _ _ _ _ _).trans (l1_b (L 0) (L 1) n v))) (d1_cn (lp g134.f 2) (.mk fun v=>(D1_cn v).re [0,1,2]) (.mk fun v=>(D0_cn v).re [0,1]) v) h
noncomputable def f (k:Nat):Y:=fun v=>held (runFn cs k Tryz.f29 (sh.args v) (sh.slots v) dec)
noncomputable def F:Y:=lm f
noncomputable def d (p0:g32.Y) (p1:g33.Y) (p2:g34.Y) (p3:g35.Y) (p4:Y0):Y:=fun (v0,v1,v2,v3,v4,v5,v6,v7,v8,v9,v10,v11,v12,v13,v14,v15,v16,v17,v18,v19,v20,v21,v22,v23,v24,v25,v26,v27,v28) =>
bnd (p0 (v0,v1,v2,v3,v4,v5,v6,v7,v8,v9,v10,v11,v12,v13,v14,v15,v16,v17,v18,v19,v20,v21,v22,v23,v24,v25,v26,v27,v28)) fun r=>br (!decide (r = 0)) (some (0,0,0,0,0,0,0,0,0,0,0,0,0,0,0,0,0,0,0,0,0,0,0,0,0,0,r,[],[],[],[],[])) (bnd (p1 v16) fun r=>bnd (p2 v27) fun r_1=>bnd (p3 v28) fun r_2=>br (decide (0 ≤ (↑r_2.length:Int) ∧ (↑r_2.length:Int) ≤ (↑r_2.length:Int) ∧ (↑r_2.length:Int) ≤ (↑(140737488355328 / 24):Int))) (br (decide (0 ≤ (↑r_2.length:Int) ∧ (↑r_2.length:Int) ≤ (↑r_2.length:Int) ∧ (↑r_2.length:Int) ≤ (↑(140737488355328 / 24):Int))) (p4 ((↑r_2.length:Int),0,v0,v1,v2,v3,v4,v5,v6,v7,v8,v9,v10,v11,v12,v13,v14,v15,0,0,0,0,0,0,0,0,0,0,0,0,0,0,0,0,0,0,0,0,0,0,0,0,0,0,v0,v1,v2,v3,v4,v5,v6,v7,v8,v9,v10,v11,v12,v13,v14,v15,v17,v18,v19,v20,v21,v22,v23,v24,v25,v26,r_2,r,[],[],[],[],[],r_1,List.replicate (↑r_2.length:Int).toNat (Ty.int .i64).slice.dflt,List.replicate (↑r_2.length:Int).toNat ((Ty.int .i64).pair (Ty.int .i64)).slice.dflt)) none) none)
theorem d_cn (k0:Pr E g32.A g32.R) (k1:Pr E g33.A g33.R) (k2:Pr E g34.A g34.R) (k3:Pr E g35.A g35.R) (k4:Pr E T0 R):∀ v:A,Cn E (d k0.p k1.p k2.p k3.p k4.p v) fun i=>d (k0.q i) (k1.q i) (k2.q i) (k3.q i) (k4.q i) v:=fun (v0,v1,v2,v3,v4,v5,v6,v7,v8,v9,v10,v11,v12,v13,v14,v15,v16,v17,v18,v19,v20,v21,v22,v23,v24,v25,v26,v27,v28)=>(.bnd (k0.h _) fun _=>(.br .some (.bnd (k1.h _) fun _=>(.bnd (k2.h _) fun _=>(.bnd (k3.h _) fun _=>(.br (.br (k4.h _) .none) .none))))))
theorem f_b (k:Nat):∀ v:A,f k v = d (g32.f k) (g33.f k) (g34.f k) (g35.f k) (l0 k k) v:=fun (v0,v1,v2,v3,v4,v5,v6,v7,v8,v9,v10,v11,v12,v13,v14,v15,v16,v17,v18,v19,v20,v21,v22,v23,v24,v25,v26,v27,v28)=>(held_eq _).trans (by kernel_rfl)
theorem F_of (v:A) {r:R} (h:d g32.F g33.F g34.F g35.F D0 v = some r):F v = some r:=join_of (fun L=>f_b (L 0) v) (d_cn (lp g32.f 0) (lp g33.f 0) (lp g34.f 0) (lp g35.f 0) (.mk fun v=>(D0_cn v).re [0,0]) v) h
noncomputable def spec (k:Nat):List AV→List Slot→Option Ans:=specS sh os (f k)
theorem spec_ok (k:Nat):SpecOk Tryz.prog 29 (spec k):=specS_ok cs_ok Tryz.func29 rfl rfl (fun _ _=>held_eq _) k
end g135
noncomputable def tg135:=tg134.cons 29 g135.spec g135.spec_ok
namespace g136 -- plan_CheckState
abbrev R:Type:=Int
abbrev A:Type:=Int × Int × Int × Int × Int × Int × Int × Int × Int × Int × Int × Int × Int × Int × Int × Int × List Int × Int × Int × Int × Int × Int × Int × Int × Int × Int × Int × List (ByteArray × Int) × List (Int × Int × (Int × Int × Int) × Int × Int × Int × Int × Int × Int × Int × Int) × Int × Int × Int × List (List Int)
abbrev Y:=A→Option R
def lv:List (Nat × List Nat):=[(2000000,[8]),(6,[6,7,49,50,51]),(11,[6,7,9,10,49,50,51,65,66,67])]
noncomputable def cs:Nat→Ctx:=ctxOf tis modes tg135.1 lv
theorem cs_ok (n:Nat):CtxOk Tryz.prog (cs n):=ctxOf_ok rfl tis_ok tg135.2 n
def sh:AS:=⟨[.agg [.int .i64,.int .i64,.int .i64,.int .i64,.int .i64,.int .i64,.int .i64,.int .i64,.int .i64,.int .i64,.int .i64,.int .i64,.int .i64,.int .i64,.int .i64,.int .i64,.frz (.int .i64)],.agg [.int .i64,.int .i64,.int .i64,.int .i64,.int .i64,.int .i64,.int .i64,.int .i64,.int .i64,.int .i64],.agg [.frz y19,.frz y27],.agg [.int .i64,.int .i64,.int .i64,.frz y4]],[]⟩
def os:OS:=⟨.c (.int .i64),[]⟩
def enc (r:R):Out:=os.enc r
def dec:Out→Option R:=os.dec
noncomputable def b0:Code:=subF [] Tryz.f28
noncomputable def K0 (k:Nat):Kt R:=kTop (cs k) Tryz.f28 dec
noncomputable def b6:Code:=sub [1,1,1,0,1,0,0] b0
noncomputable def K6 ( k:Nat):Kt R:=kAt (cs k) (loopN cs k) [1,1,1,0,1,0] b0 (K0 k)
noncomputable def b11:Code:=sub [1,1,0,0,1,1,1,0,0] b6
noncomputable def K11 ( k m1:Nat):Kt R:=kAt (cs m1) (loopN cs m1) [1,1,0,0,1,1,1,0] b6 (kLoop cs m1 b6 (K6 k))
abbrev T0:Type:=List (List Int) × Int × Int × List (ByteArray × Int) × List (Int × Int × (Int × Int × Int) × Int × Int × Int × Int × Int × Int × Int × Int) × Int × Int × Int × List (List Int)
abbrev Y0:=T0→Option R
def s0:T0→St:=fun (v0,v1,v2,v3,v4,v5,v6,v7,v8)=>⟨102,0,[(6,.c (.ptr 64000000 0)),(7,.c (.ptr 64000001 0)),(49,.c (.frz y4 v0)),(50,.c (.int .i64 v1)),(51,.c (.int .i64 v2))],[],[(256000000,.gone),(64000000,.box [.frz y19 v3,.frz y27 v4]),(64000001,.box [.int .i64 v5,.int .i64 v6,.int .i64 v7,.frz y4 v8])]⟩
noncomputable def l0 ( k n:Nat) (v:T0):Option R:=held (loopN cs n b6 (K6 k) (s0 v))
noncomputable def D0 (v:T0):Option R:=lim fun L=>l0 (L 0) (L 1) v
theorem D0_cn (v:T0):Cn late (D0 v) fun L=>l0 (L 0) (L 1) v:=of_lim
abbrev T1:Type:=Int × List Int × List (List Int) × Int × Int × List Int × Int × Int × List (ByteArray × Int) × List (Int × Int × (Int × Int × Int) × Int × Int × Int × Int × Int × Int × Int × Int) × Int × Int × Int × List (List Int)
abbrev Y1:=T1→Option R
def s1:T1→St:=fun (v0,v1,v2,v3,v4,v5,v6,v7,v8,v9,v10,v11,v12,v13)=>⟨102,0,[(6,.c (.ptr 64000000 0)),(7,.c (.ptr 64000001 0)),(9,.c (.int .i64 v0)),(10,.c (.frz (.int .i64) v1)),(49,.c (.frz y4 v2)),(50,.c (.int .i64 v3)),(51,.c (.int .i64 v4)),(65,.c (.frz (.int .i64) v5)),(66,.c (.int .i64 v6)),(67,.c (.int .i64 v7))],[],[(256000000,.gone),(64000000,.box [.frz y19 v8,.frz y27 v9]),(64000001,.box [.int .i64 v10,.int .i64 v11,.int .i64 v12,.frz y4 v13])]⟩
noncomputable def l1 ( k m1 n:Nat) (v:T1):Option R:=held (loopN cs n b11 (K11 k m1) (s1 v))
noncomputable def D1 (v:T1):Option R:=lim fun L=>l1 (L 0) (L 1) (L 2) v
theorem D1_cn (v:T1):Cn late (D1 v) fun L=>l1 (L 0) (L 1) (L 2) v:=of_lim
def d0 (p0:Y1):Y0:=fun (v0,v1,v2,v3,v4,v5,v6,v7,v8) =>
br (decide (v2 < v1)) (br (decide (0 ≤ v2 ∧ v2 < (↑v0.length:Int))) (br (decide (0 ≤ v2 ∧ v2 < (↑v4.length:Int))) (br (decide ((rd ty0 v4 v2).2.2.2.2.1 < (↑(List.length (rd (Ty.int .i64).slice v0 v2)):Int))) (some 9) (p0 (v2,rd (Ty.int .i64).slice v0 v2,v0,v1,v2,rd (Ty.int .i64).slice v0 v2,(↑(List.length (rd (Ty.int .i64).slice v0 v2)):Int),0,v3,v4,v5,v6,v7,v8))) none) none) (some 0)
theorem d0_cn (k0:Pr E T1 R):∀ v:T0,Cn E (d0 k0.p v) fun i=>d0 (k0.q i) v:=fun (v0,v1,v2,v3,v4,v5,v6,v7,v8)=>(.br (.br (.br (.br .some (k0.h _)) .none) .none) .some)
theorem l0_b ( k m1:Nat):∀ v:T0,run (cs m1) (loopN cs m1) b6 (kLoop cs m1 b6 (K6 k)) (s0 v) = d0 (l1 k m1 m1) v:=fun (v0,v1,v2,v3,v4,v5,v6,v7,v8)=>by kernel_rfl
theorem D0_of (v:T0) {r:R} (h:d0 D1 v = some r):D0 v = some r:=loop_of 1 (fun L n hn=>by show l0 (L 0) (L 1) v = _; rw [hn]; exact (held_eq _).trans ((loopN_succ _ _ _ _ _).trans (l0_b (L 0) n v))) (d0_cn (.mk fun v=>(D1_cn v).re [0,1,1]) v) h
noncomputable def d1 (p0:Y1) (p1:Y0):Y1:=fun (v0,v1,v2,v3,v4,v5,v6,v7,v8,v9,v10,v11,v12,v13) =>
br (decide (v7 < v6)) (br (decide (0 ≤ v7 ∧ v7 < (↑v5.length:Int))) (br (!decide (rd (Ty.int .i64) v5 v7 < 0) == false || decide (0 ≤ v0 ∧ v0 < (↑v9.length:Int))) (br (!((decide (rd (Ty.int .i64) v5 v7 < 0) || decide (wrap .i64 (v10 - (rd ty0 v9 v0).2.2.2.1) < rd (Ty.int .i64) v5 v7)) == false && decide (0 < v7) == true) || decide (0 ≤ wrap .i64 (v7 - 1) ∧ wrap .i64 (v7 - 1) < (↑v1.length:Int))) (br (decide (rd (Ty.int .i64) v5 v7 < 0) || decide (wrap .i64 (v10 - (rd ty0 v9 v0).2.2.2.1) < rd (Ty.int .i64) v5 v7) || decide (0 < v7) && decide (rd (Ty.int .i64) v5 v7 ≤ rd (Ty.int .i64) v1 (wrap .i64 (v7 - 1)))) (some 11) (p0 (v0,v1,v2,v3,v4,v5,v6,wrap .i64 (v7 + 1),v8,v9,v10,v11,v12,v13))) none) none) none) (p1 (v2,v3,wrap .i64 (v4 + 1),v8,v9,v10,v11,v12,v13))
theorem d1_cn (k0:Pr E T1 R) (k1:Pr E T0 R):∀ v:T1,Cn E (d1 k0.p k1.p v) fun i=>d1 (k0.q i) (k1.q i) v:=fun (v0,v1,v2,v3,v4,v5,v6,v7,v8,v9,v10,v11,v12,v13)=>(.br (.br (.br (.br (.br .some (k0.h _)) .none) .none) .none) (k1.h _))
theorem l1_b ( k m1 m2:Nat):∀ v:T1,run (cs m2) (loopN cs m2) b11 (kLoop cs m2 b11 (K11 k m1)) (s1 v) = d1 (l1 k m1 m2) (l0 k m1) v:=fun (v0,v1,v2,v3,v4,v5,v6,v7,v8,v9,v10,v11,v12,v13)=>by kernel_rfl
theorem D1_of (v:T1) {r:R} (h:d1 D1 D0 v = some r):D1 v = some r:=loop_of 2 (fun L n hn=>by show l1 (L 0) (L 1) (L 2) v = _; rw [hn]; exact (held_eq _).trans ((loopN_succ _ _ _ _ _).trans (l1_b (L 0) (L 1) n v))) (d1_cn (.mk fun v=>(D1_cn v).re [0,1,2]) (.mk fun v=>(D0_cn v).re [0,1]) v) h
noncomputable def f (k:Nat):Y:=fun v=>held (runFn cs k Tryz.f28 (sh.args v) (sh.slots v) dec)
noncomputable def F:Y:=lm f
def d (p0:g26.Y) (p1:Y0):Y:=fun (v0,v1,v2,v3,v4,v5,v6,v7,v8,v9,v10,v11,v12,v13,v14,v15,v16,v17,v18,v19,v20,v21,v22,v23,v24,v25,v26,v27,v28,v29,v30,v31,v32) =>
br ((decide (v29 < 0) || decide (v8 < v29)) == false) (bnd (p0 (v17,v18,v19,v20,v30)) fun r=>br ((!r) == false) (bnd (p0 (v21,v22,v23,v24,v31)) fun r=>br (!r) (some 4) (br (!decide ((↑v32.length:Int) = (↑v28.length:Int))) (some 3) (p1 (v32,(↑v32.length:Int),0,v27,v28,v29,v30,v31,v32)))) (some 4)) (some 4)
theorem d_cn (k0:Pr E g26.A g26.R) (k1:Pr E T0 R):∀ v:A,Cn E (d k0.p k1.p v) fun i=>d (k0.q i) (k1.q i) v:=fun (v0,v1,v2,v3,v4,v5,v6,v7,v8,v9,v10,v11,v12,v13,v14,v15,v16,v17,v18,v19,v20,v21,v22,v23,v24,v25,v26,v27,v28,v29,v30,v31,v32)=>(.br (.bnd (k0.h _) fun _=>(.br (.bnd (k0.h _) fun _=>(.br .some (.br .some (k1.h _)))) .some)) .some)
theorem f_b (k:Nat):∀ v:A,f k v = d (g26.f k) (l0 k k) v:=fun (v0,v1,v2,v3,v4,v5,v6,v7,v8,v9,v10,v11,v12,v13,v14,v15,v16,v17,v18,v19,v20,v21,v22,v23,v24,v25,v26,v27,v28,v29,v30,v31,v32)=>(held_eq _).trans (by kernel_rfl)
theorem F_of (v:A) {r:R} (h:d g26.F D0 v = some r):F v = some r:=join_of (fun L=>f_b (L 0) v) (d_cn (lp g26.f 0) (.mk fun v=>(D0_cn v).re [0,0]) v) h
noncomputable def spec (k:Nat):List AV→List Slot→Option Ans:=specS sh os (f k)
theorem spec_ok (k:Nat):SpecOk Tryz.prog 28 (spec k):=specS_ok cs_ok Tryz.func28 rfl rfl (fun _ _=>held_eq _) k
end g136
noncomputable def tg136:=tg135.cons 28 g136.spec g136.spec_ok
namespace g137 -- plan_Desk_check
abbrev R:Type:=Int
abbrev A:Type:=Int × Int × Int × Int × Int × Int × Int × Int × Int × Int × Int × Int × Int × Int × Int × Int × List Int × Int × Int × Int × Int × Int × Int × Int × Int × Int × Int × List (ByteArray × Int) × List (Int × Int × (Int × Int × Int) × Int × Int × Int × Int × Int × Int × Int × Int) × List (List Int) × List (List (Int × Int)) × Int × Int × Int × List (List Int)
abbrev Y:=A→Option R
def lv:List (Nat × List Nat):=[(2000000,[4])]
noncomputable def cs:Nat→Ctx:=ctxOf tis modes tg136.1 lv
theorem cs_ok (n:Nat):CtxOk Tryz.prog (cs n):=ctxOf_ok rfl tis_ok tg136.2 n
def sh:AS:=⟨[.agg [.int .i64,.int .i64,.int .i64,.int .i64,.int .i64,.int .i64,.int .i64,.int .i64,.int .i64,.int .i64,.int .i64,.int .i64,.int .i64,.int .i64,.int .i64,.int .i64,.frz (.int .i64),.int .i64,.int .i64,.int .i64,.int .i64,.int .i64,.int .i64,.int .i64,.int .i64,.int .i64,.int .i64,.frz y19,.frz y27,.frz y4,.frz y38],.agg [.int .i64,.int .i64,.int .i64,.frz y4]],[]⟩
def os:OS:=⟨.c (.int .i64),[]⟩
def enc (r:R):Out:=os.enc r
def dec:Out→Option R:=os.dec
noncomputable def b0:Code:=subF [] Tryz.f62
noncomputable def K0 (k:Nat):Kt R:=kTop (cs k) Tryz.f62 dec
noncomputable def f (k:Nat):Y:=fun v=>held (runFn cs k Tryz.f62 (sh.args v) (sh.slots v) dec)
noncomputable def F:Y:=lm f
def d (p0:g136.Y):Y:=fun (v0,v1,v2,v3,v4,v5,v6,v7,v8,v9,v10,v11,v12,v13,v14,v15,v16,v17,v18,v19,v20,v21,v22,v23,v24,v25,v26,v27,v28,v29,v30,v31,v32,v33,v34) =>
br (decide (v8 = 0)) (some 10) (bnd (p0 (v0,v1,v2,v3,v4,v5,v6,v7,v8,v9,v10,v11,v12,v13,v14,v15,v16,v17,v18,v19,v20,v21,v22,v23,v24,v25,v26,v27,v28,v31,v32,v33,v34)) fun r=>some r)
theorem d_cn (k0:Pr E g136.A g136.R):∀ v:A,Cn E (d k0.p v) fun i=>d (k0.q i) v:=fun (v0,v1,v2,v3,v4,v5,v6,v7,v8,v9,v10,v11,v12,v13,v14,v15,v16,v17,v18,v19,v20,v21,v22,v23,v24,v25,v26,v27,v28,v29,v30,v31,v32,v33,v34)=>(.br .some (.bnd (k0.h _) fun _=>.some))
theorem f_b (k:Nat):∀ v:A,f k v = d (g136.f k) v:=fun (v0,v1,v2,v3,v4,v5,v6,v7,v8,v9,v10,v11,v12,v13,v14,v15,v16,v17,v18,v19,v20,v21,v22,v23,v24,v25,v26,v27,v28,v29,v30,v31,v32,v33,v34)=>(held_eq _).trans (by kernel_rfl)
theorem F_of (v:A) {r:R} (h:d g136.F v = some r):F v = some r:=join_of (fun L=>f_b (L 0) v) (d_cn (lp g136.f 0) v) h
noncomputable def spec (k:Nat):List AV→List Slot→Option Ans:=specS sh os (f k)
theorem spec_ok (k:Nat):SpecOk Tryz.prog 62 (spec k):=specS_ok cs_ok Tryz.func62 rfl rfl (fun _ _=>held_eq _) k
end g137
noncomputable def tg137:=tg136.cons 62 g137.spec g137.spec_ok
namespace g138 -- plan_Clone
abbrev R:Type:=Int × Int × Int × List (List Int)
abbrev A:Type:=Int × Int × Int × List (List Int)
abbrev Y:=A→Option R
def lv:List (Nat × List Nat):=[(3000000,[9]),(2000000,[2]),(3,[1,2,3,11,12,13])]
noncomputable def cs:Nat→Ctx:=ctxOf tis modes tg137.1 lv
theorem cs_ok (n:Nat):CtxOk Tryz.prog (cs n):=ctxOf_ok rfl tis_ok tg137.2 n
def sh:AS:=⟨[(.agg [.int .i64,.int .i64,.int .i64,.frz y4])],[]⟩
def os:OS:=⟨.agg [.int .i64,.int .i64,.int .i64,.sl 128000000],[(.nest y4)]⟩
def enc (r:R):Out:=os.enc r
def dec:Out→Option R:=os.dec
noncomputable def b0:Code:=subF [] Tryz.f67
noncomputable def K0 (k:Nat):Kt R:=kTop (cs k) Tryz.f67 dec
noncomputable def b3:Code:=sub [1,1,0,1,0,0] b0
noncomputable def K3 ( k:Nat):Kt R:=kAt (cs k) (loopN cs k) [1,1,0,1,0] b0 (K0 k)
abbrev T0:Type:=List (List Int) × Int × Int × Int × Int × Int × List (List Int) × Int × Int × Int × List (List Int) × List (List Int)
abbrev Y0:=T0→Option R
def s0:T0→St:=fun (v0,v1,v2,v3,v4,v5,v6,v7,v8,v9,v10,v11)=>⟨27,0,[(1,.c (.ptr 64000000 0)),(2,.c (.ptr 64000001 0)),(3,.c (.sl 64000002)),(11,.c (.frz y4 v0)),(12,.c (.int .i64 v1)),(13,.c (.int .i64 v2))],[],[(256000000,.gone),(64000000,.box [.int .i64 v3,.int .i64 v4,.int .i64 v5,.frz y4 v6]),(64000001,.box [.int .i64 v7,.int .i64 v8,.int .i64 v9,.sl 64000003]),(64000002,.nest y4 v10 .none),(64000003,.nest y4 v11 .none)]⟩
noncomputable def l0 ( k n:Nat) (v:T0):Option R:=held (loopN cs n b3 (K3 k) (s0 v))
noncomputable def D0 (v:T0):Option R:=lim fun L=>l0 (L 0) (L 1) v
theorem D0_cn (v:T0):Cn late (D0 v) fun L=>l0 (L 0) (L 1) v:=of_lim
def d0 (p0:g33.Y) (p1:Y0):Y0:=fun (v0,v1,v2,v3,v4,v5,v6,v7,v8,v9,v10,v11) =>
br (decide (v2 < v1)) (br (decide (0 ≤ v2 ∧ v2 < (↑v0.length:Int))) (bnd (p0 (rd (Ty.int .i64).slice v0 v2)) fun r=>br (decide (0 ≤ v2 ∧ v2 < (↑v10.length:Int))) (p1 (v0,v1,wrap .i64 (v2 + 1),v3,v4,v5,v6,v7,v8,v9,v10.set v2.toNat r,v11)) none) none) (some (v3,v4,v5,v10))
theorem d0_cn (k0:Pr E g33.A g33.R) (k1:Pr E T0 R):∀ v:T0,Cn E (d0 k0.p k1.p v) fun i=>d0 (k0.q i) (k1.q i) v:=fun (v0,v1,v2,v3,v4,v5,v6,v7,v8,v9,v10,v11)=>(.br (.br (.bnd (k0.h _) fun _=>(.br (k1.h _) .none)) .none) .some)
theorem l0_b ( k m1:Nat):∀ v:T0,run (cs m1) (loopN cs m1) b3 (kLoop cs m1 b3 (K3 k)) (s0 v) = d0 (g33.f m1) (l0 k m1) v:=fun (v0,v1,v2,v3,v4,v5,v6,v7,v8,v9,v10,v11)=>by kernel_rfl
theorem D0_of (v:T0) {r:R} (h:d0 g33.F D0 v = some r):D0 v = some r:=loop_of 1 (fun L n hn=>by show l0 (L 0) (L 1) v = _; rw [hn]; exact (held_eq _).trans ((loopN_succ _ _ _ _ _).trans (l0_b (L 0) n v))) (d0_cn (lp g33.f 1) (.mk fun v=>(D0_cn v).re [0,1]) v) h
noncomputable def f (k:Nat):Y:=fun v=>held (runFn cs k Tryz.f67 (sh.args v) (sh.slots v) dec)
noncomputable def F:Y:=lm f
def d (p0:Y0):Y:=fun (v0,v1,v2,v3) =>
br (decide (0 ≤ (↑v3.length:Int) ∧ (↑v3.length:Int) ≤ (↑v3.length:Int) ∧ (↑v3.length:Int) ≤ (↑(140737488355328 / 24):Int))) (p0 (v3,(↑v3.length:Int),0,v0,v1,v2,v3,0,0,0,List.replicate (↑v3.length:Int).toNat (Ty.int .i64).slice.dflt,[])) none
theorem d_cn (k0:Pr E T0 R):∀ v:A,Cn E (d k0.p v) fun i=>d (k0.q i) v:=fun (v0,v1,v2,v3)=>(.br (k0.h _) .none)
theorem f_b (k:Nat):∀ v:A,f k v = d (l0 k k) v:=fun (v0,v1,v2,v3)=>(held_eq _).trans (by kernel_rfl)
theorem F_of (v:A) {r:R} (h:d D0 v = some r):F v = some r:=join_of (fun L=>f_b (L 0) v) (d_cn (.mk fun v=>(D0_cn v).re [0,0]) v) h
noncomputable def spec (k:Nat):List AV→List Slot→Option Ans:=specS sh os (f k)
theorem spec_ok (k:Nat):SpecOk Tryz.prog 67 (spec k):=specS_ok cs_ok Tryz.func67 rfl rfl (fun _ _=>held_eq _) k
end g138
noncomputable def tg138:=tg137.cons 67 g138.spec g138.spec_ok
namespace g139 -- plan_Used
abbrev R:Type:=List Int
abbrev A:Type:=List (ByteArray × Int) × List (Int × Int × (Int × Int × Int) × Int × Int × Int × Int × Int × Int × Int × Int) × Int × Int × Int × List (List Int)
abbrev Y:=A→Option R
def lv:List (Nat × List Nat):=[(2000000,[4]),(5,[3,5,25,26,27])]
noncomputable def cs:Nat→Ctx:=ctxOf tis modes tg138.1 lv
theorem cs_ok (n:Nat):CtxOk Tryz.prog (cs n):=ctxOf_ok rfl tis_ok tg138.2 n
def sh:AS:=⟨[.agg [.frz y19,.frz y27],.agg [.int .i64,.int .i64,.int .i64,.frz y4]],[]⟩
def os:OS:=⟨.c (.sl 128000000),[(.row (.int .i64))]⟩
def enc (r:R):Out:=os.enc r
def dec:Out→Option R:=os.dec
noncomputable def b0:Code:=subF [] Tryz.f31
noncomputable def K0 (k:Nat):Kt R:=kTop (cs k) Tryz.f31 dec
noncomputable def b5:Code:=sub [1,1,1,0,1,0,0] b0
noncomputable def K5 ( k:Nat):Kt R:=kAt (cs k) (loopN cs k) [1,1,1,0,1,0] b0 (K0 k)
abbrev T0:Type:=List (Int × Int × (Int × Int × Int) × Int × Int × Int × Int × Int × Int × Int × Int) × Int × Int × Int × Int × Int × List (List Int) × List Int
abbrev Y0:=T0→Option R
def s0:T0→St:=fun (v0,v1,v2,v3,v4,v5,v6,v7)=>⟨50,0,[(3,.c (.ptr 64000000 0)),(5,.c (.sl 64000001)),(25,.c (.frz y27 v0)),(26,.c (.int .i64 v1)),(27,.c (.int .i64 v2))],[],[(256000000,.gone),(64000000,.box [.int .i64 v3,.int .i64 v4,.int .i64 v5,.frz y4 v6]),(64000001,.row (.int .i64) v7)]⟩
noncomputable def l0 ( k n:Nat) (v:T0):Option R:=held (loopN cs n b5 (K5 k) (s0 v))
noncomputable def D0 (v:T0):Option R:=lim fun L=>l0 (L 0) (L 1) v
theorem D0_cn (v:T0):Cn late (D0 v) fun L=>l0 (L 0) (L 1) v:=of_lim
def d0 (p0:Y0):Y0:=fun (v0,v1,v2,v3,v4,v5,v6,v7) =>
br (decide (v2 < v1)) (br (decide (0 ≤ v2 ∧ v2 < (↑v0.length:Int))) (br (decide (0 ≤ (rd ty0 v0 v2).2.1 ∧ (rd ty0 v0 v2).2.1 < (↑v7.length:Int))) (br (decide (0 ≤ v2 ∧ v2 < (↑v6.length:Int))) (br (decide (0 ≤ (rd ty0 v0 v2).2.1 ∧ (rd ty0 v0 v2).2.1 < (↑v7.length:Int))) (p0 (v0,v1,wrap .i64 (v2 + 1),v3,v4,v5,v6,v7.set (Int.toNat (rd ty0 v0 v2).2.1) (wrap .i64 (rd (Ty.int .i64) v7 (rd ty0 v0 v2).2.1 + wrap .i64 ((rd ty0 v0 v2).2.2.2.1 * (↑(List.length (rd (Ty.int .i64).slice v6 v2)):Int)))))) none) none) none) none) (some v7)
theorem d0_cn (k0:Pr E T0 R):∀ v:T0,Cn E (d0 k0.p v) fun i=>d0 (k0.q i) v:=fun (v0,v1,v2,v3,v4,v5,v6,v7)=>(.br (.br (.br (.br (.br (k0.h _) .none) .none) .none) .none) .some)
theorem l0_b ( k m1:Nat):∀ v:T0,run (cs m1) (loopN cs m1) b5 (kLoop cs m1 b5 (K5 k)) (s0 v) = d0 (l0 k m1) v:=fun (v0,v1,v2,v3,v4,v5,v6,v7)=>by kernel_rfl
theorem D0_of (v:T0) {r:R} (h:d0 D0 v = some r):D0 v = some r:=loop_of 1 (fun L n hn=>by show l0 (L 0) (L 1) v = _; rw [hn]; exact (held_eq _).trans ((loopN_succ _ _ _ _ _).trans (l0_b (L 0) n v))) (d0_cn (.mk fun v=>(D0_cn v).re [0,1]) v) h
noncomputable def f (k:Nat):Y:=fun v=>held (runFn cs k Tryz.f31 (sh.args v) (sh.slots v) dec)
noncomputable def F:Y:=lm f
def d (p0:g31.Y) (p1:Y0):Y:=fun (v0,v1,v2,v3,v4,v5) =>
bnd (p0 (v0,v1)) fun r=>br (!decide (r = 0) || !decide ((↑v5.length:Int) = (↑v1.length:Int))) (some []) (br (decide (0 ≤ (↑v0.length:Int) ∧ (↑v0.length:Int) ≤ (↑v0.length:Int) ∧ (↑v0.length:Int) ≤ (↑(140737488355328 / 8):Int))) (p1 (v1,(↑v1.length:Int),0,v2,v3,v4,v5,List.replicate (↑v0.length:Int).toNat (Ty.int .i64).dflt)) none)
theorem d_cn (k0:Pr E g31.A g31.R) (k1:Pr E T0 R):∀ v:A,Cn E (d k0.p k1.p v) fun i=>d (k0.q i) (k1.q i) v:=fun (v0,v1,v2,v3,v4,v5)=>(.bnd (k0.h _) fun _=>(.br .some (.br (k1.h _) .none)))
theorem f_b (k:Nat):∀ v:A,f k v = d (g31.f k) (l0 k k) v:=fun (v0,v1,v2,v3,v4,v5)=>(held_eq _).trans (by kernel_rfl)
theorem F_of (v:A) {r:R} (h:d g31.F D0 v = some r):F v = some r:=join_of (fun L=>f_b (L 0) v) (d_cn (lp g31.f 0) (.mk fun v=>(D0_cn v).re [0,0]) v) h
noncomputable def spec (k:Nat):List AV→List Slot→Option Ans:=specS sh os (f k)
theorem spec_ok (k:Nat):SpecOk Tryz.prog 31 (spec k):=specS_ok cs_ok Tryz.func31 rfl rfl (fun _ _=>held_eq _) k
end g139
noncomputable def tg139:=tg138.cons 31 g139.spec g139.spec_ok
namespace g140 -- slew_mod
abbrev R:Type:=Int
abbrev A:Type:=Int
abbrev Y:=A→Option R
def lv:List (Nat × List Nat):=[(2000000,[2]),(1000004,[0])]
noncomputable def cs:Nat→Ctx:=ctxOf tis modes tg139.1 lv
theorem cs_ok (n:Nat):CtxOk Tryz.prog (cs n):=ctxOf_ok rfl tis_ok tg139.2 n
def sh:AS:=⟨[(.c (.int .i64))],[]⟩
def os:OS:=⟨.c (.int .i64),[]⟩
def enc (r:R):Out:=os.enc r
def dec:Out→Option R:=os.dec
noncomputable def b0:Code:=subF [] Tryz.f168
noncomputable def K0 (k:Nat):Kt R:=kTop (cs k) Tryz.f168 dec
noncomputable def c1000004:Code:=sub [1,1,1] b0
noncomputable def J1000004 ( k:Nat):Kt R:=kAt (cs k) (loopN cs k) [1,1,1] b0 (K0 k)
abbrev T0:Type:=Int
abbrev Y0:=T0→Option R
def s0:T0→St:=fun v0=>⟨10,0,[(0,.c (.int .i64 v0))],[],[(256000000,.gone)]⟩
noncomputable def l0 ( k:Nat) (v:T0):Option R:=held (run (cs k) (loopN cs k) c1000004 (J1000004 k) (s0 v))
noncomputable def D0 (v:T0):Option R:=lim fun L=>l0 (L 0) v
theorem D0_cn (v:T0):Cn late (D0 v) fun L=>l0 (L 0) v:=of_lim
def d0:Y0:=fun v0 =>
some v0
theorem d0_cn:∀ v:T0,Cn E (d0 v) fun i=>d0 v:=fun v0=>.some
theorem l0_b ( k:Nat):∀ v:T0,run (cs k) (loopN cs k) c1000004 (J1000004 k) (s0 v) = d0 v:=fun v0=>by kernel_rfl
theorem D0_of (v:T0) {r:R} (h:d0 v = some r):D0 v = some r:=join_of (fun L=>(held_eq _).trans (l0_b (L 0) v)) (d0_cn v) h
noncomputable def f (k:Nat):Y:=fun v=>held (runFn cs k Tryz.f168 (sh.args v) (sh.slots v) dec)
noncomputable def F:Y:=lm f
def d (p0:Y0):Y:=fun v0 =>
br (!decide (4294967296 = 0)) (br (decide (v0.tmod (4294967296:Int) < 0)) (p0 (wrap .i64 (v0.tmod 4294967296 + 4294967296))) (p0 (v0.tmod 4294967296))) none
theorem d_cn (k0:Pr E T0 R):∀ v:A,Cn E (d k0.p v) fun i=>d (k0.q i) v:=fun v0=>(.br (.br (k0.h _) (k0.h _)) .none)
theorem f_b (k:Nat):∀ v:A,f k v = d (l0 k) v:=fun v0=>(held_eq _).trans (by kernel_rfl)
theorem F_of (v:A) {r:R} (h:d D0 v = some r):F v = some r:=join_of (fun L=>f_b (L 0) v) (d_cn (.mk fun v=>(D0_cn v).re [0]) v) h
noncomputable def spec (k:Nat):List AV→List Slot→Option Ans:=specS sh os (f k)
theorem spec_ok (k:Nat):SpecOk Tryz.prog 168 (spec k):=specS_ok cs_ok Tryz.func168 rfl rfl (fun _ _=>held_eq _) k
end g140
noncomputable def tg140:=tg139.cons 168 g140.spec g140.spec_ok
namespace g141 -- slew_abs
abbrev R:Type:=Int
abbrev A:Type:=Int
abbrev Y:=A→Option R
def lv:List (Nat × List Nat):=[(2000000,[2])]
noncomputable def cs:Nat→Ctx:=ctxOf tis modes tg140.1 lv
theorem cs_ok (n:Nat):CtxOk Tryz.prog (cs n):=ctxOf_ok rfl tis_ok tg140.2 n
def sh:AS:=⟨[(.c (.int .i64))],[]⟩
def os:OS:=⟨.c (.int .i64),[]⟩
def enc (r:R):Out:=os.enc r
def dec:Out→Option R:=os.dec
noncomputable def b0:Code:=subF [] Tryz.f128
noncomputable def K0 (k:Nat):Kt R:=kTop (cs k) Tryz.f128 dec
noncomputable def f (k:Nat):Y:=fun v=>held (runFn cs k Tryz.f128 (sh.args v) (sh.slots v) dec)
noncomputable def F:Y:=lm f
def d:Y:=fun v0 =>
some (max v0 (wrap .i64 (0 - v0)))
theorem d_cn:∀ v:A,Cn E (d v) fun i=>d v:=fun v0=>.some
theorem f_b (k:Nat):∀ v:A,f k v = d v:=fun v0=>(held_eq _).trans (by kernel_rfl)
theorem F_of (v:A) {r:R} (h:d v = some r):F v = some r:=join_of (fun L=>f_b (L 0) v) (d_cn v) h
noncomputable def spec (k:Nat):List AV→List Slot→Option Ans:=specS sh os (f k)
theorem spec_ok (k:Nat):SpecOk Tryz.prog 128 (spec k):=specS_ok cs_ok Tryz.func128 rfl rfl (fun _ _=>held_eq _) k
end g141
noncomputable def tg141:=tg140.cons 128 g141.spec g141.spec_ok
namespace g142 -- slew_Target
abbrev R:Type:=Int × Int
abbrev A:Type:=Int × Int × Int × Int × Int × Int
abbrev Y:=A→Option R
def lv:List (Nat × List Nat):=[(2000000,[6,7]),(10,[1,3,9,10]),(1000011,[1,3,9,10])]
noncomputable def cs:Nat→Ctx:=ctxOf tis modes tg141.1 lv
theorem cs_ok (n:Nat):CtxOk Tryz.prog (cs n):=ctxOf_ok rfl tis_ok tg141.2 n
def sh:AS:=⟨[.agg [.int .i64,.int .i64,.int .i64,.int .i64],.c (.int .i64),.c (.int .i64)],[]⟩
def os:OS:=⟨.tup [.c (.int .i64),.c (.int .i64)],[]⟩
def enc (r:R):Out:=os.enc r
def dec:Out→Option R:=os.dec
noncomputable def b0:Code:=subF [] Tryz.f130
noncomputable def K0 (k:Nat):Kt R:=kTop (cs k) Tryz.f130 dec
noncomputable def b10:Code:=sub [1,1,1,1,1,1,0,0,0] b0
noncomputable def K10 ( k:Nat):Kt R:=kAt (cs k) (loopN cs k) [1,1,1,1,1,1,0,0] b0 (K0 k)
noncomputable def c1000011:Code:=sub [1,1] b10
noncomputable def J1000011 ( k m1:Nat):Kt R:=kAt (cs m1) (loopN cs m1) [1,1] b10 (kLoop cs m1 b10 (K10 k))
abbrev T0:Type:=Int × Int × Int × Int × Int × Int × Int
abbrev Y0:=T0→Option R
def s0:T0→St:=fun (v0,v1,v2,v3,v4,v5,v6)=>⟨52,0,[(1,.c (.int .i64 v0)),(3,.c (.ptr 64000000 0)),(9,.c (.int .i64 v1)),(10,.c (.int .i64 v2))],[],[(256000000,.gone),(64000000,.box [.int .i64 v3,.int .i64 v4,.int .i64 v5,.int .i64 v6])]⟩
noncomputable def l0 ( k n:Nat) (v:T0):Option R:=held (loopN cs n b10 (K10 k) (s0 v))
noncomputable def D0 (v:T0):Option R:=lim fun L=>l0 (L 0) (L 1) v
theorem D0_cn (v:T0):Cn late (D0 v) fun L=>l0 (L 0) (L 1) v:=of_lim
abbrev T1:Type:=Int × Int × Int × Int × Int × Int × Int
abbrev Y1:=T1→Option R
def s1:T1→St:=fun (v0,v1,v2,v3,v4,v5,v6)=>⟨52,0,[(1,.c (.int .i64 v0)),(3,.c (.ptr 64000000 0)),(9,.c (.int .i64 v1)),(10,.c (.int .i64 v2))],[],[(256000000,.gone),(64000000,.box [.int .i64 v3,.int .i64 v4,.int .i64 v5,.int .i64 v6])]⟩
noncomputable def l1 ( k m1:Nat) (v:T1):Option R:=held (run (cs m1) (loopN cs m1) c1000011 (J1000011 k m1) (s1 v))
noncomputable def D1 (v:T1):Option R:=lim fun L=>l1 (L 0) (L 1) v
theorem D1_cn (v:T1):Cn late (D1 v) fun L=>l1 (L 0) (L 1) v:=of_lim
def d0 (p0:g141.Y) (p1:Y1):Y0:=fun (v0,v1,v2,v3,v4,v5,v6) =>
br (decide (v1 ≤ v4)) (bnd (p0 (wrap .i64 (v1 - v0))) fun r=>bnd (p0 (wrap .i64 (v2 - v0))) fun r_1=>br (decide (r < r_1)) (p1 (v0,v1,v1,v3,v4,v5,v6)) (p1 (v0,v1,v2,v3,v4,v5,v6))) (some (v2,0))
theorem d0_cn (k0:Pr E g141.A g141.R) (k1:Pr E T1 R):∀ v:T0,Cn E (d0 k0.p k1.p v) fun i=>d0 (k0.q i) (k1.q i) v:=fun (v0,v1,v2,v3,v4,v5,v6)=>(.br (.bnd (k0.h _) fun _=>(.bnd (k0.h _) fun _=>(.br (k1.h _) (k1.h _)))) .some)
theorem l0_b ( k m1:Nat):∀ v:T0,run (cs m1) (loopN cs m1) b10 (kLoop cs m1 b10 (K10 k)) (s0 v) = d0 (g141.f m1) (l1 k m1) v:=fun (v0,v1,v2,v3,v4,v5,v6)=>by kernel_rfl
theorem D0_of (v:T0) {r:R} (h:d0 g141.F D1 v = some r):D0 v = some r:=loop_of 1 (fun L n hn=>by show l0 (L 0) (L 1) v = _; rw [hn]; exact (held_eq _).trans ((loopN_succ _ _ _ _ _).trans (l0_b (L 0) n v))) (d0_cn (lp g141.f 1) (.mk fun v=>(D1_cn v).re [0,1]) v) h
def d1 (p0:Y0):Y1:=fun (v0,v1,v2,v3,v4,v5,v6) =>
p0 (v0,wrap .i64 (v1 + 4294967296),v2,v3,v4,v5,v6)
theorem d1_cn (k0:Pr E T0 R):∀ v:T1,Cn E (d1 k0.p v) fun i=>d1 (k0.q i) v:=fun (v0,v1,v2,v3,v4,v5,v6)=>(k0.h _)
theorem l1_b ( k m1:Nat):∀ v:T1,run (cs m1) (loopN cs m1) c1000011 (J1000011 k m1) (s1 v) = d1 (l0 k m1) v:=fun (v0,v1,v2,v3,v4,v5,v6)=>by kernel_rfl
theorem D1_of (v:T1) {r:R} (h:d1 D0 v = some r):D1 v = some r:=join_of (fun L=>(held_eq _).trans (l1_b (L 0) (L 1) v)) (d1_cn (.mk fun v=>(D0_cn v).re [0,1]) v) h
noncomputable def f (k:Nat):Y:=fun v=>held (runFn cs k Tryz.f130 (sh.args v) (sh.slots v) dec)
noncomputable def F:Y:=lm f
def d (p0:g25.Y) (p1:g26.Y) (p2:g140.Y) (p3:Y0):Y:=fun (v0,v1,v2,v3,v4,v5) =>
bnd (p0 (v0,v1,v2,v3)) fun r=>br (!decide (r = 0)) (some (0,r)) (bnd (p1 (v0,v1,v2,v3,v4)) fun r=>br (!r) (some (0,4)) (bnd (p2 v5) fun r=>bnd (p2 v0) fun r_1=>bnd (p2 (wrap .i64 (r - r_1))) fun r=>br (decide (v1 < wrap .i64 (v0 + r))) (some (0,4)) (p3 (v4,wrap .i64 (v0 + r),wrap .i64 (v0 + r),v0,v1,v2,v3))))
theorem d_cn (k0:Pr E g25.A g25.R) (k1:Pr E g26.A g26.R) (k2:Pr E g140.A g140.R) (k3:Pr E T0 R):∀ v:A,Cn E (d k0.p k1.p k2.p k3.p v) fun i=>d (k0.q i) (k1.q i) (k2.q i) (k3.q i) v:=fun (v0,v1,v2,v3,v4,v5)=>(.bnd (k0.h _) fun _=>(.br .some (.bnd (k1.h _) fun _=>(.br .some (.bnd (k2.h _) fun _=>(.bnd (k2.h _) fun _=>(.bnd (k2.h _) fun _=>(.br .some (k3.h _)))))))))
theorem f_b (k:Nat):∀ v:A,f k v = d (g25.f k) (g26.f k) (g140.f k) (l0 k k) v:=fun (v0,v1,v2,v3,v4,v5)=>(held_eq _).trans (by kernel_rfl)
theorem F_of (v:A) {r:R} (h:d g25.F g26.F g140.F D0 v = some r):F v = some r:=join_of (fun L=>f_b (L 0) v) (d_cn (lp g25.f 0) (lp g26.f 0) (lp g140.f 0) (.mk fun v=>(D0_cn v).re [0,0]) v) h
noncomputable def spec (k:Nat):List AV→List Slot→Option Ans:=specS sh os (f k)
theorem spec_ok (k:Nat):SpecOk Tryz.prog 130 (spec k):=specS_ok cs_ok Tryz.func130 rfl rfl (fun _ _=>held_eq _) k
end g142
noncomputable def tg142:=tg141.cons 130 g142.spec g142.spec_ok
namespace g143 -- slew_fastest
abbrev R:Type:=Int
abbrev A:Type:=Int × Int × Int × Int × Int
abbrev Y:=A→Option R
def lv:List (Nat × List Nat):=[(2000000,[4]),(2,[1,2,5])]
noncomputable def cs:Nat→Ctx:=ctxOf tis modes tg142.1 lv
theorem cs_ok (n:Nat):CtxOk Tryz.prog (cs n):=ctxOf_ok rfl tis_ok tg142.2 n
def sh:AS:=⟨[.agg [.int .i64,.int .i64,.int .i64,.int .i64],.c (.int .i64)],[]⟩
def os:OS:=⟨.c (.int .i64),[]⟩
def enc (r:R):Out:=os.enc r
def dec:Out→Option R:=os.dec
noncomputable def b0:Code:=subF [] Tryz.f169
noncomputable def K0 (k:Nat):Kt R:=kTop (cs k) Tryz.f169 dec
noncomputable def b2:Code:=sub [1,0,1,0,0] b0
noncomputable def K2 ( k:Nat):Kt R:=kAt (cs k) (loopN cs k) [1,0,1,0] b0 (K0 k)
abbrev T0:Type:=Int × Int × Int × Int × Int × Int
abbrev Y0:=T0→Option R
def s0:T0→St:=fun (v0,v1,v2,v3,v4,v5)=>⟨37,0,[(1,.c (.int .i64 v0)),(2,.c (.ptr 64000000 0)),(5,.c (.int .i64 v1))],[],[(256000000,.gone),(64000000,.box [.int .i64 v2,.int .i64 v3,.int .i64 v4,.int .i64 v5])]⟩
noncomputable def l0 ( k n:Nat) (v:T0):Option R:=held (loopN cs n b2 (K2 k) (s0 v))
noncomputable def D0 (v:T0):Option R:=lim fun L=>l0 (L 0) (L 1) v
theorem D0_cn (v:T0):Cn late (D0 v) fun L=>l0 (L 0) (L 1) v:=of_lim
def d0 (p0:Y0):Y0:=fun (v0,v1,v2,v3,v4,v5) =>
br (decide (v1 ≤ 64)) (br (!decide (2 = 0)) (br (decide (v0 ≤ wrap .i64 (v5 * wrap .i64 ((wrap .i64 (v1 * wrap .i64 (v1 + 1))).tdiv 2)))) (br (!decide (2 = 0)) (br (!decide (v1 = 0)) (some (min v4 (wrap .i64 ((wrap .i64 (v0 + wrap .i64 (v5 * wrap .i64 ((wrap .i64 (v1 * wrap .i64 (v1 - 1))).tdiv 2)))).tdiv v1)))) none) none) (p0 (v0,wrap .i64 (v1 + 1),v2,v3,v4,v5))) none) (some v4)
theorem d0_cn (k0:Pr E T0 R):∀ v:T0,Cn E (d0 k0.p v) fun i=>d0 (k0.q i) v:=fun (v0,v1,v2,v3,v4,v5)=>(.br (.br (.br (.br (.br .some .none) .none) (k0.h _)) .none) .some)
theorem l0_b ( k m1:Nat):∀ v:T0,run (cs m1) (loopN cs m1) b2 (kLoop cs m1 b2 (K2 k)) (s0 v) = d0 (l0 k m1) v:=fun (v0,v1,v2,v3,v4,v5)=>by kernel_rfl
theorem D0_of (v:T0) {r:R} (h:d0 D0 v = some r):D0 v = some r:=loop_of 1 (fun L n hn=>by show l0 (L 0) (L 1) v = _; rw [hn]; exact (held_eq _).trans ((loopN_succ _ _ _ _ _).trans (l0_b (L 0) n v))) (d0_cn (.mk fun v=>(D0_cn v).re [0,1]) v) h
noncomputable def f (k:Nat):Y:=fun v=>held (runFn cs k Tryz.f169 (sh.args v) (sh.slots v) dec)
noncomputable def F:Y:=lm f
def d (p0:Y0):Y:=fun (v0,v1,v2,v3,v4) =>
p0 (v4,1,v0,v1,v2,v3)
theorem d_cn (k0:Pr E T0 R):∀ v:A,Cn E (d k0.p v) fun i=>d (k0.q i) v:=fun (v0,v1,v2,v3,v4)=>(k0.h _)
theorem f_b (k:Nat):∀ v:A,f k v = d (l0 k k) v:=fun (v0,v1,v2,v3,v4)=>(held_eq _).trans (by kernel_rfl)
theorem F_of (v:A) {r:R} (h:d D0 v = some r):F v = some r:=join_of (fun L=>f_b (L 0) v) (d_cn (.mk fun v=>(D0_cn v).re [0,0]) v) h
noncomputable def spec (k:Nat):List AV→List Slot→Option Ans:=specS sh os (f k)
theorem spec_ok (k:Nat):SpecOk Tryz.prog 169 (spec k):=specS_ok cs_ok Tryz.func169 rfl rfl (fun _ _=>held_eq _) k
end g143
noncomputable def tg143:=tg142.cons 169 g143.spec g143.spec_ok
namespace g144 -- slew_stop
abbrev R:Type:=Int
abbrev A:Type:=Int × Int × Int × Int
abbrev Y:=A→Option R
def lv:List (Nat × List Nat):=[(2000000,[2])]
noncomputable def cs:Nat→Ctx:=ctxOf tis modes tg143.1 lv
theorem cs_ok (n:Nat):CtxOk Tryz.prog (cs n):=ctxOf_ok rfl tis_ok tg143.2 n
def sh:AS:=⟨[(.agg [.int .i64,.int .i64,.int .i64,.int .i64])],[]⟩
def os:OS:=⟨.c (.int .i64),[]⟩
def enc (r:R):Out:=os.enc r
def dec:Out→Option R:=os.dec
noncomputable def b0:Code:=subF [] Tryz.f170
noncomputable def K0 (k:Nat):Kt R:=kTop (cs k) Tryz.f170 dec
noncomputable def f (k:Nat):Y:=fun v=>held (runFn cs k Tryz.f170 (sh.args v) (sh.slots v) dec)
noncomputable def F:Y:=lm f
def d:Y:=fun (v0,v1,v2,v3) =>
br (!decide (v3 = 0)) (br (!decide (2 = 0)) (some (wrap .i64 (wrap .i64 (wrap .i64 ((wrap .i64 (wrap .i64 (v2 + v3) - 1)).tdiv v3) * v2) - wrap .i64 (v3 * wrap .i64 ((wrap .i64 (wrap .i64 ((wrap .i64 (wrap .i64 (v2 + v3) - 1)).tdiv v3) * wrap .i64 (wrap .i64 ((wrap .i64 (wrap .i64 (v2 + v3) - 1)).tdiv v3) - 1))).tdiv 2))))) none) none
theorem d_cn:∀ v:A,Cn E (d v) fun i=>d v:=fun (v0,v1,v2,v3)=>(.br (.br .some .none) .none)
theorem f_b (k:Nat):∀ v:A,f k v = d v:=fun (v0,v1,v2,v3)=>(held_eq _).trans (by kernel_rfl)
theorem F_of (v:A) {r:R} (h:d v = some r):F v = some r:=join_of (fun L=>f_b (L 0) v) (d_cn v) h
noncomputable def spec (k:Nat):List AV→List Slot→Option Ans:=specS sh os (f k)
theorem spec_ok (k:Nat):SpecOk Tryz.prog 170 (spec k):=specS_ok cs_ok Tryz.func170 rfl rfl (fun _ _=>held_eq _) k
end g144
noncomputable def tg144:=tg143.cons 170 g144.spec g144.spec_ok
end Go.Proofs.RPl
