import Derived.Test.YtfkampndpkfcmaaGreatRPn2
import Derived.Test.YtfkampndpkfcmaaGreatProg
namespace Go.Proofs.RPn
open Go Go.Eng Go.Proofs
set_option maxRecDepth 100000
set_option linter.unusedVariables false
variable {ι : Type} {E : Fil ι}
namespace g175 -- plan_From
abbrev R:Type:=Int × List (Int × Int × Int × Int)
abbrev A:Type:=Int × Int × Int × Int × Int × Int × Int × Int × Int × Int × Int × Int × Int × Int × Int × Int × List Int × Int × Int × Int × Int × Int × Int × Int × Int × Int × Int × List (ByteArray × Int) × List (Int × Int × (Int × Int × Int) × Int × Int × Int × Int × Int × Int × Int × Int) × Int × Int × Int × List (List Int)
abbrev Y:=A→Option R
def lv:List (Nat × List Nat):=[(2000000,[8,9])]
noncomputable def cs:Nat→Ctx:=ctxOf tis modes tg174.1 lv
theorem cs_ok (n:Nat):CtxOk Tryz.prog (cs n):=ctxOf_ok rfl tis_ok tg174.2 n
def sh:AS:=⟨[.agg [.int .i64,.int .i64,.int .i64,.int .i64,.int .i64,.int .i64,.int .i64,.int .i64,.int .i64,.int .i64,.int .i64,.int .i64,.int .i64,.int .i64,.int .i64,.int .i64,.frz (.int .i64)],.agg [.int .i64,.int .i64,.int .i64,.int .i64,.int .i64,.int .i64,.int .i64,.int .i64,.int .i64,.int .i64],.agg [.frz y19,.frz y27],.agg [.int .i64,.int .i64,.int .i64,.frz y4]],[]⟩
def os:OS:=⟨.tup [.c (.sl 128000000),.c (.int .i64)],[(.row y8)]⟩
def enc (r:R):Out:=os.enc r
def dec:Out→Option R:=os.dec
noncomputable def b0:Code:=subF [] Tryz.f26
noncomputable def K0 (k:Nat):Kt R:=kTop (cs k) Tryz.f26 dec
noncomputable def f (k:Nat):Y:=fun v=>held (runFn cs k Tryz.f26 (sh.args v) (sh.slots v) dec)
noncomputable def F:Y:=lm f
noncomputable def d (p0:g146.Y) (p1:g174.Y):Y:=fun (a,b,e,j,l,m,o,s,t,u,w,x,y,z,B,C,D,G,H,I,J,K,P,N,O,T,S,Q,M,V,X,W,U) =>
bnd (p0 (a,b,e,j,l,m,o,s,t,u,w,x,y,z,B,C,D,G,H,I,J,K,P,N,O,T,S,Q,M)) fun r=>br (!decide (r.2.2.2.2.2.2.2.2.2.2.2.2.2.2.2.2.2.2.2.2.2.2.2.2.2.2.1 = 0)) (some (r.2.2.2.2.2.2.2.2.2.2.2.2.2.2.2.2.2.2.2.2.2.2.2.2.2.2.1,[])) (bnd (p1 (r.1,r.2.1,r.2.2.1,r.2.2.2.1,r.2.2.2.2.1,r.2.2.2.2.2.1,r.2.2.2.2.2.2.1,r.2.2.2.2.2.2.2.1,r.2.2.2.2.2.2.2.2.1,r.2.2.2.2.2.2.2.2.2.1,r.2.2.2.2.2.2.2.2.2.2.1,r.2.2.2.2.2.2.2.2.2.2.2.1,r.2.2.2.2.2.2.2.2.2.2.2.2.1,r.2.2.2.2.2.2.2.2.2.2.2.2.2.1,r.2.2.2.2.2.2.2.2.2.2.2.2.2.2.1,r.2.2.2.2.2.2.2.2.2.2.2.2.2.2.2.1,r.2.2.2.2.2.2.2.2.2.2.2.2.2.2.2.2.1,r.2.2.2.2.2.2.2.2.2.2.2.2.2.2.2.2.2.1,r.2.2.2.2.2.2.2.2.2.2.2.2.2.2.2.2.2.2.1,r.2.2.2.2.2.2.2.2.2.2.2.2.2.2.2.2.2.2.2.1,r.2.2.2.2.2.2.2.2.2.2.2.2.2.2.2.2.2.2.2.2.1,r.2.2.2.2.2.2.2.2.2.2.2.2.2.2.2.2.2.2.2.2.2.1,r.2.2.2.2.2.2.2.2.2.2.2.2.2.2.2.2.2.2.2.2.2.2.1,r.2.2.2.2.2.2.2.2.2.2.2.2.2.2.2.2.2.2.2.2.2.2.2.1,r.2.2.2.2.2.2.2.2.2.2.2.2.2.2.2.2.2.2.2.2.2.2.2.2.1,r.2.2.2.2.2.2.2.2.2.2.2.2.2.2.2.2.2.2.2.2.2.2.2.2.2.1,V,X,W,U,r.2.2.2.2.2.2.2.2.2.2.2.2.2.2.2.2.2.2.2.2.2.2.2.2.2.2.2.1,r.2.2.2.2.2.2.2.2.2.2.2.2.2.2.2.2.2.2.2.2.2.2.2.2.2.2.2.2.1,r.2.2.2.2.2.2.2.2.2.2.2.2.2.2.2.2.2.2.2.2.2.2.2.2.2.2.2.2.2.1,r.2.2.2.2.2.2.2.2.2.2.2.2.2.2.2.2.2.2.2.2.2.2.2.2.2.2.2.2.2.2.1,r.2.2.2.2.2.2.2.2.2.2.2.2.2.2.2.2.2.2.2.2.2.2.2.2.2.2.2.2.2.2.2)) fun r=>some (r.1,r.2.2.2.2.2.2))
theorem d_cn (k0:Pr E g146.A g146.R) (k1:Pr E g174.A g174.R):∀ v:A,Cn E (d k0.p k1.p v) fun i=>d (k0.q i) (k1.q i) v:=fun (a,b,e,j,l,m,o,s,t,u,w,x,y,z,B,C,D,G,H,I,J,K,P,N,O,T,S,Q,M,V,X,W,U)=>(.bnd (k0.h _) fun _=>(.br .some (.bnd (k1.h _) fun _=>.some)))
theorem f_b (k:Nat):∀ v:A,f k v = d (g146.f k) (g174.f k) v:=fun (a,b,e,j,l,m,o,s,t,u,w,x,y,z,B,C,D,G,H,I,J,K,P,N,O,T,S,Q,M,V,X,W,U)=>(held_eq _).trans (by kernel_rfl)
theorem F_of (v:A) {r:R} (h:d g146.F g174.F v = some r):F v = some r:=join_of (fun L=>f_b (L 0) v) (d_cn (lp g146.f 0) (lp g174.f 0) v) h
noncomputable def spec (k:Nat):List AV→List Slot→Option Ans:=specS sh os (f k)
theorem spec_ok (k:Nat):SpecOk Tryz.prog 26 (spec k):=specS_ok cs_ok Tryz.func26 rfl rfl (fun _ _=>held_eq _) k
end g175
noncomputable def tg175:=tg174.cons 26 g175.spec g175.spec_ok
namespace g176 -- plan_Make
abbrev R:Type:=Int × List (Int × Int × Int × Int)
abbrev A:Type:=Int × Int × Int × Int × Int × Int × Int × Int × Int × Int × Int × Int × Int × Int × Int × Int × List Int × Int × Int × Int × Int × Int × Int × Int × Int × Int × Int × List (ByteArray × Int) × List (Int × Int × (Int × Int × Int) × Int × Int × Int × Int × Int × Int × Int × Int)
abbrev Y:=A→Option R
def lv:List (Nat × List Nat):=[(2000000,[6,7])]
noncomputable def cs:Nat→Ctx:=ctxOf tis modes tg175.1 lv
theorem cs_ok (n:Nat):CtxOk Tryz.prog (cs n):=ctxOf_ok rfl tis_ok tg175.2 n
def sh:AS:=⟨[.agg [.int .i64,.int .i64,.int .i64,.int .i64,.int .i64,.int .i64,.int .i64,.int .i64,.int .i64,.int .i64,.int .i64,.int .i64,.int .i64,.int .i64,.int .i64,.int .i64,.frz (.int .i64)],.agg [.int .i64,.int .i64,.int .i64,.int .i64,.int .i64,.int .i64,.int .i64,.int .i64,.int .i64,.int .i64],.agg [.frz y19,.frz y27]],[]⟩
def os:OS:=⟨.tup [.c (.sl 128000000),.c (.int .i64)],[(.row y8)]⟩
def enc (r:R):Out:=os.enc r
def dec:Out→Option R:=os.dec
noncomputable def b0:Code:=subF [] Tryz.f18
noncomputable def K0 (k:Nat):Kt R:=kTop (cs k) Tryz.f18 dec
noncomputable def f (k:Nat):Y:=fun v=>held (runFn cs k Tryz.f18 (sh.args v) (sh.slots v) dec)
noncomputable def F:Y:=lm f
def d (p0:g11.Y) (p1:g175.Y):Y:=fun (a,b,e,j,l,m,o,s,t,u,w,x,y,z,B,C,D,G,H,I,J,K,P,N,O,T,S,Q,M) =>
bnd (p0 (G,H,I,J,K,P,N,O,T,S,Q,M)) fun r=>bnd (p1 (a,b,e,j,l,m,o,s,t,u,w,x,y,z,B,C,D,G,H,I,J,K,P,N,O,T,S,Q,M,r.1,r.2.1,r.2.2.1,r.2.2.2)) fun r=>some (r.1,r.2)
theorem d_cn (k0:Pr E g11.A g11.R) (k1:Pr E g175.A g175.R):∀ v:A,Cn E (d k0.p k1.p v) fun i=>d (k0.q i) (k1.q i) v:=fun (a,b,e,j,l,m,o,s,t,u,w,x,y,z,B,C,D,G,H,I,J,K,P,N,O,T,S,Q,M)=>(.bnd (k0.h _) fun _=>(.bnd (k1.h _) fun _=>.some))
theorem f_b (k:Nat):∀ v:A,f k v = d (g11.f k) (g175.f k) v:=fun (a,b,e,j,l,m,o,s,t,u,w,x,y,z,B,C,D,G,H,I,J,K,P,N,O,T,S,Q,M)=>(held_eq _).trans (by kernel_rfl)
theorem F_of (v:A) {r:R} (h:d g11.F g175.F v = some r):F v = some r:=join_of (fun L=>f_b (L 0) v) (d_cn (lp g11.f 0) (lp g175.f 0) v) h
noncomputable def spec (k:Nat):List AV→List Slot→Option Ans:=specS sh os (f k)
theorem spec_ok (k:Nat):SpecOk Tryz.prog 18 (spec k):=specS_ok cs_ok Tryz.func18 rfl rfl (fun _ _=>held_eq _) k
end g176
noncomputable def tg176:=tg175.cons 18 g176.spec g176.spec_ok
namespace g177 -- spykeep2_plans
abbrev R:Type:=Bool
abbrev A:Type:=Unit
abbrev Y:=A→Option R
def lv:List (Nat × List Nat):=[(2000000,[0])]
noncomputable def cs:Nat→Ctx:=ctxOf tis modes tg176.1 lv
theorem cs_ok (n:Nat):CtxOk Tryz.prog (cs n):=ctxOf_ok rfl tis_ok tg176.2 n
def sh:AS:=⟨[],[]⟩
def os:OS:=⟨.c .bool,[]⟩
def enc (r:R):Out:=os.enc r
def dec:Out→Option R:=os.dec
noncomputable def b0:Code:=subF [] Tryz.f14
noncomputable def K0 (k:Nat):Kt R:=kTop (cs k) Tryz.f14 dec
noncomputable def f (k:Nat):Y:=fun v=>held (runFn cs k Tryz.f14 (sh.args v) (sh.slots v) dec)
noncomputable def F:Y:=lm f
def d (p0:g176.Y):Y:=fun _ =>
bnd (p0 (536870912,0,0,0,50,1,0,600000,2,1,0,-40,1,0,-40,0,[0,0],-8589934592,8589934592,1073741824,1073741824,-8589934592,8589934592,1073741824,1073741824,0,0,[(bs1,1)],[(4,0,(1,0,40),1,1,0,0,0,1073741824,0,1)])) fun r=>br (!(decide (r.1 = 0) && decide ((↑r.2.length:Int) = 1)) == true || decide ((0:Int) ≤ 0 ∧ 0 < (↑r.2.length:Int))) (br (!(decide (r.1 = 0) && decide ((↑r.2.length:Int) = 1) && decide ((rd ty2 r.2 0).1 = 4)) == true || decide ((0:Int) ≤ 0 ∧ 0 < (↑r.2.length:Int))) (some (decide (r.1 = 0) && decide ((↑r.2.length:Int) = 1) && decide ((rd ty2 r.2 0).1 = 4) && decide ((rd ty2 r.2 0).2.2.2 = 1))) none) none
theorem d_cn (k0:Pr E g176.A g176.R):∀ v:A,Cn E (d k0.p v) fun i=>d (k0.q i) v:=fun _=>(.bnd (k0.h _) fun _=>(.br (.br .some .none) .none))
theorem f_b (k:Nat):∀ v:A,f k v = d (g176.f k) v:=fun _=>(held_eq _).trans (by kernel_rfl)
theorem F_of (v:A) {r:R} (h:d g176.F v = some r):F v = some r:=join_of (fun L=>f_b (L 0) v) (d_cn (lp g176.f 0) v) h
noncomputable def spec (k:Nat):List AV→List Slot→Option Ans:=specS sh os (f k)
theorem spec_ok (k:Nat):SpecOk Tryz.prog 14 (spec k):=specS_ok cs_ok Tryz.func14 rfl rfl (fun _ _=>held_eq _) k
end g177
noncomputable def tg177:=tg176.cons 14 g177.spec g177.spec_ok
namespace g178 -- spykeep2_made_plan
abbrev R:Type:=Bool × Int × Int × Int × Int × Int × Int × Int × Int × Int × Int × Int × Int × Int × Int × Int × Int × Int × Int × Int × Int × Int × Int × Int × Int × Int × Int × List Int × Int × List Int × List (ByteArray × Int) × List (Int × Int × (Int × Int × Int) × Int × Int × Int × Int × Int × Int × Int × Int) × List (Int × Int × Int × Int) × List Int × List (ByteArray × Int) × List (Int × Int × (Int × Int × Int) × Int × Int × Int × Int × Int × Int × Int × Int) × List (Int × Int × Int × Int)
abbrev A:Type:=Int × Int × Int × Int × Int × Int × Int × Int × Int × Int × Int × Int × Int × Int × Int × Int × Int × Int × Int × Int × Int × Int × Int × Int × Int × Int × Int × Int × List Int × Int × List Int × List (ByteArray × Int) × List (Int × Int × (Int × Int × Int) × Int × Int × Int × Int × Int × Int × Int × Int) × List (Int × Int × Int × Int)
abbrev Y:=A→Option R
def lv:List (Nat × List Nat):=[(2000000,[8])]
noncomputable def cs:Nat→Ctx:=ctxOf tis modes tg177.1 lv
theorem cs_ok (n:Nat):CtxOk Tryz.prog (cs n):=ctxOf_ok rfl tis_ok tg177.2 n
noncomputable def sh:AS:=⟨[.c (.ptr 128000000 0),.c (.ptr 128000001 0),.c (.int .i64),.c (.int .i64)],[.box [.int .i64,.int .i64,.int .i64,.int .i64,.int .i64,.int .i64,.int .i64,.int .i64,.int .i64,.int .i64,.int .i64,.int .i64,.int .i64,.int .i64,.int .i64,.int .i64,.sl 128000002,.int .i64,.int .i64,.int .i64,.int .i64,.int .i64,.int .i64,.int .i64,.int .i64,.int .i64,.int .i64,.sl 128000003,.sl 128000004,.sl 128000005],.box [.frz (.int .i64),.int .i64],.row (.int .i64),.row y19,.row y27,.row y8]⟩
def os:OS:=⟨.c .bool,[.box [.int .i64,.int .i64,.int .i64,.int .i64,.int .i64,.int .i64,.int .i64,.int .i64,.int .i64,.int .i64,.int .i64,.int .i64,.int .i64,.int .i64,.int .i64,.int .i64,.sl 128000006,.int .i64,.int .i64,.int .i64,.int .i64,.int .i64,.int .i64,.int .i64,.int .i64,.int .i64,.int .i64,.sl 128000007,.sl 128000008,.sl 128000009],.box [.frz (.int .i64),.int .i64],.row (.int .i64),.row y19,.row y27,.row y8,.row (.int .i64),.row y19,.row y27,.row y8]⟩
def enc (r:R):Out:=os.enc r
def dec:Out→Option R:=os.dec
noncomputable def b0:Code:=subF [] Tryz.f19
noncomputable def K0 (k:Nat):Kt R:=kTop (cs k) Tryz.f19 dec
noncomputable def f (k:Nat):Y:=fun v=>held (runFn cs k Tryz.f19 (sh.args v) (sh.slots v) dec)
noncomputable def F:Y:=lm f
noncomputable def d (p0:g4.Y) (p1:g7.Y) (p2:g10.Y) (p3:g176.Y) (p4:g177.Y):Y:=fun (a,b,e,j,l,m,o,s,t,u,w,x,y,z,B,C,D,G,H,I,J,K,P,N,O,T,S,Q,M,V,X,W,U,aa) =>
bnd (p0 (a,M,V)) fun r=>bnd (p1 (r.2.2.2.2.2.2.2.2.2.2.2.2.2.2.2.2.1,r.2.2.2.2.2.2.2.2.2.2.2.2.2.2.2.2.2.1)) fun r_1=>bnd (p2 (r.1,r.2.1,r.2.2.1,r.2.2.2.1,r.2.2.2.2.1,r.2.2.2.2.2.1,r.2.2.2.2.2.2.1,r.2.2.2.2.2.2.2.1,r.2.2.2.2.2.2.2.2.1,r.2.2.2.2.2.2.2.2.2.1,r.2.2.2.2.2.2.2.2.2.2.1,r.2.2.2.2.2.2.2.2.2.2.2.1,r.2.2.2.2.2.2.2.2.2.2.2.2.1,r.2.2.2.2.2.2.2.2.2.2.2.2.2.1,r.2.2.2.2.2.2.2.2.2.2.2.2.2.2.1,r.2.2.2.2.2.2.2.2.2.2.2.2.2.2.2.1,b,r_1.2.2.2.2.2.2.2.2.2.2.1,r_1.2.2.2.2.2.2.2.2.2.2.2)) fun r_2=>bnd (p3 (r.1,r.2.1,r.2.2.1,r.2.2.2.1,r.2.2.2.2.1,r.2.2.2.2.2.1,r.2.2.2.2.2.2.1,r.2.2.2.2.2.2.2.1,r.2.2.2.2.2.2.2.2.1,r.2.2.2.2.2.2.2.2.2.1,r.2.2.2.2.2.2.2.2.2.2.1,r.2.2.2.2.2.2.2.2.2.2.2.1,r.2.2.2.2.2.2.2.2.2.2.2.2.1,r.2.2.2.2.2.2.2.2.2.2.2.2.2.1,r.2.2.2.2.2.2.2.2.2.2.2.2.2.2.1,r.2.2.2.2.2.2.2.2.2.2.2.2.2.2.2.1,r.2.2.2.2.2.2.2.2.2.2.2.2.2.2.2.2.2.2,r_1.1,r_1.2.1,r_1.2.2.1,r_1.2.2.2.1,r_1.2.2.2.2.1,r_1.2.2.2.2.2.1,r_1.2.2.2.2.2.2.1,r_1.2.2.2.2.2.2.2.1,r_1.2.2.2.2.2.2.2.2.1,r_1.2.2.2.2.2.2.2.2.2.1,r_2.2.2.1,r_2.2.2.2)) fun r_3=>bnd (p4 ()) fun r_4=>some (r_4 && decide (r_3.1 = 0),r.1,r.2.1,r.2.2.1,r.2.2.2.1,r.2.2.2.2.1,r.2.2.2.2.2.1,r.2.2.2.2.2.2.1,r.2.2.2.2.2.2.2.1,r.2.2.2.2.2.2.2.2.1,r.2.2.2.2.2.2.2.2.2.1,r.2.2.2.2.2.2.2.2.2.2.1,r.2.2.2.2.2.2.2.2.2.2.2.1,r.2.2.2.2.2.2.2.2.2.2.2.2.1,r.2.2.2.2.2.2.2.2.2.2.2.2.2.1,r.2.2.2.2.2.2.2.2.2.2.2.2.2.2.1,r.2.2.2.2.2.2.2.2.2.2.2.2.2.2.2.1,r_1.1,r_1.2.1,r_1.2.2.1,r_1.2.2.2.1,r_1.2.2.2.2.1,r_1.2.2.2.2.2.1,r_1.2.2.2.2.2.2.1,r_1.2.2.2.2.2.2.2.1,r_1.2.2.2.2.2.2.2.2.1,r_1.2.2.2.2.2.2.2.2.2.1,r_2.1,r_2.2.1,X,W,U,aa,r.2.2.2.2.2.2.2.2.2.2.2.2.2.2.2.2.2.2,r_2.2.2.1,r_2.2.2.2,r_3.2)
theorem d_cn (k0:Pr E g4.A g4.R) (k1:Pr E g7.A g7.R) (k2:Pr E g10.A g10.R) (k3:Pr E g176.A g176.R) (k4:Pr E g177.A g177.R):∀ v:A,Cn E (d k0.p k1.p k2.p k3.p k4.p v) fun i=>d (k0.q i) (k1.q i) (k2.q i) (k3.q i) (k4.q i) v:=fun (a,b,e,j,l,m,o,s,t,u,w,x,y,z,B,C,D,G,H,I,J,K,P,N,O,T,S,Q,M,V,X,W,U,aa)=>(.bnd (k0.h _) fun _=>(.bnd (k1.h _) fun _=>(.bnd (k2.h _) fun _=>(.bnd (k3.h _) fun _=>(.bnd (k4.h _) fun _=>.some)))))
theorem f_b (k:Nat):∀ v:A,f k v = d (g4.f k) (g7.f k) (g10.f k) (g176.f k) (g177.f k) v:=fun (a,b,e,j,l,m,o,s,t,u,w,x,y,z,B,C,D,G,H,I,J,K,P,N,O,T,S,Q,M,V,X,W,U,aa)=>(held_eq _).trans (by kernel_rfl)
theorem F_of (v:A) {r:R} (h:d g4.F g7.F g10.F g176.F g177.F v = some r):F v = some r:=join_of (fun L=>f_b (L 0) v) (d_cn (lp g4.f 0) (lp g7.f 0) (lp g10.f 0) (lp g176.f 0) (lp g177.f 0) v) h
noncomputable def spec (k:Nat):List AV→List Slot→Option Ans:=specS sh os (f k)
theorem spec_ok (k:Nat):SpecOk Tryz.prog 19 (spec k):=specS_ok cs_ok Tryz.func19 rfl rfl (fun _ _=>held_eq _) k
end g178
noncomputable def tg178:=tg177.cons 19 g178.spec g178.spec_ok
namespace g179 -- spykeep2_copyOf
abbrev R:Type:=List (ByteArray × Int) × List (Int × Int × (Int × Int × Int) × Int × Int × Int × Int × Int × Int × Int × Int)
abbrev A:Type:=List (ByteArray × Int) × List (Int × Int × (Int × Int × Int) × Int × Int × Int × Int × Int × Int × Int × Int)
abbrev Y:=A→Option R
def lv:List (Nat × List Nat):=[(2000000,[2])]
noncomputable def cs:Nat→Ctx:=ctxOf tis modes tg178.1 lv
theorem cs_ok (n:Nat):CtxOk Tryz.prog (cs n):=ctxOf_ok rfl tis_ok tg178.2 n
def sh:AS:=⟨[(.agg [.frz y19,.frz y27])],[]⟩
def os:OS:=⟨.agg [.sl 128000000,.sl 128000001],[.row y19,.row y27]⟩
def enc (r:R):Out:=os.enc r
def dec:Out→Option R:=os.dec
noncomputable def b0:Code:=subF [] Tryz.f21
noncomputable def K0 (k:Nat):Kt R:=kTop (cs k) Tryz.f21 dec
noncomputable def f (k:Nat):Y:=fun v=>held (runFn cs k Tryz.f21 (sh.args v) (sh.slots v) dec)
noncomputable def F:Y:=lm f
def d (p0:g45.Y) (p1:g46.Y):Y:=fun (a,b) =>
bnd (p0 a) fun r=>bnd (p1 b) fun r_1=>some (r,r_1)
theorem d_cn (k0:Pr E g45.A g45.R) (k1:Pr E g46.A g46.R):∀ v:A,Cn E (d k0.p k1.p v) fun i=>d (k0.q i) (k1.q i) v:=fun (a,b)=>(.bnd (k0.h _) fun _=>(.bnd (k1.h _) fun _=>.some))
theorem f_b (k:Nat):∀ v:A,f k v = d (g45.f k) (g46.f k) v:=fun (a,b)=>(held_eq _).trans (by kernel_rfl)
theorem F_of (v:A) {r:R} (h:d g45.F g46.F v = some r):F v = some r:=join_of (fun L=>f_b (L 0) v) (d_cn (lp g45.f 0) (lp g46.f 0) v) h
noncomputable def spec (k:Nat):List AV→List Slot→Option Ans:=specS sh os (f k)
theorem spec_ok (k:Nat):SpecOk Tryz.prog 21 (spec k):=specS_ok cs_ok Tryz.func21 rfl rfl (fun _ _=>held_eq _) k
end g179
noncomputable def tg179:=tg178.cons 21 g179.spec g179.spec_ok
namespace g180 -- spykeep2_PlanNames
abbrev R:Type:=Bool
abbrev A:Type:=List Int × Int
abbrev Y:=A→Option R
def lv:List (Nat × List Nat):=[(2000000,[4]),(7,[5,6,7,26,27]),(12,[5,6,7,43,44]),(20,[5,6,78,79,80])]
noncomputable def cs:Nat→Ctx:=ctxOf tis modes tg179.1 lv
theorem cs_ok (n:Nat):CtxOk Tryz.prog (cs n):=ctxOf_ok rfl tis_ok tg179.2 n
def sh:AS:=⟨[.c (.frz (.int .i64)),.c (.int .i64)],[]⟩
def os:OS:=⟨.c .bool,[]⟩
def enc (r:R):Out:=os.enc r
def dec:Out→Option R:=os.dec
noncomputable def b0:Code:=subF [] Tryz.f4
noncomputable def K0 (k:Nat):Kt R:=kTop (cs k) Tryz.f4 dec
noncomputable def b7:Code:=sub [1,1,1,1,1,0,1,0,0] b0
noncomputable def K7 ( k:Nat):Kt R:=kAt (cs k) (loopN cs k) [1,1,1,1,1,0,1,0] b0 (K0 k)
noncomputable def b12:Code:=sub [1,1,1,1,1,1,0,1,0,0] b0
noncomputable def K12 ( k:Nat):Kt R:=kAt (cs k) (loopN cs k) [1,1,1,1,1,1,0,1,0] b0 (K0 k)
noncomputable def b20:Code:=sub [1,1,1,1,1,1,1,1,1,0,1,0,0] b0
noncomputable def K20 ( k:Nat):Kt R:=kAt (cs k) (loopN cs k) [1,1,1,1,1,1,1,1,1,0,1,0] b0 (K0 k)
abbrev T0:Type:=Int × Int × Int × Int × Int × Int × Int × Int × Int × Int × Int × Int × Int × Int × Int × Int × Int × Int × Int × Int × Int × Int × Int × Int × Int × Int × Int × Int × Int × List Int × List (ByteArray × Int) × List (Int × Int × (Int × Int × Int) × Int × Int × Int × Int × Int × Int × Int × Int) × List (Int × Int × Int × Int) × List (ByteArray × Int) × List (Int × Int × (Int × Int × Int) × Int × Int × Int × Int × Int × Int × Int × Int)
abbrev Y0:=T0→Option R
noncomputable def s0:T0→St:=fun (a,b,e,j,l,m,o,s,t,u,w,x,y,z,B,C,D,G,H,I,J,K,P,N,O,T,S,Q,M,V,X,W,U,aa,Z)=>⟨98,0,[(5,.c (.ptr 64000000 0)),(6,.c (.int .i64 a)),(7,.c (.ptr 64000001 0)),(26,.c (.int .i64 b)),(27,.c (.int .i64 e))],[],[(256000000,.gone),(64000000,.box [.int .i64 j,.int .i64 l,.int .i64 m,.int .i64 o,.int .i64 s,.int .i64 t,.int .i64 u,.int .i64 w,.int .i64 x,.int .i64 y,.int .i64 z,.int .i64 B,.int .i64 C,.int .i64 D,.int .i64 G,.int .i64 H,.sl 64000002,.int .i64 I,.int .i64 J,.int .i64 K,.int .i64 P,.int .i64 N,.int .i64 O,.int .i64 T,.int .i64 S,.int .i64 Q,.int .i64 M,.sl 64000003,.sl 64000004,.sl 64000005]),(64000001,.box [.sl 64000006,.sl 64000007]),(64000002,.row (.int .i64) V),(64000003,.row y19 X),(64000004,.row y27 W),(64000005,.row y8 U),(64000006,.row y19 aa),(64000007,.row y27 Z)]⟩
noncomputable def l0 ( k n:Nat) (v:T0):Option R:=held (loopN cs n b7 (K7 k) (s0 v))
noncomputable def D0 (v:T0):Option R:=lim fun L=>l0 (L 0) (L 1) v
theorem D0_cn (v:T0):Cn late (D0 v) fun L=>l0 (L 0) (L 1) v:=of_lim
abbrev T1:Type:=Int × Int × Int × Int × Int × Int × Int × Int × Int × Int × Int × Int × Int × Int × Int × Int × Int × Int × Int × Int × Int × Int × Int × Int × Int × Int × Int × Int × Int × List Int × List (ByteArray × Int) × List (Int × Int × (Int × Int × Int) × Int × Int × Int × Int × Int × Int × Int × Int) × List (Int × Int × Int × Int) × List (ByteArray × Int) × List (Int × Int × (Int × Int × Int) × Int × Int × Int × Int × Int × Int × Int × Int)
abbrev Y1:=T1→Option R
noncomputable def s1:T1→St:=fun (a,b,e,j,l,m,o,s,t,u,w,x,y,z,B,C,D,G,H,I,J,K,P,N,O,T,S,Q,M,V,X,W,U,aa,Z)=>⟨98,0,[(5,.c (.ptr 64000000 0)),(6,.c (.int .i64 a)),(7,.c (.ptr 64000001 0)),(43,.c (.int .i64 b)),(44,.c (.int .i64 e))],[],[(256000000,.gone),(64000000,.box [.int .i64 j,.int .i64 l,.int .i64 m,.int .i64 o,.int .i64 s,.int .i64 t,.int .i64 u,.int .i64 w,.int .i64 x,.int .i64 y,.int .i64 z,.int .i64 B,.int .i64 C,.int .i64 D,.int .i64 G,.int .i64 H,.sl 64000002,.int .i64 I,.int .i64 J,.int .i64 K,.int .i64 P,.int .i64 N,.int .i64 O,.int .i64 T,.int .i64 S,.int .i64 Q,.int .i64 M,.sl 64000003,.sl 64000004,.sl 64000005]),(64000001,.box [.sl 64000006,.sl 64000007]),(64000002,.row (.int .i64) V),(64000003,.row y19 X),(64000004,.row y27 W),(64000005,.row y8 U),(64000006,.row y19 aa),(64000007,.row y27 Z)]⟩
noncomputable def l1 ( k n:Nat) (v:T1):Option R:=held (loopN cs n b12 (K12 k) (s1 v))
noncomputable def D1 (v:T1):Option R:=lim fun L=>l1 (L 0) (L 1) v
theorem D1_cn (v:T1):Cn late (D1 v) fun L=>l1 (L 0) (L 1) v:=of_lim
abbrev T2:Type:=Int × Int × Int × Int × Int × Int × Int × Int × Int × Int × Int × Int × Int × Int × Int × Int × Int × Int × Int × Int × Int × Int × Int × Int × Int × Int × Int × Int × Int × List (Int × Int × Int × Int) × List Int × List (ByteArray × Int) × List (Int × Int × (Int × Int × Int) × Int × Int × Int × Int × Int × Int × Int × Int) × List (Int × Int × Int × Int)
abbrev Y2:=T2→Option R
noncomputable def s2:T2→St:=fun (a,b,e,j,l,m,o,s,t,u,w,x,y,z,B,C,D,G,H,I,J,K,P,N,O,T,S,Q,M,V,X,W,U,aa)=>⟨98,0,[(5,.c (.ptr 64000000 0)),(6,.c (.int .i64 a)),(78,.c (.sl 64000001)),(79,.c (.int .i64 b)),(80,.c (.int .i64 e))],[],[(256000000,.gone),(64000000,.box [.int .i64 j,.int .i64 l,.int .i64 m,.int .i64 o,.int .i64 s,.int .i64 t,.int .i64 u,.int .i64 w,.int .i64 x,.int .i64 y,.int .i64 z,.int .i64 B,.int .i64 C,.int .i64 D,.int .i64 G,.int .i64 H,.sl 64000002,.int .i64 I,.int .i64 J,.int .i64 K,.int .i64 P,.int .i64 N,.int .i64 O,.int .i64 T,.int .i64 S,.int .i64 Q,.int .i64 M,.sl 64000003,.sl 64000004,.sl 64000005]),(64000001,.row y8 V),(64000002,.row (.int .i64) X),(64000003,.row y19 W),(64000004,.row y27 U),(64000005,.row y8 aa)]⟩
noncomputable def l2 ( k n:Nat) (v:T2):Option R:=held (loopN cs n b20 (K20 k) (s2 v))
noncomputable def D2 (v:T2):Option R:=lim fun L=>l2 (L 0) (L 1) v
theorem D2_cn (v:T2):Cn late (D2 v) fun L=>l2 (L 0) (L 1) v:=of_lim
noncomputable def d0 (p0:Y0) (p1:Y1):Y0:=fun (a,b,e,j,l,m,o,s,t,u,w,x,y,z,B,C,D,G,H,I,J,K,P,N,O,T,S,Q,M,V,X,W,U,aa,Z) =>
br (decide (e < b)) (br (decide (0 ≤ e ∧ e < (↑Z.length:Int))) (br (decide (0 ≤ e ∧ e < (↑Z.length:Int))) (p0 (a,b,wrap .i64 (e + 1),j,l,m,o,s,t,u,w,x,y,z,B,C,D,G,H,I,J,K,P,N,O,T,S,Q,M,V,X,W,U,aa,Z.set e.toNat (wrap .i64 ((rd ty0 Z e).1 + a),(rd ty0 Z e).2.1,((rd ty0 Z e).2.2.1.1,(rd ty0 Z e).2.2.1.2.1,(rd ty0 Z e).2.2.1.2.2),(rd ty0 Z e).2.2.2.1,(rd ty0 Z e).2.2.2.2.1,(rd ty0 Z e).2.2.2.2.2.1,(rd ty0 Z e).2.2.2.2.2.2.1,(rd ty0 Z e).2.2.2.2.2.2.2.1,(rd ty0 Z e).2.2.2.2.2.2.2.2.1,(rd ty0 Z e).2.2.2.2.2.2.2.2.2.1,(rd ty0 Z e).2.2.2.2.2.2.2.2.2.2))) none) none) (p1 (a,(↑aa.length:Int),0,j,l,m,o,s,t,u,w,x,y,z,B,C,D,G,H,I,J,K,P,N,O,T,S,Q,M,V,X,W,U,aa,Z))
theorem d0_cn (k0:Pr E T0 R) (k1:Pr E T1 R):∀ v:T0,Cn E (d0 k0.p k1.p v) fun i=>d0 (k0.q i) (k1.q i) v:=fun (a,b,e,j,l,m,o,s,t,u,w,x,y,z,B,C,D,G,H,I,J,K,P,N,O,T,S,Q,M,V,X,W,U,aa,Z)=>(.br (.br (.br (k0.h _) .none) .none) (k1.h _))
theorem l0_b ( k m1:Nat):∀ v:T0,run (cs m1) (loopN cs m1) b7 (kLoop cs m1 b7 (K7 k)) (s0 v) = d0 (l0 k m1) (l1 k k) v:=fun (a,b,e,j,l,m,o,s,t,u,w,x,y,z,B,C,D,G,H,I,J,K,P,N,O,T,S,Q,M,V,X,W,U,aa,Z)=>by kernel_rfl
theorem D0_of (v:T0) {r:R} (h:d0 D0 D1 v = some r):D0 v = some r:=loop_of 1 (fun L n hn=>by show l0 (L 0) (L 1) v = _; rw [hn]; exact (held_eq _).trans ((loopN_succ _ _ _ _ _).trans (l0_b (L 0) n v))) (d0_cn (.mk fun v=>(D0_cn v).re [0,1]) (.mk fun v=>(D1_cn v).re [0,0]) v) h
noncomputable def d1 (p0:Y1) (p1:g176.Y) (p2:Y2):Y1:=fun (a,b,e,j,l,m,o,s,t,u,w,x,y,z,B,C,D,G,H,I,J,K,P,N,O,T,S,Q,M,V,X,W,U,aa,Z) =>
br (decide (e < b)) (br (decide (bs3.size + (bytesStr [wrap .u8 (wrap .i64 (48 + e))]).size < 9223372036854775807)) (br (decide (0 ≤ e ∧ e < (↑aa.length:Int))) (p0 (a,b,wrap .i64 (e + 1),j,l,m,o,s,t,u,w,x,y,z,B,C,D,G,H,I,J,K,P,N,O,T,S,Q,M,V,X,W,U,aa.set e.toNat (bs3 ++ bytesStr [wrap .u8 (wrap .i64 (48 + e))],(rd (Ty.str.pair (Ty.int .i64)) aa e).2),Z)) none) none) (bnd (p1 (j,l,m,o,s,t,u,w,x,y,z,B,C,D,G,H,V,I,J,K,P,N,O,T,S,Q,M,aa,Z)) fun r=>br (!decide (r.1 = 0) || !decide ((↑r.2.length:Int) = (↑U.length:Int))) (some false) (p2 (a,(↑r.2.length:Int),0,j,l,m,o,s,t,u,w,x,y,z,B,C,D,G,H,I,J,K,P,N,O,T,S,Q,M,r.2,V,X,W,U)))
theorem d1_cn (k0:Pr E T1 R) (k1:Pr E g176.A g176.R) (k2:Pr E T2 R):∀ v:T1,Cn E (d1 k0.p k1.p k2.p v) fun i=>d1 (k0.q i) (k1.q i) (k2.q i) v:=fun (a,b,e,j,l,m,o,s,t,u,w,x,y,z,B,C,D,G,H,I,J,K,P,N,O,T,S,Q,M,V,X,W,U,aa,Z)=>(.br (.br (.br (k0.h _) .none) .none) (.bnd (k1.h _) fun _=>(.br .some (k2.h _))))
theorem l1_b ( k m1:Nat):∀ v:T1,run (cs m1) (loopN cs m1) b12 (kLoop cs m1 b12 (K12 k)) (s1 v) = d1 (l1 k m1) (g176.f k) (l2 k k) v:=fun (a,b,e,j,l,m,o,s,t,u,w,x,y,z,B,C,D,G,H,I,J,K,P,N,O,T,S,Q,M,V,X,W,U,aa,Z)=>by kernel_rfl
theorem D1_of (v:T1) {r:R} (h:d1 D1 g176.F D2 v = some r):D1 v = some r:=loop_of 1 (fun L n hn=>by show l1 (L 0) (L 1) v = _; rw [hn]; exact (held_eq _).trans ((loopN_succ _ _ _ _ _).trans (l1_b (L 0) n v))) (d1_cn (.mk fun v=>(D1_cn v).re [0,1]) (lp g176.f 0) (.mk fun v=>(D2_cn v).re [0,0]) v) h
noncomputable def d2 (p0:Y2):Y2:=fun (a,b,e,j,l,m,o,s,t,u,w,x,y,z,B,C,D,G,H,I,J,K,P,N,O,T,S,Q,M,V,X,W,U,aa) =>
br (decide (e < b)) (br (decide (0 ≤ e ∧ e < (↑V.length:Int))) (br (decide (0 ≤ e ∧ e < (↑aa.length:Int))) (br (!(decide (wrap .i64 ((rd ty2 V e).1 - a) = (rd ty2 aa e).1) && (decide ((rd ty2 V e).2.1 = (rd ty2 aa e).2.1) && (decide ((rd ty2 V e).2.2.1 = (rd ty2 aa e).2.2.1) && (decide ((rd ty2 V e).2.2.2 = (rd ty2 aa e).2.2.2) && true))))) (some false) (p0 (a,b,wrap .i64 (e + 1),j,l,m,o,s,t,u,w,x,y,z,B,C,D,G,H,I,J,K,P,N,O,T,S,Q,M,V,X,W,U,aa))) none) none) (some true)
theorem d2_cn (k0:Pr E T2 R):∀ v:T2,Cn E (d2 k0.p v) fun i=>d2 (k0.q i) v:=fun (a,b,e,j,l,m,o,s,t,u,w,x,y,z,B,C,D,G,H,I,J,K,P,N,O,T,S,Q,M,V,X,W,U,aa)=>(.br (.br (.br (.br .some (k0.h _)) .none) .none) .some)
theorem l2_b ( k m1:Nat):∀ v:T2,run (cs m1) (loopN cs m1) b20 (kLoop cs m1 b20 (K20 k)) (s2 v) = d2 (l2 k m1) v:=fun (a,b,e,j,l,m,o,s,t,u,w,x,y,z,B,C,D,G,H,I,J,K,P,N,O,T,S,Q,M,V,X,W,U,aa)=>by kernel_rfl
theorem D2_of (v:T2) {r:R} (h:d2 D2 v = some r):D2 v = some r:=loop_of 1 (fun L n hn=>by show l2 (L 0) (L 1) v = _; rw [hn]; exact (held_eq _).trans ((loopN_succ _ _ _ _ _).trans (l2_b (L 0) n v))) (d2_cn (.mk fun v=>(D2_cn v).re [0,1]) v) h
noncomputable def f (k:Nat):Y:=fun v=>held (runFn cs k Tryz.f4 (sh.args v) (sh.slots v) dec)
noncomputable def F:Y:=lm f
noncomputable def d (p0:g178.Y) (p1:g0.Y) (p2:g179.Y) (p3:Y0):Y:=fun (a,b) =>
bnd (p0 (16,5,0,0,0,0,0,0,0,0,0,0,0,0,0,0,0,0,0,0,0,0,0,0,0,0,0,0,a,0,[],[],[],[])) fun r=>br (!r.1) (some false) (bnd (p1 (b,1000)) fun r_1=>bnd (p2 (r.2.2.2.2.2.2.2.2.2.2.2.2.2.2.2.2.2.2.2.2.2.2.2.2.2.2.2.2.2.2.2.2.2.2.1,r.2.2.2.2.2.2.2.2.2.2.2.2.2.2.2.2.2.2.2.2.2.2.2.2.2.2.2.2.2.2.2.2.2.2.2.1)) fun r_2=>p3 (r_1,(↑r_2.2.length:Int),0,r.2.1,r.2.2.1,r.2.2.2.1,r.2.2.2.2.1,r.2.2.2.2.2.1,r.2.2.2.2.2.2.1,r.2.2.2.2.2.2.2.1,r.2.2.2.2.2.2.2.2.1,r.2.2.2.2.2.2.2.2.2.1,r.2.2.2.2.2.2.2.2.2.2.1,r.2.2.2.2.2.2.2.2.2.2.2.1,r.2.2.2.2.2.2.2.2.2.2.2.2.1,r.2.2.2.2.2.2.2.2.2.2.2.2.2.1,r.2.2.2.2.2.2.2.2.2.2.2.2.2.2.1,r.2.2.2.2.2.2.2.2.2.2.2.2.2.2.2.1,r.2.2.2.2.2.2.2.2.2.2.2.2.2.2.2.2.1,r.2.2.2.2.2.2.2.2.2.2.2.2.2.2.2.2.2.1,r.2.2.2.2.2.2.2.2.2.2.2.2.2.2.2.2.2.2.1,r.2.2.2.2.2.2.2.2.2.2.2.2.2.2.2.2.2.2.2.1,r.2.2.2.2.2.2.2.2.2.2.2.2.2.2.2.2.2.2.2.2.1,r.2.2.2.2.2.2.2.2.2.2.2.2.2.2.2.2.2.2.2.2.2.1,r.2.2.2.2.2.2.2.2.2.2.2.2.2.2.2.2.2.2.2.2.2.2.1,r.2.2.2.2.2.2.2.2.2.2.2.2.2.2.2.2.2.2.2.2.2.2.2.1,r.2.2.2.2.2.2.2.2.2.2.2.2.2.2.2.2.2.2.2.2.2.2.2.2.1,r.2.2.2.2.2.2.2.2.2.2.2.2.2.2.2.2.2.2.2.2.2.2.2.2.2.1,r.2.2.2.2.2.2.2.2.2.2.2.2.2.2.2.2.2.2.2.2.2.2.2.2.2.2.1,r.2.2.2.2.2.2.2.2.2.2.2.2.2.2.2.2.2.2.2.2.2.2.2.2.2.2.2.2.2.2.2.2.2.1,r.2.2.2.2.2.2.2.2.2.2.2.2.2.2.2.2.2.2.2.2.2.2.2.2.2.2.2.2.2.2.2.2.2.2.1,r.2.2.2.2.2.2.2.2.2.2.2.2.2.2.2.2.2.2.2.2.2.2.2.2.2.2.2.2.2.2.2.2.2.2.2.1,r.2.2.2.2.2.2.2.2.2.2.2.2.2.2.2.2.2.2.2.2.2.2.2.2.2.2.2.2.2.2.2.2.2.2.2.2,r_2.1,r_2.2))
theorem d_cn (k0:Pr E g178.A g178.R) (k1:Pr E g0.A g0.R) (k2:Pr E g179.A g179.R) (k3:Pr E T0 R):∀ v:A,Cn E (d k0.p k1.p k2.p k3.p v) fun i=>d (k0.q i) (k1.q i) (k2.q i) (k3.q i) v:=fun (a,b)=>(.bnd (k0.h _) fun _=>(.br .some (.bnd (k1.h _) fun _=>(.bnd (k2.h _) fun _=>(k3.h _)))))
theorem f_b (k:Nat):∀ v:A,f k v = d (g178.f k) (g0.f k) (g179.f k) (l0 k k) v:=fun (a,b)=>(held_eq _).trans (by kernel_rfl)
theorem F_of (v:A) {r:R} (h:d g178.F g0.F g179.F D0 v = some r):F v = some r:=join_of (fun L=>f_b (L 0) v) (d_cn (lp g178.f 0) (lp g0.f 0) (lp g179.f 0) (.mk fun v=>(D0_cn v).re [0,0]) v) h
noncomputable def spec (k:Nat):List AV→List Slot→Option Ans:=specS sh os (f k)
theorem spec_ok (k:Nat):SpecOk Tryz.prog 4 (spec k):=specS_ok cs_ok Tryz.func4 rfl rfl (fun _ _=>held_eq _) k
end g180
noncomputable def tg180:=tg179.cons 4 g180.spec g180.spec_ok
end Go.Proofs.RPn
