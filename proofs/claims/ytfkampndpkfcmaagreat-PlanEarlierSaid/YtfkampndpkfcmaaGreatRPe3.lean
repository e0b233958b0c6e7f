import Derived.Test.YtfkampndpkfcmaaGreatRPe2
import Derived.Test.YtfkampndpkfcmaaGreatProg
namespace Go.Proofs.RPe
open Go Go.Eng Go.Proofs
set_option maxRecDepth 100000
set_option linter.unusedVariables false
variable {ι : Type} {E : Fil ι}
namespace g180 -- plan_Desk_After
abbrev R:Type:=Int × Int × Int × Int × List (List Int)
abbrev A:Type:=Int × Int × Int × Int × Int × Int × Int × Int × Int × Int × Int × Int × Int × Int × Int × Int × List Int × Int × Int × Int × Int × Int × Int × Int × Int × Int × Int × List (ByteArray × Int) × List (Int × Int × (Int × Int × Int) × Int × Int × Int × Int × Int × Int × Int × Int) × List (List Int) × List (List (Int × Int)) × List (Int × Int × Int × Int)
abbrev Y:=A→Option R
def lv:List (Nat × List Nat):=[(2000000,[4,5]),(8,[2,4,6,31,32,33])]
noncomputable def cs:Nat→Ctx:=ctxOf tis modes tg179.1 lv
theorem cs_ok (n:Nat):CtxOk Tryz.prog (cs n):=ctxOf_ok rfl tis_ok tg179.2 n
def sh:AS:=⟨[.agg [.int .i64,.int .i64,.int .i64,.int .i64,.int .i64,.int .i64,.int .i64,.int .i64,.int .i64,.int .i64,.int .i64,.int .i64,.int .i64,.int .i64,.int .i64,.int .i64,.frz (.int .i64),.int .i64,.int .i64,.int .i64,.int .i64,.int .i64,.int .i64,.int .i64,.int .i64,.int .i64,.int .i64,.frz y19,.frz y27,.frz y4,.frz y38],.c (.frz y8)],[]⟩
def os:OS:=⟨.tup [.agg [.int .i64,.int .i64,.int .i64,.sl 128000000],.c (.int .i64)],[(.nest y4)]⟩
def enc (r:R):Out:=os.enc r
def dec:Out→Option R:=os.dec
noncomputable def b0:Code:=subF [] Tryz.f55
noncomputable def K0 (k:Nat):Kt R:=kTop (cs k) Tryz.f55 dec
noncomputable def b8:Code:=sub [1,1,1,1,0,1,0,0] b0
noncomputable def K8 ( k:Nat):Kt R:=kAt (cs k) (loopN cs k) [1,1,1,1,0,1,0] b0 (K0 k)
abbrev T0:Type:=List (Int × Int × Int × Int) × Int × Int × Int × Int × Int × Int × Int × Int × Int × Int × Int × Int × Int × Int × Int × Int × Int × Int × List Int × Int × Int × Int × Int × Int × Int × Int × Int × Int × Int × List (ByteArray × Int) × List (Int × Int × (Int × Int × Int) × Int × Int × Int × Int × Int × Int × Int × Int) × List (List Int) × List (List (Int × Int)) × Int × Int × Int × Int × Int × Int × List (List Int) × List (List Int)
abbrev Y0:=T0→Option R
noncomputable def s0:T0→St:=fun (a,b,e,j,l,m,o,s,t,u,w,x,y,z,B,C,D,G,H,I,J,M,P,N,O,U,T,Q,K,W,X,V,S,aa,Z,ab,ad,ae,ac,af,ag,ah)=>⟨53,0,[(2,.c (.ptr 64000000 0)),(4,.c (.ptr 64000001 0)),(6,.c (.ptr 64000002 0)),(31,.c (.frz y8 a)),(32,.c (.int .i64 b)),(33,.c (.int .i64 e))],[],[(256000000,.gone),(64000000,.box [.int .i64 j,.int .i64 l,.int .i64 m,.int .i64 o,.int .i64 s,.int .i64 t,.int .i64 u,.int .i64 w,.int .i64 x,.int .i64 y,.int .i64 z,.int .i64 B,.int .i64 C,.int .i64 D,.int .i64 G,.int .i64 H,.frz (.int .i64) I,.int .i64 J,.int .i64 M,.int .i64 P,.int .i64 N,.int .i64 O,.int .i64 U,.int .i64 T,.int .i64 Q,.int .i64 K,.int .i64 W,.frz y19 X,.frz y27 V,.frz y4 S,.frz y38 aa]),(64000001,.box [.int .i64 Z,.int .i64 ab,.int .i64 ad,.sl 64000003]),(64000002,.box [.int .i64 ae,.int .i64 ac,.int .i64 af,.sl 64000004]),(64000003,.nest y4 ag .none),(64000004,.nest y4 ah .none)]⟩
noncomputable def l0 ( k n:Nat) (v:T0):Option R:=held (loopN cs n b8 (K8 k) (s0 v))
noncomputable def D0 (v:T0):Option R:=lim fun L=>l0 (L 0) (L 1) v
theorem D0_cn (v:T0):Cn late (D0 v) fun L=>l0 (L 0) (L 1) v:=of_lim
noncomputable def d0 (p0:g179.Y) (p1:g173.Y) (p2:Y0):Y0:=fun (a,b,e,j,l,m,o,s,t,u,w,x,y,z,B,C,D,G,H,I,J,M,P,N,O,U,T,Q,K,W,X,V,S,aa,Z,ab,ad,ae,ac,af,ag,ah) =>
br (decide (e < b)) (br (decide (0 ≤ e ∧ e < (↑a.length:Int))) (bnd (p0 (j,l,m,o,s,t,u,w,x,y,z,B,C,D,G,H,I,J,M,P,N,O,U,T,Q,K,W,X,V,S,aa,ae,ac,af,ah,(rd ty2 a e).1,(rd ty2 a e).2.1,(rd ty2 a e).2.2.1,(rd ty2 a e).2.2.2)) fun r=>br (!decide (r.2.2.2.2.2.2 = 0)) (some (0,0,0,r.2.2.2.2.2.2,[])) (bnd (p1 (j,l,m,o,s,t,u,w,x,y,z,B,C,D,G,H,I,J,M,P,N,O,U,T,Q,K,W,X,V,S,aa,r.1,r.2.1,r.2.2.1,r.2.2.2.1,r.2.2.2.2.1,r.2.2.2.2.2.1,ae,ac,af,ah)) fun r=>p2 (a,b,wrap .i64 (e + 1),j,l,m,o,s,t,u,w,x,y,z,B,C,D,G,H,I,J,M,P,N,O,U,T,Q,K,W,X,V,S,aa,Z,ab,ad,r.2.2.2.2.1,r.2.2.2.2.2.1,r.2.2.2.2.2.2.1,ag,r.2.2.2.2.2.2.2))) none) (some (ae,ac,af,0,ah))
theorem d0_cn (k0:Pr E g179.A g179.R) (k1:Pr E g173.A g173.R) (k2:Pr E T0 R):∀ v:T0,Cn E (d0 k0.p k1.p k2.p v) fun i=>d0 (k0.q i) (k1.q i) (k2.q i) v:=fun (a,b,e,j,l,m,o,s,t,u,w,x,y,z,B,C,D,G,H,I,J,M,P,N,O,U,T,Q,K,W,X,V,S,aa,Z,ab,ad,ae,ac,af,ag,ah)=>(.br (.br (.bnd (k0.h _) fun _=>(.br .some (.bnd (k1.h _) fun _=>(k2.h _)))) .none) .some)
theorem l0_b ( k m1:Nat):∀ v:T0,run (cs m1) (loopN cs m1) b8 (kLoop cs m1 b8 (K8 k)) (s0 v) = d0 (g179.f m1) (g173.f m1) (l0 k m1) v:=fun (a,b,e,j,l,m,o,s,t,u,w,x,y,z,B,C,D,G,H,I,J,M,P,N,O,U,T,Q,K,W,X,V,S,aa,Z,ab,ad,ae,ac,af,ag,ah)=>by kernel_rfl
theorem D0_of (v:T0) {r:R} (h:d0 g179.F g173.F D0 v = some r):D0 v = some r:=loop_of 1 (fun L n hn=>by show l0 (L 0) (L 1) v = _; rw [hn]; exact (held_eq _).trans ((loopN_succ _ _ _ _ _).trans (l0_b (L 0) n v))) (d0_cn (lp g179.f 1) (lp g173.f 1) (.mk fun v=>(D0_cn v).re [0,1]) v) h
noncomputable def f (k:Nat):Y:=fun v=>held (runFn cs k Tryz.f55 (sh.args v) (sh.slots v) dec)
noncomputable def F:Y:=lm f
noncomputable def d (p0:g11.Y) (p1:g148.Y) (p2:Y0):Y:=fun (a,b,e,j,l,m,o,s,t,u,w,x,y,z,B,C,D,G,H,I,J,M,P,N,O,U,T,Q,K,W,X,V) =>
bnd (p0 (G,H,I,J,M,P,N,O,U,T,Q,K)) fun r=>bnd (p1 (a,b,e,j,l,m,o,s,t,u,w,x,y,z,B,C,D,G,H,I,J,M,P,N,O,U,T,Q,K,W,X,r.1,r.2.1,r.2.2.1,r.2.2.2)) fun r_1=>br (!decide (r_1 = 0)) (some (0,0,0,r_1,[])) (br (decide (t < (↑V.length:Int))) (some (0,0,0,2,[])) (p2 (V,(↑V.length:Int),0,a,b,e,j,l,m,o,s,t,u,w,x,y,z,B,C,D,G,H,I,J,M,P,N,O,U,T,Q,K,W,X,0,0,0,r.1,r.2.1,r.2.2.1,[],r.2.2.2)))
theorem d_cn (k0:Pr E g11.A g11.R) (k1:Pr E g148.A g148.R) (k2:Pr E T0 R):∀ v:A,Cn E (d k0.p k1.p k2.p v) fun i=>d (k0.q i) (k1.q i) (k2.q i) v:=fun (a,b,e,j,l,m,o,s,t,u,w,x,y,z,B,C,D,G,H,I,J,M,P,N,O,U,T,Q,K,W,X,V)=>(.bnd (k0.h _) fun _=>(.bnd (k1.h _) fun _=>(.br .some (.br .some (k2.h _)))))
theorem f_b (k:Nat):∀ v:A,f k v = d (g11.f k) (g148.f k) (l0 k k) v:=fun (a,b,e,j,l,m,o,s,t,u,w,x,y,z,B,C,D,G,H,I,J,M,P,N,O,U,T,Q,K,W,X,V)=>(held_eq _).trans (by kernel_rfl)
theorem F_of (v:A) {r:R} (h:d g11.F g148.F D0 v = some r):F v = some r:=join_of (fun L=>f_b (L 0) v) (d_cn (lp g11.f 0) (lp g148.f 0) (.mk fun v=>(D0_cn v).re [0,0]) v) h
noncomputable def spec (k:Nat):List AV→List Slot→Option Ans:=specS sh os (f k)
theorem spec_ok (k:Nat):SpecOk Tryz.prog 55 (spec k):=specS_ok cs_ok Tryz.func55 rfl rfl (fun _ _=>held_eq _) k
end g180
noncomputable def tg180:=tg179.cons 55 g180.spec g180.spec_ok
namespace g181 -- plan_After
abbrev R:Type:=Int × Int × Int × Int × List (List Int)
abbrev A:Type:=Int × Int × Int × Int × Int × Int × Int × Int × Int × Int × Int × Int × Int × Int × Int × Int × List Int × Int × Int × Int × Int × Int × Int × Int × Int × Int × Int × List (ByteArray × Int) × List (Int × Int × (Int × Int × Int) × Int × Int × Int × Int × Int × Int × Int × Int) × List (Int × Int × Int × Int)
abbrev Y:=A→Option R
def lv:List (Nat × List Nat):=[(2000000,[8,9])]
noncomputable def cs:Nat→Ctx:=ctxOf tis modes tg180.1 lv
theorem cs_ok (n:Nat):CtxOk Tryz.prog (cs n):=ctxOf_ok rfl tis_ok tg180.2 n
def sh:AS:=⟨[.agg [.int .i64,.int .i64,.int .i64,.int .i64,.int .i64,.int .i64,.int .i64,.int .i64,.int .i64,.int .i64,.int .i64,.int .i64,.int .i64,.int .i64,.int .i64,.int .i64,.frz (.int .i64)],.agg [.int .i64,.int .i64,.int .i64,.int .i64,.int .i64,.int .i64,.int .i64,.int .i64,.int .i64,.int .i64],.agg [.frz y19,.frz y27],.c (.frz y8)],[]⟩
def os:OS:=⟨.tup [.agg [.int .i64,.int .i64,.int .i64,.sl 128000000],.c (.int .i64)],[(.nest y4)]⟩
def enc (r:R):Out:=os.enc r
def dec:Out→Option R:=os.dec
noncomputable def b0:Code:=subF [] Tryz.f25
noncomputable def K0 (k:Nat):Kt R:=kTop (cs k) Tryz.f25 dec
noncomputable def f (k:Nat):Y:=fun v=>held (runFn cs k Tryz.f25 (sh.args v) (sh.slots v) dec)
noncomputable def F:Y:=lm f
noncomputable def d (p0:g146.Y) (p1:g180.Y):Y:=fun (a,b,e,j,l,m,o,s,t,u,w,x,y,z,B,C,D,G,H,I,J,M,P,N,O,U,T,Q,K,W) =>
bnd (p0 (a,b,e,j,l,m,o,s,t,u,w,x,y,z,B,C,D,G,H,I,J,M,P,N,O,U,T,Q,K)) fun r=>br (!decide (r.2.2.2.2.2.2.2.2.2.2.2.2.2.2.2.2.2.2.2.2.2.2.2.2.2.2.1 = 0)) (some (0,0,0,r.2.2.2.2.2.2.2.2.2.2.2.2.2.2.2.2.2.2.2.2.2.2.2.2.2.2.1,[])) (bnd (p1 (r.1,r.2.1,r.2.2.1,r.2.2.2.1,r.2.2.2.2.1,r.2.2.2.2.2.1,r.2.2.2.2.2.2.1,r.2.2.2.2.2.2.2.1,r.2.2.2.2.2.2.2.2.1,r.2.2.2.2.2.2.2.2.2.1,r.2.2.2.2.2.2.2.2.2.2.1,r.2.2.2.2.2.2.2.2.2.2.2.1,r.2.2.2.2.2.2.2.2.2.2.2.2.1,r.2.2.2.2.2.2.2.2.2.2.2.2.2.1,r.2.2.2.2.2.2.2.2.2.2.2.2.2.2.1,r.2.2.2.2.2.2.2.2.2.2.2.2.2.2.2.1,r.2.2.2.2.2.2.2.2.2.2.2.2.2.2.2.2.2.2.2.2.2.2.2.2.2.2.2.1,r.2.2.2.2.2.2.2.2.2.2.2.2.2.2.2.2.1,r.2.2.2.2.2.2.2.2.2.2.2.2.2.2.2.2.2.1,r.2.2.2.2.2.2.2.2.2.2.2.2.2.2.2.2.2.2.1,r.2.2.2.2.2.2.2.2.2.2.2.2.2.2.2.2.2.2.2.1,r.2.2.2.2.2.2.2.2.2.2.2.2.2.2.2.2.2.2.2.2.1,r.2.2.2.2.2.2.2.2.2.2.2.2.2.2.2.2.2.2.2.2.2.1,r.2.2.2.2.2.2.2.2.2.2.2.2.2.2.2.2.2.2.2.2.2.2.1,r.2.2.2.2.2.2.2.2.2.2.2.2.2.2.2.2.2.2.2.2.2.2.2.1,r.2.2.2.2.2.2.2.2.2.2.2.2.2.2.2.2.2.2.2.2.2.2.2.2.1,r.2.2.2.2.2.2.2.2.2.2.2.2.2.2.2.2.2.2.2.2.2.2.2.2.2.1,r.2.2.2.2.2.2.2.2.2.2.2.2.2.2.2.2.2.2.2.2.2.2.2.2.2.2.2.2.1,r.2.2.2.2.2.2.2.2.2.2.2.2.2.2.2.2.2.2.2.2.2.2.2.2.2.2.2.2.2.1,r.2.2.2.2.2.2.2.2.2.2.2.2.2.2.2.2.2.2.2.2.2.2.2.2.2.2.2.2.2.2.1,r.2.2.2.2.2.2.2.2.2.2.2.2.2.2.2.2.2.2.2.2.2.2.2.2.2.2.2.2.2.2.2,W)) fun r=>some (r.1,r.2.1,r.2.2.1,r.2.2.2.1,r.2.2.2.2))
theorem d_cn (k0:Pr E g146.A g146.R) (k1:Pr E g180.A g180.R):∀ v:A,Cn E (d k0.p k1.p v) fun i=>d (k0.q i) (k1.q i) v:=fun (a,b,e,j,l,m,o,s,t,u,w,x,y,z,B,C,D,G,H,I,J,M,P,N,O,U,T,Q,K,W)=>(.bnd (k0.h _) fun _=>(.br .some (.bnd (k1.h _) fun _=>.some)))
theorem f_b (k:Nat):∀ v:A,f k v = d (g146.f k) (g180.f k) v:=fun (a,b,e,j,l,m,o,s,t,u,w,x,y,z,B,C,D,G,H,I,J,M,P,N,O,U,T,Q,K,W)=>(held_eq _).trans (by kernel_rfl)
theorem F_of (v:A) {r:R} (h:d g146.F g180.F v = some r):F v = some r:=join_of (fun L=>f_b (L 0) v) (d_cn (lp g146.f 0) (lp g180.f 0) v) h
noncomputable def spec (k:Nat):List AV→List Slot→Option Ans:=specS sh os (f k)
theorem spec_ok (k:Nat):SpecOk Tryz.prog 25 (spec k):=specS_ok cs_ok Tryz.func25 rfl rfl (fun _ _=>held_eq _) k
end g181
noncomputable def tg181:=tg180.cons 25 g181.spec g181.spec_ok
namespace g182 -- plan_Desk_Step
abbrev R:Type:=Int × Int × Int × Int × List (List Int) × List (List Int)
abbrev A:Type:=Int × Int × Int × Int × Int × Int × Int × Int × Int × Int × Int × Int × Int × Int × Int × Int × List Int × Int × Int × Int × Int × Int × Int × Int × Int × Int × Int × List (ByteArray × Int) × List (Int × Int × (Int × Int × Int) × Int × Int × Int × Int × Int × Int × Int × Int) × List (List Int) × List (List (Int × Int)) × Int × Int × Int × Int × Int × Int × Int × List (List Int)
abbrev Y:=A→Option R
def lv:List (Nat × List Nat):=[(2000000,[6,7])]
noncomputable def cs:Nat→Ctx:=ctxOf tis modes tg181.1 lv
theorem cs_ok (n:Nat):CtxOk Tryz.prog (cs n):=ctxOf_ok rfl tis_ok tg181.2 n
def sh:AS:=⟨[.agg [.int .i64,.int .i64,.int .i64,.int .i64,.int .i64,.int .i64,.int .i64,.int .i64,.int .i64,.int .i64,.int .i64,.int .i64,.int .i64,.int .i64,.int .i64,.int .i64,.frz (.int .i64),.int .i64,.int .i64,.int .i64,.int .i64,.int .i64,.int .i64,.int .i64,.int .i64,.int .i64,.int .i64,.frz y19,.frz y27,.frz y4,.frz y38],.agg [.int .i64,.int .i64,.int .i64,.sl 128000000],.agg [.int .i64,.int .i64,.int .i64,.int .i64]],[(.nest y4)]⟩
def os:OS:=⟨.tup [.agg [.int .i64,.int .i64,.int .i64,.sl 128000001],.c (.int .i64)],[.nest y4,.nest y4]⟩
def enc (r:R):Out:=os.enc r
def dec:Out→Option R:=os.dec
noncomputable def b0:Code:=subF [] Tryz.f33
noncomputable def K0 (k:Nat):Kt R:=kTop (cs k) Tryz.f33 dec
noncomputable def f (k:Nat):Y:=fun v=>held (runFn cs k Tryz.f33 (sh.args v) (sh.slots v) dec)
noncomputable def F:Y:=lm f
noncomputable def d (p0:g148.Y) (p1:g179.Y) (p2:g149.Y) (p3:g173.Y):Y:=fun (a,b,e,j,l,m,o,s,t,u,w,x,y,z,B,C,D,G,H,I,J,M,P,N,O,U,T,Q,K,W,X,V,S,aa,Z,ab,ad,ae,ac) =>
bnd (p0 (a,b,e,j,l,m,o,s,t,u,w,x,y,z,B,C,D,G,H,I,J,M,P,N,O,U,T,Q,K,W,X,V,S,aa,ac)) fun r=>br (!decide (r = 0)) (some (0,0,0,r,ac,[])) (bnd (p1 (a,b,e,j,l,m,o,s,t,u,w,x,y,z,B,C,D,G,H,I,J,M,P,N,O,U,T,Q,K,W,X,V,S,aa,ac,Z,ab,ad,ae)) fun r=>br (!decide (r.2.2.2.2.2.2 = 0)) (some (0,0,0,r.2.2.2.2.2.2,ac,[])) (bnd (p2 (V,S,aa,ac)) fun r_1=>bnd (p3 (a,b,e,j,l,m,o,s,t,u,w,x,y,z,B,C,D,G,H,I,J,M,P,N,O,U,T,Q,K,W,X,r.1,r.2.1,r.2.2.1,r.2.2.2.1,r.2.2.2.2.1,r.2.2.2.2.2.1,r_1.1,r_1.2.1,r_1.2.2.1,r_1.2.2.2)) fun r=>some (r.2.2.2.2.1,r.2.2.2.2.2.1,r.2.2.2.2.2.2.1,0,ac,r.2.2.2.2.2.2.2)))
theorem d_cn (k0:Pr E g148.A g148.R) (k1:Pr E g179.A g179.R) (k2:Pr E g149.A g149.R) (k3:Pr E g173.A g173.R):∀ v:A,Cn E (d k0.p k1.p k2.p k3.p v) fun i=>d (k0.q i) (k1.q i) (k2.q i) (k3.q i) v:=fun (a,b,e,j,l,m,o,s,t,u,w,x,y,z,B,C,D,G,H,I,J,M,P,N,O,U,T,Q,K,W,X,V,S,aa,Z,ab,ad,ae,ac)=>(.bnd (k0.h _) fun _=>(.br .some (.bnd (k1.h _) fun _=>(.br .some (.bnd (k2.h _) fun _=>(.bnd (k3.h _) fun _=>.some))))))
theorem f_b (k:Nat):∀ v:A,f k v = d (g148.f k) (g179.f k) (g149.f k) (g173.f k) v:=fun (a,b,e,j,l,m,o,s,t,u,w,x,y,z,B,C,D,G,H,I,J,M,P,N,O,U,T,Q,K,W,X,V,S,aa,Z,ab,ad,ae,ac)=>(held_eq _).trans (by kernel_rfl)
theorem F_of (v:A) {r:R} (h:d g148.F g179.F g149.F g173.F v = some r):F v = some r:=join_of (fun L=>f_b (L 0) v) (d_cn (lp g148.f 0) (lp g179.f 0) (lp g149.f 0) (lp g173.f 0) v) h
noncomputable def spec (k:Nat):List AV→List Slot→Option Ans:=specS sh os (f k)
theorem spec_ok (k:Nat):SpecOk Tryz.prog 33 (spec k):=specS_ok cs_ok Tryz.func33 rfl rfl (fun _ _=>held_eq _) k
end g182
noncomputable def tg182:=tg181.cons 33 g182.spec g182.spec_ok
namespace g183 -- plan_Desk_Earliest
abbrev R:Type:=Int × Int × Int × Int × Int × Int × Int × Int × List (List Int) × List (List Int)
abbrev A:Type:=Int × Int × Int × Int × Int × Int × Int × Int × Int × Int × Int × Int × Int × Int × Int × Int × List Int × Int × Int × Int × Int × Int × Int × Int × Int × Int × Int × List (ByteArray × Int) × List (Int × Int × (Int × Int × Int) × Int × Int × Int × Int × Int × Int × Int × Int) × List (List Int) × List (List (Int × Int)) × Int × Int × Int × Int × List (List Int)
abbrev Y:=A→Option R
def lv:List (Nat × List Nat):=[(2000000,[6,7,8]),(8,[3,4,6,7,10,11])]
noncomputable def cs:Nat→Ctx:=ctxOf tis modes tg182.1 lv
theorem cs_ok (n:Nat):CtxOk Tryz.prog (cs n):=ctxOf_ok rfl tis_ok tg182.2 n
def sh:AS:=⟨[.agg [.int .i64,.int .i64,.int .i64,.int .i64,.int .i64,.int .i64,.int .i64,.int .i64,.int .i64,.int .i64,.int .i64,.int .i64,.int .i64,.int .i64,.int .i64,.int .i64,.frz (.int .i64),.int .i64,.int .i64,.int .i64,.int .i64,.int .i64,.int .i64,.int .i64,.int .i64,.int .i64,.int .i64,.frz y19,.frz y27,.frz y4,.frz y38],.agg [.int .i64,.int .i64,.int .i64,.sl 128000000],.c (.int .i64)],[(.nest y4)]⟩
def os:OS:=⟨.tup [.agg [.int .i64,.int .i64,.int .i64,.int .i64],.agg [.int .i64,.int .i64,.int .i64,.sl 128000001],.c (.int .i64)],[.nest y4,.nest y4]⟩
def enc (r:R):Out:=os.enc r
def dec:Out→Option R:=os.dec
noncomputable def b0:Code:=subF [] Tryz.f32
noncomputable def K0 (k:Nat):Kt R:=kTop (cs k) Tryz.f32 dec
noncomputable def b8:Code:=sub [1,1,1,1,0,1,0,0] b0
noncomputable def K8 ( k:Nat):Kt R:=kAt (cs k) (loopN cs k) [1,1,1,1,0,1,0] b0 (K0 k)
abbrev T0:Type:=Int × List (List Int) × Int × Int × Int × Int × Int × Int × Int × Int × Int × Int × Int × Int × Int × Int × Int × Int × List Int × Int × Int × Int × Int × Int × Int × Int × Int × Int × Int × List (ByteArray × Int) × List (Int × Int × (Int × Int × Int) × Int × Int × Int × Int × Int × Int × Int × Int) × List (List Int) × List (List (Int × Int)) × Int × Int × Int × Int × Int × Int × Int × Int × Int × Int × Int × Int × Int × Int × Int × Int × Int × Int × Int × Int × Int × Int × Int × List (List Int)
abbrev Y0:=T0→Option R
noncomputable def s0:T0→St:=fun (a,b,e,j,l,m,o,s,t,u,w,x,y,z,B,C,D,G,H,I,J,M,P,N,O,U,T,Q,K,W,X,V,S,aa,Z,ab,ad,ae,ac,af,ag,ah,aj,ai,am,al,an,ao,ak,ar,au,av,ay,aw,ax,ap,aq)=>⟨76,1,[(3,.c (.ptr 64000000 0)),(4,.c (.ptr 64000001 0)),(6,.c (.ptr 64000002 0)),(7,.c (.ptr 64000003 0)),(10,.c (.ptr 64000004 0)),(11,.c (.int .i64 a))],[],[(128000000,.nest y4 b .none),(256000000,.gone),(64000000,.box [.int .i64 e,.int .i64 j,.int .i64 l,.int .i64 m,.int .i64 o,.int .i64 s,.int .i64 t,.int .i64 u,.int .i64 w,.int .i64 x,.int .i64 y,.int .i64 z,.int .i64 B,.int .i64 C,.int .i64 D,.int .i64 G,.frz (.int .i64) H,.int .i64 I,.int .i64 J,.int .i64 M,.int .i64 P,.int .i64 N,.int .i64 O,.int .i64 U,.int .i64 T,.int .i64 Q,.int .i64 K,.frz y19 W,.frz y27 X,.frz y4 V,.frz y38 S]),(64000001,.box [.int .i64 aa,.int .i64 Z,.int .i64 ab,.sl 128000000]),(64000002,.box [.int .i64 ad,.int .i64 ae,.int .i64 ac,.int .i64 af]),(64000003,.box [.int .i64 ag,.int .i64 ah,.int .i64 aj,.sl 64000005]),(64000004,.box [.int .i64 ai,.int .i64 am,.int .i64 al,.int .i64 an,.int .i64 ao,.int .i64 ak,.int .i64 ar,.int .i64 au,.int .i64 av,.int .i64 ay,.int .i64 aw,.int .i64 ax,.int .i64 ap]),(64000005,.nest y4 aq .none)]⟩
noncomputable def l0 ( k n:Nat) (v:T0):Option R:=held (loopN cs n b8 (K8 k) (s0 v))
noncomputable def D0 (v:T0):Option R:=lim fun L=>l0 (L 0) (L 1) v
theorem D0_cn (v:T0):Cn late (D0 v) fun L=>l0 (L 0) (L 1) v:=of_lim
noncomputable def d0 (p0:g182.Y) (p1:Y0):Y0:=fun (a,b,e,j,l,m,o,s,t,u,w,x,y,z,B,C,D,G,H,I,J,M,P,N,O,U,T,Q,K,W,X,V,S,aa,Z,ab,ad,ae,ac,af,ag,ah,aj,ai,am,al,an,ao,ak,ar,au,av,ay,aw,ax,ap,aq) =>
br (decide (a ≤ wrap .i64 (w - ak))) (bnd (p0 (e,j,l,m,o,s,t,u,w,x,y,z,B,C,D,G,H,I,J,M,P,N,O,U,T,Q,K,W,X,V,S,aa,Z,ab,ai,wrap .i64 (a - aa),a,ak,b)) fun r=>br (decide (r.2.2.2.1 = 0)) (some (ai,wrap .i64 (a - aa),a,ak,r.1,r.2.1,r.2.2.1,0,r.2.2.2.2.1,r.2.2.2.2.2)) (p1 (wrap .i64 (a + 1),r.2.2.2.2.1,e,j,l,m,o,s,t,u,w,x,y,z,B,C,D,G,H,I,J,M,P,N,O,U,T,Q,K,W,X,V,S,aa,Z,ab,ad,ae,ac,af,ag,ah,aj,ai,am,al,an,ao,ak,ar,au,av,ay,aw,ax,ap,aq))) (some (0,0,0,0,0,0,0,8,b,[]))
theorem d0_cn (k0:Pr E g182.A g182.R) (k1:Pr E T0 R):∀ v:T0,Cn E (d0 k0.p k1.p v) fun i=>d0 (k0.q i) (k1.q i) v:=fun (a,b,e,j,l,m,o,s,t,u,w,x,y,z,B,C,D,G,H,I,J,M,P,N,O,U,T,Q,K,W,X,V,S,aa,Z,ab,ad,ae,ac,af,ag,ah,aj,ai,am,al,an,ao,ak,ar,au,av,ay,aw,ax,ap,aq)=>(.br (.bnd (k0.h _) fun _=>(.br .some (k1.h _))) .some)
theorem l0_b ( k m1:Nat):∀ v:T0,run (cs m1) (loopN cs m1) b8 (kLoop cs m1 b8 (K8 k)) (s0 v) = d0 (g182.f m1) (l0 k m1) v:=fun (a,b,e,j,l,m,o,s,t,u,w,x,y,z,B,C,D,G,H,I,J,M,P,N,O,U,T,Q,K,W,X,V,S,aa,Z,ab,ad,ae,ac,af,ag,ah,aj,ai,am,al,an,ao,ak,ar,au,av,ay,aw,ax,ap,aq)=>by kernel_rfl
theorem D0_of (v:T0) {r:R} (h:d0 g182.F D0 v = some r):D0 v = some r:=loop_of 1 (fun L n hn=>by show l0 (L 0) (L 1) v = _; rw [hn]; exact (held_eq _).trans ((loopN_succ _ _ _ _ _).trans (l0_b (L 0) n v))) (d0_cn (lp g182.f 1) (.mk fun v=>(D0_cn v).re [0,1]) v) h
noncomputable def f (k:Nat):Y:=fun v=>held (runFn cs k Tryz.f32 (sh.args v) (sh.slots v) dec)
noncomputable def F:Y:=lm f
noncomputable def d (p0:g148.Y) (p1:Y0):Y:=fun (a,b,e,j,l,m,o,s,t,u,w,x,y,z,B,C,D,G,H,I,J,M,P,N,O,U,T,Q,K,W,X,V,S,aa,Z,ab) =>
bnd (p0 (a,b,e,j,l,m,o,s,t,u,w,x,y,z,B,C,D,G,H,I,J,M,P,N,O,U,T,Q,K,W,X,V,S,aa,ab)) fun r=>br (!decide (r = 0)) (some (0,0,0,0,0,0,0,r,ab,[])) (br (decide (Z < 0) || decide ((↑K.length:Int) ≤ Z)) (some (0,0,0,0,0,0,0,8,ab,[])) (br (decide (0 ≤ Z ∧ Z < (↑K.length:Int))) (p1 (V,ab,a,b,e,j,l,m,o,s,t,u,w,x,y,z,B,C,D,G,H,I,J,M,P,N,O,U,T,Q,K,W,X,V,S,aa,0,0,0,0,0,0,0,(rd ty0 K Z).1,(rd ty0 K Z).2.1,(rd ty0 K Z).2.2.1.1,(rd ty0 K Z).2.2.1.2.1,(rd ty0 K Z).2.2.1.2.2,(rd ty0 K Z).2.2.2.1,(rd ty0 K Z).2.2.2.2.1,(rd ty0 K Z).2.2.2.2.2.1,(rd ty0 K Z).2.2.2.2.2.2.1,(rd ty0 K Z).2.2.2.2.2.2.2.1,(rd ty0 K Z).2.2.2.2.2.2.2.2.1,(rd ty0 K Z).2.2.2.2.2.2.2.2.2.1,(rd ty0 K Z).2.2.2.2.2.2.2.2.2.2,[])) none))
theorem d_cn (k0:Pr E g148.A g148.R) (k1:Pr E T0 R):∀ v:A,Cn E (d k0.p k1.p v) fun i=>d (k0.q i) (k1.q i) v:=fun (a,b,e,j,l,m,o,s,t,u,w,x,y,z,B,C,D,G,H,I,J,M,P,N,O,U,T,Q,K,W,X,V,S,aa,Z,ab)=>(.bnd (k0.h _) fun _=>(.br .some (.br .some (.br (k1.h _) .none))))
theorem f_b (k:Nat):∀ v:A,f k v = d (g148.f k) (l0 k k) v:=fun (a,b,e,j,l,m,o,s,t,u,w,x,y,z,B,C,D,G,H,I,J,M,P,N,O,U,T,Q,K,W,X,V,S,aa,Z,ab)=>(held_eq _).trans (by kernel_rfl)
theorem F_of (v:A) {r:R} (h:d g148.F D0 v = some r):F v = some r:=join_of (fun L=>f_b (L 0) v) (d_cn (lp g148.f 0) (.mk fun v=>(D0_cn v).re [0,0]) v) h
noncomputable def spec (k:Nat):List AV→List Slot→Option Ans:=specS sh os (f k)
theorem spec_ok (k:Nat):SpecOk Tryz.prog 32 (spec k):=specS_ok cs_ok Tryz.func32 rfl rfl (fun _ _=>held_eq _) k
end g183
noncomputable def tg183:=tg182.cons 32 g183.spec g183.spec_ok
namespace g184 -- spykeep2_PlanEarlier
abbrev R:Type:=Bool
abbrev A:Type:=List Int × Int × Int
abbrev Y:=A→Option R
def lv:List (Nat × List Nat):=[(2000000,[6]),(17,[8,10,12,17])]
noncomputable def cs:Nat→Ctx:=ctxOf tis modes tg183.1 lv
theorem cs_ok (n:Nat):CtxOk Tryz.prog (cs n):=ctxOf_ok rfl tis_ok tg183.2 n
def sh:AS:=⟨[.c (.frz (.int .i64)),.c (.int .i64),.c (.int .i64)],[]⟩
def os:OS:=⟨.c .bool,[]⟩
def enc (r:R):Out:=os.enc r
def dec:Out→Option R:=os.dec
noncomputable def b0:Code:=subF [] Tryz.f9
noncomputable def K0 (k:Nat):Kt R:=kTop (cs k) Tryz.f9 dec
noncomputable def b17:Code:=sub [1,1,1,1,1,1,1,1,1,1,1,0,1,0,0] b0
noncomputable def K17 ( k:Nat):Kt R:=kAt (cs k) (loopN cs k) [1,1,1,1,1,1,1,1,1,1,1,0,1,0] b0 (K0 k)
abbrev T0:Type:=Int × Int × Int × Int × Int × Int × Int × Int × Int × Int × Int × Int × Int × Int × Int × Int × Int × Int × Int × Int × Int × Int × Int × Int × Int × Int × Int × Int × Int × Int × Int × Int × Int × Int × List (List Int) × List Int × List (ByteArray × Int) × List (Int × Int × (Int × Int × Int) × Int × Int × Int × Int × Int × Int × Int × Int) × List (List Int) × List (List (Int × Int))
abbrev Y0:=T0→Option R
noncomputable def s0:T0→St:=fun (a,b,e,j,l,m,o,s,t,u,w,x,y,z,B,C,D,G,H,I,J,M,P,N,O,U,T,Q,K,W,X,V,S,aa,Z,ab,ad,ae,ac,af)=>⟨143,0,[(8,.c (.ptr 64000000 0)),(10,.c (.ptr 64000001 0)),(12,.c (.ptr 64000002 0)),(17,.c (.int .i64 a))],[],[(256000000,.gone),(64000000,.box [.int .i64 b,.int .i64 e,.int .i64 j,.sl 64000003]),(64000001,.box [.int .i64 l,.int .i64 m,.int .i64 o,.int .i64 s,.int .i64 t,.int .i64 u,.int .i64 w,.int .i64 x,.int .i64 y,.int .i64 z,.int .i64 B,.int .i64 C,.int .i64 D,.int .i64 G,.int .i64 H,.int .i64 I,.sl 64000004,.int .i64 J,.int .i64 M,.int .i64 P,.int .i64 N,.int .i64 O,.int .i64 U,.int .i64 T,.int .i64 Q,.int .i64 K,.int .i64 W,.sl 64000005,.sl 64000006,.sl 64000007,.sl 64000008]),(64000002,.box [.int .i64 X,.int .i64 V,.int .i64 S,.int .i64 aa]),(64000003,.nest y4 Z .none),(64000004,.row (.int .i64) ab),(64000005,.row y19 ad),(64000006,.row y27 ae),(64000007,.nest y4 ac .none),(64000008,.nest y38 af .none)]⟩
noncomputable def l0 ( k n:Nat) (v:T0):Option R:=held (loopN cs n b17 (K17 k) (s0 v))
noncomputable def D0 (v:T0):Option R:=lim fun L=>l0 (L 0) (L 1) v
theorem D0_cn (v:T0):Cn late (D0 v) fun L=>l0 (L 0) (L 1) v:=of_lim
def d0 (p0:g182.Y) (p1:Y0):Y0:=fun (a,b,e,j,l,m,o,s,t,u,w,x,y,z,B,C,D,G,H,I,J,M,P,N,O,U,T,Q,K,W,X,V,S,aa,Z,ab,ad,ae,ac,af) =>
br (decide (a < S)) (bnd (p0 (l,m,o,s,t,u,w,x,y,z,B,C,D,G,H,I,ab,J,M,P,N,O,U,T,Q,K,W,ad,ae,ac,af,b,e,j,X,wrap .i64 (a - b),a,aa,Z)) fun r=>br (decide (r.2.2.2.1 = 0)) (some false) (p1 (wrap .i64 (a + 1),b,e,j,l,m,o,s,t,u,w,x,y,z,B,C,D,G,H,I,J,M,P,N,O,U,T,Q,K,W,X,V,S,aa,r.2.2.2.2.1,ab,ad,ae,ac,af))) (some true)
theorem d0_cn (k0:Pr E g182.A g182.R) (k1:Pr E T0 R):∀ v:T0,Cn E (d0 k0.p k1.p v) fun i=>d0 (k0.q i) (k1.q i) v:=fun (a,b,e,j,l,m,o,s,t,u,w,x,y,z,B,C,D,G,H,I,J,M,P,N,O,U,T,Q,K,W,X,V,S,aa,Z,ab,ad,ae,ac,af)=>(.br (.bnd (k0.h _) fun _=>(.br .some (k1.h _))) .some)
theorem l0_b ( k m1:Nat):∀ v:T0,run (cs m1) (loopN cs m1) b17 (kLoop cs m1 b17 (K17 k)) (s0 v) = d0 (g182.f m1) (l0 k m1) v:=fun (a,b,e,j,l,m,o,s,t,u,w,x,y,z,B,C,D,G,H,I,J,M,P,N,O,U,T,Q,K,W,X,V,S,aa,Z,ab,ad,ae,ac,af)=>by kernel_rfl
theorem D0_of (v:T0) {r:R} (h:d0 g182.F D0 v = some r):D0 v = some r:=loop_of 1 (fun L n hn=>by show l0 (L 0) (L 1) v = _; rw [hn]; exact (held_eq _).trans ((loopN_succ _ _ _ _ _).trans (l0_b (L 0) n v))) (d0_cn (lp g182.f 1) (.mk fun v=>(D0_cn v).re [0,1]) v) h
noncomputable def f (k:Nat):Y:=fun v=>held (runFn cs k Tryz.f9 (sh.args v) (sh.slots v) dec)
noncomputable def F:Y:=lm f
noncomputable def d (p0:g178.Y) (p1:g0.Y) (p2:g181.Y) (p3:g146.Y) (p4:g183.Y) (p5:g182.Y) (p6:Y0):Y:=fun (a,b,e) =>
bnd (p0 (14,5,0,0,0,0,0,0,0,0,0,0,0,0,0,0,0,0,0,0,0,0,0,0,0,0,0,0,a,0,[],[],[],[])) fun r=>br (!r.1) (some false) (br (decide ((↑r.2.2.2.2.2.2.2.2.2.2.2.2.2.2.2.2.2.2.2.2.2.2.2.2.2.2.2.2.2.2.2.2.2.2.2.1.length:Int) = 0)) (some true) (bnd (p1 (b,wrap .i64 ((↑r.2.2.2.2.2.2.2.2.2.2.2.2.2.2.2.2.2.2.2.2.2.2.2.2.2.2.2.2.2.2.2.2.2.2.2.2.length:Int) + 1))) fun r_1=>br (decide (0 ≤ r_1 ∧ r_1 ≤ (↑r.2.2.2.2.2.2.2.2.2.2.2.2.2.2.2.2.2.2.2.2.2.2.2.2.2.2.2.2.2.2.2.2.2.2.2.2.length:Int))) (bnd (p2 (r.2.1,r.2.2.1,r.2.2.2.1,r.2.2.2.2.1,r.2.2.2.2.2.1,r.2.2.2.2.2.2.1,r.2.2.2.2.2.2.2.1,r.2.2.2.2.2.2.2.2.1,r.2.2.2.2.2.2.2.2.2.1,r.2.2.2.2.2.2.2.2.2.2.1,r.2.2.2.2.2.2.2.2.2.2.2.1,r.2.2.2.2.2.2.2.2.2.2.2.2.1,r.2.2.2.2.2.2.2.2.2.2.2.2.2.1,r.2.2.2.2.2.2.2.2.2.2.2.2.2.2.1,r.2.2.2.2.2.2.2.2.2.2.2.2.2.2.2.1,r.2.2.2.2.2.2.2.2.2.2.2.2.2.2.2.2.1,r.2.2.2.2.2.2.2.2.2.2.2.2.2.2.2.2.2.2.2.2.2.2.2.2.2.2.2.2.2.2.2.2.2.1,r.2.2.2.2.2.2.2.2.2.2.2.2.2.2.2.2.2.1,r.2.2.2.2.2.2.2.2.2.2.2.2.2.2.2.2.2.2.1,r.2.2.2.2.2.2.2.2.2.2.2.2.2.2.2.2.2.2.2.1,r.2.2.2.2.2.2.2.2.2.2.2.2.2.2.2.2.2.2.2.2.1,r.2.2.2.2.2.2.2.2.2.2.2.2.2.2.2.2.2.2.2.2.2.1,r.2.2.2.2.2.2.2.2.2.2.2.2.2.2.2.2.2.2.2.2.2.2.1,r.2.2.2.2.2.2.2.2.2.2.2.2.2.2.2.2.2.2.2.2.2.2.2.1,r.2.2.2.2.2.2.2.2.2.2.2.2.2.2.2.2.2.2.2.2.2.2.2.2.1,r.2.2.2.2.2.2.2.2.2.2.2.2.2.2.2.2.2.2.2.2.2.2.2.2.2.1,r.2.2.2.2.2.2.2.2.2.2.2.2.2.2.2.2.2.2.2.2.2.2.2.2.2.2.1,r.2.2.2.2.2.2.2.2.2.2.2.2.2.2.2.2.2.2.2.2.2.2.2.2.2.2.2.2.2.2.2.2.2.2.1,r.2.2.2.2.2.2.2.2.2.2.2.2.2.2.2.2.2.2.2.2.2.2.2.2.2.2.2.2.2.2.2.2.2.2.2.1,List.drop (Int.toNat 0) (List.take r_1.toNat r.2.2.2.2.2.2.2.2.2.2.2.2.2.2.2.2.2.2.2.2.2.2.2.2.2.2.2.2.2.2.2.2.2.2.2.2))) fun r_2=>bnd (p3 (r.2.1,r.2.2.1,r.2.2.2.1,r.2.2.2.2.1,r.2.2.2.2.2.1,r.2.2.2.2.2.2.1,r.2.2.2.2.2.2.2.1,r.2.2.2.2.2.2.2.2.1,r.2.2.2.2.2.2.2.2.2.1,r.2.2.2.2.2.2.2.2.2.2.1,r.2.2.2.2.2.2.2.2.2.2.2.1,r.2.2.2.2.2.2.2.2.2.2.2.2.1,r.2.2.2.2.2.2.2.2.2.2.2.2.2.1,r.2.2.2.2.2.2.2.2.2.2.2.2.2.2.1,r.2.2.2.2.2.2.2.2.2.2.2.2.2.2.2.1,r.2.2.2.2.2.2.2.2.2.2.2.2.2.2.2.2.1,r.2.2.2.2.2.2.2.2.2.2.2.2.2.2.2.2.2.2.2.2.2.2.2.2.2.2.2.2.2.2.2.2.2.1,r.2.2.2.2.2.2.2.2.2.2.2.2.2.2.2.2.2.1,r.2.2.2.2.2.2.2.2.2.2.2.2.2.2.2.2.2.2.1,r.2.2.2.2.2.2.2.2.2.2.2.2.2.2.2.2.2.2.2.1,r.2.2.2.2.2.2.2.2.2.2.2.2.2.2.2.2.2.2.2.2.1,r.2.2.2.2.2.2.2.2.2.2.2.2.2.2.2.2.2.2.2.2.2.1,r.2.2.2.2.2.2.2.2.2.2.2.2.2.2.2.2.2.2.2.2.2.2.1,r.2.2.2.2.2.2.2.2.2.2.2.2.2.2.2.2.2.2.2.2.2.2.2.1,r.2.2.2.2.2.2.2.2.2.2.2.2.2.2.2.2.2.2.2.2.2.2.2.2.1,r.2.2.2.2.2.2.2.2.2.2.2.2.2.2.2.2.2.2.2.2.2.2.2.2.2.1,r.2.2.2.2.2.2.2.2.2.2.2.2.2.2.2.2.2.2.2.2.2.2.2.2.2.2.1,r.2.2.2.2.2.2.2.2.2.2.2.2.2.2.2.2.2.2.2.2.2.2.2.2.2.2.2.2.2.2.2.2.2.2.1,r.2.2.2.2.2.2.2.2.2.2.2.2.2.2.2.2.2.2.2.2.2.2.2.2.2.2.2.2.2.2.2.2.2.2.2.1)) fun r_3=>bnd (p1 (e,(↑r.2.2.2.2.2.2.2.2.2.2.2.2.2.2.2.2.2.2.2.2.2.2.2.2.2.2.2.2.2.2.2.2.2.2.2.1.length:Int))) fun r=>bnd (p4 (r_3.1,r_3.2.1,r_3.2.2.1,r_3.2.2.2.1,r_3.2.2.2.2.1,r_3.2.2.2.2.2.1,r_3.2.2.2.2.2.2.1,r_3.2.2.2.2.2.2.2.1,r_3.2.2.2.2.2.2.2.2.1,r_3.2.2.2.2.2.2.2.2.2.1,r_3.2.2.2.2.2.2.2.2.2.2.1,r_3.2.2.2.2.2.2.2.2.2.2.2.1,r_3.2.2.2.2.2.2.2.2.2.2.2.2.1,r_3.2.2.2.2.2.2.2.2.2.2.2.2.2.1,r_3.2.2.2.2.2.2.2.2.2.2.2.2.2.2.1,r_3.2.2.2.2.2.2.2.2.2.2.2.2.2.2.2.1,r_3.2.2.2.2.2.2.2.2.2.2.2.2.2.2.2.2.2.2.2.2.2.2.2.2.2.2.2.1,r_3.2.2.2.2.2.2.2.2.2.2.2.2.2.2.2.2.1,r_3.2.2.2.2.2.2.2.2.2.2.2.2.2.2.2.2.2.1,r_3.2.2.2.2.2.2.2.2.2.2.2.2.2.2.2.2.2.2.1,r_3.2.2.2.2.2.2.2.2.2.2.2.2.2.2.2.2.2.2.2.1,r_3.2.2.2.2.2.2.2.2.2.2.2.2.2.2.2.2.2.2.2.2.1,r_3.2.2.2.2.2.2.2.2.2.2.2.2.2.2.2.2.2.2.2.2.2.1,r_3.2.2.2.2.2.2.2.2.2.2.2.2.2.2.2.2.2.2.2.2.2.2.1,r_3.2.2.2.2.2.2.2.2.2.2.2.2.2.2.2.2.2.2.2.2.2.2.2.1,r_3.2.2.2.2.2.2.2.2.2.2.2.2.2.2.2.2.2.2.2.2.2.2.2.2.1,r_3.2.2.2.2.2.2.2.2.2.2.2.2.2.2.2.2.2.2.2.2.2.2.2.2.2.1,r_3.2.2.2.2.2.2.2.2.2.2.2.2.2.2.2.2.2.2.2.2.2.2.2.2.2.2.2.2.1,r_3.2.2.2.2.2.2.2.2.2.2.2.2.2.2.2.2.2.2.2.2.2.2.2.2.2.2.2.2.2.1,r_3.2.2.2.2.2.2.2.2.2.2.2.2.2.2.2.2.2.2.2.2.2.2.2.2.2.2.2.2.2.2.1,r_3.2.2.2.2.2.2.2.2.2.2.2.2.2.2.2.2.2.2.2.2.2.2.2.2.2.2.2.2.2.2.2,r_2.1,r_2.2.1,r_2.2.2.1,r,r_2.2.2.2.2)) fun r=>br (!decide (r_2.2.2.2.1 = 0) || !decide (r_3.2.2.2.2.2.2.2.2.2.2.2.2.2.2.2.2.2.2.2.2.2.2.2.2.2.2.1 = 0)) (some false) (br (!decide (r.2.2.2.2.2.2.2.1 = 0)) (br (decide (r.2.2.2.2.2.2.2.1 = 8) == true) (some (decide (r.1 = 0) && (decide (r.2.1 = 0) && (decide (r.2.2.1 = 0) && (decide (r.2.2.2.1 = 0) && true))))) (some false)) (bnd (p5 (r_3.1,r_3.2.1,r_3.2.2.1,r_3.2.2.2.1,r_3.2.2.2.2.1,r_3.2.2.2.2.2.1,r_3.2.2.2.2.2.2.1,r_3.2.2.2.2.2.2.2.1,r_3.2.2.2.2.2.2.2.2.1,r_3.2.2.2.2.2.2.2.2.2.1,r_3.2.2.2.2.2.2.2.2.2.2.1,r_3.2.2.2.2.2.2.2.2.2.2.2.1,r_3.2.2.2.2.2.2.2.2.2.2.2.2.1,r_3.2.2.2.2.2.2.2.2.2.2.2.2.2.1,r_3.2.2.2.2.2.2.2.2.2.2.2.2.2.2.1,r_3.2.2.2.2.2.2.2.2.2.2.2.2.2.2.2.1,r_3.2.2.2.2.2.2.2.2.2.2.2.2.2.2.2.2.2.2.2.2.2.2.2.2.2.2.2.1,r_3.2.2.2.2.2.2.2.2.2.2.2.2.2.2.2.2.1,r_3.2.2.2.2.2.2.2.2.2.2.2.2.2.2.2.2.2.1,r_3.2.2.2.2.2.2.2.2.2.2.2.2.2.2.2.2.2.2.1,r_3.2.2.2.2.2.2.2.2.2.2.2.2.2.2.2.2.2.2.2.1,r_3.2.2.2.2.2.2.2.2.2.2.2.2.2.2.2.2.2.2.2.2.1,r_3.2.2.2.2.2.2.2.2.2.2.2.2.2.2.2.2.2.2.2.2.2.1,r_3.2.2.2.2.2.2.2.2.2.2.2.2.2.2.2.2.2.2.2.2.2.2.1,r_3.2.2.2.2.2.2.2.2.2.2.2.2.2.2.2.2.2.2.2.2.2.2.2.1,r_3.2.2.2.2.2.2.2.2.2.2.2.2.2.2.2.2.2.2.2.2.2.2.2.2.1,r_3.2.2.2.2.2.2.2.2.2.2.2.2.2.2.2.2.2.2.2.2.2.2.2.2.2.1,r_3.2.2.2.2.2.2.2.2.2.2.2.2.2.2.2.2.2.2.2.2.2.2.2.2.2.2.2.2.1,r_3.2.2.2.2.2.2.2.2.2.2.2.2.2.2.2.2.2.2.2.2.2.2.2.2.2.2.2.2.2.1,r_3.2.2.2.2.2.2.2.2.2.2.2.2.2.2.2.2.2.2.2.2.2.2.2.2.2.2.2.2.2.2.1,r_3.2.2.2.2.2.2.2.2.2.2.2.2.2.2.2.2.2.2.2.2.2.2.2.2.2.2.2.2.2.2.2,r_2.1,r_2.2.1,r_2.2.2.1,r.1,r.2.1,r.2.2.1,r.2.2.2.1,r.2.2.2.2.2.2.2.2.1)) fun r_4=>br ((!decide (r_4.2.2.2.1 = 0) || !decide (r_4.1 = r.2.2.2.2.1)) == false) (br (!(decide (r_4.2.1 = r.2.2.2.2.2.1) && (decide (r_4.2.2.1 = r.2.2.2.2.2.2.1) && true)) || decide (r.2.2.1 < r_2.1)) (some false) (p6 (r_2.1,r_2.1,r_2.2.1,r_2.2.2.1,r_3.1,r_3.2.1,r_3.2.2.1,r_3.2.2.2.1,r_3.2.2.2.2.1,r_3.2.2.2.2.2.1,r_3.2.2.2.2.2.2.1,r_3.2.2.2.2.2.2.2.1,r_3.2.2.2.2.2.2.2.2.1,r_3.2.2.2.2.2.2.2.2.2.1,r_3.2.2.2.2.2.2.2.2.2.2.1,r_3.2.2.2.2.2.2.2.2.2.2.2.1,r_3.2.2.2.2.2.2.2.2.2.2.2.2.1,r_3.2.2.2.2.2.2.2.2.2.2.2.2.2.1,r_3.2.2.2.2.2.2.2.2.2.2.2.2.2.2.1,r_3.2.2.2.2.2.2.2.2.2.2.2.2.2.2.2.1,r_3.2.2.2.2.2.2.2.2.2.2.2.2.2.2.2.2.1,r_3.2.2.2.2.2.2.2.2.2.2.2.2.2.2.2.2.2.1,r_3.2.2.2.2.2.2.2.2.2.2.2.2.2.2.2.2.2.2.1,r_3.2.2.2.2.2.2.2.2.2.2.2.2.2.2.2.2.2.2.2.1,r_3.2.2.2.2.2.2.2.2.2.2.2.2.2.2.2.2.2.2.2.2.1,r_3.2.2.2.2.2.2.2.2.2.2.2.2.2.2.2.2.2.2.2.2.2.1,r_3.2.2.2.2.2.2.2.2.2.2.2.2.2.2.2.2.2.2.2.2.2.2.1,r_3.2.2.2.2.2.2.2.2.2.2.2.2.2.2.2.2.2.2.2.2.2.2.2.1,r_3.2.2.2.2.2.2.2.2.2.2.2.2.2.2.2.2.2.2.2.2.2.2.2.2.1,r_3.2.2.2.2.2.2.2.2.2.2.2.2.2.2.2.2.2.2.2.2.2.2.2.2.2.1,r.1,r.2.1,r.2.2.1,r.2.2.2.1,r_4.2.2.2.2.1,r_3.2.2.2.2.2.2.2.2.2.2.2.2.2.2.2.2.2.2.2.2.2.2.2.2.2.2.2.1,r_3.2.2.2.2.2.2.2.2.2.2.2.2.2.2.2.2.2.2.2.2.2.2.2.2.2.2.2.2.1,r_3.2.2.2.2.2.2.2.2.2.2.2.2.2.2.2.2.2.2.2.2.2.2.2.2.2.2.2.2.2.1,r_3.2.2.2.2.2.2.2.2.2.2.2.2.2.2.2.2.2.2.2.2.2.2.2.2.2.2.2.2.2.2.1,r_3.2.2.2.2.2.2.2.2.2.2.2.2.2.2.2.2.2.2.2.2.2.2.2.2.2.2.2.2.2.2.2))) (some false)))) none))
theorem d_cn (k0:Pr E g178.A g178.R) (k1:Pr E g0.A g0.R) (k2:Pr E g181.A g181.R) (k3:Pr E g146.A g146.R) (k4:Pr E g183.A g183.R) (k5:Pr E g182.A g182.R) (k6:Pr E T0 R):∀ v:A,Cn E (d k0.p k1.p k2.p k3.p k4.p k5.p k6.p v) fun i=>d (k0.q i) (k1.q i) (k2.q i) (k3.q i) (k4.q i) (k5.q i) (k6.q i) v:=fun (a,b,e)=>(.bnd (k0.h _) fun _=>(.br .some (.br .some (.bnd (k1.h _) fun _=>(.br (.bnd (k2.h _) fun _=>(.bnd (k3.h _) fun _=>(.bnd (k1.h _) fun _=>(.bnd (k4.h _) fun _=>(.br .some (.br (.br .some .some) (.bnd (k5.h _) fun _=>(.br (.br .some (k6.h _)) .some)))))))) .none)))))
theorem f_b (k:Nat):∀ v:A,f k v = d (g178.f k) (g0.f k) (g181.f k) (g146.f k) (g183.f k) (g182.f k) (l0 k k) v:=fun (a,b,e)=>(held_eq _).trans (by kernel_rfl)
theorem F_of (v:A) {r:R} (h:d g178.F g0.F g181.F g146.F g183.F g182.F D0 v = some r):F v = some r:=join_of (fun L=>f_b (L 0) v) (d_cn (lp g178.f 0) (lp g0.f 0) (lp g181.f 0) (lp g146.f 0) (lp g183.f 0) (lp g182.f 0) (.mk fun v=>(D0_cn v).re [0,0]) v) h
noncomputable def spec (k:Nat):List AV→List Slot→Option Ans:=specS sh os (f k)
theorem spec_ok (k:Nat):SpecOk Tryz.prog 9 (spec k):=specS_ok cs_ok Tryz.func9 rfl rfl (fun _ _=>held_eq _) k
end g184
noncomputable def tg184:=tg183.cons 9 g184.spec g184.spec_ok
end Go.Proofs.RPe
