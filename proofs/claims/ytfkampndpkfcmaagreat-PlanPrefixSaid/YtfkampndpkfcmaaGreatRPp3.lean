import Derived.Test.YtfkampndpkfcmaaGreatRPp2
import Derived.Test.YtfkampndpkfcmaaGreatProg
namespace Go.Proofs.RPp
open Go Go.Eng Go.Proofs
set_option maxRecDepth 100000
set_option linter.unusedVariables false
variable {ι : Type} {E : Fil ι}
namespace g179 -- plan_Desk_visit
abbrev R:Type:=Int × Int × Int × Int × Int × Int × Int
abbrev A:Type:=Int × Int × Int × Int × Int × Int × Int × Int × Int × Int × Int × Int × Int × Int × Int × Int × List Int × Int × Int × Int × Int × Int × Int × Int × Int × Int × Int × List (ByteArray × Int) × List (Int × Int × (Int × Int × Int) × Int × Int × Int × Int × Int × Int × Int × Int) × List (List Int) × List (List (Int × Int)) × Int × Int × Int × List (List Int) × Int × Int × Int × Int
abbrev Y:=A→Option R
def lv:List (Nat × List Nat):=[(2000000,[6,7]),(3,[3,4,5,6,8,21,22,23]),(1000007,[3,4,5,6,8,21,22,23]),(1000021,[3,4,5,6,8,11]),(22,[3,4,5,6,8,11,14])]
noncomputable def cs:Nat→Ctx:=ctxOf tis modes tg178.1 lv
theorem cs_ok (n:Nat):CtxOk Tryz.prog (cs n):=ctxOf_ok rfl tis_ok tg178.2 n
def sh:AS:=⟨[.agg [.int .i64,.int .i64,.int .i64,.int .i64,.int .i64,.int .i64,.int .i64,.int .i64,.int .i64,.int .i64,.int .i64,.int .i64,.int .i64,.int .i64,.int .i64,.int .i64,.frz (.int .i64),.int .i64,.int .i64,.int .i64,.int .i64,.int .i64,.int .i64,.int .i64,.int .i64,.int .i64,.int .i64,.frz y19,.frz y27,.frz y4,.frz y38],.agg [.int .i64,.int .i64,.int .i64,.frz y4],.agg [.int .i64,.int .i64,.int .i64,.int .i64]],[]⟩
def os:OS:=⟨.tup [.agg [.int .i64,.int .i64,.int .i64,.int .i64,.int .i64,.int .i64],.c (.int .i64)],[]⟩
def enc (r:R):Out:=os.enc r
def dec:Out→Option R:=os.dec
noncomputable def b0:Code:=subF [] Tryz.f66
noncomputable def K0 (k:Nat):Kt R:=kTop (cs k) Tryz.f66 dec
noncomputable def b3:Code:=sub [1,1,0,1,0,0] b0
noncomputable def K3 ( k:Nat):Kt R:=kAt (cs k) (loopN cs k) [1,1,0,1,0] b0 (K0 k)
noncomputable def c1000007:Code:=sub [1,1,1] b3
noncomputable def J1000007 ( k m1:Nat):Kt R:=kAt (cs m1) (loopN cs m1) [1,1,1] b3 (kLoop cs m1 b3 (K3 k))
noncomputable def c1000021:Code:=sub [1,1,1,1,1,1,1,1,1] b0
noncomputable def J1000021 ( k:Nat):Kt R:=kAt (cs k) (loopN cs k) [1,1,1,1,1,1,1,1,1] b0 (K0 k)
noncomputable def b22:Code:=sub [1,1,1,1,1,1,1,1,1,0,1,0,0] b0
noncomputable def K22 ( k:Nat):Kt R:=kAt (cs k) (loopN cs k) [1,1,1,1,1,1,1,1,1,0,1,0] b0 (K0 k)
abbrev T0:Type:=Int × List (Int × Int × (Int × Int × Int) × Int × Int × Int × Int × Int × Int × Int × Int) × Int × Int × Int × Int × Int × Int × Int × Int × Int × Int × Int × Int × Int × Int × Int × Int × Int × Int × List Int × Int × Int × Int × Int × Int × Int × Int × Int × Int × Int × List (ByteArray × Int) × List (Int × Int × (Int × Int × Int) × Int × Int × Int × Int × Int × Int × Int × Int) × List (List Int) × List (List (Int × Int)) × Int × Int × Int × List (List Int) × Int × Int × Int × Int × Int × Int × Int × Int × Int × Int
abbrev Y0:=T0→Option R
noncomputable def s0:T0→St:=fun (a,b,e,j,l,m,o,s,t,u,w,x,y,z,B,C,D,G,H,I,J,K,P,N,O,U,T,Q,M,W,X,V,S,aa,Z,ab,ad,ae,ac,af,ag,ah,ai,aj,al,ak,am,an,ao)=>⟨193,0,[(3,.c (.ptr 64000000 0)),(4,.c (.ptr 64000001 0)),(5,.c (.ptr 64000002 0)),(6,.c (.ptr 64000003 0)),(8,.c (.int .i64 a)),(21,.c (.frz y27 b)),(22,.c (.int .i64 e)),(23,.c (.int .i64 j))],[],[(256000000,.gone),(64000000,.box [.int .i64 l,.int .i64 m,.int .i64 o,.int .i64 s,.int .i64 t,.int .i64 u,.int .i64 w,.int .i64 x,.int .i64 y,.int .i64 z,.int .i64 B,.int .i64 C,.int .i64 D,.int .i64 G,.int .i64 H,.int .i64 I,.frz (.int .i64) J,.int .i64 K,.int .i64 P,.int .i64 N,.int .i64 O,.int .i64 U,.int .i64 T,.int .i64 Q,.int .i64 M,.int .i64 W,.int .i64 X,.frz y19 V,.frz y27 S,.frz y4 aa,.frz y38 Z]),(64000001,.box [.int .i64 ab,.int .i64 ad,.int .i64 ae,.frz y4 ac]),(64000002,.box [.int .i64 af,.int .i64 ag,.int .i64 ah,.int .i64 ai]),(64000003,.box [.int .i64 aj,.int .i64 al,.int .i64 ak,.int .i64 am,.int .i64 an,.int .i64 ao])]⟩
noncomputable def l0 ( k n:Nat) (v:T0):Option R:=held (loopN cs n b3 (K3 k) (s0 v))
noncomputable def D0 (v:T0):Option R:=lim fun L=>l0 (L 0) (L 1) v
theorem D0_cn (v:T0):Cn late (D0 v) fun L=>l0 (L 0) (L 1) v:=of_lim
abbrev T1:Type:=Int × List (Int × Int × (Int × Int × Int) × Int × Int × Int × Int × Int × Int × Int × Int) × Int × Int × Int × Int × Int × Int × Int × Int × Int × Int × Int × Int × Int × Int × Int × Int × Int × Int × List Int × Int × Int × Int × Int × Int × Int × Int × Int × Int × Int × List (ByteArray × Int) × List (Int × Int × (Int × Int × Int) × Int × Int × Int × Int × Int × Int × Int × Int) × List (List Int) × List (List (Int × Int)) × Int × Int × Int × List (List Int) × Int × Int × Int × Int × Int × Int × Int × Int × Int × Int
abbrev Y1:=T1→Option R
noncomputable def s1:T1→St:=fun (a,b,e,j,l,m,o,s,t,u,w,x,y,z,B,C,D,G,H,I,J,K,P,N,O,U,T,Q,M,W,X,V,S,aa,Z,ab,ad,ae,ac,af,ag,ah,ai,aj,al,ak,am,an,ao)=>⟨193,0,[(3,.c (.ptr 64000000 0)),(4,.c (.ptr 64000001 0)),(5,.c (.ptr 64000002 0)),(6,.c (.ptr 64000003 0)),(8,.c (.int .i64 a)),(21,.c (.frz y27 b)),(22,.c (.int .i64 e)),(23,.c (.int .i64 j))],[],[(256000000,.gone),(64000000,.box [.int .i64 l,.int .i64 m,.int .i64 o,.int .i64 s,.int .i64 t,.int .i64 u,.int .i64 w,.int .i64 x,.int .i64 y,.int .i64 z,.int .i64 B,.int .i64 C,.int .i64 D,.int .i64 G,.int .i64 H,.int .i64 I,.frz (.int .i64) J,.int .i64 K,.int .i64 P,.int .i64 N,.int .i64 O,.int .i64 U,.int .i64 T,.int .i64 Q,.int .i64 M,.int .i64 W,.int .i64 X,.frz y19 V,.frz y27 S,.frz y4 aa,.frz y38 Z]),(64000001,.box [.int .i64 ab,.int .i64 ad,.int .i64 ae,.frz y4 ac]),(64000002,.box [.int .i64 af,.int .i64 ag,.int .i64 ah,.int .i64 ai]),(64000003,.box [.int .i64 aj,.int .i64 al,.int .i64 ak,.int .i64 am,.int .i64 an,.int .i64 ao])]⟩
noncomputable def l1 ( k m1:Nat) (v:T1):Option R:=held (run (cs m1) (loopN cs m1) c1000007 (J1000007 k m1) (s1 v))
noncomputable def D1 (v:T1):Option R:=lim fun L=>l1 (L 0) (L 1) v
theorem D1_cn (v:T1):Cn late (D1 v) fun L=>l1 (L 0) (L 1) v:=of_lim
abbrev T2:Type:=Int × Int × Int × Int × Int × Int × Int × Int × Int × Int × Int × Int × Int × Int × Int × Int × Int × List Int × Int × Int × Int × Int × Int × Int × Int × Int × Int × Int × List (ByteArray × Int) × List (Int × Int × (Int × Int × Int) × Int × Int × Int × Int × Int × Int × Int × Int) × List (List Int) × List (List (Int × Int)) × Int × Int × Int × List (List Int) × Int × Int × Int × Int × Int × Int × Int × Int × Int × Int × Int × Int × Int × Int × Int × Int × Int × Int × Int × Int × Int × Int × Int
abbrev Y2:=T2→Option R
noncomputable def s2:T2→St:=fun (a,b,e,j,l,m,o,s,t,u,w,x,y,z,B,C,D,G,H,I,J,K,P,N,O,U,T,Q,M,W,X,V,S,aa,Z,ab,ad,ae,ac,af,ag,ah,ai,aj,al,ak,am,an,ao,aw,ax,ay,bb,az,ba,ap,aq,ar,au)=>⟨193,0,[(3,.c (.ptr 64000000 0)),(4,.c (.ptr 64000001 0)),(5,.c (.ptr 64000002 0)),(6,.c (.ptr 64000003 0)),(8,.c (.int .i64 a)),(11,.c (.ptr 64000004 0))],[],[(256000000,.gone),(64000000,.box [.int .i64 b,.int .i64 e,.int .i64 j,.int .i64 l,.int .i64 m,.int .i64 o,.int .i64 s,.int .i64 t,.int .i64 u,.int .i64 w,.int .i64 x,.int .i64 y,.int .i64 z,.int .i64 B,.int .i64 C,.int .i64 D,.frz (.int .i64) G,.int .i64 H,.int .i64 I,.int .i64 J,.int .i64 K,.int .i64 P,.int .i64 N,.int .i64 O,.int .i64 U,.int .i64 T,.int .i64 Q,.frz y19 M,.frz y27 W,.frz y4 X,.frz y38 V]),(64000001,.box [.int .i64 S,.int .i64 aa,.int .i64 Z,.frz y4 ab]),(64000002,.box [.int .i64 ad,.int .i64 ae,.int .i64 ac,.int .i64 af]),(64000003,.box [.int .i64 ag,.int .i64 ah,.int .i64 ai,.int .i64 aj,.int .i64 al,.int .i64 ak]),(64000004,.box [.int .i64 am,.int .i64 an,.int .i64 ao,.int .i64 aw,.int .i64 ax,.int .i64 ay,.int .i64 bb,.int .i64 az,.int .i64 ba,.int .i64 ap,.int .i64 aq,.int .i64 ar,.int .i64 au])]⟩
noncomputable def l2 ( k:Nat) (v:T2):Option R:=held (run (cs k) (loopN cs k) c1000021 (J1000021 k) (s2 v))
noncomputable def D2 (v:T2):Option R:=lim fun L=>l2 (L 0) v
theorem D2_cn (v:T2):Cn late (D2 v) fun L=>l2 (L 0) v:=of_lim
abbrev T3:Type:=Int × Int × Int × Int × Int × Int × Int × Int × Int × Int × Int × Int × Int × Int × Int × Int × Int × Int × List Int × Int × Int × Int × Int × Int × Int × Int × Int × Int × Int × List (ByteArray × Int) × List (Int × Int × (Int × Int × Int) × Int × Int × Int × Int × Int × Int × Int × Int) × List (List Int) × List (List (Int × Int)) × Int × Int × Int × List (List Int) × Int × Int × Int × Int × Int × Int × Int × Int × Int × Int × Int × Int × Int × Int × Int × Int × Int × Int × Int × Int × Int × Int × Int
abbrev Y3:=T3→Option R
noncomputable def s3:T3→St:=fun (a,b,e,j,l,m,o,s,t,u,w,x,y,z,B,C,D,G,H,I,J,K,P,N,O,U,T,Q,M,W,X,V,S,aa,Z,ab,ad,ae,ac,af,ag,ah,ai,aj,al,ak,am,an,ao,aw,ax,ay,bb,az,ba,ap,aq,ar,au,bc)=>⟨193,0,[(3,.c (.ptr 64000000 0)),(4,.c (.ptr 64000001 0)),(5,.c (.ptr 64000002 0)),(6,.c (.ptr 64000003 0)),(8,.c (.int .i64 a)),(11,.c (.ptr 64000004 0)),(14,.c (.int .i64 b))],[],[(256000000,.gone),(64000000,.box [.int .i64 e,.int .i64 j,.int .i64 l,.int .i64 m,.int .i64 o,.int .i64 s,.int .i64 t,.int .i64 u,.int .i64 w,.int .i64 x,.int .i64 y,.int .i64 z,.int .i64 B,.int .i64 C,.int .i64 D,.int .i64 G,.frz (.int .i64) H,.int .i64 I,.int .i64 J,.int .i64 K,.int .i64 P,.int .i64 N,.int .i64 O,.int .i64 U,.int .i64 T,.int .i64 Q,.int .i64 M,.frz y19 W,.frz y27 X,.frz y4 V,.frz y38 S]),(64000001,.box [.int .i64 aa,.int .i64 Z,.int .i64 ab,.frz y4 ad]),(64000002,.box [.int .i64 ae,.int .i64 ac,.int .i64 af,.int .i64 ag]),(64000003,.box [.int .i64 ah,.int .i64 ai,.int .i64 aj,.int .i64 al,.int .i64 ak,.int .i64 am]),(64000004,.box [.int .i64 an,.int .i64 ao,.int .i64 aw,.int .i64 ax,.int .i64 ay,.int .i64 bb,.int .i64 az,.int .i64 ba,.int .i64 ap,.int .i64 aq,.int .i64 ar,.int .i64 au,.int .i64 bc])]⟩
noncomputable def l3 ( k n:Nat) (v:T3):Option R:=held (loopN cs n b22 (K22 k) (s3 v))
noncomputable def D3 (v:T3):Option R:=lim fun L=>l3 (L 0) (L 1) v
theorem D3_cn (v:T3):Cn late (D3 v) fun L=>l3 (L 0) (L 1) v:=of_lim
noncomputable def d0 (p0:Y1) (p1:Y2):Y0:=fun (a,b,e,j,l,m,o,s,t,u,w,x,y,z,B,C,D,G,H,I,J,K,P,N,O,U,T,Q,M,W,X,V,S,aa,Z,ab,ad,ae,ac,af,ag,ah,ai,aj,al,ak,am,an,ao) =>
br (decide (j < e)) (br (decide (0 ≤ j ∧ j < (↑b.length:Int))) (br (decide ((rd ty0 b j).1 = af)) (p0 (j,b,e,j,l,m,o,s,t,u,w,x,y,z,B,C,D,G,H,I,J,K,P,N,O,U,T,Q,M,W,X,V,S,aa,Z,ab,ad,ae,ac,af,ag,ah,ai,aj,al,ak,am,an,ao)) (p0 (a,b,e,j,l,m,o,s,t,u,w,x,y,z,B,C,D,G,H,I,J,K,P,N,O,U,T,Q,M,W,X,V,S,aa,Z,ab,ad,ae,ac,af,ag,ah,ai,aj,al,ak,am,an,ao))) none) (br (decide (a < 0)) (some (0,0,0,0,0,0,8)) (br (decide (0 ≤ a ∧ a < (↑S.length:Int))) (br (decide (0 ≤ a ∧ a < (↑ac.length:Int))) (br (!decide (ai = (rd ty0 S a).2.2.2.1)) (some (0,0,0,0,0,0,3)) (br (decide (ah < ab) || decide (wrap .i64 (y - ai) < ah) || decide (ag < 0) || decide (wrap .i64 (ah - ab) < ag)) (some (0,0,0,0,0,0,11)) (br (decide ((rd ty0 S a).2.2.2.2.1 ≤ (↑(List.length (rd (Ty.int .i64).slice ac a)):Int))) (some (0,0,0,0,0,0,9)) (br (decide (0 < (↑(List.length (rd (Ty.int .i64).slice ac a)):Int))) (br (decide (0 ≤ wrap .i64 ((↑(List.length (rd (Ty.int .i64).slice ac a)):Int) - 1) ∧ wrap .i64 ((↑(List.length (rd (Ty.int .i64).slice ac a)):Int) - 1) < (↑(List.length (rd (Ty.int .i64).slice ac a)):Int))) (br (decide (wrap .i64 (ah - rd (Ty.int .i64) (rd (Ty.int .i64).slice ac a) (wrap .i64 ((↑(List.length (rd (Ty.int .i64).slice ac a)):Int) - 1))) < (rd ty0 S a).2.2.2.2.2.1) || decide ((rd ty0 S a).2.2.2.2.2.2.1 < wrap .i64 (ah - rd (Ty.int .i64) (rd (Ty.int .i64).slice ac a) (wrap .i64 ((↑(List.length (rd (Ty.int .i64).slice ac a)):Int) - 1))))) (some (0,0,0,0,0,0,17)) (p1 (a,l,m,o,s,t,u,w,x,y,z,B,C,D,G,H,I,J,K,P,N,O,U,T,Q,M,W,X,V,S,aa,Z,ab,ad,ae,ac,af,ag,ah,ai,aj,al,ak,am,an,ao,(rd ty0 S a).1,(rd ty0 S a).2.1,(rd ty0 S a).2.2.1.1,(rd ty0 S a).2.2.1.2.1,(rd ty0 S a).2.2.1.2.2,(rd ty0 S a).2.2.2.1,(rd ty0 S a).2.2.2.2.1,(rd ty0 S a).2.2.2.2.2.1,(rd ty0 S a).2.2.2.2.2.2.1,(rd ty0 S a).2.2.2.2.2.2.2.1,(rd ty0 S a).2.2.2.2.2.2.2.2.1,(rd ty0 S a).2.2.2.2.2.2.2.2.2.1,(rd ty0 S a).2.2.2.2.2.2.2.2.2.2))) none) (p1 (a,l,m,o,s,t,u,w,x,y,z,B,C,D,G,H,I,J,K,P,N,O,U,T,Q,M,W,X,V,S,aa,Z,ab,ad,ae,ac,af,ag,ah,ai,aj,al,ak,am,an,ao,(rd ty0 S a).1,(rd ty0 S a).2.1,(rd ty0 S a).2.2.1.1,(rd ty0 S a).2.2.1.2.1,(rd ty0 S a).2.2.1.2.2,(rd ty0 S a).2.2.2.1,(rd ty0 S a).2.2.2.2.1,(rd ty0 S a).2.2.2.2.2.1,(rd ty0 S a).2.2.2.2.2.2.1,(rd ty0 S a).2.2.2.2.2.2.2.1,(rd ty0 S a).2.2.2.2.2.2.2.2.1,(rd ty0 S a).2.2.2.2.2.2.2.2.2.1,(rd ty0 S a).2.2.2.2.2.2.2.2.2.2)))))) none) none))
theorem d0_cn (k0:Pr E T1 R) (k1:Pr E T2 R):∀ v:T0,Cn E (d0 k0.p k1.p v) fun i=>d0 (k0.q i) (k1.q i) v:=fun (a,b,e,j,l,m,o,s,t,u,w,x,y,z,B,C,D,G,H,I,J,K,P,N,O,U,T,Q,M,W,X,V,S,aa,Z,ab,ad,ae,ac,af,ag,ah,ai,aj,al,ak,am,an,ao)=>(.br (.br (.br (k0.h _) (k0.h _)) .none) (.br .some (.br (.br (.br .some (.br .some (.br .some (.br (.br (.br .some (k1.h _)) .none) (k1.h _))))) .none) .none)))
theorem l0_b ( k m1:Nat):∀ v:T0,run (cs m1) (loopN cs m1) b3 (kLoop cs m1 b3 (K3 k)) (s0 v) = d0 (l1 k m1) (l2 k) v:=fun (a,b,e,j,l,m,o,s,t,u,w,x,y,z,B,C,D,G,H,I,J,K,P,N,O,U,T,Q,M,W,X,V,S,aa,Z,ab,ad,ae,ac,af,ag,ah,ai,aj,al,ak,am,an,ao)=>by kernel_rfl
theorem D0_of (v:T0) {r:R} (h:d0 D1 D2 v = some r):D0 v = some r:=loop_of 1 (fun L n hn=>by show l0 (L 0) (L 1) v = _; rw [hn]; exact (held_eq _).trans ((loopN_succ _ _ _ _ _).trans (l0_b (L 0) n v))) (d0_cn (.mk fun v=>(D1_cn v).re [0,1]) (.mk fun v=>(D2_cn v).re [0]) v) h
def d1 (p0:Y0):Y1:=fun (a,b,e,j,l,m,o,s,t,u,w,x,y,z,B,C,D,G,H,I,J,K,P,N,O,U,T,Q,M,W,X,V,S,aa,Z,ab,ad,ae,ac,af,ag,ah,ai,aj,al,ak,am,an,ao) =>
p0 (a,b,e,wrap .i64 (j + 1),l,m,o,s,t,u,w,x,y,z,B,C,D,G,H,I,J,K,P,N,O,U,T,Q,M,W,X,V,S,aa,Z,ab,ad,ae,ac,af,ag,ah,ai,aj,al,ak,am,an,ao)
theorem d1_cn (k0:Pr E T0 R):∀ v:T1,Cn E (d1 k0.p v) fun i=>d1 (k0.q i) v:=fun (a,b,e,j,l,m,o,s,t,u,w,x,y,z,B,C,D,G,H,I,J,K,P,N,O,U,T,Q,M,W,X,V,S,aa,Z,ab,ad,ae,ac,af,ag,ah,ai,aj,al,ak,am,an,ao)=>(k0.h _)
theorem l1_b ( k m1:Nat):∀ v:T1,run (cs m1) (loopN cs m1) c1000007 (J1000007 k m1) (s1 v) = d1 (l0 k m1) v:=fun (a,b,e,j,l,m,o,s,t,u,w,x,y,z,B,C,D,G,H,I,J,K,P,N,O,U,T,Q,M,W,X,V,S,aa,Z,ab,ad,ae,ac,af,ag,ah,ai,aj,al,ak,am,an,ao)=>by kernel_rfl
theorem D1_of (v:T1) {r:R} (h:d1 D0 v = some r):D1 v = some r:=join_of (fun L=>(held_eq _).trans (l1_b (L 0) (L 1) v)) (d1_cn (.mk fun v=>(D0_cn v).re [0,1]) v) h
def d2 (p0:Y3):Y2:=fun (a,b,e,j,l,m,o,s,t,u,w,x,y,z,B,C,D,G,H,I,J,K,P,N,O,U,T,Q,M,W,X,V,S,aa,Z,ab,ad,ae,ac,af,ag,ah,ai,aj,al,ak,am,an,ao,aw,ax,ay,bb,az,ba,ap,aq,ar,au) =>
p0 (a,ac,b,e,j,l,m,o,s,t,u,w,x,y,z,B,C,D,G,H,I,J,K,P,N,O,U,T,Q,M,W,X,V,S,aa,Z,ab,ad,ae,ac,af,ag,ah,ai,aj,al,ak,am,an,ao,aw,ax,ay,bb,az,ba,ap,aq,ar,au)
theorem d2_cn (k0:Pr E T3 R):∀ v:T2,Cn E (d2 k0.p v) fun i=>d2 (k0.q i) v:=fun (a,b,e,j,l,m,o,s,t,u,w,x,y,z,B,C,D,G,H,I,J,K,P,N,O,U,T,Q,M,W,X,V,S,aa,Z,ab,ad,ae,ac,af,ag,ah,ai,aj,al,ak,am,an,ao,aw,ax,ay,bb,az,ba,ap,aq,ar,au)=>(k0.h _)
theorem l2_b ( k:Nat):∀ v:T2,run (cs k) (loopN cs k) c1000021 (J1000021 k) (s2 v) = d2 (l3 k k) v:=fun (a,b,e,j,l,m,o,s,t,u,w,x,y,z,B,C,D,G,H,I,J,K,P,N,O,U,T,Q,M,W,X,V,S,aa,Z,ab,ad,ae,ac,af,ag,ah,ai,aj,al,ak,am,an,ao,aw,ax,ay,bb,az,ba,ap,aq,ar,au)=>by kernel_rfl
theorem D2_of (v:T2) {r:R} (h:d2 D3 v = some r):D2 v = some r:=join_of (fun L=>(held_eq _).trans (l2_b (L 0) v)) (d2_cn (.mk fun v=>(D3_cn v).re [0,0]) v) h
noncomputable def d3 (p0:Y3) (p1:g157.Y) (p2:g158.Y) (p3:g160.Y):Y3:=fun (a,b,e,j,l,m,o,s,t,u,w,x,y,z,B,C,D,G,H,I,J,K,P,N,O,U,T,Q,M,W,X,V,S,aa,Z,ab,ad,ae,ac,af,ag,ah,ai,aj,al,ak,am,an,ao,aw,ax,ay,bb,az,ba,ap,aq,ar,au,bc) =>
br (decide (b < wrap .i64 (af + ag))) (br (decide (0 ≤ a ∧ a < (↑V.length:Int))) (br (decide (0 ≤ b ∧ b < (↑(List.length (rd (Ty.int .i64).slice V a)):Int))) (br (!decide (rd (Ty.int .i64) (rd (Ty.int .i64).slice V a) b = 0)) (some (0,0,0,0,0,0,16)) (p0 (a,wrap .i64 (b + 1),e,j,l,m,o,s,t,u,w,x,y,z,B,C,D,G,H,I,J,K,P,N,O,U,T,Q,M,W,X,V,S,aa,Z,ab,ad,ae,ac,af,ag,ah,ai,aj,al,ak,am,an,ao,aw,ax,ay,bb,az,ba,ap,aq,ar,au,bc))) none) none) (br (decide (0 ≤ a ∧ a < (↑S.length:Int))) (br (decide (0 ≤ af ∧ af < (↑(List.length (rd ((Ty.int .i64).pair (Ty.int .i64)).slice S a)):Int))) (bnd (p1 (I,J,K,P,N,O,U,T,Q,M,Z,ab,(rd ((Ty.int .i64).pair (Ty.int .i64)) (rd ((Ty.int .i64).pair (Ty.int .i64)).slice S a) af).1,(rd ((Ty.int .i64).pair (Ty.int .i64)) (rd ((Ty.int .i64).pair (Ty.int .i64)).slice S a) af).2)) fun r=>br (!decide (r.2.2.2 = 0)) (some (0,0,0,0,0,0,4)) (bnd (p2 (e,j,l,m,o,s,t,u,w,x,y,z,B,C,D,G,H,r.2.2.1)) fun r_1=>br (decide (ac < r_1)) (some (0,0,0,0,0,0,14)) (bnd (p3 (I,J,K,P,N,O,U,T,Q,M,e,j,l,m,o,s,t,u,w,x,y,z,B,C,D,G,H,r.1,r.2.1,aw,ax,ay,af,wrap .i64 (af + ag))) fun r_2=>br (!decide (r_2.2.2 = 0)) (some (0,0,0,0,0,0,4)) (some (a,af,r.1,r.2.1,r_2.1,r_2.2.1,0))))) none) none)
theorem d3_cn (k0:Pr E T3 R) (k1:Pr E g157.A g157.R) (k2:Pr E g158.A g158.R) (k3:Pr E g160.A g160.R):∀ v:T3,Cn E (d3 k0.p k1.p k2.p k3.p v) fun i=>d3 (k0.q i) (k1.q i) (k2.q i) (k3.q i) v:=fun (a,b,e,j,l,m,o,s,t,u,w,x,y,z,B,C,D,G,H,I,J,K,P,N,O,U,T,Q,M,W,X,V,S,aa,Z,ab,ad,ae,ac,af,ag,ah,ai,aj,al,ak,am,an,ao,aw,ax,ay,bb,az,ba,ap,aq,ar,au,bc)=>(.br (.br (.br (.br .some (k0.h _)) .none) .none) (.br (.br (.bnd (k1.h _) fun _=>(.br .some (.bnd (k2.h _) fun _=>(.br .some (.bnd (k3.h _) fun _=>(.br .some .some)))))) .none) .none))
theorem l3_b ( k m1:Nat):∀ v:T3,run (cs m1) (loopN cs m1) b22 (kLoop cs m1 b22 (K22 k)) (s3 v) = d3 (l3 k m1) (g157.f k) (g158.f k) (g160.f k) v:=fun (a,b,e,j,l,m,o,s,t,u,w,x,y,z,B,C,D,G,H,I,J,K,P,N,O,U,T,Q,M,W,X,V,S,aa,Z,ab,ad,ae,ac,af,ag,ah,ai,aj,al,ak,am,an,ao,aw,ax,ay,bb,az,ba,ap,aq,ar,au,bc)=>by kernel_rfl
theorem D3_of (v:T3) {r:R} (h:d3 D3 g157.F g158.F g160.F v = some r):D3 v = some r:=loop_of 1 (fun L n hn=>by show l3 (L 0) (L 1) v = _; rw [hn]; exact (held_eq _).trans ((loopN_succ _ _ _ _ _).trans (l3_b (L 0) n v))) (d3_cn (.mk fun v=>(D3_cn v).re [0,1]) (lp g157.f 0) (lp g158.f 0) (lp g160.f 0) v) h
noncomputable def f (k:Nat):Y:=fun v=>held (runFn cs k Tryz.f66 (sh.args v) (sh.slots v) dec)
noncomputable def F:Y:=lm f
def d (p0:Y0):Y:=fun (a,b,e,j,l,m,o,s,t,u,w,x,y,z,B,C,D,G,H,I,J,K,P,N,O,U,T,Q,M,W,X,V,S,aa,Z,ab,ad,ae,ac) =>
p0 (-1,M,(↑M.length:Int),0,a,b,e,j,l,m,o,s,t,u,w,x,y,z,B,C,D,G,H,I,J,K,P,N,O,U,T,Q,M,W,X,V,S,aa,Z,ab,ad,ae,ac,0,0,0,0,0,0)
theorem d_cn (k0:Pr E T0 R):∀ v:A,Cn E (d k0.p v) fun i=>d (k0.q i) v:=fun (a,b,e,j,l,m,o,s,t,u,w,x,y,z,B,C,D,G,H,I,J,K,P,N,O,U,T,Q,M,W,X,V,S,aa,Z,ab,ad,ae,ac)=>(k0.h _)
theorem f_b (k:Nat):∀ v:A,f k v = d (l0 k k) v:=fun (a,b,e,j,l,m,o,s,t,u,w,x,y,z,B,C,D,G,H,I,J,K,P,N,O,U,T,Q,M,W,X,V,S,aa,Z,ab,ad,ae,ac)=>(held_eq _).trans (by kernel_rfl)
theorem F_of (v:A) {r:R} (h:d D0 v = some r):F v = some r:=join_of (fun L=>f_b (L 0) v) (d_cn (.mk fun v=>(D0_cn v).re [0,0]) v) h
noncomputable def spec (k:Nat):List AV→List Slot→Option Ans:=specS sh os (f k)
theorem spec_ok (k:Nat):SpecOk Tryz.prog 66 (spec k):=specS_ok cs_ok Tryz.func66 rfl rfl (fun _ _=>held_eq _) k
end g179
noncomputable def tg179:=tg178.cons 66 g179.spec g179.spec_ok
namespace g180 -- plan_Desk_After
abbrev R:Type:=Int × Int × Int × Int × List (List Int)
abbrev A:Type:=Int × Int × Int × Int × Int × Int × Int × Int × Int × Int × Int × Int × Int × Int × Int × Int × List Int × Int × Int × Int × Int × Int × Int × Int × Int × Int × Int × List (ByteArray × Int) × List (Int × Int × (Int × Int × Int) × Int × Int × Int × Int × Int × Int × Int × Int) × List (List Int) × List (List (Int × Int)) × List (Int × Int × Int × Int)
abbrev Y:=A→Option R
def lv:List (Nat × List Nat):=[(2000000,[4,5]),(8,[2,4,6,31,32,33])]
noncomputable def cs:Nat→Ctx:=ctxOf tis modes tg179.1 lv
theorem cs_ok (n:Nat):CtxOk Tryz.prog (cs n):=ctxOf_ok rfl tis_ok tg179.2 n
def sh:AS:=⟨[.agg [.int .i64,.int .i64,.int .i64,.int .i64,.int .i64,.int .i64,.int .i64,.int .i64,.int .i64,.int .i64,.int .i64,.int .i64,.int .i64,.int .i64,.int .i64,.int .i64,.frz (.int .i64),.int .i64,.int .i64,.int .i64,.int .i64,.int .i64,.int .i64,.int .i64,.int .i64,.int .i64,.int .i64,.frz y19,.frz y27,.frz y4,.frz y38],.c (.frz y8)],[]⟩
def os:OS:=⟨.tup [.agg [.int .i64,.int .i64,.int .i64,.sl 128000000],.c (.int .i64)],[(.nest y4)]⟩
def enc (r:R):Out:=os.enc r
def dec:Out→Option R:=os.dec
noncomputable def b0:Code:=subF [] Tryz.f55
noncomputable def K0 (k:Nat):Kt R:=kTop (cs k) Tryz.f55 dec
noncomputable def b8:Code:=sub [1,1,1,1,0,1,0,0] b0
noncomputable def K8 ( k:Nat):Kt R:=kAt (cs k) (loopN cs k) [1,1,1,1,0,1,0] b0 (K0 k)
abbrev T0:Type:=List (Int × Int × Int × Int) × Int × Int × Int × Int × Int × Int × Int × Int × Int × Int × Int × Int × Int × Int × Int × Int × Int × Int × List Int × Int × Int × Int × Int × Int × Int × Int × Int × Int × Int × List (ByteArray × Int) × List (Int × Int × (Int × Int × Int) × Int × Int × Int × Int × Int × Int × Int × Int) × List (List Int) × List (List (Int × Int)) × Int × Int × Int × Int × Int × Int × List (List Int) × List (List Int)
abbrev Y0:=T0→Option R
noncomputable def s0:T0→St:=fun (a,b,e,j,l,m,o,s,t,u,w,x,y,z,B,C,D,G,H,I,J,K,P,N,O,U,T,Q,M,W,X,V,S,aa,Z,ab,ad,ae,ac,af,ag,ah)=>⟨53,0,[(2,.c (.ptr 64000000 0)),(4,.c (.ptr 64000001 0)),(6,.c (.ptr 64000002 0)),(31,.c (.frz y8 a)),(32,.c (.int .i64 b)),(33,.c (.int .i64 e))],[],[(256000000,.gone),(64000000,.box [.int .i64 j,.int .i64 l,.int .i64 m,.int .i64 o,.int .i64 s,.int .i64 t,.int .i64 u,.int .i64 w,.int .i64 x,.int .i64 y,.int .i64 z,.int .i64 B,.int .i64 C,.int .i64 D,.int .i64 G,.int .i64 H,.frz (.int .i64) I,.int .i64 J,.int .i64 K,.int .i64 P,.int .i64 N,.int .i64 O,.int .i64 U,.int .i64 T,.int .i64 Q,.int .i64 M,.int .i64 W,.frz y19 X,.frz y27 V,.frz y4 S,.frz y38 aa]),(64000001,.box [.int .i64 Z,.int .i64 ab,.int .i64 ad,.sl 64000003]),(64000002,.box [.int .i64 ae,.int .i64 ac,.int .i64 af,.sl 64000004]),(64000003,.nest y4 ag .none),(64000004,.nest y4 ah .none)]⟩
noncomputable def l0 ( k n:Nat) (v:T0):Option R:=held (loopN cs n b8 (K8 k) (s0 v))
noncomputable def D0 (v:T0):Option R:=lim fun L=>l0 (L 0) (L 1) v
theorem D0_cn (v:T0):Cn late (D0 v) fun L=>l0 (L 0) (L 1) v:=of_lim
noncomputable def d0 (p0:g179.Y) (p1:g173.Y) (p2:Y0):Y0:=fun (a,b,e,j,l,m,o,s,t,u,w,x,y,z,B,C,D,G,H,I,J,K,P,N,O,U,T,Q,M,W,X,V,S,aa,Z,ab,ad,ae,ac,af,ag,ah) =>
br (decide (e < b)) (br (decide (0 ≤ e ∧ e < (↑a.length:Int))) (bnd (p0 (j,l,m,o,s,t,u,w,x,y,z,B,C,D,G,H,I,J,K,P,N,O,U,T,Q,M,W,X,V,S,aa,ae,ac,af,ah,(rd ty2 a e).1,(rd ty2 a e).2.1,(rd ty2 a e).2.2.1,(rd ty2 a e).2.2.2)) fun r=>br (!decide (r.2.2.2.2.2.2 = 0)) (some (0,0,0,r.2.2.2.2.2.2,[])) (bnd (p1 (j,l,m,o,s,t,u,w,x,y,z,B,C,D,G,H,I,J,K,P,N,O,U,T,Q,M,W,X,V,S,aa,r.1,r.2.1,r.2.2.1,r.2.2.2.1,r.2.2.2.2.1,r.2.2.2.2.2.1,ae,ac,af,ah)) fun r=>p2 (a,b,wrap .i64 (e + 1),j,l,m,o,s,t,u,w,x,y,z,B,C,D,G,H,I,J,K,P,N,O,U,T,Q,M,W,X,V,S,aa,Z,ab,ad,r.2.2.2.2.1,r.2.2.2.2.2.1,r.2.2.2.2.2.2.1,ag,r.2.2.2.2.2.2.2))) none) (some (ae,ac,af,0,ah))
theorem d0_cn (k0:Pr E g179.A g179.R) (k1:Pr E g173.A g173.R) (k2:Pr E T0 R):∀ v:T0,Cn E (d0 k0.p k1.p k2.p v) fun i=>d0 (k0.q i) (k1.q i) (k2.q i) v:=fun (a,b,e,j,l,m,o,s,t,u,w,x,y,z,B,C,D,G,H,I,J,K,P,N,O,U,T,Q,M,W,X,V,S,aa,Z,ab,ad,ae,ac,af,ag,ah)=>(.br (.br (.bnd (k0.h _) fun _=>(.br .some (.bnd (k1.h _) fun _=>(k2.h _)))) .none) .some)
theorem l0_b ( k m1:Nat):∀ v:T0,run (cs m1) (loopN cs m1) b8 (kLoop cs m1 b8 (K8 k)) (s0 v) = d0 (g179.f m1) (g173.f m1) (l0 k m1) v:=fun (a,b,e,j,l,m,o,s,t,u,w,x,y,z,B,C,D,G,H,I,J,K,P,N,O,U,T,Q,M,W,X,V,S,aa,Z,ab,ad,ae,ac,af,ag,ah)=>by kernel_rfl
theorem D0_of (v:T0) {r:R} (h:d0 g179.F g173.F D0 v = some r):D0 v = some r:=loop_of 1 (fun L n hn=>by show l0 (L 0) (L 1) v = _; rw [hn]; exact (held_eq _).trans ((loopN_succ _ _ _ _ _).trans (l0_b (L 0) n v))) (d0_cn (lp g179.f 1) (lp g173.f 1) (.mk fun v=>(D0_cn v).re [0,1]) v) h
noncomputable def f (k:Nat):Y:=fun v=>held (runFn cs k Tryz.f55 (sh.args v) (sh.slots v) dec)
noncomputable def F:Y:=lm f
noncomputable def d (p0:g11.Y) (p1:g148.Y) (p2:Y0):Y:=fun (a,b,e,j,l,m,o,s,t,u,w,x,y,z,B,C,D,G,H,I,J,K,P,N,O,U,T,Q,M,W,X,V) =>
bnd (p0 (G,H,I,J,K,P,N,O,U,T,Q,M)) fun r=>bnd (p1 (a,b,e,j,l,m,o,s,t,u,w,x,y,z,B,C,D,G,H,I,J,K,P,N,O,U,T,Q,M,W,X,r.1,r.2.1,r.2.2.1,r.2.2.2)) fun r_1=>br (!decide (r_1 = 0)) (some (0,0,0,r_1,[])) (br (decide (t < (↑V.length:Int))) (some (0,0,0,2,[])) (p2 (V,(↑V.length:Int),0,a,b,e,j,l,m,o,s,t,u,w,x,y,z,B,C,D,G,H,I,J,K,P,N,O,U,T,Q,M,W,X,0,0,0,r.1,r.2.1,r.2.2.1,[],r.2.2.2)))
theorem d_cn (k0:Pr E g11.A g11.R) (k1:Pr E g148.A g148.R) (k2:Pr E T0 R):∀ v:A,Cn E (d k0.p k1.p k2.p v) fun i=>d (k0.q i) (k1.q i) (k2.q i) v:=fun (a,b,e,j,l,m,o,s,t,u,w,x,y,z,B,C,D,G,H,I,J,K,P,N,O,U,T,Q,M,W,X,V)=>(.bnd (k0.h _) fun _=>(.bnd (k1.h _) fun _=>(.br .some (.br .some (k2.h _)))))
theorem f_b (k:Nat):∀ v:A,f k v = d (g11.f k) (g148.f k) (l0 k k) v:=fun (a,b,e,j,l,m,o,s,t,u,w,x,y,z,B,C,D,G,H,I,J,K,P,N,O,U,T,Q,M,W,X,V)=>(held_eq _).trans (by kernel_rfl)
theorem F_of (v:A) {r:R} (h:d g11.F g148.F D0 v = some r):F v = some r:=join_of (fun L=>f_b (L 0) v) (d_cn (lp g11.f 0) (lp g148.f 0) (.mk fun v=>(D0_cn v).re [0,0]) v) h
noncomputable def spec (k:Nat):List AV→List Slot→Option Ans:=specS sh os (f k)
theorem spec_ok (k:Nat):SpecOk Tryz.prog 55 (spec k):=specS_ok cs_ok Tryz.func55 rfl rfl (fun _ _=>held_eq _) k
end g180
noncomputable def tg180:=tg179.cons 55 g180.spec g180.spec_ok
namespace g181 -- plan_After
abbrev R:Type:=Int × Int × Int × Int × List (List Int)
abbrev A:Type:=Int × Int × Int × Int × Int × Int × Int × Int × Int × Int × Int × Int × Int × Int × Int × Int × List Int × Int × Int × Int × Int × Int × Int × Int × Int × Int × Int × List (ByteArray × Int) × List (Int × Int × (Int × Int × Int) × Int × Int × Int × Int × Int × Int × Int × Int) × List (Int × Int × Int × Int)
abbrev Y:=A→Option R
def lv:List (Nat × List Nat):=[(2000000,[8,9])]
noncomputable def cs:Nat→Ctx:=ctxOf tis modes tg180.1 lv
theorem cs_ok (n:Nat):CtxOk Tryz.prog (cs n):=ctxOf_ok rfl tis_ok tg180.2 n
def sh:AS:=⟨[.agg [.int .i64,.int .i64,.int .i64,.int .i64,.int .i64,.int .i64,.int .i64,.int .i64,.int .i64,.int .i64,.int .i64,.int .i64,.int .i64,.int .i64,.int .i64,.int .i64,.frz (.int .i64)],.agg [.int .i64,.int .i64,.int .i64,.int .i64,.int .i64,.int .i64,.int .i64,.int .i64,.int .i64,.int .i64],.agg [.frz y19,.frz y27],.c (.frz y8)],[]⟩
def os:OS:=⟨.tup [.agg [.int .i64,.int .i64,.int .i64,.sl 128000000],.c (.int .i64)],[(.nest y4)]⟩
def enc (r:R):Out:=os.enc r
def dec:Out→Option R:=os.dec
noncomputable def b0:Code:=subF [] Tryz.f25
noncomputable def K0 (k:Nat):Kt R:=kTop (cs k) Tryz.f25 dec
noncomputable def f (k:Nat):Y:=fun v=>held (runFn cs k Tryz.f25 (sh.args v) (sh.slots v) dec)
noncomputable def F:Y:=lm f
noncomputable def d (p0:g146.Y) (p1:g180.Y):Y:=fun (a,b,e,j,l,m,o,s,t,u,w,x,y,z,B,C,D,G,H,I,J,K,P,N,O,U,T,Q,M,W) =>
bnd (p0 (a,b,e,j,l,m,o,s,t,u,w,x,y,z,B,C,D,G,H,I,J,K,P,N,O,U,T,Q,M)) fun r=>br (!decide (r.2.2.2.2.2.2.2.2.2.2.2.2.2.2.2.2.2.2.2.2.2.2.2.2.2.2.1 = 0)) (some (0,0,0,r.2.2.2.2.2.2.2.2.2.2.2.2.2.2.2.2.2.2.2.2.2.2.2.2.2.2.1,[])) (bnd (p1 (r.1,r.2.1,r.2.2.1,r.2.2.2.1,r.2.2.2.2.1,r.2.2.2.2.2.1,r.2.2.2.2.2.2.1,r.2.2.2.2.2.2.2.1,r.2.2.2.2.2.2.2.2.1,r.2.2.2.2.2.2.2.2.2.1,r.2.2.2.2.2.2.2.2.2.2.1,r.2.2.2.2.2.2.2.2.2.2.2.1,r.2.2.2.2.2.2.2.2.2.2.2.2.1,r.2.2.2.2.2.2.2.2.2.2.2.2.2.1,r.2.2.2.2.2.2.2.2.2.2.2.2.2.2.1,r.2.2.2.2.2.2.2.2.2.2.2.2.2.2.2.1,r.2.2.2.2.2.2.2.2.2.2.2.2.2.2.2.2.2.2.2.2.2.2.2.2.2.2.2.1,r.2.2.2.2.2.2.2.2.2.2.2.2.2.2.2.2.1,r.2.2.2.2.2.2.2.2.2.2.2.2.2.2.2.2.2.1,r.2.2.2.2.2.2.2.2.2.2.2.2.2.2.2.2.2.2.1,r.2.2.2.2.2.2.2.2.2.2.2.2.2.2.2.2.2.2.2.1,r.2.2.2.2.2.2.2.2.2.2.2.2.2.2.2.2.2.2.2.2.1,r.2.2.2.2.2.2.2.2.2.2.2.2.2.2.2.2.2.2.2.2.2.1,r.2.2.2.2.2.2.2.2.2.2.2.2.2.2.2.2.2.2.2.2.2.2.1,r.2.2.2.2.2.2.2.2.2.2.2.2.2.2.2.2.2.2.2.2.2.2.2.1,r.2.2.2.2.2.2.2.2.2.2.2.2.2.2.2.2.2.2.2.2.2.2.2.2.1,r.2.2.2.2.2.2.2.2.2.2.2.2.2.2.2.2.2.2.2.2.2.2.2.2.2.1,r.2.2.2.2.2.2.2.2.2.2.2.2.2.2.2.2.2.2.2.2.2.2.2.2.2.2.2.2.1,r.2.2.2.2.2.2.2.2.2.2.2.2.2.2.2.2.2.2.2.2.2.2.2.2.2.2.2.2.2.1,r.2.2.2.2.2.2.2.2.2.2.2.2.2.2.2.2.2.2.2.2.2.2.2.2.2.2.2.2.2.2.1,r.2.2.2.2.2.2.2.2.2.2.2.2.2.2.2.2.2.2.2.2.2.2.2.2.2.2.2.2.2.2.2,W)) fun r=>some (r.1,r.2.1,r.2.2.1,r.2.2.2.1,r.2.2.2.2))
theorem d_cn (k0:Pr E g146.A g146.R) (k1:Pr E g180.A g180.R):∀ v:A,Cn E (d k0.p k1.p v) fun i=>d (k0.q i) (k1.q i) v:=fun (a,b,e,j,l,m,o,s,t,u,w,x,y,z,B,C,D,G,H,I,J,K,P,N,O,U,T,Q,M,W)=>(.bnd (k0.h _) fun _=>(.br .some (.bnd (k1.h _) fun _=>.some)))
theorem f_b (k:Nat):∀ v:A,f k v = d (g146.f k) (g180.f k) v:=fun (a,b,e,j,l,m,o,s,t,u,w,x,y,z,B,C,D,G,H,I,J,K,P,N,O,U,T,Q,M,W)=>(held_eq _).trans (by kernel_rfl)
theorem F_of (v:A) {r:R} (h:d g146.F g180.F v = some r):F v = some r:=join_of (fun L=>f_b (L 0) v) (d_cn (lp g146.f 0) (lp g180.f 0) v) h
noncomputable def spec (k:Nat):List AV→List Slot→Option Ans:=specS sh os (f k)
theorem spec_ok (k:Nat):SpecOk Tryz.prog 25 (spec k):=specS_ok cs_ok Tryz.func25 rfl rfl (fun _ _=>held_eq _) k
end g181
noncomputable def tg181:=tg180.cons 25 g181.spec g181.spec_ok
namespace g182 -- slices_Equal_Visit
abbrev R:Type:=Bool
abbrev A:Type:=List (Int × Int × Int × Int) × List (Int × Int × Int × Int)
abbrev Y:=A→Option R
def lv:List (Nat × List Nat):=[(2000000,[4]),(4,[0,1,12,13])]
noncomputable def cs:Nat→Ctx:=ctxOf tis modes tg181.1 lv
theorem cs_ok (n:Nat):CtxOk Tryz.prog (cs n):=ctxOf_ok rfl tis_ok tg181.2 n
def sh:AS:=⟨[.c (.frz y8),.c (.frz y8)],[]⟩
def os:OS:=⟨.c .bool,[]⟩
def enc (r:R):Out:=os.enc r
def dec:Out→Option R:=os.dec
noncomputable def b0:Code:=subF [] Tryz.f27
noncomputable def K0 (k:Nat):Kt R:=kTop (cs k) Tryz.f27 dec
noncomputable def b4:Code:=sub [1,1,0,1,0,0] b0
noncomputable def K4 ( k:Nat):Kt R:=kAt (cs k) (loopN cs k) [1,1,0,1,0] b0 (K0 k)
abbrev T0:Type:=List (Int × Int × Int × Int) × List (Int × Int × Int × Int) × Int × Int
abbrev Y0:=T0→Option R
def s0:T0→St:=fun (a,b,e,j)=>⟨26,0,[(0,.c (.frz y8 a)),(1,.c (.frz y8 b)),(12,.c (.int .i64 e)),(13,.c (.int .i64 j))],[],[(256000000,.gone)]⟩
noncomputable def l0 ( k n:Nat) (v:T0):Option R:=held (loopN cs n b4 (K4 k) (s0 v))
noncomputable def D0 (v:T0):Option R:=lim fun L=>l0 (L 0) (L 1) v
theorem D0_cn (v:T0):Cn late (D0 v) fun L=>l0 (L 0) (L 1) v:=of_lim
def d0 (p0:Y0):Y0:=fun (a,b,e,j) =>
br (decide (j < e)) (br (decide (0 ≤ j ∧ j < (↑a.length:Int))) (br (decide (0 ≤ j ∧ j < (↑b.length:Int))) (br (!(decide ((rd ty2 a j).1 = (rd ty2 b j).1) && (decide ((rd ty2 a j).2.1 = (rd ty2 b j).2.1) && (decide ((rd ty2 a j).2.2.1 = (rd ty2 b j).2.2.1) && (decide ((rd ty2 a j).2.2.2 = (rd ty2 b j).2.2.2) && true))))) (some false) (p0 (a,b,e,wrap .i64 (j + 1)))) none) none) (some true)
theorem d0_cn (k0:Pr E T0 R):∀ v:T0,Cn E (d0 k0.p v) fun i=>d0 (k0.q i) v:=fun (a,b,e,j)=>(.br (.br (.br (.br .some (k0.h _)) .none) .none) .some)
theorem l0_b ( k m1:Nat):∀ v:T0,run (cs m1) (loopN cs m1) b4 (kLoop cs m1 b4 (K4 k)) (s0 v) = d0 (l0 k m1) v:=fun (a,b,e,j)=>by kernel_rfl
theorem D0_of (v:T0) {r:R} (h:d0 D0 v = some r):D0 v = some r:=loop_of 1 (fun L n hn=>by show l0 (L 0) (L 1) v = _; rw [hn]; exact (held_eq _).trans ((loopN_succ _ _ _ _ _).trans (l0_b (L 0) n v))) (d0_cn (.mk fun v=>(D0_cn v).re [0,1]) v) h
noncomputable def f (k:Nat):Y:=fun v=>held (runFn cs k Tryz.f27 (sh.args v) (sh.slots v) dec)
noncomputable def F:Y:=lm f
def d (p0:Y0):Y:=fun (a,b) =>
br (!decide ((↑a.length:Int) = (↑b.length:Int))) (some false) (p0 (a,b,(↑a.length:Int),0))
theorem d_cn (k0:Pr E T0 R):∀ v:A,Cn E (d k0.p v) fun i=>d (k0.q i) v:=fun (a,b)=>(.br .some (k0.h _))
theorem f_b (k:Nat):∀ v:A,f k v = d (l0 k k) v:=fun (a,b)=>(held_eq _).trans (by kernel_rfl)
theorem F_of (v:A) {r:R} (h:d D0 v = some r):F v = some r:=join_of (fun L=>f_b (L 0) v) (d_cn (.mk fun v=>(D0_cn v).re [0,0]) v) h
noncomputable def spec (k:Nat):List AV→List Slot→Option Ans:=specS sh os (f k)
theorem spec_ok (k:Nat):SpecOk Tryz.prog 27 (spec k):=specS_ok cs_ok Tryz.func27 rfl rfl (fun _ _=>held_eq _) k
end g182
noncomputable def tg182:=tg181.cons 27 g182.spec g182.spec_ok
namespace g183 -- spykeep2_PlanPrefix
abbrev R:Type:=Bool
abbrev A:Type:=List Int × Int
abbrev Y:=A→Option R
def lv:List (Nat × List Nat):=[(2000000,[4])]
noncomputable def cs:Nat→Ctx:=ctxOf tis modes tg182.1 lv
theorem cs_ok (n:Nat):CtxOk Tryz.prog (cs n):=ctxOf_ok rfl tis_ok tg182.2 n
def sh:AS:=⟨[.c (.frz (.int .i64)),.c (.int .i64)],[]⟩
def os:OS:=⟨.c .bool,[]⟩
def enc (r:R):Out:=os.enc r
def dec:Out→Option R:=os.dec
noncomputable def b0:Code:=subF [] Tryz.f7
noncomputable def K0 (k:Nat):Kt R:=kTop (cs k) Tryz.f7 dec
noncomputable def f (k:Nat):Y:=fun v=>held (runFn cs k Tryz.f7 (sh.args v) (sh.slots v) dec)
noncomputable def F:Y:=lm f
noncomputable def d (p0:g178.Y) (p1:g0.Y) (p2:g181.Y) (p3:g175.Y) (p4:g182.Y) (p5:g147.Y):Y:=fun (a,b) =>
bnd (p0 (20,5,0,0,0,0,0,0,0,0,0,0,0,0,0,0,0,0,0,0,0,0,0,0,0,0,0,0,a,0,[],[],[],[])) fun r=>br (!r.1) (some false) (bnd (p1 (b,wrap .i64 ((↑r.2.2.2.2.2.2.2.2.2.2.2.2.2.2.2.2.2.2.2.2.2.2.2.2.2.2.2.2.2.2.2.2.2.2.2.2.length:Int) + 1))) fun r_1=>br (decide (0 ≤ r_1 ∧ r_1 ≤ (↑r.2.2.2.2.2.2.2.2.2.2.2.2.2.2.2.2.2.2.2.2.2.2.2.2.2.2.2.2.2.2.2.2.2.2.2.2.length:Int))) (bnd (p2 (r.2.1,r.2.2.1,r.2.2.2.1,r.2.2.2.2.1,r.2.2.2.2.2.1,r.2.2.2.2.2.2.1,r.2.2.2.2.2.2.2.1,r.2.2.2.2.2.2.2.2.1,r.2.2.2.2.2.2.2.2.2.1,r.2.2.2.2.2.2.2.2.2.2.1,r.2.2.2.2.2.2.2.2.2.2.2.1,r.2.2.2.2.2.2.2.2.2.2.2.2.1,r.2.2.2.2.2.2.2.2.2.2.2.2.2.1,r.2.2.2.2.2.2.2.2.2.2.2.2.2.2.1,r.2.2.2.2.2.2.2.2.2.2.2.2.2.2.2.1,r.2.2.2.2.2.2.2.2.2.2.2.2.2.2.2.2.1,r.2.2.2.2.2.2.2.2.2.2.2.2.2.2.2.2.2.2.2.2.2.2.2.2.2.2.2.2.2.2.2.2.2.1,r.2.2.2.2.2.2.2.2.2.2.2.2.2.2.2.2.2.1,r.2.2.2.2.2.2.2.2.2.2.2.2.2.2.2.2.2.2.1,r.2.2.2.2.2.2.2.2.2.2.2.2.2.2.2.2.2.2.2.1,r.2.2.2.2.2.2.2.2.2.2.2.2.2.2.2.2.2.2.2.2.1,r.2.2.2.2.2.2.2.2.2.2.2.2.2.2.2.2.2.2.2.2.2.1,r.2.2.2.2.2.2.2.2.2.2.2.2.2.2.2.2.2.2.2.2.2.2.1,r.2.2.2.2.2.2.2.2.2.2.2.2.2.2.2.2.2.2.2.2.2.2.2.1,r.2.2.2.2.2.2.2.2.2.2.2.2.2.2.2.2.2.2.2.2.2.2.2.2.1,r.2.2.2.2.2.2.2.2.2.2.2.2.2.2.2.2.2.2.2.2.2.2.2.2.2.1,r.2.2.2.2.2.2.2.2.2.2.2.2.2.2.2.2.2.2.2.2.2.2.2.2.2.2.1,r.2.2.2.2.2.2.2.2.2.2.2.2.2.2.2.2.2.2.2.2.2.2.2.2.2.2.2.2.2.2.2.2.2.2.1,r.2.2.2.2.2.2.2.2.2.2.2.2.2.2.2.2.2.2.2.2.2.2.2.2.2.2.2.2.2.2.2.2.2.2.2.1,List.drop (Int.toNat 0) (List.take r_1.toNat r.2.2.2.2.2.2.2.2.2.2.2.2.2.2.2.2.2.2.2.2.2.2.2.2.2.2.2.2.2.2.2.2.2.2.2.2))) fun r_2=>bnd (p3 (r.2.1,r.2.2.1,r.2.2.2.1,r.2.2.2.2.1,r.2.2.2.2.2.1,r.2.2.2.2.2.2.1,r.2.2.2.2.2.2.2.1,r.2.2.2.2.2.2.2.2.1,r.2.2.2.2.2.2.2.2.2.1,r.2.2.2.2.2.2.2.2.2.2.1,r.2.2.2.2.2.2.2.2.2.2.2.1,r.2.2.2.2.2.2.2.2.2.2.2.2.1,r.2.2.2.2.2.2.2.2.2.2.2.2.2.1,r.2.2.2.2.2.2.2.2.2.2.2.2.2.2.1,r.2.2.2.2.2.2.2.2.2.2.2.2.2.2.2.1,r.2.2.2.2.2.2.2.2.2.2.2.2.2.2.2.2.1,r.2.2.2.2.2.2.2.2.2.2.2.2.2.2.2.2.2.2.2.2.2.2.2.2.2.2.2.2.2.2.2.2.2.1,r.2.2.2.2.2.2.2.2.2.2.2.2.2.2.2.2.2.1,r.2.2.2.2.2.2.2.2.2.2.2.2.2.2.2.2.2.2.1,r.2.2.2.2.2.2.2.2.2.2.2.2.2.2.2.2.2.2.2.1,r.2.2.2.2.2.2.2.2.2.2.2.2.2.2.2.2.2.2.2.2.1,r.2.2.2.2.2.2.2.2.2.2.2.2.2.2.2.2.2.2.2.2.2.1,r.2.2.2.2.2.2.2.2.2.2.2.2.2.2.2.2.2.2.2.2.2.2.1,r.2.2.2.2.2.2.2.2.2.2.2.2.2.2.2.2.2.2.2.2.2.2.2.1,r.2.2.2.2.2.2.2.2.2.2.2.2.2.2.2.2.2.2.2.2.2.2.2.2.1,r.2.2.2.2.2.2.2.2.2.2.2.2.2.2.2.2.2.2.2.2.2.2.2.2.2.1,r.2.2.2.2.2.2.2.2.2.2.2.2.2.2.2.2.2.2.2.2.2.2.2.2.2.2.1,r.2.2.2.2.2.2.2.2.2.2.2.2.2.2.2.2.2.2.2.2.2.2.2.2.2.2.2.2.2.2.2.2.2.2.1,r.2.2.2.2.2.2.2.2.2.2.2.2.2.2.2.2.2.2.2.2.2.2.2.2.2.2.2.2.2.2.2.2.2.2.2.1,r_2.1,r_2.2.1,r_2.2.2.1,r_2.2.2.2.2)) fun r_3=>br (!(decide (r_2.2.2.2.1 = 0) && decide (r_3.1 = 0)) == true || decide (0 ≤ r_1 ∧ r_1 ≤ (↑r.2.2.2.2.2.2.2.2.2.2.2.2.2.2.2.2.2.2.2.2.2.2.2.2.2.2.2.2.2.2.2.2.2.2.2.2.length:Int))) (br ((decide (r_2.2.2.2.1 = 0) && decide (r_3.1 = 0)) == true) (bnd (p4 (r_3.2,List.drop r_1.toNat (List.take (↑r.2.2.2.2.2.2.2.2.2.2.2.2.2.2.2.2.2.2.2.2.2.2.2.2.2.2.2.2.2.2.2.2.2.2.2.2.length:Int).toNat r.2.2.2.2.2.2.2.2.2.2.2.2.2.2.2.2.2.2.2.2.2.2.2.2.2.2.2.2.2.2.2.2.2.2.2.2))) fun r_4=>br (r_4 == true) (bnd (p5 (r.2.1,r.2.2.1,r.2.2.2.1,r.2.2.2.2.1,r.2.2.2.2.2.1,r.2.2.2.2.2.2.1,r.2.2.2.2.2.2.2.1,r.2.2.2.2.2.2.2.2.1,r.2.2.2.2.2.2.2.2.2.1,r.2.2.2.2.2.2.2.2.2.2.1,r.2.2.2.2.2.2.2.2.2.2.2.1,r.2.2.2.2.2.2.2.2.2.2.2.2.1,r.2.2.2.2.2.2.2.2.2.2.2.2.2.1,r.2.2.2.2.2.2.2.2.2.2.2.2.2.2.1,r.2.2.2.2.2.2.2.2.2.2.2.2.2.2.2.1,r.2.2.2.2.2.2.2.2.2.2.2.2.2.2.2.2.1,r.2.2.2.2.2.2.2.2.2.2.2.2.2.2.2.2.2.2.2.2.2.2.2.2.2.2.2.2.2.2.2.2.2.1,r.2.2.2.2.2.2.2.2.2.2.2.2.2.2.2.2.2.1,r.2.2.2.2.2.2.2.2.2.2.2.2.2.2.2.2.2.2.1,r.2.2.2.2.2.2.2.2.2.2.2.2.2.2.2.2.2.2.2.1,r.2.2.2.2.2.2.2.2.2.2.2.2.2.2.2.2.2.2.2.2.1,r.2.2.2.2.2.2.2.2.2.2.2.2.2.2.2.2.2.2.2.2.2.1,r.2.2.2.2.2.2.2.2.2.2.2.2.2.2.2.2.2.2.2.2.2.2.1,r.2.2.2.2.2.2.2.2.2.2.2.2.2.2.2.2.2.2.2.2.2.2.2.1,r.2.2.2.2.2.2.2.2.2.2.2.2.2.2.2.2.2.2.2.2.2.2.2.2.1,r.2.2.2.2.2.2.2.2.2.2.2.2.2.2.2.2.2.2.2.2.2.2.2.2.2.1,r.2.2.2.2.2.2.2.2.2.2.2.2.2.2.2.2.2.2.2.2.2.2.2.2.2.2.1,r.2.2.2.2.2.2.2.2.2.2.2.2.2.2.2.2.2.2.2.2.2.2.2.2.2.2.2.2.2.2.2.2.2.2.1,r.2.2.2.2.2.2.2.2.2.2.2.2.2.2.2.2.2.2.2.2.2.2.2.2.2.2.2.2.2.2.2.2.2.2.2.1,r_2.1,r_2.2.1,r_2.2.2.1,r_2.2.2.2.2)) fun r=>some (decide (r = 0))) (some false)) (some false)) none) none)
theorem d_cn (k0:Pr E g178.A g178.R) (k1:Pr E g0.A g0.R) (k2:Pr E g181.A g181.R) (k3:Pr E g175.A g175.R) (k4:Pr E g182.A g182.R) (k5:Pr E g147.A g147.R):∀ v:A,Cn E (d k0.p k1.p k2.p k3.p k4.p k5.p v) fun i=>d (k0.q i) (k1.q i) (k2.q i) (k3.q i) (k4.q i) (k5.q i) v:=fun (a,b)=>(.bnd (k0.h _) fun _=>(.br .some (.bnd (k1.h _) fun _=>(.br (.bnd (k2.h _) fun _=>(.bnd (k3.h _) fun _=>(.br (.br (.bnd (k4.h _) fun _=>(.br (.bnd (k5.h _) fun _=>.some) .some)) .some) .none))) .none))))
theorem f_b (k:Nat):∀ v:A,f k v = d (g178.f k) (g0.f k) (g181.f k) (g175.f k) (g182.f k) (g147.f k) v:=fun (a,b)=>(held_eq _).trans (by kernel_rfl)
theorem F_of (v:A) {r:R} (h:d g178.F g0.F g181.F g175.F g182.F g147.F v = some r):F v = some r:=join_of (fun L=>f_b (L 0) v) (d_cn (lp g178.f 0) (lp g0.f 0) (lp g181.f 0) (lp g175.f 0) (lp g182.f 0) (lp g147.f 0) v) h
noncomputable def spec (k:Nat):List AV→List Slot→Option Ans:=specS sh os (f k)
theorem spec_ok (k:Nat):SpecOk Tryz.prog 7 (spec k):=specS_ok cs_ok Tryz.func7 rfl rfl (fun _ _=>held_eq _) k
end g183
noncomputable def tg183:=tg182.cons 7 g183.spec g183.spec_ok
end Go.Proofs.RPp
