import Derived.Test.YtfkampndpkfcmaaGreatRPn0
import Derived.Test.YtfkampndpkfcmaaGreatProg
namespace Go.Proofs.RPn
open Go Go.Eng Go.Proofs
set_option maxRecDepth 100000
set_option linter.unusedVariables false
variable {ι : Type} {E : Fil ι}
namespace g61 -- bits_Div64
abbrev R:Type:=Int × Int
abbrev A:Type:=Int × Int × Int
abbrev Y:=A→Option R
def lv:List (Nat × List Nat):=[(2000000,[6,7]),(17,[2,8,9,10,11,13,14,15,16]),(1000021,[2,8,9,10,11,13,14,15]),(24,[2,8,9,10,14,15,16,17,18]),(1000028,[2,8,14,15,17,18])]
noncomputable def cs:Nat→Ctx:=ctxOf tis modes tg60.1 lv
theorem cs_ok (n:Nat):CtxOk Tryz.prog (cs n):=ctxOf_ok rfl tis_ok tg60.2 n
def sh:AS:=⟨[.c (.int .u64),.c (.int .u64),.c (.int .u64)],[]⟩
def os:OS:=⟨.tup [.c (.int .u64),.c (.int .u64)],[]⟩
def enc (r:R):Out:=os.enc r
def dec:Out→Option R:=os.dec
noncomputable def b0:Code:=subF [] Tryz.f213
noncomputable def K0 (k:Nat):Kt R:=kTop (cs k) Tryz.f213 dec
noncomputable def c1000021:Code:=sub [1,1,1,1,1,1,1,1,1,1,1,1,1,1,1] b0
noncomputable def J1000021 ( k:Nat):Kt R:=kAt (cs k) (loopN cs k) [1,1,1,1,1,1,1,1,1,1,1,1,1,1,1] b0 (K0 k)
noncomputable def b17:Code:=sub [1,1,1,1,1,1,1,1,1,1,1,1,1,1,0,0,0] b0
noncomputable def K17 ( k:Nat):Kt R:=kAt (cs k) (loopN cs k) [1,1,1,1,1,1,1,1,1,1,1,1,1,1,0,0] b0 (K0 k)
noncomputable def c1000028:Code:=sub [1,1,1,1,1,1,1,1,1,1,1,1,1,1,1,1,1,1,1] b0
noncomputable def J1000028 ( k:Nat):Kt R:=kAt (cs k) (loopN cs k) [1,1,1,1,1,1,1,1,1,1,1,1,1,1,1,1,1,1,1] b0 (K0 k)
noncomputable def b24:Code:=sub [1,1,1,1,1,1,1,1,1,1,1,1,1,1,1,1,1,1,0,0,0] b0
noncomputable def K24 ( k:Nat):Kt R:=kAt (cs k) (loopN cs k) [1,1,1,1,1,1,1,1,1,1,1,1,1,1,1,1,1,1,0,0] b0 (K0 k)
abbrev T0:Type:=Int × Int × Int × Int × Int × Int × Int × Int × Int
abbrev Y0:=T0→Option R
def s0:T0→St:=fun (a,b,e,j,l,m,o,s,t)=>⟨135,0,[(2,.c (.int .u64 a)),(8,.c (.int .u64 b)),(9,.c (.int .u64 e)),(10,.c (.int .u64 j)),(11,.c (.int .u64 l)),(13,.c (.int .u64 m)),(14,.c (.int .u64 o)),(15,.c (.int .u64 s)),(16,.c (.int .u64 t))],[],[(256000000,.gone)]⟩
noncomputable def l0 ( k n:Nat) (v:T0):Option R:=held (loopN cs n b17 (K17 k) (s0 v))
noncomputable def D0 (v:T0):Option R:=lim fun L=>l0 (L 0) (L 1) v
theorem D0_cn (v:T0):Cn late (D0 v) fun L=>l0 (L 0) (L 1) v:=of_lim
abbrev T1:Type:=Int × Int × Int × Int × Int × Int × Int × Int
abbrev Y1:=T1→Option R
def s1:T1→St:=fun (a,b,e,j,l,m,o,s)=>⟨135,0,[(2,.c (.int .u64 a)),(8,.c (.int .u64 b)),(9,.c (.int .u64 e)),(10,.c (.int .u64 j)),(11,.c (.int .u64 l)),(13,.c (.int .u64 m)),(14,.c (.int .u64 o)),(15,.c (.int .u64 s))],[],[(256000000,.gone)]⟩
noncomputable def l1 ( k:Nat) (v:T1):Option R:=held (run (cs k) (loopN cs k) c1000021 (J1000021 k) (s1 v))
noncomputable def D1 (v:T1):Option R:=lim fun L=>l1 (L 0) v
theorem D1_cn (v:T1):Cn late (D1 v) fun L=>l1 (L 0) v:=of_lim
abbrev T2:Type:=Int × Int × Int × Int × Int × Int × Int × Int × Int
abbrev Y2:=T2→Option R
def s2:T2→St:=fun (a,b,e,j,l,m,o,s,t)=>⟨135,0,[(2,.c (.int .u64 a)),(8,.c (.int .u64 b)),(9,.c (.int .u64 e)),(10,.c (.int .u64 j)),(14,.c (.int .u64 l)),(15,.c (.int .u64 m)),(16,.c (.int .u64 o)),(17,.c (.int .u64 s)),(18,.c (.int .u64 t))],[],[(256000000,.gone)]⟩
noncomputable def l2 ( k n:Nat) (v:T2):Option R:=held (loopN cs n b24 (K24 k) (s2 v))
noncomputable def D2 (v:T2):Option R:=lim fun L=>l2 (L 0) (L 1) v
theorem D2_cn (v:T2):Cn late (D2 v) fun L=>l2 (L 0) (L 1) v:=of_lim
abbrev T3:Type:=Int × Int × Int × Int × Int × Int
abbrev Y3:=T3→Option R
def s3:T3→St:=fun (a,b,e,j,l,m)=>⟨135,0,[(2,.c (.int .u64 a)),(8,.c (.int .u64 b)),(14,.c (.int .u64 e)),(15,.c (.int .u64 j)),(17,.c (.int .u64 l)),(18,.c (.int .u64 m))],[],[(256000000,.gone)]⟩
noncomputable def l3 ( k:Nat) (v:T3):Option R:=held (run (cs k) (loopN cs k) c1000028 (J1000028 k) (s3 v))
noncomputable def D3 (v:T3):Option R:=lim fun L=>l3 (L 0) v
theorem D3_cn (v:T3):Cn late (D3 v) fun L=>l3 (L 0) v:=of_lim
def d0 (p0:Y1) (p1:Y0):Y0:=fun (a,b,e,j,l,m,o,s,t) =>
br (decide (4294967296 ≤ s) || decide (wrap .u64 (wrap .u64 (4294967296 * t) + m) < wrap .u64 (s * j))) (br (decide (4294967296 ≤ wrap .u64 (t + e))) (p0 (a,b,e,j,l,m,o,wrap .u64 (s - 1))) (p1 (a,b,e,j,l,m,o,wrap .u64 (s - 1),wrap .u64 (t + e)))) (p0 (a,b,e,j,l,m,o,s))
theorem d0_cn (k0:Pr E T1 R) (k1:Pr E T0 R):∀ v:T0,Cn E (d0 k0.p k1.p v) fun i=>d0 (k0.q i) (k1.q i) v:=fun (a,b,e,j,l,m,o,s,t)=>(.br (.br (k0.h _) (k1.h _)) (k0.h _))
theorem l0_b ( k m1:Nat):∀ v:T0,run (cs m1) (loopN cs m1) b17 (kLoop cs m1 b17 (K17 k)) (s0 v) = d0 (l1 k) (l0 k m1) v:=fun (a,b,e,j,l,m,o,s,t)=>by kernel_rfl
theorem D0_of (v:T0) {r:R} (h:d0 D1 D0 v = some r):D0 v = some r:=loop_of 1 (fun L n hn=>by show l0 (L 0) (L 1) v = _; rw [hn]; exact (held_eq _).trans ((loopN_succ _ _ _ _ _).trans (l0_b (L 0) n v))) (d0_cn (.mk fun v=>(D1_cn v).re [0]) (.mk fun v=>(D0_cn v).re [0,1]) v) h
def d1 (p0:Y2):Y1:=fun (a,b,e,j,l,m,o,s) =>
br (!decide (e = 0)) (p0 (a,b,e,j,o,s,wrap .u64 (wrap .u64 (wrap .u64 (wrap .u64 (l * 4294967296) + m) - wrap .u64 (s * a)) - wrap .u64 (wrap .u64 ((wrap .u64 (wrap .u64 (wrap .u64 (l * 4294967296) + m) - wrap .u64 (s * a))).tdiv e) * e)),wrap .u64 (wrap .u64 (wrap .u64 (l * 4294967296) + m) - wrap .u64 (s * a)),wrap .u64 ((wrap .u64 (wrap .u64 (wrap .u64 (l * 4294967296) + m) - wrap .u64 (s * a))).tdiv e))) none
theorem d1_cn (k0:Pr E T2 R):∀ v:T1,Cn E (d1 k0.p v) fun i=>d1 (k0.q i) v:=fun (a,b,e,j,l,m,o,s)=>(.br (k0.h _) .none)
theorem l1_b ( k:Nat):∀ v:T1,run (cs k) (loopN cs k) c1000021 (J1000021 k) (s1 v) = d1 (l2 k k) v:=fun (a,b,e,j,l,m,o,s)=>by kernel_rfl
theorem D1_of (v:T1) {r:R} (h:d1 D2 v = some r):D1 v = some r:=join_of (fun L=>(held_eq _).trans (l1_b (L 0) v)) (d1_cn (.mk fun v=>(D2_cn v).re [0,0]) v) h
def d2 (p0:Y3) (p1:Y2):Y2:=fun (a,b,e,j,l,m,o,s,t) =>
br (decide (4294967296 ≤ t) || decide (wrap .u64 (wrap .u64 (4294967296 * o) + l) < wrap .u64 (t * j))) (br (decide (4294967296 ≤ wrap .u64 (o + e))) (p0 (a,b,l,m,s,wrap .u64 (t - 1))) (p1 (a,b,e,j,l,m,wrap .u64 (o + e),s,wrap .u64 (t - 1)))) (p0 (a,b,l,m,s,t))
theorem d2_cn (k0:Pr E T3 R) (k1:Pr E T2 R):∀ v:T2,Cn E (d2 k0.p k1.p v) fun i=>d2 (k0.q i) (k1.q i) v:=fun (a,b,e,j,l,m,o,s,t)=>(.br (.br (k0.h _) (k1.h _)) (k0.h _))
theorem l2_b ( k m1:Nat):∀ v:T2,run (cs m1) (loopN cs m1) b24 (kLoop cs m1 b24 (K24 k)) (s2 v) = d2 (l3 k) (l2 k m1) v:=fun (a,b,e,j,l,m,o,s,t)=>by kernel_rfl
theorem D2_of (v:T2) {r:R} (h:d2 D3 D2 v = some r):D2 v = some r:=loop_of 1 (fun L n hn=>by show l2 (L 0) (L 1) v = _; rw [hn]; exact (held_eq _).trans ((loopN_succ _ _ _ _ _).trans (l2_b (L 0) n v))) (d2_cn (.mk fun v=>(D3_cn v).re [0]) (.mk fun v=>(D2_cn v).re [0,1]) v) h
def d3:Y3:=fun (a,b,e,j,l,m) =>
br (decide (0 ≤ b)) (some (wrap .u64 (wrap .u64 (j * 4294967296) + m),shr .u64 (wrap .u64 (wrap .u64 (wrap .u64 (l * 4294967296) + e) - wrap .u64 (m * a))) b)) none
theorem d3_cn:∀ v:T3,Cn E (d3 v) fun i=>d3 v:=fun (a,b,e,j,l,m)=>(.br .some .none)
theorem l3_b ( k:Nat):∀ v:T3,run (cs k) (loopN cs k) c1000028 (J1000028 k) (s3 v) = d3 v:=fun (a,b,e,j,l,m)=>by kernel_rfl
theorem D3_of (v:T3) {r:R} (h:d3 v = some r):D3 v = some r:=join_of (fun L=>(held_eq _).trans (l3_b (L 0) v)) (d3_cn v) h
noncomputable def f (k:Nat):Y:=fun v=>held (runFn cs k Tryz.f213 (sh.args v) (sh.slots v) dec)
noncomputable def F:Y:=lm f
noncomputable def d (p0:g60.Y) (p1:Y0):Y:=fun (a,b,e) =>
br (decide (e = 0)) none (br (decide (e ≤ a)) none (br (decide (a = 0)) (br (!decide (e = 0)) (br (!decide (e = 0)) (some (wrap .u64 (b.tdiv e),b.tmod e)) none) none) (bnd (p0 e) fun r=>br (decide (0 ≤ wrap .u64 r)) (br (decide ((0:Int) ≤ 32)) (br (decide (0 ≤ wrap .u64 r)) (br (decide (0 ≤ wrap .u64 (64 - wrap .u64 r))) (br (decide (0 ≤ wrap .u64 r)) (br (decide ((0:Int) ≤ 32)) (br (!decide (shr .u64 (shl .u64 e (wrap .u64 r)) 32 = 0)) (p1 (shl .u64 e (wrap .u64 r),wrap .u64 r,shr .u64 (shl .u64 e (wrap .u64 r)) 32,bAnd .u64 (shl .u64 e (wrap .u64 r)) 4294967295,bOr .u64 (shl .u64 a (wrap .u64 r)) (shr .u64 b (wrap .u64 (64 - wrap .u64 r))),shr .u64 (shl .u64 b (wrap .u64 r)) 32,bAnd .u64 (shl .u64 b (wrap .u64 r)) 4294967295,wrap .u64 ((bOr .u64 (shl .u64 a (wrap .u64 r)) (shr .u64 b (wrap .u64 (64 - wrap .u64 r)))).tdiv (shr .u64 (shl .u64 e (wrap .u64 r)) 32)),wrap .u64 (bOr .u64 (shl .u64 a (wrap .u64 r)) (shr .u64 b (wrap .u64 (64 - wrap .u64 r))) - wrap .u64 (wrap .u64 ((bOr .u64 (shl .u64 a (wrap .u64 r)) (shr .u64 b (wrap .u64 (64 - wrap .u64 r)))).tdiv (shr .u64 (shl .u64 e (wrap .u64 r)) 32)) * shr .u64 (shl .u64 e (wrap .u64 r)) 32)))) none) none) none) none) none) none) none)))
theorem d_cn (k0:Pr E g60.A g60.R) (k1:Pr E T0 R):∀ v:A,Cn E (d k0.p k1.p v) fun i=>d (k0.q i) (k1.q i) v:=fun (a,b,e)=>(.br .none (.br .none (.br (.br (.br .some .none) .none) (.bnd (k0.h _) fun _=>(.br (.br (.br (.br (.br (.br (.br (k1.h _) .none) .none) .none) .none) .none) .none) .none)))))
theorem f_b (k:Nat):∀ v:A,f k v = d (g60.f k) (l0 k k) v:=fun (a,b,e)=>(held_eq _).trans (by kernel_rfl)
theorem F_of (v:A) {r:R} (h:d g60.F D0 v = some r):F v = some r:=join_of (fun L=>f_b (L 0) v) (d_cn (lp g60.f 0) (.mk fun v=>(D0_cn v).re [0,0]) v) h
noncomputable def spec (k:Nat):List AV→List Slot→Option Ans:=specS sh os (f k)
theorem spec_ok (k:Nat):SpecOk Tryz.prog 213 (spec k):=specS_ok cs_ok Tryz.func213 rfl rfl (fun _ _=>held_eq _) k
end g61
noncomputable def tg61:=tg60.cons 213 g61.spec g61.spec_ok
namespace g62 -- num_Wide_Div
abbrev R:Type:=Int × Int
abbrev A:Type:=Int × Int × Int
abbrev Y:=A→Option R
def lv:List (Nat × List Nat):=[(2000000,[4,5]),(1000006,[1,2,6]),(1000014,[2,7,8,9])]
noncomputable def cs:Nat→Ctx:=ctxOf tis modes tg61.1 lv
theorem cs_ok (n:Nat):CtxOk Tryz.prog (cs n):=ctxOf_ok rfl tis_ok tg61.2 n
def sh:AS:=⟨[.agg [.int .i64,.int .u64],.c (.int .i64)],[]⟩
def os:OS:=⟨.tup [.c (.int .i64),.c (.int .i64)],[]⟩
def enc (r:R):Out:=os.enc r
def dec:Out→Option R:=os.dec
noncomputable def b0:Code:=subF [] Tryz.f187
noncomputable def K0 (k:Nat):Kt R:=kTop (cs k) Tryz.f187 dec
noncomputable def c1000006:Code:=sub [1,1,1,1] b0
noncomputable def J1000006 ( k:Nat):Kt R:=kAt (cs k) (loopN cs k) [1,1,1,1] b0 (K0 k)
noncomputable def c1000014:Code:=sub [1,1,1,1,1,1,1,1] b0
noncomputable def J1000014 ( k:Nat):Kt R:=kAt (cs k) (loopN cs k) [1,1,1,1,1,1,1,1] b0 (K0 k)
abbrev T0:Type:=Int × Int × Int × Int × Int
abbrev Y0:=T0→Option R
def s0:T0→St:=fun (a,b,e,j,l)=>⟨61,0,[(1,.c (.int .i64 a)),(2,.c (.ptr 64000000 0)),(6,.c (.ptr 64000001 0))],[],[(256000000,.gone),(64000000,.box [.int .i64 b,.int .u64 e]),(64000001,.box [.int .i64 j,.int .u64 l])]⟩
noncomputable def l0 ( k:Nat) (v:T0):Option R:=held (run (cs k) (loopN cs k) c1000006 (J1000006 k) (s0 v))
noncomputable def D0 (v:T0):Option R:=lim fun L=>l0 (L 0) v
theorem D0_cn (v:T0):Cn late (D0 v) fun L=>l0 (L 0) v:=of_lim
abbrev T1:Type:=Int × Int × Int × Int × Int
abbrev Y1:=T1→Option R
def s1:T1→St:=fun (a,b,e,j,l)=>⟨61,0,[(2,.c (.ptr 64000000 0)),(7,.c (.int .u64 a)),(8,.c (.int .u64 b)),(9,.c (.int .u64 e))],[],[(256000000,.gone),(64000000,.box [.int .i64 j,.int .u64 l])]⟩
noncomputable def l1 ( k:Nat) (v:T1):Option R:=held (run (cs k) (loopN cs k) c1000014 (J1000014 k) (s1 v))
noncomputable def D1 (v:T1):Option R:=lim fun L=>l1 (L 0) v
theorem D1_cn (v:T1):Cn late (D1 v) fun L=>l1 (L 0) v:=of_lim
def d0 (p0:g61.Y) (p1:Y1):Y0:=fun (a,b,e,j,l) =>
br (decide (wrap .u64 a ≤ wrap .u64 j)) (some (0,2)) (bnd (p0 (wrap .u64 j,l,wrap .u64 a)) fun r=>br (decide (b < 0)) (br (decide (0 < r.2)) (p1 (r.1,r.2,wrap .u64 (9223372036854775808 - 1),b,e)) (p1 (r.1,r.2,9223372036854775808,b,e))) (p1 (r.1,r.2,9223372036854775807,b,e)))
theorem d0_cn (k0:Pr E g61.A g61.R) (k1:Pr E T1 R):∀ v:T0,Cn E (d0 k0.p k1.p v) fun i=>d0 (k0.q i) (k1.q i) v:=fun (a,b,e,j,l)=>(.br .some (.bnd (k0.h _) fun _=>(.br (.br (k1.h _) (k1.h _)) (k1.h _))))
theorem l0_b ( k:Nat):∀ v:T0,run (cs k) (loopN cs k) c1000006 (J1000006 k) (s0 v) = d0 (g61.f k) (l1 k) v:=fun (a,b,e,j,l)=>by kernel_rfl
theorem D0_of (v:T0) {r:R} (h:d0 g61.F D1 v = some r):D0 v = some r:=join_of (fun L=>(held_eq _).trans (l0_b (L 0) v)) (d0_cn (lp g61.f 0) (.mk fun v=>(D1_cn v).re [0]) v) h
def d1:Y1:=fun (a,b,e,j,l) =>
br (decide (e < a)) (some (0,2)) (br (decide (0 ≤ j)) (some (wrap .i64 a,0)) (br (decide (0 < b)) (some (wrap .i64 (wrap .i64 (wrap .u64 (0 - a)) - 1),0)) (some (wrap .i64 (wrap .u64 (0 - a)),0))))
theorem d1_cn:∀ v:T1,Cn E (d1 v) fun i=>d1 v:=fun (a,b,e,j,l)=>(.br .some (.br .some (.br .some .some)))
theorem l1_b ( k:Nat):∀ v:T1,run (cs k) (loopN cs k) c1000014 (J1000014 k) (s1 v) = d1 v:=fun (a,b,e,j,l)=>by kernel_rfl
theorem D1_of (v:T1) {r:R} (h:d1 v = some r):D1 v = some r:=join_of (fun L=>(held_eq _).trans (l1_b (L 0) v)) (d1_cn v) h
noncomputable def f (k:Nat):Y:=fun v=>held (runFn cs k Tryz.f187 (sh.args v) (sh.slots v) dec)
noncomputable def F:Y:=lm f
def d (p0:g24.Y) (p1:Y0):Y:=fun (a,b,e) =>
br (decide (e < 1)) (some (0,1)) (br (decide (a < 0)) (bnd (p0 (a,b)) fun r=>p1 (e,a,b,r.1,r.2)) (p1 (e,a,b,a,b)))
theorem d_cn (k0:Pr E g24.A g24.R) (k1:Pr E T0 R):∀ v:A,Cn E (d k0.p k1.p v) fun i=>d (k0.q i) (k1.q i) v:=fun (a,b,e)=>(.br .some (.br (.bnd (k0.h _) fun _=>(k1.h _)) (k1.h _)))
theorem f_b (k:Nat):∀ v:A,f k v = d (g24.f k) (l0 k) v:=fun (a,b,e)=>(held_eq _).trans (by kernel_rfl)
theorem F_of (v:A) {r:R} (h:d g24.F D0 v = some r):F v = some r:=join_of (fun L=>f_b (L 0) v) (d_cn (lp g24.f 0) (.mk fun v=>(D0_cn v).re [0]) v) h
noncomputable def spec (k:Nat):List AV→List Slot→Option Ans:=specS sh os (f k)
theorem spec_ok (k:Nat):SpecOk Tryz.prog 187 (spec k):=specS_ok cs_ok Tryz.func187 rfl rfl (fun _ _=>held_eq _) k
end g62
noncomputable def tg62:=tg61.cons 187 g62.spec g62.spec_ok
namespace g63 -- num_MulDiv
abbrev R:Type:=Int × Int
abbrev A:Type:=Int × Int × Int
abbrev Y:=A→Option R
def lv:List (Nat × List Nat):=[(2000000,[6,7])]
noncomputable def cs:Nat→Ctx:=ctxOf tis modes tg62.1 lv
theorem cs_ok (n:Nat):CtxOk Tryz.prog (cs n):=ctxOf_ok rfl tis_ok tg62.2 n
def sh:AS:=⟨[.c (.int .i64),.c (.int .i64),.c (.int .i64)],[]⟩
def os:OS:=⟨.tup [.c (.int .i64),.c (.int .i64)],[]⟩
def enc (r:R):Out:=os.enc r
def dec:Out→Option R:=os.dec
noncomputable def b0:Code:=subF [] Tryz.f153
noncomputable def K0 (k:Nat):Kt R:=kTop (cs k) Tryz.f153 dec
noncomputable def f (k:Nat):Y:=fun v=>held (runFn cs k Tryz.f153 (sh.args v) (sh.slots v) dec)
noncomputable def F:Y:=lm f
def d (p0:g25.Y) (p1:g62.Y):Y:=fun (a,b,e) =>
bnd (p0 (a,b)) fun r=>bnd (p1 (r.1,r.2,e)) fun r=>some (r.1,r.2)
theorem d_cn (k0:Pr E g25.A g25.R) (k1:Pr E g62.A g62.R):∀ v:A,Cn E (d k0.p k1.p v) fun i=>d (k0.q i) (k1.q i) v:=fun (a,b,e)=>(.bnd (k0.h _) fun _=>(.bnd (k1.h _) fun _=>.some))
theorem f_b (k:Nat):∀ v:A,f k v = d (g25.f k) (g62.f k) v:=fun (a,b,e)=>(held_eq _).trans (by kernel_rfl)
theorem F_of (v:A) {r:R} (h:d g25.F g62.F v = some r):F v = some r:=join_of (fun L=>f_b (L 0) v) (d_cn (lp g25.f 0) (lp g62.f 0) v) h
noncomputable def spec (k:Nat):List AV→List Slot→Option Ans:=specS sh os (f k)
theorem spec_ok (k:Nat):SpecOk Tryz.prog 153 (spec k):=specS_ok cs_ok Tryz.func153 rfl rfl (fun _ _=>held_eq _) k
end g63
noncomputable def tg63:=tg62.cons 153 g63.spec g63.spec_ok
namespace g64 -- num_Wide_Mod
abbrev R:Type:=Int
abbrev A:Type:=Int × Int × Int
abbrev Y:=A→Option R
def lv:List (Nat × List Nat):=[(2000000,[4]),(1000006,[1,2,5]),(1000009,[7])]
noncomputable def cs:Nat→Ctx:=ctxOf tis modes tg63.1 lv
theorem cs_ok (n:Nat):CtxOk Tryz.prog (cs n):=ctxOf_ok rfl tis_ok tg63.2 n
def sh:AS:=⟨[.agg [.int .i64,.int .u64],.c (.int .i64)],[]⟩
def os:OS:=⟨.c (.int .i64),[]⟩
def enc (r:R):Out:=os.enc r
def dec:Out→Option R:=os.dec
noncomputable def b0:Code:=subF [] Tryz.f188
noncomputable def K0 (k:Nat):Kt R:=kTop (cs k) Tryz.f188 dec
noncomputable def c1000006:Code:=sub [1,1,1,1] b0
noncomputable def J1000006 ( k:Nat):Kt R:=kAt (cs k) (loopN cs k) [1,1,1,1] b0 (K0 k)
noncomputable def c1000009:Code:=sub [1,1,1,1,1,1] b0
noncomputable def J1000009 ( k:Nat):Kt R:=kAt (cs k) (loopN cs k) [1,1,1,1,1,1] b0 (K0 k)
abbrev T0:Type:=Int × Int × Int × Int × Int
abbrev Y0:=T0→Option R
def s0:T0→St:=fun (a,b,e,j,l)=>⟨43,0,[(1,.c (.int .i64 a)),(2,.c (.ptr 64000000 0)),(5,.c (.ptr 64000001 0))],[],[(256000000,.gone),(64000000,.box [.int .i64 b,.int .u64 e]),(64000001,.box [.int .i64 j,.int .u64 l])]⟩
noncomputable def l0 ( k:Nat) (v:T0):Option R:=held (run (cs k) (loopN cs k) c1000006 (J1000006 k) (s0 v))
noncomputable def D0 (v:T0):Option R:=lim fun L=>l0 (L 0) v
theorem D0_cn (v:T0):Cn late (D0 v) fun L=>l0 (L 0) v:=of_lim
abbrev T1:Type:=Int
abbrev Y1:=T1→Option R
def s1:T1→St:=fun a=>⟨43,0,[(7,.c (.int .u64 a))],[],[(256000000,.gone)]⟩
noncomputable def l1 ( k:Nat) (v:T1):Option R:=held (run (cs k) (loopN cs k) c1000009 (J1000009 k) (s1 v))
noncomputable def D1 (v:T1):Option R:=lim fun L=>l1 (L 0) v
theorem D1_cn (v:T1):Cn late (D1 v) fun L=>l1 (L 0) v:=of_lim
def d0 (p0:g61.Y) (p1:Y1):Y0:=fun (a,b,e,j,l) =>
br (!decide (wrap .u64 a = 0)) (bnd (p0 ((wrap .u64 j).tmod (wrap .u64 a),l,wrap .u64 a)) fun r=>br (decide (b < 0) && decide (0 < r.2)) (p1 (wrap .u64 (wrap .u64 a - r.2))) (p1 r.2)) none
theorem d0_cn (k0:Pr E g61.A g61.R) (k1:Pr E T1 R):∀ v:T0,Cn E (d0 k0.p k1.p v) fun i=>d0 (k0.q i) (k1.q i) v:=fun (a,b,e,j,l)=>(.br (.bnd (k0.h _) fun _=>(.br (k1.h _) (k1.h _))) .none)
theorem l0_b ( k:Nat):∀ v:T0,run (cs k) (loopN cs k) c1000006 (J1000006 k) (s0 v) = d0 (g61.f k) (l1 k) v:=fun (a,b,e,j,l)=>by kernel_rfl
theorem D0_of (v:T0) {r:R} (h:d0 g61.F D1 v = some r):D0 v = some r:=join_of (fun L=>(held_eq _).trans (l0_b (L 0) v)) (d0_cn (lp g61.f 0) (.mk fun v=>(D1_cn v).re [0]) v) h
def d1:Y1:=fun a =>
some (wrap .i64 a)
theorem d1_cn:∀ v:T1,Cn E (d1 v) fun i=>d1 v:=fun a=>.some
theorem l1_b ( k:Nat):∀ v:T1,run (cs k) (loopN cs k) c1000009 (J1000009 k) (s1 v) = d1 v:=fun a=>by kernel_rfl
theorem D1_of (v:T1) {r:R} (h:d1 v = some r):D1 v = some r:=join_of (fun L=>(held_eq _).trans (l1_b (L 0) v)) (d1_cn v) h
noncomputable def f (k:Nat):Y:=fun v=>held (runFn cs k Tryz.f188 (sh.args v) (sh.slots v) dec)
noncomputable def F:Y:=lm f
def d (p0:g24.Y) (p1:Y0):Y:=fun (a,b,e) =>
br (decide (e < 1)) (some 0) (br (decide (a < 0)) (bnd (p0 (a,b)) fun r=>p1 (e,a,b,r.1,r.2)) (p1 (e,a,b,a,b)))
theorem d_cn (k0:Pr E g24.A g24.R) (k1:Pr E T0 R):∀ v:A,Cn E (d k0.p k1.p v) fun i=>d (k0.q i) (k1.q i) v:=fun (a,b,e)=>(.br .some (.br (.bnd (k0.h _) fun _=>(k1.h _)) (k1.h _)))
theorem f_b (k:Nat):∀ v:A,f k v = d (g24.f k) (l0 k) v:=fun (a,b,e)=>(held_eq _).trans (by kernel_rfl)
theorem F_of (v:A) {r:R} (h:d g24.F D0 v = some r):F v = some r:=join_of (fun L=>f_b (L 0) v) (d_cn (lp g24.f 0) (.mk fun v=>(D0_cn v).re [0]) v) h
noncomputable def spec (k:Nat):List AV→List Slot→Option Ans:=specS sh os (f k)
theorem spec_ok (k:Nat):SpecOk Tryz.prog 188 (spec k):=specS_ok cs_ok Tryz.func188 rfl rfl (fun _ _=>held_eq _) k
end g64
noncomputable def tg64:=tg63.cons 188 g64.spec g64.spec_ok
namespace g65 -- num_MulDivUp
abbrev R:Type:=Int × Int
abbrev A:Type:=Int × Int × Int
abbrev Y:=A→Option R
def lv:List (Nat × List Nat):=[(2000000,[6,7])]
noncomputable def cs:Nat→Ctx:=ctxOf tis modes tg64.1 lv
theorem cs_ok (n:Nat):CtxOk Tryz.prog (cs n):=ctxOf_ok rfl tis_ok tg64.2 n
def sh:AS:=⟨[.c (.int .i64),.c (.int .i64),.c (.int .i64)],[]⟩
def os:OS:=⟨.tup [.c (.int .i64),.c (.int .i64)],[]⟩
def enc (r:R):Out:=os.enc r
def dec:Out→Option R:=os.dec
noncomputable def b0:Code:=subF [] Tryz.f154
noncomputable def K0 (k:Nat):Kt R:=kTop (cs k) Tryz.f154 dec
noncomputable def f (k:Nat):Y:=fun v=>held (runFn cs k Tryz.f154 (sh.args v) (sh.slots v) dec)
noncomputable def F:Y:=lm f
def d (p0:g25.Y) (p1:g62.Y) (p2:g64.Y):Y:=fun (a,b,e) =>
bnd (p0 (a,b)) fun r=>bnd (p1 (r.1,r.2,e)) fun r_1=>br ((!decide (r_1.2 = 0)) == false) (bnd (p2 (r.1,r.2,e)) fun r=>br (decide (r = 0)) (some (r_1.1,r_1.2)) (br (decide (r_1.1 = 9223372036854775807)) (some (0,2)) (some (wrap .i64 (r_1.1 + 1),0)))) (some (r_1.1,r_1.2))
theorem d_cn (k0:Pr E g25.A g25.R) (k1:Pr E g62.A g62.R) (k2:Pr E g64.A g64.R):∀ v:A,Cn E (d k0.p k1.p k2.p v) fun i=>d (k0.q i) (k1.q i) (k2.q i) v:=fun (a,b,e)=>(.bnd (k0.h _) fun _=>(.bnd (k1.h _) fun _=>(.br (.bnd (k2.h _) fun _=>(.br .some (.br .some .some))) .some)))
theorem f_b (k:Nat):∀ v:A,f k v = d (g25.f k) (g62.f k) (g64.f k) v:=fun (a,b,e)=>(held_eq _).trans (by kernel_rfl)
theorem F_of (v:A) {r:R} (h:d g25.F g62.F g64.F v = some r):F v = some r:=join_of (fun L=>f_b (L 0) v) (d_cn (lp g25.f 0) (lp g62.f 0) (lp g64.f 0) v) h
noncomputable def spec (k:Nat):List AV→List Slot→Option Ans:=specS sh os (f k)
theorem spec_ok (k:Nat):SpecOk Tryz.prog 154 (spec k):=specS_ok cs_ok Tryz.func154 rfl rfl (fun _ _=>held_eq _) k
end g65
noncomputable def tg65:=tg64.cons 154 g65.spec g65.spec_ok
namespace g66 -- bound_Check_Arc
abbrev R:Type:=Int
abbrev A:Type:=Int × Int × Bool
abbrev Y:=A→Option R
def lv:List (Nat × List Nat):=[(2000000,[2])]
noncomputable def cs:Nat→Ctx:=ctxOf tis modes tg65.1 lv
theorem cs_ok (n:Nat):CtxOk Tryz.prog (cs n):=ctxOf_ok rfl tis_ok tg65.2 n
def sh:AS:=⟨[(.agg [.int .i64,.int .i64,.bool])],[]⟩
def os:OS:=⟨.c (.int .i64),[]⟩
def enc (r:R):Out:=os.enc r
def dec:Out→Option R:=os.dec
noncomputable def b0:Code:=subF [] Tryz.f214
noncomputable def K0 (k:Nat):Kt R:=kTop (cs k) Tryz.f214 dec
noncomputable def f (k:Nat):Y:=fun v=>held (runFn cs k Tryz.f214 (sh.args v) (sh.slots v) dec)
noncomputable def F:Y:=lm f
def d:Y:=fun (a,b,e) =>
br (e && (!decide (a = 0) || !decide (b = 0))) (some 3) (br (decide (min a b < -1152921504606846976) || decide (1152921504606846976 < max a b)) (some 4) (br (decide (b < a)) (some 11) (some 0)))
theorem d_cn:∀ v:A,Cn E (d v) fun i=>d v:=fun (a,b,e)=>(.br .some (.br .some (.br .some .some)))
theorem f_b (k:Nat):∀ v:A,f k v = d v:=fun (a,b,e)=>(held_eq _).trans (by kernel_rfl)
theorem F_of (v:A) {r:R} (h:d v = some r):F v = some r:=join_of (fun L=>f_b (L 0) v) (d_cn v) h
noncomputable def spec (k:Nat):List AV→List Slot→Option Ans:=specS sh os (f k)
theorem spec_ok (k:Nat):SpecOk Tryz.prog 214 (spec k):=specS_ok cs_ok Tryz.func214 rfl rfl (fun _ _=>held_eq _) k
end g66
noncomputable def tg66:=tg65.cons 214 g66.spec g66.spec_ok
namespace g67 -- bound_Norm_Arc
abbrev R:Type:=Int × Int × Bool
abbrev A:Type:=Int × Int × Bool
abbrev Y:=A→Option R
def lv:List (Nat × List Nat):=[(2000000,[2])]
noncomputable def cs:Nat→Ctx:=ctxOf tis modes tg66.1 lv
theorem cs_ok (n:Nat):CtxOk Tryz.prog (cs n):=ctxOf_ok rfl tis_ok tg66.2 n
def sh:AS:=⟨[(.agg [.int .i64,.int .i64,.bool])],[]⟩
def os:OS:=⟨.agg [.int .i64,.int .i64,.bool],[]⟩
def enc (r:R):Out:=os.enc r
def dec:Out→Option R:=os.dec
noncomputable def b0:Code:=subF [] Tryz.f189
noncomputable def K0 (k:Nat):Kt R:=kTop (cs k) Tryz.f189 dec
noncomputable def f (k:Nat):Y:=fun v=>held (runFn cs k Tryz.f189 (sh.args v) (sh.slots v) dec)
noncomputable def F:Y:=lm f
def d (p0:g66.Y) (p1:g58.Y):Y:=fun (a,b,e) =>
bnd (p0 (a,b,e)) fun r=>br (!decide (r = 0)) (bnd (p1 ()) fun r=>some (r.1,r.2.1,r.2.2)) (some (a,b,e))
theorem d_cn (k0:Pr E g66.A g66.R) (k1:Pr E g58.A g58.R):∀ v:A,Cn E (d k0.p k1.p v) fun i=>d (k0.q i) (k1.q i) v:=fun (a,b,e)=>(.bnd (k0.h _) fun _=>(.br (.bnd (k1.h _) fun _=>.some) .some))
theorem f_b (k:Nat):∀ v:A,f k v = d (g66.f k) (g58.f k) v:=fun (a,b,e)=>(held_eq _).trans (by kernel_rfl)
theorem F_of (v:A) {r:R} (h:d g66.F g58.F v = some r):F v = some r:=join_of (fun L=>f_b (L 0) v) (d_cn (lp g66.f 0) (lp g58.f 0) v) h
noncomputable def spec (k:Nat):List AV→List Slot→Option Ans:=specS sh os (f k)
theorem spec_ok (k:Nat):SpecOk Tryz.prog 189 (spec k):=specS_ok cs_ok Tryz.func189 rfl rfl (fun _ _=>held_eq _) k
end g67
noncomputable def tg67:=tg66.cons 189 g67.spec g67.spec_ok
namespace g68 -- bound_Of_Arc
abbrev R:Type:=Int × Int × Bool
abbrev A:Type:=Int × Int
abbrev Y:=A→Option R
def lv:List (Nat × List Nat):=[(2000000,[4])]
noncomputable def cs:Nat→Ctx:=ctxOf tis modes tg67.1 lv
theorem cs_ok (n:Nat):CtxOk Tryz.prog (cs n):=ctxOf_ok rfl tis_ok tg67.2 n
def sh:AS:=⟨[.c (.int .i64),.c (.int .i64)],[]⟩
def os:OS:=⟨.agg [.int .i64,.int .i64,.bool],[]⟩
def enc (r:R):Out:=os.enc r
def dec:Out→Option R:=os.dec
noncomputable def b0:Code:=subF [] Tryz.f155
noncomputable def K0 (k:Nat):Kt R:=kTop (cs k) Tryz.f155 dec
noncomputable def f (k:Nat):Y:=fun v=>held (runFn cs k Tryz.f155 (sh.args v) (sh.slots v) dec)
noncomputable def F:Y:=lm f
def d (p0:g67.Y):Y:=fun (a,b) =>
bnd (p0 (a,b,false)) fun r=>some (r.1,r.2.1,r.2.2)
theorem d_cn (k0:Pr E g67.A g67.R):∀ v:A,Cn E (d k0.p v) fun i=>d (k0.q i) v:=fun (a,b)=>(.bnd (k0.h _) fun _=>.some)
theorem f_b (k:Nat):∀ v:A,f k v = d (g67.f k) v:=fun (a,b)=>(held_eq _).trans (by kernel_rfl)
theorem F_of (v:A) {r:R} (h:d g67.F v = some r):F v = some r:=join_of (fun L=>f_b (L 0) v) (d_cn (lp g67.f 0) v) h
noncomputable def spec (k:Nat):List AV→List Slot→Option Ans:=specS sh os (f k)
theorem spec_ok (k:Nat):SpecOk Tryz.prog 155 (spec k):=specS_ok cs_ok Tryz.func155 rfl rfl (fun _ _=>held_eq _) k
end g68
noncomputable def tg68:=tg67.cons 155 g68.spec g68.spec_ok
namespace g69 -- bound_Exact_Arc
abbrev R:Type:=Int × Int × Bool
abbrev A:Type:=Int
abbrev Y:=A→Option R
def lv:List (Nat × List Nat):=[(2000000,[2])]
noncomputable def cs:Nat→Ctx:=ctxOf tis modes tg68.1 lv
theorem cs_ok (n:Nat):CtxOk Tryz.prog (cs n):=ctxOf_ok rfl tis_ok tg68.2 n
def sh:AS:=⟨[(.c (.int .i64))],[]⟩
def os:OS:=⟨.agg [.int .i64,.int .i64,.bool],[]⟩
def enc (r:R):Out:=os.enc r
def dec:Out→Option R:=os.dec
noncomputable def b0:Code:=subF [] Tryz.f139
noncomputable def K0 (k:Nat):Kt R:=kTop (cs k) Tryz.f139 dec
noncomputable def f (k:Nat):Y:=fun v=>held (runFn cs k Tryz.f139 (sh.args v) (sh.slots v) dec)
noncomputable def F:Y:=lm f
def d (p0:g68.Y):Y:=fun a =>
bnd (p0 (a,a)) fun r=>some (r.1,r.2.1,r.2.2)
theorem d_cn (k0:Pr E g68.A g68.R):∀ v:A,Cn E (d k0.p v) fun i=>d (k0.q i) v:=fun a=>(.bnd (k0.h _) fun _=>.some)
theorem f_b (k:Nat):∀ v:A,f k v = d (g68.f k) v:=fun a=>(held_eq _).trans (by kernel_rfl)
theorem F_of (v:A) {r:R} (h:d g68.F v = some r):F v = some r:=join_of (fun L=>f_b (L 0) v) (d_cn (lp g68.f 0) v) h
noncomputable def spec (k:Nat):List AV→List Slot→Option Ans:=specS sh os (f k)
theorem spec_ok (k:Nat):SpecOk Tryz.prog 139 (spec k):=specS_ok cs_ok Tryz.func139 rfl rfl (fun _ _=>held_eq _) k
end g69
noncomputable def tg69:=tg68.cons 139 g69.spec g69.spec_ok
namespace g70 -- bound_vague_Arc
abbrev R:Type:=Bool
abbrev A:Type:=Int × Int × Bool × Int × Int × Bool
abbrev Y:=A→Option R
def lv:List (Nat × List Nat):=[(2000000,[4])]
noncomputable def cs:Nat→Ctx:=ctxOf tis modes tg69.1 lv
theorem cs_ok (n:Nat):CtxOk Tryz.prog (cs n):=ctxOf_ok rfl tis_ok tg69.2 n
def sh:AS:=⟨[.agg [.int .i64,.int .i64,.bool],.agg [.int .i64,.int .i64,.bool]],[]⟩
def os:OS:=⟨.c .bool,[]⟩
def enc (r:R):Out:=os.enc r
def dec:Out→Option R:=os.dec
noncomputable def b0:Code:=subF [] Tryz.f174
noncomputable def K0 (k:Nat):Kt R:=kTop (cs k) Tryz.f174 dec
noncomputable def f (k:Nat):Y:=fun v=>held (runFn cs k Tryz.f174 (sh.args v) (sh.slots v) dec)
noncomputable def F:Y:=lm f
def d (p0:g67.Y):Y:=fun (a,b,e,j,l,m) =>
bnd (p0 (a,b,e)) fun r=>br (r.2.2 == false) (bnd (p0 (j,l,m)) fun r=>some r.2.2) (some true)
theorem d_cn (k0:Pr E g67.A g67.R):∀ v:A,Cn E (d k0.p v) fun i=>d (k0.q i) v:=fun (a,b,e,j,l,m)=>(.bnd (k0.h _) fun _=>(.br (.bnd (k0.h _) fun _=>.some) .some))
theorem f_b (k:Nat):∀ v:A,f k v = d (g67.f k) v:=fun (a,b,e,j,l,m)=>(held_eq _).trans (by kernel_rfl)
theorem F_of (v:A) {r:R} (h:d g67.F v = some r):F v = some r:=join_of (fun L=>f_b (L 0) v) (d_cn (lp g67.f 0) v) h
noncomputable def spec (k:Nat):List AV→List Slot→Option Ans:=specS sh os (f k)
theorem spec_ok (k:Nat):SpecOk Tryz.prog 174 (spec k):=specS_ok cs_ok Tryz.func174 rfl rfl (fun _ _=>held_eq _) k
end g70
noncomputable def tg70:=tg69.cons 174 g70.spec g70.spec_ok
namespace g71 -- bound_Add_Arc
abbrev R:Type:=Int × Int × Bool
abbrev A:Type:=Int × Int × Bool × Int × Int × Bool
abbrev Y:=A→Option R
def lv:List (Nat × List Nat):=[(2000000,[4])]
noncomputable def cs:Nat→Ctx:=ctxOf tis modes tg70.1 lv
theorem cs_ok (n:Nat):CtxOk Tryz.prog (cs n):=ctxOf_ok rfl tis_ok tg70.2 n
def sh:AS:=⟨[.agg [.int .i64,.int .i64,.bool],.agg [.int .i64,.int .i64,.bool]],[]⟩
def os:OS:=⟨.agg [.int .i64,.int .i64,.bool],[]⟩
def enc (r:R):Out:=os.enc r
def dec:Out→Option R:=os.dec
noncomputable def b0:Code:=subF [] Tryz.f138
noncomputable def K0 (k:Nat):Kt R:=kTop (cs k) Tryz.f138 dec
noncomputable def f (k:Nat):Y:=fun v=>held (runFn cs k Tryz.f138 (sh.args v) (sh.slots v) dec)
noncomputable def F:Y:=lm f
def d (p0:g70.Y) (p1:g58.Y) (p2:g68.Y):Y:=fun (a,b,e,j,l,m) =>
bnd (p0 (a,b,e,j,l,m)) fun r=>br r (bnd (p1 ()) fun r=>some (r.1,r.2.1,r.2.2)) (bnd (p2 (wrap .i64 (a + j),wrap .i64 (b + l))) fun r=>some (r.1,r.2.1,r.2.2))
theorem d_cn (k0:Pr E g70.A g70.R) (k1:Pr E g58.A g58.R) (k2:Pr E g68.A g68.R):∀ v:A,Cn E (d k0.p k1.p k2.p v) fun i=>d (k0.q i) (k1.q i) (k2.q i) v:=fun (a,b,e,j,l,m)=>(.bnd (k0.h _) fun _=>(.br (.bnd (k1.h _) fun _=>.some) (.bnd (k2.h _) fun _=>.some)))
theorem f_b (k:Nat):∀ v:A,f k v = d (g70.f k) (g58.f k) (g68.f k) v:=fun (a,b,e,j,l,m)=>(held_eq _).trans (by kernel_rfl)
theorem F_of (v:A) {r:R} (h:d g70.F g58.F g68.F v = some r):F v = some r:=join_of (fun L=>f_b (L 0) v) (d_cn (lp g70.f 0) (lp g58.f 0) (lp g68.f 0) v) h
noncomputable def spec (k:Nat):List AV→List Slot→Option Ans:=specS sh os (f k)
theorem spec_ok (k:Nat):SpecOk Tryz.prog 138 (spec k):=specS_ok cs_ok Tryz.func138 rfl rfl (fun _ _=>held_eq _) k
end g71
noncomputable def tg71:=tg70.cons 138 g71.spec g71.spec_ok
namespace g72 -- scale_Sidereal
abbrev R:Type:=Int × Int × Bool
abbrev A:Type:=Int × Int × Int × Int × Int × Int × Bool
abbrev Y:=A→Option R
def lv:List (Nat × List Nat):=[(2000000,[4])]
noncomputable def cs:Nat→Ctx:=ctxOf tis modes tg71.1 lv
theorem cs_ok (n:Nat):CtxOk Tryz.prog (cs n):=ctxOf_ok rfl tis_ok tg71.2 n
def sh:AS:=⟨[.agg [.int .i64,.int .i64,.int .i64,.int .i64],.agg [.int .i64,.int .i64,.bool]],[]⟩
def os:OS:=⟨.agg [.int .i64,.int .i64,.bool],[]⟩
def enc (r:R):Out:=os.enc r
def dec:Out→Option R:=os.dec
noncomputable def b0:Code:=subF [] Tryz.f104
noncomputable def K0 (k:Nat):Kt R:=kTop (cs k) Tryz.f104 dec
noncomputable def f (k:Nat):Y:=fun v=>held (runFn cs k Tryz.f104 (sh.args v) (sh.slots v) dec)
noncomputable def F:Y:=lm f
noncomputable def d (p0:g53.Y) (p1:g57.Y) (p2:g19.Y) (p3:g58.Y) (p4:g63.Y) (p5:g65.Y) (p6:g68.Y) (p7:g69.Y) (p8:g71.Y):Y:=fun (a,b,e,j,l,m,o) =>
bnd (p0 a) fun r=>bnd (p1 (l,m,o,r.1,r.2.1,r.2.2)) fun r=>bnd (p2 (a,b,e,j)) fun r_1=>br (!decide (r_1 = 0) || r.2.2) (bnd (p3 ()) fun r=>some (r.1,r.2.1,r.2.2)) (bnd (p4 (r.1,e,j)) fun r_2=>bnd (p5 (r.2.1,e,j)) fun r=>br (!decide (r_2.2 = 0) || !decide (r.2 = 0)) (bnd (p3 ()) fun r=>some (r.1,r.2.1,r.2.2)) (bnd (p6 (r_2.1,r.1)) fun r=>bnd (p7 b) fun r_3=>bnd (p8 (r.1,r.2.1,r.2.2,r_3.1,r_3.2.1,r_3.2.2)) fun r=>some (r.1,r.2.1,r.2.2)))
theorem d_cn (k0:Pr E g53.A g53.R) (k1:Pr E g57.A g57.R) (k2:Pr E g19.A g19.R) (k3:Pr E g58.A g58.R) (k4:Pr E g63.A g63.R) (k5:Pr E g65.A g65.R) (k6:Pr E g68.A g68.R) (k7:Pr E g69.A g69.R) (k8:Pr E g71.A g71.R):∀ v:A,Cn E (d k0.p k1.p k2.p k3.p k4.p k5.p k6.p k7.p k8.p v) fun i=>d (k0.q i) (k1.q i) (k2.q i) (k3.q i) (k4.q i) (k5.q i) (k6.q i) (k7.q i) (k8.q i) v:=fun (a,b,e,j,l,m,o)=>(.bnd (k0.h _) fun _=>(.bnd (k1.h _) fun _=>(.bnd (k2.h _) fun _=>(.br (.bnd (k3.h _) fun _=>.some) (.bnd (k4.h _) fun _=>(.bnd (k5.h _) fun _=>(.br (.bnd (k3.h _) fun _=>.some) (.bnd (k6.h _) fun _=>(.bnd (k7.h _) fun _=>(.bnd (k8.h _) fun _=>.some))))))))))
theorem f_b (k:Nat):∀ v:A,f k v = d (g53.f k) (g57.f k) (g19.f k) (g58.f k) (g63.f k) (g65.f k) (g68.f k) (g69.f k) (g71.f k) v:=fun (a,b,e,j,l,m,o)=>(held_eq _).trans (by kernel_rfl)
theorem F_of (v:A) {r:R} (h:d g53.F g57.F g19.F g58.F g63.F g65.F g68.F g69.F g71.F v = some r):F v = some r:=join_of (fun L=>f_b (L 0) v) (d_cn (lp g53.f 0) (lp g57.f 0) (lp g19.f 0) (lp g58.f 0) (lp g63.f 0) (lp g65.f 0) (lp g68.f 0) (lp g69.f 0) (lp g71.f 0) v) h
noncomputable def spec (k:Nat):List AV→List Slot→Option Ans:=specS sh os (f k)
theorem spec_ok (k:Nat):SpecOk Tryz.prog 104 (spec k):=specS_ok cs_ok Tryz.func104 rfl rfl (fun _ _=>held_eq _) k
end g72
noncomputable def tg72:=tg71.cons 104 g72.spec g72.spec_ok
namespace g73 -- horizon_CheckSite
abbrev R:Type:=Int
abbrev A:Type:=Int × Int
abbrev Y:=A→Option R
def lv:List (Nat × List Nat):=[(2000000,[2])]
noncomputable def cs:Nat→Ctx:=ctxOf tis modes tg72.1 lv
theorem cs_ok (n:Nat):CtxOk Tryz.prog (cs n):=ctxOf_ok rfl tis_ok tg72.2 n
def sh:AS:=⟨[(.agg [.int .i64,.int .i64])],[]⟩
def os:OS:=⟨.c (.int .i64),[]⟩
def enc (r:R):Out:=os.enc r
def dec:Out→Option R:=os.dec
noncomputable def b0:Code:=subF [] Tryz.f120
noncomputable def K0 (k:Nat):Kt R:=kTop (cs k) Tryz.f120 dec
noncomputable def f (k:Nat):Y:=fun v=>held (runFn cs k Tryz.f120 (sh.args v) (sh.slots v) dec)
noncomputable def F:Y:=lm f
def d:Y:=fun (a,b) =>
br (decide (a < -1073741824) || decide (1073741824 < a) || decide (b < 0) || decide (4294967296 ≤ b)) (some 4) (some 0)
theorem d_cn:∀ v:A,Cn E (d v) fun i=>d v:=fun (a,b)=>(.br .some .some)
theorem f_b (k:Nat):∀ v:A,f k v = d v:=fun (a,b)=>(held_eq _).trans (by kernel_rfl)
theorem F_of (v:A) {r:R} (h:d v = some r):F v = some r:=join_of (fun L=>f_b (L 0) v) (d_cn v) h
noncomputable def spec (k:Nat):List AV→List Slot→Option Ans:=specS sh os (f k)
theorem spec_ok (k:Nat):SpecOk Tryz.prog 120 (spec k):=specS_ok cs_ok Tryz.func120 rfl rfl (fun _ _=>held_eq _) k
end g73
noncomputable def tg73:=tg72.cons 120 g73.spec g73.spec_ok
namespace g74 -- bound_None_Fix
abbrev R:Type:=Int × Int × Bool
abbrev A:Type:=Unit
abbrev Y:=A→Option R
def lv:List (Nat × List Nat):=[(2000000,[0])]
noncomputable def cs:Nat→Ctx:=ctxOf tis modes tg73.1 lv
theorem cs_ok (n:Nat):CtxOk Tryz.prog (cs n):=ctxOf_ok rfl tis_ok tg73.2 n
def sh:AS:=⟨[],[]⟩
def os:OS:=⟨.agg [.int .i64,.int .i64,.bool],[]⟩
def enc (r:R):Out:=os.enc r
def dec:Out→Option R:=os.dec
noncomputable def b0:Code:=subF [] Tryz.f137
noncomputable def K0 (k:Nat):Kt R:=kTop (cs k) Tryz.f137 dec
noncomputable def f (k:Nat):Y:=fun v=>held (runFn cs k Tryz.f137 (sh.args v) (sh.slots v) dec)
noncomputable def F:Y:=lm f
def d:Y:=fun _ =>
some (0,0,true)
theorem d_cn:∀ v:A,Cn E (d v) fun i=>d v:=fun _=>.some
theorem f_b (k:Nat):∀ v:A,f k v = d v:=fun _=>(held_eq _).trans (by kernel_rfl)
theorem F_of (v:A) {r:R} (h:d v = some r):F v = some r:=join_of (fun L=>f_b (L 0) v) (d_cn v) h
noncomputable def spec (k:Nat):List AV→List Slot→Option Ans:=specS sh os (f k)
theorem spec_ok (k:Nat):SpecOk Tryz.prog 137 (spec k):=specS_ok cs_ok Tryz.func137 rfl rfl (fun _ _=>held_eq _) k
end g74
noncomputable def tg74:=tg73.cons 137 g74.spec g74.spec_ok
namespace g75 -- sphere_Grow
abbrev R:Type:=Int × Int × Int
abbrev A:Type:=Int × Int × Int
abbrev Y:=A→Option R
def lv:List (Nat × List Nat):=[(2000000,[2]),(3,[1,2])]
noncomputable def cs:Nat→Ctx:=ctxOf tis modes tg74.1 lv
theorem cs_ok (n:Nat):CtxOk Tryz.prog (cs n):=ctxOf_ok rfl tis_ok tg74.2 n
def sh:AS:=⟨[(.agg [.int .i64,.int .i64,.int .i64])],[]⟩
def os:OS:=⟨.agg [.int .i64,.int .i64,.int .i64],[]⟩
def enc (r:R):Out:=os.enc r
def dec:Out→Option R:=os.dec
noncomputable def b0:Code:=subF [] Tryz.f121
noncomputable def K0 (k:Nat):Kt R:=kTop (cs k) Tryz.f121 dec
noncomputable def b3:Code:=sub [1,1,0,0] b0
noncomputable def K3 ( k:Nat):Kt R:=kAt (cs k) (loopN cs k) [1,1,0] b0 (K0 k)
abbrev T0:Type:=Int × Int × Int × Int × Int × Int
abbrev Y0:=T0→Option R
def s0:T0→St:=fun (a,b,e,j,l,m)=>⟨23,0,[(1,.c (.ptr 64000000 0)),(2,.c (.ptr 64000001 0))],[],[(256000000,.gone),(64000000,.box [.int .i64 a,.int .i64 b,.int .i64 e]),(64000001,.box [.int .i64 j,.int .i64 l,.int .i64 m])]⟩
noncomputable def l0 ( k n:Nat) (v:T0):Option R:=held (loopN cs n b3 (K3 k) (s0 v))
noncomputable def D0 (v:T0):Option R:=lim fun L=>l0 (L 0) (L 1) v
theorem D0_cn (v:T0):Cn late (D0 v) fun L=>l0 (L 0) (L 1) v:=of_lim
def d0 (p0:g34.Y) (p1:Y0):Y0:=fun (a,b,e,j,l,m) =>
bnd (p0 (wrap .i64 (2 * a),wrap .i64 (2 * b),wrap .i64 (2 * e))) fun r=>br (!decide (r = 0)) (some (a,b,e)) (p1 (wrap .i64 (2 * a),wrap .i64 (2 * b),wrap .i64 (2 * e),j,l,m))
theorem d0_cn (k0:Pr E g34.A g34.R) (k1:Pr E T0 R):∀ v:T0,Cn E (d0 k0.p k1.p v) fun i=>d0 (k0.q i) (k1.q i) v:=fun (a,b,e,j,l,m)=>(.bnd (k0.h _) fun _=>(.br .some (k1.h _)))
theorem l0_b ( k m1:Nat):∀ v:T0,run (cs m1) (loopN cs m1) b3 (kLoop cs m1 b3 (K3 k)) (s0 v) = d0 (g34.f m1) (l0 k m1) v:=fun (a,b,e,j,l,m)=>by kernel_rfl
theorem D0_of (v:T0) {r:R} (h:d0 g34.F D0 v = some r):D0 v = some r:=loop_of 1 (fun L n hn=>by show l0 (L 0) (L 1) v = _; rw [hn]; exact (held_eq _).trans ((loopN_succ _ _ _ _ _).trans (l0_b (L 0) n v))) (d0_cn (lp g34.f 1) (.mk fun v=>(D0_cn v).re [0,1]) v) h
noncomputable def f (k:Nat):Y:=fun v=>held (runFn cs k Tryz.f121 (sh.args v) (sh.slots v) dec)
noncomputable def F:Y:=lm f
def d (p0:g34.Y) (p1:Y0):Y:=fun (a,b,e) =>
bnd (p0 (a,b,e)) fun r=>br (!decide (r = 0)) (some (0,0,0)) (p1 (a,b,e,0,0,0))
theorem d_cn (k0:Pr E g34.A g34.R) (k1:Pr E T0 R):∀ v:A,Cn E (d k0.p k1.p v) fun i=>d (k0.q i) (k1.q i) v:=fun (a,b,e)=>(.bnd (k0.h _) fun _=>(.br .some (k1.h _)))
theorem f_b (k:Nat):∀ v:A,f k v = d (g34.f k) (l0 k k) v:=fun (a,b,e)=>(held_eq _).trans (by kernel_rfl)
theorem F_of (v:A) {r:R} (h:d g34.F D0 v = some r):F v = some r:=join_of (fun L=>f_b (L 0) v) (d_cn (lp g34.f 0) (.mk fun v=>(D0_cn v).re [0,0]) v) h
noncomputable def spec (k:Nat):List AV→List Slot→Option Ans:=specS sh os (f k)
theorem spec_ok (k:Nat):SpecOk Tryz.prog 121 (spec k):=specS_ok cs_ok Tryz.func121 rfl rfl (fun _ _=>held_eq _) k
end g75
noncomputable def tg75:=tg74.cons 121 g75.spec g75.spec_ok
namespace g76 -- trig_times
abbrev R:Type:=Int
abbrev A:Type:=Int × Int
abbrev Y:=A→Option R
def lv:List (Nat × List Nat):=[(2000000,[4])]
noncomputable def cs:Nat→Ctx:=ctxOf tis modes tg75.1 lv
theorem cs_ok (n:Nat):CtxOk Tryz.prog (cs n):=ctxOf_ok rfl tis_ok tg75.2 n
def sh:AS:=⟨[.c (.int .i64),.c (.int .i64)],[]⟩
def os:OS:=⟨.c (.int .i64),[]⟩
def enc (r:R):Out:=os.enc r
def dec:Out→Option R:=os.dec
noncomputable def b0:Code:=subF [] Tryz.f198
noncomputable def K0 (k:Nat):Kt R:=kTop (cs k) Tryz.f198 dec
noncomputable def f (k:Nat):Y:=fun v=>held (runFn cs k Tryz.f198 (sh.args v) (sh.slots v) dec)
noncomputable def F:Y:=lm f
def d (p0:g63.Y):Y:=fun (a,b) =>
bnd (p0 (a,b,1152921504606846976)) fun r=>some r.1
theorem d_cn (k0:Pr E g63.A g63.R):∀ v:A,Cn E (d k0.p v) fun i=>d (k0.q i) v:=fun (a,b)=>(.bnd (k0.h _) fun _=>.some)
theorem f_b (k:Nat):∀ v:A,f k v = d (g63.f k) v:=fun (a,b)=>(held_eq _).trans (by kernel_rfl)
theorem F_of (v:A) {r:R} (h:d g63.F v = some r):F v = some r:=join_of (fun L=>f_b (L 0) v) (d_cn (lp g63.f 0) v) h
noncomputable def spec (k:Nat):List AV→List Slot→Option Ans:=specS sh os (f k)
theorem spec_ok (k:Nat):SpecOk Tryz.prog 198 (spec k):=specS_ok cs_ok Tryz.func198 rfl rfl (fun _ _=>held_eq _) k
end g76
noncomputable def tg76:=tg75.cons 198 g76.spec g76.spec_ok
namespace g77 -- trig_series
abbrev R:Type:=Int
abbrev A:Type:=Int × List Int
abbrev Y:=A→Option R
def lv:List (Nat × List Nat):=[(2000000,[4]),(3,[0,5,8,9,10])]
noncomputable def cs:Nat→Ctx:=ctxOf tis modes tg76.1 lv
theorem cs_ok (n:Nat):CtxOk Tryz.prog (cs n):=ctxOf_ok rfl tis_ok tg76.2 n
def sh:AS:=⟨[.c (.int .i64),.c (.frz (.int .i64))],[]⟩
def os:OS:=⟨.c (.int .i64),[]⟩
def enc (r:R):Out:=os.enc r
def dec:Out→Option R:=os.dec
noncomputable def b0:Code:=subF [] Tryz.f199
noncomputable def K0 (k:Nat):Kt R:=kTop (cs k) Tryz.f199 dec
noncomputable def b3:Code:=sub [1,1,0,1,0,0] b0
noncomputable def K3 ( k:Nat):Kt R:=kAt (cs k) (loopN cs k) [1,1,0,1,0] b0 (K0 k)
abbrev T0:Type:=Int × Int × List Int × Int × Int
abbrev Y0:=T0→Option R
def s0:T0→St:=fun (a,b,e,j,l)=>⟨22,0,[(0,.c (.int .i64 a)),(5,.c (.int .i64 b)),(8,.c (.frz (.int .i64) e)),(9,.c (.int .i64 j)),(10,.c (.int .i64 l))],[],[(256000000,.gone)]⟩
noncomputable def l0 ( k n:Nat) (v:T0):Option R:=held (loopN cs n b3 (K3 k) (s0 v))
noncomputable def D0 (v:T0):Option R:=lim fun L=>l0 (L 0) (L 1) v
theorem D0_cn (v:T0):Cn late (D0 v) fun L=>l0 (L 0) (L 1) v:=of_lim
def d0 (p0:g76.Y) (p1:Y0):Y0:=fun (a,b,e,j,l) =>
br (decide (l < j)) (br (decide (0 ≤ l ∧ l < (↑e.length:Int))) (bnd (p0 (a,b)) fun r=>br (!decide (rd (Ty.int .i64) e l = 0)) (p1 (a,wrap .i64 (1152921504606846976 - wrap .i64 (r.tdiv (rd (Ty.int .i64) e l))),e,j,wrap .i64 (l + 1))) none) none) (some b)
theorem d0_cn (k0:Pr E g76.A g76.R) (k1:Pr E T0 R):∀ v:T0,Cn E (d0 k0.p k1.p v) fun i=>d0 (k0.q i) (k1.q i) v:=fun (a,b,e,j,l)=>(.br (.br (.bnd (k0.h _) fun _=>(.br (k1.h _) .none)) .none) .some)
theorem l0_b ( k m1:Nat):∀ v:T0,run (cs m1) (loopN cs m1) b3 (kLoop cs m1 b3 (K3 k)) (s0 v) = d0 (g76.f m1) (l0 k m1) v:=fun (a,b,e,j,l)=>by kernel_rfl
theorem D0_of (v:T0) {r:R} (h:d0 g76.F D0 v = some r):D0 v = some r:=loop_of 1 (fun L n hn=>by show l0 (L 0) (L 1) v = _; rw [hn]; exact (held_eq _).trans ((loopN_succ _ _ _ _ _).trans (l0_b (L 0) n v))) (d0_cn (lp g76.f 1) (.mk fun v=>(D0_cn v).re [0,1]) v) h
noncomputable def f (k:Nat):Y:=fun v=>held (runFn cs k Tryz.f199 (sh.args v) (sh.slots v) dec)
noncomputable def F:Y:=lm f
def d (p0:Y0):Y:=fun (a,b) =>
p0 (a,1152921504606846976,b,(↑b.length:Int),0)
theorem d_cn (k0:Pr E T0 R):∀ v:A,Cn E (d k0.p v) fun i=>d (k0.q i) v:=fun (a,b)=>(k0.h _)
theorem f_b (k:Nat):∀ v:A,f k v = d (l0 k k) v:=fun (a,b)=>(held_eq _).trans (by kernel_rfl)
theorem F_of (v:A) {r:R} (h:d D0 v = some r):F v = some r:=join_of (fun L=>f_b (L 0) v) (d_cn (.mk fun v=>(D0_cn v).re [0,0]) v) h
noncomputable def spec (k:Nat):List AV→List Slot→Option Ans:=specS sh os (f k)
theorem spec_ok (k:Nat):SpecOk Tryz.prog 199 (spec k):=specS_ok cs_ok Tryz.func199 rfl rfl (fun _ _=>held_eq _) k
end g77
noncomputable def tg77:=tg76.cons 199 g77.spec g77.spec_ok
namespace g78 -- num_RoundDiv
abbrev R:Type:=Int
abbrev A:Type:=Int × Int
abbrev Y:=A→Option R
def lv:List (Nat × List Nat):=[(2000000,[4]),(1000008,[5])]
noncomputable def cs:Nat→Ctx:=ctxOf tis modes tg77.1 lv
theorem cs_ok (n:Nat):CtxOk Tryz.prog (cs n):=ctxOf_ok rfl tis_ok tg77.2 n
def sh:AS:=⟨[.c (.int .i64),.c (.int .i64)],[]⟩
def os:OS:=⟨.c (.int .i64),[]⟩
def enc (r:R):Out:=os.enc r
def dec:Out→Option R:=os.dec
noncomputable def b0:Code:=subF [] Tryz.f125
noncomputable def K0 (k:Nat):Kt R:=kTop (cs k) Tryz.f125 dec
noncomputable def c1000008:Code:=sub [1,1,1,1] b0
noncomputable def J1000008 ( k:Nat):Kt R:=kAt (cs k) (loopN cs k) [1,1,1,1] b0 (K0 k)
abbrev T0:Type:=Int
abbrev Y0:=T0→Option R
def s0:T0→St:=fun a=>⟨41,0,[(5,.c (.int .i64 a))],[],[(256000000,.gone)]⟩
noncomputable def l0 ( k:Nat) (v:T0):Option R:=held (run (cs k) (loopN cs k) c1000008 (J1000008 k) (s0 v))
noncomputable def D0 (v:T0):Option R:=lim fun L=>l0 (L 0) v
theorem D0_cn (v:T0):Cn late (D0 v) fun L=>l0 (L 0) v:=of_lim
def d0:Y0:=fun a =>
some a
theorem d0_cn:∀ v:T0,Cn E (d0 v) fun i=>d0 v:=fun a=>.some
theorem l0_b ( k:Nat):∀ v:T0,run (cs k) (loopN cs k) c1000008 (J1000008 k) (s0 v) = d0 v:=fun a=>by kernel_rfl
theorem D0_of (v:T0) {r:R} (h:d0 v = some r):D0 v = some r:=join_of (fun L=>(held_eq _).trans (l0_b (L 0) v)) (d0_cn v) h
noncomputable def f (k:Nat):Y:=fun v=>held (runFn cs k Tryz.f125 (sh.args v) (sh.slots v) dec)
noncomputable def F:Y:=lm f
def d (p0:Y0):Y:=fun (a,b) =>
br (decide (b < 1)) (some 0) (br (!decide (b = 0)) (br (!decide (b = 0)) (br (decide (wrap .i64 (b - a.tmod b) ≤ a.tmod b) && decide (0 < a.tmod b)) (p0 (wrap .i64 (wrap .i64 (a.tdiv b) + 1))) (br (decide (a.tmod b < 0) && decide (wrap .i64 (b + a.tmod b) ≤ wrap .i64 (0 - a.tmod b))) (p0 (wrap .i64 (wrap .i64 (a.tdiv b) - 1))) (p0 (wrap .i64 (a.tdiv b))))) none) none)
theorem d_cn (k0:Pr E T0 R):∀ v:A,Cn E (d k0.p v) fun i=>d (k0.q i) v:=fun (a,b)=>(.br .some (.br (.br (.br (k0.h _) (.br (k0.h _) (k0.h _))) .none) .none))
theorem f_b (k:Nat):∀ v:A,f k v = d (l0 k) v:=fun (a,b)=>(held_eq _).trans (by kernel_rfl)
theorem F_of (v:A) {r:R} (h:d D0 v = some r):F v = some r:=join_of (fun L=>f_b (L 0) v) (d_cn (.mk fun v=>(D0_cn v).re [0]) v) h
noncomputable def spec (k:Nat):List AV→List Slot→Option Ans:=specS sh os (f k)
theorem spec_ok (k:Nat):SpecOk Tryz.prog 125 (spec k):=specS_ok cs_ok Tryz.func125 rfl rfl (fun _ _=>held_eq _) k
end g78
noncomputable def tg78:=tg77.cons 125 g78.spec g78.spec_ok
namespace g79 -- trig_quarter
abbrev R:Type:=Int
abbrev A:Type:=Int
abbrev Y:=A→Option R
def lv:List (Nat × List Nat):=[(2000000,[2]),(1000004,[0,3])]
noncomputable def cs:Nat→Ctx:=ctxOf tis modes tg78.1 lv
theorem cs_ok (n:Nat):CtxOk Tryz.prog (cs n):=ctxOf_ok rfl tis_ok tg78.2 n
def sh:AS:=⟨[(.c (.int .i64))],[]⟩
def os:OS:=⟨.c (.int .i64),[]⟩
def enc (r:R):Out:=os.enc r
def dec:Out→Option R:=os.dec
noncomputable def b0:Code:=subF [] Tryz.f165
noncomputable def K0 (k:Nat):Kt R:=kTop (cs k) Tryz.f165 dec
noncomputable def c1000004:Code:=sub [1,1,1] b0
noncomputable def J1000004 ( k:Nat):Kt R:=kAt (cs k) (loopN cs k) [1,1,1] b0 (K0 k)
abbrev T0:Type:=Int × Bool
abbrev Y0:=T0→Option R
def s0:T0→St:=fun (a,b)=>⟨31,0,[(0,.c (.int .i64 a)),(3,.c (.bool b))],[],[(256000000,.gone)]⟩
noncomputable def l0 ( k:Nat) (v:T0):Option R:=held (run (cs k) (loopN cs k) c1000004 (J1000004 k) (s0 v))
noncomputable def D0 (v:T0):Option R:=lim fun L=>l0 (L 0) v
theorem D0_cn (v:T0):Cn late (D0 v) fun L=>l0 (L 0) v:=of_lim
def d0 (p0:g63.Y) (p1:g76.Y) (p2:g77.Y) (p3:g78.Y):Y0:=fun (a,b) =>
bnd (p0 (a,1811004864519280710,1073741824)) fun r=>bnd (p1 (r.1,r.1)) fun r_1=>br b (bnd (p2 (r_1,[182,132,90,56,30,12,2])) fun r=>bnd (p3 (r,1073741824)) fun r=>some r) (bnd (p2 (r_1,[156,110,72,42,20,6])) fun r_2=>bnd (p1 (r.1,r_2)) fun r=>bnd (p3 (r,1073741824)) fun r=>some r)
theorem d0_cn (k0:Pr E g63.A g63.R) (k1:Pr E g76.A g76.R) (k2:Pr E g77.A g77.R) (k3:Pr E g78.A g78.R):∀ v:T0,Cn E (d0 k0.p k1.p k2.p k3.p v) fun i=>d0 (k0.q i) (k1.q i) (k2.q i) (k3.q i) v:=fun (a,b)=>(.bnd (k0.h _) fun _=>(.bnd (k1.h _) fun _=>(.br (.bnd (k2.h _) fun _=>(.bnd (k3.h _) fun _=>.some)) (.bnd (k2.h _) fun _=>(.bnd (k1.h _) fun _=>(.bnd (k3.h _) fun _=>.some))))))
theorem l0_b ( k:Nat):∀ v:T0,run (cs k) (loopN cs k) c1000004 (J1000004 k) (s0 v) = d0 (g63.f k) (g76.f k) (g77.f k) (g78.f k) v:=fun (a,b)=>by kernel_rfl
theorem D0_of (v:T0) {r:R} (h:d0 g63.F g76.F g77.F g78.F v = some r):D0 v = some r:=join_of (fun L=>(held_eq _).trans (l0_b (L 0) v)) (d0_cn (lp g63.f 0) (lp g76.f 0) (lp g77.f 0) (lp g78.f 0) v) h
noncomputable def f (k:Nat):Y:=fun v=>held (runFn cs k Tryz.f165 (sh.args v) (sh.slots v) dec)
noncomputable def F:Y:=lm f
def d (p0:Y0):Y:=fun a =>
br (decide (536870912 < a)) (p0 (wrap .i64 (1073741824 - a),decide (536870912 < a))) (p0 (a,decide (536870912 < a)))
theorem d_cn (k0:Pr E T0 R):∀ v:A,Cn E (d k0.p v) fun i=>d (k0.q i) v:=fun a=>(.br (k0.h _) (k0.h _))
theorem f_b (k:Nat):∀ v:A,f k v = d (l0 k) v:=fun a=>(held_eq _).trans (by kernel_rfl)
theorem F_of (v:A) {r:R} (h:d D0 v = some r):F v = some r:=join_of (fun L=>f_b (L 0) v) (d_cn (.mk fun v=>(D0_cn v).re [0]) v) h
noncomputable def spec (k:Nat):List AV→List Slot→Option Ans:=specS sh os (f k)
theorem spec_ok (k:Nat):SpecOk Tryz.prog 165 (spec k):=specS_ok cs_ok Tryz.func165 rfl rfl (fun _ _=>held_eq _) k
end g79
noncomputable def tg79:=tg78.cons 165 g79.spec g79.spec_ok
namespace g80 -- trig_Sin
abbrev R:Type:=Int
abbrev A:Type:=Int
abbrev Y:=A→Option R
def lv:List (Nat × List Nat):=[(2000000,[2])]
noncomputable def cs:Nat→Ctx:=ctxOf tis modes tg79.1 lv
theorem cs_ok (n:Nat):CtxOk Tryz.prog (cs n):=ctxOf_ok rfl tis_ok tg79.2 n
def sh:AS:=⟨[(.c (.int .i64))],[]⟩
def os:OS:=⟨.c (.int .i64),[]⟩
def enc (r:R):Out:=os.enc r
def dec:Out→Option R:=os.dec
noncomputable def b0:Code:=subF [] Tryz.f124
noncomputable def K0 (k:Nat):Kt R:=kTop (cs k) Tryz.f124 dec
noncomputable def f (k:Nat):Y:=fun v=>held (runFn cs k Tryz.f124 (sh.args v) (sh.slots v) dec)
noncomputable def F:Y:=lm f
noncomputable def d (p0:g79.Y):Y:=fun a =>
br (!decide (1073741824 = 0)) (br (decide (wrap .i64 ((bAnd .i64 a 4294967295).tdiv 1073741824) = 0)) (bnd (p0 (bAnd .i64 (bAnd .i64 a 4294967295) 1073741823)) fun r=>some r) (br (decide (wrap .i64 ((bAnd .i64 a 4294967295).tdiv 1073741824) = 1)) (bnd (p0 (wrap .i64 (1073741824 - bAnd .i64 (bAnd .i64 a 4294967295) 1073741823))) fun r=>some r) (br (decide (wrap .i64 ((bAnd .i64 a 4294967295).tdiv 1073741824) = 2)) (bnd (p0 (bAnd .i64 (bAnd .i64 a 4294967295) 1073741823)) fun r=>some (wrap .i64 (0 - r))) (bnd (p0 (wrap .i64 (1073741824 - bAnd .i64 (bAnd .i64 a 4294967295) 1073741823))) fun r=>some (wrap .i64 (0 - r)))))) none
theorem d_cn (k0:Pr E g79.A g79.R):∀ v:A,Cn E (d k0.p v) fun i=>d (k0.q i) v:=fun a=>(.br (.br (.bnd (k0.h _) fun _=>.some) (.br (.bnd (k0.h _) fun _=>.some) (.br (.bnd (k0.h _) fun _=>.some) (.bnd (k0.h _) fun _=>.some)))) .none)
theorem f_b (k:Nat):∀ v:A,f k v = d (g79.f k) v:=fun a=>(held_eq _).trans (by kernel_rfl)
theorem F_of (v:A) {r:R} (h:d g79.F v = some r):F v = some r:=join_of (fun L=>f_b (L 0) v) (d_cn (lp g79.f 0) v) h
noncomputable def spec (k:Nat):List AV→List Slot→Option Ans:=specS sh os (f k)
theorem spec_ok (k:Nat):SpecOk Tryz.prog 124 (spec k):=specS_ok cs_ok Tryz.func124 rfl rfl (fun _ _=>held_eq _) k
end g80
noncomputable def tg80:=tg79.cons 124 g80.spec g80.spec_ok
namespace g81 -- trig_Cos
abbrev R:Type:=Int
abbrev A:Type:=Int
abbrev Y:=A→Option R
def lv:List (Nat × List Nat):=[(2000000,[2])]
noncomputable def cs:Nat→Ctx:=ctxOf tis modes tg80.1 lv
theorem cs_ok (n:Nat):CtxOk Tryz.prog (cs n):=ctxOf_ok rfl tis_ok tg80.2 n
def sh:AS:=⟨[(.c (.int .i64))],[]⟩
def os:OS:=⟨.c (.int .i64),[]⟩
def enc (r:R):Out:=os.enc r
def dec:Out→Option R:=os.dec
noncomputable def b0:Code:=subF [] Tryz.f123
noncomputable def K0 (k:Nat):Kt R:=kTop (cs k) Tryz.f123 dec
noncomputable def f (k:Nat):Y:=fun v=>held (runFn cs k Tryz.f123 (sh.args v) (sh.slots v) dec)
noncomputable def F:Y:=lm f
def d (p0:g80.Y):Y:=fun a =>
bnd (p0 (wrap .i64 (bAnd .i64 a 4294967295 + 1073741824))) fun r=>some r
theorem d_cn (k0:Pr E g80.A g80.R):∀ v:A,Cn E (d k0.p v) fun i=>d (k0.q i) v:=fun a=>(.bnd (k0.h _) fun _=>.some)
theorem f_b (k:Nat):∀ v:A,f k v = d (g80.f k) v:=fun a=>(held_eq _).trans (by kernel_rfl)
theorem F_of (v:A) {r:R} (h:d g80.F v = some r):F v = some r:=join_of (fun L=>f_b (L 0) v) (d_cn (lp g80.f 0) v) h
noncomputable def spec (k:Nat):List AV→List Slot→Option Ans:=specS sh os (f k)
theorem spec_ok (k:Nat):SpecOk Tryz.prog 123 (spec k):=specS_ok cs_ok Tryz.func123 rfl rfl (fun _ _=>held_eq _) k
end g81
noncomputable def tg81:=tg80.cons 123 g81.spec g81.spec_ok
namespace g82 -- num_FloorDiv
abbrev R:Type:=Int
abbrev A:Type:=Int × Int
abbrev Y:=A→Option R
def lv:List (Nat × List Nat):=[(2000000,[4]),(1000006,[5])]
noncomputable def cs:Nat→Ctx:=ctxOf tis modes tg81.1 lv
theorem cs_ok (n:Nat):CtxOk Tryz.prog (cs n):=ctxOf_ok rfl tis_ok tg81.2 n
def sh:AS:=⟨[.c (.int .i64),.c (.int .i64)],[]⟩
def os:OS:=⟨.c (.int .i64),[]⟩
def enc (r:R):Out:=os.enc r
def dec:Out→Option R:=os.dec
noncomputable def b0:Code:=subF [] Tryz.f221
noncomputable def K0 (k:Nat):Kt R:=kTop (cs k) Tryz.f221 dec
noncomputable def c1000006:Code:=sub [1,1,1,1] b0
noncomputable def J1000006 ( k:Nat):Kt R:=kAt (cs k) (loopN cs k) [1,1,1,1] b0 (K0 k)
abbrev T0:Type:=Int
abbrev Y0:=T0→Option R
def s0:T0→St:=fun a=>⟨18,0,[(5,.c (.int .i64 a))],[],[(256000000,.gone)]⟩
noncomputable def l0 ( k:Nat) (v:T0):Option R:=held (run (cs k) (loopN cs k) c1000006 (J1000006 k) (s0 v))
noncomputable def D0 (v:T0):Option R:=lim fun L=>l0 (L 0) v
theorem D0_cn (v:T0):Cn late (D0 v) fun L=>l0 (L 0) v:=of_lim
def d0:Y0:=fun a =>
some a
theorem d0_cn:∀ v:T0,Cn E (d0 v) fun i=>d0 v:=fun a=>.some
theorem l0_b ( k:Nat):∀ v:T0,run (cs k) (loopN cs k) c1000006 (J1000006 k) (s0 v) = d0 v:=fun a=>by kernel_rfl
theorem D0_of (v:T0) {r:R} (h:d0 v = some r):D0 v = some r:=join_of (fun L=>(held_eq _).trans (l0_b (L 0) v)) (d0_cn v) h
noncomputable def f (k:Nat):Y:=fun v=>held (runFn cs k Tryz.f221 (sh.args v) (sh.slots v) dec)
noncomputable def F:Y:=lm f
def d (p0:Y0):Y:=fun (a,b) =>
br (decide (b < 1)) (some 0) (br (!decide (b = 0)) (br (!decide (b = 0)) (br (decide (a.tmod b < 0)) (p0 (wrap .i64 (wrap .i64 (a.tdiv b) - 1))) (p0 (wrap .i64 (a.tdiv b)))) none) none)
theorem d_cn (k0:Pr E T0 R):∀ v:A,Cn E (d k0.p v) fun i=>d (k0.q i) v:=fun (a,b)=>(.br .some (.br (.br (.br (k0.h _) (k0.h _)) .none) .none))
theorem f_b (k:Nat):∀ v:A,f k v = d (l0 k) v:=fun (a,b)=>(held_eq _).trans (by kernel_rfl)
theorem F_of (v:A) {r:R} (h:d D0 v = some r):F v = some r:=join_of (fun L=>f_b (L 0) v) (d_cn (.mk fun v=>(D0_cn v).re [0]) v) h
noncomputable def spec (k:Nat):List AV→List Slot→Option Ans:=specS sh os (f k)
theorem spec_ok (k:Nat):SpecOk Tryz.prog 221 (spec k):=specS_ok cs_ok Tryz.func221 rfl rfl (fun _ _=>held_eq _) k
end g82
noncomputable def tg82:=tg81.cons 221 g82.spec g82.spec_ok
namespace g83 -- trig_meets
abbrev R:Type:=Bool
abbrev A:Type:=Int × Int × Bool × Int
abbrev Y:=A→Option R
def lv:List (Nat × List Nat):=[(2000000,[4])]
noncomputable def cs:Nat→Ctx:=ctxOf tis modes tg82.1 lv
theorem cs_ok (n:Nat):CtxOk Tryz.prog (cs n):=ctxOf_ok rfl tis_ok tg82.2 n
def sh:AS:=⟨[.agg [.int .i64,.int .i64,.bool],.c (.int .i64)],[]⟩
def os:OS:=⟨.c .bool,[]⟩
def enc (r:R):Out:=os.enc r
def dec:Out→Option R:=os.dec
noncomputable def b0:Code:=subF [] Tryz.f206
noncomputable def K0 (k:Nat):Kt R:=kTop (cs k) Tryz.f206 dec
noncomputable def f (k:Nat):Y:=fun v=>held (runFn cs k Tryz.f206 (sh.args v) (sh.slots v) dec)
noncomputable def F:Y:=lm f
def d (p0:g82.Y) (p1:g16.Y):Y:=fun (a,b,e,j) =>
bnd (p0 (wrap .i64 (b - j),4294967296)) fun r=>bnd (p1 (wrap .i64 (a - j),4294967296)) fun r_1=>some (decide (r_1 ≤ r))
theorem d_cn (k0:Pr E g82.A g82.R) (k1:Pr E g16.A g16.R):∀ v:A,Cn E (d k0.p k1.p v) fun i=>d (k0.q i) (k1.q i) v:=fun (a,b,e,j)=>(.bnd (k0.h _) fun _=>(.bnd (k1.h _) fun _=>.some))
theorem f_b (k:Nat):∀ v:A,f k v = d (g82.f k) (g16.f k) v:=fun (a,b,e,j)=>(held_eq _).trans (by kernel_rfl)
theorem F_of (v:A) {r:R} (h:d g82.F g16.F v = some r):F v = some r:=join_of (fun L=>f_b (L 0) v) (d_cn (lp g82.f 0) (lp g16.f 0) v) h
noncomputable def spec (k:Nat):List AV→List Slot→Option Ans:=specS sh os (f k)
theorem spec_ok (k:Nat):SpecOk Tryz.prog 206 (spec k):=specS_ok cs_ok Tryz.func206 rfl rfl (fun _ _=>held_eq _) k
end g83
noncomputable def tg83:=tg82.cons 206 g83.spec g83.spec_ok
namespace g84 -- bound_Check_Fix
abbrev R:Type:=Int
abbrev A:Type:=Int × Int × Bool
abbrev Y:=A→Option R
def lv:List (Nat × List Nat):=[(2000000,[2])]
noncomputable def cs:Nat→Ctx:=ctxOf tis modes tg83.1 lv
theorem cs_ok (n:Nat):CtxOk Tryz.prog (cs n):=ctxOf_ok rfl tis_ok tg83.2 n
def sh:AS:=⟨[(.agg [.int .i64,.int .i64,.bool])],[]⟩
def os:OS:=⟨.c (.int .i64),[]⟩
def enc (r:R):Out:=os.enc r
def dec:Out→Option R:=os.dec
noncomputable def b0:Code:=subF [] Tryz.f209
noncomputable def K0 (k:Nat):Kt R:=kTop (cs k) Tryz.f209 dec
noncomputable def f (k:Nat):Y:=fun v=>held (runFn cs k Tryz.f209 (sh.args v) (sh.slots v) dec)
noncomputable def F:Y:=lm f
def d:Y:=fun (a,b,e) =>
br (e && (!decide (a = 0) || !decide (b = 0))) (some 3) (br (decide (min a b < -1152921504606846976) || decide (1152921504606846976 < max a b)) (some 4) (br (decide (b < a)) (some 11) (some 0)))
theorem d_cn:∀ v:A,Cn E (d v) fun i=>d v:=fun (a,b,e)=>(.br .some (.br .some (.br .some .some)))
theorem f_b (k:Nat):∀ v:A,f k v = d v:=fun (a,b,e)=>(held_eq _).trans (by kernel_rfl)
theorem F_of (v:A) {r:R} (h:d v = some r):F v = some r:=join_of (fun L=>f_b (L 0) v) (d_cn v) h
noncomputable def spec (k:Nat):List AV→List Slot→Option Ans:=specS sh os (f k)
theorem spec_ok (k:Nat):SpecOk Tryz.prog 209 (spec k):=specS_ok cs_ok Tryz.func209 rfl rfl (fun _ _=>held_eq _) k
end g84
noncomputable def tg84:=tg83.cons 209 g84.spec g84.spec_ok
namespace g85 -- bound_Norm_Fix
abbrev R:Type:=Int × Int × Bool
abbrev A:Type:=Int × Int × Bool
abbrev Y:=A→Option R
def lv:List (Nat × List Nat):=[(2000000,[2])]
noncomputable def cs:Nat→Ctx:=ctxOf tis modes tg84.1 lv
theorem cs_ok (n:Nat):CtxOk Tryz.prog (cs n):=ctxOf_ok rfl tis_ok tg84.2 n
def sh:AS:=⟨[(.agg [.int .i64,.int .i64,.bool])],[]⟩
def os:OS:=⟨.agg [.int .i64,.int .i64,.bool],[]⟩
def enc (r:R):Out:=os.enc r
def dec:Out→Option R:=os.dec
noncomputable def b0:Code:=subF [] Tryz.f183
noncomputable def K0 (k:Nat):Kt R:=kTop (cs k) Tryz.f183 dec
noncomputable def f (k:Nat):Y:=fun v=>held (runFn cs k Tryz.f183 (sh.args v) (sh.slots v) dec)
noncomputable def F:Y:=lm f
def d (p0:g84.Y) (p1:g74.Y):Y:=fun (a,b,e) =>
bnd (p0 (a,b,e)) fun r=>br (!decide (r = 0)) (bnd (p1 ()) fun r=>some (r.1,r.2.1,r.2.2)) (some (a,b,e))
theorem d_cn (k0:Pr E g84.A g84.R) (k1:Pr E g74.A g74.R):∀ v:A,Cn E (d k0.p k1.p v) fun i=>d (k0.q i) (k1.q i) v:=fun (a,b,e)=>(.bnd (k0.h _) fun _=>(.br (.bnd (k1.h _) fun _=>.some) .some))
theorem f_b (k:Nat):∀ v:A,f k v = d (g84.f k) (g74.f k) v:=fun (a,b,e)=>(held_eq _).trans (by kernel_rfl)
theorem F_of (v:A) {r:R} (h:d g84.F g74.F v = some r):F v = some r:=join_of (fun L=>f_b (L 0) v) (d_cn (lp g84.f 0) (lp g74.f 0) v) h
noncomputable def spec (k:Nat):List AV→List Slot→Option Ans:=specS sh os (f k)
theorem spec_ok (k:Nat):SpecOk Tryz.prog 183 (spec k):=specS_ok cs_ok Tryz.func183 rfl rfl (fun _ _=>held_eq _) k
end g85
noncomputable def tg85:=tg84.cons 183 g85.spec g85.spec_ok
namespace g86 -- bound_Of_Fix
abbrev R:Type:=Int × Int × Bool
abbrev A:Type:=Int × Int
abbrev Y:=A→Option R
def lv:List (Nat × List Nat):=[(2000000,[4])]
noncomputable def cs:Nat→Ctx:=ctxOf tis modes tg85.1 lv
theorem cs_ok (n:Nat):CtxOk Tryz.prog (cs n):=ctxOf_ok rfl tis_ok tg85.2 n
def sh:AS:=⟨[.c (.int .i64),.c (.int .i64)],[]⟩
def os:OS:=⟨.agg [.int .i64,.int .i64,.bool],[]⟩
def enc (r:R):Out:=os.enc r
def dec:Out→Option R:=os.dec
noncomputable def b0:Code:=subF [] Tryz.f149
noncomputable def K0 (k:Nat):Kt R:=kTop (cs k) Tryz.f149 dec
noncomputable def f (k:Nat):Y:=fun v=>held (runFn cs k Tryz.f149 (sh.args v) (sh.slots v) dec)
noncomputable def F:Y:=lm f
def d (p0:g85.Y):Y:=fun (a,b) =>
bnd (p0 (a,b,false)) fun r=>some (r.1,r.2.1,r.2.2)
theorem d_cn (k0:Pr E g85.A g85.R):∀ v:A,Cn E (d k0.p v) fun i=>d (k0.q i) v:=fun (a,b)=>(.bnd (k0.h _) fun _=>.some)
theorem f_b (k:Nat):∀ v:A,f k v = d (g85.f k) v:=fun (a,b)=>(held_eq _).trans (by kernel_rfl)
theorem F_of (v:A) {r:R} (h:d g85.F v = some r):F v = some r:=join_of (fun L=>f_b (L 0) v) (d_cn (lp g85.f 0) v) h
noncomputable def spec (k:Nat):List AV→List Slot→Option Ans:=specS sh os (f k)
theorem spec_ok (k:Nat):SpecOk Tryz.prog 149 (spec k):=specS_ok cs_ok Tryz.func149 rfl rfl (fun _ _=>held_eq _) k
end g86
noncomputable def tg86:=tg85.cons 149 g86.spec g86.spec_ok
namespace g87 -- trig_wave
abbrev R:Type:=Int × Int × Bool
abbrev A:Type:=Int × Int × Bool × Int
abbrev Y:=A→Option R
def lv:List (Nat × List Nat):=[(2000000,[6]),(1000008,[2,3,6,9,10]),(1000010,[6,9,10])]
noncomputable def cs:Nat→Ctx:=ctxOf tis modes tg86.1 lv
theorem cs_ok (n:Nat):CtxOk Tryz.prog (cs n):=ctxOf_ok rfl tis_ok tg86.2 n
def sh:AS:=⟨[.agg [.int .i64,.int .i64,.bool],.c (.func 123 []),.c (.int .i64)],[]⟩
def os:OS:=⟨.agg [.int .i64,.int .i64,.bool],[]⟩
def enc (r:R):Out:=os.enc r
def dec:Out→Option R:=os.dec
noncomputable def b0:Code:=subF [] Tryz.f176
noncomputable def K0 (k:Nat):Kt R:=kTop (cs k) Tryz.f176 dec
noncomputable def c1000008:Code:=sub [1,1,1,1,1] b0
noncomputable def J1000008 ( k:Nat):Kt R:=kAt (cs k) (loopN cs k) [1,1,1,1,1] b0 (K0 k)
noncomputable def c1000010:Code:=sub [1,1,1,1,1,1] b0
noncomputable def J1000010 ( k:Nat):Kt R:=kAt (cs k) (loopN cs k) [1,1,1,1,1,1] b0 (K0 k)
abbrev T0:Type:=Int × Int × Int × Int × Int × Bool × Int × Int × Bool
abbrev Y0:=T0→Option R
def s0:T0→St:=fun (a,b,e,j,l,m,o,s,t)=>⟨44,0,[(2,.c (.int .i64 a)),(3,.c (.ptr 64000000 0)),(6,.c (.ptr 64000001 0)),(9,.c (.int .i64 b)),(10,.c (.int .i64 e))],[],[(256000000,.gone),(64000000,.box [.int .i64 j,.int .i64 l,.bool m]),(64000001,.box [.int .i64 o,.int .i64 s,.bool t])]⟩
noncomputable def l0 ( k:Nat) (v:T0):Option R:=held (run (cs k) (loopN cs k) c1000008 (J1000008 k) (s0 v))
noncomputable def D0 (v:T0):Option R:=lim fun L=>l0 (L 0) v
theorem D0_cn (v:T0):Cn late (D0 v) fun L=>l0 (L 0) v:=of_lim
abbrev T1:Type:=Int × Int × Int × Int × Bool
abbrev Y1:=T1→Option R
def s1:T1→St:=fun (a,b,e,j,l)=>⟨44,0,[(6,.c (.ptr 64000000 0)),(9,.c (.int .i64 a)),(10,.c (.int .i64 b))],[],[(256000000,.gone),(64000000,.box [.int .i64 e,.int .i64 j,.bool l])]⟩
noncomputable def l1 ( k:Nat) (v:T1):Option R:=held (run (cs k) (loopN cs k) c1000010 (J1000010 k) (s1 v))
noncomputable def D1 (v:T1):Option R:=lim fun L=>l1 (L 0) v
theorem D1_cn (v:T1):Cn late (D1 v) fun L=>l1 (L 0) v:=of_lim
def d0 (p0:g83.Y) (p1:Y1):Y0:=fun (a,b,e,j,l,m,o,s,t) =>
bnd (p0 (j,l,m,wrap .i64 (a + 2147483648))) fun r=>br r (p1 (-1073741824,e,o,s,t)) (p1 (b,e,o,s,t))
theorem d0_cn (k0:Pr E g83.A g83.R) (k1:Pr E T1 R):∀ v:T0,Cn E (d0 k0.p k1.p v) fun i=>d0 (k0.q i) (k1.q i) v:=fun (a,b,e,j,l,m,o,s,t)=>(.bnd (k0.h _) fun _=>(.br (k1.h _) (k1.h _)))
theorem l0_b ( k:Nat):∀ v:T0,run (cs k) (loopN cs k) c1000008 (J1000008 k) (s0 v) = d0 (g83.f k) (l1 k) v:=fun (a,b,e,j,l,m,o,s,t)=>by kernel_rfl
theorem D0_of (v:T0) {r:R} (h:d0 g83.F D1 v = some r):D0 v = some r:=join_of (fun L=>(held_eq _).trans (l0_b (L 0) v)) (d0_cn (lp g83.f 0) (.mk fun v=>(D1_cn v).re [0]) v) h
def d1 (p0:g86.Y):Y1:=fun (a,b,e,j,l) =>
bnd (p0 (a,b)) fun r=>some (r.1,r.2.1,r.2.2)
theorem d1_cn (k0:Pr E g86.A g86.R):∀ v:T1,Cn E (d1 k0.p v) fun i=>d1 (k0.q i) v:=fun (a,b,e,j,l)=>(.bnd (k0.h _) fun _=>.some)
theorem l1_b ( k:Nat):∀ v:T1,run (cs k) (loopN cs k) c1000010 (J1000010 k) (s1 v) = d1 (g86.f k) v:=fun (a,b,e,j,l)=>by kernel_rfl
theorem D1_of (v:T1) {r:R} (h:d1 g86.F v = some r):D1 v = some r:=join_of (fun L=>(held_eq _).trans (l1_b (L 0) v)) (d1_cn (lp g86.f 0) v) h
noncomputable def f (k:Nat):Y:=fun v=>held (runFn cs k Tryz.f176 (sh.args v) (sh.slots v) dec)
noncomputable def F:Y:=lm f
def d (p0:g67.Y) (p1:g74.Y) (p2:g81.Y) (p3:g83.Y) (p4:Y0):Y:=fun (a,b,e,j) =>
bnd (p0 (a,b,e)) fun r=>br r.2.2 (bnd (p1 ()) fun r=>some (r.1,r.2.1,r.2.2)) (bnd (p2 r.1) fun r_1=>bnd (p2 r.2.1) fun r_2=>bnd (p3 (r.1,r.2.1,r.2.2,j)) fun r_3=>br r_3 (p4 (j,max (-1073741824) (wrap .i64 (min r_1 r_2 - 1)),1073741824,r.1,r.2.1,r.2.2,0,0,false)) (p4 (j,max (-1073741824) (wrap .i64 (min r_1 r_2 - 1)),min 1073741824 (wrap .i64 (max r_1 r_2 + 1)),r.1,r.2.1,r.2.2,0,0,false)))
theorem d_cn (k0:Pr E g67.A g67.R) (k1:Pr E g74.A g74.R) (k2:Pr E g81.A g81.R) (k3:Pr E g83.A g83.R) (k4:Pr E T0 R):∀ v:A,Cn E (d k0.p k1.p k2.p k3.p k4.p v) fun i=>d (k0.q i) (k1.q i) (k2.q i) (k3.q i) (k4.q i) v:=fun (a,b,e,j)=>(.bnd (k0.h _) fun _=>(.br (.bnd (k1.h _) fun _=>.some) (.bnd (k2.h _) fun _=>(.bnd (k2.h _) fun _=>(.bnd (k3.h _) fun _=>(.br (k4.h _) (k4.h _)))))))
theorem f_b (k:Nat):∀ v:A,f k v = d (g67.f k) (g74.f k) (g81.f k) (g83.f k) (l0 k) v:=fun (a,b,e,j)=>(held_eq _).trans (by kernel_rfl)
theorem F_of (v:A) {r:R} (h:d g67.F g74.F g81.F g83.F D0 v = some r):F v = some r:=join_of (fun L=>f_b (L 0) v) (d_cn (lp g67.f 0) (lp g74.f 0) (lp g81.f 0) (lp g83.f 0) (.mk fun v=>(D0_cn v).re [0]) v) h
noncomputable def spec (k:Nat):List AV→List Slot→Option Ans:=specS sh os (f k)
theorem spec_ok (k:Nat):SpecOk Tryz.prog 176 (spec k):=specS_ok cs_ok Tryz.func176 rfl rfl (fun _ _=>held_eq _) k
end g87
noncomputable def tg87:=tg86.cons 176 g87.spec g87.spec_ok
namespace g88 -- trig_CosBound
abbrev R:Type:=Int × Int × Bool
abbrev A:Type:=Int × Int × Bool
abbrev Y:=A→Option R
def lv:List (Nat × List Nat):=[(2000000,[2])]
noncomputable def cs:Nat→Ctx:=ctxOf tis modes tg87.1 lv
theorem cs_ok (n:Nat):CtxOk Tryz.prog (cs n):=ctxOf_ok rfl tis_ok tg87.2 n
def sh:AS:=⟨[(.agg [.int .i64,.int .i64,.bool])],[]⟩
def os:OS:=⟨.agg [.int .i64,.int .i64,.bool],[]⟩
def enc (r:R):Out:=os.enc r
def dec:Out→Option R:=os.dec
noncomputable def b0:Code:=subF [] Tryz.f142
noncomputable def K0 (k:Nat):Kt R:=kTop (cs k) Tryz.f142 dec
noncomputable def f (k:Nat):Y:=fun v=>held (runFn cs k Tryz.f142 (sh.args v) (sh.slots v) dec)
noncomputable def F:Y:=lm f
def d (p0:g87.Y):Y:=fun (a,b,e) =>
bnd (p0 (a,b,e,0)) fun r=>some (r.1,r.2.1,r.2.2)
theorem d_cn (k0:Pr E g87.A g87.R):∀ v:A,Cn E (d k0.p v) fun i=>d (k0.q i) v:=fun (a,b,e)=>(.bnd (k0.h _) fun _=>.some)
theorem f_b (k:Nat):∀ v:A,f k v = d (g87.f k) v:=fun (a,b,e)=>(held_eq _).trans (by kernel_rfl)
theorem F_of (v:A) {r:R} (h:d g87.F v = some r):F v = some r:=join_of (fun L=>f_b (L 0) v) (d_cn (lp g87.f 0) v) h
noncomputable def spec (k:Nat):List AV→List Slot→Option Ans:=specS sh os (f k)
theorem spec_ok (k:Nat):SpecOk Tryz.prog 142 (spec k):=specS_ok cs_ok Tryz.func142 rfl rfl (fun _ _=>held_eq _) k
end g88
noncomputable def tg88:=tg87.cons 142 g88.spec g88.spec_ok
namespace g89 -- bound_Exact_Fix
abbrev R:Type:=Int × Int × Bool
abbrev A:Type:=Int
abbrev Y:=A→Option R
def lv:List (Nat × List Nat):=[(2000000,[2])]
noncomputable def cs:Nat→Ctx:=ctxOf tis modes tg88.1 lv
theorem cs_ok (n:Nat):CtxOk Tryz.prog (cs n):=ctxOf_ok rfl tis_ok tg88.2 n
def sh:AS:=⟨[(.c (.int .i64))],[]⟩
def os:OS:=⟨.agg [.int .i64,.int .i64,.bool],[]⟩
def enc (r:R):Out:=os.enc r
def dec:Out→Option R:=os.dec
noncomputable def b0:Code:=subF [] Tryz.f146
noncomputable def K0 (k:Nat):Kt R:=kTop (cs k) Tryz.f146 dec
noncomputable def f (k:Nat):Y:=fun v=>held (runFn cs k Tryz.f146 (sh.args v) (sh.slots v) dec)
noncomputable def F:Y:=lm f
def d (p0:g86.Y):Y:=fun a =>
bnd (p0 (a,a)) fun r=>some (r.1,r.2.1,r.2.2)
theorem d_cn (k0:Pr E g86.A g86.R):∀ v:A,Cn E (d k0.p v) fun i=>d (k0.q i) v:=fun a=>(.bnd (k0.h _) fun _=>.some)
theorem f_b (k:Nat):∀ v:A,f k v = d (g86.f k) v:=fun a=>(held_eq _).trans (by kernel_rfl)
theorem F_of (v:A) {r:R} (h:d g86.F v = some r):F v = some r:=join_of (fun L=>f_b (L 0) v) (d_cn (lp g86.f 0) v) h
noncomputable def spec (k:Nat):List AV→List Slot→Option Ans:=specS sh os (f k)
theorem spec_ok (k:Nat):SpecOk Tryz.prog 146 (spec k):=specS_ok cs_ok Tryz.func146 rfl rfl (fun _ _=>held_eq _) k
end g89
noncomputable def tg89:=tg88.cons 146 g89.spec g89.spec_ok
namespace g90 -- bound_vague_Fix
abbrev R:Type:=Bool
abbrev A:Type:=Int × Int × Bool × Int × Int × Bool
abbrev Y:=A→Option R
def lv:List (Nat × List Nat):=[(2000000,[4])]
noncomputable def cs:Nat→Ctx:=ctxOf tis modes tg89.1 lv
theorem cs_ok (n:Nat):CtxOk Tryz.prog (cs n):=ctxOf_ok rfl tis_ok tg89.2 n
def sh:AS:=⟨[.agg [.int .i64,.int .i64,.bool],.agg [.int .i64,.int .i64,.bool]],[]⟩
def os:OS:=⟨.c .bool,[]⟩
def enc (r:R):Out:=os.enc r
def dec:Out→Option R:=os.dec
noncomputable def b0:Code:=subF [] Tryz.f175
noncomputable def K0 (k:Nat):Kt R:=kTop (cs k) Tryz.f175 dec
noncomputable def f (k:Nat):Y:=fun v=>held (runFn cs k Tryz.f175 (sh.args v) (sh.slots v) dec)
noncomputable def F:Y:=lm f
def d (p0:g85.Y):Y:=fun (a,b,e,j,l,m) =>
bnd (p0 (a,b,e)) fun r=>br (r.2.2 == false) (bnd (p0 (j,l,m)) fun r=>some r.2.2) (some true)
theorem d_cn (k0:Pr E g85.A g85.R):∀ v:A,Cn E (d k0.p v) fun i=>d (k0.q i) v:=fun (a,b,e,j,l,m)=>(.bnd (k0.h _) fun _=>(.br (.bnd (k0.h _) fun _=>.some) .some))
theorem f_b (k:Nat):∀ v:A,f k v = d (g85.f k) v:=fun (a,b,e,j,l,m)=>(held_eq _).trans (by kernel_rfl)
theorem F_of (v:A) {r:R} (h:d g85.F v = some r):F v = some r:=join_of (fun L=>f_b (L 0) v) (d_cn (lp g85.f 0) v) h
noncomputable def spec (k:Nat):List AV→List Slot→Option Ans:=specS sh os (f k)
theorem spec_ok (k:Nat):SpecOk Tryz.prog 175 (spec k):=specS_ok cs_ok Tryz.func175 rfl rfl (fun _ _=>held_eq _) k
end g90
noncomputable def tg90:=tg89.cons 175 g90.spec g90.spec_ok
namespace g91 -- bound_Mul_FixS1
abbrev R:Type:=Int × Int × Int
abbrev A:Type:=Int × Int × Int
abbrev Y:=A→Option R
def lv:List (Nat × List Nat):=[(2000000,[5,6])]
noncomputable def cs:Nat→Ctx:=ctxOf tis modes tg90.1 lv
theorem cs_ok (n:Nat):CtxOk Tryz.prog (cs n):=ctxOf_ok rfl tis_ok tg90.2 n
def sh:AS:=⟨[.c (.int .i64),.c (.int .i64),.c (.ptr 128000000 0)],[(.box [(.int .i64)])]⟩
def os:OS:=⟨.tup [.c (.int .i64),.c (.int .i64)],[(.box [(.int .i64)])]⟩
def enc (r:R):Out:=os.enc r
def dec:Out→Option R:=os.dec
noncomputable def b0:Code:=subF [] Tryz.f178
noncomputable def K0 (k:Nat):Kt R:=kTop (cs k) Tryz.f178 dec
noncomputable def f (k:Nat):Y:=fun v=>held (runFn cs k Tryz.f178 (sh.args v) (sh.slots v) dec)
noncomputable def F:Y:=lm f
def d (p0:g63.Y):Y:=fun (a,b,e) =>
bnd (p0 (a,b,e)) fun r=>some (r.1,r.2,e)
theorem d_cn (k0:Pr E g63.A g63.R):∀ v:A,Cn E (d k0.p v) fun i=>d (k0.q i) v:=fun (a,b,e)=>(.bnd (k0.h _) fun _=>.some)
theorem f_b (k:Nat):∀ v:A,f k v = d (g63.f k) v:=fun (a,b,e)=>(held_eq _).trans (by kernel_rfl)
theorem F_of (v:A) {r:R} (h:d g63.F v = some r):F v = some r:=join_of (fun L=>f_b (L 0) v) (d_cn (lp g63.f 0) v) h
noncomputable def spec (k:Nat):List AV→List Slot→Option Ans:=specS sh os (f k)
theorem spec_ok (k:Nat):SpecOk Tryz.prog 178 (spec k):=specS_ok cs_ok Tryz.func178 rfl rfl (fun _ _=>held_eq _) k
end g91
noncomputable def tg91:=tg90.cons 178 g91.spec g91.spec_ok
namespace g92 -- bound_Mul_FixS2
abbrev R:Type:=Int × Int × Int
abbrev A:Type:=Int × Int × Int
abbrev Y:=A→Option R
def lv:List (Nat × List Nat):=[(2000000,[5,6])]
noncomputable def cs:Nat→Ctx:=ctxOf tis modes tg91.1 lv
theorem cs_ok (n:Nat):CtxOk Tryz.prog (cs n):=ctxOf_ok rfl tis_ok tg91.2 n
def sh:AS:=⟨[.c (.int .i64),.c (.int .i64),.c (.ptr 128000000 0)],[(.box [(.int .i64)])]⟩
def os:OS:=⟨.tup [.c (.int .i64),.c (.int .i64)],[(.box [(.int .i64)])]⟩
def enc (r:R):Out:=os.enc r
def dec:Out→Option R:=os.dec
noncomputable def b0:Code:=subF [] Tryz.f179
noncomputable def K0 (k:Nat):Kt R:=kTop (cs k) Tryz.f179 dec
noncomputable def f (k:Nat):Y:=fun v=>held (runFn cs k Tryz.f179 (sh.args v) (sh.slots v) dec)
noncomputable def F:Y:=lm f
def d (p0:g65.Y):Y:=fun (a,b,e) =>
bnd (p0 (a,b,e)) fun r=>some (r.1,r.2,e)
theorem d_cn (k0:Pr E g65.A g65.R):∀ v:A,Cn E (d k0.p v) fun i=>d (k0.q i) v:=fun (a,b,e)=>(.bnd (k0.h _) fun _=>.some)
theorem f_b (k:Nat):∀ v:A,f k v = d (g65.f k) v:=fun (a,b,e)=>(held_eq _).trans (by kernel_rfl)
theorem F_of (v:A) {r:R} (h:d g65.F v = some r):F v = some r:=join_of (fun L=>f_b (L 0) v) (d_cn (lp g65.f 0) v) h
noncomputable def spec (k:Nat):List AV→List Slot→Option Ans:=specS sh os (f k)
theorem spec_ok (k:Nat):SpecOk Tryz.prog 179 (spec k):=specS_ok cs_ok Tryz.func179 rfl rfl (fun _ _=>held_eq _) k
end g92
noncomputable def tg92:=tg91.cons 179 g92.spec g92.spec_ok
namespace g93 -- slices_Min_Fix
abbrev R:Type:=Int
abbrev A:Type:=List Int
abbrev Y:=A→Option R
def lv:List (Nat × List Nat):=[(2000000,[2]),(5,[0,3,4])]
noncomputable def cs:Nat→Ctx:=ctxOf tis modes tg92.1 lv
theorem cs_ok (n:Nat):CtxOk Tryz.prog (cs n):=ctxOf_ok rfl tis_ok tg92.2 n
def sh:AS:=⟨[(.c (.frz (.int .i64)))],[]⟩
def os:OS:=⟨.c (.int .i64),[]⟩
def enc (r:R):Out:=os.enc r
def dec:Out→Option R:=os.dec
noncomputable def b0:Code:=subF [] Tryz.f207
noncomputable def K0 (k:Nat):Kt R:=kTop (cs k) Tryz.f207 dec
noncomputable def b5:Code:=sub [1,1,1,0,1,0,0] b0
noncomputable def K5 ( k:Nat):Kt R:=kAt (cs k) (loopN cs k) [1,1,1,0,1,0] b0 (K0 k)
abbrev T0:Type:=List Int × Int × Int
abbrev Y0:=T0→Option R
def s0:T0→St:=fun (a,b,e)=>⟨25,0,[(0,.c (.frz (.int .i64) a)),(3,.c (.int .i64 b)),(4,.c (.int .i64 e))],[],[(256000000,.gone)]⟩
noncomputable def l0 ( k n:Nat) (v:T0):Option R:=held (loopN cs n b5 (K5 k) (s0 v))
noncomputable def D0 (v:T0):Option R:=lim fun L=>l0 (L 0) (L 1) v
theorem D0_cn (v:T0):Cn late (D0 v) fun L=>l0 (L 0) (L 1) v:=of_lim
def d0 (p0:Y0):Y0:=fun (a,b,e) =>
br (decide (e < (↑a.length:Int))) (br (decide (0 ≤ e ∧ e < (↑a.length:Int))) (p0 (a,min b (rd (Ty.int .i64) a e),wrap .i64 (e + 1))) none) (some b)
theorem d0_cn (k0:Pr E T0 R):∀ v:T0,Cn E (d0 k0.p v) fun i=>d0 (k0.q i) v:=fun (a,b,e)=>(.br (.br (k0.h _) .none) .some)
theorem l0_b ( k m1:Nat):∀ v:T0,run (cs m1) (loopN cs m1) b5 (kLoop cs m1 b5 (K5 k)) (s0 v) = d0 (l0 k m1) v:=fun (a,b,e)=>by kernel_rfl
theorem D0_of (v:T0) {r:R} (h:d0 D0 v = some r):D0 v = some r:=loop_of 1 (fun L n hn=>by show l0 (L 0) (L 1) v = _; rw [hn]; exact (held_eq _).trans ((loopN_succ _ _ _ _ _).trans (l0_b (L 0) n v))) (d0_cn (.mk fun v=>(D0_cn v).re [0,1]) v) h
noncomputable def f (k:Nat):Y:=fun v=>held (runFn cs k Tryz.f207 (sh.args v) (sh.slots v) dec)
noncomputable def F:Y:=lm f
def d (p0:Y0):Y:=fun a =>
br (decide ((↑a.length:Int) < 1)) none (br (decide ((0:Int) ≤ 0 ∧ 0 < (↑a.length:Int))) (p0 (a,rd (Ty.int .i64) a 0,1)) none)
theorem d_cn (k0:Pr E T0 R):∀ v:A,Cn E (d k0.p v) fun i=>d (k0.q i) v:=fun a=>(.br .none (.br (k0.h _) .none))
theorem f_b (k:Nat):∀ v:A,f k v = d (l0 k k) v:=fun a=>(held_eq _).trans (by kernel_rfl)
theorem F_of (v:A) {r:R} (h:d D0 v = some r):F v = some r:=join_of (fun L=>f_b (L 0) v) (d_cn (.mk fun v=>(D0_cn v).re [0,0]) v) h
noncomputable def spec (k:Nat):List AV→List Slot→Option Ans:=specS sh os (f k)
theorem spec_ok (k:Nat):SpecOk Tryz.prog 207 (spec k):=specS_ok cs_ok Tryz.func207 rfl rfl (fun _ _=>held_eq _) k
end g93
noncomputable def tg93:=tg92.cons 207 g93.spec g93.spec_ok
namespace g94 -- slices_Max_Fix
abbrev R:Type:=Int
abbrev A:Type:=List Int
abbrev Y:=A→Option R
def lv:List (Nat × List Nat):=[(2000000,[2]),(5,[0,3,4])]
noncomputable def cs:Nat→Ctx:=ctxOf tis modes tg93.1 lv
theorem cs_ok (n:Nat):CtxOk Tryz.prog (cs n):=ctxOf_ok rfl tis_ok tg93.2 n
def sh:AS:=⟨[(.c (.frz (.int .i64)))],[]⟩
def os:OS:=⟨.c (.int .i64),[]⟩
def enc (r:R):Out:=os.enc r
def dec:Out→Option R:=os.dec
noncomputable def b0:Code:=subF [] Tryz.f208
noncomputable def K0 (k:Nat):Kt R:=kTop (cs k) Tryz.f208 dec
noncomputable def b5:Code:=sub [1,1,1,0,1,0,0] b0
noncomputable def K5 ( k:Nat):Kt R:=kAt (cs k) (loopN cs k) [1,1,1,0,1,0] b0 (K0 k)
abbrev T0:Type:=List Int × Int × Int
abbrev Y0:=T0→Option R
def s0:T0→St:=fun (a,b,e)=>⟨25,0,[(0,.c (.frz (.int .i64) a)),(3,.c (.int .i64 b)),(4,.c (.int .i64 e))],[],[(256000000,.gone)]⟩
noncomputable def l0 ( k n:Nat) (v:T0):Option R:=held (loopN cs n b5 (K5 k) (s0 v))
noncomputable def D0 (v:T0):Option R:=lim fun L=>l0 (L 0) (L 1) v
theorem D0_cn (v:T0):Cn late (D0 v) fun L=>l0 (L 0) (L 1) v:=of_lim
def d0 (p0:Y0):Y0:=fun (a,b,e) =>
br (decide (e < (↑a.length:Int))) (br (decide (0 ≤ e ∧ e < (↑a.length:Int))) (p0 (a,max b (rd (Ty.int .i64) a e),wrap .i64 (e + 1))) none) (some b)
theorem d0_cn (k0:Pr E T0 R):∀ v:T0,Cn E (d0 k0.p v) fun i=>d0 (k0.q i) v:=fun (a,b,e)=>(.br (.br (k0.h _) .none) .some)
theorem l0_b ( k m1:Nat):∀ v:T0,run (cs m1) (loopN cs m1) b5 (kLoop cs m1 b5 (K5 k)) (s0 v) = d0 (l0 k m1) v:=fun (a,b,e)=>by kernel_rfl
theorem D0_of (v:T0) {r:R} (h:d0 D0 v = some r):D0 v = some r:=loop_of 1 (fun L n hn=>by show l0 (L 0) (L 1) v = _; rw [hn]; exact (held_eq _).trans ((loopN_succ _ _ _ _ _).trans (l0_b (L 0) n v))) (d0_cn (.mk fun v=>(D0_cn v).re [0,1]) v) h
noncomputable def f (k:Nat):Y:=fun v=>held (runFn cs k Tryz.f208 (sh.args v) (sh.slots v) dec)
noncomputable def F:Y:=lm f
def d (p0:Y0):Y:=fun a =>
br (decide ((↑a.length:Int) < 1)) none (br (decide ((0:Int) ≤ 0 ∧ 0 < (↑a.length:Int))) (p0 (a,rd (Ty.int .i64) a 0,1)) none)
theorem d_cn (k0:Pr E T0 R):∀ v:A,Cn E (d k0.p v) fun i=>d (k0.q i) v:=fun a=>(.br .none (.br (k0.h _) .none))
theorem f_b (k:Nat):∀ v:A,f k v = d (l0 k k) v:=fun a=>(held_eq _).trans (by kernel_rfl)
theorem F_of (v:A) {r:R} (h:d D0 v = some r):F v = some r:=join_of (fun L=>f_b (L 0) v) (d_cn (.mk fun v=>(D0_cn v).re [0,0]) v) h
noncomputable def spec (k:Nat):List AV→List Slot→Option Ans:=specS sh os (f k)
theorem spec_ok (k:Nat):SpecOk Tryz.prog 208 (spec k):=specS_ok cs_ok Tryz.func208 rfl rfl (fun _ _=>held_eq _) k
end g94
noncomputable def tg94:=tg93.cons 208 g94.spec g94.spec_ok
namespace g95 -- bound_corners_Fix
abbrev R:Type:=Int × Int × Bool × Int
abbrev A:Type:=Int × Int × Bool × Int × Int × Bool × Int
abbrev Y:=A→Option R
def lv:List (Nat × List Nat):=[(2000000,[8]),(3,[2,3,5,8,9,22,23,24]),(6,[2,3,5,8,9,11,22,23,24,32,33,34])]
noncomputable def cs:Nat→Ctx:=ctxOf tis modes tg94.1 lv
theorem cs_ok (n:Nat):CtxOk Tryz.prog (cs n):=ctxOf_ok rfl tis_ok tg94.2 n
def sh:AS:=⟨[.agg [.int .i64,.int .i64,.bool],.agg [.int .i64,.int .i64,.bool],.c (.func 178 [(128000000,0)]),.c (.func 179 [(128000000,0)])],[(.box [(.int .i64)])]⟩
def os:OS:=⟨.agg [.int .i64,.int .i64,.bool],[(.box [(.int .i64)])]⟩
def enc (r:R):Out:=os.enc r
def dec:Out→Option R:=os.dec
noncomputable def b0:Code:=subF [] Tryz.f177
noncomputable def K0 (k:Nat):Kt R:=kTop (cs k) Tryz.f177 dec
noncomputable def b3:Code:=sub [1,1,0,1,0,0] b0
noncomputable def K3 ( k:Nat):Kt R:=kAt (cs k) (loopN cs k) [1,1,0,1,0] b0 (K0 k)
noncomputable def b6:Code:=sub [1,1,0,0,1,1,0,0] b3
noncomputable def K6 ( k m1:Nat):Kt R:=kAt (cs m1) (loopN cs m1) [1,1,0,0,1,1,0] b3 (kLoop cs m1 b3 (K3 k))
abbrev T0:Type:=Int × Int × Int × Int × Int × Bool × Int × Int × Bool × List Int × List Int
abbrev Y0:=T0→Option R
def s0:T0→St:=fun (a,b,e,j,l,m,o,s,t,u,w)=>⟨71,1,[(2,.c (.func 178 [(128000000,0)])),(3,.c (.func 179 [(128000000,0)])),(5,.c (.ptr 64000000 0)),(8,.c (.ptr 64000001 0)),(9,.c (.sl 64000002)),(22,.c (.sl 64000003)),(23,.c (.int .i64 a)),(24,.c (.int .i64 b))],[],[(128000000,.box [(.int .i64 e)]),(256000000,.gone),(64000000,.box [.int .i64 j,.int .i64 l,.bool m]),(64000001,.box [.int .i64 o,.int .i64 s,.bool t]),(64000002,.row (.int .i64) u),(64000003,.row (.int .i64) w)]⟩
noncomputable def l0 ( k n:Nat) (v:T0):Option R:=held (loopN cs n b3 (K3 k) (s0 v))
noncomputable def D0 (v:T0):Option R:=lim fun L=>l0 (L 0) (L 1) v
theorem D0_cn (v:T0):Cn late (D0 v) fun L=>l0 (L 0) (L 1) v:=of_lim
abbrev T1:Type:=Int × Int × Int × Int × Int × Int × Int × Int × Bool × Int × Int × Bool × List Int × List Int × List Int
abbrev Y1:=T1→Option R
def s1:T1→St:=fun (a,b,e,j,l,m,o,s,t,u,w,x,y,z,B)=>⟨71,1,[(2,.c (.func 178 [(128000000,0)])),(3,.c (.func 179 [(128000000,0)])),(5,.c (.ptr 64000000 0)),(8,.c (.ptr 64000001 0)),(9,.c (.sl 64000002)),(11,.c (.int .i64 a)),(22,.c (.sl 64000003)),(23,.c (.int .i64 b)),(24,.c (.int .i64 e)),(32,.c (.sl 64000004)),(33,.c (.int .i64 j)),(34,.c (.int .i64 l))],[],[(128000000,.box [(.int .i64 m)]),(256000000,.gone),(64000000,.box [.int .i64 o,.int .i64 s,.bool t]),(64000001,.box [.int .i64 u,.int .i64 w,.bool x]),(64000002,.row (.int .i64) y),(64000003,.row (.int .i64) z),(64000004,.row (.int .i64) B)]⟩
noncomputable def l1 ( k m1 n:Nat) (v:T1):Option R:=held (loopN cs n b6 (K6 k m1) (s1 v))
noncomputable def D1 (v:T1):Option R:=lim fun L=>l1 (L 0) (L 1) (L 2) v
theorem D1_cn (v:T1):Cn late (D1 v) fun L=>l1 (L 0) (L 1) (L 2) v:=of_lim
def d0 (p0:Y1) (p1:g93.Y) (p2:g94.Y) (p3:g86.Y):Y0:=fun (a,b,e,j,l,m,o,s,t,u,w) =>
br (decide (b < a)) (br (decide (0 ≤ b ∧ b < (↑w.length:Int))) (p0 (rd (Ty.int .i64) w b,a,b,(↑[j,l].length:Int),0,e,j,l,m,o,s,t,u,w,[j,l])) none) (bnd (p1 u) fun r=>bnd (p2 u) fun r_1=>bnd (p3 (r,r_1)) fun r=>some (r.1,r.2.1,r.2.2,e))
theorem d0_cn (k0:Pr E T1 R) (k1:Pr E g93.A g93.R) (k2:Pr E g94.A g94.R) (k3:Pr E g86.A g86.R):∀ v:T0,Cn E (d0 k0.p k1.p k2.p k3.p v) fun i=>d0 (k0.q i) (k1.q i) (k2.q i) (k3.q i) v:=fun (a,b,e,j,l,m,o,s,t,u,w)=>(.br (.br (k0.h _) .none) (.bnd (k1.h _) fun _=>(.bnd (k2.h _) fun _=>(.bnd (k3.h _) fun _=>.some))))
theorem l0_b ( k m1:Nat):∀ v:T0,run (cs m1) (loopN cs m1) b3 (kLoop cs m1 b3 (K3 k)) (s0 v) = d0 (l1 k m1 m1) (g93.f k) (g94.f k) (g86.f k) v:=fun (a,b,e,j,l,m,o,s,t,u,w)=>by kernel_rfl
theorem D0_of (v:T0) {r:R} (h:d0 D1 g93.F g94.F g86.F v = some r):D0 v = some r:=loop_of 1 (fun L n hn=>by show l0 (L 0) (L 1) v = _; rw [hn]; exact (held_eq _).trans ((loopN_succ _ _ _ _ _).trans (l0_b (L 0) n v))) (d0_cn (.mk fun v=>(D1_cn v).re [0,1,1]) (lp g93.f 0) (lp g94.f 0) (lp g86.f 0) v) h
def d1 (p0:g91.Y) (p1:g92.Y) (p2:g74.Y) (p3:Y1) (p4:Y0):Y1:=fun (a,b,e,j,l,m,o,s,t,u,w,x,y,z,B) =>
br (decide (l < j)) (br (decide (0 ≤ l ∧ l < (↑B.length:Int))) (bnd (p0 (a,rd (Ty.int .i64) B l,m)) fun r=>bnd (p1 (a,rd (Ty.int .i64) B l,r.2.2)) fun r_1=>br (!decide (r.2.1 = 0) || !decide (r_1.2.1 = 0)) (bnd (p2 ()) fun r=>some (r.1,r.2.1,r.2.2,r_1.2.2)) (br (decide (y.length + [r.1,r_1.1].length ≤ 140737488355328 / 8)) (p3 (a,b,e,j,wrap .i64 (l + 1),r_1.2.2,o,s,t,u,w,x,y ++ [r.1,r_1.1],z,B)) none)) none) (p4 (b,wrap .i64 (e + 1),m,o,s,t,u,w,x,y,z))
theorem d1_cn (k0:Pr E g91.A g91.R) (k1:Pr E g92.A g92.R) (k2:Pr E g74.A g74.R) (k3:Pr E T1 R) (k4:Pr E T0 R):∀ v:T1,Cn E (d1 k0.p k1.p k2.p k3.p k4.p v) fun i=>d1 (k0.q i) (k1.q i) (k2.q i) (k3.q i) (k4.q i) v:=fun (a,b,e,j,l,m,o,s,t,u,w,x,y,z,B)=>(.br (.br (.bnd (k0.h _) fun _=>(.bnd (k1.h _) fun _=>(.br (.bnd (k2.h _) fun _=>.some) (.br (k3.h _) .none)))) .none) (k4.h _))
theorem l1_b ( k m1 m2:Nat):∀ v:T1,run (cs m2) (loopN cs m2) b6 (kLoop cs m2 b6 (K6 k m1)) (s1 v) = d1 (g91.f m2) (g92.f m2) (g74.f m2) (l1 k m1 m2) (l0 k m1) v:=fun (a,b,e,j,l,m,o,s,t,u,w,x,y,z,B)=>by kernel_rfl
theorem D1_of (v:T1) {r:R} (h:d1 g91.F g92.F g74.F D1 D0 v = some r):D1 v = some r:=loop_of 2 (fun L n hn=>by show l1 (L 0) (L 1) (L 2) v = _; rw [hn]; exact (held_eq _).trans ((loopN_succ _ _ _ _ _).trans (l1_b (L 0) (L 1) n v))) (d1_cn (lp g91.f 2) (lp g92.f 2) (lp g74.f 2) (.mk fun v=>(D1_cn v).re [0,1,2]) (.mk fun v=>(D0_cn v).re [0,1]) v) h
noncomputable def f (k:Nat):Y:=fun v=>held (runFn cs k Tryz.f177 (sh.args v) (sh.slots v) dec)
noncomputable def F:Y:=lm f
def d (p0:Y0):Y:=fun (a,b,e,j,l,m,o) =>
p0 ((↑[a,b].length:Int),0,o,j,l,m,0,0,false,[],[a,b])
theorem d_cn (k0:Pr E T0 R):∀ v:A,Cn E (d k0.p v) fun i=>d (k0.q i) v:=fun (a,b,e,j,l,m,o)=>(k0.h _)
theorem f_b (k:Nat):∀ v:A,f k v = d (l0 k k) v:=fun (a,b,e,j,l,m,o)=>(held_eq _).trans (by kernel_rfl)
theorem F_of (v:A) {r:R} (h:d D0 v = some r):F v = some r:=join_of (fun L=>f_b (L 0) v) (d_cn (.mk fun v=>(D0_cn v).re [0,0]) v) h
noncomputable def spec (k:Nat):List AV→List Slot→Option Ans:=specS sh os (f k)
theorem spec_ok (k:Nat):SpecOk Tryz.prog 177 (spec k):=specS_ok cs_ok Tryz.func177 rfl rfl (fun _ _=>held_eq _) k
end g95
noncomputable def tg95:=tg94.cons 177 g95.spec g95.spec_ok
namespace g96 -- bound_Mul_Fix
abbrev R:Type:=Int × Int × Bool
abbrev A:Type:=Int × Int × Bool × Int × Int × Bool × Int
abbrev Y:=A→Option R
def lv:List (Nat × List Nat):=[(2000000,[6])]
noncomputable def cs:Nat→Ctx:=ctxOf tis modes tg95.1 lv
theorem cs_ok (n:Nat):CtxOk Tryz.prog (cs n):=ctxOf_ok rfl tis_ok tg95.2 n
def sh:AS:=⟨[.agg [.int .i64,.int .i64,.bool],.agg [.int .i64,.int .i64,.bool],.c (.int .i64)],[]⟩
def os:OS:=⟨.agg [.int .i64,.int .i64,.bool],[]⟩
def enc (r:R):Out:=os.enc r
def dec:Out→Option R:=os.dec
noncomputable def b0:Code:=subF [] Tryz.f144
noncomputable def K0 (k:Nat):Kt R:=kTop (cs k) Tryz.f144 dec
noncomputable def f (k:Nat):Y:=fun v=>held (runFn cs k Tryz.f144 (sh.args v) (sh.slots v) dec)
noncomputable def F:Y:=lm f
def d (p0:g90.Y) (p1:g74.Y) (p2:g95.Y):Y:=fun (a,b,e,j,l,m,o) =>
bnd (p0 (a,b,e,j,l,m)) fun r=>br (r || decide (o < 1)) (bnd (p1 ()) fun r=>some (r.1,r.2.1,r.2.2)) (bnd (p2 (a,b,e,j,l,m,o)) fun r=>some (r.1,r.2.1,r.2.2.1))
theorem d_cn (k0:Pr E g90.A g90.R) (k1:Pr E g74.A g74.R) (k2:Pr E g95.A g95.R):∀ v:A,Cn E (d k0.p k1.p k2.p v) fun i=>d (k0.q i) (k1.q i) (k2.q i) v:=fun (a,b,e,j,l,m,o)=>(.bnd (k0.h _) fun _=>(.br (.bnd (k1.h _) fun _=>.some) (.bnd (k2.h _) fun _=>.some)))
theorem f_b (k:Nat):∀ v:A,f k v = d (g90.f k) (g74.f k) (g95.f k) v:=fun (a,b,e,j,l,m,o)=>(held_eq _).trans (by kernel_rfl)
theorem F_of (v:A) {r:R} (h:d g90.F g74.F g95.F v = some r):F v = some r:=join_of (fun L=>f_b (L 0) v) (d_cn (lp g90.f 0) (lp g74.f 0) (lp g95.f 0) v) h
noncomputable def spec (k:Nat):List AV→List Slot→Option Ans:=specS sh os (f k)
theorem spec_ok (k:Nat):SpecOk Tryz.prog 144 (spec k):=specS_ok cs_ok Tryz.func144 rfl rfl (fun _ _=>held_eq _) k
end g96
noncomputable def tg96:=tg95.cons 144 g96.spec g96.spec_ok
namespace g97 -- bound_Scale_Fix
abbrev R:Type:=Int × Int × Bool
abbrev A:Type:=Int × Int × Bool × Int × Int
abbrev Y:=A→Option R
def lv:List (Nat × List Nat):=[(2000000,[6])]
noncomputable def cs:Nat→Ctx:=ctxOf tis modes tg96.1 lv
theorem cs_ok (n:Nat):CtxOk Tryz.prog (cs n):=ctxOf_ok rfl tis_ok tg96.2 n
def sh:AS:=⟨[.agg [.int .i64,.int .i64,.bool],.c (.int .i64),.c (.int .i64)],[]⟩
def os:OS:=⟨.agg [.int .i64,.int .i64,.bool],[]⟩
def enc (r:R):Out:=os.enc r
def dec:Out→Option R:=os.dec
noncomputable def b0:Code:=subF [] Tryz.f141
noncomputable def K0 (k:Nat):Kt R:=kTop (cs k) Tryz.f141 dec
noncomputable def f (k:Nat):Y:=fun v=>held (runFn cs k Tryz.f141 (sh.args v) (sh.slots v) dec)
noncomputable def F:Y:=lm f
def d (p0:g89.Y) (p1:g96.Y):Y:=fun (a,b,e,j,l) =>
bnd (p0 j) fun r=>bnd (p1 (a,b,e,r.1,r.2.1,r.2.2,l)) fun r=>some (r.1,r.2.1,r.2.2)
theorem d_cn (k0:Pr E g89.A g89.R) (k1:Pr E g96.A g96.R):∀ v:A,Cn E (d k0.p k1.p v) fun i=>d (k0.q i) (k1.q i) v:=fun (a,b,e,j,l)=>(.bnd (k0.h _) fun _=>(.bnd (k1.h _) fun _=>.some))
theorem f_b (k:Nat):∀ v:A,f k v = d (g89.f k) (g96.f k) v:=fun (a,b,e,j,l)=>(held_eq _).trans (by kernel_rfl)
theorem F_of (v:A) {r:R} (h:d g89.F g96.F v = some r):F v = some r:=join_of (fun L=>f_b (L 0) v) (d_cn (lp g89.f 0) (lp g96.f 0) v) h
noncomputable def spec (k:Nat):List AV→List Slot→Option Ans:=specS sh os (f k)
theorem spec_ok (k:Nat):SpecOk Tryz.prog 141 (spec k):=specS_ok cs_ok Tryz.func141 rfl rfl (fun _ _=>held_eq _) k
end g97
noncomputable def tg97:=tg96.cons 141 g97.spec g97.spec_ok
namespace g98 -- trig_wave_1
abbrev R:Type:=Int × Int × Bool
abbrev A:Type:=Int × Int × Bool × Int
abbrev Y:=A→Option R
def lv:List (Nat × List Nat):=[(2000000,[6]),(1000008,[2,3,6,9,10]),(1000010,[6,9,10])]
noncomputable def cs:Nat→Ctx:=ctxOf tis modes tg97.1 lv
theorem cs_ok (n:Nat):CtxOk Tryz.prog (cs n):=ctxOf_ok rfl tis_ok tg97.2 n
def sh:AS:=⟨[.agg [.int .i64,.int .i64,.bool],.c (.func 124 []),.c (.int .i64)],[]⟩
def os:OS:=⟨.agg [.int .i64,.int .i64,.bool],[]⟩
def enc (r:R):Out:=os.enc r
def dec:Out→Option R:=os.dec
noncomputable def b0:Code:=subF [] Tryz.f176
noncomputable def K0 (k:Nat):Kt R:=kTop (cs k) Tryz.f176 dec
noncomputable def c1000008:Code:=sub [1,1,1,1,1] b0
noncomputable def J1000008 ( k:Nat):Kt R:=kAt (cs k) (loopN cs k) [1,1,1,1,1] b0 (K0 k)
noncomputable def c1000010:Code:=sub [1,1,1,1,1,1] b0
noncomputable def J1000010 ( k:Nat):Kt R:=kAt (cs k) (loopN cs k) [1,1,1,1,1,1] b0 (K0 k)
abbrev T0:Type:=Int × Int × Int × Int × Int × Bool × Int × Int × Bool
abbrev Y0:=T0→Option R
def s0:T0→St:=fun (a,b,e,j,l,m,o,s,t)=>⟨44,0,[(2,.c (.int .i64 a)),(3,.c (.ptr 64000000 0)),(6,.c (.ptr 64000001 0)),(9,.c (.int .i64 b)),(10,.c (.int .i64 e))],[],[(256000000,.gone),(64000000,.box [.int .i64 j,.int .i64 l,.bool m]),(64000001,.box [.int .i64 o,.int .i64 s,.bool t])]⟩
noncomputable def l0 ( k:Nat) (v:T0):Option R:=held (run (cs k) (loopN cs k) c1000008 (J1000008 k) (s0 v))
noncomputable def D0 (v:T0):Option R:=lim fun L=>l0 (L 0) v
theorem D0_cn (v:T0):Cn late (D0 v) fun L=>l0 (L 0) v:=of_lim
abbrev T1:Type:=Int × Int × Int × Int × Bool
abbrev Y1:=T1→Option R
def s1:T1→St:=fun (a,b,e,j,l)=>⟨44,0,[(6,.c (.ptr 64000000 0)),(9,.c (.int .i64 a)),(10,.c (.int .i64 b))],[],[(256000000,.gone),(64000000,.box [.int .i64 e,.int .i64 j,.bool l])]⟩
noncomputable def l1 ( k:Nat) (v:T1):Option R:=held (run (cs k) (loopN cs k) c1000010 (J1000010 k) (s1 v))
noncomputable def D1 (v:T1):Option R:=lim fun L=>l1 (L 0) v
theorem D1_cn (v:T1):Cn late (D1 v) fun L=>l1 (L 0) v:=of_lim
def d0 (p0:g83.Y) (p1:Y1):Y0:=fun (a,b,e,j,l,m,o,s,t) =>
bnd (p0 (j,l,m,wrap .i64 (a + 2147483648))) fun r=>br r (p1 (-1073741824,e,o,s,t)) (p1 (b,e,o,s,t))
theorem d0_cn (k0:Pr E g83.A g83.R) (k1:Pr E T1 R):∀ v:T0,Cn E (d0 k0.p k1.p v) fun i=>d0 (k0.q i) (k1.q i) v:=fun (a,b,e,j,l,m,o,s,t)=>(.bnd (k0.h _) fun _=>(.br (k1.h _) (k1.h _)))
theorem l0_b ( k:Nat):∀ v:T0,run (cs k) (loopN cs k) c1000008 (J1000008 k) (s0 v) = d0 (g83.f k) (l1 k) v:=fun (a,b,e,j,l,m,o,s,t)=>by kernel_rfl
theorem D0_of (v:T0) {r:R} (h:d0 g83.F D1 v = some r):D0 v = some r:=join_of (fun L=>(held_eq _).trans (l0_b (L 0) v)) (d0_cn (lp g83.f 0) (.mk fun v=>(D1_cn v).re [0]) v) h
def d1 (p0:g86.Y):Y1:=fun (a,b,e,j,l) =>
bnd (p0 (a,b)) fun r=>some (r.1,r.2.1,r.2.2)
theorem d1_cn (k0:Pr E g86.A g86.R):∀ v:T1,Cn E (d1 k0.p v) fun i=>d1 (k0.q i) v:=fun (a,b,e,j,l)=>(.bnd (k0.h _) fun _=>.some)
theorem l1_b ( k:Nat):∀ v:T1,run (cs k) (loopN cs k) c1000010 (J1000010 k) (s1 v) = d1 (g86.f k) v:=fun (a,b,e,j,l)=>by kernel_rfl
theorem D1_of (v:T1) {r:R} (h:d1 g86.F v = some r):D1 v = some r:=join_of (fun L=>(held_eq _).trans (l1_b (L 0) v)) (d1_cn (lp g86.f 0) v) h
noncomputable def f (k:Nat):Y:=fun v=>held (runFn cs k Tryz.f176 (sh.args v) (sh.slots v) dec)
noncomputable def F:Y:=lm f
def d (p0:g67.Y) (p1:g74.Y) (p2:g80.Y) (p3:g83.Y) (p4:Y0):Y:=fun (a,b,e,j) =>
bnd (p0 (a,b,e)) fun r=>br r.2.2 (bnd (p1 ()) fun r=>some (r.1,r.2.1,r.2.2)) (bnd (p2 r.1) fun r_1=>bnd (p2 r.2.1) fun r_2=>bnd (p3 (r.1,r.2.1,r.2.2,j)) fun r_3=>br r_3 (p4 (j,max (-1073741824) (wrap .i64 (min r_1 r_2 - 1)),1073741824,r.1,r.2.1,r.2.2,0,0,false)) (p4 (j,max (-1073741824) (wrap .i64 (min r_1 r_2 - 1)),min 1073741824 (wrap .i64 (max r_1 r_2 + 1)),r.1,r.2.1,r.2.2,0,0,false)))
theorem d_cn (k0:Pr E g67.A g67.R) (k1:Pr E g74.A g74.R) (k2:Pr E g80.A g80.R) (k3:Pr E g83.A g83.R) (k4:Pr E T0 R):∀ v:A,Cn E (d k0.p k1.p k2.p k3.p k4.p v) fun i=>d (k0.q i) (k1.q i) (k2.q i) (k3.q i) (k4.q i) v:=fun (a,b,e,j)=>(.bnd (k0.h _) fun _=>(.br (.bnd (k1.h _) fun _=>.some) (.bnd (k2.h _) fun _=>(.bnd (k2.h _) fun _=>(.bnd (k3.h _) fun _=>(.br (k4.h _) (k4.h _)))))))
theorem f_b (k:Nat):∀ v:A,f k v = d (g67.f k) (g74.f k) (g80.f k) (g83.f k) (l0 k) v:=fun (a,b,e,j)=>(held_eq _).trans (by kernel_rfl)
theorem F_of (v:A) {r:R} (h:d g67.F g74.F g80.F g83.F D0 v = some r):F v = some r:=join_of (fun L=>f_b (L 0) v) (d_cn (lp g67.f 0) (lp g74.f 0) (lp g80.f 0) (lp g83.f 0) (.mk fun v=>(D0_cn v).re [0]) v) h
noncomputable def spec (k:Nat):List AV→List Slot→Option Ans:=specS sh os (f k)
theorem spec_ok (k:Nat):SpecOk Tryz.prog 176 (spec k):=specS_ok cs_ok Tryz.func176 rfl rfl (fun _ _=>held_eq _) k
end g98
noncomputable def tg98:=tg97.cons 176 g98.spec g98.spec_ok
namespace g99 -- trig_SinBound
abbrev R:Type:=Int × Int × Bool
abbrev A:Type:=Int × Int × Bool
abbrev Y:=A→Option R
def lv:List (Nat × List Nat):=[(2000000,[2])]
noncomputable def cs:Nat→Ctx:=ctxOf tis modes tg98.1 lv
theorem cs_ok (n:Nat):CtxOk Tryz.prog (cs n):=ctxOf_ok rfl tis_ok tg98.2 n
def sh:AS:=⟨[(.agg [.int .i64,.int .i64,.bool])],[]⟩
def os:OS:=⟨.agg [.int .i64,.int .i64,.bool],[]⟩
def enc (r:R):Out:=os.enc r
def dec:Out→Option R:=os.dec
noncomputable def b0:Code:=subF [] Tryz.f143
noncomputable def K0 (k:Nat):Kt R:=kTop (cs k) Tryz.f143 dec
noncomputable def f (k:Nat):Y:=fun v=>held (runFn cs k Tryz.f143 (sh.args v) (sh.slots v) dec)
noncomputable def F:Y:=lm f
def d (p0:g98.Y):Y:=fun (a,b,e) =>
bnd (p0 (a,b,e,1073741824)) fun r=>some (r.1,r.2.1,r.2.2)
theorem d_cn (k0:Pr E g98.A g98.R):∀ v:A,Cn E (d k0.p v) fun i=>d (k0.q i) v:=fun (a,b,e)=>(.bnd (k0.h _) fun _=>.some)
theorem f_b (k:Nat):∀ v:A,f k v = d (g98.f k) v:=fun (a,b,e)=>(held_eq _).trans (by kernel_rfl)
theorem F_of (v:A) {r:R} (h:d g98.F v = some r):F v = some r:=join_of (fun L=>f_b (L 0) v) (d_cn (lp g98.f 0) v) h
noncomputable def spec (k:Nat):List AV→List Slot→Option Ans:=specS sh os (f k)
theorem spec_ok (k:Nat):SpecOk Tryz.prog 143 (spec k):=specS_ok cs_ok Tryz.func143 rfl rfl (fun _ _=>held_eq _) k
end g99
noncomputable def tg99:=tg98.cons 143 g99.spec g99.spec_ok
namespace g100 -- bound_Add_Fix
abbrev R:Type:=Int × Int × Bool
abbrev A:Type:=Int × Int × Bool × Int × Int × Bool
abbrev Y:=A→Option R
def lv:List (Nat × List Nat):=[(2000000,[4])]
noncomputable def cs:Nat→Ctx:=ctxOf tis modes tg99.1 lv
theorem cs_ok (n:Nat):CtxOk Tryz.prog (cs n):=ctxOf_ok rfl tis_ok tg99.2 n
def sh:AS:=⟨[.agg [.int .i64,.int .i64,.bool],.agg [.int .i64,.int .i64,.bool]],[]⟩
def os:OS:=⟨.agg [.int .i64,.int .i64,.bool],[]⟩
def enc (r:R):Out:=os.enc r
def dec:Out→Option R:=os.dec
noncomputable def b0:Code:=subF [] Tryz.f140
noncomputable def K0 (k:Nat):Kt R:=kTop (cs k) Tryz.f140 dec
noncomputable def f (k:Nat):Y:=fun v=>held (runFn cs k Tryz.f140 (sh.args v) (sh.slots v) dec)
noncomputable def F:Y:=lm f
def d (p0:g90.Y) (p1:g74.Y) (p2:g86.Y):Y:=fun (a,b,e,j,l,m) =>
bnd (p0 (a,b,e,j,l,m)) fun r=>br r (bnd (p1 ()) fun r=>some (r.1,r.2.1,r.2.2)) (bnd (p2 (wrap .i64 (a + j),wrap .i64 (b + l))) fun r=>some (r.1,r.2.1,r.2.2))
theorem d_cn (k0:Pr E g90.A g90.R) (k1:Pr E g74.A g74.R) (k2:Pr E g86.A g86.R):∀ v:A,Cn E (d k0.p k1.p k2.p v) fun i=>d (k0.q i) (k1.q i) (k2.q i) v:=fun (a,b,e,j,l,m)=>(.bnd (k0.h _) fun _=>(.br (.bnd (k1.h _) fun _=>.some) (.bnd (k2.h _) fun _=>.some)))
theorem f_b (k:Nat):∀ v:A,f k v = d (g90.f k) (g74.f k) (g86.f k) v:=fun (a,b,e,j,l,m)=>(held_eq _).trans (by kernel_rfl)
theorem F_of (v:A) {r:R} (h:d g90.F g74.F g86.F v = some r):F v = some r:=join_of (fun L=>f_b (L 0) v) (d_cn (lp g90.f 0) (lp g74.f 0) (lp g86.f 0) v) h
noncomputable def spec (k:Nat):List AV→List Slot→Option Ans:=specS sh os (f k)
theorem spec_ok (k:Nat):SpecOk Tryz.prog 140 (spec k):=specS_ok cs_ok Tryz.func140 rfl rfl (fun _ _=>held_eq _) k
end g100
noncomputable def tg100:=tg99.cons 140 g100.spec g100.spec_ok
namespace g101 -- num_SqrtMul
abbrev R:Type:=Int
abbrev A:Type:=Int × Int
abbrev Y:=A→Option R
def lv:List (Nat × List Nat):=[(2000000,[4]),(6,[5,6,7,8]),(1000007,[5,6,7,8])]
noncomputable def cs:Nat→Ctx:=ctxOf tis modes tg100.1 lv
theorem cs_ok (n:Nat):CtxOk Tryz.prog (cs n):=ctxOf_ok rfl tis_ok tg100.2 n
def sh:AS:=⟨[.c (.int .i64),.c (.int .i64)],[]⟩
def os:OS:=⟨.c (.int .i64),[]⟩
def enc (r:R):Out:=os.enc r
def dec:Out→Option R:=os.dec
noncomputable def b0:Code:=subF [] Tryz.f167
noncomputable def K0 (k:Nat):Kt R:=kTop (cs k) Tryz.f167 dec
noncomputable def b6:Code:=sub [1,1,1,1,0,1,0,0] b0
noncomputable def K6 ( k:Nat):Kt R:=kAt (cs k) (loopN cs k) [1,1,1,1,0,1,0] b0 (K0 k)
noncomputable def c1000007:Code:=sub [1,1] b6
noncomputable def J1000007 ( k m1:Nat):Kt R:=kAt (cs m1) (loopN cs m1) [1,1] b6 (kLoop cs m1 b6 (K6 k))
abbrev T0:Type:=Int × Int × Int × Int
abbrev Y0:=T0→Option R
def s0:T0→St:=fun (a,b,e,j)=>⟨57,0,[(5,.c (.int .u64 a)),(6,.c (.int .u64 b)),(7,.c (.int .u64 e)),(8,.c (.int .u64 j))],[],[(256000000,.gone)]⟩
noncomputable def l0 ( k n:Nat) (v:T0):Option R:=held (loopN cs n b6 (K6 k) (s0 v))
noncomputable def D0 (v:T0):Option R:=lim fun L=>l0 (L 0) (L 1) v
theorem D0_cn (v:T0):Cn late (D0 v) fun L=>l0 (L 0) (L 1) v:=of_lim
abbrev T1:Type:=Int × Int × Int × Int
abbrev Y1:=T1→Option R
def s1:T1→St:=fun (a,b,e,j)=>⟨57,0,[(5,.c (.int .u64 a)),(6,.c (.int .u64 b)),(7,.c (.int .u64 e)),(8,.c (.int .u64 j))],[],[(256000000,.gone)]⟩
noncomputable def l1 ( k m1:Nat) (v:T1):Option R:=held (run (cs m1) (loopN cs m1) c1000007 (J1000007 k m1) (s1 v))
noncomputable def D1 (v:T1):Option R:=lim fun L=>l1 (L 0) (L 1) v
theorem D1_cn (v:T1):Cn late (D1 v) fun L=>l1 (L 0) (L 1) v:=of_lim
def d0 (p0:g22.Y) (p1:Y1):Y0:=fun (a,b,e,j) =>
br (decide (0 < j)) (bnd (p0 (bOr .u64 e j,bOr .u64 e j)) fun r=>br (decide (r.1 < a) || decide (r.1 = a) && decide (r.2 ≤ b)) (p1 (a,b,bOr .u64 e j,j)) (p1 (a,b,e,j))) (some (wrap .i64 e))
theorem d0_cn (k0:Pr E g22.A g22.R) (k1:Pr E T1 R):∀ v:T0,Cn E (d0 k0.p k1.p v) fun i=>d0 (k0.q i) (k1.q i) v:=fun (a,b,e,j)=>(.br (.bnd (k0.h _) fun _=>(.br (k1.h _) (k1.h _))) .some)
theorem l0_b ( k m1:Nat):∀ v:T0,run (cs m1) (loopN cs m1) b6 (kLoop cs m1 b6 (K6 k)) (s0 v) = d0 (g22.f m1) (l1 k m1) v:=fun (a,b,e,j)=>by kernel_rfl
theorem D0_of (v:T0) {r:R} (h:d0 g22.F D1 v = some r):D0 v = some r:=loop_of 1 (fun L n hn=>by show l0 (L 0) (L 1) v = _; rw [hn]; exact (held_eq _).trans ((loopN_succ _ _ _ _ _).trans (l0_b (L 0) n v))) (d0_cn (lp g22.f 1) (.mk fun v=>(D1_cn v).re [0,1]) v) h
def d1 (p0:Y0):Y1:=fun (a,b,e,j) =>
br (decide ((0:Int) ≤ 1)) (p0 (a,b,e,shr .u64 j 1)) none
theorem d1_cn (k0:Pr E T0 R):∀ v:T1,Cn E (d1 k0.p v) fun i=>d1 (k0.q i) v:=fun (a,b,e,j)=>(.br (k0.h _) .none)
theorem l1_b ( k m1:Nat):∀ v:T1,run (cs m1) (loopN cs m1) c1000007 (J1000007 k m1) (s1 v) = d1 (l0 k m1) v:=fun (a,b,e,j)=>by kernel_rfl
theorem D1_of (v:T1) {r:R} (h:d1 D0 v = some r):D1 v = some r:=join_of (fun L=>(held_eq _).trans (l1_b (L 0) (L 1) v)) (d1_cn (.mk fun v=>(D0_cn v).re [0,1]) v) h
noncomputable def f (k:Nat):Y:=fun v=>held (runFn cs k Tryz.f167 (sh.args v) (sh.slots v) dec)
noncomputable def F:Y:=lm f
def d (p0:g22.Y) (p1:Y0):Y:=fun (a,b) =>
br (decide (a < 0) || decide (b < 0)) (some 0) (bnd (p0 (wrap .u64 a,wrap .u64 b)) fun r=>p1 (r.1,r.2,0,4611686018427387904))
theorem d_cn (k0:Pr E g22.A g22.R) (k1:Pr E T0 R):∀ v:A,Cn E (d k0.p k1.p v) fun i=>d (k0.q i) (k1.q i) v:=fun (a,b)=>(.br .some (.bnd (k0.h _) fun _=>(k1.h _)))
theorem f_b (k:Nat):∀ v:A,f k v = d (g22.f k) (l0 k k) v:=fun (a,b)=>(held_eq _).trans (by kernel_rfl)
theorem F_of (v:A) {r:R} (h:d g22.F D0 v = some r):F v = some r:=join_of (fun L=>f_b (L 0) v) (d_cn (lp g22.f 0) (.mk fun v=>(D0_cn v).re [0,0]) v) h
noncomputable def spec (k:Nat):List AV→List Slot→Option Ans:=specS sh os (f k)
theorem spec_ok (k:Nat):SpecOk Tryz.prog 167 (spec k):=specS_ok cs_ok Tryz.func167 rfl rfl (fun _ _=>held_eq _) k
end g101
noncomputable def tg101:=tg100.cons 167 g101.spec g101.spec_ok
namespace g102 -- bound_Root_Fix
abbrev R:Type:=Int × Int × Bool
abbrev A:Type:=Int × Int × Bool × Int
abbrev Y:=A→Option R
def lv:List (Nat × List Nat):=[(2000000,[4]),(1000006,[4,5,6])]
noncomputable def cs:Nat→Ctx:=ctxOf tis modes tg101.1 lv
theorem cs_ok (n:Nat):CtxOk Tryz.prog (cs n):=ctxOf_ok rfl tis_ok tg101.2 n
def sh:AS:=⟨[.agg [.int .i64,.int .i64,.bool],.c (.int .i64)],[]⟩
def os:OS:=⟨.agg [.int .i64,.int .i64,.bool],[]⟩
def enc (r:R):Out:=os.enc r
def dec:Out→Option R:=os.dec
noncomputable def b0:Code:=subF [] Tryz.f145
noncomputable def K0 (k:Nat):Kt R:=kTop (cs k) Tryz.f145 dec
noncomputable def c1000006:Code:=sub [1,1,1,1] b0
noncomputable def J1000006 ( k:Nat):Kt R:=kAt (cs k) (loopN cs k) [1,1,1,1] b0 (K0 k)
abbrev T0:Type:=Int × Int × Int × Int × Bool
abbrev Y0:=T0→Option R
def s0:T0→St:=fun (a,b,e,j,l)=>⟨43,0,[(4,.c (.ptr 64000000 0)),(5,.c (.int .i64 a)),(6,.c (.int .i64 b))],[],[(256000000,.gone),(64000000,.box [.int .i64 e,.int .i64 j,.bool l])]⟩
noncomputable def l0 ( k:Nat) (v:T0):Option R:=held (run (cs k) (loopN cs k) c1000006 (J1000006 k) (s0 v))
noncomputable def D0 (v:T0):Option R:=lim fun L=>l0 (L 0) v
theorem D0_cn (v:T0):Cn late (D0 v) fun L=>l0 (L 0) v:=of_lim
def d0 (p0:g86.Y):Y0:=fun (a,b,e,j,l) =>
bnd (p0 (a,b)) fun r=>some (r.1,r.2.1,r.2.2)
theorem d0_cn (k0:Pr E g86.A g86.R):∀ v:T0,Cn E (d0 k0.p v) fun i=>d0 (k0.q i) v:=fun (a,b,e,j,l)=>(.bnd (k0.h _) fun _=>.some)
theorem l0_b ( k:Nat):∀ v:T0,run (cs k) (loopN cs k) c1000006 (J1000006 k) (s0 v) = d0 (g86.f k) v:=fun (a,b,e,j,l)=>by kernel_rfl
theorem D0_of (v:T0) {r:R} (h:d0 g86.F v = some r):D0 v = some r:=join_of (fun L=>(held_eq _).trans (l0_b (L 0) v)) (d0_cn (lp g86.f 0) v) h
noncomputable def f (k:Nat):Y:=fun v=>held (runFn cs k Tryz.f145 (sh.args v) (sh.slots v) dec)
noncomputable def F:Y:=lm f
def d (p0:g90.Y) (p1:g74.Y) (p2:g101.Y) (p3:g25.Y) (p4:g31.Y) (p5:Y0):Y:=fun (a,b,e,j) =>
bnd (p0 (a,b,e,a,b,e)) fun r=>br (r || decide (j < 1) || decide (b < 0)) (bnd (p1 ()) fun r=>some (r.1,r.2.1,r.2.2)) (bnd (p2 (max a 0,j)) fun r=>bnd (p2 (b,j)) fun r_1=>bnd (p3 (r_1,r_1)) fun r_2=>bnd (p3 (b,j)) fun r_3=>bnd (p4 (r_2.1,r_2.2,r_3.1,r_3.2)) fun r_4=>br (decide (r_4 < 0)) (p5 (r,wrap .i64 (r_1 + 1),0,0,false)) (p5 (r,r_1,0,0,false)))
theorem d_cn (k0:Pr E g90.A g90.R) (k1:Pr E g74.A g74.R) (k2:Pr E g101.A g101.R) (k3:Pr E g25.A g25.R) (k4:Pr E g31.A g31.R) (k5:Pr E T0 R):∀ v:A,Cn E (d k0.p k1.p k2.p k3.p k4.p k5.p v) fun i=>d (k0.q i) (k1.q i) (k2.q i) (k3.q i) (k4.q i) (k5.q i) v:=fun (a,b,e,j)=>(.bnd (k0.h _) fun _=>(.br (.bnd (k1.h _) fun _=>.some) (.bnd (k2.h _) fun _=>(.bnd (k2.h _) fun _=>(.bnd (k3.h _) fun _=>(.bnd (k3.h _) fun _=>(.bnd (k4.h _) fun _=>(.br (k5.h _) (k5.h _)))))))))
theorem f_b (k:Nat):∀ v:A,f k v = d (g90.f k) (g74.f k) (g101.f k) (g25.f k) (g31.f k) (l0 k) v:=fun (a,b,e,j)=>(held_eq _).trans (by kernel_rfl)
theorem F_of (v:A) {r:R} (h:d g90.F g74.F g101.F g25.F g31.F D0 v = some r):F v = some r:=join_of (fun L=>f_b (L 0) v) (d_cn (lp g90.f 0) (lp g74.f 0) (lp g101.f 0) (lp g25.f 0) (lp g31.f 0) (.mk fun v=>(D0_cn v).re [0]) v) h
noncomputable def spec (k:Nat):List AV→List Slot→Option Ans:=specS sh os (f k)
theorem spec_ok (k:Nat):SpecOk Tryz.prog 145 (spec k):=specS_ok cs_ok Tryz.func145 rfl rfl (fun _ _=>held_eq _) k
end g102
noncomputable def tg102:=tg101.cons 145 g102.spec g102.spec_ok
namespace g103 -- bound_Neg_Fix
abbrev R:Type:=Int × Int × Bool
abbrev A:Type:=Int × Int × Bool
abbrev Y:=A→Option R
def lv:List (Nat × List Nat):=[(2000000,[2])]
noncomputable def cs:Nat→Ctx:=ctxOf tis modes tg102.1 lv
theorem cs_ok (n:Nat):CtxOk Tryz.prog (cs n):=ctxOf_ok rfl tis_ok tg102.2 n
def sh:AS:=⟨[(.agg [.int .i64,.int .i64,.bool])],[]⟩
def os:OS:=⟨.agg [.int .i64,.int .i64,.bool],[]⟩
def enc (r:R):Out:=os.enc r
def dec:Out→Option R:=os.dec
noncomputable def b0:Code:=subF [] Tryz.f180
noncomputable def K0 (k:Nat):Kt R:=kTop (cs k) Tryz.f180 dec
noncomputable def f (k:Nat):Y:=fun v=>held (runFn cs k Tryz.f180 (sh.args v) (sh.slots v) dec)
noncomputable def F:Y:=lm f
def d (p0:g85.Y):Y:=fun (a,b,e) =>
bnd (p0 (a,b,e)) fun r=>some (wrap .i64 (0 - r.2.1),wrap .i64 (0 - r.1),r.2.2)
theorem d_cn (k0:Pr E g85.A g85.R):∀ v:A,Cn E (d k0.p v) fun i=>d (k0.q i) v:=fun (a,b,e)=>(.bnd (k0.h _) fun _=>.some)
theorem f_b (k:Nat):∀ v:A,f k v = d (g85.f k) v:=fun (a,b,e)=>(held_eq _).trans (by kernel_rfl)
theorem F_of (v:A) {r:R} (h:d g85.F v = some r):F v = some r:=join_of (fun L=>f_b (L 0) v) (d_cn (lp g85.f 0) v) h
noncomputable def spec (k:Nat):List AV→List Slot→Option Ans:=specS sh os (f k)
theorem spec_ok (k:Nat):SpecOk Tryz.prog 180 (spec k):=specS_ok cs_ok Tryz.func180 rfl rfl (fun _ _=>held_eq _) k
end g103
noncomputable def tg103:=tg102.cons 180 g103.spec g103.spec_ok
namespace g104 -- bound_Div_FixS1
abbrev R:Type:=Int × Int × Int
abbrev A:Type:=Int × Int × Int
abbrev Y:=A→Option R
def lv:List (Nat × List Nat):=[(2000000,[5,6])]
noncomputable def cs:Nat→Ctx:=ctxOf tis modes tg103.1 lv
theorem cs_ok (n:Nat):CtxOk Tryz.prog (cs n):=ctxOf_ok rfl tis_ok tg103.2 n
def sh:AS:=⟨[.c (.int .i64),.c (.int .i64),.c (.ptr 128000000 0)],[(.box [(.int .i64)])]⟩
def os:OS:=⟨.tup [.c (.int .i64),.c (.int .i64)],[(.box [(.int .i64)])]⟩
def enc (r:R):Out:=os.enc r
def dec:Out→Option R:=os.dec
noncomputable def b0:Code:=subF [] Tryz.f181
noncomputable def K0 (k:Nat):Kt R:=kTop (cs k) Tryz.f181 dec
noncomputable def f (k:Nat):Y:=fun v=>held (runFn cs k Tryz.f181 (sh.args v) (sh.slots v) dec)
noncomputable def F:Y:=lm f
def d (p0:g63.Y):Y:=fun (a,b,e) =>
bnd (p0 (a,e,b)) fun r=>some (r.1,r.2,e)
theorem d_cn (k0:Pr E g63.A g63.R):∀ v:A,Cn E (d k0.p v) fun i=>d (k0.q i) v:=fun (a,b,e)=>(.bnd (k0.h _) fun _=>.some)
theorem f_b (k:Nat):∀ v:A,f k v = d (g63.f k) v:=fun (a,b,e)=>(held_eq _).trans (by kernel_rfl)
theorem F_of (v:A) {r:R} (h:d g63.F v = some r):F v = some r:=join_of (fun L=>f_b (L 0) v) (d_cn (lp g63.f 0) v) h
noncomputable def spec (k:Nat):List AV→List Slot→Option Ans:=specS sh os (f k)
theorem spec_ok (k:Nat):SpecOk Tryz.prog 181 (spec k):=specS_ok cs_ok Tryz.func181 rfl rfl (fun _ _=>held_eq _) k
end g104
noncomputable def tg104:=tg103.cons 181 g104.spec g104.spec_ok
namespace g105 -- bound_Div_FixS2
abbrev R:Type:=Int × Int × Int
abbrev A:Type:=Int × Int × Int
abbrev Y:=A→Option R
def lv:List (Nat × List Nat):=[(2000000,[5,6])]
noncomputable def cs:Nat→Ctx:=ctxOf tis modes tg104.1 lv
theorem cs_ok (n:Nat):CtxOk Tryz.prog (cs n):=ctxOf_ok rfl tis_ok tg104.2 n
def sh:AS:=⟨[.c (.int .i64),.c (.int .i64),.c (.ptr 128000000 0)],[(.box [(.int .i64)])]⟩
def os:OS:=⟨.tup [.c (.int .i64),.c (.int .i64)],[(.box [(.int .i64)])]⟩
def enc (r:R):Out:=os.enc r
def dec:Out→Option R:=os.dec
noncomputable def b0:Code:=subF [] Tryz.f182
noncomputable def K0 (k:Nat):Kt R:=kTop (cs k) Tryz.f182 dec
noncomputable def f (k:Nat):Y:=fun v=>held (runFn cs k Tryz.f182 (sh.args v) (sh.slots v) dec)
noncomputable def F:Y:=lm f
def d (p0:g65.Y):Y:=fun (a,b,e) =>
bnd (p0 (a,e,b)) fun r=>some (r.1,r.2,e)
theorem d_cn (k0:Pr E g65.A g65.R):∀ v:A,Cn E (d k0.p v) fun i=>d (k0.q i) v:=fun (a,b,e)=>(.bnd (k0.h _) fun _=>.some)
theorem f_b (k:Nat):∀ v:A,f k v = d (g65.f k) v:=fun (a,b,e)=>(held_eq _).trans (by kernel_rfl)
theorem F_of (v:A) {r:R} (h:d g65.F v = some r):F v = some r:=join_of (fun L=>f_b (L 0) v) (d_cn (lp g65.f 0) v) h
noncomputable def spec (k:Nat):List AV→List Slot→Option Ans:=specS sh os (f k)
theorem spec_ok (k:Nat):SpecOk Tryz.prog 182 (spec k):=specS_ok cs_ok Tryz.func182 rfl rfl (fun _ _=>held_eq _) k
end g105
noncomputable def tg105:=tg104.cons 182 g105.spec g105.spec_ok
namespace g106 -- bound_corners_Fix_1
abbrev R:Type:=Int × Int × Bool × Int
abbrev A:Type:=Int × Int × Bool × Int × Int × Bool × Int
abbrev Y:=A→Option R
def lv:List (Nat × List Nat):=[(2000000,[8]),(3,[2,3,5,8,9,22,23,24]),(6,[2,3,5,8,9,11,22,23,24,32,33,34])]
noncomputable def cs:Nat→Ctx:=ctxOf tis modes tg105.1 lv
theorem cs_ok (n:Nat):CtxOk Tryz.prog (cs n):=ctxOf_ok rfl tis_ok tg105.2 n
def sh:AS:=⟨[.agg [.int .i64,.int .i64,.bool],.agg [.int .i64,.int .i64,.bool],.c (.func 181 [(128000000,0)]),.c (.func 182 [(128000000,0)])],[(.box [(.int .i64)])]⟩
def os:OS:=⟨.agg [.int .i64,.int .i64,.bool],[(.box [(.int .i64)])]⟩
def enc (r:R):Out:=os.enc r
def dec:Out→Option R:=os.dec
noncomputable def b0:Code:=subF [] Tryz.f177
noncomputable def K0 (k:Nat):Kt R:=kTop (cs k) Tryz.f177 dec
noncomputable def b3:Code:=sub [1,1,0,1,0,0] b0
noncomputable def K3 ( k:Nat):Kt R:=kAt (cs k) (loopN cs k) [1,1,0,1,0] b0 (K0 k)
noncomputable def b6:Code:=sub [1,1,0,0,1,1,0,0] b3
noncomputable def K6 ( k m1:Nat):Kt R:=kAt (cs m1) (loopN cs m1) [1,1,0,0,1,1,0] b3 (kLoop cs m1 b3 (K3 k))
abbrev T0:Type:=Int × Int × Int × Int × Int × Bool × Int × Int × Bool × List Int × List Int
abbrev Y0:=T0→Option R
def s0:T0→St:=fun (a,b,e,j,l,m,o,s,t,u,w)=>⟨71,1,[(2,.c (.func 181 [(128000000,0)])),(3,.c (.func 182 [(128000000,0)])),(5,.c (.ptr 64000000 0)),(8,.c (.ptr 64000001 0)),(9,.c (.sl 64000002)),(22,.c (.sl 64000003)),(23,.c (.int .i64 a)),(24,.c (.int .i64 b))],[],[(128000000,.box [(.int .i64 e)]),(256000000,.gone),(64000000,.box [.int .i64 j,.int .i64 l,.bool m]),(64000001,.box [.int .i64 o,.int .i64 s,.bool t]),(64000002,.row (.int .i64) u),(64000003,.row (.int .i64) w)]⟩
noncomputable def l0 ( k n:Nat) (v:T0):Option R:=held (loopN cs n b3 (K3 k) (s0 v))
noncomputable def D0 (v:T0):Option R:=lim fun L=>l0 (L 0) (L 1) v
theorem D0_cn (v:T0):Cn late (D0 v) fun L=>l0 (L 0) (L 1) v:=of_lim
abbrev T1:Type:=Int × Int × Int × Int × Int × Int × Int × Int × Bool × Int × Int × Bool × List Int × List Int × List Int
abbrev Y1:=T1→Option R
def s1:T1→St:=fun (a,b,e,j,l,m,o,s,t,u,w,x,y,z,B)=>⟨71,1,[(2,.c (.func 181 [(128000000,0)])),(3,.c (.func 182 [(128000000,0)])),(5,.c (.ptr 64000000 0)),(8,.c (.ptr 64000001 0)),(9,.c (.sl 64000002)),(11,.c (.int .i64 a)),(22,.c (.sl 64000003)),(23,.c (.int .i64 b)),(24,.c (.int .i64 e)),(32,.c (.sl 64000004)),(33,.c (.int .i64 j)),(34,.c (.int .i64 l))],[],[(128000000,.box [(.int .i64 m)]),(256000000,.gone),(64000000,.box [.int .i64 o,.int .i64 s,.bool t]),(64000001,.box [.int .i64 u,.int .i64 w,.bool x]),(64000002,.row (.int .i64) y),(64000003,.row (.int .i64) z),(64000004,.row (.int .i64) B)]⟩
noncomputable def l1 ( k m1 n:Nat) (v:T1):Option R:=held (loopN cs n b6 (K6 k m1) (s1 v))
noncomputable def D1 (v:T1):Option R:=lim fun L=>l1 (L 0) (L 1) (L 2) v
theorem D1_cn (v:T1):Cn late (D1 v) fun L=>l1 (L 0) (L 1) (L 2) v:=of_lim
def d0 (p0:Y1) (p1:g93.Y) (p2:g94.Y) (p3:g86.Y):Y0:=fun (a,b,e,j,l,m,o,s,t,u,w) =>
br (decide (b < a)) (br (decide (0 ≤ b ∧ b < (↑w.length:Int))) (p0 (rd (Ty.int .i64) w b,a,b,(↑[j,l].length:Int),0,e,j,l,m,o,s,t,u,w,[j,l])) none) (bnd (p1 u) fun r=>bnd (p2 u) fun r_1=>bnd (p3 (r,r_1)) fun r=>some (r.1,r.2.1,r.2.2,e))
theorem d0_cn (k0:Pr E T1 R) (k1:Pr E g93.A g93.R) (k2:Pr E g94.A g94.R) (k3:Pr E g86.A g86.R):∀ v:T0,Cn E (d0 k0.p k1.p k2.p k3.p v) fun i=>d0 (k0.q i) (k1.q i) (k2.q i) (k3.q i) v:=fun (a,b,e,j,l,m,o,s,t,u,w)=>(.br (.br (k0.h _) .none) (.bnd (k1.h _) fun _=>(.bnd (k2.h _) fun _=>(.bnd (k3.h _) fun _=>.some))))
theorem l0_b ( k m1:Nat):∀ v:T0,run (cs m1) (loopN cs m1) b3 (kLoop cs m1 b3 (K3 k)) (s0 v) = d0 (l1 k m1 m1) (g93.f k) (g94.f k) (g86.f k) v:=fun (a,b,e,j,l,m,o,s,t,u,w)=>by kernel_rfl
theorem D0_of (v:T0) {r:R} (h:d0 D1 g93.F g94.F g86.F v = some r):D0 v = some r:=loop_of 1 (fun L n hn=>by show l0 (L 0) (L 1) v = _; rw [hn]; exact (held_eq _).trans ((loopN_succ _ _ _ _ _).trans (l0_b (L 0) n v))) (d0_cn (.mk fun v=>(D1_cn v).re [0,1,1]) (lp g93.f 0) (lp g94.f 0) (lp g86.f 0) v) h
def d1 (p0:g104.Y) (p1:g105.Y) (p2:g74.Y) (p3:Y1) (p4:Y0):Y1:=fun (a,b,e,j,l,m,o,s,t,u,w,x,y,z,B) =>
br (decide (l < j)) (br (decide (0 ≤ l ∧ l < (↑B.length:Int))) (bnd (p0 (a,rd (Ty.int .i64) B l,m)) fun r=>bnd (p1 (a,rd (Ty.int .i64) B l,r.2.2)) fun r_1=>br (!decide (r.2.1 = 0) || !decide (r_1.2.1 = 0)) (bnd (p2 ()) fun r=>some (r.1,r.2.1,r.2.2,r_1.2.2)) (br (decide (y.length + [r.1,r_1.1].length ≤ 140737488355328 / 8)) (p3 (a,b,e,j,wrap .i64 (l + 1),r_1.2.2,o,s,t,u,w,x,y ++ [r.1,r_1.1],z,B)) none)) none) (p4 (b,wrap .i64 (e + 1),m,o,s,t,u,w,x,y,z))
theorem d1_cn (k0:Pr E g104.A g104.R) (k1:Pr E g105.A g105.R) (k2:Pr E g74.A g74.R) (k3:Pr E T1 R) (k4:Pr E T0 R):∀ v:T1,Cn E (d1 k0.p k1.p k2.p k3.p k4.p v) fun i=>d1 (k0.q i) (k1.q i) (k2.q i) (k3.q i) (k4.q i) v:=fun (a,b,e,j,l,m,o,s,t,u,w,x,y,z,B)=>(.br (.br (.bnd (k0.h _) fun _=>(.bnd (k1.h _) fun _=>(.br (.bnd (k2.h _) fun _=>.some) (.br (k3.h _) .none)))) .none) (k4.h _))
theorem l1_b ( k m1 m2:Nat):∀ v:T1,run (cs m2) (loopN cs m2) b6 (kLoop cs m2 b6 (K6 k m1)) (s1 v) = d1 (g104.f m2) (g105.f m2) (g74.f m2) (l1 k m1 m2) (l0 k m1) v:=fun (a,b,e,j,l,m,o,s,t,u,w,x,y,z,B)=>by kernel_rfl
theorem D1_of (v:T1) {r:R} (h:d1 g104.F g105.F g74.F D1 D0 v = some r):D1 v = some r:=loop_of 2 (fun L n hn=>by show l1 (L 0) (L 1) (L 2) v = _; rw [hn]; exact (held_eq _).trans ((loopN_succ _ _ _ _ _).trans (l1_b (L 0) (L 1) n v))) (d1_cn (lp g104.f 2) (lp g105.f 2) (lp g74.f 2) (.mk fun v=>(D1_cn v).re [0,1,2]) (.mk fun v=>(D0_cn v).re [0,1]) v) h
noncomputable def f (k:Nat):Y:=fun v=>held (runFn cs k Tryz.f177 (sh.args v) (sh.slots v) dec)
noncomputable def F:Y:=lm f
def d (p0:Y0):Y:=fun (a,b,e,j,l,m,o) =>
p0 ((↑[a,b].length:Int),0,o,j,l,m,0,0,false,[],[a,b])
theorem d_cn (k0:Pr E T0 R):∀ v:A,Cn E (d k0.p v) fun i=>d (k0.q i) v:=fun (a,b,e,j,l,m,o)=>(k0.h _)
theorem f_b (k:Nat):∀ v:A,f k v = d (l0 k k) v:=fun (a,b,e,j,l,m,o)=>(held_eq _).trans (by kernel_rfl)
theorem F_of (v:A) {r:R} (h:d D0 v = some r):F v = some r:=join_of (fun L=>f_b (L 0) v) (d_cn (.mk fun v=>(D0_cn v).re [0,0]) v) h
noncomputable def spec (k:Nat):List AV→List Slot→Option Ans:=specS sh os (f k)
theorem spec_ok (k:Nat):SpecOk Tryz.prog 177 (spec k):=specS_ok cs_ok Tryz.func177 rfl rfl (fun _ _=>held_eq _) k
end g106
noncomputable def tg106:=tg105.cons 177 g106.spec g106.spec_ok
namespace g107 -- bound_Div_Fix
abbrev R:Type:=Int × Int × Bool
abbrev A:Type:=Int × Int × Bool × Int × Int × Bool × Int
abbrev Y:=A→Option R
def lv:List (Nat × List Nat):=[(2000000,[6]),(1000005,[3,4,5,6])]
noncomputable def cs:Nat→Ctx:=ctxOf tis modes tg106.1 lv
theorem cs_ok (n:Nat):CtxOk Tryz.prog (cs n):=ctxOf_ok rfl tis_ok tg106.2 n
def sh:AS:=⟨[.agg [.int .i64,.int .i64,.bool],.agg [.int .i64,.int .i64,.bool],.c (.int .i64)],[]⟩
def os:OS:=⟨.agg [.int .i64,.int .i64,.bool],[]⟩
def enc (r:R):Out:=os.enc r
def dec:Out→Option R:=os.dec
noncomputable def b0:Code:=subF [] Tryz.f147
noncomputable def K0 (k:Nat):Kt R:=kTop (cs k) Tryz.f147 dec
noncomputable def c1000005:Code:=sub [1,1,1] b0
noncomputable def J1000005 ( k:Nat):Kt R:=kAt (cs k) (loopN cs k) [1,1,1] b0 (K0 k)
abbrev T0:Type:=Int × Int × Bool × Int × Int × Bool × Int × Int × Int × Bool
abbrev Y0:=T0→Option R
def s0:T0→St:=fun (a,b,e,j,l,m,o,s,t,u)=>⟨37,0,[(3,.c (.ptr 64000000 0)),(4,.c (.ptr 64000001 0)),(5,.c (.ptr 64000002 0)),(6,.c (.ptr 64000003 0))],[],[(256000000,.gone),(64000000,.box [.int .i64 a,.int .i64 b,.bool e]),(64000001,.box [.int .i64 j,.int .i64 l,.bool m]),(64000002,.box [(.int .i64 o)]),(64000003,.box [.int .i64 s,.int .i64 t,.bool u])]⟩
noncomputable def l0 ( k:Nat) (v:T0):Option R:=held (run (cs k) (loopN cs k) c1000005 (J1000005 k) (s0 v))
noncomputable def D0 (v:T0):Option R:=lim fun L=>l0 (L 0) v
theorem D0_cn (v:T0):Cn late (D0 v) fun L=>l0 (L 0) v:=of_lim
def d0 (p0:g106.Y):Y0:=fun (a,b,e,j,l,m,o,s,t,u) =>
bnd (p0 (a,b,e,j,l,m,o)) fun r=>some (r.1,r.2.1,r.2.2.1)
theorem d0_cn (k0:Pr E g106.A g106.R):∀ v:T0,Cn E (d0 k0.p v) fun i=>d0 (k0.q i) v:=fun (a,b,e,j,l,m,o,s,t,u)=>(.bnd (k0.h _) fun _=>.some)
theorem l0_b ( k:Nat):∀ v:T0,run (cs k) (loopN cs k) c1000005 (J1000005 k) (s0 v) = d0 (g106.f k) v:=fun (a,b,e,j,l,m,o,s,t,u)=>by kernel_rfl
theorem D0_of (v:T0) {r:R} (h:d0 g106.F v = some r):D0 v = some r:=join_of (fun L=>(held_eq _).trans (l0_b (L 0) v)) (d0_cn (lp g106.f 0) v) h
noncomputable def f (k:Nat):Y:=fun v=>held (runFn cs k Tryz.f147 (sh.args v) (sh.slots v) dec)
noncomputable def F:Y:=lm f
def d (p0:g90.Y) (p1:g74.Y) (p2:g103.Y) (p3:Y0):Y:=fun (a,b,e,j,l,m,o) =>
bnd (p0 (a,b,e,j,l,m)) fun r=>br (r || decide (o < 1) || decide (j ≤ 0) && decide (0 ≤ l)) (bnd (p1 ()) fun r=>some (r.1,r.2.1,r.2.2)) (br (decide (l < 0)) (bnd (p2 (a,b,e)) fun r=>bnd (p2 (j,l,m)) fun r_1=>p3 (r.1,r.2.1,r.2.2,r_1.1,r_1.2.1,r_1.2.2,o,0,0,false)) (p3 (a,b,e,j,l,m,o,0,0,false)))
theorem d_cn (k0:Pr E g90.A g90.R) (k1:Pr E g74.A g74.R) (k2:Pr E g103.A g103.R) (k3:Pr E T0 R):∀ v:A,Cn E (d k0.p k1.p k2.p k3.p v) fun i=>d (k0.q i) (k1.q i) (k2.q i) (k3.q i) v:=fun (a,b,e,j,l,m,o)=>(.bnd (k0.h _) fun _=>(.br (.bnd (k1.h _) fun _=>.some) (.br (.bnd (k2.h _) fun _=>(.bnd (k2.h _) fun _=>(k3.h _))) (k3.h _))))
theorem f_b (k:Nat):∀ v:A,f k v = d (g90.f k) (g74.f k) (g103.f k) (l0 k) v:=fun (a,b,e,j,l,m,o)=>(held_eq _).trans (by kernel_rfl)
theorem F_of (v:A) {r:R} (h:d g90.F g74.F g103.F D0 v = some r):F v = some r:=join_of (fun L=>f_b (L 0) v) (d_cn (lp g90.f 0) (lp g74.f 0) (lp g103.f 0) (.mk fun v=>(D0_cn v).re [0]) v) h
noncomputable def spec (k:Nat):List AV→List Slot→Option Ans:=specS sh os (f k)
theorem spec_ok (k:Nat):SpecOk Tryz.prog 147 (spec k):=specS_ok cs_ok Tryz.func147 rfl rfl (fun _ _=>held_eq _) k
end g107
noncomputable def tg107:=tg106.cons 147 g107.spec g107.spec_ok
namespace g108 -- bound_Meet_Fix
abbrev R:Type:=Int × Int × Bool × Bool
abbrev A:Type:=Int × Int × Bool × Int × Int × Bool
abbrev Y:=A→Option R
def lv:List (Nat × List Nat):=[(2000000,[4,5])]
noncomputable def cs:Nat→Ctx:=ctxOf tis modes tg107.1 lv
theorem cs_ok (n:Nat):CtxOk Tryz.prog (cs n):=ctxOf_ok rfl tis_ok tg107.2 n
def sh:AS:=⟨[.agg [.int .i64,.int .i64,.bool],.agg [.int .i64,.int .i64,.bool]],[]⟩
def os:OS:=⟨.tup [.agg [.int .i64,.int .i64,.bool],.c .bool],[]⟩
def enc (r:R):Out:=os.enc r
def dec:Out→Option R:=os.dec
noncomputable def b0:Code:=subF [] Tryz.f148
noncomputable def K0 (k:Nat):Kt R:=kTop (cs k) Tryz.f148 dec
noncomputable def f (k:Nat):Y:=fun v=>held (runFn cs k Tryz.f148 (sh.args v) (sh.slots v) dec)
noncomputable def F:Y:=lm f
def d (p0:g85.Y) (p1:g86.Y):Y:=fun (a,b,e,j,l,m) =>
bnd (p0 (a,b,e)) fun r=>bnd (p0 (j,l,m)) fun r_1=>br r.2.2 (some (r_1.1,r_1.2.1,r_1.2.2,true)) (br r_1.2.2 (some (r.1,r.2.1,r.2.2,true)) (br (decide (min r.2.1 r_1.2.1 < max r.1 r_1.1)) (some (0,0,false,false)) (bnd (p1 (max r.1 r_1.1,min r.2.1 r_1.2.1)) fun r=>some (r.1,r.2.1,r.2.2,true))))
theorem d_cn (k0:Pr E g85.A g85.R) (k1:Pr E g86.A g86.R):∀ v:A,Cn E (d k0.p k1.p v) fun i=>d (k0.q i) (k1.q i) v:=fun (a,b,e,j,l,m)=>(.bnd (k0.h _) fun _=>(.bnd (k0.h _) fun _=>(.br .some (.br .some (.br .some (.bnd (k1.h _) fun _=>.some))))))
theorem f_b (k:Nat):∀ v:A,f k v = d (g85.f k) (g86.f k) v:=fun (a,b,e,j,l,m)=>(held_eq _).trans (by kernel_rfl)
theorem F_of (v:A) {r:R} (h:d g85.F g86.F v = some r):F v = some r:=join_of (fun L=>f_b (L 0) v) (d_cn (lp g85.f 0) (lp g86.f 0) v) h
noncomputable def spec (k:Nat):List AV→List Slot→Option Ans:=specS sh os (f k)
theorem spec_ok (k:Nat):SpecOk Tryz.prog 148 (spec k):=specS_ok cs_ok Tryz.func148 rfl rfl (fun _ _=>held_eq _) k
end g108
noncomputable def tg108:=tg107.cons 148 g108.spec g108.spec_ok
namespace g109 -- horizon_Height
abbrev R:Type:=Int × Int × Bool
abbrev A:Type:=Int × Int × Int × Int × Bool × Int × Int × Int
abbrev Y:=A→Option R
def lv:List (Nat × List Nat):=[(2000000,[6])]
noncomputable def cs:Nat→Ctx:=ctxOf tis modes tg108.1 lv
theorem cs_ok (n:Nat):CtxOk Tryz.prog (cs n):=ctxOf_ok rfl tis_ok tg108.2 n
def sh:AS:=⟨[.agg [.int .i64,.int .i64],.agg [.int .i64,.int .i64,.bool],.agg [.int .i64,.int .i64,.int .i64]],[]⟩
def os:OS:=⟨.agg [.int .i64,.int .i64,.bool],[]⟩
def enc (r:R):Out:=os.enc r
def dec:Out→Option R:=os.dec
noncomputable def b0:Code:=subF [] Tryz.f103
noncomputable def K0 (k:Nat):Kt R:=kTop (cs k) Tryz.f103 dec
noncomputable def f (k:Nat):Y:=fun v=>held (runFn cs k Tryz.f103 (sh.args v) (sh.slots v) dec)
noncomputable def F:Y:=lm f
noncomputable def d (p0:g73.Y) (p1:g34.Y) (p2:g20.Y) (p3:g74.Y) (p4:g75.Y) (p5:g69.Y) (p6:g71.Y) (p7:g88.Y) (p8:g97.Y) (p9:g99.Y) (p10:g100.Y) (p11:g96.Y) (p12:g89.Y) (p13:g102.Y) (p14:g107.Y) (p15:g86.Y) (p16:g108.Y):Y:=fun (a,b,e,j,l,m,o,s) =>
bnd (p0 (a,b)) fun r=>bnd (p1 (m,o,s)) fun r_1=>bnd (p2 [r,r_1]) fun r=>br (!decide (r = 0)) (bnd (p3 ()) fun r=>some (r.1,r.2.1,r.2.2)) (bnd (p4 (m,o,s)) fun r=>bnd (p5 b) fun r_2=>bnd (p6 (e,j,l,r_2.1,r_2.2.1,r_2.2.2)) fun r_3=>bnd (p5 a) fun r_4=>bnd (p7 (r_3.1,r_3.2.1,r_3.2.2)) fun r_5=>bnd (p8 (r_5.1,r_5.2.1,r_5.2.2,r.1,1)) fun r_6=>bnd (p9 (r_3.1,r_3.2.1,r_3.2.2)) fun r_7=>bnd (p8 (r_7.1,r_7.2.1,r_7.2.2,r.2.1,1)) fun r_8=>bnd (p10 (r_6.1,r_6.2.1,r_6.2.2,r_8.1,r_8.2.1,r_8.2.2)) fun r_9=>bnd (p9 (r_4.1,r_4.2.1,r_4.2.2)) fun r_10=>bnd (p8 (r_10.1,r_10.2.1,r_10.2.2,r.2.2,1)) fun r_11=>bnd (p7 (r_4.1,r_4.2.1,r_4.2.2)) fun r_12=>bnd (p11 (r_12.1,r_12.2.1,r_12.2.2,r_9.1,r_9.2.1,r_9.2.2,1073741824)) fun r_13=>bnd (p10 (r_11.1,r_11.2.1,r_11.2.2,r_13.1,r_13.2.1,r_13.2.2)) fun r_14=>bnd (p12 (wrap .i64 (wrap .i64 (wrap .i64 (r.1 * r.1) + wrap .i64 (r.2.1 * r.2.1)) + wrap .i64 (r.2.2 * r.2.2)))) fun r=>bnd (p13 (r.1,r.2.1,r.2.2,1099511627776)) fun r=>bnd (p14 (r_14.1,r_14.2.1,r_14.2.2,r.1,r.2.1,r.2.2,1048576)) fun r=>br r.2.2 (some (r.1,r.2.1,r.2.2)) (bnd (p15 (-1073741824,1073741824)) fun r_15=>bnd (p16 (r.1,r.2.1,r.2.2,r_15.1,r_15.2.1,r_15.2.2)) fun r=>some (r.1,r.2.1,r.2.2.1)))
theorem d_cn (k0:Pr E g73.A g73.R) (k1:Pr E g34.A g34.R) (k2:Pr E g20.A g20.R) (k3:Pr E g74.A g74.R) (k4:Pr E g75.A g75.R) (k5:Pr E g69.A g69.R) (k6:Pr E g71.A g71.R) (k7:Pr E g88.A g88.R) (k8:Pr E g97.A g97.R) (k9:Pr E g99.A g99.R) (k10:Pr E g100.A g100.R) (k11:Pr E g96.A g96.R) (k12:Pr E g89.A g89.R) (k13:Pr E g102.A g102.R) (k14:Pr E g107.A g107.R) (k15:Pr E g86.A g86.R) (k16:Pr E g108.A g108.R):∀ v:A,Cn E (d k0.p k1.p k2.p k3.p k4.p k5.p k6.p k7.p k8.p k9.p k10.p k11.p k12.p k13.p k14.p k15.p k16.p v) fun i=>d (k0.q i) (k1.q i) (k2.q i) (k3.q i) (k4.q i) (k5.q i) (k6.q i) (k7.q i) (k8.q i) (k9.q i) (k10.q i) (k11.q i) (k12.q i) (k13.q i) (k14.q i) (k15.q i) (k16.q i) v:=fun (a,b,e,j,l,m,o,s)=>(.bnd (k0.h _) fun _=>(.bnd (k1.h _) fun _=>(.bnd (k2.h _) fun _=>(.br (.bnd (k3.h _) fun _=>.some) (.bnd (k4.h _) fun _=>(.bnd (k5.h _) fun _=>(.bnd (k6.h _) fun _=>(.bnd (k5.h _) fun _=>(.bnd (k7.h _) fun _=>(.bnd (k8.h _) fun _=>(.bnd (k9.h _) fun _=>(.bnd (k8.h _) fun _=>(.bnd (k10.h _) fun _=>(.bnd (k9.h _) fun _=>(.bnd (k8.h _) fun _=>(.bnd (k7.h _) fun _=>(.bnd (k11.h _) fun _=>(.bnd (k10.h _) fun _=>(.bnd (k12.h _) fun _=>(.bnd (k13.h _) fun _=>(.bnd (k14.h _) fun _=>(.br .some (.bnd (k15.h _) fun _=>(.bnd (k16.h _) fun _=>.some))))))))))))))))))))))))
theorem f_b (k:Nat):∀ v:A,f k v = d (g73.f k) (g34.f k) (g20.f k) (g74.f k) (g75.f k) (g69.f k) (g71.f k) (g88.f k) (g97.f k) (g99.f k) (g100.f k) (g96.f k) (g89.f k) (g102.f k) (g107.f k) (g86.f k) (g108.f k) v:=fun (a,b,e,j,l,m,o,s)=>(held_eq _).trans (by kernel_rfl)
theorem F_of (v:A) {r:R} (h:d g73.F g34.F g20.F g74.F g75.F g69.F g71.F g88.F g97.F g99.F g100.F g96.F g89.F g102.F g107.F g86.F g108.F v = some r):F v = some r:=join_of (fun L=>f_b (L 0) v) (d_cn (lp g73.f 0) (lp g34.f 0) (lp g20.f 0) (lp g74.f 0) (lp g75.f 0) (lp g69.f 0) (lp g71.f 0) (lp g88.f 0) (lp g97.f 0) (lp g99.f 0) (lp g100.f 0) (lp g96.f 0) (lp g89.f 0) (lp g102.f 0) (lp g107.f 0) (lp g86.f 0) (lp g108.f 0) v) h
noncomputable def spec (k:Nat):List AV→List Slot→Option Ans:=specS sh os (f k)
theorem spec_ok (k:Nat):SpecOk Tryz.prog 103 (spec k):=specS_ok cs_ok Tryz.func103 rfl rfl (fun _ _=>held_eq _) k
end g109
noncomputable def tg109:=tg108.cons 103 g109.spec g109.spec_ok
namespace g110 -- window_height
abbrev R:Type:=Int × Int × Bool
abbrev A:Type:=Int × Int × Int × Int × Int × Int × Int × Int × Int × Int × Int × Int × Int × Int × Int × Int × List Int × Int × Int × Int × Int
abbrev Y:=A→Option R
def lv:List (Nat × List Nat):=[(2000000,[6])]
noncomputable def cs:Nat→Ctx:=ctxOf tis modes tg109.1 lv
theorem cs_ok (n:Nat):CtxOk Tryz.prog (cs n):=ctxOf_ok rfl tis_ok tg109.2 n
def sh:AS:=⟨[.agg [.int .i64,.int .i64,.int .i64,.int .i64,.int .i64,.int .i64,.int .i64,.int .i64,.int .i64,.int .i64,.int .i64,.int .i64,.int .i64,.int .i64,.int .i64,.int .i64,.frz (.int .i64)],.agg [.int .i64,.int .i64,.int .i64],.c (.int .i64)],[]⟩
def os:OS:=⟨.agg [.int .i64,.int .i64,.bool],[]⟩
def enc (r:R):Out:=os.enc r
def dec:Out→Option R:=os.dec
noncomputable def b0:Code:=subF [] Tryz.f83
noncomputable def K0 (k:Nat):Kt R:=kTop (cs k) Tryz.f83 dec
noncomputable def f (k:Nat):Y:=fun v=>held (runFn cs k Tryz.f83 (sh.args v) (sh.slots v) dec)
noncomputable def F:Y:=lm f
def d (p0:g48.Y) (p1:g72.Y) (p2:g109.Y):Y:=fun (a,b,e,j,l,m,o,s,t,u,w,x,y,z,B,C,D,G,H,I,J) =>
bnd (p0 (a,b,e,j,l,m,o,s,t,u,w,x,y,z,B,C,D,J,wrap .i64 (J + 1))) fun r=>bnd (p1 (e,j,l,m,r.1,r.2.1,r.2.2)) fun r=>bnd (p2 (a,b,r.1,r.2.1,r.2.2,G,H,I)) fun r=>some (r.1,r.2.1,r.2.2)
theorem d_cn (k0:Pr E g48.A g48.R) (k1:Pr E g72.A g72.R) (k2:Pr E g109.A g109.R):∀ v:A,Cn E (d k0.p k1.p k2.p v) fun i=>d (k0.q i) (k1.q i) (k2.q i) v:=fun (a,b,e,j,l,m,o,s,t,u,w,x,y,z,B,C,D,G,H,I,J)=>(.bnd (k0.h _) fun _=>(.bnd (k1.h _) fun _=>(.bnd (k2.h _) fun _=>.some)))
theorem f_b (k:Nat):∀ v:A,f k v = d (g48.f k) (g72.f k) (g109.f k) v:=fun (a,b,e,j,l,m,o,s,t,u,w,x,y,z,B,C,D,G,H,I,J)=>(held_eq _).trans (by kernel_rfl)
theorem F_of (v:A) {r:R} (h:d g48.F g72.F g109.F v = some r):F v = some r:=join_of (fun L=>f_b (L 0) v) (d_cn (lp g48.f 0) (lp g72.f 0) (lp g109.f 0) v) h
noncomputable def spec (k:Nat):List AV→List Slot→Option Ans:=specS sh os (f k)
theorem spec_ok (k:Nat):SpecOk Tryz.prog 83 (spec k):=specS_ok cs_ok Tryz.func83 rfl rfl (fun _ _=>held_eq _) k
end g110
noncomputable def tg110:=tg109.cons 83 g110.spec g110.spec_ok
namespace g111 -- window_atMost
abbrev R:Type:=Bool
abbrev A:Type:=Int × Int × Bool × Int
abbrev Y:=A→Option R
def lv:List (Nat × List Nat):=[(2000000,[4])]
noncomputable def cs:Nat→Ctx:=ctxOf tis modes tg110.1 lv
theorem cs_ok (n:Nat):CtxOk Tryz.prog (cs n):=ctxOf_ok rfl tis_ok tg110.2 n
def sh:AS:=⟨[.agg [.int .i64,.int .i64,.bool],.c (.int .i64)],[]⟩
def os:OS:=⟨.c .bool,[]⟩
def enc (r:R):Out:=os.enc r
def dec:Out→Option R:=os.dec
noncomputable def b0:Code:=subF [] Tryz.f84
noncomputable def K0 (k:Nat):Kt R:=kTop (cs k) Tryz.f84 dec
noncomputable def f (k:Nat):Y:=fun v=>held (runFn cs k Tryz.f84 (sh.args v) (sh.slots v) dec)
noncomputable def F:Y:=lm f
def d:Y:=fun (a,b,e,j) =>
some (!e && decide (b ≤ j))
theorem d_cn:∀ v:A,Cn E (d v) fun i=>d v:=fun (a,b,e,j)=>.some
theorem f_b (k:Nat):∀ v:A,f k v = d v:=fun (a,b,e,j)=>(held_eq _).trans (by kernel_rfl)
theorem F_of (v:A) {r:R} (h:d v = some r):F v = some r:=join_of (fun L=>f_b (L 0) v) (d_cn v) h
noncomputable def spec (k:Nat):List AV→List Slot→Option Ans:=specS sh os (f k)
theorem spec_ok (k:Nat):SpecOk Tryz.prog 84 (spec k):=specS_ok cs_ok Tryz.func84 rfl rfl (fun _ _=>held_eq _) k
end g111
noncomputable def tg111:=tg110.cons 84 g111.spec g111.spec_ok
namespace g112 -- window_dark
abbrev R:Type:=Bool
abbrev A:Type:=Int × Int × Int × Int × Int × Int × Int × Int × Int × Int × Int × Int × Int × Int × Int × Int × List Int × Int
abbrev Y:=A→Option R
def lv:List (Nat × List Nat):=[(2000000,[4])]
noncomputable def cs:Nat→Ctx:=ctxOf tis modes tg111.1 lv
theorem cs_ok (n:Nat):CtxOk Tryz.prog (cs n):=ctxOf_ok rfl tis_ok tg111.2 n
def sh:AS:=⟨[.agg [.int .i64,.int .i64,.int .i64,.int .i64,.int .i64,.int .i64,.int .i64,.int .i64,.int .i64,.int .i64,.int .i64,.int .i64,.int .i64,.int .i64,.int .i64,.int .i64,.frz (.int .i64)],.c (.int .i64)],[]⟩
def os:OS:=⟨.c .bool,[]⟩
def enc (r:R):Out:=os.enc r
def dec:Out→Option R:=os.dec
noncomputable def b0:Code:=subF [] Tryz.f81
noncomputable def K0 (k:Nat):Kt R:=kTop (cs k) Tryz.f81 dec
noncomputable def f (k:Nat):Y:=fun v=>held (runFn cs k Tryz.f81 (sh.args v) (sh.slots v) dec)
noncomputable def F:Y:=lm f
def d (p0:g110.Y) (p1:g111.Y):Y:=fun (a,b,e,j,l,m,o,s,t,u,w,x,y,z,B,C,D,G) =>
bnd (p0 (a,b,e,j,l,m,o,s,t,u,w,x,y,z,B,C,D,u,w,x,G)) fun r=>bnd (p1 (r.1,r.2.1,r.2.2,C)) fun r=>some r
theorem d_cn (k0:Pr E g110.A g110.R) (k1:Pr E g111.A g111.R):∀ v:A,Cn E (d k0.p k1.p v) fun i=>d (k0.q i) (k1.q i) v:=fun (a,b,e,j,l,m,o,s,t,u,w,x,y,z,B,C,D,G)=>(.bnd (k0.h _) fun _=>(.bnd (k1.h _) fun _=>.some))
theorem f_b (k:Nat):∀ v:A,f k v = d (g110.f k) (g111.f k) v:=fun (a,b,e,j,l,m,o,s,t,u,w,x,y,z,B,C,D,G)=>(held_eq _).trans (by kernel_rfl)
theorem F_of (v:A) {r:R} (h:d g110.F g111.F v = some r):F v = some r:=join_of (fun L=>f_b (L 0) v) (d_cn (lp g110.f 0) (lp g111.f 0) v) h
noncomputable def spec (k:Nat):List AV→List Slot→Option Ans:=specS sh os (f k)
theorem spec_ok (k:Nat):SpecOk Tryz.prog 81 (spec k):=specS_ok cs_ok Tryz.func81 rfl rfl (fun _ _=>held_eq _) k
end g112
noncomputable def tg112:=tg111.cons 81 g112.spec g112.spec_ok
namespace g113 -- window_atLeast
abbrev R:Type:=Bool
abbrev A:Type:=Int × Int × Bool × Int
abbrev Y:=A→Option R
def lv:List (Nat × List Nat):=[(2000000,[4])]
noncomputable def cs:Nat→Ctx:=ctxOf tis modes tg112.1 lv
theorem cs_ok (n:Nat):CtxOk Tryz.prog (cs n):=ctxOf_ok rfl tis_ok tg112.2 n
def sh:AS:=⟨[.agg [.int .i64,.int .i64,.bool],.c (.int .i64)],[]⟩
def os:OS:=⟨.c .bool,[]⟩
def enc (r:R):Out:=os.enc r
def dec:Out→Option R:=os.dec
noncomputable def b0:Code:=subF [] Tryz.f82
noncomputable def K0 (k:Nat):Kt R:=kTop (cs k) Tryz.f82 dec
noncomputable def f (k:Nat):Y:=fun v=>held (runFn cs k Tryz.f82 (sh.args v) (sh.slots v) dec)
noncomputable def F:Y:=lm f
def d:Y:=fun (a,b,e,j) =>
some (!e && decide (j ≤ a))
theorem d_cn:∀ v:A,Cn E (d v) fun i=>d v:=fun (a,b,e,j)=>.some
theorem f_b (k:Nat):∀ v:A,f k v = d v:=fun (a,b,e,j)=>(held_eq _).trans (by kernel_rfl)
theorem F_of (v:A) {r:R} (h:d v = some r):F v = some r:=join_of (fun L=>f_b (L 0) v) (d_cn v) h
noncomputable def spec (k:Nat):List AV→List Slot→Option Ans:=specS sh os (f k)
theorem spec_ok (k:Nat):SpecOk Tryz.prog 82 (spec k):=specS_ok cs_ok Tryz.func82 rfl rfl (fun _ _=>held_eq _) k
end g113
noncomputable def tg113:=tg112.cons 82 g113.spec g113.spec_ok
namespace g114 -- sphere_both
abbrev R:Type:=Bool
abbrev A:Type:=Int × Int × Int × Int × Int × Int
abbrev Y:=A→Option R
def lv:List (Nat × List Nat):=[(2000000,[4])]
noncomputable def cs:Nat→Ctx:=ctxOf tis modes tg113.1 lv
theorem cs_ok (n:Nat):CtxOk Tryz.prog (cs n):=ctxOf_ok rfl tis_ok tg113.2 n
def sh:AS:=⟨[.agg [.int .i64,.int .i64,.int .i64],.agg [.int .i64,.int .i64,.int .i64]],[]⟩
def os:OS:=⟨.c .bool,[]⟩
def enc (r:R):Out:=os.enc r
def dec:Out→Option R:=os.dec
noncomputable def b0:Code:=subF [] Tryz.f106
noncomputable def K0 (k:Nat):Kt R:=kTop (cs k) Tryz.f106 dec
noncomputable def f (k:Nat):Y:=fun v=>held (runFn cs k Tryz.f106 (sh.args v) (sh.slots v) dec)
noncomputable def F:Y:=lm f
def d (p0:g34.Y):Y:=fun (a,b,e,j,l,m) =>
bnd (p0 (a,b,e)) fun r=>br (decide (r = 0) == true) (bnd (p0 (j,l,m)) fun r=>some (decide (r = 0))) (some false)
theorem d_cn (k0:Pr E g34.A g34.R):∀ v:A,Cn E (d k0.p v) fun i=>d (k0.q i) v:=fun (a,b,e,j,l,m)=>(.bnd (k0.h _) fun _=>(.br (.bnd (k0.h _) fun _=>.some) .some))
theorem f_b (k:Nat):∀ v:A,f k v = d (g34.f k) v:=fun (a,b,e,j,l,m)=>(held_eq _).trans (by kernel_rfl)
theorem F_of (v:A) {r:R} (h:d g34.F v = some r):F v = some r:=join_of (fun L=>f_b (L 0) v) (d_cn (lp g34.f 0) v) h
noncomputable def spec (k:Nat):List AV→List Slot→Option Ans:=specS sh os (f k)
theorem spec_ok (k:Nat):SpecOk Tryz.prog 106 (spec k):=specS_ok cs_ok Tryz.func106 rfl rfl (fun _ _=>held_eq _) k
end g114
noncomputable def tg114:=tg113.cons 106 g114.spec g114.spec_ok
namespace g115 -- sphere_dot
abbrev R:Type:=Int
abbrev A:Type:=Int × Int × Int × Int × Int × Int
abbrev Y:=A→Option R
def lv:List (Nat × List Nat):=[(2000000,[4])]
noncomputable def cs:Nat→Ctx:=ctxOf tis modes tg114.1 lv
theorem cs_ok (n:Nat):CtxOk Tryz.prog (cs n):=ctxOf_ok rfl tis_ok tg114.2 n
def sh:AS:=⟨[.agg [.int .i64,.int .i64,.int .i64],.agg [.int .i64,.int .i64,.int .i64]],[]⟩
def os:OS:=⟨.c (.int .i64),[]⟩
def enc (r:R):Out:=os.enc r
def dec:Out→Option R:=os.dec
noncomputable def b0:Code:=subF [] Tryz.f107
noncomputable def K0 (k:Nat):Kt R:=kTop (cs k) Tryz.f107 dec
noncomputable def f (k:Nat):Y:=fun v=>held (runFn cs k Tryz.f107 (sh.args v) (sh.slots v) dec)
noncomputable def F:Y:=lm f
def d:Y:=fun (a,b,e,j,l,m) =>
some (wrap .i64 (wrap .i64 (wrap .i64 (a * j) + wrap .i64 (b * l)) + wrap .i64 (e * m)))
theorem d_cn:∀ v:A,Cn E (d v) fun i=>d v:=fun (a,b,e,j,l,m)=>.some
theorem f_b (k:Nat):∀ v:A,f k v = d v:=fun (a,b,e,j,l,m)=>(held_eq _).trans (by kernel_rfl)
theorem F_of (v:A) {r:R} (h:d v = some r):F v = some r:=join_of (fun L=>f_b (L 0) v) (d_cn v) h
noncomputable def spec (k:Nat):List AV→List Slot→Option Ans:=specS sh os (f k)
theorem spec_ok (k:Nat):SpecOk Tryz.prog 107 (spec k):=specS_ok cs_ok Tryz.func107 rfl rfl (fun _ _=>held_eq _) k
end g115
noncomputable def tg115:=tg114.cons 107 g115.spec g115.spec_ok
namespace g116 -- big_trim
abbrev R:Type:=List Int
abbrev A:Type:=List Int
abbrev Y:=A→Option R
def lv:List (Nat × List Nat):=[(2000001,[0]),(2000000,[2]),(1,[0])]
noncomputable def cs:Nat→Ctx:=ctxOf tis modes tg115.1 lv
theorem cs_ok (n:Nat):CtxOk Tryz.prog (cs n):=ctxOf_ok rfl tis_ok tg115.2 n
def sh:AS:=⟨[(.c (.sl 128000000))],[(.row (.int .u32))]⟩
def os:OS:=⟨.c (.sl 128000001),[.gone,.row (.int .u32)]⟩
def enc (r:R):Out:=os.enc r
def dec:Out→Option R:=os.dec
noncomputable def b0:Code:=subF [] Tryz.f215
noncomputable def K0 (k:Nat):Kt R:=kTop (cs k) Tryz.f215 dec
noncomputable def b1:Code:=sub [1,0,0,0] b0
noncomputable def K1 ( k:Nat):Kt R:=kAt (cs k) (loopN cs k) [1,0,0] b0 (K0 k)
abbrev T0:Type:=List Int
abbrev Y0:=T0→Option R
def s0:T0→St:=fun a=>⟨21,1,[(0,.c (.sl 128000000))],[],[(128000000,.row (.int .u32) a),(256000000,.gone)]⟩
noncomputable def l0 ( k n:Nat) (v:T0):Option R:=held (loopN cs n b1 (K1 k) (s0 v))
noncomputable def D0 (v:T0):Option R:=lim fun L=>l0 (L 0) (L 1) v
theorem D0_cn (v:T0):Cn late (D0 v) fun L=>l0 (L 0) (L 1) v:=of_lim
abbrev T1:Type:=List Int
abbrev Y1:=T1→Option R
def s1:T1→St:=fun a=>⟨21,1,[(0,.c (.sl 64000000))],[],[(128000000,.gone),(256000000,.gone),(64000000,.row (.int .u32) a)]⟩
noncomputable def l1 ( k n:Nat) (v:T1):Option R:=held (loopN cs n b1 (K1 k) (s1 v))
noncomputable def D1 (v:T1):Option R:=lim fun L=>l1 (L 0) (L 1) v
theorem D1_cn (v:T1):Cn late (D1 v) fun L=>l1 (L 0) (L 1) v:=of_lim
def d0 (p0:Y1):Y0:=fun a =>
br (!decide (0 < (↑a.length:Int)) == true || decide (0 ≤ wrap .i64 ((↑a.length:Int) - 1) ∧ wrap .i64 ((↑a.length:Int) - 1) < (↑a.length:Int))) (br (decide (0 < (↑a.length:Int)) && decide (rd (Ty.int .u32) a (wrap .i64 ((↑a.length:Int) - 1)) = 0)) (br (decide (0 ≤ wrap .i64 ((↑a.length:Int) - 1) ∧ wrap .i64 ((↑a.length:Int) - 1) ≤ (↑a.length:Int))) (p0 (List.drop (Int.toNat 0) (List.take (wrap .i64 ((↑a.length:Int) - 1)).toNat a))) none) (some a)) none
theorem d0_cn (k0:Pr E T1 R):∀ v:T0,Cn E (d0 k0.p v) fun i=>d0 (k0.q i) v:=fun a=>(.br (.br (.br (k0.h _) .none) .some) .none)
theorem l0_b ( k m1:Nat):∀ v:T0,run (cs m1) (loopN cs m1) b1 (kLoop cs m1 b1 (K1 k)) (s0 v) = d0 (l1 k m1) v:=fun a=>by kernel_rfl
theorem D0_of (v:T0) {r:R} (h:d0 D1 v = some r):D0 v = some r:=loop_of 1 (fun L n hn=>by show l0 (L 0) (L 1) v = _; rw [hn]; exact (held_eq _).trans ((loopN_succ _ _ _ _ _).trans (l0_b (L 0) n v))) (d0_cn (.mk fun v=>(D1_cn v).re [0,1]) v) h
def d1 (p0:Y1):Y1:=fun a =>
br (!decide (0 < (↑a.length:Int)) == true || decide (0 ≤ wrap .i64 ((↑a.length:Int) - 1) ∧ wrap .i64 ((↑a.length:Int) - 1) < (↑a.length:Int))) (br (decide (0 < (↑a.length:Int)) && decide (rd (Ty.int .u32) a (wrap .i64 ((↑a.length:Int) - 1)) = 0)) (br (decide (0 ≤ wrap .i64 ((↑a.length:Int) - 1) ∧ wrap .i64 ((↑a.length:Int) - 1) ≤ (↑a.length:Int))) (p0 (List.drop (Int.toNat 0) (List.take (wrap .i64 ((↑a.length:Int) - 1)).toNat a))) none) (some a)) none
theorem d1_cn (k0:Pr E T1 R):∀ v:T1,Cn E (d1 k0.p v) fun i=>d1 (k0.q i) v:=fun a=>(.br (.br (.br (k0.h _) .none) .some) .none)
theorem l1_b ( k m1:Nat):∀ v:T1,run (cs m1) (loopN cs m1) b1 (kLoop cs m1 b1 (K1 k)) (s1 v) = d1 (l1 k m1) v:=fun a=>by kernel_rfl
theorem D1_of (v:T1) {r:R} (h:d1 D1 v = some r):D1 v = some r:=loop_of 1 (fun L n hn=>by show l1 (L 0) (L 1) v = _; rw [hn]; exact (held_eq _).trans ((loopN_succ _ _ _ _ _).trans (l1_b (L 0) n v))) (d1_cn (.mk fun v=>(D1_cn v).re [0,1]) v) h
noncomputable def f (k:Nat):Y:=fun v=>held (runFn cs k Tryz.f215 (sh.args v) (sh.slots v) dec)
noncomputable def F:Y:=lm f
def d (p0:Y0):Y:=fun a =>
p0 a
theorem d_cn (k0:Pr E T0 R):∀ v:A,Cn E (d k0.p v) fun i=>d (k0.q i) v:=fun a=>(k0.h _)
theorem f_b (k:Nat):∀ v:A,f k v = d (l0 k k) v:=fun a=>(held_eq _).trans (by kernel_rfl)
theorem F_of (v:A) {r:R} (h:d D0 v = some r):F v = some r:=join_of (fun L=>f_b (L 0) v) (d_cn (.mk fun v=>(D0_cn v).re [0,0]) v) h
noncomputable def spec (k:Nat):List AV→List Slot→Option Ans:=specS sh os (f k)
theorem spec_ok (k:Nat):SpecOk Tryz.prog 215 (spec k):=specS_ok cs_ok Tryz.func215 rfl rfl (fun _ _=>held_eq _) k
end g116
noncomputable def tg116:=tg115.cons 215 g116.spec g116.spec_ok
namespace g117 -- big_made
abbrev R:Type:=Bool × List Int
abbrev A:Type:=Bool × List Int
abbrev Y:=A→Option R
def lv:List (Nat × List Nat):=[(2000000,[4])]
noncomputable def cs:Nat→Ctx:=ctxOf tis modes tg116.1 lv
theorem cs_ok (n:Nat):CtxOk Tryz.prog (cs n):=ctxOf_ok rfl tis_ok tg116.2 n
def sh:AS:=⟨[.c .bool,.c (.sl 128000000)],[(.row (.int .u32))]⟩
def os:OS:=⟨.agg [.bool,.sl 128000001],[.gone,.row (.int .u32)]⟩
def enc (r:R):Out:=os.enc r
def dec:Out→Option R:=os.dec
noncomputable def b0:Code:=subF [] Tryz.f190
noncomputable def K0 (k:Nat):Kt R:=kTop (cs k) Tryz.f190 dec
noncomputable def f (k:Nat):Y:=fun v=>held (runFn cs k Tryz.f190 (sh.args v) (sh.slots v) dec)
noncomputable def F:Y:=lm f
def d (p0:g116.Y):Y:=fun (a,b) =>
bnd (p0 b) fun r=>some (a && decide (0 < (↑r.length:Int)),r)
theorem d_cn (k0:Pr E g116.A g116.R):∀ v:A,Cn E (d k0.p v) fun i=>d (k0.q i) v:=fun (a,b)=>(.bnd (k0.h _) fun _=>.some)
theorem f_b (k:Nat):∀ v:A,f k v = d (g116.f k) v:=fun (a,b)=>(held_eq _).trans (by kernel_rfl)
theorem F_of (v:A) {r:R} (h:d g116.F v = some r):F v = some r:=join_of (fun L=>f_b (L 0) v) (d_cn (lp g116.f 0) v) h
noncomputable def spec (k:Nat):List AV→List Slot→Option Ans:=specS sh os (f k)
theorem spec_ok (k:Nat):SpecOk Tryz.prog 190 (spec k):=specS_ok cs_ok Tryz.func190 rfl rfl (fun _ _=>held_eq _) k
end g117
noncomputable def tg117:=tg116.cons 190 g117.spec g117.spec_ok
namespace g118 -- big_Of
abbrev R:Type:=Bool × List Int
abbrev A:Type:=Int
abbrev Y:=A→Option R
def lv:List (Nat × List Nat):=[(2000000,[2]),(1000004,[0,2,3])]
noncomputable def cs:Nat→Ctx:=ctxOf tis modes tg117.1 lv
theorem cs_ok (n:Nat):CtxOk Tryz.prog (cs n):=ctxOf_ok rfl tis_ok tg117.2 n
def sh:AS:=⟨[(.c (.int .i64))],[]⟩
def os:OS:=⟨.agg [.bool,.sl 128000000],[(.row (.int .u32))]⟩
def enc (r:R):Out:=os.enc r
def dec:Out→Option R:=os.dec
noncomputable def b0:Code:=subF [] Tryz.f156
noncomputable def K0 (k:Nat):Kt R:=kTop (cs k) Tryz.f156 dec
noncomputable def c1000004:Code:=sub [1,1,1] b0
noncomputable def J1000004 ( k:Nat):Kt R:=kAt (cs k) (loopN cs k) [1,1,1] b0 (K0 k)
abbrev T0:Type:=Int × Int × Bool × List Int
abbrev Y0:=T0→Option R
def s0:T0→St:=fun (a,b,e,j)=>⟨19,0,[(0,.c (.int .i64 a)),(2,.c (.ptr 64000000 0)),(3,.c (.int .u64 b))],[],[(256000000,.gone),(64000000,.box [.bool e,.sl 64000001]),(64000001,.row (.int .u32) j)]⟩
noncomputable def l0 ( k:Nat) (v:T0):Option R:=held (run (cs k) (loopN cs k) c1000004 (J1000004 k) (s0 v))
noncomputable def D0 (v:T0):Option R:=lim fun L=>l0 (L 0) v
theorem D0_cn (v:T0):Cn late (D0 v) fun L=>l0 (L 0) v:=of_lim
def d0 (p0:g117.Y):Y0:=fun (a,b,e,j) =>
br (decide ((0:Int) ≤ 32)) (bnd (p0 (decide (a < 0),[wrap .u32 b,wrap .u32 (shr .u64 b 32)])) fun r=>some (r.1,r.2)) none
theorem d0_cn (k0:Pr E g117.A g117.R):∀ v:T0,Cn E (d0 k0.p v) fun i=>d0 (k0.q i) v:=fun (a,b,e,j)=>(.br (.bnd (k0.h _) fun _=>.some) .none)
theorem l0_b ( k:Nat):∀ v:T0,run (cs k) (loopN cs k) c1000004 (J1000004 k) (s0 v) = d0 (g117.f k) v:=fun (a,b,e,j)=>by kernel_rfl
theorem D0_of (v:T0) {r:R} (h:d0 g117.F v = some r):D0 v = some r:=join_of (fun L=>(held_eq _).trans (l0_b (L 0) v)) (d0_cn (lp g117.f 0) v) h
noncomputable def f (k:Nat):Y:=fun v=>held (runFn cs k Tryz.f156 (sh.args v) (sh.slots v) dec)
noncomputable def F:Y:=lm f
def d (p0:Y0):Y:=fun a =>
br (decide (a < 0)) (p0 (a,wrap .u64 (0 - wrap .u64 a),false,[])) (p0 (a,wrap .u64 a,false,[]))
theorem d_cn (k0:Pr E T0 R):∀ v:A,Cn E (d k0.p v) fun i=>d (k0.q i) v:=fun a=>(.br (k0.h _) (k0.h _))
theorem f_b (k:Nat):∀ v:A,f k v = d (l0 k) v:=fun a=>(held_eq _).trans (by kernel_rfl)
theorem F_of (v:A) {r:R} (h:d D0 v = some r):F v = some r:=join_of (fun L=>f_b (L 0) v) (d_cn (.mk fun v=>(D0_cn v).re [0]) v) h
noncomputable def spec (k:Nat):List AV→List Slot→Option Ans:=specS sh os (f k)
theorem spec_ok (k:Nat):SpecOk Tryz.prog 156 (spec k):=specS_ok cs_ok Tryz.func156 rfl rfl (fun _ _=>held_eq _) k
end g118
noncomputable def tg118:=tg117.cons 156 g118.spec g118.spec_ok
namespace g119 -- bits_Len32
abbrev R:Type:=Int
abbrev A:Type:=Int
abbrev Y:=A→Option R
def lv:List (Nat × List Nat):=[(2000000,[2]),(1000004,[0,2]),(1000007,[0,2])]
noncomputable def cs:Nat→Ctx:=ctxOf tis modes tg118.1 lv
theorem cs_ok (n:Nat):CtxOk Tryz.prog (cs n):=ctxOf_ok rfl tis_ok tg118.2 n
def sh:AS:=⟨[(.c (.int .u32))],[]⟩
def os:OS:=⟨.c (.int .i64),[]⟩
def enc (r:R):Out:=os.enc r
def dec:Out→Option R:=os.dec
noncomputable def b0:Code:=subF [] Tryz.f216
noncomputable def K0 (k:Nat):Kt R:=kTop (cs k) Tryz.f216 dec
noncomputable def c1000004:Code:=sub [1,1] b0
noncomputable def J1000004 ( k:Nat):Kt R:=kAt (cs k) (loopN cs k) [1,1] b0 (K0 k)
noncomputable def c1000007:Code:=sub [1,1,1] b0
noncomputable def J1000007 ( k:Nat):Kt R:=kAt (cs k) (loopN cs k) [1,1,1] b0 (K0 k)
abbrev T0:Type:=Int × Int
abbrev Y0:=T0→Option R
def s0:T0→St:=fun (a,b)=>⟨19,0,[(0,.c (.int .u32 a)),(2,.c (.int .i64 b))],[],[(256000000,.gone)]⟩
noncomputable def l0 ( k:Nat) (v:T0):Option R:=held (run (cs k) (loopN cs k) c1000004 (J1000004 k) (s0 v))
noncomputable def D0 (v:T0):Option R:=lim fun L=>l0 (L 0) v
theorem D0_cn (v:T0):Cn late (D0 v) fun L=>l0 (L 0) v:=of_lim
abbrev T1:Type:=Int × Int
abbrev Y1:=T1→Option R
def s1:T1→St:=fun (a,b)=>⟨19,0,[(0,.c (.int .u32 a)),(2,.c (.int .i64 b))],[],[(256000000,.gone)]⟩
noncomputable def l1 ( k:Nat) (v:T1):Option R:=held (run (cs k) (loopN cs k) c1000007 (J1000007 k) (s1 v))
noncomputable def D1 (v:T1):Option R:=lim fun L=>l1 (L 0) v
theorem D1_cn (v:T1):Cn late (D1 v) fun L=>l1 (L 0) v:=of_lim
def d0 (p0:Y1):Y0:=fun (a,b) =>
br (decide (256 ≤ a)) (br (decide ((0:Int) ≤ 8)) (p0 (shr .u32 a 8,wrap .i64 (b + 8))) none) (p0 (a,b))
theorem d0_cn (k0:Pr E T1 R):∀ v:T0,Cn E (d0 k0.p v) fun i=>d0 (k0.q i) v:=fun (a,b)=>(.br (.br (k0.h _) .none) (k0.h _))
theorem l0_b ( k:Nat):∀ v:T0,run (cs k) (loopN cs k) c1000004 (J1000004 k) (s0 v) = d0 (l1 k) v:=fun (a,b)=>by kernel_rfl
theorem D0_of (v:T0) {r:R} (h:d0 D1 v = some r):D0 v = some r:=join_of (fun L=>(held_eq _).trans (l0_b (L 0) v)) (d0_cn (.mk fun v=>(D1_cn v).re [0]) v) h
def d1:Y1:=fun (a,b) =>
br (decide (0 ≤ wrap .u8 a ∧ wrap .u8 a < (↑bs0.size:Int))) (some (wrap .i64 (b + wrap .i64 (↑(bs0.data.getD (wrap .u8 a).toNat 0).toNat:Int)))) none
theorem d1_cn:∀ v:T1,Cn E (d1 v) fun i=>d1 v:=fun (a,b)=>(.br .some .none)
theorem l1_b ( k:Nat):∀ v:T1,run (cs k) (loopN cs k) c1000007 (J1000007 k) (s1 v) = d1 v:=fun (a,b)=>by kernel_rfl
theorem D1_of (v:T1) {r:R} (h:d1 v = some r):D1 v = some r:=join_of (fun L=>(held_eq _).trans (l1_b (L 0) v)) (d1_cn v) h
noncomputable def f (k:Nat):Y:=fun v=>held (runFn cs k Tryz.f216 (sh.args v) (sh.slots v) dec)
noncomputable def F:Y:=lm f
def d (p0:Y0):Y:=fun a =>
br (decide (65536 ≤ a)) (br (decide ((0:Int) ≤ 16)) (p0 (shr .u32 a 16,16)) none) (p0 (a,0))
theorem d_cn (k0:Pr E T0 R):∀ v:A,Cn E (d k0.p v) fun i=>d (k0.q i) v:=fun a=>(.br (.br (k0.h _) .none) (k0.h _))
theorem f_b (k:Nat):∀ v:A,f k v = d (l0 k) v:=fun a=>(held_eq _).trans (by kernel_rfl)
theorem F_of (v:A) {r:R} (h:d D0 v = some r):F v = some r:=join_of (fun L=>f_b (L 0) v) (d_cn (.mk fun v=>(D0_cn v).re [0]) v) h
noncomputable def spec (k:Nat):List AV→List Slot→Option Ans:=specS sh os (f k)
theorem spec_ok (k:Nat):SpecOk Tryz.prog 216 (spec k):=specS_ok cs_ok Tryz.func216 rfl rfl (fun _ _=>held_eq _) k
end g119
noncomputable def tg119:=tg118.cons 216 g119.spec g119.spec_ok
namespace g120 -- big_Bits
abbrev R:Type:=Int
abbrev A:Type:=Bool × List Int
abbrev Y:=A→Option R
def lv:List (Nat × List Nat):=[(2000000,[2])]
noncomputable def cs:Nat→Ctx:=ctxOf tis modes tg119.1 lv
theorem cs_ok (n:Nat):CtxOk Tryz.prog (cs n):=ctxOf_ok rfl tis_ok tg119.2 n
def sh:AS:=⟨[(.agg [.bool,.frz (.int .u32)])],[]⟩
def os:OS:=⟨.c (.int .i64),[]⟩
def enc (r:R):Out:=os.enc r
def dec:Out→Option R:=os.dec
noncomputable def b0:Code:=subF [] Tryz.f191
noncomputable def K0 (k:Nat):Kt R:=kTop (cs k) Tryz.f191 dec
noncomputable def f (k:Nat):Y:=fun v=>held (runFn cs k Tryz.f191 (sh.args v) (sh.slots v) dec)
noncomputable def F:Y:=lm f
def d (p0:g119.Y):Y:=fun (a,b) =>
br (decide ((↑b.length:Int) = 0)) (some 0) (br (decide (0 ≤ wrap .i64 ((↑b.length:Int) - 1) ∧ wrap .i64 ((↑b.length:Int) - 1) < (↑b.length:Int))) (bnd (p0 (rd (Ty.int .u32) b (wrap .i64 ((↑b.length:Int) - 1)))) fun r=>some (wrap .i64 (wrap .i64 (32 * wrap .i64 ((↑b.length:Int) - 1)) + r))) none)
theorem d_cn (k0:Pr E g119.A g119.R):∀ v:A,Cn E (d k0.p v) fun i=>d (k0.q i) v:=fun (a,b)=>(.br .some (.br (.bnd (k0.h _) fun _=>.some) .none))
theorem f_b (k:Nat):∀ v:A,f k v = d (g119.f k) v:=fun (a,b)=>(held_eq _).trans (by kernel_rfl)
theorem F_of (v:A) {r:R} (h:d g119.F v = some r):F v = some r:=join_of (fun L=>f_b (L 0) v) (d_cn (lp g119.f 0) v) h
noncomputable def spec (k:Nat):List AV→List Slot→Option Ans:=specS sh os (f k)
theorem spec_ok (k:Nat):SpecOk Tryz.prog 191 (spec k):=specS_ok cs_ok Tryz.func191 rfl rfl (fun _ _=>held_eq _) k
end g120
noncomputable def tg120:=tg119.cons 191 g120.spec g120.spec_ok
namespace g121 -- big_limited
abbrev R:Type:=Bool × Int × List Int
abbrev A:Type:=Bool × List Int
abbrev Y:=A→Option R
def lv:List (Nat × List Nat):=[(2000000,[4,5])]
noncomputable def cs:Nat→Ctx:=ctxOf tis modes tg120.1 lv
theorem cs_ok (n:Nat):CtxOk Tryz.prog (cs n):=ctxOf_ok rfl tis_ok tg120.2 n
def sh:AS:=⟨[.c .bool,.c (.sl 128000000)],[(.row (.int .u32))]⟩
def os:OS:=⟨.tup [.agg [.bool,.sl 128000001],.c (.int .i64)],[.gone,.row (.int .u32)]⟩
def enc (r:R):Out:=os.enc r
def dec:Out→Option R:=os.dec
noncomputable def b0:Code:=subF [] Tryz.f192
noncomputable def K0 (k:Nat):Kt R:=kTop (cs k) Tryz.f192 dec
noncomputable def f (k:Nat):Y:=fun v=>held (runFn cs k Tryz.f192 (sh.args v) (sh.slots v) dec)
noncomputable def F:Y:=lm f
def d (p0:g117.Y) (p1:g120.Y):Y:=fun (a,b) =>
bnd (p0 (a,b)) fun r=>bnd (p1 (r.1,r.2)) fun r_1=>br (decide (131072 < r_1)) (some (false,2,[])) (some (r.1,0,r.2))
theorem d_cn (k0:Pr E g117.A g117.R) (k1:Pr E g120.A g120.R):∀ v:A,Cn E (d k0.p k1.p v) fun i=>d (k0.q i) (k1.q i) v:=fun (a,b)=>(.bnd (k0.h _) fun _=>(.bnd (k1.h _) fun _=>(.br .some .some)))
theorem f_b (k:Nat):∀ v:A,f k v = d (g117.f k) (g120.f k) v:=fun (a,b)=>(held_eq _).trans (by kernel_rfl)
theorem F_of (v:A) {r:R} (h:d g117.F g120.F v = some r):F v = some r:=join_of (fun L=>f_b (L 0) v) (d_cn (lp g117.f 0) (lp g120.f 0) v) h
noncomputable def spec (k:Nat):List AV→List Slot→Option Ans:=specS sh os (f k)
theorem spec_ok (k:Nat):SpecOk Tryz.prog 192 (spec k):=specS_ok cs_ok Tryz.func192 rfl rfl (fun _ _=>held_eq _) k
end g121
noncomputable def tg121:=tg120.cons 192 g121.spec g121.spec_ok
namespace g122 -- big_Mul
abbrev R:Type:=Bool × Int × List Int
abbrev A:Type:=Bool × List Int × Bool × List Int
abbrev Y:=A→Option R
def lv:List (Nat × List Nat):=[(2000000,[4,5]),(5,[2,3,4,6,28,29,30]),(9,[2,3,4,6,7,8,9,28,29,30,36,37,38])]
noncomputable def cs:Nat→Ctx:=ctxOf tis modes tg121.1 lv
theorem cs_ok (n:Nat):CtxOk Tryz.prog (cs n):=ctxOf_ok rfl tis_ok tg121.2 n
def sh:AS:=⟨[.agg [.bool,.frz (.int .u32)],.agg [.bool,.frz (.int .u32)]],[]⟩
def os:OS:=⟨.tup [.agg [.bool,.sl 128000000],.c (.int .i64)],[(.row (.int .u32))]⟩
def enc (r:R):Out:=os.enc r
def dec:Out→Option R:=os.dec
noncomputable def b0:Code:=subF [] Tryz.f157
noncomputable def K0 (k:Nat):Kt R:=kTop (cs k) Tryz.f157 dec
noncomputable def b5:Code:=sub [1,1,1,0,1,0,0] b0
noncomputable def K5 ( k:Nat):Kt R:=kAt (cs k) (loopN cs k) [1,1,1,0,1,0] b0 (K0 k)
noncomputable def b9:Code:=sub [1,1,0,0,1,1,0,1,0,0] b5
noncomputable def K9 ( k m1:Nat):Kt R:=kAt (cs m1) (loopN cs m1) [1,1,0,0,1,1,0,1,0] b5 (kLoop cs m1 b5 (K5 k))
abbrev T0:Type:=List Int × Int × Int × Bool × List Int × Bool × List Int × Bool × List Int × List Int
abbrev Y0:=T0→Option R
def s0:T0→St:=fun (a,b,e,j,l,m,o,s,t,u)=>⟨87,0,[(2,.c (.ptr 64000000 0)),(3,.c (.ptr 64000001 0)),(4,.c (.ptr 64000002 0)),(6,.c (.sl 64000003)),(28,.c (.frz (.int .u32) a)),(29,.c (.int .i64 b)),(30,.c (.int .i64 e))],[],[(256000000,.gone),(64000000,.box [.bool j,.frz (.int .u32) l]),(64000001,.box [.bool m,.frz (.int .u32) o]),(64000002,.box [.bool s,.sl 64000004]),(64000003,.row (.int .u32) t),(64000004,.row (.int .u32) u)]⟩
noncomputable def l0 ( k n:Nat) (v:T0):Option R:=held (loopN cs n b5 (K5 k) (s0 v))
noncomputable def D0 (v:T0):Option R:=lim fun L=>l0 (L 0) (L 1) v
theorem D0_cn (v:T0):Cn late (D0 v) fun L=>l0 (L 0) (L 1) v:=of_lim
abbrev T1:Type:=Int × Int × Int × List Int × Int × Int × List Int × Int × Int × Bool × List Int × Bool × List Int × Bool × List Int × List Int
abbrev Y1:=T1→Option R
def s1:T1→St:=fun (a,b,e,j,l,m,o,s,t,u,w,x,y,z,B,C)=>⟨87,0,[(2,.c (.ptr 64000000 0)),(3,.c (.ptr 64000001 0)),(4,.c (.ptr 64000002 0)),(6,.c (.sl 64000003)),(7,.c (.int .i64 a)),(8,.c (.int .u32 b)),(9,.c (.int .u64 e)),(28,.c (.frz (.int .u32) j)),(29,.c (.int .i64 l)),(30,.c (.int .i64 m)),(36,.c (.frz (.int .u32) o)),(37,.c (.int .i64 s)),(38,.c (.int .i64 t))],[],[(256000000,.gone),(64000000,.box [.bool u,.frz (.int .u32) w]),(64000001,.box [.bool x,.frz (.int .u32) y]),(64000002,.box [.bool z,.sl 64000004]),(64000003,.row (.int .u32) B),(64000004,.row (.int .u32) C)]⟩
noncomputable def l1 ( k m1 n:Nat) (v:T1):Option R:=held (loopN cs n b9 (K9 k m1) (s1 v))
noncomputable def D1 (v:T1):Option R:=lim fun L=>l1 (L 0) (L 1) (L 2) v
theorem D1_cn (v:T1):Cn late (D1 v) fun L=>l1 (L 0) (L 1) (L 2) v:=of_lim
def d0 (p0:Y1) (p1:g121.Y):Y0:=fun (a,b,e,j,l,m,o,s,t,u) =>
br (decide (e < b)) (br (decide (0 ≤ e ∧ e < (↑a.length:Int))) (p0 (e,rd (Ty.int .u32) a e,0,a,b,e,o,(↑o.length:Int),0,j,l,m,o,s,t,u)) none) (bnd (p1 (!j == m,t)) fun r=>some (r.1,r.2.1,r.2.2))
theorem d0_cn (k0:Pr E T1 R) (k1:Pr E g121.A g121.R):∀ v:T0,Cn E (d0 k0.p k1.p v) fun i=>d0 (k0.q i) (k1.q i) v:=fun (a,b,e,j,l,m,o,s,t,u)=>(.br (.br (k0.h _) .none) (.bnd (k1.h _) fun _=>.some))
theorem l0_b ( k m1:Nat):∀ v:T0,run (cs m1) (loopN cs m1) b5 (kLoop cs m1 b5 (K5 k)) (s0 v) = d0 (l1 k m1 m1) (g121.f k) v:=fun (a,b,e,j,l,m,o,s,t,u)=>by kernel_rfl
theorem D0_of (v:T0) {r:R} (h:d0 D1 g121.F v = some r):D0 v = some r:=loop_of 1 (fun L n hn=>by show l0 (L 0) (L 1) v = _; rw [hn]; exact (held_eq _).trans ((loopN_succ _ _ _ _ _).trans (l0_b (L 0) n v))) (d0_cn (.mk fun v=>(D1_cn v).re [0,1,1]) (lp g121.f 0) v) h
noncomputable def d1 (p0:Y1) (p1:Y0):Y1:=fun (a,b,e,j,l,m,o,s,t,u,w,x,y,z,B,C) =>
br (decide (t < s)) (br (decide (0 ≤ t ∧ t < (↑o.length:Int))) (br (decide (0 ≤ wrap .i64 (a + t) ∧ wrap .i64 (a + t) < (↑B.length:Int))) (br (decide (0 ≤ wrap .i64 (a + t) ∧ wrap .i64 (a + t) < (↑B.length:Int))) (br (decide ((0:Int) ≤ 32)) (p0 (a,b,shr .u64 (wrap .u64 (e + wrap .u64 (wrap .u64 (wrap .u64 b * wrap .u64 (rd (Ty.int .u32) o t)) + wrap .u64 (rd (Ty.int .u32) B (wrap .i64 (a + t)))))) 32,j,l,m,o,s,wrap .i64 (t + 1),u,w,x,y,z,B.set (wrap .i64 (a + t)).toNat (wrap .u32 (wrap .u64 (e + wrap .u64 (wrap .u64 (wrap .u64 b * wrap .u64 (rd (Ty.int .u32) o t)) + wrap .u64 (rd (Ty.int .u32) B (wrap .i64 (a + t))))))),C)) none) none) none) none) (br (decide (0 ≤ wrap .i64 (a + (↑y.length:Int)) ∧ wrap .i64 (a + (↑y.length:Int)) < (↑B.length:Int))) (p1 (j,l,wrap .i64 (m + 1),u,w,x,y,z,B.set (wrap .i64 (a + (↑y.length:Int))).toNat (wrap .u32 e),C)) none)
theorem d1_cn (k0:Pr E T1 R) (k1:Pr E T0 R):∀ v:T1,Cn E (d1 k0.p k1.p v) fun i=>d1 (k0.q i) (k1.q i) v:=fun (a,b,e,j,l,m,o,s,t,u,w,x,y,z,B,C)=>(.br (.br (.br (.br (.br (k0.h _) .none) .none) .none) .none) (.br (k1.h _) .none))
theorem l1_b ( k m1 m2:Nat):∀ v:T1,run (cs m2) (loopN cs m2) b9 (kLoop cs m2 b9 (K9 k m1)) (s1 v) = d1 (l1 k m1 m2) (l0 k m1) v:=fun (a,b,e,j,l,m,o,s,t,u,w,x,y,z,B,C)=>by kernel_rfl
theorem D1_of (v:T1) {r:R} (h:d1 D1 D0 v = some r):D1 v = some r:=loop_of 2 (fun L n hn=>by show l1 (L 0) (L 1) (L 2) v = _; rw [hn]; exact (held_eq _).trans ((loopN_succ _ _ _ _ _).trans (l1_b (L 0) (L 1) n v))) (d1_cn (.mk fun v=>(D1_cn v).re [0,1,2]) (.mk fun v=>(D0_cn v).re [0,1]) v) h
noncomputable def f (k:Nat):Y:=fun v=>held (runFn cs k Tryz.f157 (sh.args v) (sh.slots v) dec)
noncomputable def F:Y:=lm f
def d (p0:g120.Y) (p1:Y0):Y:=fun (a,b,e,j) =>
bnd (p0 (a,b)) fun r=>bnd (p0 (e,j)) fun r_1=>br (decide (131073 < wrap .i64 (r + r_1))) (some (false,2,[])) (br (decide (0 ≤ wrap .i64 ((↑b.length:Int) + (↑j.length:Int)) ∧ wrap .i64 ((↑b.length:Int) + (↑j.length:Int)) ≤ wrap .i64 ((↑b.length:Int) + (↑j.length:Int)) ∧ wrap .i64 ((↑b.length:Int) + (↑j.length:Int)) ≤ (↑(140737488355328 / 4):Int))) (p1 (b,(↑b.length:Int),0,a,b,e,j,false,List.replicate (wrap .i64 ((↑b.length:Int) + (↑j.length:Int))).toNat (Ty.int .u32).dflt,[])) none)
theorem d_cn (k0:Pr E g120.A g120.R) (k1:Pr E T0 R):∀ v:A,Cn E (d k0.p k1.p v) fun i=>d (k0.q i) (k1.q i) v:=fun (a,b,e,j)=>(.bnd (k0.h _) fun _=>(.bnd (k0.h _) fun _=>(.br .some (.br (k1.h _) .none))))
theorem f_b (k:Nat):∀ v:A,f k v = d (g120.f k) (l0 k k) v:=fun (a,b,e,j)=>(held_eq _).trans (by kernel_rfl)
theorem F_of (v:A) {r:R} (h:d g120.F D0 v = some r):F v = some r:=join_of (fun L=>f_b (L 0) v) (d_cn (lp g120.f 0) (.mk fun v=>(D0_cn v).re [0,0]) v) h
noncomputable def spec (k:Nat):List AV→List Slot→Option Ans:=specS sh os (f k)
theorem spec_ok (k:Nat):SpecOk Tryz.prog 157 (spec k):=specS_ok cs_ok Tryz.func157 rfl rfl (fun _ _=>held_eq _) k
end g122
noncomputable def tg122:=tg121.cons 157 g122.spec g122.spec_ok
namespace g123 -- sphere_mul
abbrev R:Type:=Bool × List Int
abbrev A:Type:=Bool × List Int × Bool × List Int
abbrev Y:=A→Option R
def lv:List (Nat × List Nat):=[(2000000,[4])]
noncomputable def cs:Nat→Ctx:=ctxOf tis modes tg122.1 lv
theorem cs_ok (n:Nat):CtxOk Tryz.prog (cs n):=ctxOf_ok rfl tis_ok tg122.2 n
def sh:AS:=⟨[.agg [.bool,.frz (.int .u32)],.agg [.bool,.frz (.int .u32)]],[]⟩
def os:OS:=⟨.agg [.bool,.sl 128000000],[(.row (.int .u32))]⟩
def enc (r:R):Out:=os.enc r
def dec:Out→Option R:=os.dec
noncomputable def b0:Code:=subF [] Tryz.f109
noncomputable def K0 (k:Nat):Kt R:=kTop (cs k) Tryz.f109 dec
noncomputable def f (k:Nat):Y:=fun v=>held (runFn cs k Tryz.f109 (sh.args v) (sh.slots v) dec)
noncomputable def F:Y:=lm f
def d (p0:g122.Y):Y:=fun (a,b,e,j) =>
bnd (p0 (a,b,e,j)) fun r=>some (r.1,r.2.2)
theorem d_cn (k0:Pr E g122.A g122.R):∀ v:A,Cn E (d k0.p v) fun i=>d (k0.q i) v:=fun (a,b,e,j)=>(.bnd (k0.h _) fun _=>.some)
theorem f_b (k:Nat):∀ v:A,f k v = d (g122.f k) v:=fun (a,b,e,j)=>(held_eq _).trans (by kernel_rfl)
theorem F_of (v:A) {r:R} (h:d g122.F v = some r):F v = some r:=join_of (fun L=>f_b (L 0) v) (d_cn (lp g122.f 0) v) h
noncomputable def spec (k:Nat):List AV→List Slot→Option Ans:=specS sh os (f k)
theorem spec_ok (k:Nat):SpecOk Tryz.prog 109 (spec k):=specS_ok cs_ok Tryz.func109 rfl rfl (fun _ _=>held_eq _) k
end g123
noncomputable def tg123:=tg122.cons 109 g123.spec g123.spec_ok
namespace g124 -- sphere_norms
abbrev R:Type:=Bool × List Int
abbrev A:Type:=Int × Int × Int × Int × Int × Int
abbrev Y:=A→Option R
def lv:List (Nat × List Nat):=[(2000000,[4])]
noncomputable def cs:Nat→Ctx:=ctxOf tis modes tg123.1 lv
theorem cs_ok (n:Nat):CtxOk Tryz.prog (cs n):=ctxOf_ok rfl tis_ok tg123.2 n
def sh:AS:=⟨[.agg [.int .i64,.int .i64,.int .i64],.agg [.int .i64,.int .i64,.int .i64]],[]⟩
def os:OS:=⟨.agg [.bool,.sl 128000000],[(.row (.int .u32))]⟩
def enc (r:R):Out:=os.enc r
def dec:Out→Option R:=os.dec
noncomputable def b0:Code:=subF [] Tryz.f108
noncomputable def K0 (k:Nat):Kt R:=kTop (cs k) Tryz.f108 dec
noncomputable def f (k:Nat):Y:=fun v=>held (runFn cs k Tryz.f108 (sh.args v) (sh.slots v) dec)
noncomputable def F:Y:=lm f
def d (p0:g115.Y) (p1:g118.Y) (p2:g123.Y):Y:=fun (a,b,e,j,l,m) =>
bnd (p0 (a,b,e,a,b,e)) fun r=>bnd (p1 r) fun r=>bnd (p0 (j,l,m,j,l,m)) fun r_1=>bnd (p1 r_1) fun r_2=>bnd (p2 (r.1,r.2,r_2.1,r_2.2)) fun r=>some (r.1,r.2)
theorem d_cn (k0:Pr E g115.A g115.R) (k1:Pr E g118.A g118.R) (k2:Pr E g123.A g123.R):∀ v:A,Cn E (d k0.p k1.p k2.p v) fun i=>d (k0.q i) (k1.q i) (k2.q i) v:=fun (a,b,e,j,l,m)=>(.bnd (k0.h _) fun _=>(.bnd (k1.h _) fun _=>(.bnd (k0.h _) fun _=>(.bnd (k1.h _) fun _=>(.bnd (k2.h _) fun _=>.some)))))
theorem f_b (k:Nat):∀ v:A,f k v = d (g115.f k) (g118.f k) (g123.f k) v:=fun (a,b,e,j,l,m)=>(held_eq _).trans (by kernel_rfl)
theorem F_of (v:A) {r:R} (h:d g115.F g118.F g123.F v = some r):F v = some r:=join_of (fun L=>f_b (L 0) v) (d_cn (lp g115.f 0) (lp g118.f 0) (lp g123.f 0) v) h
noncomputable def spec (k:Nat):List AV→List Slot→Option Ans:=specS sh os (f k)
theorem spec_ok (k:Nat):SpecOk Tryz.prog 108 (spec k):=specS_ok cs_ok Tryz.func108 rfl rfl (fun _ _=>held_eq _) k
end g124
noncomputable def tg124:=tg123.cons 108 g124.spec g124.spec_ok
namespace g125 -- sphere_square
abbrev R:Type:=Bool × List Int
abbrev A:Type:=Int
abbrev Y:=A→Option R
def lv:List (Nat × List Nat):=[(2000000,[2])]
noncomputable def cs:Nat→Ctx:=ctxOf tis modes tg124.1 lv
theorem cs_ok (n:Nat):CtxOk Tryz.prog (cs n):=ctxOf_ok rfl tis_ok tg124.2 n
def sh:AS:=⟨[(.c (.int .i64))],[]⟩
def os:OS:=⟨.agg [.bool,.sl 128000000],[(.row (.int .u32))]⟩
def enc (r:R):Out:=os.enc r
def dec:Out→Option R:=os.dec
noncomputable def b0:Code:=subF [] Tryz.f110
noncomputable def K0 (k:Nat):Kt R:=kTop (cs k) Tryz.f110 dec
noncomputable def f (k:Nat):Y:=fun v=>held (runFn cs k Tryz.f110 (sh.args v) (sh.slots v) dec)
noncomputable def F:Y:=lm f
def d (p0:g118.Y) (p1:g123.Y):Y:=fun a =>
bnd (p0 a) fun r=>bnd (p0 a) fun r_1=>bnd (p1 (r.1,r.2,r_1.1,r_1.2)) fun r=>some (r.1,r.2)
theorem d_cn (k0:Pr E g118.A g118.R) (k1:Pr E g123.A g123.R):∀ v:A,Cn E (d k0.p k1.p v) fun i=>d (k0.q i) (k1.q i) v:=fun a=>(.bnd (k0.h _) fun _=>(.bnd (k0.h _) fun _=>(.bnd (k1.h _) fun _=>.some)))
theorem f_b (k:Nat):∀ v:A,f k v = d (g118.f k) (g123.f k) v:=fun a=>(held_eq _).trans (by kernel_rfl)
theorem F_of (v:A) {r:R} (h:d g118.F g123.F v = some r):F v = some r:=join_of (fun L=>f_b (L 0) v) (d_cn (lp g118.f 0) (lp g123.f 0) v) h
noncomputable def spec (k:Nat):List AV→List Slot→Option Ans:=specS sh os (f k)
theorem spec_ok (k:Nat):SpecOk Tryz.prog 110 (spec k):=specS_ok cs_ok Tryz.func110 rfl rfl (fun _ _=>held_eq _) k
end g125
noncomputable def tg125:=tg124.cons 110 g125.spec g125.spec_ok
namespace g126 -- big_Sign
abbrev R:Type:=Int
abbrev A:Type:=Bool × List Int
abbrev Y:=A→Option R
def lv:List (Nat × List Nat):=[(2000000,[2])]
noncomputable def cs:Nat→Ctx:=ctxOf tis modes tg125.1 lv
theorem cs_ok (n:Nat):CtxOk Tryz.prog (cs n):=ctxOf_ok rfl tis_ok tg125.2 n
def sh:AS:=⟨[(.agg [.bool,.frz (.int .u32)])],[]⟩
def os:OS:=⟨.c (.int .i64),[]⟩
def enc (r:R):Out:=os.enc r
def dec:Out→Option R:=os.dec
noncomputable def b0:Code:=subF [] Tryz.f159
noncomputable def K0 (k:Nat):Kt R:=kTop (cs k) Tryz.f159 dec
noncomputable def f (k:Nat):Y:=fun v=>held (runFn cs k Tryz.f159 (sh.args v) (sh.slots v) dec)
noncomputable def F:Y:=lm f
def d:Y:=fun (a,b) =>
br a (some (-1)) (br (decide (0 < (↑b.length:Int))) (some 1) (some 0))
theorem d_cn:∀ v:A,Cn E (d v) fun i=>d v:=fun (a,b)=>(.br .some (.br .some .some))
theorem f_b (k:Nat):∀ v:A,f k v = d v:=fun (a,b)=>(held_eq _).trans (by kernel_rfl)
theorem F_of (v:A) {r:R} (h:d v = some r):F v = some r:=join_of (fun L=>f_b (L 0) v) (d_cn v) h
noncomputable def spec (k:Nat):List AV→List Slot→Option Ans:=specS sh os (f k)
theorem spec_ok (k:Nat):SpecOk Tryz.prog 159 (spec k):=specS_ok cs_ok Tryz.func159 rfl rfl (fun _ _=>held_eq _) k
end g126
noncomputable def tg126:=tg125.cons 159 g126.spec g126.spec_ok
namespace g127 -- cmp_isNaN_int
abbrev R:Type:=Bool
abbrev A:Type:=Int
abbrev Y:=A→Option R
def lv:List (Nat × List Nat):=[(2000000,[2])]
noncomputable def cs:Nat→Ctx:=ctxOf tis modes tg126.1 lv
theorem cs_ok (n:Nat):CtxOk Tryz.prog (cs n):=ctxOf_ok rfl tis_ok tg126.2 n
def sh:AS:=⟨[(.c (.int .i64))],[]⟩
def os:OS:=⟨.c .bool,[]⟩
def enc (r:R):Out:=os.enc r
def dec:Out→Option R:=os.dec
noncomputable def b0:Code:=subF [] Tryz.f193
noncomputable def K0 (k:Nat):Kt R:=kTop (cs k) Tryz.f193 dec
noncomputable def f (k:Nat):Y:=fun v=>held (runFn cs k Tryz.f193 (sh.args v) (sh.slots v) dec)
noncomputable def F:Y:=lm f
def d:Y:=fun a =>
some !decide (a = a)
theorem d_cn:∀ v:A,Cn E (d v) fun i=>d v:=fun a=>.some
theorem f_b (k:Nat):∀ v:A,f k v = d v:=fun a=>(held_eq _).trans (by kernel_rfl)
theorem F_of (v:A) {r:R} (h:d v = some r):F v = some r:=join_of (fun L=>f_b (L 0) v) (d_cn v) h
noncomputable def spec (k:Nat):List AV→List Slot→Option Ans:=specS sh os (f k)
theorem spec_ok (k:Nat):SpecOk Tryz.prog 193 (spec k):=specS_ok cs_ok Tryz.func193 rfl rfl (fun _ _=>held_eq _) k
end g127
noncomputable def tg127:=tg126.cons 193 g127.spec g127.spec_ok
namespace g128 -- cmp_Compare_int
abbrev R:Type:=Int
abbrev A:Type:=Int × Int
abbrev Y:=A→Option R
def lv:List (Nat × List Nat):=[(2000000,[4])]
noncomputable def cs:Nat→Ctx:=ctxOf tis modes tg127.1 lv
theorem cs_ok (n:Nat):CtxOk Tryz.prog (cs n):=ctxOf_ok rfl tis_ok tg127.2 n
def sh:AS:=⟨[.c (.int .i64),.c (.int .i64)],[]⟩
def os:OS:=⟨.c (.int .i64),[]⟩
def enc (r:R):Out:=os.enc r
def dec:Out→Option R:=os.dec
noncomputable def b0:Code:=subF [] Tryz.f158
noncomputable def K0 (k:Nat):Kt R:=kTop (cs k) Tryz.f158 dec
noncomputable def f (k:Nat):Y:=fun v=>held (runFn cs k Tryz.f158 (sh.args v) (sh.slots v) dec)
noncomputable def F:Y:=lm f
def d (p0:g127.Y):Y:=fun (a,b) =>
bnd (p0 a) fun r=>bnd (p0 b) fun r_1=>br r (br r_1 (some 0) (some (-1))) (br r_1 (some 1) (br (decide (a < b)) (some (-1)) (br (decide (b < a)) (some 1) (some 0))))
theorem d_cn (k0:Pr E g127.A g127.R):∀ v:A,Cn E (d k0.p v) fun i=>d (k0.q i) v:=fun (a,b)=>(.bnd (k0.h _) fun _=>(.bnd (k0.h _) fun _=>(.br (.br .some .some) (.br .some (.br .some (.br .some .some))))))
theorem f_b (k:Nat):∀ v:A,f k v = d (g127.f k) v:=fun (a,b)=>(held_eq _).trans (by kernel_rfl)
theorem F_of (v:A) {r:R} (h:d g127.F v = some r):F v = some r:=join_of (fun L=>f_b (L 0) v) (d_cn (lp g127.f 0) v) h
noncomputable def spec (k:Nat):List AV→List Slot→Option Ans:=specS sh os (f k)
theorem spec_ok (k:Nat):SpecOk Tryz.prog 158 (spec k):=specS_ok cs_ok Tryz.func158 rfl rfl (fun _ _=>held_eq _) k
end g128
noncomputable def tg128:=tg127.cons 158 g128.spec g128.spec_ok
namespace g129 -- cmp_isNaN_uint32
abbrev R:Type:=Bool
abbrev A:Type:=Int
abbrev Y:=A→Option R
def lv:List (Nat × List Nat):=[(2000000,[2])]
noncomputable def cs:Nat→Ctx:=ctxOf tis modes tg128.1 lv
theorem cs_ok (n:Nat):CtxOk Tryz.prog (cs n):=ctxOf_ok rfl tis_ok tg128.2 n
def sh:AS:=⟨[(.c (.int .u32))],[]⟩
def os:OS:=⟨.c .bool,[]⟩
def enc (r:R):Out:=os.enc r
def dec:Out→Option R:=os.dec
noncomputable def b0:Code:=subF [] Tryz.f217
noncomputable def K0 (k:Nat):Kt R:=kTop (cs k) Tryz.f217 dec
noncomputable def f (k:Nat):Y:=fun v=>held (runFn cs k Tryz.f217 (sh.args v) (sh.slots v) dec)
noncomputable def F:Y:=lm f
def d:Y:=fun a =>
some !decide (a = a)
theorem d_cn:∀ v:A,Cn E (d v) fun i=>d v:=fun a=>.some
theorem f_b (k:Nat):∀ v:A,f k v = d v:=fun a=>(held_eq _).trans (by kernel_rfl)
theorem F_of (v:A) {r:R} (h:d v = some r):F v = some r:=join_of (fun L=>f_b (L 0) v) (d_cn v) h
noncomputable def spec (k:Nat):List AV→List Slot→Option Ans:=specS sh os (f k)
theorem spec_ok (k:Nat):SpecOk Tryz.prog 217 (spec k):=specS_ok cs_ok Tryz.func217 rfl rfl (fun _ _=>held_eq _) k
end g129
noncomputable def tg129:=tg128.cons 217 g129.spec g129.spec_ok
namespace g130 -- cmp_Compare_uint32
abbrev R:Type:=Int
abbrev A:Type:=Int × Int
abbrev Y:=A→Option R
def lv:List (Nat × List Nat):=[(2000000,[4])]
noncomputable def cs:Nat→Ctx:=ctxOf tis modes tg129.1 lv
theorem cs_ok (n:Nat):CtxOk Tryz.prog (cs n):=ctxOf_ok rfl tis_ok tg129.2 n
def sh:AS:=⟨[.c (.int .u32),.c (.int .u32)],[]⟩
def os:OS:=⟨.c (.int .i64),[]⟩
def enc (r:R):Out:=os.enc r
def dec:Out→Option R:=os.dec
noncomputable def b0:Code:=subF [] Tryz.f194
noncomputable def K0 (k:Nat):Kt R:=kTop (cs k) Tryz.f194 dec
noncomputable def f (k:Nat):Y:=fun v=>held (runFn cs k Tryz.f194 (sh.args v) (sh.slots v) dec)
noncomputable def F:Y:=lm f
def d (p0:g129.Y):Y:=fun (a,b) =>
bnd (p0 a) fun r=>bnd (p0 b) fun r_1=>br r (br r_1 (some 0) (some (-1))) (br r_1 (some 1) (br (decide (a < b)) (some (-1)) (br (decide (b < a)) (some 1) (some 0))))
theorem d_cn (k0:Pr E g129.A g129.R):∀ v:A,Cn E (d k0.p v) fun i=>d (k0.q i) v:=fun (a,b)=>(.bnd (k0.h _) fun _=>(.bnd (k0.h _) fun _=>(.br (.br .some .some) (.br .some (.br .some (.br .some .some))))))
theorem f_b (k:Nat):∀ v:A,f k v = d (g129.f k) v:=fun (a,b)=>(held_eq _).trans (by kernel_rfl)
theorem F_of (v:A) {r:R} (h:d g129.F v = some r):F v = some r:=join_of (fun L=>f_b (L 0) v) (d_cn (lp g129.f 0) v) h
noncomputable def spec (k:Nat):List AV→List Slot→Option Ans:=specS sh os (f k)
theorem spec_ok (k:Nat):SpecOk Tryz.prog 194 (spec k):=specS_ok cs_ok Tryz.func194 rfl rfl (fun _ _=>held_eq _) k
end g130
noncomputable def tg130:=tg129.cons 194 g130.spec g130.spec_ok
namespace g131 -- big_cmpMag
abbrev R:Type:=Int
abbrev A:Type:=List Int × List Int
abbrev Y:=A→Option R
def lv:List (Nat × List Nat):=[(2000000,[4]),(4,[0,1,5])]
noncomputable def cs:Nat→Ctx:=ctxOf tis modes tg130.1 lv
theorem cs_ok (n:Nat):CtxOk Tryz.prog (cs n):=ctxOf_ok rfl tis_ok tg130.2 n
def sh:AS:=⟨[.c (.frz (.int .u32)),.c (.frz (.int .u32))],[]⟩
def os:OS:=⟨.c (.int .i64),[]⟩
def enc (r:R):Out:=os.enc r
def dec:Out→Option R:=os.dec
noncomputable def b0:Code:=subF [] Tryz.f160
noncomputable def K0 (k:Nat):Kt R:=kTop (cs k) Tryz.f160 dec
noncomputable def b4:Code:=sub [1,1,0,1,0,0] b0
noncomputable def K4 ( k:Nat):Kt R:=kAt (cs k) (loopN cs k) [1,1,0,1,0] b0 (K0 k)
abbrev T0:Type:=List Int × List Int × Int
abbrev Y0:=T0→Option R
def s0:T0→St:=fun (a,b,e)=>⟨41,0,[(0,.c (.frz (.int .u32) a)),(1,.c (.frz (.int .u32) b)),(5,.c (.int .i64 e))],[],[(256000000,.gone)]⟩
noncomputable def l0 ( k n:Nat) (v:T0):Option R:=held (loopN cs n b4 (K4 k) (s0 v))
noncomputable def D0 (v:T0):Option R:=lim fun L=>l0 (L 0) (L 1) v
theorem D0_cn (v:T0):Cn late (D0 v) fun L=>l0 (L 0) (L 1) v:=of_lim
def d0 (p0:g130.Y) (p1:Y0):Y0:=fun (a,b,e) =>
br (decide (0 ≤ e)) (br (decide (0 ≤ e ∧ e < (↑a.length:Int))) (br (decide (0 ≤ e ∧ e < (↑b.length:Int))) (br (!decide (rd (Ty.int .u32) a e = rd (Ty.int .u32) b e)) (br (decide (0 ≤ e ∧ e < (↑a.length:Int))) (br (decide (0 ≤ e ∧ e < (↑b.length:Int))) (bnd (p0 (rd (Ty.int .u32) a e,rd (Ty.int .u32) b e)) fun r=>some r) none) none) (p1 (a,b,wrap .i64 (e - 1)))) none) none) (some 0)
theorem d0_cn (k0:Pr E g130.A g130.R) (k1:Pr E T0 R):∀ v:T0,Cn E (d0 k0.p k1.p v) fun i=>d0 (k0.q i) (k1.q i) v:=fun (a,b,e)=>(.br (.br (.br (.br (.br (.br (.bnd (k0.h _) fun _=>.some) .none) .none) (k1.h _)) .none) .none) .some)
theorem l0_b ( k m1:Nat):∀ v:T0,run (cs m1) (loopN cs m1) b4 (kLoop cs m1 b4 (K4 k)) (s0 v) = d0 (g130.f m1) (l0 k m1) v:=fun (a,b,e)=>by kernel_rfl
theorem D0_of (v:T0) {r:R} (h:d0 g130.F D0 v = some r):D0 v = some r:=loop_of 1 (fun L n hn=>by show l0 (L 0) (L 1) v = _; rw [hn]; exact (held_eq _).trans ((loopN_succ _ _ _ _ _).trans (l0_b (L 0) n v))) (d0_cn (lp g130.f 1) (.mk fun v=>(D0_cn v).re [0,1]) v) h
noncomputable def f (k:Nat):Y:=fun v=>held (runFn cs k Tryz.f160 (sh.args v) (sh.slots v) dec)
noncomputable def F:Y:=lm f
def d (p0:g128.Y) (p1:Y0):Y:=fun (a,b) =>
br (!decide ((↑a.length:Int) = (↑b.length:Int))) (bnd (p0 ((↑a.length:Int),(↑b.length:Int))) fun r=>some r) (p1 (a,b,wrap .i64 ((↑a.length:Int) - 1)))
theorem d_cn (k0:Pr E g128.A g128.R) (k1:Pr E T0 R):∀ v:A,Cn E (d k0.p k1.p v) fun i=>d (k0.q i) (k1.q i) v:=fun (a,b)=>(.br (.bnd (k0.h _) fun _=>.some) (k1.h _))
theorem f_b (k:Nat):∀ v:A,f k v = d (g128.f k) (l0 k k) v:=fun (a,b)=>(held_eq _).trans (by kernel_rfl)
theorem F_of (v:A) {r:R} (h:d g128.F D0 v = some r):F v = some r:=join_of (fun L=>f_b (L 0) v) (d_cn (lp g128.f 0) (.mk fun v=>(D0_cn v).re [0,0]) v) h
noncomputable def spec (k:Nat):List AV→List Slot→Option Ans:=specS sh os (f k)
theorem spec_ok (k:Nat):SpecOk Tryz.prog 160 (spec k):=specS_ok cs_ok Tryz.func160 rfl rfl (fun _ _=>held_eq _) k
end g131
noncomputable def tg131:=tg130.cons 160 g131.spec g131.spec_ok
namespace g132 -- big_Cmp
abbrev R:Type:=Int
abbrev A:Type:=Bool × List Int × Bool × List Int
abbrev Y:=A→Option R
def lv:List (Nat × List Nat):=[(2000000,[4])]
noncomputable def cs:Nat→Ctx:=ctxOf tis modes tg131.1 lv
theorem cs_ok (n:Nat):CtxOk Tryz.prog (cs n):=ctxOf_ok rfl tis_ok tg131.2 n
def sh:AS:=⟨[.agg [.bool,.frz (.int .u32)],.agg [.bool,.frz (.int .u32)]],[]⟩
def os:OS:=⟨.c (.int .i64),[]⟩
def enc (r:R):Out:=os.enc r
def dec:Out→Option R:=os.dec
noncomputable def b0:Code:=subF [] Tryz.f111
noncomputable def K0 (k:Nat):Kt R:=kTop (cs k) Tryz.f111 dec
noncomputable def f (k:Nat):Y:=fun v=>held (runFn cs k Tryz.f111 (sh.args v) (sh.slots v) dec)
noncomputable def F:Y:=lm f
def d (p0:g126.Y) (p1:g128.Y) (p2:g131.Y):Y:=fun (a,b,e,j) =>
br (!a == e) (bnd (p0 (a,b)) fun r=>bnd (p0 (e,j)) fun r_1=>bnd (p1 (r,r_1)) fun r=>some r) (br a (bnd (p2 (j,b)) fun r=>some r) (bnd (p2 (b,j)) fun r=>some r))
theorem d_cn (k0:Pr E g126.A g126.R) (k1:Pr E g128.A g128.R) (k2:Pr E g131.A g131.R):∀ v:A,Cn E (d k0.p k1.p k2.p v) fun i=>d (k0.q i) (k1.q i) (k2.q i) v:=fun (a,b,e,j)=>(.br (.bnd (k0.h _) fun _=>(.bnd (k0.h _) fun _=>(.bnd (k1.h _) fun _=>.some))) (.br (.bnd (k2.h _) fun _=>.some) (.bnd (k2.h _) fun _=>.some)))
theorem f_b (k:Nat):∀ v:A,f k v = d (g126.f k) (g128.f k) (g131.f k) v:=fun (a,b,e,j)=>(held_eq _).trans (by kernel_rfl)
theorem F_of (v:A) {r:R} (h:d g126.F g128.F g131.F v = some r):F v = some r:=join_of (fun L=>f_b (L 0) v) (d_cn (lp g126.f 0) (lp g128.f 0) (lp g131.f 0) v) h
noncomputable def spec (k:Nat):List AV→List Slot→Option Ans:=specS sh os (f k)
theorem spec_ok (k:Nat):SpecOk Tryz.prog 111 (spec k):=specS_ok cs_ok Tryz.func111 rfl rfl (fun _ _=>held_eq _) k
end g132
noncomputable def tg132:=tg131.cons 111 g132.spec g132.spec_ok
namespace g133 -- sphere_Cosine
abbrev R:Type:=Int × Int × Bool
abbrev A:Type:=Int × Int × Int × Int × Int × Int
abbrev Y:=A→Option R
def lv:List (Nat × List Nat):=[(2000000,[4]),(6,[4,5,6,7,8,9]),(1000013,[4,5,8,9]),(1000015,[4,8,9])]
noncomputable def cs:Nat→Ctx:=ctxOf tis modes tg132.1 lv
theorem cs_ok (n:Nat):CtxOk Tryz.prog (cs n):=ctxOf_ok rfl tis_ok tg132.2 n
def sh:AS:=⟨[.agg [.int .i64,.int .i64,.int .i64],.agg [.int .i64,.int .i64,.int .i64]],[]⟩
def os:OS:=⟨.agg [.int .i64,.int .i64,.bool],[]⟩
def enc (r:R):Out:=os.enc r
def dec:Out→Option R:=os.dec
noncomputable def b0:Code:=subF [] Tryz.f85
noncomputable def K0 (k:Nat):Kt R:=kTop (cs k) Tryz.f85 dec
noncomputable def b6:Code:=sub [1,1,1,1,1,0,0,0] b0
noncomputable def K6 ( k:Nat):Kt R:=kAt (cs k) (loopN cs k) [1,1,1,1,1,0,0] b0 (K0 k)
noncomputable def c1000013:Code:=sub [1,1,1,1,1,1,1] b0
noncomputable def J1000013 ( k:Nat):Kt R:=kAt (cs k) (loopN cs k) [1,1,1,1,1,1,1] b0 (K0 k)
noncomputable def c1000015:Code:=sub [1,1,1,1,1,1,1,1] b0
noncomputable def J1000015 ( k:Nat):Kt R:=kAt (cs k) (loopN cs k) [1,1,1,1,1,1,1,1] b0 (K0 k)
abbrev T0:Type:=Int × Int × Int × Int × Int × Bool × Bool × Bool × List Int × List Int
abbrev Y0:=T0→Option R
def s0:T0→St:=fun (a,b,e,j,l,m,o,s,t,u)=>⟨60,0,[(4,.c (.ptr 64000000 0)),(5,.c (.int .i64 a)),(6,.c (.ptr 64000001 0)),(7,.c (.ptr 64000002 0)),(8,.c (.int .i64 b)),(9,.c (.int .i64 e))],[],[(256000000,.gone),(64000000,.box [.int .i64 j,.int .i64 l,.bool m]),(64000001,.box [.bool o,.sl 64000003]),(64000002,.box [.bool s,.sl 64000004]),(64000003,.row (.int .u32) t),(64000004,.row (.int .u32) u)]⟩
noncomputable def l0 ( k n:Nat) (v:T0):Option R:=held (loopN cs n b6 (K6 k) (s0 v))
noncomputable def D0 (v:T0):Option R:=lim fun L=>l0 (L 0) (L 1) v
theorem D0_cn (v:T0):Cn late (D0 v) fun L=>l0 (L 0) (L 1) v:=of_lim
abbrev T1:Type:=Int × Int × Int × Int × Int × Bool
abbrev Y1:=T1→Option R
def s1:T1→St:=fun (a,b,e,j,l,m)=>⟨60,0,[(4,.c (.ptr 64000000 0)),(5,.c (.int .i64 a)),(8,.c (.int .i64 b)),(9,.c (.int .i64 e))],[],[(256000000,.gone),(64000000,.box [.int .i64 j,.int .i64 l,.bool m])]⟩
noncomputable def l1 ( k:Nat) (v:T1):Option R:=held (run (cs k) (loopN cs k) c1000013 (J1000013 k) (s1 v))
noncomputable def D1 (v:T1):Option R:=lim fun L=>l1 (L 0) v
theorem D1_cn (v:T1):Cn late (D1 v) fun L=>l1 (L 0) v:=of_lim
abbrev T2:Type:=Int × Int × Int × Int × Bool
abbrev Y2:=T2→Option R
def s2:T2→St:=fun (a,b,e,j,l)=>⟨60,0,[(4,.c (.ptr 64000000 0)),(8,.c (.int .i64 a)),(9,.c (.int .i64 b))],[],[(256000000,.gone),(64000000,.box [.int .i64 e,.int .i64 j,.bool l])]⟩
noncomputable def l2 ( k:Nat) (v:T2):Option R:=held (run (cs k) (loopN cs k) c1000015 (J1000015 k) (s2 v))
noncomputable def D2 (v:T2):Option R:=lim fun L=>l2 (L 0) v
theorem D2_cn (v:T2):Cn late (D2 v) fun L=>l2 (L 0) v:=of_lim
noncomputable def d0 (p0:g125.Y) (p1:g123.Y) (p2:g132.Y) (p3:Y0) (p4:g125.Y) (p5:g123.Y) (p6:g132.Y) (p7:Y1):Y0:=fun (a,b,e,j,l,m,o,s,t,u) =>
br (decide (1 < wrap .i64 (e - b))) (br (!decide (2 = 0)) (bnd (p0 (wrap .i64 ((wrap .i64 (b + e)).tdiv 2))) fun r=>bnd (p1 (r.1,r.2,o,t)) fun r=>bnd (p2 (r.1,r.2,s,u)) fun r=>br (decide (r ≤ 0)) (p3 (a,wrap .i64 ((wrap .i64 (b + e)).tdiv 2),e,j,l,m,o,s,t,u)) (p3 (a,b,wrap .i64 ((wrap .i64 (b + e)).tdiv 2),j,l,m,o,s,t,u))) none) (bnd (p4 b) fun r=>bnd (p5 (r.1,r.2,o,t)) fun r=>bnd (p6 (r.1,r.2,s,u)) fun r=>br (decide (r = 0)) (p7 (a,b,b,j,l,m)) (p7 (a,b,e,j,l,m)))
theorem d0_cn (k0:Pr E g125.A g125.R) (k1:Pr E g123.A g123.R) (k2:Pr E g132.A g132.R) (k3:Pr E T0 R) (k4:Pr E g125.A g125.R) (k5:Pr E g123.A g123.R) (k6:Pr E g132.A g132.R) (k7:Pr E T1 R):∀ v:T0,Cn E (d0 k0.p k1.p k2.p k3.p k4.p k5.p k6.p k7.p v) fun i=>d0 (k0.q i) (k1.q i) (k2.q i) (k3.q i) (k4.q i) (k5.q i) (k6.q i) (k7.q i) v:=fun (a,b,e,j,l,m,o,s,t,u)=>(.br (.br (.bnd (k0.h _) fun _=>(.bnd (k1.h _) fun _=>(.bnd (k2.h _) fun _=>(.br (k3.h _) (k3.h _))))) .none) (.bnd (k4.h _) fun _=>(.bnd (k5.h _) fun _=>(.bnd (k6.h _) fun _=>(.br (k7.h _) (k7.h _))))))
theorem l0_b ( k m1:Nat):∀ v:T0,run (cs m1) (loopN cs m1) b6 (kLoop cs m1 b6 (K6 k)) (s0 v) = d0 (g125.f m1) (g123.f m1) (g132.f m1) (l0 k m1) (g125.f k) (g123.f k) (g132.f k) (l1 k) v:=fun (a,b,e,j,l,m,o,s,t,u)=>by kernel_rfl
theorem D0_of (v:T0) {r:R} (h:d0 g125.F g123.F g132.F D0 g125.F g123.F g132.F D1 v = some r):D0 v = some r:=loop_of 1 (fun L n hn=>by show l0 (L 0) (L 1) v = _; rw [hn]; exact (held_eq _).trans ((loopN_succ _ _ _ _ _).trans (l0_b (L 0) n v))) (d0_cn (lp g125.f 1) (lp g123.f 1) (lp g132.f 1) (.mk fun v=>(D0_cn v).re [0,1]) (lp g125.f 0) (lp g123.f 0) (lp g132.f 0) (.mk fun v=>(D1_cn v).re [0]) v) h
def d1 (p0:Y2):Y1:=fun (a,b,e,j,l,m) =>
br (decide (a < 0)) (p0 (wrap .i64 (0 - e),wrap .i64 (0 - b),j,l,m)) (p0 (b,e,j,l,m))
theorem d1_cn (k0:Pr E T2 R):∀ v:T1,Cn E (d1 k0.p v) fun i=>d1 (k0.q i) v:=fun (a,b,e,j,l,m)=>(.br (k0.h _) (k0.h _))
theorem l1_b ( k:Nat):∀ v:T1,run (cs k) (loopN cs k) c1000013 (J1000013 k) (s1 v) = d1 (l2 k) v:=fun (a,b,e,j,l,m)=>by kernel_rfl
theorem D1_of (v:T1) {r:R} (h:d1 D2 v = some r):D1 v = some r:=join_of (fun L=>(held_eq _).trans (l1_b (L 0) v)) (d1_cn (.mk fun v=>(D2_cn v).re [0]) v) h
def d2:Y2:=fun (a,b,e,j,l) =>
some (a,b,false)
theorem d2_cn:∀ v:T2,Cn E (d2 v) fun i=>d2 v:=fun (a,b,e,j,l)=>.some
theorem l2_b ( k:Nat):∀ v:T2,run (cs k) (loopN cs k) c1000015 (J1000015 k) (s2 v) = d2 v:=fun (a,b,e,j,l)=>by kernel_rfl
theorem D2_of (v:T2) {r:R} (h:d2 v = some r):D2 v = some r:=join_of (fun L=>(held_eq _).trans (l2_b (L 0) v)) (d2_cn v) h
noncomputable def f (k:Nat):Y:=fun v=>held (runFn cs k Tryz.f85 (sh.args v) (sh.slots v) dec)
noncomputable def F:Y:=lm f
def d (p0:g114.Y) (p1:g115.Y) (p2:g124.Y) (p3:g125.Y) (p4:g123.Y) (p5:Y0):Y:=fun (a,b,e,j,l,m) =>
bnd (p0 (a,b,e,j,l,m)) fun r=>br (!r) (some (0,0,true)) (bnd (p1 (a,b,e,j,l,m)) fun r=>bnd (p2 (a,b,e,j,l,m)) fun r_1=>bnd (p3 r) fun r_2=>bnd (p3 1073741824) fun r_3=>bnd (p4 (r_2.1,r_2.2,r_3.1,r_3.2)) fun r_4=>p5 (r,0,1073741825,0,0,false,r_1.1,r_4.1,r_1.2,r_4.2))
theorem d_cn (k0:Pr E g114.A g114.R) (k1:Pr E g115.A g115.R) (k2:Pr E g124.A g124.R) (k3:Pr E g125.A g125.R) (k4:Pr E g123.A g123.R) (k5:Pr E T0 R):∀ v:A,Cn E (d k0.p k1.p k2.p k3.p k4.p k5.p v) fun i=>d (k0.q i) (k1.q i) (k2.q i) (k3.q i) (k4.q i) (k5.q i) v:=fun (a,b,e,j,l,m)=>(.bnd (k0.h _) fun _=>(.br .some (.bnd (k1.h _) fun _=>(.bnd (k2.h _) fun _=>(.bnd (k3.h _) fun _=>(.bnd (k3.h _) fun _=>(.bnd (k4.h _) fun _=>(k5.h _))))))))
theorem f_b (k:Nat):∀ v:A,f k v = d (g114.f k) (g115.f k) (g124.f k) (g125.f k) (g123.f k) (l0 k k) v:=fun (a,b,e,j,l,m)=>(held_eq _).trans (by kernel_rfl)
theorem F_of (v:A) {r:R} (h:d g114.F g115.F g124.F g125.F g123.F D0 v = some r):F v = some r:=join_of (fun L=>f_b (L 0) v) (d_cn (lp g114.f 0) (lp g115.f 0) (lp g124.f 0) (lp g125.f 0) (lp g123.f 0) (.mk fun v=>(D0_cn v).re [0,0]) v) h
noncomputable def spec (k:Nat):List AV→List Slot→Option Ans:=specS sh os (f k)
theorem spec_ok (k:Nat):SpecOk Tryz.prog 85 (spec k):=specS_ok cs_ok Tryz.func85 rfl rfl (fun _ _=>held_eq _) k
end g133
noncomputable def tg133:=tg132.cons 85 g133.spec g133.spec_ok
namespace g134 -- window_why
abbrev R:Type:=Int
abbrev A:Type:=Int × Int × Int × Int × Int × Int × Int × Int × Int × Int × Int × Int × Int × Int × Int × Int × List Int × Int × Int × Int × Int × Int × Int × Int × Int × Int × Int × Int × Int × Int × Int
abbrev Y:=A→Option R
def lv:List (Nat × List Nat):=[(2000000,[6])]
noncomputable def cs:Nat→Ctx:=ctxOf tis modes tg133.1 lv
theorem cs_ok (n:Nat):CtxOk Tryz.prog (cs n):=ctxOf_ok rfl tis_ok tg133.2 n
def sh:AS:=⟨[.agg [.int .i64,.int .i64,.int .i64,.int .i64,.int .i64,.int .i64,.int .i64,.int .i64,.int .i64,.int .i64,.int .i64,.int .i64,.int .i64,.int .i64,.int .i64,.int .i64,.frz (.int .i64)],.agg [.int .i64,.int .i64,.int .i64,.int .i64,.int .i64,.int .i64,.int .i64,.int .i64,.int .i64,.int .i64,.int .i64,.int .i64,.int .i64],.c (.int .i64)],[]⟩
def os:OS:=⟨.c (.int .i64),[]⟩
def enc (r:R):Out:=os.enc r
def dec:Out→Option R:=os.dec
noncomputable def b0:Code:=subF [] Tryz.f53
noncomputable def K0 (k:Nat):Kt R:=kTop (cs k) Tryz.f53 dec
noncomputable def f (k:Nat):Y:=fun v=>held (runFn cs k Tryz.f53 (sh.args v) (sh.slots v) dec)
noncomputable def F:Y:=lm f
noncomputable def d (p0:g112.Y) (p1:g110.Y) (p2:g113.Y) (p3:g133.Y) (p4:g111.Y):Y:=fun (a,b,e,j,l,m,o,s,t,u,w,x,y,z,B,C,D,G,H,I,J,K,P,N,O,T,S,Q,M,V,X) =>
bnd (p0 (a,b,e,j,l,m,o,s,t,u,w,x,y,z,B,C,D,X)) fun r=>br (!r) (some 1) (br (decide (0 ≤ X ∧ X < (↑D.length:Int))) (br (decide (M < rd (Ty.int .i64) D X)) (some 2) (bnd (p1 (a,b,e,j,l,m,o,s,t,u,w,x,y,z,B,C,D,I,J,K,X)) fun r=>bnd (p2 (r.1,r.2.1,r.2.2,S)) fun r=>br (!r) (some 3) (bnd (p3 (I,J,K,y,z,B)) fun r=>bnd (p4 (r.1,r.2.1,r.2.2,Q)) fun r=>br ((!r) == true) (br ((!r) == true) (br ((!r) == true) (bnd (p1 (a,b,e,j,l,m,o,s,t,u,w,x,y,z,B,C,D,y,z,B,X)) fun r_1=>br ((!r) == true) (bnd (p4 (r_1.1,r_1.2.1,r_1.2.2,-1)) fun r_2=>br (!r && !r_2) (some 4) (some 0)) (br (!(!r) == true) (br (!!r) (some 0) none) none)) (br ((!r) == true) none (br (!(!r) == true) (br (!!r) (some 0) none) none))) (br ((!r) == true) none (br ((!r) == true) none (br (!(!r) == true) (br (!!r) (some 0) none) none)))) (br ((!r) == true) (br ((!r) == true) none (br ((!r) == true) none (br (!(!r) == true) (br (!!r) (some 0) none) none))) (br ((!r) == true) none (br ((!r) == true) none (br (!(!r) == true) (br (!!r) (some 0) none) none))))))) none)
theorem d_cn (k0:Pr E g112.A g112.R) (k1:Pr E g110.A g110.R) (k2:Pr E g113.A g113.R) (k3:Pr E g133.A g133.R) (k4:Pr E g111.A g111.R):∀ v:A,Cn E (d k0.p k1.p k2.p k3.p k4.p v) fun i=>d (k0.q i) (k1.q i) (k2.q i) (k3.q i) (k4.q i) v:=fun (a,b,e,j,l,m,o,s,t,u,w,x,y,z,B,C,D,G,H,I,J,K,P,N,O,T,S,Q,M,V,X)=>(.bnd (k0.h _) fun _=>(.br .some (.br (.br .some (.bnd (k1.h _) fun _=>(.bnd (k2.h _) fun _=>(.br .some (.bnd (k3.h _) fun _=>(.bnd (k4.h _) fun _=>(.br (.br (.br (.bnd (k1.h _) fun _=>(.br (.bnd (k4.h _) fun _=>(.br .some .some)) (.br (.br .some .none) .none))) (.br .none (.br (.br .some .none) .none))) (.br .none (.br .none (.br (.br .some .none) .none)))) (.br (.br .none (.br .none (.br (.br .some .none) .none))) (.br .none (.br .none (.br (.br .some .none) .none))))))))))) .none)))
theorem f_b (k:Nat):∀ v:A,f k v = d (g112.f k) (g110.f k) (g113.f k) (g133.f k) (g111.f k) v:=fun (a,b,e,j,l,m,o,s,t,u,w,x,y,z,B,C,D,G,H,I,J,K,P,N,O,T,S,Q,M,V,X)=>(held_eq _).trans (by kernel_rfl)
theorem F_of (v:A) {r:R} (h:d g112.F g110.F g113.F g133.F g111.F v = some r):F v = some r:=join_of (fun L=>f_b (L 0) v) (d_cn (lp g112.f 0) (lp g110.f 0) (lp g113.f 0) (lp g133.f 0) (lp g111.f 0) v) h
noncomputable def spec (k:Nat):List AV→List Slot→Option Ans:=specS sh os (f k)
theorem spec_ok (k:Nat):SpecOk Tryz.prog 53 (spec k):=specS_ok cs_ok Tryz.func53 rfl rfl (fun _ _=>held_eq _) k
end g134
noncomputable def tg134:=tg133.cons 53 g134.spec g134.spec_ok
namespace g135 -- window_Slots
abbrev R:Type:=Int × List Int
abbrev A:Type:=Int × Int × Int × Int × Int × Int × Int × Int × Int × Int × Int × Int × Int × Int × Int × Int × List Int × Int × Int × Int × Int × Int × Int × Int × Int × Int × Int × Int × Int × Int
abbrev Y:=A→Option R
def lv:List (Nat × List Nat):=[(2000000,[4,5]),(6,[2,3,7,19,20])]
noncomputable def cs:Nat→Ctx:=ctxOf tis modes tg134.1 lv
theorem cs_ok (n:Nat):CtxOk Tryz.prog (cs n):=ctxOf_ok rfl tis_ok tg134.2 n
def sh:AS:=⟨[.agg [.int .i64,.int .i64,.int .i64,.int .i64,.int .i64,.int .i64,.int .i64,.int .i64,.int .i64,.int .i64,.int .i64,.int .i64,.int .i64,.int .i64,.int .i64,.int .i64,.frz (.int .i64)],.agg [.int .i64,.int .i64,.int .i64,.int .i64,.int .i64,.int .i64,.int .i64,.int .i64,.int .i64,.int .i64,.int .i64,.int .i64,.int .i64]],[]⟩
def os:OS:=⟨.tup [.c (.sl 128000000),.c (.int .i64)],[(.row (.int .i64))]⟩
def enc (r:R):Out:=os.enc r
def dec:Out→Option R:=os.dec
noncomputable def b0:Code:=subF [] Tryz.f60
noncomputable def K0 (k:Nat):Kt R:=kTop (cs k) Tryz.f60 dec
noncomputable def b6:Code:=sub [1,1,1,0,1,0,0] b0
noncomputable def K6 ( k:Nat):Kt R:=kAt (cs k) (loopN cs k) [1,1,1,0,1,0] b0 (K0 k)
abbrev T0:Type:=Int × Int × Int × Int × Int × Int × Int × Int × Int × Int × Int × Int × Int × Int × Int × Int × Int × Int × List Int × Int × Int × Int × Int × Int × Int × Int × Int × Int × Int × Int × Int × Int × List Int
abbrev Y0:=T0→Option R
noncomputable def s0:T0→St:=fun (a,b,e,j,l,m,o,s,t,u,w,x,y,z,B,C,D,G,H,I,J,K,P,N,O,T,S,Q,M,V,X,W,U)=>⟨32,0,[(2,.c (.ptr 64000000 0)),(3,.c (.ptr 64000001 0)),(7,.c (.sl 64000002)),(19,.c (.int .i64 a)),(20,.c (.int .i64 b))],[],[(256000000,.gone),(64000000,.box [.int .i64 e,.int .i64 j,.int .i64 l,.int .i64 m,.int .i64 o,.int .i64 s,.int .i64 t,.int .i64 u,.int .i64 w,.int .i64 x,.int .i64 y,.int .i64 z,.int .i64 B,.int .i64 C,.int .i64 D,.int .i64 G,.frz (.int .i64) H]),(64000001,.box [.int .i64 I,.int .i64 J,.int .i64 K,.int .i64 P,.int .i64 N,.int .i64 O,.int .i64 T,.int .i64 S,.int .i64 Q,.int .i64 M,.int .i64 V,.int .i64 X,.int .i64 W]),(64000002,.row (.int .i64) U)]⟩
noncomputable def l0 ( k n:Nat) (v:T0):Option R:=held (loopN cs n b6 (K6 k) (s0 v))
noncomputable def D0 (v:T0):Option R:=lim fun L=>l0 (L 0) (L 1) v
theorem D0_cn (v:T0):Cn late (D0 v) fun L=>l0 (L 0) (L 1) v:=of_lim
def d0 (p0:g134.Y) (p1:Y0):Y0:=fun (a,b,e,j,l,m,o,s,t,u,w,x,y,z,B,C,D,G,H,I,J,K,P,N,O,T,S,Q,M,V,X,W,U) =>
br (decide (b < a)) (bnd (p0 (e,j,l,m,o,s,t,u,w,x,y,z,B,C,D,G,H,I,J,K,P,N,O,T,S,Q,M,V,X,W,b)) fun r=>br (decide (0 ≤ b ∧ b < (↑U.length:Int))) (p1 (a,wrap .i64 (b + 1),e,j,l,m,o,s,t,u,w,x,y,z,B,C,D,G,H,I,J,K,P,N,O,T,S,Q,M,V,X,W,U.set b.toNat r)) none) (some (0,U))
theorem d0_cn (k0:Pr E g134.A g134.R) (k1:Pr E T0 R):∀ v:T0,Cn E (d0 k0.p k1.p v) fun i=>d0 (k0.q i) (k1.q i) v:=fun (a,b,e,j,l,m,o,s,t,u,w,x,y,z,B,C,D,G,H,I,J,K,P,N,O,T,S,Q,M,V,X,W,U)=>(.br (.bnd (k0.h _) fun _=>(.br (k1.h _) .none)) .some)
theorem l0_b ( k m1:Nat):∀ v:T0,run (cs m1) (loopN cs m1) b6 (kLoop cs m1 b6 (K6 k)) (s0 v) = d0 (g134.f m1) (l0 k m1) v:=fun (a,b,e,j,l,m,o,s,t,u,w,x,y,z,B,C,D,G,H,I,J,K,P,N,O,T,S,Q,M,V,X,W,U)=>by kernel_rfl
theorem D0_of (v:T0) {r:R} (h:d0 g134.F D0 v = some r):D0 v = some r:=loop_of 1 (fun L n hn=>by show l0 (L 0) (L 1) v = _; rw [hn]; exact (held_eq _).trans ((loopN_succ _ _ _ _ _).trans (l0_b (L 0) n v))) (d0_cn (lp g134.f 1) (.mk fun v=>(D0_cn v).re [0,1]) v) h
noncomputable def f (k:Nat):Y:=fun v=>held (runFn cs k Tryz.f60 (sh.args v) (sh.slots v) dec)
noncomputable def F:Y:=lm f
def d (p0:g47.Y) (p1:Y0):Y:=fun (a,b,e,j,l,m,o,s,t,u,w,x,y,z,B,C,D,G,H,I,J,K,P,N,O,T,S,Q,M,V) =>
bnd (p0 (a,b,e,j,l,m,o,s,t,u,w,x,y,z,B,C,D,G,H,I,J,K,P,N,O,T,S,Q,M,V)) fun r=>br (!decide (r = 0)) (some (r,[])) (br (decide (0 ≤ t ∧ t ≤ t ∧ t ≤ (↑(140737488355328 / 8):Int))) (p1 ((↑(List.replicate t.toNat (Ty.int .i64).dflt).length:Int),0,a,b,e,j,l,m,o,s,t,u,w,x,y,z,B,C,D,G,H,I,J,K,P,N,O,T,S,Q,M,V,List.replicate t.toNat (Ty.int .i64).dflt)) none)
theorem d_cn (k0:Pr E g47.A g47.R) (k1:Pr E T0 R):∀ v:A,Cn E (d k0.p k1.p v) fun i=>d (k0.q i) (k1.q i) v:=fun (a,b,e,j,l,m,o,s,t,u,w,x,y,z,B,C,D,G,H,I,J,K,P,N,O,T,S,Q,M,V)=>(.bnd (k0.h _) fun _=>(.br .some (.br (k1.h _) .none)))
theorem f_b (k:Nat):∀ v:A,f k v = d (g47.f k) (l0 k k) v:=fun (a,b,e,j,l,m,o,s,t,u,w,x,y,z,B,C,D,G,H,I,J,K,P,N,O,T,S,Q,M,V)=>(held_eq _).trans (by kernel_rfl)
theorem F_of (v:A) {r:R} (h:d g47.F D0 v = some r):F v = some r:=join_of (fun L=>f_b (L 0) v) (d_cn (lp g47.f 0) (.mk fun v=>(D0_cn v).re [0,0]) v) h
noncomputable def spec (k:Nat):List AV→List Slot→Option Ans:=specS sh os (f k)
theorem spec_ok (k:Nat):SpecOk Tryz.prog 60 (spec k):=specS_ok cs_ok Tryz.func60 rfl rfl (fun _ _=>held_eq _) k
end g135
noncomputable def tg135:=tg134.cons 60 g135.spec g135.spec_ok
namespace g136 -- scale_angle
abbrev R:Type:=Int
abbrev A:Type:=Int × Int × Int × Int × Int
abbrev Y:=A→Option R
def lv:List (Nat × List Nat):=[(2000000,[4])]
noncomputable def cs:Nat→Ctx:=ctxOf tis modes tg135.1 lv
theorem cs_ok (n:Nat):CtxOk Tryz.prog (cs n):=ctxOf_ok rfl tis_ok tg135.2 n
def sh:AS:=⟨[.agg [.int .i64,.int .i64,.int .i64,.int .i64],.c (.int .i64)],[]⟩
def os:OS:=⟨.c (.int .i64),[]⟩
def enc (r:R):Out:=os.enc r
def dec:Out→Option R:=os.dec
noncomputable def b0:Code:=subF [] Tryz.f118
noncomputable def K0 (k:Nat):Kt R:=kTop (cs k) Tryz.f118 dec
noncomputable def f (k:Nat):Y:=fun v=>held (runFn cs k Tryz.f118 (sh.args v) (sh.slots v) dec)
noncomputable def F:Y:=lm f
def d (p0:g63.Y):Y:=fun (a,b,e,j,l) =>
bnd (p0 (wrap .i64 (l - a),e,j)) fun r=>some (wrap .i64 (r.1 + b))
theorem d_cn (k0:Pr E g63.A g63.R):∀ v:A,Cn E (d k0.p v) fun i=>d (k0.q i) v:=fun (a,b,e,j,l)=>(.bnd (k0.h _) fun _=>.some)
theorem f_b (k:Nat):∀ v:A,f k v = d (g63.f k) v:=fun (a,b,e,j,l)=>(held_eq _).trans (by kernel_rfl)
theorem F_of (v:A) {r:R} (h:d g63.F v = some r):F v = some r:=join_of (fun L=>f_b (L 0) v) (d_cn (lp g63.f 0) v) h
noncomputable def spec (k:Nat):List AV→List Slot→Option Ans:=specS sh os (f k)
theorem spec_ok (k:Nat):SpecOk Tryz.prog 118 (spec k):=specS_ok cs_ok Tryz.func118 rfl rfl (fun _ _=>held_eq _) k
end g136
noncomputable def tg136:=tg135.cons 118 g136.spec g136.spec_ok
namespace g137 -- num_Mod
abbrev R:Type:=Int
abbrev A:Type:=Int × Int
abbrev Y:=A→Option R
def lv:List (Nat × List Nat):=[(2000000,[4]),(1000006,[5])]
noncomputable def cs:Nat→Ctx:=ctxOf tis modes tg136.1 lv
theorem cs_ok (n:Nat):CtxOk Tryz.prog (cs n):=ctxOf_ok rfl tis_ok tg136.2 n
def sh:AS:=⟨[.c (.int .i64),.c (.int .i64)],[]⟩
def os:OS:=⟨.c (.int .i64),[]⟩
def enc (r:R):Out:=os.enc r
def dec:Out→Option R:=os.dec
noncomputable def b0:Code:=subF [] Tryz.f117
noncomputable def K0 (k:Nat):Kt R:=kTop (cs k) Tryz.f117 dec
noncomputable def c1000006:Code:=sub [1,1,1,1] b0
noncomputable def J1000006 ( k:Nat):Kt R:=kAt (cs k) (loopN cs k) [1,1,1,1] b0 (K0 k)
abbrev T0:Type:=Int
abbrev Y0:=T0→Option R
def s0:T0→St:=fun a=>⟨17,0,[(5,.c (.int .i64 a))],[],[(256000000,.gone)]⟩
noncomputable def l0 ( k:Nat) (v:T0):Option R:=held (run (cs k) (loopN cs k) c1000006 (J1000006 k) (s0 v))
noncomputable def D0 (v:T0):Option R:=lim fun L=>l0 (L 0) v
theorem D0_cn (v:T0):Cn late (D0 v) fun L=>l0 (L 0) v:=of_lim
def d0:Y0:=fun a =>
some a
theorem d0_cn:∀ v:T0,Cn E (d0 v) fun i=>d0 v:=fun a=>.some
theorem l0_b ( k:Nat):∀ v:T0,run (cs k) (loopN cs k) c1000006 (J1000006 k) (s0 v) = d0 v:=fun a=>by kernel_rfl
theorem D0_of (v:T0) {r:R} (h:d0 v = some r):D0 v = some r:=join_of (fun L=>(held_eq _).trans (l0_b (L 0) v)) (d0_cn v) h
noncomputable def f (k:Nat):Y:=fun v=>held (runFn cs k Tryz.f117 (sh.args v) (sh.slots v) dec)
noncomputable def F:Y:=lm f
def d (p0:Y0):Y:=fun (a,b) =>
br (decide (b < 1)) (some 0) (br (!decide (b = 0)) (br (decide (a.tmod b < 0)) (p0 (wrap .i64 (a.tmod b + b))) (p0 (a.tmod b))) none)
theorem d_cn (k0:Pr E T0 R):∀ v:A,Cn E (d k0.p v) fun i=>d (k0.q i) v:=fun (a,b)=>(.br .some (.br (.br (k0.h _) (k0.h _)) .none))
theorem f_b (k:Nat):∀ v:A,f k v = d (l0 k) v:=fun (a,b)=>(held_eq _).trans (by kernel_rfl)
theorem F_of (v:A) {r:R} (h:d D0 v = some r):F v = some r:=join_of (fun L=>f_b (L 0) v) (d_cn (.mk fun v=>(D0_cn v).re [0]) v) h
noncomputable def spec (k:Nat):List AV→List Slot→Option Ans:=specS sh os (f k)
theorem spec_ok (k:Nat):SpecOk Tryz.prog 117 (spec k):=specS_ok cs_ok Tryz.func117 rfl rfl (fun _ _=>held_eq _) k
end g137
noncomputable def tg137:=tg136.cons 117 g137.spec g137.spec_ok
namespace g138 -- scale_Angle
abbrev R:Type:=Int
abbrev A:Type:=Int × Int × Int × Int × Int
abbrev Y:=A→Option R
def lv:List (Nat × List Nat):=[(2000000,[4])]
noncomputable def cs:Nat→Ctx:=ctxOf tis modes tg137.1 lv
theorem cs_ok (n:Nat):CtxOk Tryz.prog (cs n):=ctxOf_ok rfl tis_ok tg137.2 n
def sh:AS:=⟨[.agg [.int .i64,.int .i64,.int .i64,.int .i64],.c (.int .i64)],[]⟩
def os:OS:=⟨.c (.int .i64),[]⟩
def enc (r:R):Out:=os.enc r
def dec:Out→Option R:=os.dec
noncomputable def b0:Code:=subF [] Tryz.f88
noncomputable def K0 (k:Nat):Kt R:=kTop (cs k) Tryz.f88 dec
noncomputable def f (k:Nat):Y:=fun v=>held (runFn cs k Tryz.f88 (sh.args v) (sh.slots v) dec)
noncomputable def F:Y:=lm f
def d (p0:g19.Y) (p1:g136.Y) (p2:g137.Y):Y:=fun (a,b,e,j,l) =>
bnd (p0 (a,b,e,j)) fun r=>br (!decide (r = 0) || decide (l < -17592186044416) || decide (17592186044416 < l)) (some 0) (bnd (p1 (a,b,e,j,l)) fun r=>bnd (p2 (r,4294967296)) fun r=>some r)
theorem d_cn (k0:Pr E g19.A g19.R) (k1:Pr E g136.A g136.R) (k2:Pr E g137.A g137.R):∀ v:A,Cn E (d k0.p k1.p k2.p v) fun i=>d (k0.q i) (k1.q i) (k2.q i) v:=fun (a,b,e,j,l)=>(.bnd (k0.h _) fun _=>(.br .some (.bnd (k1.h _) fun _=>(.bnd (k2.h _) fun _=>.some))))
theorem f_b (k:Nat):∀ v:A,f k v = d (g19.f k) (g136.f k) (g137.f k) v:=fun (a,b,e,j,l)=>(held_eq _).trans (by kernel_rfl)
theorem F_of (v:A) {r:R} (h:d g19.F g136.F g137.F v = some r):F v = some r:=join_of (fun L=>f_b (L 0) v) (d_cn (lp g19.f 0) (lp g136.f 0) (lp g137.f 0) v) h
noncomputable def spec (k:Nat):List AV→List Slot→Option Ans:=specS sh os (f k)
theorem spec_ok (k:Nat):SpecOk Tryz.prog 88 (spec k):=specS_ok cs_ok Tryz.func88 rfl rfl (fun _ _=>held_eq _) k
end g138
noncomputable def tg138:=tg137.cons 88 g138.spec g138.spec_ok
end Go.Proofs.RPn
