import Derived.Test.YtjamelcidejnfaaEC
import Derived.Test.YtjamelcidejnfaaProg
namespace Go.Proofs.RSl
open Go Go.Eng Go.Proofs
set_option maxRecDepth 100000
set_option linter.unusedVariables false
abbrev y0:Ty:=.pair .bool (.int .u8)
abbrev y1:Ty:=.pair (.int .i64) y0
abbrev y2:Ty:=.pair (.int .i64) y1
abbrev y3:Ty:=.pair .str (.int .u64)
abbrev y4:Ty:=.slice (.int .i64)
abbrev y5:Ty:=.pair y4 (.int .i64)
abbrev y6:Ty:=.pair (.int .i64) (.int .i64)
abbrev y7:Ty:=.pair (.int .i64) y6
abbrev y8:Ty:=.pair (.int .i64) y7
abbrev y9:Ty:=.pair (.int .i64) y4
abbrev y10:Ty:=.pair y7 y9
abbrev y11:Ty:=.pair y7 y10
abbrev y12:Ty:=.pair (.int .i64) y11
abbrev y13:Ty:=.pair (.int .i64) y12
abbrev y14:Ty:=.pair (.int .i64) y13
abbrev y15:Ty:=.pair y8 y14
abbrev y16:Ty:=.pair y6 y15
abbrev y17:Ty:=.pair y8 y6
abbrev y18:Ty:=.pair y8 y17
abbrev y19:Ty:=.slice y6
abbrev y20:Ty:=.pair (.int .i64) (.int .u64)
abbrev y21:Ty:=.pair .ptr .str
abbrev y22:Ty:=.pair .ptr y21
abbrev y23:Ty:=.pair .ptr y22
abbrev y24:Ty:=.pair (.int .i32) (.int .i32)
abbrev y25:Ty:=.pair .ptr y24
abbrev y26:Ty:=.pair .func y25
abbrev y27:Ty:=.pair (.int .u8) y26
abbrev y28:Ty:=.pair (.int .u8) y27
abbrev y29:Ty:=.pair (.int .u8) y28
abbrev y30:Ty:=.pair (.int .u8) y29
abbrev y31:Ty:=.pair (.int .u32) y30
abbrev y32:Ty:=.pair (.int .u64) y31
abbrev y33:Ty:=.pair (.int .u64) y32
abbrev y34:Ty:=.pair .func y4
def tis:List (Nat × TI):=[(0,⟨.true,.other,.false,0,[],.false,[],none,[]⟩),(1,⟨.true,.func,.false,8,[],.false,[],none,[]⟩),(2,⟨.true,.int .i64,.false,8,[],.false,[],none,[]⟩),(3,⟨.true,.int .i64,.false,8,[],.false,[],none,[]⟩),(4,⟨.true,.bool,.false,1,[],.false,[],none,[]⟩),(5,⟨.true,.int .u8,.false,1,[],.false,[],none,[]⟩),(6,⟨.true,.int .u8,.false,1,[],.false,[],none,[]⟩),(7,⟨.true,y2,.true,24,[(0,1),(1,1),(2,1),(3,1)],.true,[(some .false),(some .false),(some .false),(some .false)],none,[]⟩),(8,⟨.true,y2,.true,24,[(0,1),(1,1),(2,1),(3,1)],.true,[(some .false),(some .false),(some .false),(some .false)],none,[]⟩),(9,⟨.true,.str,.false,16,[],.false,[],none,[]⟩),(10,⟨.true,.str,.false,16,[],.false,[],none,[]⟩),(11,⟨.true,.str,.false,16,[],.false,[],none,[]⟩),(12,⟨.true,.int .u64,.false,8,[],.false,[],none,[]⟩),(13,⟨.true,y3,.true,24,[(0,1),(1,1)],.false,[(some .false),(some .false)],none,[]⟩),(14,⟨.true,y3,.true,24,[(0,1),(1,1)],.false,[(some .false),(some .false)],none,[]⟩),(15,⟨.true,.ptr,.false,8,[],.false,[],none,[]⟩),(16,⟨.true,.ptr,.false,8,[],.false,[],none,[]⟩),(17,⟨.true,.ptr,.false,8,[],.false,[],none,[]⟩),(18,⟨.true,.pair .ptr .unit,.true,8,[(0,1)],.false,[(some .false)],none,[]⟩),(19,⟨.true,.pair .ptr .unit,.true,8,[(0,1)],.false,[(some .false)],none,[]⟩),(20,⟨.true,.other,.false,16,[],.false,[],none,[]⟩),(21,⟨.true,.int .i32,.false,4,[],.false,[],none,[]⟩),(22,⟨.true,y4,.false,8,[],.false,[],none,[]⟩),(23,⟨.true,.func,.false,8,[],.false,[],none,[]⟩),(24,⟨.true,.ptr,.false,8,[],.false,[],none,[]⟩),(25,⟨.true,y5,.true,32,[(0,1),(1,1)],.false,[(some .false),(some .false)],none,[]⟩),(26,⟨.true,y5,.true,32,[(0,1),(1,1)],.false,[(some .false),(some .false)],none,[]⟩),(27,⟨.true,.int .i64,.false,8,[],.false,[],none,[]⟩),(28,⟨.true,y6,.true,16,[(0,1),(1,1)],.true,[(some .false),(some .false)],none,[]⟩),(29,⟨.true,y6,.true,16,[(0,1),(1,1)],.true,[(some .false),(some .false)],none,[]⟩),(30,⟨.true,.int .i64,.false,8,[],.false,[],none,[]⟩),(31,⟨.true,y6,.true,16,[(0,1),(1,1)],.true,[(some .false),(some .false)],none,[]⟩),(32,⟨.true,y6,.true,16,[(0,1),(1,1)],.true,[(some .false),(some .false)],none,[]⟩),(33,⟨.true,y8,.true,32,[(0,1),(1,1),(2,2)],.true,[(some .false),(some .false),(some .true)],none,[]⟩),(34,⟨.true,y8,.true,32,[(0,1),(1,1),(2,2)],.true,[(some .false),(some .false),(some .true)],none,[]⟩),(35,⟨.true,y7,.true,24,[(0,1),(1,1),(2,1)],.true,[(some .false),(some .false),(some .false)],none,[]⟩),(36,⟨.true,y7,.true,24,[(0,1),(1,1),(2,1)],.true,[(some .false),(some .false),(some .false)],none,[]⟩),(37,⟨.true,.int .i64,.false,8,[],.false,[],none,[]⟩),(38,⟨.true,y16,.true,152,[(0,2),(2,4),(6,1),(7,1),(8,1),(9,3),(12,3),(15,1),(16,1)],.false,[(some .true),(some .true),(some .false),(some .false),(some .false),(some .true),(some .true),(some .false),(some .false)],none,[]⟩),(39,⟨.true,y16,.true,152,[(0,2),(2,4),(6,1),(7,1),(8,1),(9,3),(12,3),(15,1),(16,1)],.false,[(some .true),(some .true),(some .false),(some .false),(some .false),(some .true),(some .true),(some .false),(some .false)],none,[]⟩),(40,⟨.true,.func,.false,8,[],.false,[],none,[]⟩),(41,⟨.true,y8,.true,32,[(0,1),(1,1),(2,1),(3,1)],.true,[(some .false),(some .false),(some .false),(some .false)],none,[]⟩),(42,⟨.true,y8,.true,32,[(0,1),(1,1),(2,1),(3,1)],.true,[(some .false),(some .false),(some .false),(some .false)],none,[]⟩),(43,⟨.true,y6,.true,16,[(0,1),(1,1)],.true,[(some .false),(some .false)],none,[]⟩),(44,⟨.true,y6,.true,16,[(0,1),(1,1)],.true,[(some .false),(some .false)],none,[]⟩),(45,⟨.true,y18,.true,80,[(0,4),(4,4),(8,2)],.true,[(some .true),(some .true),(some .true)],none,[]⟩),(46,⟨.true,y18,.true,80,[(0,4),(4,4),(8,2)],.true,[(some .true),(some .true),(some .true)],none,[]⟩),(47,⟨.true,.func,.false,8,[],.false,[],none,[]⟩),(48,⟨.true,.func,.false,8,[],.false,[],none,[]⟩),(49,⟨.true,.func,.false,8,[],.false,[],none,[]⟩),(50,⟨.true,.func,.false,8,[],.false,[],none,[]⟩),(51,⟨.true,.int .i64,.false,8,[],.false,[],none,[]⟩),(52,⟨.true,.other,.false,0,[],.false,[],none,[]⟩),(53,⟨.true,.func,.false,8,[],.false,[],none,[]⟩),(54,⟨.true,.other,.false,0,[],.false,[],none,[]⟩),(55,⟨.true,.func,.false,8,[],.false,[],none,[]⟩),(56,⟨.true,.func,.false,8,[],.false,[],none,[]⟩),(57,⟨.true,.func,.false,8,[],.false,[],none,[]⟩),(58,⟨.true,.other,.false,0,[],.false,[],none,[]⟩),(59,⟨.true,.func,.false,8,[],.false,[],none,[]⟩),(60,⟨.true,.other,.false,0,[],.false,[],none,[]⟩),(61,⟨.true,.func,.false,8,[],.false,[],none,[]⟩),(62,⟨.true,.func,.false,8,[],.false,[],none,[]⟩),(63,⟨.true,y19,.false,16,[],.false,[],none,[]⟩),(64,⟨.true,.func,.false,8,[],.false,[],none,[]⟩),(65,⟨.true,.func,.false,8,[],.false,[],none,[]⟩),(66,⟨.true,.func,.false,8,[],.false,[],none,[]⟩),(67,⟨.true,.func,.false,8,[],.false,[],none,[]⟩),(68,⟨.true,.int .u64,.false,8,[],.false,[],none,[]⟩),(69,⟨.true,.func,.false,8,[],.false,[],none,[]⟩),(70,⟨.true,.func,.false,8,[],.false,[],none,[]⟩),(71,⟨.true,.func,.false,8,[],.false,[],none,[]⟩),(72,⟨.true,.func,.false,8,[],.false,[],none,[]⟩),(73,⟨.true,.func,.false,8,[],.false,[],none,[]⟩),(74,⟨.true,.func,.false,8,[],.false,[],none,[]⟩),(75,⟨.true,.func,.false,8,[],.false,[],none,[]⟩),(76,⟨.true,.func,.false,8,[],.false,[],none,[]⟩),(77,⟨.true,.func,.false,8,[],.false,[],none,[]⟩),(78,⟨.true,.int .i64,.false,8,[],.false,[],none,[]⟩),(79,⟨.true,.other,.false,0,[],.false,[],none,[]⟩),(80,⟨.true,.func,.false,8,[],.false,[],none,[]⟩),(81,⟨.true,.func,.false,8,[],.false,[],none,[]⟩),(82,⟨.true,.func,.false,8,[],.false,[],none,[]⟩),(83,⟨.true,.func,.false,8,[],.false,[],none,[]⟩),(84,⟨.true,.other,.false,0,[],.false,[],none,[]⟩),(85,⟨.true,.func,.false,8,[],.false,[],none,[]⟩),(86,⟨.true,.func,.false,8,[],.false,[],none,[]⟩),(87,⟨.true,.int .u32,.false,4,[],.false,[],none,[]⟩),(88,⟨.true,.func,.false,8,[],.false,[],none,[]⟩),(89,⟨.true,.int .u64,.false,8,[],.false,[],none,[]⟩),(90,⟨.true,.func,.false,8,[],.false,[],none,[]⟩),(91,⟨.true,.func,.false,8,[],.false,[],none,[]⟩),(92,⟨.true,.func,.false,8,[],.false,[],none,[]⟩),(93,⟨.true,.func,.false,8,[],.false,[],none,[]⟩),(94,⟨.true,.func,.false,8,[],.false,[],none,[]⟩),(95,⟨.true,.func,.false,8,[],.false,[],none,[]⟩),(96,⟨.true,.func,.false,8,[],.false,[],none,[]⟩),(97,⟨.true,.func,.false,8,[],.false,[],none,[]⟩),(98,⟨.true,.func,.false,8,[],.false,[],none,[]⟩),(99,⟨.true,.func,.false,8,[],.false,[],none,[]⟩),(100,⟨.true,.other,.false,0,[],.false,[],none,[]⟩),(101,⟨.true,.func,.false,8,[],.false,[],none,[]⟩),(102,⟨.true,.int .u64,.false,8,[],.false,[],none,[]⟩),(103,⟨.true,.func,.false,8,[],.false,[],none,[]⟩),(104,⟨.true,.func,.false,8,[],.false,[],none,[]⟩),(105,⟨.true,.func,.false,8,[],.false,[],none,[]⟩),(106,⟨.true,.ptr,.false,8,[],.false,[],none,[]⟩),(107,⟨.true,.func,.false,8,[],.false,[],none,[]⟩),(108,⟨.true,.func,.false,8,[],.false,[],none,[]⟩),(109,⟨.true,.func,.false,8,[],.false,[],none,[]⟩),(110,⟨.true,.func,.false,8,[],.false,[],none,[]⟩),(111,⟨.true,.func,.false,8,[],.false,[],none,[]⟩),(112,⟨.true,.func,.false,8,[],.false,[],none,[]⟩),(113,⟨.true,y4,.false,8,[],.false,[],none,[]⟩),(114,⟨.true,.func,.false,8,[],.false,[],none,[]⟩),(115,⟨.true,.ptr,.false,8,[],.false,[],none,[]⟩),(116,⟨.true,.other,.false,0,[],.false,[],none,[]⟩),(117,⟨.true,.func,.false,8,[],.false,[],none,[]⟩),(118,⟨.true,.func,.false,8,[],.false,[],none,[]⟩),(119,⟨.true,y20,.true,16,[(0,1),(1,1)],.true,[(some .false),(some .false)],none,[]⟩),(120,⟨.true,y20,.true,16,[(0,1),(1,1)],.true,[(some .false),(some .false)],none,[]⟩),(121,⟨.true,.func,.false,8,[],.false,[],none,[]⟩),(122,⟨.true,.func,.false,8,[],.false,[],none,[]⟩),(123,⟨.true,.func,.false,8,[],.false,[],none,[]⟩),(124,⟨.true,.func,.false,8,[],.false,[],none,[]⟩),(125,⟨.true,.func,.false,8,[],.false,[],none,[]⟩),(126,⟨.true,.other,.false,0,[],.false,[],none,[]⟩),(127,⟨.true,.func,.false,8,[],.false,[],none,[]⟩),(128,⟨.true,.func,.false,8,[],.false,[],none,[]⟩),(129,⟨.true,.func,.false,8,[],.false,[],none,[]⟩),(130,⟨.true,.func,.false,8,[],.false,[],none,[]⟩),(131,⟨.true,.func,.false,8,[],.false,[],none,[]⟩),(132,⟨.true,.func,.false,8,[],.false,[],none,[]⟩),(133,⟨.true,.func,.false,8,[],.false,[],none,[]⟩),(134,⟨.true,y4,.false,8,[],.false,[],none,[]⟩),(135,⟨.true,.func,.false,8,[],.false,[],none,[]⟩),(136,⟨.true,.func,.false,8,[],.false,[],none,[]⟩),(137,⟨.true,.other,.false,16,[],.false,[],none,[]⟩),(138,⟨.true,.other,.false,16,[],.false,[],none,[]⟩),(139,⟨.true,.ptr,.false,8,[],.false,[],none,[]⟩),(140,⟨.true,.func,.false,8,[],.false,[],none,[]⟩),(141,⟨.true,y23,.true,40,[(0,1),(1,1),(2,1),(3,1)],.false,[(some .false),(some .false),(some .false),(some .false)],none,[]⟩),(142,⟨.true,y23,.true,40,[(0,1),(1,1),(2,1),(3,1)],.false,[(some .false),(some .false),(some .false),(some .false)],none,[]⟩),(146,⟨.true,.func,.false,8,[],.false,[],none,[]⟩),(147,⟨.true,.int .u8,.false,1,[],.false,[],none,[]⟩),(148,⟨.true,.int .u8,.false,1,[],.false,[],none,[]⟩),(149,⟨.true,.func,.false,8,[],.false,[],none,[]⟩),(150,⟨.true,.ptr,.false,8,[],.false,[],none,[]⟩),(151,⟨.true,.int .i32,.false,4,[],.false,[],none,[]⟩),(152,⟨.true,.int .i32,.false,4,[],.false,[],none,[]⟩),(153,⟨.true,y33,.true,48,[(0,1),(1,1),(2,1),(3,1),(4,1),(5,1),(6,1),(7,1),(8,1),(9,1),(10,1)],.false,[(some .false),(some .false),(some .false),(some .false),(some .false),(some .false),(some .false),(some .false),(some .false),(some .false),(some .false)],none,[]⟩),(154,⟨.true,y33,.true,48,[(0,1),(1,1),(2,1),(3,1),(4,1),(5,1),(6,1),(7,1),(8,1),(9,1),(10,1)],.false,[(some .false),(some .false),(some .false),(some .false),(some .false),(some .false),(some .false),(some .false),(some .false),(some .false),(some .false)],none,[]⟩),(155,⟨.true,.pair .str .unit,.true,16,[(0,1)],.true,[(some .false)],none,[]⟩),(156,⟨.true,.pair .str .unit,.true,16,[(0,1)],.true,[(some .false)],none,[]⟩),(157,⟨.true,.other,.false,8,[],.false,[],none,[]⟩)]
theorem tis_ok:tisOk Try.prog tis = true:=by kernel_rfl
def modes:List (Nat × List (Nat × Ty)):=[(9,[(0,y34)]),(10,[(0,y16)]),(12,[(1,y16)]),(19,[(0,y34)]),(21,[(0,y16)]),(31,[(0,y34)]),(32,[(0,y34)]),(33,[(0,y34)]),(34,[(0,y4)]),(35,[(0,y34)]),(36,[(0,y34)]),(38,[(0,y34)]),(39,[(0,y34)]),(48,[(0,y4)]),(57,[(0,y34)]),(60,[(0,y4)]),(61,[(0,y4)]),(70,[(0,y4)]),(79,[(1,y4)]),(83,[(0,y4)])]
variable {ι:Type} {E:Fil ι}
noncomputable def t0:Tb Try.prog:=⟨fun _=>tnil,fun _ g=>tnil_ok g⟩
def bs0:ByteArray:=ByteArray.mk ((([0,1,2,2,3,3,3,3,4,4,4,4,4,4,4,4,5,5,5,5,5,5,5,5,5,5,5,5,5,5,5,5,6,6,6,6,6,6,6,6,6,6,6,6,6,6,6,6,6,6,6,6,6,6,6,6,6,6,6,6,6,6,6,6].append [7,7,7,7,7,7,7,7,7,7,7,7,7,7,7,7,7,7,7,7,7,7,7,7,7,7,7,7,7,7,7,7,7,7,7,7,7,7,7,7,7,7,7,7,7,7,7,7,7,7,7,7,7,7,7,7,7,7,7,7,7,7,7,7]).append ([8,8,8,8,8,8,8,8,8,8,8,8,8,8,8,8,8,8,8,8,8,8,8,8,8,8,8,8,8,8,8,8,8,8,8,8,8,8,8,8,8,8,8,8,8,8,8,8,8,8,8,8,8,8,8,8,8,8,8,8,8,8,8,8].append [8,8,8,8,8,8,8,8,8,8,8,8,8,8,8,8,8,8,8,8,8,8,8,8,8,8,8,8,8,8,8,8,8,8,8,8,8,8,8,8,8,8,8,8,8,8,8,8,8,8,8,8,8,8,8,8,8,8,8,8,8,8,8,8])).toArray)
namespace g0 -- slew_CheckAxis
abbrev R:Type:=Int
abbrev A:Type:=Int × Int × Int × Int
abbrev Y:=A→Option R
def lv:List (Nat × List Nat):=[(2000000,[2])]
noncomputable def cs:Nat→Ctx:=ctxOf tis modes t0.1 lv
theorem cs_ok (n:Nat):CtxOk Try.prog (cs n):=ctxOf_ok rfl tis_ok t0.2 n
def sh:AS:=⟨[(.agg [.int .i64,.int .i64,.int .i64,.int .i64])],[]⟩
def os:OS:=⟨.c (.int .i64),[]⟩
def enc (r:R):Out:=os.enc r
def dec:Out→Option R:=os.dec
noncomputable def b0:Code:=subF [] Try.f27
noncomputable def K0 (k:Nat):Kt R:=kTop (cs k) Try.f27 dec
noncomputable def f (k:Nat):Y:=fun v=>held (runFn cs k Try.f27 (sh.args v) (sh.slots v) dec)
noncomputable def F:Y:=lm f
def d:Y:=fun (v0,v1,v2,v3) =>
br (decide (v0 < -17179869184) || decide (17179869184 < v1)) (some 4) (br (decide (v1 < v0)) (some 11) (br (decide (v2 < 16777216) || decide (1073741824 < v2) || decide (v2 < v3) || decide (v3 < 1) || decide (wrap .i64 (v3 * 64) < v2)) (some 4) (some 0)))
theorem d_cn:∀ v:A,Cn E (d v) fun i=>d v:=fun (v0,v1,v2,v3)=>(.br .some (.br .some (.br .some .some)))
theorem f_b (k:Nat):∀ v:A,f k v = d v:=fun (v0,v1,v2,v3)=>(held_eq _).trans (by kernel_rfl)
theorem F_of (v:A) {r:R} (h:d v = some r):F v = some r:=join_of (fun L=>f_b (L 0) v) (d_cn v) h
noncomputable def spec (k:Nat):List AV→List Slot→Option Ans:=specS sh os (f k)
theorem spec_ok (k:Nat):SpecOk Try.prog 27 (spec k):=specS_ok cs_ok Try.func27 rfl rfl (fun _ _=>held_eq _) k
end g0
noncomputable def tg0:=t0.cons 27 g0.spec g0.spec_ok
namespace g1 -- slew_In
abbrev R:Type:=Bool
abbrev A:Type:=Int × Int × Int × Int × Int
abbrev Y:=A→Option R
def lv:List (Nat × List Nat):=[(2000000,[4])]
noncomputable def cs:Nat→Ctx:=ctxOf tis modes tg0.1 lv
theorem cs_ok (n:Nat):CtxOk Try.prog (cs n):=ctxOf_ok rfl tis_ok tg0.2 n
def sh:AS:=⟨[.agg [.int .i64,.int .i64,.int .i64,.int .i64],.c (.int .i64)],[]⟩
def os:OS:=⟨.c .bool,[]⟩
def enc (r:R):Out:=os.enc r
def dec:Out→Option R:=os.dec
noncomputable def b0:Code:=subF [] Try.f25
noncomputable def K0 (k:Nat):Kt R:=kTop (cs k) Try.f25 dec
noncomputable def f (k:Nat):Y:=fun v=>held (runFn cs k Try.f25 (sh.args v) (sh.slots v) dec)
noncomputable def F:Y:=lm f
def d:Y:=fun (v0,v1,v2,v3,v4) =>
some (decide (v0 ≤ v4) && decide (v4 ≤ v1))
theorem d_cn:∀ v:A,Cn E (d v) fun i=>d v:=fun (v0,v1,v2,v3,v4)=>.some
theorem f_b (k:Nat):∀ v:A,f k v = d v:=fun (v0,v1,v2,v3,v4)=>(held_eq _).trans (by kernel_rfl)
theorem F_of (v:A) {r:R} (h:d v = some r):F v = some r:=join_of (fun L=>f_b (L 0) v) (d_cn v) h
noncomputable def spec (k:Nat):List AV→List Slot→Option Ans:=specS sh os (f k)
theorem spec_ok (k:Nat):SpecOk Try.prog 25 (spec k):=specS_ok cs_ok Try.func25 rfl rfl (fun _ _=>held_eq _) k
end g1
noncomputable def tg1:=tg0.cons 25 g1.spec g1.spec_ok
namespace g2 -- slew_abs
abbrev R:Type:=Int
abbrev A:Type:=Int
abbrev Y:=A→Option R
def lv:List (Nat × List Nat):=[(2000000,[2])]
noncomputable def cs:Nat→Ctx:=ctxOf tis modes tg1.1 lv
theorem cs_ok (n:Nat):CtxOk Try.prog (cs n):=ctxOf_ok rfl tis_ok tg1.2 n
def sh:AS:=⟨[(.c (.int .i64))],[]⟩
def os:OS:=⟨.c (.int .i64),[]⟩
def enc (r:R):Out:=os.enc r
def dec:Out→Option R:=os.dec
noncomputable def b0:Code:=subF [] Try.f26
noncomputable def K0 (k:Nat):Kt R:=kTop (cs k) Try.f26 dec
noncomputable def f (k:Nat):Y:=fun v=>held (runFn cs k Try.f26 (sh.args v) (sh.slots v) dec)
noncomputable def F:Y:=lm f
def d:Y:=fun v0 =>
some (max v0 (wrap .i64 (0 - v0)))
theorem d_cn:∀ v:A,Cn E (d v) fun i=>d v:=fun v0=>.some
theorem f_b (k:Nat):∀ v:A,f k v = d v:=fun v0=>(held_eq _).trans (by kernel_rfl)
theorem F_of (v:A) {r:R} (h:d v = some r):F v = some r:=join_of (fun L=>f_b (L 0) v) (d_cn v) h
noncomputable def spec (k:Nat):List AV→List Slot→Option Ans:=specS sh os (f k)
theorem spec_ok (k:Nat):SpecOk Try.prog 26 (spec k):=specS_ok cs_ok Try.func26 rfl rfl (fun _ _=>held_eq _) k
end g2
noncomputable def tg2:=tg1.cons 26 g2.spec g2.spec_ok
namespace g3 -- slew_fastest
abbrev R:Type:=Int
abbrev A:Type:=Int × Int × Int × Int × Int
abbrev Y:=A→Option R
def lv:List (Nat × List Nat):=[(2000000,[4]),(2,[1,2,5])]
noncomputable def cs:Nat→Ctx:=ctxOf tis modes tg2.1 lv
theorem cs_ok (n:Nat):CtxOk Try.prog (cs n):=ctxOf_ok rfl tis_ok tg2.2 n
def sh:AS:=⟨[.agg [.int .i64,.int .i64,.int .i64,.int .i64],.c (.int .i64)],[]⟩
def os:OS:=⟨.c (.int .i64),[]⟩
def enc (r:R):Out:=os.enc r
def dec:Out→Option R:=os.dec
noncomputable def b0:Code:=subF [] Try.f28
noncomputable def K0 (k:Nat):Kt R:=kTop (cs k) Try.f28 dec
noncomputable def b2:Code:=sub [1,0,1,0,0] b0
noncomputable def K2 ( k:Nat):Kt R:=kAt (cs k) (loopN cs k) [1,0,1,0] b0 (K0 k)
abbrev T0:Type:=Int × Int × Int × Int × Int × Int
abbrev Y0:=T0→Option R
def s0:T0→St:=fun (v0,v1,v2,v3,v4,v5)=>⟨37,0,[(1,.c (.int .i64 v0)),(2,.c (.ptr 64000000 0)),(5,.c (.int .i64 v1))],[],[(256000000,.gone),(64000000,.box [.int .i64 v2,.int .i64 v3,.int .i64 v4,.int .i64 v5])]⟩
noncomputable def l0 ( k n:Nat) (v:T0):Option R:=held (loopN cs n b2 (K2 k) (s0 v))
noncomputable def D0 (v:T0):Option R:=lim fun L=>l0 (L 0) (L 1) v
theorem D0_cn (v:T0):Cn late (D0 v) fun L=>l0 (L 0) (L 1) v:=of_lim
def d0 (p0:Y0):Y0:=fun (v0,v1,v2,v3,v4,v5) =>
br (decide (v1 ≤ 64)) (br (!decide (2 = 0)) (br (decide (v0 ≤ wrap .i64 (v5 * wrap .i64 ((wrap .i64 (v1 * wrap .i64 (v1 + 1))).tdiv 2)))) (br (!decide (2 = 0)) (br (!decide (v1 = 0)) (some (min v4 (wrap .i64 ((wrap .i64 (v0 + wrap .i64 (v5 * wrap .i64 ((wrap .i64 (v1 * wrap .i64 (v1 - 1))).tdiv 2)))).tdiv v1)))) none) none) (p0 (v0,wrap .i64 (v1 + 1),v2,v3,v4,v5))) none) (some v4)
theorem d0_cn (k0:Pr E T0 R):∀ v:T0,Cn E (d0 k0.p v) fun i=>d0 (k0.q i) v:=fun (v0,v1,v2,v3,v4,v5)=>(.br (.br (.br (.br (.br .some .none) .none) (k0.h _)) .none) .some)
theorem l0_b ( k m1:Nat):∀ v:T0,run (cs m1) (loopN cs m1) b2 (kLoop cs m1 b2 (K2 k)) (s0 v) = d0 (l0 k m1) v:=fun (v0,v1,v2,v3,v4,v5)=>by kernel_rfl
theorem D0_of (v:T0) {r:R} (h:d0 D0 v = some r):D0 v = some r:=loop_of 1 (fun L n hn=>by show l0 (L 0) (L 1) v = _; rw [hn]; exact (held_eq _).trans ((loopN_succ _ _ _ _ _).trans (l0_b (L 0) n v))) (d0_cn (.mk fun v=>(D0_cn v).re [0,1]) v) h
noncomputable def f (k:Nat):Y:=fun v=>held (runFn cs k Try.f28 (sh.args v) (sh.slots v) dec)
noncomputable def F:Y:=lm f
def d (p0:Y0):Y:=fun (v0,v1,v2,v3,v4) =>
p0 (v4,1,v0,v1,v2,v3)
theorem d_cn (k0:Pr E T0 R):∀ v:A,Cn E (d k0.p v) fun i=>d (k0.q i) v:=fun (v0,v1,v2,v3,v4)=>(k0.h _)
theorem f_b (k:Nat):∀ v:A,f k v = d (l0 k k) v:=fun (v0,v1,v2,v3,v4)=>(held_eq _).trans (by kernel_rfl)
theorem F_of (v:A) {r:R} (h:d D0 v = some r):F v = some r:=join_of (fun L=>f_b (L 0) v) (d_cn (.mk fun v=>(D0_cn v).re [0,0]) v) h
noncomputable def spec (k:Nat):List AV→List Slot→Option Ans:=specS sh os (f k)
theorem spec_ok (k:Nat):SpecOk Try.prog 28 (spec k):=specS_ok cs_ok Try.func28 rfl rfl (fun _ _=>held_eq _) k
end g3
noncomputable def tg3:=tg2.cons 28 g3.spec g3.spec_ok
namespace g4 -- slew_stop
abbrev R:Type:=Int
abbrev A:Type:=Int × Int × Int × Int
abbrev Y:=A→Option R
def lv:List (Nat × List Nat):=[(2000000,[2])]
noncomputable def cs:Nat→Ctx:=ctxOf tis modes tg3.1 lv
theorem cs_ok (n:Nat):CtxOk Try.prog (cs n):=ctxOf_ok rfl tis_ok tg3.2 n
def sh:AS:=⟨[(.agg [.int .i64,.int .i64,.int .i64,.int .i64])],[]⟩
def os:OS:=⟨.c (.int .i64),[]⟩
def enc (r:R):Out:=os.enc r
def dec:Out→Option R:=os.dec
noncomputable def b0:Code:=subF [] Try.f29
noncomputable def K0 (k:Nat):Kt R:=kTop (cs k) Try.f29 dec
noncomputable def f (k:Nat):Y:=fun v=>held (runFn cs k Try.f29 (sh.args v) (sh.slots v) dec)
noncomputable def F:Y:=lm f
def d:Y:=fun (v0,v1,v2,v3) =>
br (!decide (v3 = 0)) (br (!decide (2 = 0)) (some (wrap .i64 (wrap .i64 (wrap .i64 ((wrap .i64 (wrap .i64 (v2 + v3) - 1)).tdiv v3) * v2) - wrap .i64 (v3 * wrap .i64 ((wrap .i64 (wrap .i64 ((wrap .i64 (wrap .i64 (v2 + v3) - 1)).tdiv v3) * wrap .i64 (wrap .i64 ((wrap .i64 (wrap .i64 (v2 + v3) - 1)).tdiv v3) - 1))).tdiv 2))))) none) none
theorem d_cn:∀ v:A,Cn E (d v) fun i=>d v:=fun (v0,v1,v2,v3)=>(.br (.br .some .none) .none)
theorem f_b (k:Nat):∀ v:A,f k v = d v:=fun (v0,v1,v2,v3)=>(held_eq _).trans (by kernel_rfl)
theorem F_of (v:A) {r:R} (h:d v = some r):F v = some r:=join_of (fun L=>f_b (L 0) v) (d_cn v) h
noncomputable def spec (k:Nat):List AV→List Slot→Option Ans:=specS sh os (f k)
theorem spec_ok (k:Nat):SpecOk Try.prog 29 (spec k):=specS_ok cs_ok Try.func29 rfl rfl (fun _ _=>held_eq _) k
end g4
noncomputable def tg4:=tg3.cons 29 g4.spec g4.spec_ok
namespace g5 -- slew_Steps
abbrev R:Type:=Int × Int
abbrev A:Type:=Int × Int × Int × Int × Int × Int
abbrev Y:=A→Option R
def lv:List (Nat × List Nat):=[(2000000,[6,7]),(7,[3,9,10,11]),(1000013,[3,9,10,11]),(1000017,[11])]
noncomputable def cs:Nat→Ctx:=ctxOf tis modes tg4.1 lv
theorem cs_ok (n:Nat):CtxOk Try.prog (cs n):=ctxOf_ok rfl tis_ok tg4.2 n
def sh:AS:=⟨[.agg [.int .i64,.int .i64,.int .i64,.int .i64],.c (.int .i64),.c (.int .i64)],[]⟩
def os:OS:=⟨.tup [.c (.int .i64),.c (.int .i64)],[]⟩
def enc (r:R):Out:=os.enc r
def dec:Out→Option R:=os.dec
noncomputable def b0:Code:=subF [] Try.f13
noncomputable def K0 (k:Nat):Kt R:=kTop (cs k) Try.f13 dec
noncomputable def b7:Code:=sub [1,1,1,1,0,0,0] b0
noncomputable def K7 ( k:Nat):Kt R:=kAt (cs k) (loopN cs k) [1,1,1,1,0,0] b0 (K0 k)
noncomputable def c1000013:Code:=sub [1,0,1,1] b7
noncomputable def J1000013 ( k m1:Nat):Kt R:=kAt (cs m1) (loopN cs m1) [1,0,1,1] b7 (kLoop cs m1 b7 (K7 k))
noncomputable def c1000017:Code:=sub [1,1,1,1,1,1] b0
noncomputable def J1000017 ( k:Nat):Kt R:=kAt (cs k) (loopN cs k) [1,1,1,1,1,1] b0 (K0 k)
abbrev T0:Type:=Int × Int × Int × Int × Int × Int × Int
abbrev Y0:=T0→Option R
def s0:T0→St:=fun (v0,v1,v2,v3,v4,v5,v6)=>⟨78,0,[(3,.c (.ptr 64000000 0)),(9,.c (.int .i64 v0)),(10,.c (.int .i64 v1)),(11,.c (.int .i64 v2))],[],[(256000000,.gone),(64000000,.box [.int .i64 v3,.int .i64 v4,.int .i64 v5,.int .i64 v6])]⟩
noncomputable def l0 ( k n:Nat) (v:T0):Option R:=held (loopN cs n b7 (K7 k) (s0 v))
noncomputable def D0 (v:T0):Option R:=lim fun L=>l0 (L 0) (L 1) v
theorem D0_cn (v:T0):Cn late (D0 v) fun L=>l0 (L 0) (L 1) v:=of_lim
abbrev T1:Type:=Int × Int × Int × Int × Int × Int × Int
abbrev Y1:=T1→Option R
def s1:T1→St:=fun (v0,v1,v2,v3,v4,v5,v6)=>⟨78,0,[(3,.c (.ptr 64000000 0)),(9,.c (.int .i64 v0)),(10,.c (.int .i64 v1)),(11,.c (.int .i64 v2))],[],[(256000000,.gone),(64000000,.box [.int .i64 v3,.int .i64 v4,.int .i64 v5,.int .i64 v6])]⟩
noncomputable def l1 ( k m1:Nat) (v:T1):Option R:=held (run (cs m1) (loopN cs m1) c1000013 (J1000013 k m1) (s1 v))
noncomputable def D1 (v:T1):Option R:=lim fun L=>l1 (L 0) (L 1) v
theorem D1_cn (v:T1):Cn late (D1 v) fun L=>l1 (L 0) (L 1) v:=of_lim
abbrev T2:Type:=Int
abbrev Y2:=T2→Option R
def s2:T2→St:=fun v0=>⟨78,0,[(11,.c (.int .i64 v0))],[],[(256000000,.gone)]⟩
noncomputable def l2 ( k:Nat) (v:T2):Option R:=held (run (cs k) (loopN cs k) c1000017 (J1000017 k) (s2 v))
noncomputable def D2 (v:T2):Option R:=lim fun L=>l2 (L 0) v
theorem D2_cn (v:T2):Cn late (D2 v) fun L=>l2 (L 0) v:=of_lim
def d0 (p0:g3.Y) (p1:g4.Y) (p2:Y1) (p3:Y2):Y0:=fun (v0,v1,v2,v3,v4,v5,v6) =>
br (decide (0 < v0)) (bnd (p0 (v3,v4,v5,v6,v0)) fun r=>bnd (p1 (v3,v4,v5,v6)) fun r_1=>br (!decide (v5 = 0)) (br (decide (min (wrap .i64 (v1 + v6)) r = v5) && decide (1 < wrap .i64 ((wrap .i64 (v0 - r_1)).tdiv v5))) (p2 (wrap .i64 (v0 - wrap .i64 (wrap .i64 (wrap .i64 ((wrap .i64 (v0 - r_1)).tdiv v5) - 1) * v5)),min (wrap .i64 (v1 + v6)) r,wrap .i64 (v2 + wrap .i64 (wrap .i64 ((wrap .i64 (v0 - r_1)).tdiv v5) - 1)),v3,v4,v5,v6)) (p2 (v0,min (wrap .i64 (v1 + v6)) r,v2,v3,v4,v5,v6))) none) (br (decide (0 < v1)) (p3 (wrap .i64 (v2 + 1))) (p3 v2))
theorem d0_cn (k0:Pr E g3.A g3.R) (k1:Pr E g4.A g4.R) (k2:Pr E T1 R) (k3:Pr E T2 R):∀ v:T0,Cn E (d0 k0.p k1.p k2.p k3.p v) fun i=>d0 (k0.q i) (k1.q i) (k2.q i) (k3.q i) v:=fun (v0,v1,v2,v3,v4,v5,v6)=>(.br (.bnd (k0.h _) fun _=>(.bnd (k1.h _) fun _=>(.br (.br (k2.h _) (k2.h _)) .none))) (.br (k3.h _) (k3.h _)))
theorem l0_b ( k m1:Nat):∀ v:T0,run (cs m1) (loopN cs m1) b7 (kLoop cs m1 b7 (K7 k)) (s0 v) = d0 (g3.f m1) (g4.f m1) (l1 k m1) (l2 k) v:=fun (v0,v1,v2,v3,v4,v5,v6)=>by kernel_rfl
theorem D0_of (v:T0) {r:R} (h:d0 g3.F g4.F D1 D2 v = some r):D0 v = some r:=loop_of 1 (fun L n hn=>by show l0 (L 0) (L 1) v = _; rw [hn]; exact (held_eq _).trans ((loopN_succ _ _ _ _ _).trans (l0_b (L 0) n v))) (d0_cn (lp g3.f 1) (lp g4.f 1) (.mk fun v=>(D1_cn v).re [0,1]) (.mk fun v=>(D2_cn v).re [0]) v) h
def d1 (p0:Y0):Y1:=fun (v0,v1,v2,v3,v4,v5,v6) =>
p0 (wrap .i64 (v0 - v1),v1,wrap .i64 (v2 + 1),v3,v4,v5,v6)
theorem d1_cn (k0:Pr E T0 R):∀ v:T1,Cn E (d1 k0.p v) fun i=>d1 (k0.q i) v:=fun (v0,v1,v2,v3,v4,v5,v6)=>(k0.h _)
theorem l1_b ( k m1:Nat):∀ v:T1,run (cs m1) (loopN cs m1) c1000013 (J1000013 k m1) (s1 v) = d1 (l0 k m1) v:=fun (v0,v1,v2,v3,v4,v5,v6)=>by kernel_rfl
theorem D1_of (v:T1) {r:R} (h:d1 D0 v = some r):D1 v = some r:=join_of (fun L=>(held_eq _).trans (l1_b (L 0) (L 1) v)) (d1_cn (.mk fun v=>(D0_cn v).re [0,1]) v) h
def d2:Y2:=fun v0 =>
some (v0,0)
theorem d2_cn:∀ v:T2,Cn E (d2 v) fun i=>d2 v:=fun v0=>.some
theorem l2_b ( k:Nat):∀ v:T2,run (cs k) (loopN cs k) c1000017 (J1000017 k) (s2 v) = d2 v:=fun v0=>by kernel_rfl
theorem D2_of (v:T2) {r:R} (h:d2 v = some r):D2 v = some r:=join_of (fun L=>(held_eq _).trans (l2_b (L 0) v)) (d2_cn v) h
noncomputable def f (k:Nat):Y:=fun v=>held (runFn cs k Try.f13 (sh.args v) (sh.slots v) dec)
noncomputable def F:Y:=lm f
def d (p0:g0.Y) (p1:g1.Y) (p2:g2.Y) (p3:Y0):Y:=fun (v0,v1,v2,v3,v4,v5) =>
bnd (p0 (v0,v1,v2,v3)) fun r=>br (!decide (r = 0)) (some (0,r)) (bnd (p1 (v0,v1,v2,v3,v4)) fun r=>br ((!r) == false) (bnd (p1 (v0,v1,v2,v3,v5)) fun r=>br (!r) (some (0,4)) (bnd (p2 (wrap .i64 (v5 - v4))) fun r=>p3 (r,0,0,v0,v1,v2,v3))) (some (0,4)))
theorem d_cn (k0:Pr E g0.A g0.R) (k1:Pr E g1.A g1.R) (k2:Pr E g2.A g2.R) (k3:Pr E T0 R):∀ v:A,Cn E (d k0.p k1.p k2.p k3.p v) fun i=>d (k0.q i) (k1.q i) (k2.q i) (k3.q i) v:=fun (v0,v1,v2,v3,v4,v5)=>(.bnd (k0.h _) fun _=>(.br .some (.bnd (k1.h _) fun _=>(.br (.bnd (k1.h _) fun _=>(.br .some (.bnd (k2.h _) fun _=>(k3.h _)))) .some))))
theorem f_b (k:Nat):∀ v:A,f k v = d (g0.f k) (g1.f k) (g2.f k) (l0 k k) v:=fun (v0,v1,v2,v3,v4,v5)=>(held_eq _).trans (by kernel_rfl)
theorem F_of (v:A) {r:R} (h:d g0.F g1.F g2.F D0 v = some r):F v = some r:=join_of (fun L=>f_b (L 0) v) (d_cn (lp g0.f 0) (lp g1.f 0) (lp g2.f 0) (.mk fun v=>(D0_cn v).re [0,0]) v) h
noncomputable def spec (k:Nat):List AV→List Slot→Option Ans:=specS sh os (f k)
theorem spec_ok (k:Nat):SpecOk Try.prog 13 (spec k):=specS_ok cs_ok Try.func13 rfl rfl (fun _ _=>held_eq _) k
end g5
noncomputable def tg5:=tg4.cons 13 g5.spec g5.spec_ok
namespace g6 -- slew_mod
abbrev R:Type:=Int
abbrev A:Type:=Int
abbrev Y:=A→Option R
def lv:List (Nat × List Nat):=[(2000000,[2]),(1000004,[0])]
noncomputable def cs:Nat→Ctx:=ctxOf tis modes tg5.1 lv
theorem cs_ok (n:Nat):CtxOk Try.prog (cs n):=ctxOf_ok rfl tis_ok tg5.2 n
def sh:AS:=⟨[(.c (.int .i64))],[]⟩
def os:OS:=⟨.c (.int .i64),[]⟩
def enc (r:R):Out:=os.enc r
def dec:Out→Option R:=os.dec
noncomputable def b0:Code:=subF [] Try.f30
noncomputable def K0 (k:Nat):Kt R:=kTop (cs k) Try.f30 dec
noncomputable def c1000004:Code:=sub [1,1,1] b0
noncomputable def J1000004 ( k:Nat):Kt R:=kAt (cs k) (loopN cs k) [1,1,1] b0 (K0 k)
abbrev T0:Type:=Int
abbrev Y0:=T0→Option R
def s0:T0→St:=fun v0=>⟨10,0,[(0,.c (.int .i64 v0))],[],[(256000000,.gone)]⟩
noncomputable def l0 ( k:Nat) (v:T0):Option R:=held (run (cs k) (loopN cs k) c1000004 (J1000004 k) (s0 v))
noncomputable def D0 (v:T0):Option R:=lim fun L=>l0 (L 0) v
theorem D0_cn (v:T0):Cn late (D0 v) fun L=>l0 (L 0) v:=of_lim
def d0:Y0:=fun v0 =>
some v0
theorem d0_cn:∀ v:T0,Cn E (d0 v) fun i=>d0 v:=fun v0=>.some
theorem l0_b ( k:Nat):∀ v:T0,run (cs k) (loopN cs k) c1000004 (J1000004 k) (s0 v) = d0 v:=fun v0=>by kernel_rfl
theorem D0_of (v:T0) {r:R} (h:d0 v = some r):D0 v = some r:=join_of (fun L=>(held_eq _).trans (l0_b (L 0) v)) (d0_cn v) h
noncomputable def f (k:Nat):Y:=fun v=>held (runFn cs k Try.f30 (sh.args v) (sh.slots v) dec)
noncomputable def F:Y:=lm f
def d (p0:Y0):Y:=fun v0 =>
br (!decide (4294967296 = 0)) (br (decide (v0.tmod (4294967296:Int) < 0)) (p0 (wrap .i64 (v0.tmod 4294967296 + 4294967296))) (p0 (v0.tmod 4294967296))) none
theorem d_cn (k0:Pr E T0 R):∀ v:A,Cn E (d k0.p v) fun i=>d (k0.q i) v:=fun v0=>(.br (.br (k0.h _) (k0.h _)) .none)
theorem f_b (k:Nat):∀ v:A,f k v = d (l0 k) v:=fun v0=>(held_eq _).trans (by kernel_rfl)
theorem F_of (v:A) {r:R} (h:d D0 v = some r):F v = some r:=join_of (fun L=>f_b (L 0) v) (d_cn (.mk fun v=>(D0_cn v).re [0]) v) h
noncomputable def spec (k:Nat):List AV→List Slot→Option Ans:=specS sh os (f k)
theorem spec_ok (k:Nat):SpecOk Try.prog 30 (spec k):=specS_ok cs_ok Try.func30 rfl rfl (fun _ _=>held_eq _) k
end g6
noncomputable def tg6:=tg5.cons 30 g6.spec g6.spec_ok
namespace g7 -- slew_Target
abbrev R:Type:=Int × Int
abbrev A:Type:=Int × Int × Int × Int × Int × Int
abbrev Y:=A→Option R
def lv:List (Nat × List Nat):=[(2000000,[6,7]),(10,[1,3,9,10]),(1000011,[1,3,9,10])]
noncomputable def cs:Nat→Ctx:=ctxOf tis modes tg6.1 lv
theorem cs_ok (n:Nat):CtxOk Try.prog (cs n):=ctxOf_ok rfl tis_ok tg6.2 n
def sh:AS:=⟨[.agg [.int .i64,.int .i64,.int .i64,.int .i64],.c (.int .i64),.c (.int .i64)],[]⟩
def os:OS:=⟨.tup [.c (.int .i64),.c (.int .i64)],[]⟩
def enc (r:R):Out:=os.enc r
def dec:Out→Option R:=os.dec
noncomputable def b0:Code:=subF [] Try.f14
noncomputable def K0 (k:Nat):Kt R:=kTop (cs k) Try.f14 dec
noncomputable def b10:Code:=sub [1,1,1,1,1,1,0,0,0] b0
noncomputable def K10 ( k:Nat):Kt R:=kAt (cs k) (loopN cs k) [1,1,1,1,1,1,0,0] b0 (K0 k)
noncomputable def c1000011:Code:=sub [1,1] b10
noncomputable def J1000011 ( k m1:Nat):Kt R:=kAt (cs m1) (loopN cs m1) [1,1] b10 (kLoop cs m1 b10 (K10 k))
abbrev T0:Type:=Int × Int × Int × Int × Int × Int × Int
abbrev Y0:=T0→Option R
def s0:T0→St:=fun (v0,v1,v2,v3,v4,v5,v6)=>⟨52,0,[(1,.c (.int .i64 v0)),(3,.c (.ptr 64000000 0)),(9,.c (.int .i64 v1)),(10,.c (.int .i64 v2))],[],[(256000000,.gone),(64000000,.box [.int .i64 v3,.int .i64 v4,.int .i64 v5,.int .i64 v6])]⟩
noncomputable def l0 ( k n:Nat) (v:T0):Option R:=held (loopN cs n b10 (K10 k) (s0 v))
noncomputable def D0 (v:T0):Option R:=lim fun L=>l0 (L 0) (L 1) v
theorem D0_cn (v:T0):Cn late (D0 v) fun L=>l0 (L 0) (L 1) v:=of_lim
abbrev T1:Type:=Int × Int × Int × Int × Int × Int × Int
abbrev Y1:=T1→Option R
def s1:T1→St:=fun (v0,v1,v2,v3,v4,v5,v6)=>⟨52,0,[(1,.c (.int .i64 v0)),(3,.c (.ptr 64000000 0)),(9,.c (.int .i64 v1)),(10,.c (.int .i64 v2))],[],[(256000000,.gone),(64000000,.box [.int .i64 v3,.int .i64 v4,.int .i64 v5,.int .i64 v6])]⟩
noncomputable def l1 ( k m1:Nat) (v:T1):Option R:=held (run (cs m1) (loopN cs m1) c1000011 (J1000011 k m1) (s1 v))
noncomputable def D1 (v:T1):Option R:=lim fun L=>l1 (L 0) (L 1) v
theorem D1_cn (v:T1):Cn late (D1 v) fun L=>l1 (L 0) (L 1) v:=of_lim
def d0 (p0:g2.Y) (p1:Y1):Y0:=fun (v0,v1,v2,v3,v4,v5,v6) =>
br (decide (v1 ≤ v4)) (bnd (p0 (wrap .i64 (v1 - v0))) fun r=>bnd (p0 (wrap .i64 (v2 - v0))) fun r_1=>br (decide (r < r_1)) (p1 (v0,v1,v1,v3,v4,v5,v6)) (p1 (v0,v1,v2,v3,v4,v5,v6))) (some (v2,0))
theorem d0_cn (k0:Pr E g2.A g2.R) (k1:Pr E T1 R):∀ v:T0,Cn E (d0 k0.p k1.p v) fun i=>d0 (k0.q i) (k1.q i) v:=fun (v0,v1,v2,v3,v4,v5,v6)=>(.br (.bnd (k0.h _) fun _=>(.bnd (k0.h _) fun _=>(.br (k1.h _) (k1.h _)))) .some)
theorem l0_b ( k m1:Nat):∀ v:T0,run (cs m1) (loopN cs m1) b10 (kLoop cs m1 b10 (K10 k)) (s0 v) = d0 (g2.f m1) (l1 k m1) v:=fun (v0,v1,v2,v3,v4,v5,v6)=>by kernel_rfl
theorem D0_of (v:T0) {r:R} (h:d0 g2.F D1 v = some r):D0 v = some r:=loop_of 1 (fun L n hn=>by show l0 (L 0) (L 1) v = _; rw [hn]; exact (held_eq _).trans ((loopN_succ _ _ _ _ _).trans (l0_b (L 0) n v))) (d0_cn (lp g2.f 1) (.mk fun v=>(D1_cn v).re [0,1]) v) h
def d1 (p0:Y0):Y1:=fun (v0,v1,v2,v3,v4,v5,v6) =>
p0 (v0,wrap .i64 (v1 + 4294967296),v2,v3,v4,v5,v6)
theorem d1_cn (k0:Pr E T0 R):∀ v:T1,Cn E (d1 k0.p v) fun i=>d1 (k0.q i) v:=fun (v0,v1,v2,v3,v4,v5,v6)=>(k0.h _)
theorem l1_b ( k m1:Nat):∀ v:T1,run (cs m1) (loopN cs m1) c1000011 (J1000011 k m1) (s1 v) = d1 (l0 k m1) v:=fun (v0,v1,v2,v3,v4,v5,v6)=>by kernel_rfl
theorem D1_of (v:T1) {r:R} (h:d1 D0 v = some r):D1 v = some r:=join_of (fun L=>(held_eq _).trans (l1_b (L 0) (L 1) v)) (d1_cn (.mk fun v=>(D0_cn v).re [0,1]) v) h
noncomputable def f (k:Nat):Y:=fun v=>held (runFn cs k Try.f14 (sh.args v) (sh.slots v) dec)
noncomputable def F:Y:=lm f
def d (p0:g0.Y) (p1:g1.Y) (p2:g6.Y) (p3:Y0):Y:=fun (v0,v1,v2,v3,v4,v5) =>
bnd (p0 (v0,v1,v2,v3)) fun r=>br (!decide (r = 0)) (some (0,r)) (bnd (p1 (v0,v1,v2,v3,v4)) fun r=>br (!r) (some (0,4)) (bnd (p2 v5) fun r=>bnd (p2 v0) fun r_1=>bnd (p2 (wrap .i64 (r - r_1))) fun r=>br (decide (v1 < wrap .i64 (v0 + r))) (some (0,4)) (p3 (v4,wrap .i64 (v0 + r),wrap .i64 (v0 + r),v0,v1,v2,v3))))
theorem d_cn (k0:Pr E g0.A g0.R) (k1:Pr E g1.A g1.R) (k2:Pr E g6.A g6.R) (k3:Pr E T0 R):∀ v:A,Cn E (d k0.p k1.p k2.p k3.p v) fun i=>d (k0.q i) (k1.q i) (k2.q i) (k3.q i) v:=fun (v0,v1,v2,v3,v4,v5)=>(.bnd (k0.h _) fun _=>(.br .some (.bnd (k1.h _) fun _=>(.br .some (.bnd (k2.h _) fun _=>(.bnd (k2.h _) fun _=>(.bnd (k2.h _) fun _=>(.br .some (k3.h _)))))))))
theorem f_b (k:Nat):∀ v:A,f k v = d (g0.f k) (g1.f k) (g6.f k) (l0 k k) v:=fun (v0,v1,v2,v3,v4,v5)=>(held_eq _).trans (by kernel_rfl)
theorem F_of (v:A) {r:R} (h:d g0.F g1.F g6.F D0 v = some r):F v = some r:=join_of (fun L=>f_b (L 0) v) (d_cn (lp g0.f 0) (lp g1.f 0) (lp g6.f 0) (.mk fun v=>(D0_cn v).re [0,0]) v) h
noncomputable def spec (k:Nat):List AV→List Slot→Option Ans:=specS sh os (f k)
theorem spec_ok (k:Nat):SpecOk Try.prog 14 (spec k):=specS_ok cs_ok Try.func14 rfl rfl (fun _ _=>held_eq _) k
end g7
noncomputable def tg7:=tg6.cons 14 g7.spec g7.spec_ok
namespace g8 -- spykeep2_slews
abbrev R:Type:=Bool
abbrev A:Type:=Unit
abbrev Y:=A→Option R
def lv:List (Nat × List Nat):=[(2000000,[0])]
noncomputable def cs:Nat→Ctx:=ctxOf tis modes tg7.1 lv
theorem cs_ok (n:Nat):CtxOk Try.prog (cs n):=ctxOf_ok rfl tis_ok tg7.2 n
def sh:AS:=⟨[],[]⟩
def os:OS:=⟨.c .bool,[]⟩
def enc (r:R):Out:=os.enc r
def dec:Out→Option R:=os.dec
noncomputable def b0:Code:=subF [] Try.f4
noncomputable def K0 (k:Nat):Kt R:=kTop (cs k) Try.f4 dec
noncomputable def f (k:Nat):Y:=fun v=>held (runFn cs k Try.f4 (sh.args v) (sh.slots v) dec)
noncomputable def F:Y:=lm f
def d (p0:g5.Y) (p1:g7.Y):Y:=fun _ =>
bnd (p0 (0,1000000000,16777216,16777216,0,50331648)) fun r=>bnd (p1 (-4294967296,4294967296,16777216,16777216,-5,4294967295)) fun r_1=>some (decide (r.2 = 0) && decide (r.1 = 4) && decide (r_1.2 = 0) && decide (r_1.1 = -1))
theorem d_cn (k0:Pr E g5.A g5.R) (k1:Pr E g7.A g7.R):∀ v:A,Cn E (d k0.p k1.p v) fun i=>d (k0.q i) (k1.q i) v:=fun _=>(.bnd (k0.h _) fun _=>(.bnd (k1.h _) fun _=>.some))
theorem f_b (k:Nat):∀ v:A,f k v = d (g5.f k) (g7.f k) v:=fun _=>(held_eq _).trans (by kernel_rfl)
theorem F_of (v:A) {r:R} (h:d g5.F g7.F v = some r):F v = some r:=join_of (fun L=>f_b (L 0) v) (d_cn (lp g5.f 0) (lp g7.f 0) v) h
noncomputable def spec (k:Nat):List AV→List Slot→Option Ans:=specS sh os (f k)
theorem spec_ok (k:Nat):SpecOk Try.prog 4 (spec k):=specS_ok cs_ok Try.func4 rfl rfl (fun _ _=>held_eq _) k
end g8
noncomputable def tg8:=tg7.cons 4 g8.spec g8.spec_ok
namespace g9 -- spymake_Below
abbrev R:Type:=Int
abbrev A:Type:=Int × Int
abbrev Y:=A→Option R
def lv:List (Nat × List Nat):=[(2000000,[4]),(1000006,[0])]
noncomputable def cs:Nat→Ctx:=ctxOf tis modes tg8.1 lv
theorem cs_ok (n:Nat):CtxOk Try.prog (cs n):=ctxOf_ok rfl tis_ok tg8.2 n
def sh:AS:=⟨[.c (.int .i64),.c (.int .i64)],[]⟩
def os:OS:=⟨.c (.int .i64),[]⟩
def enc (r:R):Out:=os.enc r
def dec:Out→Option R:=os.dec
noncomputable def b0:Code:=subF [] Try.f8
noncomputable def K0 (k:Nat):Kt R:=kTop (cs k) Try.f8 dec
noncomputable def c1000006:Code:=sub [1,1,1,1] b0
noncomputable def J1000006 ( k:Nat):Kt R:=kAt (cs k) (loopN cs k) [1,1,1,1] b0 (K0 k)
abbrev T0:Type:=Int
abbrev Y0:=T0→Option R
def s0:T0→St:=fun v0=>⟨16,0,[(0,.c (.int .i64 v0))],[],[(256000000,.gone)]⟩
noncomputable def l0 ( k:Nat) (v:T0):Option R:=held (run (cs k) (loopN cs k) c1000006 (J1000006 k) (s0 v))
noncomputable def D0 (v:T0):Option R:=lim fun L=>l0 (L 0) v
theorem D0_cn (v:T0):Cn late (D0 v) fun L=>l0 (L 0) v:=of_lim
def d0:Y0:=fun v0 =>
some v0
theorem d0_cn:∀ v:T0,Cn E (d0 v) fun i=>d0 v:=fun v0=>.some
theorem l0_b ( k:Nat):∀ v:T0,run (cs k) (loopN cs k) c1000006 (J1000006 k) (s0 v) = d0 v:=fun v0=>by kernel_rfl
theorem D0_of (v:T0) {r:R} (h:d0 v = some r):D0 v = some r:=join_of (fun L=>(held_eq _).trans (l0_b (L 0) v)) (d0_cn v) h
noncomputable def f (k:Nat):Y:=fun v=>held (runFn cs k Try.f8 (sh.args v) (sh.slots v) dec)
noncomputable def F:Y:=lm f
def d (p0:Y0):Y:=fun (v0,v1) =>
br (decide (v1 < 1)) (some 0) (br (!decide (v1 = 0)) (br (decide (v0.tmod v1 < 0)) (p0 (wrap .i64 (v0.tmod v1 + v1))) (p0 (v0.tmod v1))) none)
theorem d_cn (k0:Pr E T0 R):∀ v:A,Cn E (d k0.p v) fun i=>d (k0.q i) v:=fun (v0,v1)=>(.br .some (.br (.br (k0.h _) (k0.h _)) .none))
theorem f_b (k:Nat):∀ v:A,f k v = d (l0 k) v:=fun (v0,v1)=>(held_eq _).trans (by kernel_rfl)
theorem F_of (v:A) {r:R} (h:d D0 v = some r):F v = some r:=join_of (fun L=>f_b (L 0) v) (d_cn (.mk fun v=>(D0_cn v).re [0]) v) h
noncomputable def spec (k:Nat):List AV→List Slot→Option Ans:=specS sh os (f k)
theorem spec_ok (k:Nat):SpecOk Try.prog 8 (spec k):=specS_ok cs_ok Try.func8 rfl rfl (fun _ _=>held_eq _) k
end g9
noncomputable def tg9:=tg8.cons 8 g9.spec g9.spec_ok
namespace g10 -- spymake_Stream_Next
abbrev R:Type:=Int × List Int × Int
abbrev A:Type:=Int × List Int × Int
abbrev Y:=A→Option R
def lv:List (Nat × List Nat):=[(2000000,[4])]
noncomputable def cs:Nat→Ctx:=ctxOf tis modes tg9.1 lv
theorem cs_ok (n:Nat):CtxOk Try.prog (cs n):=ctxOf_ok rfl tis_ok tg9.2 n
def sh:AS:=⟨[.c (.ptr 128000000 0),.c (.int .i64)],[(.box [.frz (.int .i64),.int .i64])]⟩
def os:OS:=⟨.c (.int .i64),[(.box [.frz (.int .i64),.int .i64])]⟩
def enc (r:R):Out:=os.enc r
def dec:Out→Option R:=os.dec
noncomputable def b0:Code:=subF [] Try.f16
noncomputable def K0 (k:Nat):Kt R:=kTop (cs k) Try.f16 dec
noncomputable def f (k:Nat):Y:=fun v=>held (runFn cs k Try.f16 (sh.args v) (sh.slots v) dec)
noncomputable def F:Y:=lm f
noncomputable def d (p0:g9.Y):Y:=fun (v0,v1,v2) =>
br (decide ((↑v1.length:Int) = 0)) (bnd (p0 (wrap .i64 (wrap .i64 (v2 + 1) * 7919),v0)) fun r=>some (r,v1,wrap .i64 (v2 + 1))) (br (!decide ((↑v1.length:Int) = 0)) (br (!decide ((↑v1.length:Int) = 0)) (br (decide (0 ≤ (wrap .i64 (wrap .i64 (v2 + 1) - 1)).tmod (↑v1.length:Int) ∧ (wrap .i64 (wrap .i64 (v2 + 1) - 1)).tmod (↑v1.length:Int) < (↑v1.length:Int))) (bnd (p0 (rd (Ty.int .i64) v1 ((wrap .i64 (wrap .i64 (v2 + 1) - 1)).tmod (↑v1.length:Int)),1073741824)) fun r=>bnd (p0 (wrap .i64 (r + wrap .i64 (wrap .i64 ((wrap .i64 (wrap .i64 (v2 + 1) - 1)).tdiv (↑v1.length:Int)) * wrap .i64 (7919 + (wrap .i64 (wrap .i64 (v2 + 1) - 1)).tmod (↑v1.length:Int)))),v0)) fun r=>some (r,v1,wrap .i64 (v2 + 1))) none) none) none)
theorem d_cn (k0:Pr E g9.A g9.R):∀ v:A,Cn E (d k0.p v) fun i=>d (k0.q i) v:=fun (v0,v1,v2)=>(.br (.bnd (k0.h _) fun _=>.some) (.br (.br (.br (.bnd (k0.h _) fun _=>(.bnd (k0.h _) fun _=>.some)) .none) .none) .none))
theorem f_b (k:Nat):∀ v:A,f k v = d (g9.f k) v:=fun (v0,v1,v2)=>(held_eq _).trans (by kernel_rfl)
theorem F_of (v:A) {r:R} (h:d g9.F v = some r):F v = some r:=join_of (fun L=>f_b (L 0) v) (d_cn (lp g9.f 0) v) h
noncomputable def spec (k:Nat):List AV→List Slot→Option Ans:=specS sh os (f k)
theorem spec_ok (k:Nat):SpecOk Try.prog 16 (spec k):=specS_ok cs_ok Try.func16 rfl rfl (fun _ _=>held_eq _) k
end g10
noncomputable def tg10:=tg9.cons 16 g10.spec g10.spec_ok
namespace g11 -- spymake_Stream_Range
abbrev R:Type:=Int × List Int × Int
abbrev A:Type:=Int × Int × List Int × Int
abbrev Y:=A→Option R
def lv:List (Nat × List Nat):=[(2000000,[6])]
noncomputable def cs:Nat→Ctx:=ctxOf tis modes tg10.1 lv
theorem cs_ok (n:Nat):CtxOk Try.prog (cs n):=ctxOf_ok rfl tis_ok tg10.2 n
def sh:AS:=⟨[.c (.ptr 128000000 0),.c (.int .i64),.c (.int .i64)],[(.box [.frz (.int .i64),.int .i64])]⟩
def os:OS:=⟨.c (.int .i64),[(.box [.frz (.int .i64),.int .i64])]⟩
def enc (r:R):Out:=os.enc r
def dec:Out→Option R:=os.dec
noncomputable def b0:Code:=subF [] Try.f15
noncomputable def K0 (k:Nat):Kt R:=kTop (cs k) Try.f15 dec
noncomputable def f (k:Nat):Y:=fun v=>held (runFn cs k Try.f15 (sh.args v) (sh.slots v) dec)
noncomputable def F:Y:=lm f
def d (p0:g10.Y):Y:=fun (v0,v1,v2,v3) =>
br (decide (v1 < v0)) (some (v0,v2,v3)) (bnd (p0 (wrap .i64 (wrap .i64 (v1 - v0) + 1),v2,v3)) fun r=>some (wrap .i64 (v0 + r.1),r.2.1,r.2.2))
theorem d_cn (k0:Pr E g10.A g10.R):∀ v:A,Cn E (d k0.p v) fun i=>d (k0.q i) v:=fun (v0,v1,v2,v3)=>(.br .some (.bnd (k0.h _) fun _=>.some))
theorem f_b (k:Nat):∀ v:A,f k v = d (g10.f k) v:=fun (v0,v1,v2,v3)=>(held_eq _).trans (by kernel_rfl)
theorem F_of (v:A) {r:R} (h:d g10.F v = some r):F v = some r:=join_of (fun L=>f_b (L 0) v) (d_cn (lp g10.f 0) v) h
noncomputable def spec (k:Nat):List AV→List Slot→Option Ans:=specS sh os (f k)
theorem spec_ok (k:Nat):SpecOk Try.prog 15 (spec k):=specS_ok cs_ok Try.func15 rfl rfl (fun _ _=>held_eq _) k
end g11
noncomputable def tg11:=tg10.cons 15 g11.spec g11.spec_ok
namespace g12 -- spymake_Stream_Vec
abbrev R:Type:=Int × Int × Int × List Int × Int
abbrev A:Type:=List Int × Int
abbrev Y:=A→Option R
def lv:List (Nat × List Nat):=[(2000000,[2]),(1000005,[2,4])]
noncomputable def cs:Nat→Ctx:=ctxOf tis modes tg11.1 lv
theorem cs_ok (n:Nat):CtxOk Try.prog (cs n):=ctxOf_ok rfl tis_ok tg11.2 n
def sh:AS:=⟨[(.c (.ptr 128000000 0))],[(.box [.frz (.int .i64),.int .i64])]⟩
def os:OS:=⟨.agg [.int .i64,.int .i64,.int .i64],[(.box [.frz (.int .i64),.int .i64])]⟩
def enc (r:R):Out:=os.enc r
def dec:Out→Option R:=os.dec
noncomputable def b0:Code:=subF [] Try.f7
noncomputable def K0 (k:Nat):Kt R:=kTop (cs k) Try.f7 dec
noncomputable def c1000005:Code:=sub [1,1,1,1] b0
noncomputable def J1000005 ( k:Nat):Kt R:=kAt (cs k) (loopN cs k) [1,1,1,1] b0 (K0 k)
abbrev T0:Type:=List Int × Int × Int × Int × Int × Int × Int × Int
abbrev Y0:=T0→Option R
def s0:T0→St:=fun (v0,v1,v2,v3,v4,v5,v6,v7)=>⟨31,1,[(2,.c (.ptr 64000000 0)),(4,.c (.ptr 64000001 0))],[],[(128000000,.box [.frz (.int .i64) v0,.int .i64 v1]),(256000000,.gone),(64000000,.box [.int .i64 v2,.int .i64 v3,.int .i64 v4]),(64000001,.box [.int .i64 v5,.int .i64 v6,.int .i64 v7])]⟩
noncomputable def l0 ( k:Nat) (v:T0):Option R:=held (run (cs k) (loopN cs k) c1000005 (J1000005 k) (s0 v))
noncomputable def D0 (v:T0):Option R:=lim fun L=>l0 (L 0) v
theorem D0_cn (v:T0):Cn late (D0 v) fun L=>l0 (L 0) v:=of_lim
def d0:Y0:=fun (v0,v1,v2,v3,v4,v5,v6,v7) =>
some (v5,v6,v7,v0,v1)
theorem d0_cn:∀ v:T0,Cn E (d0 v) fun i=>d0 v:=fun (v0,v1,v2,v3,v4,v5,v6,v7)=>.some
theorem l0_b ( k:Nat):∀ v:T0,run (cs k) (loopN cs k) c1000005 (J1000005 k) (s0 v) = d0 v:=fun (v0,v1,v2,v3,v4,v5,v6,v7)=>by kernel_rfl
theorem D0_of (v:T0) {r:R} (h:d0 v = some r):D0 v = some r:=join_of (fun L=>(held_eq _).trans (l0_b (L 0) v)) (d0_cn v) h
noncomputable def f (k:Nat):Y:=fun v=>held (runFn cs k Try.f7 (sh.args v) (sh.slots v) dec)
noncomputable def F:Y:=lm f
noncomputable def d (p0:g10.Y) (p1:g11.Y) (p2:Y0):Y:=fun (v0,v1) =>
bnd (p0 (4,v0,v1)) fun r=>br (decide (0 ≤ r.1 ∧ r.1 < (↑[3,100,5000,1048576].length:Int))) (bnd (p1 (wrap .i64 (0 - rd (Ty.int .i64) [3,100,5000,1048576] r.1),rd (Ty.int .i64) [3,100,5000,1048576] r.1,r.2.1,r.2.2)) fun r_1=>bnd (p1 (wrap .i64 (0 - rd (Ty.int .i64) [3,100,5000,1048576] r.1),rd (Ty.int .i64) [3,100,5000,1048576] r.1,r_1.2.1,r_1.2.2)) fun r_2=>bnd (p1 (wrap .i64 (0 - rd (Ty.int .i64) [3,100,5000,1048576] r.1),rd (Ty.int .i64) [3,100,5000,1048576] r.1,r_2.2.1,r_2.2.2)) fun r=>br (decide (r_1.1 = 0) && (decide (r_2.1 = 0) && (decide (r.1 = 0) && true))) (p2 (r.2.1,r.2.2,0,0,0,1,r_2.1,r.1)) (p2 (r.2.1,r.2.2,0,0,0,r_1.1,r_2.1,r.1))) none
theorem d_cn (k0:Pr E g10.A g10.R) (k1:Pr E g11.A g11.R) (k2:Pr E T0 R):∀ v:A,Cn E (d k0.p k1.p k2.p v) fun i=>d (k0.q i) (k1.q i) (k2.q i) v:=fun (v0,v1)=>(.bnd (k0.h _) fun _=>(.br (.bnd (k1.h _) fun _=>(.bnd (k1.h _) fun _=>(.bnd (k1.h _) fun _=>(.br (k2.h _) (k2.h _))))) .none))
theorem f_b (k:Nat):∀ v:A,f k v = d (g10.f k) (g11.f k) (l0 k) v:=fun (v0,v1)=>(held_eq _).trans (by kernel_rfl)
theorem F_of (v:A) {r:R} (h:d g10.F g11.F D0 v = some r):F v = some r:=join_of (fun L=>f_b (L 0) v) (d_cn (lp g10.f 0) (lp g11.f 0) (.mk fun v=>(D0_cn v).re [0]) v) h
noncomputable def spec (k:Nat):List AV→List Slot→Option Ans:=specS sh os (f k)
theorem spec_ok (k:Nat):SpecOk Try.prog 7 (spec k):=specS_ok cs_ok Try.func7 rfl rfl (fun _ _=>held_eq _) k
end g12
noncomputable def tg12:=tg11.cons 7 g12.spec g12.spec_ok
namespace g13 -- spymake_Stream_Night
abbrev R:Type:=Int × Int × Int × Int × Int × Int × Int × Int × Int × Int × Int × Int × Int × Int × Int × Int × List Int × Int × List Int
abbrev A:Type:=Int × List Int × Int
abbrev Y:=A→Option R
def lv:List (Nat × List Nat):=[(2000000,[4]),(1000012,[0,4,5]),(13,[0,4,5,71,72]),(1000017,[0,4,5,7,71,72]),(1000018,[0,4,5,71,72])]
noncomputable def cs:Nat→Ctx:=ctxOf tis modes tg12.1 lv
theorem cs_ok (n:Nat):CtxOk Try.prog (cs n):=ctxOf_ok rfl tis_ok tg12.2 n
def sh:AS:=⟨[.c (.ptr 128000000 0),.c (.int .i64)],[(.box [.frz (.int .i64),.int .i64])]⟩
def os:OS:=⟨.agg [.int .i64,.int .i64,.int .i64,.int .i64,.int .i64,.int .i64,.int .i64,.int .i64,.int .i64,.int .i64,.int .i64,.int .i64,.int .i64,.int .i64,.int .i64,.int .i64,.sl 128000001],[.box [.frz (.int .i64),.int .i64],.row (.int .i64)]⟩
def enc (r:R):Out:=os.enc r
def dec:Out→Option R:=os.dec
noncomputable def b0:Code:=subF [] Try.f5
noncomputable def K0 (k:Nat):Kt R:=kTop (cs k) Try.f5 dec
noncomputable def c1000012:Code:=sub [1,1,1,1,1,1,1,1] b0
noncomputable def J1000012 ( k:Nat):Kt R:=kAt (cs k) (loopN cs k) [1,1,1,1,1,1,1,1] b0 (K0 k)
noncomputable def b13:Code:=sub [1,1,1,1,1,1,1,1,0,1,0,0] b0
noncomputable def K13 ( k:Nat):Kt R:=kAt (cs k) (loopN cs k) [1,1,1,1,1,1,1,1,0,1,0] b0 (K0 k)
noncomputable def c1000018:Code:=sub [1,1,1] b13
noncomputable def J1000018 ( k m1:Nat):Kt R:=kAt (cs m1) (loopN cs m1) [1,1,1] b13 (kLoop cs m1 b13 (K13 k))
noncomputable def c1000017:Code:=sub [1,1,0,0,1,1] b13
noncomputable def J1000017 ( k m1:Nat):Kt R:=kAt (cs m1) (loopN cs m1) [1,1,0,0,1,1] b13 (kLoop cs m1 b13 (K13 k))
abbrev T0:Type:=List Int × Int × Int × Int × Int × Int × Int × Int × Int × Int × Int × Int × Int × Int × Int × Int × Int × Int × Int × Int × Int × Int × Int × Int × Int × Int × Int × Int × Int × Int × Int × Int × Int × Int × List Int × List Int
abbrev Y0:=T0→Option R
noncomputable def s0:T0→St:=fun (v0,v1,v2,v3,v4,v5,v6,v7,v8,v9,v10,v11,v12,v13,v14,v15,v16,v17,v18,v19,v20,v21,v22,v23,v24,v25,v26,v27,v28,v29,v30,v31,v32,v33,v34,v35)=>⟨87,1,[(0,.c (.ptr 128000000 0)),(4,.c (.ptr 64000000 0)),(5,.c (.ptr 64000001 0))],[],[(128000000,.box [.frz (.int .i64) v0,.int .i64 v1]),(256000000,.gone),(64000000,.box [.int .i64 v2,.int .i64 v3,.int .i64 v4,.int .i64 v5,.int .i64 v6,.int .i64 v7,.int .i64 v8,.int .i64 v9,.int .i64 v10,.int .i64 v11,.int .i64 v12,.int .i64 v13,.int .i64 v14,.int .i64 v15,.int .i64 v16,.int .i64 v17,.sl 64000002]),(64000001,.box [.int .i64 v18,.int .i64 v19,.int .i64 v20,.int .i64 v21,.int .i64 v22,.int .i64 v23,.int .i64 v24,.int .i64 v25,.int .i64 v26,.int .i64 v27,.int .i64 v28,.int .i64 v29,.int .i64 v30,.int .i64 v31,.int .i64 v32,.int .i64 v33,.sl 64000003]),(64000002,.row (.int .i64) v34),(64000003,.row (.int .i64) v35)]⟩
noncomputable def l0 ( k:Nat) (v:T0):Option R:=held (run (cs k) (loopN cs k) c1000012 (J1000012 k) (s0 v))
noncomputable def D0 (v:T0):Option R:=lim fun L=>l0 (L 0) v
theorem D0_cn (v:T0):Cn late (D0 v) fun L=>l0 (L 0) v:=of_lim
abbrev T1:Type:=Int × Int × List Int × Int × Int × Int × Int × Int × Int × Int × Int × Int × Int × Int × Int × Int × Int × Int × Int × Int × Int × Int × Int × Int × Int × Int × Int × Int × Int × Int × Int × Int × Int × Int × Int × Int × List Int × List Int
abbrev Y1:=T1→Option R
noncomputable def s1:T1→St:=fun (v0,v1,v2,v3,v4,v5,v6,v7,v8,v9,v10,v11,v12,v13,v14,v15,v16,v17,v18,v19,v20,v21,v22,v23,v24,v25,v26,v27,v28,v29,v30,v31,v32,v33,v34,v35,v36,v37)=>⟨87,1,[(0,.c (.ptr 128000000 0)),(4,.c (.ptr 64000000 0)),(5,.c (.ptr 64000001 0)),(71,.c (.int .i64 v0)),(72,.c (.int .i64 v1))],[],[(128000000,.box [.frz (.int .i64) v2,.int .i64 v3]),(256000000,.gone),(64000000,.box [.int .i64 v4,.int .i64 v5,.int .i64 v6,.int .i64 v7,.int .i64 v8,.int .i64 v9,.int .i64 v10,.int .i64 v11,.int .i64 v12,.int .i64 v13,.int .i64 v14,.int .i64 v15,.int .i64 v16,.int .i64 v17,.int .i64 v18,.int .i64 v19,.sl 64000002]),(64000001,.box [.int .i64 v20,.int .i64 v21,.int .i64 v22,.int .i64 v23,.int .i64 v24,.int .i64 v25,.int .i64 v26,.int .i64 v27,.int .i64 v28,.int .i64 v29,.int .i64 v30,.int .i64 v31,.int .i64 v32,.int .i64 v33,.int .i64 v34,.int .i64 v35,.sl 64000003]),(64000002,.row (.int .i64) v36),(64000003,.row (.int .i64) v37)]⟩
noncomputable def l1 ( k n:Nat) (v:T1):Option R:=held (loopN cs n b13 (K13 k) (s1 v))
noncomputable def D1 (v:T1):Option R:=lim fun L=>l1 (L 0) (L 1) v
theorem D1_cn (v:T1):Cn late (D1 v) fun L=>l1 (L 0) (L 1) v:=of_lim
abbrev T2:Type:=Int × Int × Int × List Int × Int × Int × Int × Int × Int × Int × Int × Int × Int × Int × Int × Int × Int × Int × Int × Int × Int × Int × Int × Int × Int × Int × Int × Int × Int × Int × Int × Int × Int × Int × Int × Int × Int × List Int × List Int
abbrev Y2:=T2→Option R
noncomputable def s2:T2→St:=fun (v0,v1,v2,v3,v4,v5,v6,v7,v8,v9,v10,v11,v12,v13,v14,v15,v16,v17,v18,v19,v20,v21,v22,v23,v24,v25,v26,v27,v28,v29,v30,v31,v32,v33,v34,v35,v36,v37,v38)=>⟨87,1,[(0,.c (.ptr 128000000 0)),(4,.c (.ptr 64000000 0)),(5,.c (.ptr 64000001 0)),(7,.c (.int .i64 v0)),(71,.c (.int .i64 v1)),(72,.c (.int .i64 v2))],[],[(128000000,.box [.frz (.int .i64) v3,.int .i64 v4]),(256000000,.gone),(64000000,.box [.int .i64 v5,.int .i64 v6,.int .i64 v7,.int .i64 v8,.int .i64 v9,.int .i64 v10,.int .i64 v11,.int .i64 v12,.int .i64 v13,.int .i64 v14,.int .i64 v15,.int .i64 v16,.int .i64 v17,.int .i64 v18,.int .i64 v19,.int .i64 v20,.sl 64000002]),(64000001,.box [.int .i64 v21,.int .i64 v22,.int .i64 v23,.int .i64 v24,.int .i64 v25,.int .i64 v26,.int .i64 v27,.int .i64 v28,.int .i64 v29,.int .i64 v30,.int .i64 v31,.int .i64 v32,.int .i64 v33,.int .i64 v34,.int .i64 v35,.int .i64 v36,.sl 64000003]),(64000002,.row (.int .i64) v37),(64000003,.row (.int .i64) v38)]⟩
noncomputable def l2 ( k m1:Nat) (v:T2):Option R:=held (run (cs m1) (loopN cs m1) c1000017 (J1000017 k m1) (s2 v))
noncomputable def D2 (v:T2):Option R:=lim fun L=>l2 (L 0) (L 1) v
theorem D2_cn (v:T2):Cn late (D2 v) fun L=>l2 (L 0) (L 1) v:=of_lim
abbrev T3:Type:=Int × Int × List Int × Int × Int × Int × Int × Int × Int × Int × Int × Int × Int × Int × Int × Int × Int × Int × Int × Int × Int × Int × Int × Int × Int × Int × Int × Int × Int × Int × Int × Int × Int × Int × Int × Int × List Int × List Int
abbrev Y3:=T3→Option R
noncomputable def s3:T3→St:=fun (v0,v1,v2,v3,v4,v5,v6,v7,v8,v9,v10,v11,v12,v13,v14,v15,v16,v17,v18,v19,v20,v21,v22,v23,v24,v25,v26,v27,v28,v29,v30,v31,v32,v33,v34,v35,v36,v37)=>⟨87,1,[(0,.c (.ptr 128000000 0)),(4,.c (.ptr 64000000 0)),(5,.c (.ptr 64000001 0)),(71,.c (.int .i64 v0)),(72,.c (.int .i64 v1))],[],[(128000000,.box [.frz (.int .i64) v2,.int .i64 v3]),(256000000,.gone),(64000000,.box [.int .i64 v4,.int .i64 v5,.int .i64 v6,.int .i64 v7,.int .i64 v8,.int .i64 v9,.int .i64 v10,.int .i64 v11,.int .i64 v12,.int .i64 v13,.int .i64 v14,.int .i64 v15,.int .i64 v16,.int .i64 v17,.int .i64 v18,.int .i64 v19,.sl 64000002]),(64000001,.box [.int .i64 v20,.int .i64 v21,.int .i64 v22,.int .i64 v23,.int .i64 v24,.int .i64 v25,.int .i64 v26,.int .i64 v27,.int .i64 v28,.int .i64 v29,.int .i64 v30,.int .i64 v31,.int .i64 v32,.int .i64 v33,.int .i64 v34,.int .i64 v35,.sl 64000003]),(64000002,.row (.int .i64) v36),(64000003,.row (.int .i64) v37)]⟩
noncomputable def l3 ( k m1:Nat) (v:T3):Option R:=held (run (cs m1) (loopN cs m1) c1000018 (J1000018 k m1) (s3 v))
noncomputable def D3 (v:T3):Option R:=lim fun L=>l3 (L 0) (L 1) v
theorem D3_cn (v:T3):Cn late (D3 v) fun L=>l3 (L 0) (L 1) v:=of_lim
def d0 (p0:Y1):Y0:=fun (v0,v1,v2,v3,v4,v5,v6,v7,v8,v9,v10,v11,v12,v13,v14,v15,v16,v17,v18,v19,v20,v21,v22,v23,v24,v25,v26,v27,v28,v29,v30,v31,v32,v33,v34,v35) =>
p0 (v26,0,v0,v1,v2,v3,v4,v5,v6,v7,v8,v9,v10,v11,v12,v13,v14,v15,v16,v17,v18,v19,v20,v21,v22,v23,v24,v25,v26,v27,v28,v29,v30,v31,v32,v33,v34,v35)
theorem d0_cn (k0:Pr E T1 R):∀ v:T0,Cn E (d0 k0.p v) fun i=>d0 (k0.q i) v:=fun (v0,v1,v2,v3,v4,v5,v6,v7,v8,v9,v10,v11,v12,v13,v14,v15,v16,v17,v18,v19,v20,v21,v22,v23,v24,v25,v26,v27,v28,v29,v30,v31,v32,v33,v34,v35)=>(k0.h _)
theorem l0_b ( k:Nat):∀ v:T0,run (cs k) (loopN cs k) c1000012 (J1000012 k) (s0 v) = d0 (l1 k k) v:=fun (v0,v1,v2,v3,v4,v5,v6,v7,v8,v9,v10,v11,v12,v13,v14,v15,v16,v17,v18,v19,v20,v21,v22,v23,v24,v25,v26,v27,v28,v29,v30,v31,v32,v33,v34,v35)=>by kernel_rfl
theorem D0_of (v:T0) {r:R} (h:d0 D1 v = some r):D0 v = some r:=join_of (fun L=>(held_eq _).trans (l0_b (L 0) v)) (d0_cn (.mk fun v=>(D1_cn v).re [0,0]) v) h
noncomputable def d1 (p0:g10.Y) (p1:Y2):Y1:=fun (v0,v1,v2,v3,v4,v5,v6,v7,v8,v9,v10,v11,v12,v13,v14,v15,v16,v17,v18,v19,v20,v21,v22,v23,v24,v25,v26,v27,v28,v29,v30,v31,v32,v33,v34,v35,v36,v37) =>
br (decide (v1 < v0)) (bnd (p0 (5,v2,v3)) fun r=>br (decide (r.1 = 0)) (bnd (p0 (5,r.2.1,r.2.2)) fun r=>p1 (r.1,v0,v1,r.2.1,r.2.2,v4,v5,v6,v7,v8,v9,v10,v11,v12,v13,v14,v15,v16,v17,v18,v19,v20,v21,v22,v23,v24,v25,v26,v27,v28,v29,v30,v31,v32,v33,v34,v35,v36,v37)) (p1 (0,v0,v1,r.2.1,r.2.2,v4,v5,v6,v7,v8,v9,v10,v11,v12,v13,v14,v15,v16,v17,v18,v19,v20,v21,v22,v23,v24,v25,v26,v27,v28,v29,v30,v31,v32,v33,v34,v35,v36,v37))) (some (v20,v21,v22,v23,v24,v25,v26,v27,v28,v29,v30,v31,v32,v33,v34,v35,v2,v3,v37))
theorem d1_cn (k0:Pr E g10.A g10.R) (k1:Pr E T2 R):∀ v:T1,Cn E (d1 k0.p k1.p v) fun i=>d1 (k0.q i) (k1.q i) v:=fun (v0,v1,v2,v3,v4,v5,v6,v7,v8,v9,v10,v11,v12,v13,v14,v15,v16,v17,v18,v19,v20,v21,v22,v23,v24,v25,v26,v27,v28,v29,v30,v31,v32,v33,v34,v35,v36,v37)=>(.br (.bnd (k0.h _) fun _=>(.br (.bnd (k0.h _) fun _=>(k1.h _)) (k1.h _))) .some)
theorem l1_b ( k m1:Nat):∀ v:T1,run (cs m1) (loopN cs m1) b13 (kLoop cs m1 b13 (K13 k)) (s1 v) = d1 (g10.f m1) (l2 k m1) v:=fun (v0,v1,v2,v3,v4,v5,v6,v7,v8,v9,v10,v11,v12,v13,v14,v15,v16,v17,v18,v19,v20,v21,v22,v23,v24,v25,v26,v27,v28,v29,v30,v31,v32,v33,v34,v35,v36,v37)=>by kernel_rfl
theorem D1_of (v:T1) {r:R} (h:d1 g10.F D2 v = some r):D1 v = some r:=loop_of 1 (fun L n hn=>by show l1 (L 0) (L 1) v = _; rw [hn]; exact (held_eq _).trans ((loopN_succ _ _ _ _ _).trans (l1_b (L 0) n v))) (d1_cn (lp g10.f 1) (.mk fun v=>(D2_cn v).re [0,1]) v) h
def d2 (p0:Y3):Y2:=fun (v0,v1,v2,v3,v4,v5,v6,v7,v8,v9,v10,v11,v12,v13,v14,v15,v16,v17,v18,v19,v20,v21,v22,v23,v24,v25,v26,v27,v28,v29,v30,v31,v32,v33,v34,v35,v36,v37,v38) =>
br (decide (v38.length + [v0].length ≤ 140737488355328 / 8)) (p0 (v1,v2,v3,v4,v5,v6,v7,v8,v9,v10,v11,v12,v13,v14,v15,v16,v17,v18,v19,v20,v21,v22,v23,v24,v25,v26,v27,v28,v29,v30,v31,v32,v33,v34,v35,v36,v37,v38 ++ [v0])) none
theorem d2_cn (k0:Pr E T3 R):∀ v:T2,Cn E (d2 k0.p v) fun i=>d2 (k0.q i) v:=fun (v0,v1,v2,v3,v4,v5,v6,v7,v8,v9,v10,v11,v12,v13,v14,v15,v16,v17,v18,v19,v20,v21,v22,v23,v24,v25,v26,v27,v28,v29,v30,v31,v32,v33,v34,v35,v36,v37,v38)=>(.br (k0.h _) .none)
theorem l2_b ( k m1:Nat):∀ v:T2,run (cs m1) (loopN cs m1) c1000017 (J1000017 k m1) (s2 v) = d2 (l3 k m1) v:=fun (v0,v1,v2,v3,v4,v5,v6,v7,v8,v9,v10,v11,v12,v13,v14,v15,v16,v17,v18,v19,v20,v21,v22,v23,v24,v25,v26,v27,v28,v29,v30,v31,v32,v33,v34,v35,v36,v37,v38)=>by kernel_rfl
theorem D2_of (v:T2) {r:R} (h:d2 D3 v = some r):D2 v = some r:=join_of (fun L=>(held_eq _).trans (l2_b (L 0) (L 1) v)) (d2_cn (.mk fun v=>(D3_cn v).re [0,1]) v) h
def d3 (p0:Y1):Y3:=fun (v0,v1,v2,v3,v4,v5,v6,v7,v8,v9,v10,v11,v12,v13,v14,v15,v16,v17,v18,v19,v20,v21,v22,v23,v24,v25,v26,v27,v28,v29,v30,v31,v32,v33,v34,v35,v36,v37) =>
p0 (v0,wrap .i64 (v1 + 1),v2,v3,v4,v5,v6,v7,v8,v9,v10,v11,v12,v13,v14,v15,v16,v17,v18,v19,v20,v21,v22,v23,v24,v25,v26,v27,v28,v29,v30,v31,v32,v33,v34,v35,v36,v37)
theorem d3_cn (k0:Pr E T1 R):∀ v:T3,Cn E (d3 k0.p v) fun i=>d3 (k0.q i) v:=fun (v0,v1,v2,v3,v4,v5,v6,v7,v8,v9,v10,v11,v12,v13,v14,v15,v16,v17,v18,v19,v20,v21,v22,v23,v24,v25,v26,v27,v28,v29,v30,v31,v32,v33,v34,v35,v36,v37)=>(k0.h _)
theorem l3_b ( k m1:Nat):∀ v:T3,run (cs m1) (loopN cs m1) c1000018 (J1000018 k m1) (s3 v) = d3 (l1 k m1) v:=fun (v0,v1,v2,v3,v4,v5,v6,v7,v8,v9,v10,v11,v12,v13,v14,v15,v16,v17,v18,v19,v20,v21,v22,v23,v24,v25,v26,v27,v28,v29,v30,v31,v32,v33,v34,v35,v36,v37)=>by kernel_rfl
theorem D3_of (v:T3) {r:R} (h:d3 D1 v = some r):D3 v = some r:=join_of (fun L=>(held_eq _).trans (l3_b (L 0) (L 1) v)) (d3_cn (.mk fun v=>(D1_cn v).re [0,1]) v) h
noncomputable def f (k:Nat):Y:=fun v=>held (runFn cs k Try.f5 (sh.args v) (sh.slots v) dec)
noncomputable def F:Y:=lm f
noncomputable def d (p0:g11.Y) (p1:g10.Y) (p2:g12.Y) (p3:Y0):Y:=fun (v0,v1,v2) =>
bnd (p0 (1,v0,v1,v2)) fun r=>bnd (p0 (60,1800,r.2.1,r.2.2)) fun r_1=>bnd (p0 (-1000,1000,r_1.2.1,r_1.2.2)) fun r_2=>bnd (p0 (-16,16,r_2.2.1,r_2.2.2)) fun r_3=>bnd (p1 (64,r_3.2.1,r_3.2.2)) fun r_4=>bnd (p0 (-1000,1000,r_4.2.1,r_4.2.2)) fun r_5=>bnd (p1 (1073741824,r_5.2.1,r_5.2.2)) fun r_6=>bnd (p1 (4,r_6.2.1,r_6.2.2)) fun r_7=>br (decide (0 ≤ r_7.1 ∧ r_7.1 < (↑[(99429,1994),(50,1),(1,1),(100,1)].length:Int))) (bnd (p2 (r_7.2.1,r_7.2.2)) fun r_8=>bnd (p2 (r_8.2.2.2.1,r_8.2.2.2.2)) fun r_9=>bnd (p1 (3,r_9.2.2.2.1,r_9.2.2.2.2)) fun r_10=>bnd (p1 (4,r_10.2.1,r_10.2.2)) fun r_11=>br (decide (0 < r_11.1)) (br (decide (wrap .i64 (r_3.1 * 67108864) < 0)) (p3 (r_11.2.1,r_11.2.2,0,0,0,0,0,0,0,0,0,0,0,0,0,0,0,0,-536870912,wrap .i64 (r_4.1 * 67108864),r_5.1,r_6.1,(rd ((Ty.int .i64).pair (Ty.int .i64)) [(99429,1994),(50,1),(1,1),(100,1)] r_7.1).1,(rd ((Ty.int .i64).pair (Ty.int .i64)) [(99429,1994),(50,1),(1,1),(100,1)] r_7.1).2,wrap .i64 (r_2.1 * 997000),wrap .i64 (r_1.1 * 1000),r.1,1,0,40,r_9.1,r_9.2.1,r_9.2.2.1,0,[],[])) (p3 (r_11.2.1,r_11.2.2,0,0,0,0,0,0,0,0,0,0,0,0,0,0,0,0,536870912,wrap .i64 (r_4.1 * 67108864),r_5.1,r_6.1,(rd ((Ty.int .i64).pair (Ty.int .i64)) [(99429,1994),(50,1),(1,1),(100,1)] r_7.1).1,(rd ((Ty.int .i64).pair (Ty.int .i64)) [(99429,1994),(50,1),(1,1),(100,1)] r_7.1).2,wrap .i64 (r_2.1 * 997000),wrap .i64 (r_1.1 * 1000),r.1,1,0,-40,r_9.1,r_9.2.1,r_9.2.2.1,0,[],[]))) (p3 (r_11.2.1,r_11.2.2,0,0,0,0,0,0,0,0,0,0,0,0,0,0,0,0,wrap .i64 (r_3.1 * 67108864),wrap .i64 (r_4.1 * 67108864),r_5.1,r_6.1,(rd ((Ty.int .i64).pair (Ty.int .i64)) [(99429,1994),(50,1),(1,1),(100,1)] r_7.1).1,(rd ((Ty.int .i64).pair (Ty.int .i64)) [(99429,1994),(50,1),(1,1),(100,1)] r_7.1).2,wrap .i64 (r_2.1 * 997000),wrap .i64 (r_1.1 * 1000),r.1,r_8.1,r_8.2.1,r_8.2.2.1,r_9.1,r_9.2.1,r_9.2.2.1,wrap .i64 (wrap .i64 (0 - r_10.1) * 134217728),[],[]))) none
theorem d_cn (k0:Pr E g11.A g11.R) (k1:Pr E g10.A g10.R) (k2:Pr E g12.A g12.R) (k3:Pr E T0 R):∀ v:A,Cn E (d k0.p k1.p k2.p k3.p v) fun i=>d (k0.q i) (k1.q i) (k2.q i) (k3.q i) v:=fun (v0,v1,v2)=>(.bnd (k0.h _) fun _=>(.bnd (k0.h _) fun _=>(.bnd (k0.h _) fun _=>(.bnd (k0.h _) fun _=>(.bnd (k1.h _) fun _=>(.bnd (k0.h _) fun _=>(.bnd (k1.h _) fun _=>(.bnd (k1.h _) fun _=>(.br (.bnd (k2.h _) fun _=>(.bnd (k2.h _) fun _=>(.bnd (k1.h _) fun _=>(.bnd (k1.h _) fun _=>(.br (.br (k3.h _) (k3.h _)) (k3.h _)))))) .none)))))))))
theorem f_b (k:Nat):∀ v:A,f k v = d (g11.f k) (g10.f k) (g12.f k) (l0 k) v:=fun (v0,v1,v2)=>(held_eq _).trans (by kernel_rfl)
theorem F_of (v:A) {r:R} (h:d g11.F g10.F g12.F D0 v = some r):F v = some r:=join_of (fun L=>f_b (L 0) v) (d_cn (lp g11.f 0) (lp g10.f 0) (lp g12.f 0) (.mk fun v=>(D0_cn v).re [0]) v) h
noncomputable def spec (k:Nat):List AV→List Slot→Option Ans:=specS sh os (f k)
theorem spec_ok (k:Nat):SpecOk Try.prog 5 (spec k):=specS_ok cs_ok Try.func5 rfl rfl (fun _ _=>held_eq _) k
end g13
noncomputable def tg13:=tg12.cons 5 g13.spec g13.spec_ok
namespace g14 -- spymake_Stream_Axis
abbrev R:Type:=Int × Int × Int × Int × List Int × Int
abbrev A:Type:=List Int × Int
abbrev Y:=A→Option R
def lv:List (Nat × List Nat):=[(2000000,[2]),(1000006,[0,2,3,4]),(1000009,[2,3,4,5,6])]
noncomputable def cs:Nat→Ctx:=ctxOf tis modes tg13.1 lv
theorem cs_ok (n:Nat):CtxOk Try.prog (cs n):=ctxOf_ok rfl tis_ok tg13.2 n
def sh:AS:=⟨[(.c (.ptr 128000000 0))],[(.box [.frz (.int .i64),.int .i64])]⟩
def os:OS:=⟨.agg [.int .i64,.int .i64,.int .i64,.int .i64],[(.box [.frz (.int .i64),.int .i64])]⟩
def enc (r:R):Out:=os.enc r
def dec:Out→Option R:=os.dec
noncomputable def b0:Code:=subF [] Try.f17
noncomputable def K0 (k:Nat):Kt R:=kTop (cs k) Try.f17 dec
noncomputable def c1000006:Code:=sub [1,1,1,1] b0
noncomputable def J1000006 ( k:Nat):Kt R:=kAt (cs k) (loopN cs k) [1,1,1,1] b0 (K0 k)
noncomputable def c1000009:Code:=sub [1,1,1,1,1,1] b0
noncomputable def J1000009 ( k:Nat):Kt R:=kAt (cs k) (loopN cs k) [1,1,1,1,1,1] b0 (K0 k)
abbrev T0:Type:=Int × Int × List Int × Int × Int × Int × Int × Int
abbrev Y0:=T0→Option R
def s0:T0→St:=fun (v0,v1,v2,v3,v4,v5,v6,v7)=>⟨56,1,[(0,.c (.ptr 128000000 0)),(2,.c (.ptr 64000000 0)),(3,.c (.int .i64 v0)),(4,.c (.int .i64 v1))],[],[(128000000,.box [.frz (.int .i64) v2,.int .i64 v3]),(256000000,.gone),(64000000,.box [.int .i64 v4,.int .i64 v5,.int .i64 v6,.int .i64 v7])]⟩
noncomputable def l0 ( k:Nat) (v:T0):Option R:=held (run (cs k) (loopN cs k) c1000006 (J1000006 k) (s0 v))
noncomputable def D0 (v:T0):Option R:=lim fun L=>l0 (L 0) v
theorem D0_cn (v:T0):Cn late (D0 v) fun L=>l0 (L 0) v:=of_lim
abbrev T1:Type:=Int × Int × Int × Int × List Int × Int × Int × Int × Int × Int
abbrev Y1:=T1→Option R
def s1:T1→St:=fun (v0,v1,v2,v3,v4,v5,v6,v7,v8,v9)=>⟨56,1,[(2,.c (.ptr 64000000 0)),(3,.c (.int .i64 v0)),(4,.c (.int .i64 v1)),(5,.c (.int .i64 v2)),(6,.c (.int .i64 v3))],[],[(128000000,.box [.frz (.int .i64) v4,.int .i64 v5]),(256000000,.gone),(64000000,.box [.int .i64 v6,.int .i64 v7,.int .i64 v8,.int .i64 v9])]⟩
noncomputable def l1 ( k:Nat) (v:T1):Option R:=held (run (cs k) (loopN cs k) c1000009 (J1000009 k) (s1 v))
noncomputable def D1 (v:T1):Option R:=lim fun L=>l1 (L 0) v
theorem D1_cn (v:T1):Cn late (D1 v) fun L=>l1 (L 0) v:=of_lim
def d0 (p0:g11.Y) (p1:g10.Y) (p2:Y1):Y0:=fun (v0,v1,v2,v3,v4,v5,v6,v7) =>
bnd (p0 (0,6,v2,v3)) fun r=>bnd (p0 (1,6,r.2.1,r.2.2)) fun r_1=>bnd (p1 (4,r_1.2.1,r_1.2.2)) fun r_2=>br (decide (r_2.1 = 0)) (bnd (p1 (1048576,r_2.2.1,r_2.2.2)) fun r_3=>bnd (p1 (1048576,r_3.2.1,r_3.2.2)) fun r_4=>p2 (v0,v1,wrap .i64 (wrap .i64 (wrap .i64 (0 - r.1) * 1073741824) + r_3.1),wrap .i64 (wrap .i64 (r_1.1 * 1073741824) - r_4.1),r_4.2.1,r_4.2.2,v4,v5,v6,v7)) (p2 (v0,v1,wrap .i64 (wrap .i64 (0 - r.1) * 1073741824),wrap .i64 (r_1.1 * 1073741824),r_2.2.1,r_2.2.2,v4,v5,v6,v7))
theorem d0_cn (k0:Pr E g11.A g11.R) (k1:Pr E g10.A g10.R) (k2:Pr E T1 R):∀ v:T0,Cn E (d0 k0.p k1.p k2.p v) fun i=>d0 (k0.q i) (k1.q i) (k2.q i) v:=fun (v0,v1,v2,v3,v4,v5,v6,v7)=>(.bnd (k0.h _) fun _=>(.bnd (k0.h _) fun _=>(.bnd (k1.h _) fun _=>(.br (.bnd (k1.h _) fun _=>(.bnd (k1.h _) fun _=>(k2.h _))) (k2.h _)))))
theorem l0_b ( k:Nat):∀ v:T0,run (cs k) (loopN cs k) c1000006 (J1000006 k) (s0 v) = d0 (g11.f k) (g10.f k) (l1 k) v:=fun (v0,v1,v2,v3,v4,v5,v6,v7)=>by kernel_rfl
theorem D0_of (v:T0) {r:R} (h:d0 g11.F g10.F D1 v = some r):D0 v = some r:=join_of (fun L=>(held_eq _).trans (l0_b (L 0) v)) (d0_cn (lp g11.f 0) (lp g10.f 0) (.mk fun v=>(D1_cn v).re [0]) v) h
def d1:Y1:=fun (v0,v1,v2,v3,v4,v5,v6,v7,v8,v9) =>
some (v2,v3,v0,v1,v4,v5)
theorem d1_cn:∀ v:T1,Cn E (d1 v) fun i=>d1 v:=fun (v0,v1,v2,v3,v4,v5,v6,v7,v8,v9)=>.some
theorem l1_b ( k:Nat):∀ v:T1,run (cs k) (loopN cs k) c1000009 (J1000009 k) (s1 v) = d1 v:=fun (v0,v1,v2,v3,v4,v5,v6,v7,v8,v9)=>by kernel_rfl
theorem D1_of (v:T1) {r:R} (h:d1 v = some r):D1 v = some r:=join_of (fun L=>(held_eq _).trans (l1_b (L 0) v)) (d1_cn v) h
noncomputable def f (k:Nat):Y:=fun v=>held (runFn cs k Try.f17 (sh.args v) (sh.slots v) dec)
noncomputable def F:Y:=lm f
noncomputable def d (p0:g11.Y) (p1:g10.Y) (p2:Y0):Y:=fun (v0,v1) =>
bnd (p0 (24,30,v0,v1)) fun r=>br (decide (0 ≤ r.1)) (bnd (p0 (1,8,r.2.1,r.2.2)) fun r_1=>br (!decide (r_1.1 = 0)) (bnd (p1 (3,r_1.2.1,r_1.2.2)) fun r_2=>br (decide (r_2.1 = 0)) (bnd (p1 (1000,r_2.2.1,r_2.2.2)) fun r_3=>br (decide ((0:Int) ≤ 10)) (bnd (p1 (1000,r_3.2.1,r_3.2.2)) fun r_4=>p2 (wrap .i64 (shl .i64 1 r.1 - wrap .i64 (r_3.1 * min 1 (shr .i64 (wrap .i64 (shl .i64 1 r.1 - 16777216)) 10))),min (wrap .i64 (wrap .i64 ((shl .i64 1 r.1).tdiv r_1.1) + r_4.1)) (wrap .i64 (shl .i64 1 r.1 - wrap .i64 (r_3.1 * min 1 (shr .i64 (wrap .i64 (shl .i64 1 r.1 - 16777216)) 10)))),r_4.2.1,r_4.2.2,0,0,0,0)) none) (p2 (shl .i64 1 r.1,wrap .i64 ((shl .i64 1 r.1).tdiv r_1.1),r_2.2.1,r_2.2.2,0,0,0,0))) none) none
theorem d_cn (k0:Pr E g11.A g11.R) (k1:Pr E g10.A g10.R) (k2:Pr E T0 R):∀ v:A,Cn E (d k0.p k1.p k2.p v) fun i=>d (k0.q i) (k1.q i) (k2.q i) v:=fun (v0,v1)=>(.bnd (k0.h _) fun _=>(.br (.bnd (k0.h _) fun _=>(.br (.bnd (k1.h _) fun _=>(.br (.bnd (k1.h _) fun _=>(.br (.bnd (k1.h _) fun _=>(k2.h _)) .none)) (k2.h _))) .none)) .none))
theorem f_b (k:Nat):∀ v:A,f k v = d (g11.f k) (g10.f k) (l0 k) v:=fun (v0,v1)=>(held_eq _).trans (by kernel_rfl)
theorem F_of (v:A) {r:R} (h:d g11.F g10.F D0 v = some r):F v = some r:=join_of (fun L=>f_b (L 0) v) (d_cn (lp g11.f 0) (lp g10.f 0) (.mk fun v=>(D0_cn v).re [0]) v) h
noncomputable def spec (k:Nat):List AV→List Slot→Option Ans:=specS sh os (f k)
theorem spec_ok (k:Nat):SpecOk Try.prog 17 (spec k):=specS_ok cs_ok Try.func17 rfl rfl (fun _ _=>held_eq _) k
end g14
noncomputable def tg14:=tg13.cons 17 g14.spec g14.spec_ok
namespace g15 -- spymake_Stream_Inside
abbrev R:Type:=Int × List Int × Int
abbrev A:Type:=Int × Int × Int × Int × List Int × Int
abbrev Y:=A→Option R
def lv:List (Nat × List Nat):=[(2000000,[4])]
noncomputable def cs:Nat→Ctx:=ctxOf tis modes tg14.1 lv
theorem cs_ok (n:Nat):CtxOk Try.prog (cs n):=ctxOf_ok rfl tis_ok tg14.2 n
def sh:AS:=⟨[.c (.ptr 128000000 0),.agg [.int .i64,.int .i64,.int .i64,.int .i64]],[(.box [.frz (.int .i64),.int .i64])]⟩
def os:OS:=⟨.c (.int .i64),[(.box [.frz (.int .i64),.int .i64])]⟩
def enc (r:R):Out:=os.enc r
def dec:Out→Option R:=os.dec
noncomputable def b0:Code:=subF [] Try.f18
noncomputable def K0 (k:Nat):Kt R:=kTop (cs k) Try.f18 dec
noncomputable def f (k:Nat):Y:=fun v=>held (runFn cs k Try.f18 (sh.args v) (sh.slots v) dec)
noncomputable def F:Y:=lm f
def d (p0:g10.Y):Y:=fun (v0,v1,v2,v3,v4,v5) =>
bnd (p0 (6,v4,v5)) fun r=>br (decide (r.1 = 0)) (some (v0,r.2.1,r.2.2)) (br (decide (r.1 = 1)) (some (v1,r.2.1,r.2.2)) (br (!decide (1000 = 0)) (bnd (p0 (1000,r.2.1,r.2.2)) fun r=>bnd (p0 (wrap .i64 (wrap .i64 ((wrap .i64 (v1 - v0)).tdiv 1000) + 1),r.2.1,r.2.2)) fun r_1=>some (wrap .i64 (wrap .i64 (v0 + wrap .i64 (wrap .i64 ((wrap .i64 (v1 - v0)).tdiv 1000) * r.1)) + r_1.1),r_1.2.1,r_1.2.2)) none))
theorem d_cn (k0:Pr E g10.A g10.R):∀ v:A,Cn E (d k0.p v) fun i=>d (k0.q i) v:=fun (v0,v1,v2,v3,v4,v5)=>(.bnd (k0.h _) fun _=>(.br .some (.br .some (.br (.bnd (k0.h _) fun _=>(.bnd (k0.h _) fun _=>.some)) .none))))
theorem f_b (k:Nat):∀ v:A,f k v = d (g10.f k) v:=fun (v0,v1,v2,v3,v4,v5)=>(held_eq _).trans (by kernel_rfl)
theorem F_of (v:A) {r:R} (h:d g10.F v = some r):F v = some r:=join_of (fun L=>f_b (L 0) v) (d_cn (lp g10.f 0) v) h
noncomputable def spec (k:Nat):List AV→List Slot→Option Ans:=specS sh os (f k)
theorem spec_ok (k:Nat):SpecOk Try.prog 18 (spec k):=specS_ok cs_ok Try.func18 rfl rfl (fun _ _=>held_eq _) k
end g15
noncomputable def tg15:=tg14.cons 18 g15.spec g15.spec_ok
namespace g16 -- spymake_Stream_Mount
abbrev R:Type:=Int × Int × Int × Int × Int × Int × Int × Int × Int × Int × List Int × Int
abbrev A:Type:=List Int × Int
abbrev Y:=A→Option R
def lv:List (Nat × List Nat):=[(2000000,[2]),(1000004,[0,2,3]),(1000006,[0,2,3])]
noncomputable def cs:Nat→Ctx:=ctxOf tis modes tg15.1 lv
theorem cs_ok (n:Nat):CtxOk Try.prog (cs n):=ctxOf_ok rfl tis_ok tg15.2 n
def sh:AS:=⟨[(.c (.ptr 128000000 0))],[(.box [.frz (.int .i64),.int .i64])]⟩
def os:OS:=⟨.agg [.int .i64,.int .i64,.int .i64,.int .i64,.int .i64,.int .i64,.int .i64,.int .i64,.int .i64,.int .i64],[(.box [.frz (.int .i64),.int .i64])]⟩
def enc (r:R):Out:=os.enc r
def dec:Out→Option R:=os.dec
noncomputable def b0:Code:=subF [] Try.f6
noncomputable def K0 (k:Nat):Kt R:=kTop (cs k) Try.f6 dec
noncomputable def c1000004:Code:=sub [1,1,1] b0
noncomputable def J1000004 ( k:Nat):Kt R:=kAt (cs k) (loopN cs k) [1,1,1] b0 (K0 k)
noncomputable def c1000006:Code:=sub [1,1,1,1] b0
noncomputable def J1000006 ( k:Nat):Kt R:=kAt (cs k) (loopN cs k) [1,1,1,1] b0 (K0 k)
abbrev T0:Type:=List Int × Int × Int × Int × Int × Int × Int × Int × Int × Int × Int × Int × Int × Int × Int × Int × Int × Int × Int × Int × Int × Int
abbrev Y0:=T0→Option R
def s0:T0→St:=fun (v0,v1,v2,v3,v4,v5,v6,v7,v8,v9,v10,v11,v12,v13,v14,v15,v16,v17,v18,v19,v20,v21)=>⟨34,1,[(0,.c (.ptr 128000000 0)),(2,.c (.ptr 64000000 0)),(3,.c (.ptr 64000001 0))],[],[(128000000,.box [.frz (.int .i64) v0,.int .i64 v1]),(256000000,.gone),(64000000,.box [.int .i64 v2,.int .i64 v3,.int .i64 v4,.int .i64 v5,.int .i64 v6,.int .i64 v7,.int .i64 v8,.int .i64 v9,.int .i64 v10,.int .i64 v11]),(64000001,.box [.int .i64 v12,.int .i64 v13,.int .i64 v14,.int .i64 v15,.int .i64 v16,.int .i64 v17,.int .i64 v18,.int .i64 v19,.int .i64 v20,.int .i64 v21])]⟩
noncomputable def l0 ( k:Nat) (v:T0):Option R:=held (run (cs k) (loopN cs k) c1000004 (J1000004 k) (s0 v))
noncomputable def D0 (v:T0):Option R:=lim fun L=>l0 (L 0) v
theorem D0_cn (v:T0):Cn late (D0 v) fun L=>l0 (L 0) v:=of_lim
abbrev T1:Type:=List Int × Int × Int × Int × Int × Int × Int × Int × Int × Int × Int × Int × Int × Int × Int × Int × Int × Int × Int × Int × Int × Int
abbrev Y1:=T1→Option R
def s1:T1→St:=fun (v0,v1,v2,v3,v4,v5,v6,v7,v8,v9,v10,v11,v12,v13,v14,v15,v16,v17,v18,v19,v20,v21)=>⟨34,1,[(0,.c (.ptr 128000000 0)),(2,.c (.ptr 64000000 0)),(3,.c (.ptr 64000001 0))],[],[(128000000,.box [.frz (.int .i64) v0,.int .i64 v1]),(256000000,.gone),(64000000,.box [.int .i64 v2,.int .i64 v3,.int .i64 v4,.int .i64 v5,.int .i64 v6,.int .i64 v7,.int .i64 v8,.int .i64 v9,.int .i64 v10,.int .i64 v11]),(64000001,.box [.int .i64 v12,.int .i64 v13,.int .i64 v14,.int .i64 v15,.int .i64 v16,.int .i64 v17,.int .i64 v18,.int .i64 v19,.int .i64 v20,.int .i64 v21])]⟩
noncomputable def l1 ( k:Nat) (v:T1):Option R:=held (run (cs k) (loopN cs k) c1000006 (J1000006 k) (s1 v))
noncomputable def D1 (v:T1):Option R:=lim fun L=>l1 (L 0) v
theorem D1_cn (v:T1):Cn late (D1 v) fun L=>l1 (L 0) v:=of_lim
def d0 (p0:g10.Y) (p1:Y1):Y0:=fun (v0,v1,v2,v3,v4,v5,v6,v7,v8,v9,v10,v11,v12,v13,v14,v15,v16,v17,v18,v19,v20,v21) =>
bnd (p0 (3,v0,v1)) fun r=>br (decide (0 < r.1)) (p1 (r.2.1,r.2.2,v2,v3,v4,v5,v6,v7,v8,v9,v10,v11,v12,v13,v14,v15,-1073741824,1073741824,v18,v19,v20,v21)) (p1 (r.2.1,r.2.2,v2,v3,v4,v5,v6,v7,v8,v9,v10,v11,v12,v13,v14,v15,v16,v17,v18,v19,v20,v21))
theorem d0_cn (k0:Pr E g10.A g10.R) (k1:Pr E T1 R):∀ v:T0,Cn E (d0 k0.p k1.p v) fun i=>d0 (k0.q i) (k1.q i) v:=fun (v0,v1,v2,v3,v4,v5,v6,v7,v8,v9,v10,v11,v12,v13,v14,v15,v16,v17,v18,v19,v20,v21)=>(.bnd (k0.h _) fun _=>(.br (k1.h _) (k1.h _)))
theorem l0_b ( k:Nat):∀ v:T0,run (cs k) (loopN cs k) c1000004 (J1000004 k) (s0 v) = d0 (g10.f k) (l1 k) v:=fun (v0,v1,v2,v3,v4,v5,v6,v7,v8,v9,v10,v11,v12,v13,v14,v15,v16,v17,v18,v19,v20,v21)=>by kernel_rfl
theorem D0_of (v:T0) {r:R} (h:d0 g10.F D1 v = some r):D0 v = some r:=join_of (fun L=>(held_eq _).trans (l0_b (L 0) v)) (d0_cn (lp g10.f 0) (.mk fun v=>(D1_cn v).re [0]) v) h
def d1 (p0:g15.Y):Y1:=fun (v0,v1,v2,v3,v4,v5,v6,v7,v8,v9,v10,v11,v12,v13,v14,v15,v16,v17,v18,v19,v20,v21) =>
bnd (p0 (v12,v13,v14,v15,v0,v1)) fun r=>bnd (p0 (v16,v17,v18,v19,r.2.1,r.2.2)) fun r_1=>some (v12,v13,v14,v15,v16,v17,v18,v19,r.1,r_1.1,r_1.2.1,r_1.2.2)
theorem d1_cn (k0:Pr E g15.A g15.R):∀ v:T1,Cn E (d1 k0.p v) fun i=>d1 (k0.q i) v:=fun (v0,v1,v2,v3,v4,v5,v6,v7,v8,v9,v10,v11,v12,v13,v14,v15,v16,v17,v18,v19,v20,v21)=>(.bnd (k0.h _) fun _=>(.bnd (k0.h _) fun _=>.some))
theorem l1_b ( k:Nat):∀ v:T1,run (cs k) (loopN cs k) c1000006 (J1000006 k) (s1 v) = d1 (g15.f k) v:=fun (v0,v1,v2,v3,v4,v5,v6,v7,v8,v9,v10,v11,v12,v13,v14,v15,v16,v17,v18,v19,v20,v21)=>by kernel_rfl
theorem D1_of (v:T1) {r:R} (h:d1 g15.F v = some r):D1 v = some r:=join_of (fun L=>(held_eq _).trans (l1_b (L 0) v)) (d1_cn (lp g15.f 0) v) h
noncomputable def f (k:Nat):Y:=fun v=>held (runFn cs k Try.f6 (sh.args v) (sh.slots v) dec)
noncomputable def F:Y:=lm f
def d (p0:g14.Y) (p1:g10.Y) (p2:Y0):Y:=fun (v0,v1) =>
bnd (p0 (v0,v1)) fun r=>bnd (p0 (r.2.2.2.2.1,r.2.2.2.2.2)) fun r_1=>bnd (p1 (3,r_1.2.2.2.2.1,r_1.2.2.2.2.2)) fun r_2=>br (decide (0 < r_2.1)) (p2 (r_2.2.1,r_2.2.2,0,0,0,0,0,0,0,0,0,0,-6442450944,6442450944,r.2.2.1,r.2.2.2.1,r_1.1,r_1.2.1,r_1.2.2.1,r_1.2.2.2.1,0,0)) (p2 (r_2.2.1,r_2.2.2,0,0,0,0,0,0,0,0,0,0,r.1,r.2.1,r.2.2.1,r.2.2.2.1,r_1.1,r_1.2.1,r_1.2.2.1,r_1.2.2.2.1,0,0))
theorem d_cn (k0:Pr E g14.A g14.R) (k1:Pr E g10.A g10.R) (k2:Pr E T0 R):∀ v:A,Cn E (d k0.p k1.p k2.p v) fun i=>d (k0.q i) (k1.q i) (k2.q i) v:=fun (v0,v1)=>(.bnd (k0.h _) fun _=>(.bnd (k0.h _) fun _=>(.bnd (k1.h _) fun _=>(.br (k2.h _) (k2.h _)))))
theorem f_b (k:Nat):∀ v:A,f k v = d (g14.f k) (g10.f k) (l0 k) v:=fun (v0,v1)=>(held_eq _).trans (by kernel_rfl)
theorem F_of (v:A) {r:R} (h:d g14.F g10.F D0 v = some r):F v = some r:=join_of (fun L=>f_b (L 0) v) (d_cn (lp g14.f 0) (lp g10.f 0) (.mk fun v=>(D0_cn v).re [0]) v) h
noncomputable def spec (k:Nat):List AV→List Slot→Option Ans:=specS sh os (f k)
theorem spec_ok (k:Nat):SpecOk Try.prog 6 (spec k):=specS_ok cs_ok Try.func6 rfl rfl (fun _ _=>held_eq _) k
end g16
noncomputable def tg16:=tg15.cons 6 g16.spec g16.spec_ok
namespace g17 -- bits_Len64
abbrev R:Type:=Int
abbrev A:Type:=Int
abbrev Y:=A→Option R
def lv:List (Nat × List Nat):=[(2000000,[2]),(1000004,[0,2]),(1000007,[0,2]),(1000010,[0,2])]
noncomputable def cs:Nat→Ctx:=ctxOf tis modes tg16.1 lv
theorem cs_ok (n:Nat):CtxOk Try.prog (cs n):=ctxOf_ok rfl tis_ok tg16.2 n
def sh:AS:=⟨[(.c (.int .u64))],[]⟩
def os:OS:=⟨.c (.int .i64),[]⟩
def enc (r:R):Out:=os.enc r
def dec:Out→Option R:=os.dec
noncomputable def b0:Code:=subF [] Try.f41
noncomputable def K0 (k:Nat):Kt R:=kTop (cs k) Try.f41 dec
noncomputable def c1000004:Code:=sub [1,1] b0
noncomputable def J1000004 ( k:Nat):Kt R:=kAt (cs k) (loopN cs k) [1,1] b0 (K0 k)
noncomputable def c1000007:Code:=sub [1,1,1] b0
noncomputable def J1000007 ( k:Nat):Kt R:=kAt (cs k) (loopN cs k) [1,1,1] b0 (K0 k)
noncomputable def c1000010:Code:=sub [1,1,1,1] b0
noncomputable def J1000010 ( k:Nat):Kt R:=kAt (cs k) (loopN cs k) [1,1,1,1] b0 (K0 k)
abbrev T0:Type:=Int × Int
abbrev Y0:=T0→Option R
def s0:T0→St:=fun (v0,v1)=>⟨25,0,[(0,.c (.int .u64 v0)),(2,.c (.int .i64 v1))],[],[(256000000,.gone)]⟩
noncomputable def l0 ( k:Nat) (v:T0):Option R:=held (run (cs k) (loopN cs k) c1000004 (J1000004 k) (s0 v))
noncomputable def D0 (v:T0):Option R:=lim fun L=>l0 (L 0) v
theorem D0_cn (v:T0):Cn late (D0 v) fun L=>l0 (L 0) v:=of_lim
abbrev T1:Type:=Int × Int
abbrev Y1:=T1→Option R
def s1:T1→St:=fun (v0,v1)=>⟨25,0,[(0,.c (.int .u64 v0)),(2,.c (.int .i64 v1))],[],[(256000000,.gone)]⟩
noncomputable def l1 ( k:Nat) (v:T1):Option R:=held (run (cs k) (loopN cs k) c1000007 (J1000007 k) (s1 v))
noncomputable def D1 (v:T1):Option R:=lim fun L=>l1 (L 0) v
theorem D1_cn (v:T1):Cn late (D1 v) fun L=>l1 (L 0) v:=of_lim
abbrev T2:Type:=Int × Int
abbrev Y2:=T2→Option R
def s2:T2→St:=fun (v0,v1)=>⟨25,0,[(0,.c (.int .u64 v0)),(2,.c (.int .i64 v1))],[],[(256000000,.gone)]⟩
noncomputable def l2 ( k:Nat) (v:T2):Option R:=held (run (cs k) (loopN cs k) c1000010 (J1000010 k) (s2 v))
noncomputable def D2 (v:T2):Option R:=lim fun L=>l2 (L 0) v
theorem D2_cn (v:T2):Cn late (D2 v) fun L=>l2 (L 0) v:=of_lim
def d0 (p0:Y1):Y0:=fun (v0,v1) =>
br (decide (65536 ≤ v0)) (br (decide ((0:Int) ≤ 16)) (p0 (shr .u64 v0 16,wrap .i64 (v1 + 16))) none) (p0 (v0,v1))
theorem d0_cn (k0:Pr E T1 R):∀ v:T0,Cn E (d0 k0.p v) fun i=>d0 (k0.q i) v:=fun (v0,v1)=>(.br (.br (k0.h _) .none) (k0.h _))
theorem l0_b ( k:Nat):∀ v:T0,run (cs k) (loopN cs k) c1000004 (J1000004 k) (s0 v) = d0 (l1 k) v:=fun (v0,v1)=>by kernel_rfl
theorem D0_of (v:T0) {r:R} (h:d0 D1 v = some r):D0 v = some r:=join_of (fun L=>(held_eq _).trans (l0_b (L 0) v)) (d0_cn (.mk fun v=>(D1_cn v).re [0]) v) h
def d1 (p0:Y2):Y1:=fun (v0,v1) =>
br (decide (256 ≤ v0)) (br (decide ((0:Int) ≤ 8)) (p0 (shr .u64 v0 8,wrap .i64 (v1 + 8))) none) (p0 (v0,v1))
theorem d1_cn (k0:Pr E T2 R):∀ v:T1,Cn E (d1 k0.p v) fun i=>d1 (k0.q i) v:=fun (v0,v1)=>(.br (.br (k0.h _) .none) (k0.h _))
theorem l1_b ( k:Nat):∀ v:T1,run (cs k) (loopN cs k) c1000007 (J1000007 k) (s1 v) = d1 (l2 k) v:=fun (v0,v1)=>by kernel_rfl
theorem D1_of (v:T1) {r:R} (h:d1 D2 v = some r):D1 v = some r:=join_of (fun L=>(held_eq _).trans (l1_b (L 0) v)) (d1_cn (.mk fun v=>(D2_cn v).re [0]) v) h
def d2:Y2:=fun (v0,v1) =>
br (decide (0 ≤ wrap .u8 v0 ∧ wrap .u8 v0 < (↑bs0.size:Int))) (some (wrap .i64 (v1 + wrap .i64 (↑(bs0.data.getD (wrap .u8 v0).toNat 0).toNat:Int)))) none
theorem d2_cn:∀ v:T2,Cn E (d2 v) fun i=>d2 v:=fun (v0,v1)=>(.br .some .none)
theorem l2_b ( k:Nat):∀ v:T2,run (cs k) (loopN cs k) c1000010 (J1000010 k) (s2 v) = d2 v:=fun (v0,v1)=>by kernel_rfl
theorem D2_of (v:T2) {r:R} (h:d2 v = some r):D2 v = some r:=join_of (fun L=>(held_eq _).trans (l2_b (L 0) v)) (d2_cn v) h
noncomputable def f (k:Nat):Y:=fun v=>held (runFn cs k Try.f41 (sh.args v) (sh.slots v) dec)
noncomputable def F:Y:=lm f
def d (p0:Y0):Y:=fun v0 =>
br (decide (4294967296 ≤ v0)) (br (decide ((0:Int) ≤ 32)) (p0 (shr .u64 v0 32,32)) none) (p0 (v0,0))
theorem d_cn (k0:Pr E T0 R):∀ v:A,Cn E (d k0.p v) fun i=>d (k0.q i) v:=fun v0=>(.br (.br (k0.h _) .none) (k0.h _))
theorem f_b (k:Nat):∀ v:A,f k v = d (l0 k) v:=fun v0=>(held_eq _).trans (by kernel_rfl)
theorem F_of (v:A) {r:R} (h:d D0 v = some r):F v = some r:=join_of (fun L=>f_b (L 0) v) (d_cn (.mk fun v=>(D0_cn v).re [0]) v) h
noncomputable def spec (k:Nat):List AV→List Slot→Option Ans:=specS sh os (f k)
theorem spec_ok (k:Nat):SpecOk Try.prog 41 (spec k):=specS_ok cs_ok Try.func41 rfl rfl (fun _ _=>held_eq _) k
end g17
noncomputable def tg17:=tg16.cons 41 g17.spec g17.spec_ok
namespace g18 -- bits_Len
abbrev R:Type:=Int
abbrev A:Type:=Int
abbrev Y:=A→Option R
def lv:List (Nat × List Nat):=[(2000000,[2])]
noncomputable def cs:Nat→Ctx:=ctxOf tis modes tg17.1 lv
theorem cs_ok (n:Nat):CtxOk Try.prog (cs n):=ctxOf_ok rfl tis_ok tg17.2 n
def sh:AS:=⟨[(.c (.int .u64))],[]⟩
def os:OS:=⟨.c (.int .i64),[]⟩
def enc (r:R):Out:=os.enc r
def dec:Out→Option R:=os.dec
noncomputable def b0:Code:=subF [] Try.f20
noncomputable def K0 (k:Nat):Kt R:=kTop (cs k) Try.f20 dec
noncomputable def f (k:Nat):Y:=fun v=>held (runFn cs k Try.f20 (sh.args v) (sh.slots v) dec)
noncomputable def F:Y:=lm f
def d (p0:g17.Y):Y:=fun v0 =>
bnd (p0 v0) fun r=>some r
theorem d_cn (k0:Pr E g17.A g17.R):∀ v:A,Cn E (d k0.p v) fun i=>d (k0.q i) v:=fun v0=>(.bnd (k0.h _) fun _=>.some)
theorem f_b (k:Nat):∀ v:A,f k v = d (g17.f k) v:=fun v0=>(held_eq _).trans (by kernel_rfl)
theorem F_of (v:A) {r:R} (h:d g17.F v = some r):F v = some r:=join_of (fun L=>f_b (L 0) v) (d_cn (lp g17.f 0) v) h
noncomputable def spec (k:Nat):List AV→List Slot→Option Ans:=specS sh os (f k)
theorem spec_ok (k:Nat):SpecOk Try.prog 20 (spec k):=specS_ok cs_ok Try.func20 rfl rfl (fun _ _=>held_eq _) k
end g18
noncomputable def tg18:=tg17.cons 20 g18.spec g18.spec_ok
namespace g19 -- cmp_isNaN_int
abbrev R:Type:=Bool
abbrev A:Type:=Int
abbrev Y:=A→Option R
def lv:List (Nat × List Nat):=[(2000000,[2])]
noncomputable def cs:Nat→Ctx:=ctxOf tis modes tg18.1 lv
theorem cs_ok (n:Nat):CtxOk Try.prog (cs n):=ctxOf_ok rfl tis_ok tg18.2 n
def sh:AS:=⟨[(.c (.int .i64))],[]⟩
def os:OS:=⟨.c .bool,[]⟩
def enc (r:R):Out:=os.enc r
def dec:Out→Option R:=os.dec
noncomputable def b0:Code:=subF [] Try.f62
noncomputable def K0 (k:Nat):Kt R:=kTop (cs k) Try.f62 dec
noncomputable def f (k:Nat):Y:=fun v=>held (runFn cs k Try.f62 (sh.args v) (sh.slots v) dec)
noncomputable def F:Y:=lm f
def d:Y:=fun v0 =>
some !decide (v0 = v0)
theorem d_cn:∀ v:A,Cn E (d v) fun i=>d v:=fun v0=>.some
theorem f_b (k:Nat):∀ v:A,f k v = d v:=fun v0=>(held_eq _).trans (by kernel_rfl)
theorem F_of (v:A) {r:R} (h:d v = some r):F v = some r:=join_of (fun L=>f_b (L 0) v) (d_cn v) h
noncomputable def spec (k:Nat):List AV→List Slot→Option Ans:=specS sh os (f k)
theorem spec_ok (k:Nat):SpecOk Try.prog 62 (spec k):=specS_ok cs_ok Try.func62 rfl rfl (fun _ _=>held_eq _) k
end g19
noncomputable def tg19:=tg18.cons 62 g19.spec g19.spec_ok
namespace g20 -- cmp_Less_int
abbrev R:Type:=Bool
abbrev A:Type:=Int × Int
abbrev Y:=A→Option R
def lv:List (Nat × List Nat):=[(2000000,[4])]
noncomputable def cs:Nat→Ctx:=ctxOf tis modes tg19.1 lv
theorem cs_ok (n:Nat):CtxOk Try.prog (cs n):=ctxOf_ok rfl tis_ok tg19.2 n
def sh:AS:=⟨[.c (.int .i64),.c (.int .i64)],[]⟩
def os:OS:=⟨.c .bool,[]⟩
def enc (r:R):Out:=os.enc r
def dec:Out→Option R:=os.dec
noncomputable def b0:Code:=subF [] Try.f37
noncomputable def K0 (k:Nat):Kt R:=kTop (cs k) Try.f37 dec
noncomputable def f (k:Nat):Y:=fun v=>held (runFn cs k Try.f37 (sh.args v) (sh.slots v) dec)
noncomputable def F:Y:=lm f
def d (p0:g19.Y):Y:=fun (v0,v1) =>
bnd (p0 v0) fun r=>br (r == true) (bnd (p0 v1) fun r=>some (!r || decide (v0 < v1))) (some (decide (v0 < v1)))
theorem d_cn (k0:Pr E g19.A g19.R):∀ v:A,Cn E (d k0.p v) fun i=>d (k0.q i) v:=fun (v0,v1)=>(.bnd (k0.h _) fun _=>(.br (.bnd (k0.h _) fun _=>.some) .some))
theorem f_b (k:Nat):∀ v:A,f k v = d (g19.f k) v:=fun (v0,v1)=>(held_eq _).trans (by kernel_rfl)
theorem F_of (v:A) {r:R} (h:d g19.F v = some r):F v = some r:=join_of (fun L=>f_b (L 0) v) (d_cn (lp g19.f 0) v) h
noncomputable def spec (k:Nat):List AV→List Slot→Option Ans:=specS sh os (f k)
theorem spec_ok (k:Nat):SpecOk Try.prog 37 (spec k):=specS_ok cs_ok Try.func37 rfl rfl (fun _ _=>held_eq _) k
end g20
noncomputable def tg20:=tg19.cons 37 g20.spec g20.spec_ok
namespace g21 -- slices_insertionSortOrdered_int
abbrev R:Type:=List Int
abbrev A:Type:=Int × Int × List Int
abbrev Y:=A→Option R
def lv:List (Nat × List Nat):=[(2000000,[0]),(1,[0,1,2,6]),(4,[0,1,2,6,7])]
noncomputable def cs:Nat→Ctx:=ctxOf tis modes tg20.1 lv
theorem cs_ok (n:Nat):CtxOk Try.prog (cs n):=ctxOf_ok rfl tis_ok tg20.2 n
def sh:AS:=⟨[.c (.sl 128000000),.c (.int .i64),.c (.int .i64)],[(.row (.int .i64))]⟩
def os:OS:=⟨.tup [],[(.row (.int .i64))]⟩
def enc (r:R):Out:=os.enc r
def dec:Out→Option R:=os.dec
noncomputable def b0:Code:=subF [] Try.f31
noncomputable def K0 (k:Nat):Kt R:=kTop (cs k) Try.f31 dec
noncomputable def b1:Code:=sub [1,0,0] b0
noncomputable def K1 ( k:Nat):Kt R:=kAt (cs k) (loopN cs k) [1,0] b0 (K0 k)
noncomputable def b4:Code:=sub [1,0,0,1,0,0] b1
noncomputable def K4 ( k m1:Nat):Kt R:=kAt (cs m1) (loopN cs m1) [1,0,0,1,0] b1 (kLoop cs m1 b1 (K1 k))
abbrev T0:Type:=Int × Int × Int × List Int
abbrev Y0:=T0→Option R
def s0:T0→St:=fun (v0,v1,v2,v3)=>⟨49,1,[(0,.c (.sl 128000000)),(1,.c (.int .i64 v0)),(2,.c (.int .i64 v1)),(6,.c (.int .i64 v2))],[],[(128000000,.row (.int .i64) v3),(256000000,.gone)]⟩
noncomputable def l0 ( k n:Nat) (v:T0):Option R:=held (loopN cs n b1 (K1 k) (s0 v))
noncomputable def D0 (v:T0):Option R:=lim fun L=>l0 (L 0) (L 1) v
theorem D0_cn (v:T0):Cn late (D0 v) fun L=>l0 (L 0) (L 1) v:=of_lim
abbrev T1:Type:=Int × Int × Int × Int × List Int
abbrev Y1:=T1→Option R
def s1:T1→St:=fun (v0,v1,v2,v3,v4)=>⟨49,1,[(0,.c (.sl 128000000)),(1,.c (.int .i64 v0)),(2,.c (.int .i64 v1)),(6,.c (.int .i64 v2)),(7,.c (.int .i64 v3))],[],[(128000000,.row (.int .i64) v4),(256000000,.gone)]⟩
noncomputable def l1 ( k m1 n:Nat) (v:T1):Option R:=held (loopN cs n b4 (K4 k m1) (s1 v))
noncomputable def D1 (v:T1):Option R:=lim fun L=>l1 (L 0) (L 1) (L 2) v
theorem D1_cn (v:T1):Cn late (D1 v) fun L=>l1 (L 0) (L 1) (L 2) v:=of_lim
def d0 (p0:Y1):Y0:=fun (v0,v1,v2,v3) =>
br (decide (v2 < v1)) (p0 (v0,v1,v2,v2,v3)) (some v3)
theorem d0_cn (k0:Pr E T1 R):∀ v:T0,Cn E (d0 k0.p v) fun i=>d0 (k0.q i) v:=fun (v0,v1,v2,v3)=>(.br (k0.h _) .some)
theorem l0_b ( k m1:Nat):∀ v:T0,run (cs m1) (loopN cs m1) b1 (kLoop cs m1 b1 (K1 k)) (s0 v) = d0 (l1 k m1 m1) v:=fun (v0,v1,v2,v3)=>by kernel_rfl
theorem D0_of (v:T0) {r:R} (h:d0 D1 v = some r):D0 v = some r:=loop_of 1 (fun L n hn=>by show l0 (L 0) (L 1) v = _; rw [hn]; exact (held_eq _).trans ((loopN_succ _ _ _ _ _).trans (l0_b (L 0) n v))) (d0_cn (.mk fun v=>(D1_cn v).re [0,1,1]) v) h
noncomputable def d1 (p0:g20.Y) (p1:Y1) (p2:Y0):Y1:=fun (v0,v1,v2,v3,v4) =>
br (!decide (v0 < v3) == true || decide (0 ≤ v3 ∧ v3 < (↑v4.length:Int))) (br (!decide (v0 < v3) == true || decide (0 ≤ wrap .i64 (v3 - 1) ∧ wrap .i64 (v3 - 1) < (↑v4.length:Int))) (br (decide (v0 < v3) == true) (bnd (p0 (rd (Ty.int .i64) v4 v3,rd (Ty.int .i64) v4 (wrap .i64 (v3 - 1)))) fun r=>br (decide (v0 < v3) && r) (br (decide (0 ≤ wrap .i64 (v3 - 1) ∧ wrap .i64 (v3 - 1) < (↑v4.length:Int))) (br (decide (0 ≤ v3 ∧ v3 < (↑v4.length:Int))) (br (decide (0 ≤ v3 ∧ v3 < (↑v4.length:Int))) (br (decide (0 ≤ wrap .i64 (v3 - 1) ∧ wrap .i64 (v3 - 1) < (↑(v4.set v3.toNat (rd (Ty.int .i64) v4 (wrap .i64 (v3 - 1)))).length:Int))) (p1 (v0,v1,v2,wrap .i64 (v3 - 1),(v4.set v3.toNat (rd (Ty.int .i64) v4 (wrap .i64 (v3 - 1)))).set (wrap .i64 (v3 - 1)).toNat (rd (Ty.int .i64) v4 v3))) none) none) none) none) (p2 (v0,v1,wrap .i64 (v2 + 1),v4))) (br (!decide (v0 < v3)) (p2 (v0,v1,wrap .i64 (v2 + 1),v4)) none)) none) none
theorem d1_cn (k0:Pr E g20.A g20.R) (k1:Pr E T1 R) (k2:Pr E T0 R):∀ v:T1,Cn E (d1 k0.p k1.p k2.p v) fun i=>d1 (k0.q i) (k1.q i) (k2.q i) v:=fun (v0,v1,v2,v3,v4)=>(.br (.br (.br (.bnd (k0.h _) fun _=>(.br (.br (.br (.br (.br (k1.h _) .none) .none) .none) .none) (k2.h _))) (.br (k2.h _) .none)) .none) .none)
theorem l1_b ( k m1 m2:Nat):∀ v:T1,run (cs m2) (loopN cs m2) b4 (kLoop cs m2 b4 (K4 k m1)) (s1 v) = d1 (g20.f m2) (l1 k m1 m2) (l0 k m1) v:=fun (v0,v1,v2,v3,v4)=>by kernel_rfl
theorem D1_of (v:T1) {r:R} (h:d1 g20.F D1 D0 v = some r):D1 v = some r:=loop_of 2 (fun L n hn=>by show l1 (L 0) (L 1) (L 2) v = _; rw [hn]; exact (held_eq _).trans ((loopN_succ _ _ _ _ _).trans (l1_b (L 0) (L 1) n v))) (d1_cn (lp g20.f 2) (.mk fun v=>(D1_cn v).re [0,1,2]) (.mk fun v=>(D0_cn v).re [0,1]) v) h
noncomputable def f (k:Nat):Y:=fun v=>held (runFn cs k Try.f31 (sh.args v) (sh.slots v) dec)
noncomputable def F:Y:=lm f
def d (p0:Y0):Y:=fun (v0,v1,v2) =>
p0 (v0,v1,wrap .i64 (v0 + 1),v2)
theorem d_cn (k0:Pr E T0 R):∀ v:A,Cn E (d k0.p v) fun i=>d (k0.q i) v:=fun (v0,v1,v2)=>(k0.h _)
theorem f_b (k:Nat):∀ v:A,f k v = d (l0 k k) v:=fun (v0,v1,v2)=>(held_eq _).trans (by kernel_rfl)
theorem F_of (v:A) {r:R} (h:d D0 v = some r):F v = some r:=join_of (fun L=>f_b (L 0) v) (d_cn (.mk fun v=>(D0_cn v).re [0,0]) v) h
noncomputable def spec (k:Nat):List AV→List Slot→Option Ans:=specS sh os (f k)
theorem spec_ok (k:Nat):SpecOk Try.prog 31 (spec k):=specS_ok cs_ok Try.func31 rfl rfl (fun _ _=>held_eq _) k
end g21
noncomputable def tg21:=tg20.cons 31 g21.spec g21.spec_ok
namespace g22 -- slices_pdqsortOrdered_int
abbrev R:Type:=List Int
abbrev A:Type:=Int × Int × Int × List Int
abbrev Y:=A→Option R
def lv:List (Nat × List Nat):=[(2000000,[0]),(2,[0,1,2,3,8,9]),(1000010,[0,1,2,3,8,9,10]),(1000015,[0,1,2,3,8,9,10,11,12]),(1000017,[0,1,2,3,8,9,10,11])]
noncomputable def cs:Nat→Ctx:=ctxOf tis modes tg21.1 lv
theorem cs_ok (n:Nat):CtxOk Try.prog (cs n):=ctxOf_ok rfl tis_ok tg21.2 n
def sh:AS:=⟨[.c (.sl 128000000),.c (.int .i64),.c (.int .i64),.c (.int .i64)],[(.row (.int .i64))]⟩
def os:OS:=⟨.tup [],[(.row (.int .i64))]⟩
def enc (r:R):Out:=os.enc r
def dec:Out→Option R:=os.dec
noncomputable def b0:Code:=subF [] Try.f19
noncomputable def K0 (k:Nat):Kt R:=kTop (cs k) Try.f19 dec
noncomputable def b2:Code:=sub [1,1,0,0] b0
noncomputable def K2 ( k:Nat):Kt R:=kAt (cs k) (loopN cs k) [1,1,0] b0 (K0 k)
noncomputable def c1000010:Code:=sub [0,1,1,1,1] b2
noncomputable def J1000010 ( k m1:Nat):Kt R:=kAt (cs m1) (loopN cs m1) [0,1,1,1,1] b2 (kLoop cs m1 b2 (K2 k))
abbrev T0:Type:=Int × Int × Int × Bool × Bool × List Int
abbrev Y0:=T0→Option R
def s0:T0→St:=fun (v0,v1,v2,v3,v4,v5)=>⟨134,1,[(0,.c (.sl 128000000)),(1,.c (.int .i64 v0)),(2,.c (.int .i64 v1)),(3,.c (.int .i64 v2)),(8,.c (.bool v3)),(9,.c (.bool v4))],[],[(128000000,.row (.int .i64) v5),(256000000,.gone)]⟩
noncomputable def l0 ( k n:Nat) (v:T0):Option R:=held (loopN cs n b2 (K2 k) (s0 v))
noncomputable def D0 (v:T0):Option R:=lim fun L=>l0 (L 0) (L 1) v
theorem D0_cn (v:T0):Cn late (D0 v) fun L=>l0 (L 0) (L 1) v:=of_lim
abbrev T1:Type:=Int × Int × Int × Bool × Bool × Int × List Int
abbrev Y1:=T1→Option R
def s1:T1→St:=fun (v0,v1,v2,v3,v4,v5,v6)=>⟨134,1,[(0,.c (.sl 128000000)),(1,.c (.int .i64 v0)),(2,.c (.int .i64 v1)),(3,.c (.int .i64 v2)),(8,.c (.bool v3)),(9,.c (.bool v4)),(10,.c (.int .i64 v5))],[],[(128000000,.row (.int .i64) v6),(256000000,.gone)]⟩
noncomputable def l1 ( k m1:Nat) (v:T1):Option R:=held (run (cs m1) (loopN cs m1) c1000010 (J1000010 k m1) (s1 v))
noncomputable def D1 (v:T1):Option R:=lim fun L=>l1 (L 0) (L 1) v
theorem D1_cn (v:T1):Cn late (D1 v) fun L=>l1 (L 0) (L 1) v:=of_lim
def d0 (p0:g21.Y) (p1:Y1):Y0:=fun (v0,v1,v2,v3,v4,v5) =>
br (decide (wrap .i64 (v1 - v0) ≤ 12)) (bnd (p0 (v0,v1,v5)) fun r=>some r) (br (decide (v2 = 0)) none (br (!v3) none (p1 (v0,v1,v2,v3,v4,wrap .i64 (v1 - v0),v5))))
theorem d0_cn (k0:Pr E g21.A g21.R) (k1:Pr E T1 R):∀ v:T0,Cn E (d0 k0.p k1.p v) fun i=>d0 (k0.q i) (k1.q i) v:=fun (v0,v1,v2,v3,v4,v5)=>(.br (.bnd (k0.h _) fun _=>.some) (.br .none (.br .none (k1.h _))))
theorem l0_b ( k m1:Nat):∀ v:T0,run (cs m1) (loopN cs m1) b2 (kLoop cs m1 b2 (K2 k)) (s0 v) = d0 (g21.f m1) (l1 k m1) v:=fun (v0,v1,v2,v3,v4,v5)=>by kernel_rfl
theorem D0_of (v:T0) {r:R} (h:d0 g21.F D1 v = some r):D0 v = some r:=loop_of 1 (fun L n hn=>by show l0 (L 0) (L 1) v = _; rw [hn]; exact (held_eq _).trans ((loopN_succ _ _ _ _ _).trans (l0_b (L 0) n v))) (d0_cn (lp g21.f 1) (.mk fun v=>(D1_cn v).re [0,1]) v) h
def d1:Y1:=fun (v0,v1,v2,v3,v4,v5,v6) =>
none
theorem d1_cn:∀ v:T1,Cn E (d1 v) fun i=>d1 v:=fun (v0,v1,v2,v3,v4,v5,v6)=>.none
theorem l1_b ( k m1:Nat):∀ v:T1,run (cs m1) (loopN cs m1) c1000010 (J1000010 k m1) (s1 v) = d1 v:=fun (v0,v1,v2,v3,v4,v5,v6)=>by kernel_rfl
theorem D1_of (v:T1) {r:R} (h:d1 v = some r):D1 v = some r:=join_of (fun L=>(held_eq _).trans (l1_b (L 0) (L 1) v)) (d1_cn v) h
noncomputable def f (k:Nat):Y:=fun v=>held (runFn cs k Try.f19 (sh.args v) (sh.slots v) dec)
noncomputable def F:Y:=lm f
def d (p0:Y0):Y:=fun (v0,v1,v2,v3) =>
p0 (v0,v1,v2,true,true,v3)
theorem d_cn (k0:Pr E T0 R):∀ v:A,Cn E (d k0.p v) fun i=>d (k0.q i) v:=fun (v0,v1,v2,v3)=>(k0.h _)
theorem f_b (k:Nat):∀ v:A,f k v = d (l0 k k) v:=fun (v0,v1,v2,v3)=>(held_eq _).trans (by kernel_rfl)
theorem F_of (v:A) {r:R} (h:d D0 v = some r):F v = some r:=join_of (fun L=>f_b (L 0) v) (d_cn (.mk fun v=>(D0_cn v).re [0,0]) v) h
noncomputable def spec (k:Nat):List AV→List Slot→Option Ans:=specS sh os (f k)
theorem spec_ok (k:Nat):SpecOk Try.prog 19 (spec k):=specS_ok cs_ok Try.func19 rfl rfl (fun _ _=>held_eq _) k
end g22
noncomputable def tg22:=tg21.cons 19 g22.spec g22.spec_ok
namespace g23 -- slices_Sort_int
abbrev R:Type:=List Int
abbrev A:Type:=List Int
abbrev Y:=A→Option R
def lv:List (Nat × List Nat):=[(2000000,[0])]
noncomputable def cs:Nat→Ctx:=ctxOf tis modes tg22.1 lv
theorem cs_ok (n:Nat):CtxOk Try.prog (cs n):=ctxOf_ok rfl tis_ok tg22.2 n
def sh:AS:=⟨[(.c (.sl 128000000))],[(.row (.int .i64))]⟩
def os:OS:=⟨.tup [],[(.row (.int .i64))]⟩
def enc (r:R):Out:=os.enc r
def dec:Out→Option R:=os.dec
noncomputable def b0:Code:=subF [] Try.f9
noncomputable def K0 (k:Nat):Kt R:=kTop (cs k) Try.f9 dec
noncomputable def f (k:Nat):Y:=fun v=>held (runFn cs k Try.f9 (sh.args v) (sh.slots v) dec)
noncomputable def F:Y:=lm f
def d (p0:g18.Y) (p1:g22.Y):Y:=fun v0 =>
bnd (p0 (wrap .u64 (↑v0.length:Int))) fun r=>bnd (p1 (0,(↑v0.length:Int),r,v0)) fun r=>some r
theorem d_cn (k0:Pr E g18.A g18.R) (k1:Pr E g22.A g22.R):∀ v:A,Cn E (d k0.p k1.p v) fun i=>d (k0.q i) (k1.q i) v:=fun v0=>(.bnd (k0.h _) fun _=>(.bnd (k1.h _) fun _=>.some))
theorem f_b (k:Nat):∀ v:A,f k v = d (g18.f k) (g22.f k) v:=fun v0=>(held_eq _).trans (by kernel_rfl)
theorem F_of (v:A) {r:R} (h:d g18.F g22.F v = some r):F v = some r:=join_of (fun L=>f_b (L 0) v) (d_cn (lp g18.f 0) (lp g22.f 0) v) h
noncomputable def spec (k:Nat):List AV→List Slot→Option Ans:=specS sh os (f k)
theorem spec_ok (k:Nat):SpecOk Try.prog 9 (spec k):=specS_ok cs_ok Try.func9 rfl rfl (fun _ _=>held_eq _) k
end g23
noncomputable def tg23:=tg22.cons 9 g23.spec g23.spec_ok
namespace g24 -- prop_within
abbrev R:Type:=Bool
abbrev A:Type:=Int × Int × Int
abbrev Y:=A→Option R
def lv:List (Nat × List Nat):=[(2000000,[6])]
noncomputable def cs:Nat→Ctx:=ctxOf tis modes tg23.1 lv
theorem cs_ok (n:Nat):CtxOk Try.prog (cs n):=ctxOf_ok rfl tis_ok tg23.2 n
def sh:AS:=⟨[.c (.int .i64),.c (.int .i64),.c (.int .i64)],[]⟩
def os:OS:=⟨.c .bool,[]⟩
def enc (r:R):Out:=os.enc r
def dec:Out→Option R:=os.dec
noncomputable def b0:Code:=subF [] Try.f42
noncomputable def K0 (k:Nat):Kt R:=kTop (cs k) Try.f42 dec
noncomputable def f (k:Nat):Y:=fun v=>held (runFn cs k Try.f42 (sh.args v) (sh.slots v) dec)
noncomputable def F:Y:=lm f
def d:Y:=fun (v0,v1,v2) =>
some (decide (v1 ≤ v0) && decide (v0 ≤ v2))
theorem d_cn:∀ v:A,Cn E (d v) fun i=>d v:=fun (v0,v1,v2)=>.some
theorem f_b (k:Nat):∀ v:A,f k v = d v:=fun (v0,v1,v2)=>(held_eq _).trans (by kernel_rfl)
theorem F_of (v:A) {r:R} (h:d v = some r):F v = some r:=join_of (fun L=>f_b (L 0) v) (d_cn v) h
noncomputable def spec (k:Nat):List AV→List Slot→Option Ans:=specS sh os (f k)
theorem spec_ok (k:Nat):SpecOk Try.prog 42 (spec k):=specS_ok cs_ok Try.func42 rfl rfl (fun _ _=>held_eq _) k
end g24
noncomputable def tg24:=tg23.cons 42 g24.spec g24.spec_ok
namespace g25 -- num_size
abbrev R:Type:=Int
abbrev A:Type:=Int
abbrev Y:=A→Option R
def lv:List (Nat × List Nat):=[(2000000,[2])]
noncomputable def cs:Nat→Ctx:=ctxOf tis modes tg24.1 lv
theorem cs_ok (n:Nat):CtxOk Try.prog (cs n):=ctxOf_ok rfl tis_ok tg24.2 n
def sh:AS:=⟨[(.c (.int .i64))],[]⟩
def os:OS:=⟨.c (.int .u64),[]⟩
def enc (r:R):Out:=os.enc r
def dec:Out→Option R:=os.dec
noncomputable def b0:Code:=subF [] Try.f81
noncomputable def K0 (k:Nat):Kt R:=kTop (cs k) Try.f81 dec
noncomputable def f (k:Nat):Y:=fun v=>held (runFn cs k Try.f81 (sh.args v) (sh.slots v) dec)
noncomputable def F:Y:=lm f
def d:Y:=fun v0 =>
br (decide (v0 < 0)) (some (wrap .u64 (0 - wrap .u64 v0))) (some (wrap .u64 v0))
theorem d_cn:∀ v:A,Cn E (d v) fun i=>d v:=fun v0=>(.br .some .some)
theorem f_b (k:Nat):∀ v:A,f k v = d v:=fun v0=>(held_eq _).trans (by kernel_rfl)
theorem F_of (v:A) {r:R} (h:d v = some r):F v = some r:=join_of (fun L=>f_b (L 0) v) (d_cn v) h
noncomputable def spec (k:Nat):List AV→List Slot→Option Ans:=specS sh os (f k)
theorem spec_ok (k:Nat):SpecOk Try.prog 81 (spec k):=specS_ok cs_ok Try.func81 rfl rfl (fun _ _=>held_eq _) k
end g25
noncomputable def tg25:=tg24.cons 81 g25.spec g25.spec_ok
namespace g26 -- num_Gcd
abbrev R:Type:=Int
abbrev A:Type:=Int × Int
abbrev Y:=A→Option R
def lv:List (Nat × List Nat):=[(2000000,[4]),(2,[5,6])]
noncomputable def cs:Nat→Ctx:=ctxOf tis modes tg25.1 lv
theorem cs_ok (n:Nat):CtxOk Try.prog (cs n):=ctxOf_ok rfl tis_ok tg25.2 n
def sh:AS:=⟨[.c (.int .i64),.c (.int .i64)],[]⟩
def os:OS:=⟨.c (.int .i64),[]⟩
def enc (r:R):Out:=os.enc r
def dec:Out→Option R:=os.dec
noncomputable def b0:Code:=subF [] Try.f74
noncomputable def K0 (k:Nat):Kt R:=kTop (cs k) Try.f74 dec
noncomputable def b2:Code:=sub [1,1,0,0,0] b0
noncomputable def K2 ( k:Nat):Kt R:=kAt (cs k) (loopN cs k) [1,1,0,0] b0 (K0 k)
abbrev T0:Type:=Int × Int
abbrev Y0:=T0→Option R
def s0:T0→St:=fun (v0,v1)=>⟨20,0,[(5,.c (.int .u64 v0)),(6,.c (.int .u64 v1))],[],[(256000000,.gone)]⟩
noncomputable def l0 ( k n:Nat) (v:T0):Option R:=held (loopN cs n b2 (K2 k) (s0 v))
noncomputable def D0 (v:T0):Option R:=lim fun L=>l0 (L 0) (L 1) v
theorem D0_cn (v:T0):Cn late (D0 v) fun L=>l0 (L 0) (L 1) v:=of_lim
def d0 (p0:Y0):Y0:=fun (v0,v1) =>
br (decide (0 < v1)) (br (!decide (v1 = 0)) (p0 (v1,v0.tmod v1)) none) (some (wrap .i64 (bAnn .u64 v0 9223372036854775808)))
theorem d0_cn (k0:Pr E T0 R):∀ v:T0,Cn E (d0 k0.p v) fun i=>d0 (k0.q i) v:=fun (v0,v1)=>(.br (.br (k0.h _) .none) .some)
theorem l0_b ( k m1:Nat):∀ v:T0,run (cs m1) (loopN cs m1) b2 (kLoop cs m1 b2 (K2 k)) (s0 v) = d0 (l0 k m1) v:=fun (v0,v1)=>by kernel_rfl
theorem D0_of (v:T0) {r:R} (h:d0 D0 v = some r):D0 v = some r:=loop_of 1 (fun L n hn=>by show l0 (L 0) (L 1) v = _; rw [hn]; exact (held_eq _).trans ((loopN_succ _ _ _ _ _).trans (l0_b (L 0) n v))) (d0_cn (.mk fun v=>(D0_cn v).re [0,1]) v) h
noncomputable def f (k:Nat):Y:=fun v=>held (runFn cs k Try.f74 (sh.args v) (sh.slots v) dec)
noncomputable def F:Y:=lm f
def d (p0:g25.Y) (p1:Y0):Y:=fun (v0,v1) =>
bnd (p0 v0) fun r=>bnd (p0 v1) fun r_1=>p1 (r,r_1)
theorem d_cn (k0:Pr E g25.A g25.R) (k1:Pr E T0 R):∀ v:A,Cn E (d k0.p k1.p v) fun i=>d (k0.q i) (k1.q i) v:=fun (v0,v1)=>(.bnd (k0.h _) fun _=>(.bnd (k0.h _) fun _=>(k1.h _)))
theorem f_b (k:Nat):∀ v:A,f k v = d (g25.f k) (l0 k k) v:=fun (v0,v1)=>(held_eq _).trans (by kernel_rfl)
theorem F_of (v:A) {r:R} (h:d g25.F D0 v = some r):F v = some r:=join_of (fun L=>f_b (L 0) v) (d_cn (lp g25.f 0) (.mk fun v=>(D0_cn v).re [0,0]) v) h
noncomputable def spec (k:Nat):List AV→List Slot→Option Ans:=specS sh os (f k)
theorem spec_ok (k:Nat):SpecOk Try.prog 74 (spec k):=specS_ok cs_ok Try.func74 rfl rfl (fun _ _=>held_eq _) k
end g26
noncomputable def tg26:=tg25.cons 74 g26.spec g26.spec_ok
namespace g27 -- frac_Check
abbrev R:Type:=Int
abbrev A:Type:=Int × Int
abbrev Y:=A→Option R
def lv:List (Nat × List Nat):=[(2000000,[2])]
noncomputable def cs:Nat→Ctx:=ctxOf tis modes tg26.1 lv
theorem cs_ok (n:Nat):CtxOk Try.prog (cs n):=ctxOf_ok rfl tis_ok tg26.2 n
def sh:AS:=⟨[(.agg [.int .i64,.int .i64])],[]⟩
def os:OS:=⟨.c (.int .i64),[]⟩
def enc (r:R):Out:=os.enc r
def dec:Out→Option R:=os.dec
noncomputable def b0:Code:=subF [] Try.f64
noncomputable def K0 (k:Nat):Kt R:=kTop (cs k) Try.f64 dec
noncomputable def f (k:Nat):Y:=fun v=>held (runFn cs k Try.f64 (sh.args v) (sh.slots v) dec)
noncomputable def F:Y:=lm f
def d (p0:g26.Y):Y:=fun (v0,v1) =>
br (decide (v0 < -1152921504606846976) || decide (1152921504606846976 < v0) || decide (v1 < 1) || decide (1152921504606846976 < v1)) (some 4) (bnd (p0 (v0,v1)) fun r=>br (!decide (r = 1)) (some 3) (some 0))
theorem d_cn (k0:Pr E g26.A g26.R):∀ v:A,Cn E (d k0.p v) fun i=>d (k0.q i) v:=fun (v0,v1)=>(.br .some (.bnd (k0.h _) fun _=>(.br .some .some)))
theorem f_b (k:Nat):∀ v:A,f k v = d (g26.f k) v:=fun (v0,v1)=>(held_eq _).trans (by kernel_rfl)
theorem F_of (v:A) {r:R} (h:d g26.F v = some r):F v = some r:=join_of (fun L=>f_b (L 0) v) (d_cn (lp g26.f 0) v) h
noncomputable def spec (k:Nat):List AV→List Slot→Option Ans:=specS sh os (f k)
theorem spec_ok (k:Nat):SpecOk Try.prog 64 (spec k):=specS_ok cs_ok Try.func64 rfl rfl (fun _ _=>held_eq _) k
end g27
noncomputable def tg27:=tg26.cons 64 g27.spec g27.spec_ok
namespace g28 -- num_CeilDiv
abbrev R:Type:=Int
abbrev A:Type:=Int × Int
abbrev Y:=A→Option R
def lv:List (Nat × List Nat):=[(2000000,[4]),(1000006,[5])]
noncomputable def cs:Nat→Ctx:=ctxOf tis modes tg27.1 lv
theorem cs_ok (n:Nat):CtxOk Try.prog (cs n):=ctxOf_ok rfl tis_ok tg27.2 n
def sh:AS:=⟨[.c (.int .i64),.c (.int .i64)],[]⟩
def os:OS:=⟨.c (.int .i64),[]⟩
def enc (r:R):Out:=os.enc r
def dec:Out→Option R:=os.dec
noncomputable def b0:Code:=subF [] Try.f76
noncomputable def K0 (k:Nat):Kt R:=kTop (cs k) Try.f76 dec
noncomputable def c1000006:Code:=sub [1,1,1,1] b0
noncomputable def J1000006 ( k:Nat):Kt R:=kAt (cs k) (loopN cs k) [1,1,1,1] b0 (K0 k)
abbrev T0:Type:=Int
abbrev Y0:=T0→Option R
def s0:T0→St:=fun v0=>⟨18,0,[(5,.c (.int .i64 v0))],[],[(256000000,.gone)]⟩
noncomputable def l0 ( k:Nat) (v:T0):Option R:=held (run (cs k) (loopN cs k) c1000006 (J1000006 k) (s0 v))
noncomputable def D0 (v:T0):Option R:=lim fun L=>l0 (L 0) v
theorem D0_cn (v:T0):Cn late (D0 v) fun L=>l0 (L 0) v:=of_lim
def d0:Y0:=fun v0 =>
some v0
theorem d0_cn:∀ v:T0,Cn E (d0 v) fun i=>d0 v:=fun v0=>.some
theorem l0_b ( k:Nat):∀ v:T0,run (cs k) (loopN cs k) c1000006 (J1000006 k) (s0 v) = d0 v:=fun v0=>by kernel_rfl
theorem D0_of (v:T0) {r:R} (h:d0 v = some r):D0 v = some r:=join_of (fun L=>(held_eq _).trans (l0_b (L 0) v)) (d0_cn v) h
noncomputable def f (k:Nat):Y:=fun v=>held (runFn cs k Try.f76 (sh.args v) (sh.slots v) dec)
noncomputable def F:Y:=lm f
def d (p0:Y0):Y:=fun (v0,v1) =>
br (decide (v1 < 1)) (some 0) (br (!decide (v1 = 0)) (br (!decide (v1 = 0)) (br (decide (0 < v0.tmod v1)) (p0 (wrap .i64 (wrap .i64 (v0.tdiv v1) + 1))) (p0 (wrap .i64 (v0.tdiv v1)))) none) none)
theorem d_cn (k0:Pr E T0 R):∀ v:A,Cn E (d k0.p v) fun i=>d (k0.q i) v:=fun (v0,v1)=>(.br .some (.br (.br (.br (k0.h _) (k0.h _)) .none) .none))
theorem f_b (k:Nat):∀ v:A,f k v = d (l0 k) v:=fun (v0,v1)=>(held_eq _).trans (by kernel_rfl)
theorem F_of (v:A) {r:R} (h:d D0 v = some r):F v = some r:=join_of (fun L=>f_b (L 0) v) (d_cn (.mk fun v=>(D0_cn v).re [0]) v) h
noncomputable def spec (k:Nat):List AV→List Slot→Option Ans:=specS sh os (f k)
theorem spec_ok (k:Nat):SpecOk Try.prog 76 (spec k):=specS_ok cs_ok Try.func76 rfl rfl (fun _ _=>held_eq _) k
end g28
noncomputable def tg28:=tg27.cons 76 g28.spec g28.spec_ok
namespace g29 -- frac_rounded
abbrev R:Type:=Int
abbrev A:Type:=Int × Int
abbrev Y:=A→Option R
def lv:List (Nat × List Nat):=[(2000000,[4])]
noncomputable def cs:Nat→Ctx:=ctxOf tis modes tg28.1 lv
theorem cs_ok (n:Nat):CtxOk Try.prog (cs n):=ctxOf_ok rfl tis_ok tg28.2 n
def sh:AS:=⟨[.agg [.int .i64,.int .i64],.c (.func 76 [])],[]⟩
def os:OS:=⟨.c (.int .i64),[]⟩
def enc (r:R):Out:=os.enc r
def dec:Out→Option R:=os.dec
noncomputable def b0:Code:=subF [] Try.f75
noncomputable def K0 (k:Nat):Kt R:=kTop (cs k) Try.f75 dec
noncomputable def f (k:Nat):Y:=fun v=>held (runFn cs k Try.f75 (sh.args v) (sh.slots v) dec)
noncomputable def F:Y:=lm f
def d (p0:g27.Y) (p1:g28.Y):Y:=fun (v0,v1) =>
bnd (p0 (v0,v1)) fun r=>br (!decide (r = 0)) (some 0) (bnd (p1 (v0,v1)) fun r=>some r)
theorem d_cn (k0:Pr E g27.A g27.R) (k1:Pr E g28.A g28.R):∀ v:A,Cn E (d k0.p k1.p v) fun i=>d (k0.q i) (k1.q i) v:=fun (v0,v1)=>(.bnd (k0.h _) fun _=>(.br .some (.bnd (k1.h _) fun _=>.some)))
theorem f_b (k:Nat):∀ v:A,f k v = d (g27.f k) (g28.f k) v:=fun (v0,v1)=>(held_eq _).trans (by kernel_rfl)
theorem F_of (v:A) {r:R} (h:d g27.F g28.F v = some r):F v = some r:=join_of (fun L=>f_b (L 0) v) (d_cn (lp g27.f 0) (lp g28.f 0) v) h
noncomputable def spec (k:Nat):List AV→List Slot→Option Ans:=specS sh os (f k)
theorem spec_ok (k:Nat):SpecOk Try.prog 75 (spec k):=specS_ok cs_ok Try.func75 rfl rfl (fun _ _=>held_eq _) k
end g29
noncomputable def tg29:=tg28.cons 75 g29.spec g29.spec_ok
namespace g30 -- frac_Ceil
abbrev R:Type:=Int
abbrev A:Type:=Int × Int
abbrev Y:=A→Option R
def lv:List (Nat × List Nat):=[(2000000,[2])]
noncomputable def cs:Nat→Ctx:=ctxOf tis modes tg29.1 lv
theorem cs_ok (n:Nat):CtxOk Try.prog (cs n):=ctxOf_ok rfl tis_ok tg29.2 n
def sh:AS:=⟨[(.agg [.int .i64,.int .i64])],[]⟩
def os:OS:=⟨.c (.int .i64),[]⟩
def enc (r:R):Out:=os.enc r
def dec:Out→Option R:=os.dec
noncomputable def b0:Code:=subF [] Try.f65
noncomputable def K0 (k:Nat):Kt R:=kTop (cs k) Try.f65 dec
noncomputable def f (k:Nat):Y:=fun v=>held (runFn cs k Try.f65 (sh.args v) (sh.slots v) dec)
noncomputable def F:Y:=lm f
def d (p0:g29.Y):Y:=fun (v0,v1) =>
bnd (p0 (v0,v1)) fun r=>some r
theorem d_cn (k0:Pr E g29.A g29.R):∀ v:A,Cn E (d k0.p v) fun i=>d (k0.q i) v:=fun (v0,v1)=>(.bnd (k0.h _) fun _=>.some)
theorem f_b (k:Nat):∀ v:A,f k v = d (g29.f k) v:=fun (v0,v1)=>(held_eq _).trans (by kernel_rfl)
theorem F_of (v:A) {r:R} (h:d g29.F v = some r):F v = some r:=join_of (fun L=>f_b (L 0) v) (d_cn (lp g29.f 0) v) h
noncomputable def spec (k:Nat):List AV→List Slot→Option Ans:=specS sh os (f k)
theorem spec_ok (k:Nat):SpecOk Try.prog 65 (spec k):=specS_ok cs_ok Try.func65 rfl rfl (fun _ _=>held_eq _) k
end g30
noncomputable def tg30:=tg29.cons 65 g30.spec g30.spec_ok
namespace g31 -- scale_CheckRate
abbrev R:Type:=Int
abbrev A:Type:=Int × Int × Int × Int
abbrev Y:=A→Option R
def lv:List (Nat × List Nat):=[(2000000,[2])]
noncomputable def cs:Nat→Ctx:=ctxOf tis modes tg30.1 lv
theorem cs_ok (n:Nat):CtxOk Try.prog (cs n):=ctxOf_ok rfl tis_ok tg30.2 n
def sh:AS:=⟨[(.agg [.int .i64,.int .i64,.int .i64,.int .i64])],[]⟩
def os:OS:=⟨.c (.int .i64),[]⟩
def enc (r:R):Out:=os.enc r
def dec:Out→Option R:=os.dec
noncomputable def b0:Code:=subF [] Try.f45
noncomputable def K0 (k:Nat):Kt R:=kTop (cs k) Try.f45 dec
noncomputable def f (k:Nat):Y:=fun v=>held (runFn cs k Try.f45 (sh.args v) (sh.slots v) dec)
noncomputable def F:Y:=lm f
def d (p0:g27.Y) (p1:g30.Y):Y:=fun (v0,v1,v2,v3) =>
bnd (p0 (v2,v3)) fun r=>br (decide (v0 < -17592186044416) || decide (17592186044416 < v0) || decide (v1 < 0) || decide (4294967296 ≤ v1)) (some 4) (br (!decide (r = 0)) (some r) (br (decide (v2 < 1) == false) (bnd (p1 (v2,v3)) fun r=>br (decide (65536 < r)) (some 1) (some 0)) (some 1)))
theorem d_cn (k0:Pr E g27.A g27.R) (k1:Pr E g30.A g30.R):∀ v:A,Cn E (d k0.p k1.p v) fun i=>d (k0.q i) (k1.q i) v:=fun (v0,v1,v2,v3)=>(.bnd (k0.h _) fun _=>(.br .some (.br .some (.br (.bnd (k1.h _) fun _=>(.br .some .some)) .some))))
theorem f_b (k:Nat):∀ v:A,f k v = d (g27.f k) (g30.f k) v:=fun (v0,v1,v2,v3)=>(held_eq _).trans (by kernel_rfl)
theorem F_of (v:A) {r:R} (h:d g27.F g30.F v = some r):F v = some r:=join_of (fun L=>f_b (L 0) v) (d_cn (lp g27.f 0) (lp g30.f 0) v) h
noncomputable def spec (k:Nat):List AV→List Slot→Option Ans:=specS sh os (f k)
theorem spec_ok (k:Nat):SpecOk Try.prog 45 (spec k):=specS_ok cs_ok Try.func45 rfl rfl (fun _ _=>held_eq _) k
end g31
noncomputable def tg31:=tg30.cons 45 g31.spec g31.spec_ok
namespace g32 -- cmp_Or_Errno
abbrev R:Type:=Int
abbrev A:Type:=List Int
abbrev Y:=A→Option R
def lv:List (Nat × List Nat):=[(2000000,[2]),(3,[3,6,7,8])]
noncomputable def cs:Nat→Ctx:=ctxOf tis modes tg31.1 lv
theorem cs_ok (n:Nat):CtxOk Try.prog (cs n):=ctxOf_ok rfl tis_ok tg31.2 n
def sh:AS:=⟨[(.c (.frz (.int .i64)))],[]⟩
def os:OS:=⟨.c (.int .i64),[]⟩
def enc (r:R):Out:=os.enc r
def dec:Out→Option R:=os.dec
noncomputable def b0:Code:=subF [] Try.f48
noncomputable def K0 (k:Nat):Kt R:=kTop (cs k) Try.f48 dec
noncomputable def b3:Code:=sub [1,1,0,1,0,0] b0
noncomputable def K3 ( k:Nat):Kt R:=kAt (cs k) (loopN cs k) [1,1,0,1,0] b0 (K0 k)
abbrev T0:Type:=Int × List Int × Int × Int
abbrev Y0:=T0→Option R
def s0:T0→St:=fun (v0,v1,v2,v3)=>⟨18,0,[(3,.c (.int .i64 v0)),(6,.c (.frz (.int .i64) v1)),(7,.c (.int .i64 v2)),(8,.c (.int .i64 v3))],[],[(256000000,.gone)]⟩
noncomputable def l0 ( k n:Nat) (v:T0):Option R:=held (loopN cs n b3 (K3 k) (s0 v))
noncomputable def D0 (v:T0):Option R:=lim fun L=>l0 (L 0) (L 1) v
theorem D0_cn (v:T0):Cn late (D0 v) fun L=>l0 (L 0) (L 1) v:=of_lim
def d0 (p0:Y0):Y0:=fun (v0,v1,v2,v3) =>
br (decide (v3 < v2)) (br (decide (0 ≤ v3 ∧ v3 < (↑v1.length:Int))) (br (!decide (rd (Ty.int .i64) v1 v3 = v0)) (some (rd (Ty.int .i64) v1 v3)) (p0 (v0,v1,v2,wrap .i64 (v3 + 1)))) none) (some v0)
theorem d0_cn (k0:Pr E T0 R):∀ v:T0,Cn E (d0 k0.p v) fun i=>d0 (k0.q i) v:=fun (v0,v1,v2,v3)=>(.br (.br (.br .some (k0.h _)) .none) .some)
theorem l0_b ( k m1:Nat):∀ v:T0,run (cs m1) (loopN cs m1) b3 (kLoop cs m1 b3 (K3 k)) (s0 v) = d0 (l0 k m1) v:=fun (v0,v1,v2,v3)=>by kernel_rfl
theorem D0_of (v:T0) {r:R} (h:d0 D0 v = some r):D0 v = some r:=loop_of 1 (fun L n hn=>by show l0 (L 0) (L 1) v = _; rw [hn]; exact (held_eq _).trans ((loopN_succ _ _ _ _ _).trans (l0_b (L 0) n v))) (d0_cn (.mk fun v=>(D0_cn v).re [0,1]) v) h
noncomputable def f (k:Nat):Y:=fun v=>held (runFn cs k Try.f48 (sh.args v) (sh.slots v) dec)
noncomputable def F:Y:=lm f
def d (p0:Y0):Y:=fun v0 =>
p0 (0,v0,(↑v0.length:Int),0)
theorem d_cn (k0:Pr E T0 R):∀ v:A,Cn E (d k0.p v) fun i=>d (k0.q i) v:=fun v0=>(k0.h _)
theorem f_b (k:Nat):∀ v:A,f k v = d (l0 k k) v:=fun v0=>(held_eq _).trans (by kernel_rfl)
theorem F_of (v:A) {r:R} (h:d D0 v = some r):F v = some r:=join_of (fun L=>f_b (L 0) v) (d_cn (.mk fun v=>(D0_cn v).re [0,0]) v) h
noncomputable def spec (k:Nat):List AV→List Slot→Option Ans:=specS sh os (f k)
theorem spec_ok (k:Nat):SpecOk Try.prog 48 (spec k):=specS_ok cs_ok Try.func48 rfl rfl (fun _ _=>held_eq _) k
end g32
noncomputable def tg32:=tg31.cons 48 g32.spec g32.spec_ok
namespace g33 -- frac_both
abbrev R:Type:=Int
abbrev A:Type:=Int × Int × Int × Int
abbrev Y:=A→Option R
def lv:List (Nat × List Nat):=[(2000000,[4])]
noncomputable def cs:Nat→Ctx:=ctxOf tis modes tg32.1 lv
theorem cs_ok (n:Nat):CtxOk Try.prog (cs n):=ctxOf_ok rfl tis_ok tg32.2 n
def sh:AS:=⟨[.agg [.int .i64,.int .i64],.agg [.int .i64,.int .i64]],[]⟩
def os:OS:=⟨.c (.int .i64),[]⟩
def enc (r:R):Out:=os.enc r
def dec:Out→Option R:=os.dec
noncomputable def b0:Code:=subF [] Try.f71
noncomputable def K0 (k:Nat):Kt R:=kTop (cs k) Try.f71 dec
noncomputable def f (k:Nat):Y:=fun v=>held (runFn cs k Try.f71 (sh.args v) (sh.slots v) dec)
noncomputable def F:Y:=lm f
def d (p0:g27.Y) (p1:g32.Y):Y:=fun (v0,v1,v2,v3) =>
bnd (p0 (v0,v1)) fun r=>bnd (p0 (v2,v3)) fun r_1=>bnd (p1 [r,r_1]) fun r=>some r
theorem d_cn (k0:Pr E g27.A g27.R) (k1:Pr E g32.A g32.R):∀ v:A,Cn E (d k0.p k1.p v) fun i=>d (k0.q i) (k1.q i) v:=fun (v0,v1,v2,v3)=>(.bnd (k0.h _) fun _=>(.bnd (k0.h _) fun _=>(.bnd (k1.h _) fun _=>.some)))
theorem f_b (k:Nat):∀ v:A,f k v = d (g27.f k) (g32.f k) v:=fun (v0,v1,v2,v3)=>(held_eq _).trans (by kernel_rfl)
theorem F_of (v:A) {r:R} (h:d g27.F g32.F v = some r):F v = some r:=join_of (fun L=>f_b (L 0) v) (d_cn (lp g27.f 0) (lp g32.f 0) v) h
noncomputable def spec (k:Nat):List AV→List Slot→Option Ans:=specS sh os (f k)
theorem spec_ok (k:Nat):SpecOk Try.prog 71 (spec k):=specS_ok cs_ok Try.func71 rfl rfl (fun _ _=>held_eq _) k
end g33
noncomputable def tg33:=tg32.cons 71 g33.spec g33.spec_ok
namespace g34 -- bits_Mul64
abbrev R:Type:=Int × Int
abbrev A:Type:=Int × Int
abbrev Y:=A→Option R
def lv:List (Nat × List Nat):=[(2000000,[4,5])]
noncomputable def cs:Nat→Ctx:=ctxOf tis modes tg33.1 lv
theorem cs_ok (n:Nat):CtxOk Try.prog (cs n):=ctxOf_ok rfl tis_ok tg33.2 n
def sh:AS:=⟨[.c (.int .u64),.c (.int .u64)],[]⟩
def os:OS:=⟨.tup [.c (.int .u64),.c (.int .u64)],[]⟩
def enc (r:R):Out:=os.enc r
def dec:Out→Option R:=os.dec
noncomputable def b0:Code:=subF [] Try.f80
noncomputable def K0 (k:Nat):Kt R:=kTop (cs k) Try.f80 dec
noncomputable def f (k:Nat):Y:=fun v=>held (runFn cs k Try.f80 (sh.args v) (sh.slots v) dec)
noncomputable def F:Y:=lm f
noncomputable def d:Y:=fun (v0,v1) =>
br (decide ((0:Int) ≤ 32)) (br (decide ((0:Int) ≤ 32)) (br (decide ((0:Int) ≤ 32)) (br (decide ((0:Int) ≤ 32)) (br (decide ((0:Int) ≤ 32)) (some (wrap .u64 (wrap .u64 (wrap .u64 (shr .u64 v0 32 * shr .u64 v1 32) + shr .u64 (wrap .u64 (wrap .u64 (shr .u64 v0 32 * bAnd .u64 v1 4294967295) + shr .u64 (wrap .u64 (bAnd .u64 v0 4294967295 * bAnd .u64 v1 4294967295)) 32)) 32) + shr .u64 (wrap .u64 (bAnd .u64 (wrap .u64 (wrap .u64 (shr .u64 v0 32 * bAnd .u64 v1 4294967295) + shr .u64 (wrap .u64 (bAnd .u64 v0 4294967295 * bAnd .u64 v1 4294967295)) 32)) 4294967295 + wrap .u64 (bAnd .u64 v0 4294967295 * shr .u64 v1 32))) 32),wrap .u64 (v0 * v1))) none) none) none) none) none
theorem d_cn:∀ v:A,Cn E (d v) fun i=>d v:=fun (v0,v1)=>(.br (.br (.br (.br (.br .some .none) .none) .none) .none) .none)
theorem f_b (k:Nat):∀ v:A,f k v = d v:=fun (v0,v1)=>(held_eq _).trans (by kernel_rfl)
theorem F_of (v:A) {r:R} (h:d v = some r):F v = some r:=join_of (fun L=>f_b (L 0) v) (d_cn v) h
noncomputable def spec (k:Nat):List AV→List Slot→Option Ans:=specS sh os (f k)
theorem spec_ok (k:Nat):SpecOk Try.prog 80 (spec k):=specS_ok cs_ok Try.func80 rfl rfl (fun _ _=>held_eq _) k
end g34
noncomputable def tg34:=tg33.cons 80 g34.spec g34.spec_ok
namespace g35 -- bits_Add64
abbrev R:Type:=Int × Int
abbrev A:Type:=Int × Int × Int
abbrev Y:=A→Option R
noncomputable def f (_:Nat):Y:=add64D
noncomputable def F:Y:=lm f
def d:Y:=add64D
theorem d_cn:∀ v:A,Cn E (d v) fun _=>d v:=fun _=>.some
theorem F_of (v:A) {r:R} (h:d v = some r):F v = some r:=join_of (fun L=>rfl) (d_cn v) h
noncomputable def spec (_:Nat):List AV→List Slot→Option Ans:=carrySpec add64D
theorem spec_ok (k:Nat):SpecOk Try.prog 87 (spec k):=add64_ok Try.func87 rfl rfl rfl (by kernel_rfl)
end g35
noncomputable def tg35:=tg34.cons 87 g35.spec g35.spec_ok
namespace g36 -- num_Wide_Neg
abbrev R:Type:=Int × Int
abbrev A:Type:=Int × Int
abbrev Y:=A→Option R
def lv:List (Nat × List Nat):=[(2000000,[2])]
noncomputable def cs:Nat→Ctx:=ctxOf tis modes tg35.1 lv
theorem cs_ok (n:Nat):CtxOk Try.prog (cs n):=ctxOf_ok rfl tis_ok tg35.2 n
def sh:AS:=⟨[(.agg [.int .i64,.int .u64])],[]⟩
def os:OS:=⟨.agg [.int .i64,.int .u64],[]⟩
def enc (r:R):Out:=os.enc r
def dec:Out→Option R:=os.dec
noncomputable def b0:Code:=subF [] Try.f82
noncomputable def K0 (k:Nat):Kt R:=kTop (cs k) Try.f82 dec
noncomputable def f (k:Nat):Y:=fun v=>held (runFn cs k Try.f82 (sh.args v) (sh.slots v) dec)
noncomputable def F:Y:=lm f
def d (p0:g35.Y):Y:=fun (v0,v1) =>
bnd (p0 (bXor .u64 18446744073709551615 v1,1,0)) fun r=>bnd (p0 (bXor .u64 18446744073709551615 (wrap .u64 v0),0,r.2)) fun r_1=>some (wrap .i64 r_1.1,r.1)
theorem d_cn (k0:Pr E g35.A g35.R):∀ v:A,Cn E (d k0.p v) fun i=>d (k0.q i) v:=fun (v0,v1)=>(.bnd (k0.h _) fun _=>(.bnd (k0.h _) fun _=>.some))
theorem f_b (k:Nat):∀ v:A,f k v = d (g35.f k) v:=fun (v0,v1)=>(held_eq _).trans (by kernel_rfl)
theorem F_of (v:A) {r:R} (h:d g35.F v = some r):F v = some r:=join_of (fun L=>f_b (L 0) v) (d_cn (lp g35.f 0) v) h
noncomputable def spec (k:Nat):List AV→List Slot→Option Ans:=specS sh os (f k)
theorem spec_ok (k:Nat):SpecOk Try.prog 82 (spec k):=specS_ok cs_ok Try.func82 rfl rfl (fun _ _=>held_eq _) k
end g36
noncomputable def tg36:=tg35.cons 82 g36.spec g36.spec_ok
namespace g37 -- num_Product
abbrev R:Type:=Int × Int
abbrev A:Type:=Int × Int
abbrev Y:=A→Option R
def lv:List (Nat × List Nat):=[(2000000,[4])]
noncomputable def cs:Nat→Ctx:=ctxOf tis modes tg36.1 lv
theorem cs_ok (n:Nat):CtxOk Try.prog (cs n):=ctxOf_ok rfl tis_ok tg36.2 n
def sh:AS:=⟨[.c (.int .i64),.c (.int .i64)],[]⟩
def os:OS:=⟨.agg [.int .i64,.int .u64],[]⟩
def enc (r:R):Out:=os.enc r
def dec:Out→Option R:=os.dec
noncomputable def b0:Code:=subF [] Try.f72
noncomputable def K0 (k:Nat):Kt R:=kTop (cs k) Try.f72 dec
noncomputable def f (k:Nat):Y:=fun v=>held (runFn cs k Try.f72 (sh.args v) (sh.slots v) dec)
noncomputable def F:Y:=lm f
def d (p0:g25.Y) (p1:g34.Y) (p2:g36.Y):Y:=fun (v0,v1) =>
bnd (p0 v0) fun r=>bnd (p0 v1) fun r_1=>bnd (p1 (r,r_1)) fun r=>br (!decide (v0 < 0) == decide (v1 < 0)) (bnd (p2 (wrap .i64 r.1,r.2)) fun r=>some (r.1,r.2)) (some (wrap .i64 r.1,r.2))
theorem d_cn (k0:Pr E g25.A g25.R) (k1:Pr E g34.A g34.R) (k2:Pr E g36.A g36.R):∀ v:A,Cn E (d k0.p k1.p k2.p v) fun i=>d (k0.q i) (k1.q i) (k2.q i) v:=fun (v0,v1)=>(.bnd (k0.h _) fun _=>(.bnd (k0.h _) fun _=>(.bnd (k1.h _) fun _=>(.br (.bnd (k2.h _) fun _=>.some) .some))))
theorem f_b (k:Nat):∀ v:A,f k v = d (g25.f k) (g34.f k) (g36.f k) v:=fun (v0,v1)=>(held_eq _).trans (by kernel_rfl)
theorem F_of (v:A) {r:R} (h:d g25.F g34.F g36.F v = some r):F v = some r:=join_of (fun L=>f_b (L 0) v) (d_cn (lp g25.f 0) (lp g34.f 0) (lp g36.f 0) v) h
noncomputable def spec (k:Nat):List AV→List Slot→Option Ans:=specS sh os (f k)
theorem spec_ok (k:Nat):SpecOk Try.prog 72 (spec k):=specS_ok cs_ok Try.func72 rfl rfl (fun _ _=>held_eq _) k
end g37
noncomputable def tg37:=tg36.cons 72 g37.spec g37.spec_ok
namespace g38 -- cmp_isNaN_int64
abbrev R:Type:=Bool
abbrev A:Type:=Int
abbrev Y:=A→Option R
def lv:List (Nat × List Nat):=[(2000000,[2])]
noncomputable def cs:Nat→Ctx:=ctxOf tis modes tg37.1 lv
theorem cs_ok (n:Nat):CtxOk Try.prog (cs n):=ctxOf_ok rfl tis_ok tg37.2 n
def sh:AS:=⟨[(.c (.int .i64))],[]⟩
def os:OS:=⟨.c .bool,[]⟩
def enc (r:R):Out:=os.enc r
def dec:Out→Option R:=os.dec
noncomputable def b0:Code:=subF [] Try.f88
noncomputable def K0 (k:Nat):Kt R:=kTop (cs k) Try.f88 dec
noncomputable def f (k:Nat):Y:=fun v=>held (runFn cs k Try.f88 (sh.args v) (sh.slots v) dec)
noncomputable def F:Y:=lm f
def d:Y:=fun v0 =>
some !decide (v0 = v0)
theorem d_cn:∀ v:A,Cn E (d v) fun i=>d v:=fun v0=>.some
theorem f_b (k:Nat):∀ v:A,f k v = d v:=fun v0=>(held_eq _).trans (by kernel_rfl)
theorem F_of (v:A) {r:R} (h:d v = some r):F v = some r:=join_of (fun L=>f_b (L 0) v) (d_cn v) h
noncomputable def spec (k:Nat):List AV→List Slot→Option Ans:=specS sh os (f k)
theorem spec_ok (k:Nat):SpecOk Try.prog 88 (spec k):=specS_ok cs_ok Try.func88 rfl rfl (fun _ _=>held_eq _) k
end g38
noncomputable def tg38:=tg37.cons 88 g38.spec g38.spec_ok
namespace g39 -- cmp_Compare_int64
abbrev R:Type:=Int
abbrev A:Type:=Int × Int
abbrev Y:=A→Option R
def lv:List (Nat × List Nat):=[(2000000,[4])]
noncomputable def cs:Nat→Ctx:=ctxOf tis modes tg38.1 lv
theorem cs_ok (n:Nat):CtxOk Try.prog (cs n):=ctxOf_ok rfl tis_ok tg38.2 n
def sh:AS:=⟨[.c (.int .i64),.c (.int .i64)],[]⟩
def os:OS:=⟨.c (.int .i64),[]⟩
def enc (r:R):Out:=os.enc r
def dec:Out→Option R:=os.dec
noncomputable def b0:Code:=subF [] Try.f84
noncomputable def K0 (k:Nat):Kt R:=kTop (cs k) Try.f84 dec
noncomputable def f (k:Nat):Y:=fun v=>held (runFn cs k Try.f84 (sh.args v) (sh.slots v) dec)
noncomputable def F:Y:=lm f
def d (p0:g38.Y):Y:=fun (v0,v1) =>
bnd (p0 v0) fun r=>bnd (p0 v1) fun r_1=>br r (br r_1 (some 0) (some (-1))) (br r_1 (some 1) (br (decide (v0 < v1)) (some (-1)) (br (decide (v1 < v0)) (some 1) (some 0))))
theorem d_cn (k0:Pr E g38.A g38.R):∀ v:A,Cn E (d k0.p v) fun i=>d (k0.q i) v:=fun (v0,v1)=>(.bnd (k0.h _) fun _=>(.bnd (k0.h _) fun _=>(.br (.br .some .some) (.br .some (.br .some (.br .some .some))))))
theorem f_b (k:Nat):∀ v:A,f k v = d (g38.f k) v:=fun (v0,v1)=>(held_eq _).trans (by kernel_rfl)
theorem F_of (v:A) {r:R} (h:d g38.F v = some r):F v = some r:=join_of (fun L=>f_b (L 0) v) (d_cn (lp g38.f 0) v) h
noncomputable def spec (k:Nat):List AV→List Slot→Option Ans:=specS sh os (f k)
theorem spec_ok (k:Nat):SpecOk Try.prog 84 (spec k):=specS_ok cs_ok Try.func84 rfl rfl (fun _ _=>held_eq _) k
end g39
noncomputable def tg39:=tg38.cons 84 g39.spec g39.spec_ok
namespace g40 -- cmp_isNaN_uint64
abbrev R:Type:=Bool
abbrev A:Type:=Int
abbrev Y:=A→Option R
def lv:List (Nat × List Nat):=[(2000000,[2])]
noncomputable def cs:Nat→Ctx:=ctxOf tis modes tg39.1 lv
theorem cs_ok (n:Nat):CtxOk Try.prog (cs n):=ctxOf_ok rfl tis_ok tg39.2 n
def sh:AS:=⟨[(.c (.int .u64))],[]⟩
def os:OS:=⟨.c .bool,[]⟩
def enc (r:R):Out:=os.enc r
def dec:Out→Option R:=os.dec
noncomputable def b0:Code:=subF [] Try.f89
noncomputable def K0 (k:Nat):Kt R:=kTop (cs k) Try.f89 dec
noncomputable def f (k:Nat):Y:=fun v=>held (runFn cs k Try.f89 (sh.args v) (sh.slots v) dec)
noncomputable def F:Y:=lm f
def d:Y:=fun v0 =>
some !decide (v0 = v0)
theorem d_cn:∀ v:A,Cn E (d v) fun i=>d v:=fun v0=>.some
theorem f_b (k:Nat):∀ v:A,f k v = d v:=fun v0=>(held_eq _).trans (by kernel_rfl)
theorem F_of (v:A) {r:R} (h:d v = some r):F v = some r:=join_of (fun L=>f_b (L 0) v) (d_cn v) h
noncomputable def spec (k:Nat):List AV→List Slot→Option Ans:=specS sh os (f k)
theorem spec_ok (k:Nat):SpecOk Try.prog 89 (spec k):=specS_ok cs_ok Try.func89 rfl rfl (fun _ _=>held_eq _) k
end g40
noncomputable def tg40:=tg39.cons 89 g40.spec g40.spec_ok
namespace g41 -- cmp_Compare_uint64
abbrev R:Type:=Int
abbrev A:Type:=Int × Int
abbrev Y:=A→Option R
def lv:List (Nat × List Nat):=[(2000000,[4])]
noncomputable def cs:Nat→Ctx:=ctxOf tis modes tg40.1 lv
theorem cs_ok (n:Nat):CtxOk Try.prog (cs n):=ctxOf_ok rfl tis_ok tg40.2 n
def sh:AS:=⟨[.c (.int .u64),.c (.int .u64)],[]⟩
def os:OS:=⟨.c (.int .i64),[]⟩
def enc (r:R):Out:=os.enc r
def dec:Out→Option R:=os.dec
noncomputable def b0:Code:=subF [] Try.f85
noncomputable def K0 (k:Nat):Kt R:=kTop (cs k) Try.f85 dec
noncomputable def f (k:Nat):Y:=fun v=>held (runFn cs k Try.f85 (sh.args v) (sh.slots v) dec)
noncomputable def F:Y:=lm f
def d (p0:g40.Y):Y:=fun (v0,v1) =>
bnd (p0 v0) fun r=>bnd (p0 v1) fun r_1=>br r (br r_1 (some 0) (some (-1))) (br r_1 (some 1) (br (decide (v0 < v1)) (some (-1)) (br (decide (v1 < v0)) (some 1) (some 0))))
theorem d_cn (k0:Pr E g40.A g40.R):∀ v:A,Cn E (d k0.p v) fun i=>d (k0.q i) v:=fun (v0,v1)=>(.bnd (k0.h _) fun _=>(.bnd (k0.h _) fun _=>(.br (.br .some .some) (.br .some (.br .some (.br .some .some))))))
theorem f_b (k:Nat):∀ v:A,f k v = d (g40.f k) v:=fun (v0,v1)=>(held_eq _).trans (by kernel_rfl)
theorem F_of (v:A) {r:R} (h:d g40.F v = some r):F v = some r:=join_of (fun L=>f_b (L 0) v) (d_cn (lp g40.f 0) v) h
noncomputable def spec (k:Nat):List AV→List Slot→Option Ans:=specS sh os (f k)
theorem spec_ok (k:Nat):SpecOk Try.prog 85 (spec k):=specS_ok cs_ok Try.func85 rfl rfl (fun _ _=>held_eq _) k
end g41
noncomputable def tg41:=tg40.cons 85 g41.spec g41.spec_ok
namespace g42 -- cmp_Or_int
abbrev R:Type:=Int
abbrev A:Type:=List Int
abbrev Y:=A→Option R
def lv:List (Nat × List Nat):=[(2000000,[2]),(3,[3,6,7,8])]
noncomputable def cs:Nat→Ctx:=ctxOf tis modes tg41.1 lv
theorem cs_ok (n:Nat):CtxOk Try.prog (cs n):=ctxOf_ok rfl tis_ok tg41.2 n
def sh:AS:=⟨[(.c (.frz (.int .i64)))],[]⟩
def os:OS:=⟨.c (.int .i64),[]⟩
def enc (r:R):Out:=os.enc r
def dec:Out→Option R:=os.dec
noncomputable def b0:Code:=subF [] Try.f83
noncomputable def K0 (k:Nat):Kt R:=kTop (cs k) Try.f83 dec
noncomputable def b3:Code:=sub [1,1,0,1,0,0] b0
noncomputable def K3 ( k:Nat):Kt R:=kAt (cs k) (loopN cs k) [1,1,0,1,0] b0 (K0 k)
abbrev T0:Type:=Int × List Int × Int × Int
abbrev Y0:=T0→Option R
def s0:T0→St:=fun (v0,v1,v2,v3)=>⟨18,0,[(3,.c (.int .i64 v0)),(6,.c (.frz (.int .i64) v1)),(7,.c (.int .i64 v2)),(8,.c (.int .i64 v3))],[],[(256000000,.gone)]⟩
noncomputable def l0 ( k n:Nat) (v:T0):Option R:=held (loopN cs n b3 (K3 k) (s0 v))
noncomputable def D0 (v:T0):Option R:=lim fun L=>l0 (L 0) (L 1) v
theorem D0_cn (v:T0):Cn late (D0 v) fun L=>l0 (L 0) (L 1) v:=of_lim
def d0 (p0:Y0):Y0:=fun (v0,v1,v2,v3) =>
br (decide (v3 < v2)) (br (decide (0 ≤ v3 ∧ v3 < (↑v1.length:Int))) (br (!decide (rd (Ty.int .i64) v1 v3 = v0)) (some (rd (Ty.int .i64) v1 v3)) (p0 (v0,v1,v2,wrap .i64 (v3 + 1)))) none) (some v0)
theorem d0_cn (k0:Pr E T0 R):∀ v:T0,Cn E (d0 k0.p v) fun i=>d0 (k0.q i) v:=fun (v0,v1,v2,v3)=>(.br (.br (.br .some (k0.h _)) .none) .some)
theorem l0_b ( k m1:Nat):∀ v:T0,run (cs m1) (loopN cs m1) b3 (kLoop cs m1 b3 (K3 k)) (s0 v) = d0 (l0 k m1) v:=fun (v0,v1,v2,v3)=>by kernel_rfl
theorem D0_of (v:T0) {r:R} (h:d0 D0 v = some r):D0 v = some r:=loop_of 1 (fun L n hn=>by show l0 (L 0) (L 1) v = _; rw [hn]; exact (held_eq _).trans ((loopN_succ _ _ _ _ _).trans (l0_b (L 0) n v))) (d0_cn (.mk fun v=>(D0_cn v).re [0,1]) v) h
noncomputable def f (k:Nat):Y:=fun v=>held (runFn cs k Try.f83 (sh.args v) (sh.slots v) dec)
noncomputable def F:Y:=lm f
def d (p0:Y0):Y:=fun v0 =>
p0 (0,v0,(↑v0.length:Int),0)
theorem d_cn (k0:Pr E T0 R):∀ v:A,Cn E (d k0.p v) fun i=>d (k0.q i) v:=fun v0=>(k0.h _)
theorem f_b (k:Nat):∀ v:A,f k v = d (l0 k k) v:=fun v0=>(held_eq _).trans (by kernel_rfl)
theorem F_of (v:A) {r:R} (h:d D0 v = some r):F v = some r:=join_of (fun L=>f_b (L 0) v) (d_cn (.mk fun v=>(D0_cn v).re [0,0]) v) h
noncomputable def spec (k:Nat):List AV→List Slot→Option Ans:=specS sh os (f k)
theorem spec_ok (k:Nat):SpecOk Try.prog 83 (spec k):=specS_ok cs_ok Try.func83 rfl rfl (fun _ _=>held_eq _) k
end g42
noncomputable def tg42:=tg41.cons 83 g42.spec g42.spec_ok
namespace g43 -- num_Wide_Cmp
abbrev R:Type:=Int
abbrev A:Type:=Int × Int × Int × Int
abbrev Y:=A→Option R
def lv:List (Nat × List Nat):=[(2000000,[4])]
noncomputable def cs:Nat→Ctx:=ctxOf tis modes tg42.1 lv
theorem cs_ok (n:Nat):CtxOk Try.prog (cs n):=ctxOf_ok rfl tis_ok tg42.2 n
def sh:AS:=⟨[.agg [.int .i64,.int .u64],.agg [.int .i64,.int .u64]],[]⟩
def os:OS:=⟨.c (.int .i64),[]⟩
def enc (r:R):Out:=os.enc r
def dec:Out→Option R:=os.dec
noncomputable def b0:Code:=subF [] Try.f73
noncomputable def K0 (k:Nat):Kt R:=kTop (cs k) Try.f73 dec
noncomputable def f (k:Nat):Y:=fun v=>held (runFn cs k Try.f73 (sh.args v) (sh.slots v) dec)
noncomputable def F:Y:=lm f
def d (p0:g39.Y) (p1:g41.Y) (p2:g42.Y):Y:=fun (v0,v1,v2,v3) =>
bnd (p0 (v0,v2)) fun r=>bnd (p1 (v1,v3)) fun r_1=>bnd (p2 [r,r_1]) fun r=>some r
theorem d_cn (k0:Pr E g39.A g39.R) (k1:Pr E g41.A g41.R) (k2:Pr E g42.A g42.R):∀ v:A,Cn E (d k0.p k1.p k2.p v) fun i=>d (k0.q i) (k1.q i) (k2.q i) v:=fun (v0,v1,v2,v3)=>(.bnd (k0.h _) fun _=>(.bnd (k1.h _) fun _=>(.bnd (k2.h _) fun _=>.some)))
theorem f_b (k:Nat):∀ v:A,f k v = d (g39.f k) (g41.f k) (g42.f k) v:=fun (v0,v1,v2,v3)=>(held_eq _).trans (by kernel_rfl)
theorem F_of (v:A) {r:R} (h:d g39.F g41.F g42.F v = some r):F v = some r:=join_of (fun L=>f_b (L 0) v) (d_cn (lp g39.f 0) (lp g41.f 0) (lp g42.f 0) v) h
noncomputable def spec (k:Nat):List AV→List Slot→Option Ans:=specS sh os (f k)
theorem spec_ok (k:Nat):SpecOk Try.prog 73 (spec k):=specS_ok cs_ok Try.func73 rfl rfl (fun _ _=>held_eq _) k
end g43
noncomputable def tg43:=tg42.cons 73 g43.spec g43.spec_ok
namespace g44 -- frac_Cmp
abbrev R:Type:=Int
abbrev A:Type:=Int × Int × Int × Int
abbrev Y:=A→Option R
def lv:List (Nat × List Nat):=[(2000000,[4])]
noncomputable def cs:Nat→Ctx:=ctxOf tis modes tg43.1 lv
theorem cs_ok (n:Nat):CtxOk Try.prog (cs n):=ctxOf_ok rfl tis_ok tg43.2 n
def sh:AS:=⟨[.agg [.int .i64,.int .i64],.agg [.int .i64,.int .i64]],[]⟩
def os:OS:=⟨.c (.int .i64),[]⟩
def enc (r:R):Out:=os.enc r
def dec:Out→Option R:=os.dec
noncomputable def b0:Code:=subF [] Try.f63
noncomputable def K0 (k:Nat):Kt R:=kTop (cs k) Try.f63 dec
noncomputable def f (k:Nat):Y:=fun v=>held (runFn cs k Try.f63 (sh.args v) (sh.slots v) dec)
noncomputable def F:Y:=lm f
def d (p0:g33.Y) (p1:g37.Y) (p2:g43.Y):Y:=fun (v0,v1,v2,v3) =>
bnd (p0 (v0,v1,v2,v3)) fun r=>br (!decide (r = 0)) (some 0) (bnd (p1 (v0,v3)) fun r=>bnd (p1 (v2,v1)) fun r_1=>bnd (p2 (r.1,r.2,r_1.1,r_1.2)) fun r=>some r)
theorem d_cn (k0:Pr E g33.A g33.R) (k1:Pr E g37.A g37.R) (k2:Pr E g43.A g43.R):∀ v:A,Cn E (d k0.p k1.p k2.p v) fun i=>d (k0.q i) (k1.q i) (k2.q i) v:=fun (v0,v1,v2,v3)=>(.bnd (k0.h _) fun _=>(.br .some (.bnd (k1.h _) fun _=>(.bnd (k1.h _) fun _=>(.bnd (k2.h _) fun _=>.some)))))
theorem f_b (k:Nat):∀ v:A,f k v = d (g33.f k) (g37.f k) (g43.f k) v:=fun (v0,v1,v2,v3)=>(held_eq _).trans (by kernel_rfl)
theorem F_of (v:A) {r:R} (h:d g33.F g37.F g43.F v = some r):F v = some r:=join_of (fun L=>f_b (L 0) v) (d_cn (lp g33.f 0) (lp g37.f 0) (lp g43.f 0) v) h
noncomputable def spec (k:Nat):List AV→List Slot→Option Ans:=specS sh os (f k)
theorem spec_ok (k:Nat):SpecOk Try.prog 63 (spec k):=specS_ok cs_ok Try.func63 rfl rfl (fun _ _=>held_eq _) k
end g44
noncomputable def tg44:=tg43.cons 63 g44.spec g44.spec_ok
namespace g45 -- prop_CheckSpin
abbrev R:Type:=Int
abbrev A:Type:=Int × Int × Int × Int
abbrev Y:=A→Option R
def lv:List (Nat × List Nat):=[(2000000,[2])]
noncomputable def cs:Nat→Ctx:=ctxOf tis modes tg44.1 lv
theorem cs_ok (n:Nat):CtxOk Try.prog (cs n):=ctxOf_ok rfl tis_ok tg44.2 n
def sh:AS:=⟨[(.agg [.int .i64,.int .i64,.int .i64,.int .i64])],[]⟩
def os:OS:=⟨.c (.int .i64),[]⟩
def enc (r:R):Out:=os.enc r
def dec:Out→Option R:=os.dec
noncomputable def b0:Code:=subF [] Try.f43
noncomputable def K0 (k:Nat):Kt R:=kTop (cs k) Try.f43 dec
noncomputable def f (k:Nat):Y:=fun v=>held (runFn cs k Try.f43 (sh.args v) (sh.slots v) dec)
noncomputable def F:Y:=lm f
def d (p0:g31.Y) (p1:g44.Y):Y:=fun (v0,v1,v2,v3) =>
bnd (p0 (v0,v1,v2,v3)) fun r=>br (!decide (r = 0)) (some r) (bnd (p1 (v2,v3,1,1)) fun r=>br (decide (r < 0) == false) (bnd (p1 (v2,v3,100,1)) fun r=>br (decide (0 < r)) (some 4) (some 0)) (some 4))
theorem d_cn (k0:Pr E g31.A g31.R) (k1:Pr E g44.A g44.R):∀ v:A,Cn E (d k0.p k1.p v) fun i=>d (k0.q i) (k1.q i) v:=fun (v0,v1,v2,v3)=>(.bnd (k0.h _) fun _=>(.br .some (.bnd (k1.h _) fun _=>(.br (.bnd (k1.h _) fun _=>(.br .some .some)) .some))))
theorem f_b (k:Nat):∀ v:A,f k v = d (g31.f k) (g44.f k) v:=fun (v0,v1,v2,v3)=>(held_eq _).trans (by kernel_rfl)
theorem F_of (v:A) {r:R} (h:d g31.F g44.F v = some r):F v = some r:=join_of (fun L=>f_b (L 0) v) (d_cn (lp g31.f 0) (lp g44.f 0) v) h
noncomputable def spec (k:Nat):List AV→List Slot→Option Ans:=specS sh os (f k)
theorem spec_ok (k:Nat):SpecOk Try.prog 43 (spec k):=specS_ok cs_ok Try.func43 rfl rfl (fun _ _=>held_eq _) k
end g45
noncomputable def tg45:=tg44.cons 43 g45.spec g45.spec_ok
namespace g46 -- sphere_Check
abbrev R:Type:=Int
abbrev A:Type:=Int × Int × Int
abbrev Y:=A→Option R
def lv:List (Nat × List Nat):=[(2000000,[2])]
noncomputable def cs:Nat→Ctx:=ctxOf tis modes tg45.1 lv
theorem cs_ok (n:Nat):CtxOk Try.prog (cs n):=ctxOf_ok rfl tis_ok tg45.2 n
def sh:AS:=⟨[(.agg [.int .i64,.int .i64,.int .i64])],[]⟩
def os:OS:=⟨.c (.int .i64),[]⟩
def enc (r:R):Out:=os.enc r
def dec:Out→Option R:=os.dec
noncomputable def b0:Code:=subF [] Try.f44
noncomputable def K0 (k:Nat):Kt R:=kTop (cs k) Try.f44 dec
noncomputable def f (k:Nat):Y:=fun v=>held (runFn cs k Try.f44 (sh.args v) (sh.slots v) dec)
noncomputable def F:Y:=lm f
def d:Y:=fun (v0,v1,v2) =>
br (decide (1048576 < max (max v0 v1) v2) || decide (min (min v0 v1) v2 < -1048576)) (some 4) (br (decide (v0 = 0) && (decide (v1 = 0) && (decide (v2 = 0) && true))) (some 8) (some 0))
theorem d_cn:∀ v:A,Cn E (d v) fun i=>d v:=fun (v0,v1,v2)=>(.br .some (.br .some .some))
theorem f_b (k:Nat):∀ v:A,f k v = d v:=fun (v0,v1,v2)=>(held_eq _).trans (by kernel_rfl)
theorem F_of (v:A) {r:R} (h:d v = some r):F v = some r:=join_of (fun L=>f_b (L 0) v) (d_cn v) h
noncomputable def spec (k:Nat):List AV→List Slot→Option Ans:=specS sh os (f k)
theorem spec_ok (k:Nat):SpecOk Try.prog 44 (spec k):=specS_ok cs_ok Try.func44 rfl rfl (fun _ _=>held_eq _) k
end g46
noncomputable def tg46:=tg45.cons 44 g46.spec g46.spec_ok
namespace g47 -- prop_CheckNight
abbrev R:Type:=Int
abbrev A:Type:=Int × Int × Int × Int × Int × Int × Int × Int × Int × Int × Int × Int × Int × Int × Int × Int × List Int
abbrev Y:=A→Option R
def lv:List (Nat × List Nat):=[(2000000,[2]),(17,[81,82,83])]
noncomputable def cs:Nat→Ctx:=ctxOf tis modes tg46.1 lv
theorem cs_ok (n:Nat):CtxOk Try.prog (cs n):=ctxOf_ok rfl tis_ok tg46.2 n
def sh:AS:=⟨[(.agg [.int .i64,.int .i64,.int .i64,.int .i64,.int .i64,.int .i64,.int .i64,.int .i64,.int .i64,.int .i64,.int .i64,.int .i64,.int .i64,.int .i64,.int .i64,.int .i64,.frz (.int .i64)])],[]⟩
def os:OS:=⟨.c (.int .i64),[]⟩
def enc (r:R):Out:=os.enc r
def dec:Out→Option R:=os.dec
noncomputable def b0:Code:=subF [] Try.f21
noncomputable def K0 (k:Nat):Kt R:=kTop (cs k) Try.f21 dec
noncomputable def b17:Code:=sub [1,1,1,1,1,1,1,1,0,1,0,0] b0
noncomputable def K17 ( k:Nat):Kt R:=kAt (cs k) (loopN cs k) [1,1,1,1,1,1,1,1,0,1,0] b0 (K0 k)
abbrev T0:Type:=List Int × Int × Int
abbrev Y0:=T0→Option R
def s0:T0→St:=fun (v0,v1,v2)=>⟨91,0,[(81,.c (.frz (.int .i64) v0)),(82,.c (.int .i64 v1)),(83,.c (.int .i64 v2))],[],[(256000000,.gone)]⟩
noncomputable def l0 ( k n:Nat) (v:T0):Option R:=held (loopN cs n b17 (K17 k) (s0 v))
noncomputable def D0 (v:T0):Option R:=lim fun L=>l0 (L 0) (L 1) v
theorem D0_cn (v:T0):Cn late (D0 v) fun L=>l0 (L 0) (L 1) v:=of_lim
def d0 (p0:g24.Y) (p1:Y0):Y0:=fun (v0,v1,v2) =>
br (decide (v2 < v1)) (br (decide (0 ≤ v2 ∧ v2 < (↑v0.length:Int))) (bnd (p0 (rd (Ty.int .i64) v0 v2,0,4)) fun r=>br (!r) (some 4) (p1 (v0,v1,wrap .i64 (v2 + 1)))) none) (some 0)
theorem d0_cn (k0:Pr E g24.A g24.R) (k1:Pr E T0 R):∀ v:T0,Cn E (d0 k0.p k1.p v) fun i=>d0 (k0.q i) (k1.q i) v:=fun (v0,v1,v2)=>(.br (.br (.bnd (k0.h _) fun _=>(.br .some (k1.h _))) .none) .some)
theorem l0_b ( k m1:Nat):∀ v:T0,run (cs m1) (loopN cs m1) b17 (kLoop cs m1 b17 (K17 k)) (s0 v) = d0 (g24.f m1) (l0 k m1) v:=fun (v0,v1,v2)=>by kernel_rfl
theorem D0_of (v:T0) {r:R} (h:d0 g24.F D0 v = some r):D0 v = some r:=loop_of 1 (fun L n hn=>by show l0 (L 0) (L 1) v = _; rw [hn]; exact (held_eq _).trans ((loopN_succ _ _ _ _ _).trans (l0_b (L 0) n v))) (d0_cn (lp g24.f 1) (.mk fun v=>(D0_cn v).re [0,1]) v) h
noncomputable def f (k:Nat):Y:=fun v=>held (runFn cs k Try.f21 (sh.args v) (sh.slots v) dec)
noncomputable def F:Y:=lm f
noncomputable def d (p0:g24.Y) (p1:g45.Y) (p2:g46.Y) (p3:Y0):Y:=fun (v0,v1,v2,v3,v4,v5,v6,v7,v8,v9,v10,v11,v12,v13,v14,v15,v16) =>
bnd (p0 (v8,1,64)) fun r=>br (!r || decide (v7 < 60000) || decide (1800000 < v7)) (some 4) (br (decide (v6 < -8796093022208) || decide (8796093022208 < v6)) (some 4) (br (decide (v0 < -1073741824) || decide (1073741824 < v0) || decide (v1 < 0) || decide (4294967296 ≤ v1)) (some 4) (bnd (p1 (v2,v3,v4,v5)) fun r=>br (!decide (r = 0)) (some r) (bnd (p2 (v9,v10,v11)) fun r=>br ((!decide (r = 0)) == false) (bnd (p2 (v12,v13,v14)) fun r=>br (!decide (r = 0)) (some 3) (br (decide (v15 < -1073741824) || decide (0 < v15)) (some 4) (br (!decide ((↑v16.length:Int) = v8)) (some 3) (p3 (v16,(↑v16.length:Int),0))))) (some 3)))))
theorem d_cn (k0:Pr E g24.A g24.R) (k1:Pr E g45.A g45.R) (k2:Pr E g46.A g46.R) (k3:Pr E T0 R):∀ v:A,Cn E (d k0.p k1.p k2.p k3.p v) fun i=>d (k0.q i) (k1.q i) (k2.q i) (k3.q i) v:=fun (v0,v1,v2,v3,v4,v5,v6,v7,v8,v9,v10,v11,v12,v13,v14,v15,v16)=>(.bnd (k0.h _) fun _=>(.br .some (.br .some (.br .some (.bnd (k1.h _) fun _=>(.br .some (.bnd (k2.h _) fun _=>(.br (.bnd (k2.h _) fun _=>(.br .some (.br .some (.br .some (k3.h _))))) .some))))))))
theorem f_b (k:Nat):∀ v:A,f k v = d (g24.f k) (g45.f k) (g46.f k) (l0 k k) v:=fun (v0,v1,v2,v3,v4,v5,v6,v7,v8,v9,v10,v11,v12,v13,v14,v15,v16)=>(held_eq _).trans (by kernel_rfl)
theorem F_of (v:A) {r:R} (h:d g24.F g45.F g46.F D0 v = some r):F v = some r:=join_of (fun L=>f_b (L 0) v) (d_cn (lp g24.f 0) (lp g45.f 0) (lp g46.f 0) (.mk fun v=>(D0_cn v).re [0,0]) v) h
noncomputable def spec (k:Nat):List AV→List Slot→Option Ans:=specS sh os (f k)
theorem spec_ok (k:Nat):SpecOk Try.prog 21 (spec k):=specS_ok cs_ok Try.func21 rfl rfl (fun _ _=>held_eq _) k
end g47
noncomputable def tg47:=tg46.cons 21 g47.spec g47.spec_ok
namespace g48 -- bits_LeadingZeros64
abbrev R:Type:=Int
abbrev A:Type:=Int
abbrev Y:=A→Option R
def lv:List (Nat × List Nat):=[(2000000,[2])]
noncomputable def cs:Nat→Ctx:=ctxOf tis modes tg47.1 lv
theorem cs_ok (n:Nat):CtxOk Try.prog (cs n):=ctxOf_ok rfl tis_ok tg47.2 n
def sh:AS:=⟨[(.c (.int .u64))],[]⟩
def os:OS:=⟨.c (.int .i64),[]⟩
def enc (r:R):Out:=os.enc r
def dec:Out→Option R:=os.dec
noncomputable def b0:Code:=subF [] Try.f90
noncomputable def K0 (k:Nat):Kt R:=kTop (cs k) Try.f90 dec
noncomputable def f (k:Nat):Y:=fun v=>held (runFn cs k Try.f90 (sh.args v) (sh.slots v) dec)
noncomputable def F:Y:=lm f
def d (p0:g17.Y):Y:=fun v0 =>
bnd (p0 v0) fun r=>some (wrap .i64 (64 - r))
theorem d_cn (k0:Pr E g17.A g17.R):∀ v:A,Cn E (d k0.p v) fun i=>d (k0.q i) v:=fun v0=>(.bnd (k0.h _) fun _=>.some)
theorem f_b (k:Nat):∀ v:A,f k v = d (g17.f k) v:=fun v0=>(held_eq _).trans (by kernel_rfl)
theorem F_of (v:A) {r:R} (h:d g17.F v = some r):F v = some r:=join_of (fun L=>f_b (L 0) v) (d_cn (lp g17.f 0) v) h
noncomputable def spec (k:Nat):List AV→List Slot→Option Ans:=specS sh os (f k)
theorem spec_ok (k:Nat):SpecOk Try.prog 90 (spec k):=specS_ok cs_ok Try.func90 rfl rfl (fun _ _=>held_eq _) k
end g48
noncomputable def tg48:=tg47.cons 90 g48.spec g48.spec_ok
namespace g49 -- bits_Div64
abbrev R:Type:=Int × Int
abbrev A:Type:=Int × Int × Int
abbrev Y:=A→Option R
def lv:List (Nat × List Nat):=[(2000000,[6,7]),(17,[2,8,9,10,11,13,14,15,16]),(1000021,[2,8,9,10,11,13,14,15]),(24,[2,8,9,10,14,15,16,17,18]),(1000028,[2,8,14,15,17,18])]
noncomputable def cs:Nat→Ctx:=ctxOf tis modes tg48.1 lv
theorem cs_ok (n:Nat):CtxOk Try.prog (cs n):=ctxOf_ok rfl tis_ok tg48.2 n
def sh:AS:=⟨[.c (.int .u64),.c (.int .u64),.c (.int .u64)],[]⟩
def os:OS:=⟨.tup [.c (.int .u64),.c (.int .u64)],[]⟩
def enc (r:R):Out:=os.enc r
def dec:Out→Option R:=os.dec
noncomputable def b0:Code:=subF [] Try.f86
noncomputable def K0 (k:Nat):Kt R:=kTop (cs k) Try.f86 dec
noncomputable def c1000021:Code:=sub [1,1,1,1,1,1,1,1,1,1,1,1,1,1,1] b0
noncomputable def J1000021 ( k:Nat):Kt R:=kAt (cs k) (loopN cs k) [1,1,1,1,1,1,1,1,1,1,1,1,1,1,1] b0 (K0 k)
noncomputable def b17:Code:=sub [1,1,1,1,1,1,1,1,1,1,1,1,1,1,0,0,0] b0
noncomputable def K17 ( k:Nat):Kt R:=kAt (cs k) (loopN cs k) [1,1,1,1,1,1,1,1,1,1,1,1,1,1,0,0] b0 (K0 k)
noncomputable def c1000028:Code:=sub [1,1,1,1,1,1,1,1,1,1,1,1,1,1,1,1,1,1,1] b0
noncomputable def J1000028 ( k:Nat):Kt R:=kAt (cs k) (loopN cs k) [1,1,1,1,1,1,1,1,1,1,1,1,1,1,1,1,1,1,1] b0 (K0 k)
noncomputable def b24:Code:=sub [1,1,1,1,1,1,1,1,1,1,1,1,1,1,1,1,1,1,0,0,0] b0
noncomputable def K24 ( k:Nat):Kt R:=kAt (cs k) (loopN cs k) [1,1,1,1,1,1,1,1,1,1,1,1,1,1,1,1,1,1,0,0] b0 (K0 k)
abbrev T0:Type:=Int × Int × Int × Int × Int × Int × Int × Int × Int
abbrev Y0:=T0→Option R
def s0:T0→St:=fun (v0,v1,v2,v3,v4,v5,v6,v7,v8)=>⟨135,0,[(2,.c (.int .u64 v0)),(8,.c (.int .u64 v1)),(9,.c (.int .u64 v2)),(10,.c (.int .u64 v3)),(11,.c (.int .u64 v4)),(13,.c (.int .u64 v5)),(14,.c (.int .u64 v6)),(15,.c (.int .u64 v7)),(16,.c (.int .u64 v8))],[],[(256000000,.gone)]⟩
noncomputable def l0 ( k n:Nat) (v:T0):Option R:=held (loopN cs n b17 (K17 k) (s0 v))
noncomputable def D0 (v:T0):Option R:=lim fun L=>l0 (L 0) (L 1) v
theorem D0_cn (v:T0):Cn late (D0 v) fun L=>l0 (L 0) (L 1) v:=of_lim
abbrev T1:Type:=Int × Int × Int × Int × Int × Int × Int × Int
abbrev Y1:=T1→Option R
def s1:T1→St:=fun (v0,v1,v2,v3,v4,v5,v6,v7)=>⟨135,0,[(2,.c (.int .u64 v0)),(8,.c (.int .u64 v1)),(9,.c (.int .u64 v2)),(10,.c (.int .u64 v3)),(11,.c (.int .u64 v4)),(13,.c (.int .u64 v5)),(14,.c (.int .u64 v6)),(15,.c (.int .u64 v7))],[],[(256000000,.gone)]⟩
noncomputable def l1 ( k:Nat) (v:T1):Option R:=held (run (cs k) (loopN cs k) c1000021 (J1000021 k) (s1 v))
noncomputable def D1 (v:T1):Option R:=lim fun L=>l1 (L 0) v
theorem D1_cn (v:T1):Cn late (D1 v) fun L=>l1 (L 0) v:=of_lim
abbrev T2:Type:=Int × Int × Int × Int × Int × Int × Int × Int × Int
abbrev Y2:=T2→Option R
def s2:T2→St:=fun (v0,v1,v2,v3,v4,v5,v6,v7,v8)=>⟨135,0,[(2,.c (.int .u64 v0)),(8,.c (.int .u64 v1)),(9,.c (.int .u64 v2)),(10,.c (.int .u64 v3)),(14,.c (.int .u64 v4)),(15,.c (.int .u64 v5)),(16,.c (.int .u64 v6)),(17,.c (.int .u64 v7)),(18,.c (.int .u64 v8))],[],[(256000000,.gone)]⟩
noncomputable def l2 ( k n:Nat) (v:T2):Option R:=held (loopN cs n b24 (K24 k) (s2 v))
noncomputable def D2 (v:T2):Option R:=lim fun L=>l2 (L 0) (L 1) v
theorem D2_cn (v:T2):Cn late (D2 v) fun L=>l2 (L 0) (L 1) v:=of_lim
abbrev T3:Type:=Int × Int × Int × Int × Int × Int
abbrev Y3:=T3→Option R
def s3:T3→St:=fun (v0,v1,v2,v3,v4,v5)=>⟨135,0,[(2,.c (.int .u64 v0)),(8,.c (.int .u64 v1)),(14,.c (.int .u64 v2)),(15,.c (.int .u64 v3)),(17,.c (.int .u64 v4)),(18,.c (.int .u64 v5))],[],[(256000000,.gone)]⟩
noncomputable def l3 ( k:Nat) (v:T3):Option R:=held (run (cs k) (loopN cs k) c1000028 (J1000028 k) (s3 v))
noncomputable def D3 (v:T3):Option R:=lim fun L=>l3 (L 0) v
theorem D3_cn (v:T3):Cn late (D3 v) fun L=>l3 (L 0) v:=of_lim
def d0 (p0:Y1) (p1:Y0):Y0:=fun (v0,v1,v2,v3,v4,v5,v6,v7,v8) =>
br (decide (4294967296 ≤ v7) || decide (wrap .u64 (wrap .u64 (4294967296 * v8) + v5) < wrap .u64 (v7 * v3))) (br (decide (4294967296 ≤ wrap .u64 (v8 + v2))) (p0 (v0,v1,v2,v3,v4,v5,v6,wrap .u64 (v7 - 1))) (p1 (v0,v1,v2,v3,v4,v5,v6,wrap .u64 (v7 - 1),wrap .u64 (v8 + v2)))) (p0 (v0,v1,v2,v3,v4,v5,v6,v7))
theorem d0_cn (k0:Pr E T1 R) (k1:Pr E T0 R):∀ v:T0,Cn E (d0 k0.p k1.p v) fun i=>d0 (k0.q i) (k1.q i) v:=fun (v0,v1,v2,v3,v4,v5,v6,v7,v8)=>(.br (.br (k0.h _) (k1.h _)) (k0.h _))
theorem l0_b ( k m1:Nat):∀ v:T0,run (cs m1) (loopN cs m1) b17 (kLoop cs m1 b17 (K17 k)) (s0 v) = d0 (l1 k) (l0 k m1) v:=fun (v0,v1,v2,v3,v4,v5,v6,v7,v8)=>by kernel_rfl
theorem D0_of (v:T0) {r:R} (h:d0 D1 D0 v = some r):D0 v = some r:=loop_of 1 (fun L n hn=>by show l0 (L 0) (L 1) v = _; rw [hn]; exact (held_eq _).trans ((loopN_succ _ _ _ _ _).trans (l0_b (L 0) n v))) (d0_cn (.mk fun v=>(D1_cn v).re [0]) (.mk fun v=>(D0_cn v).re [0,1]) v) h
def d1 (p0:Y2):Y1:=fun (v0,v1,v2,v3,v4,v5,v6,v7) =>
br (!decide (v2 = 0)) (p0 (v0,v1,v2,v3,v6,v7,wrap .u64 (wrap .u64 (wrap .u64 (wrap .u64 (v4 * 4294967296) + v5) - wrap .u64 (v7 * v0)) - wrap .u64 (wrap .u64 ((wrap .u64 (wrap .u64 (wrap .u64 (v4 * 4294967296) + v5) - wrap .u64 (v7 * v0))).tdiv v2) * v2)),wrap .u64 (wrap .u64 (wrap .u64 (v4 * 4294967296) + v5) - wrap .u64 (v7 * v0)),wrap .u64 ((wrap .u64 (wrap .u64 (wrap .u64 (v4 * 4294967296) + v5) - wrap .u64 (v7 * v0))).tdiv v2))) none
theorem d1_cn (k0:Pr E T2 R):∀ v:T1,Cn E (d1 k0.p v) fun i=>d1 (k0.q i) v:=fun (v0,v1,v2,v3,v4,v5,v6,v7)=>(.br (k0.h _) .none)
theorem l1_b ( k:Nat):∀ v:T1,run (cs k) (loopN cs k) c1000021 (J1000021 k) (s1 v) = d1 (l2 k k) v:=fun (v0,v1,v2,v3,v4,v5,v6,v7)=>by kernel_rfl
theorem D1_of (v:T1) {r:R} (h:d1 D2 v = some r):D1 v = some r:=join_of (fun L=>(held_eq _).trans (l1_b (L 0) v)) (d1_cn (.mk fun v=>(D2_cn v).re [0,0]) v) h
def d2 (p0:Y3) (p1:Y2):Y2:=fun (v0,v1,v2,v3,v4,v5,v6,v7,v8) =>
br (decide (4294967296 ≤ v8) || decide (wrap .u64 (wrap .u64 (4294967296 * v6) + v4) < wrap .u64 (v8 * v3))) (br (decide (4294967296 ≤ wrap .u64 (v6 + v2))) (p0 (v0,v1,v4,v5,v7,wrap .u64 (v8 - 1))) (p1 (v0,v1,v2,v3,v4,v5,wrap .u64 (v6 + v2),v7,wrap .u64 (v8 - 1)))) (p0 (v0,v1,v4,v5,v7,v8))
theorem d2_cn (k0:Pr E T3 R) (k1:Pr E T2 R):∀ v:T2,Cn E (d2 k0.p k1.p v) fun i=>d2 (k0.q i) (k1.q i) v:=fun (v0,v1,v2,v3,v4,v5,v6,v7,v8)=>(.br (.br (k0.h _) (k1.h _)) (k0.h _))
theorem l2_b ( k m1:Nat):∀ v:T2,run (cs m1) (loopN cs m1) b24 (kLoop cs m1 b24 (K24 k)) (s2 v) = d2 (l3 k) (l2 k m1) v:=fun (v0,v1,v2,v3,v4,v5,v6,v7,v8)=>by kernel_rfl
theorem D2_of (v:T2) {r:R} (h:d2 D3 D2 v = some r):D2 v = some r:=loop_of 1 (fun L n hn=>by show l2 (L 0) (L 1) v = _; rw [hn]; exact (held_eq _).trans ((loopN_succ _ _ _ _ _).trans (l2_b (L 0) n v))) (d2_cn (.mk fun v=>(D3_cn v).re [0]) (.mk fun v=>(D2_cn v).re [0,1]) v) h
def d3:Y3:=fun (v0,v1,v2,v3,v4,v5) =>
br (decide (0 ≤ v1)) (some (wrap .u64 (wrap .u64 (v3 * 4294967296) + v5),shr .u64 (wrap .u64 (wrap .u64 (wrap .u64 (v4 * 4294967296) + v2) - wrap .u64 (v5 * v0))) v1)) none
theorem d3_cn:∀ v:T3,Cn E (d3 v) fun i=>d3 v:=fun (v0,v1,v2,v3,v4,v5)=>(.br .some .none)
theorem l3_b ( k:Nat):∀ v:T3,run (cs k) (loopN cs k) c1000028 (J1000028 k) (s3 v) = d3 v:=fun (v0,v1,v2,v3,v4,v5)=>by kernel_rfl
theorem D3_of (v:T3) {r:R} (h:d3 v = some r):D3 v = some r:=join_of (fun L=>(held_eq _).trans (l3_b (L 0) v)) (d3_cn v) h
noncomputable def f (k:Nat):Y:=fun v=>held (runFn cs k Try.f86 (sh.args v) (sh.slots v) dec)
noncomputable def F:Y:=lm f
noncomputable def d (p0:g48.Y) (p1:Y0):Y:=fun (v0,v1,v2) =>
br (decide (v2 = 0)) none (br (decide (v2 ≤ v0)) none (br (decide (v0 = 0)) (br (!decide (v2 = 0)) (br (!decide (v2 = 0)) (some (wrap .u64 (v1.tdiv v2),v1.tmod v2)) none) none) (bnd (p0 v2) fun r=>br (decide (0 ≤ wrap .u64 r)) (br (decide ((0:Int) ≤ 32)) (br (decide (0 ≤ wrap .u64 r)) (br (decide (0 ≤ wrap .u64 (64 - wrap .u64 r))) (br (decide (0 ≤ wrap .u64 r)) (br (decide ((0:Int) ≤ 32)) (br (!decide (shr .u64 (shl .u64 v2 (wrap .u64 r)) 32 = 0)) (p1 (shl .u64 v2 (wrap .u64 r),wrap .u64 r,shr .u64 (shl .u64 v2 (wrap .u64 r)) 32,bAnd .u64 (shl .u64 v2 (wrap .u64 r)) 4294967295,bOr .u64 (shl .u64 v0 (wrap .u64 r)) (shr .u64 v1 (wrap .u64 (64 - wrap .u64 r))),shr .u64 (shl .u64 v1 (wrap .u64 r)) 32,bAnd .u64 (shl .u64 v1 (wrap .u64 r)) 4294967295,wrap .u64 ((bOr .u64 (shl .u64 v0 (wrap .u64 r)) (shr .u64 v1 (wrap .u64 (64 - wrap .u64 r)))).tdiv (shr .u64 (shl .u64 v2 (wrap .u64 r)) 32)),wrap .u64 (bOr .u64 (shl .u64 v0 (wrap .u64 r)) (shr .u64 v1 (wrap .u64 (64 - wrap .u64 r))) - wrap .u64 (wrap .u64 ((bOr .u64 (shl .u64 v0 (wrap .u64 r)) (shr .u64 v1 (wrap .u64 (64 - wrap .u64 r)))).tdiv (shr .u64 (shl .u64 v2 (wrap .u64 r)) 32)) * shr .u64 (shl .u64 v2 (wrap .u64 r)) 32)))) none) none) none) none) none) none) none)))
theorem d_cn (k0:Pr E g48.A g48.R) (k1:Pr E T0 R):∀ v:A,Cn E (d k0.p k1.p v) fun i=>d (k0.q i) (k1.q i) v:=fun (v0,v1,v2)=>(.br .none (.br .none (.br (.br (.br .some .none) .none) (.bnd (k0.h _) fun _=>(.br (.br (.br (.br (.br (.br (.br (k1.h _) .none) .none) .none) .none) .none) .none) .none)))))
theorem f_b (k:Nat):∀ v:A,f k v = d (g48.f k) (l0 k k) v:=fun (v0,v1,v2)=>(held_eq _).trans (by kernel_rfl)
theorem F_of (v:A) {r:R} (h:d g48.F D0 v = some r):F v = some r:=join_of (fun L=>f_b (L 0) v) (d_cn (lp g48.f 0) (.mk fun v=>(D0_cn v).re [0,0]) v) h
noncomputable def spec (k:Nat):List AV→List Slot→Option Ans:=specS sh os (f k)
theorem spec_ok (k:Nat):SpecOk Try.prog 86 (spec k):=specS_ok cs_ok Try.func86 rfl rfl (fun _ _=>held_eq _) k
end g49
noncomputable def tg49:=tg48.cons 86 g49.spec g49.spec_ok
namespace g50 -- num_Wide_Div
abbrev R:Type:=Int × Int
abbrev A:Type:=Int × Int × Int
abbrev Y:=A→Option R
def lv:List (Nat × List Nat):=[(2000000,[4,5]),(1000006,[1,2,6]),(1000014,[2,7,8,9])]
noncomputable def cs:Nat→Ctx:=ctxOf tis modes tg49.1 lv
theorem cs_ok (n:Nat):CtxOk Try.prog (cs n):=ctxOf_ok rfl tis_ok tg49.2 n
def sh:AS:=⟨[.agg [.int .i64,.int .u64],.c (.int .i64)],[]⟩
def os:OS:=⟨.tup [.c (.int .i64),.c (.int .i64)],[]⟩
def enc (r:R):Out:=os.enc r
def dec:Out→Option R:=os.dec
noncomputable def b0:Code:=subF [] Try.f77
noncomputable def K0 (k:Nat):Kt R:=kTop (cs k) Try.f77 dec
noncomputable def c1000006:Code:=sub [1,1,1,1] b0
noncomputable def J1000006 ( k:Nat):Kt R:=kAt (cs k) (loopN cs k) [1,1,1,1] b0 (K0 k)
noncomputable def c1000014:Code:=sub [1,1,1,1,1,1,1,1] b0
noncomputable def J1000014 ( k:Nat):Kt R:=kAt (cs k) (loopN cs k) [1,1,1,1,1,1,1,1] b0 (K0 k)
abbrev T0:Type:=Int × Int × Int × Int × Int
abbrev Y0:=T0→Option R
def s0:T0→St:=fun (v0,v1,v2,v3,v4)=>⟨61,0,[(1,.c (.int .i64 v0)),(2,.c (.ptr 64000000 0)),(6,.c (.ptr 64000001 0))],[],[(256000000,.gone),(64000000,.box [.int .i64 v1,.int .u64 v2]),(64000001,.box [.int .i64 v3,.int .u64 v4])]⟩
noncomputable def l0 ( k:Nat) (v:T0):Option R:=held (run (cs k) (loopN cs k) c1000006 (J1000006 k) (s0 v))
noncomputable def D0 (v:T0):Option R:=lim fun L=>l0 (L 0) v
theorem D0_cn (v:T0):Cn late (D0 v) fun L=>l0 (L 0) v:=of_lim
abbrev T1:Type:=Int × Int × Int × Int × Int
abbrev Y1:=T1→Option R
def s1:T1→St:=fun (v0,v1,v2,v3,v4)=>⟨61,0,[(2,.c (.ptr 64000000 0)),(7,.c (.int .u64 v0)),(8,.c (.int .u64 v1)),(9,.c (.int .u64 v2))],[],[(256000000,.gone),(64000000,.box [.int .i64 v3,.int .u64 v4])]⟩
noncomputable def l1 ( k:Nat) (v:T1):Option R:=held (run (cs k) (loopN cs k) c1000014 (J1000014 k) (s1 v))
noncomputable def D1 (v:T1):Option R:=lim fun L=>l1 (L 0) v
theorem D1_cn (v:T1):Cn late (D1 v) fun L=>l1 (L 0) v:=of_lim
def d0 (p0:g49.Y) (p1:Y1):Y0:=fun (v0,v1,v2,v3,v4) =>
br (decide (wrap .u64 v0 ≤ wrap .u64 v3)) (some (0,2)) (bnd (p0 (wrap .u64 v3,v4,wrap .u64 v0)) fun r=>br (decide (v1 < 0)) (br (decide (0 < r.2)) (p1 (r.1,r.2,wrap .u64 (9223372036854775808 - 1),v1,v2)) (p1 (r.1,r.2,9223372036854775808,v1,v2))) (p1 (r.1,r.2,9223372036854775807,v1,v2)))
theorem d0_cn (k0:Pr E g49.A g49.R) (k1:Pr E T1 R):∀ v:T0,Cn E (d0 k0.p k1.p v) fun i=>d0 (k0.q i) (k1.q i) v:=fun (v0,v1,v2,v3,v4)=>(.br .some (.bnd (k0.h _) fun _=>(.br (.br (k1.h _) (k1.h _)) (k1.h _))))
theorem l0_b ( k:Nat):∀ v:T0,run (cs k) (loopN cs k) c1000006 (J1000006 k) (s0 v) = d0 (g49.f k) (l1 k) v:=fun (v0,v1,v2,v3,v4)=>by kernel_rfl
theorem D0_of (v:T0) {r:R} (h:d0 g49.F D1 v = some r):D0 v = some r:=join_of (fun L=>(held_eq _).trans (l0_b (L 0) v)) (d0_cn (lp g49.f 0) (.mk fun v=>(D1_cn v).re [0]) v) h
def d1:Y1:=fun (v0,v1,v2,v3,v4) =>
br (decide (v2 < v0)) (some (0,2)) (br (decide (0 ≤ v3)) (some (wrap .i64 v0,0)) (br (decide (0 < v1)) (some (wrap .i64 (wrap .i64 (wrap .u64 (0 - v0)) - 1),0)) (some (wrap .i64 (wrap .u64 (0 - v0)),0))))
theorem d1_cn:∀ v:T1,Cn E (d1 v) fun i=>d1 v:=fun (v0,v1,v2,v3,v4)=>(.br .some (.br .some (.br .some .some)))
theorem l1_b ( k:Nat):∀ v:T1,run (cs k) (loopN cs k) c1000014 (J1000014 k) (s1 v) = d1 v:=fun (v0,v1,v2,v3,v4)=>by kernel_rfl
theorem D1_of (v:T1) {r:R} (h:d1 v = some r):D1 v = some r:=join_of (fun L=>(held_eq _).trans (l1_b (L 0) v)) (d1_cn v) h
noncomputable def f (k:Nat):Y:=fun v=>held (runFn cs k Try.f77 (sh.args v) (sh.slots v) dec)
noncomputable def F:Y:=lm f
def d (p0:g36.Y) (p1:Y0):Y:=fun (v0,v1,v2) =>
br (decide (v2 < 1)) (some (0,1)) (br (decide (v0 < 0)) (bnd (p0 (v0,v1)) fun r=>p1 (v2,v0,v1,r.1,r.2)) (p1 (v2,v0,v1,v0,v1)))
theorem d_cn (k0:Pr E g36.A g36.R) (k1:Pr E T0 R):∀ v:A,Cn E (d k0.p k1.p v) fun i=>d (k0.q i) (k1.q i) v:=fun (v0,v1,v2)=>(.br .some (.br (.bnd (k0.h _) fun _=>(k1.h _)) (k1.h _)))
theorem f_b (k:Nat):∀ v:A,f k v = d (g36.f k) (l0 k) v:=fun (v0,v1,v2)=>(held_eq _).trans (by kernel_rfl)
theorem F_of (v:A) {r:R} (h:d g36.F D0 v = some r):F v = some r:=join_of (fun L=>f_b (L 0) v) (d_cn (lp g36.f 0) (.mk fun v=>(D0_cn v).re [0]) v) h
noncomputable def spec (k:Nat):List AV→List Slot→Option Ans:=specS sh os (f k)
theorem spec_ok (k:Nat):SpecOk Try.prog 77 (spec k):=specS_ok cs_ok Try.func77 rfl rfl (fun _ _=>held_eq _) k
end g50
noncomputable def tg50:=tg49.cons 77 g50.spec g50.spec_ok
namespace g51 -- num_MulDiv
abbrev R:Type:=Int × Int
abbrev A:Type:=Int × Int × Int
abbrev Y:=A→Option R
def lv:List (Nat × List Nat):=[(2000000,[6,7])]
noncomputable def cs:Nat→Ctx:=ctxOf tis modes tg50.1 lv
theorem cs_ok (n:Nat):CtxOk Try.prog (cs n):=ctxOf_ok rfl tis_ok tg50.2 n
def sh:AS:=⟨[.c (.int .i64),.c (.int .i64),.c (.int .i64)],[]⟩
def os:OS:=⟨.tup [.c (.int .i64),.c (.int .i64)],[]⟩
def enc (r:R):Out:=os.enc r
def dec:Out→Option R:=os.dec
noncomputable def b0:Code:=subF [] Try.f66
noncomputable def K0 (k:Nat):Kt R:=kTop (cs k) Try.f66 dec
noncomputable def f (k:Nat):Y:=fun v=>held (runFn cs k Try.f66 (sh.args v) (sh.slots v) dec)
noncomputable def F:Y:=lm f
def d (p0:g37.Y) (p1:g50.Y):Y:=fun (v0,v1,v2) =>
bnd (p0 (v0,v1)) fun r=>bnd (p1 (r.1,r.2,v2)) fun r=>some (r.1,r.2)
theorem d_cn (k0:Pr E g37.A g37.R) (k1:Pr E g50.A g50.R):∀ v:A,Cn E (d k0.p k1.p v) fun i=>d (k0.q i) (k1.q i) v:=fun (v0,v1,v2)=>(.bnd (k0.h _) fun _=>(.bnd (k1.h _) fun _=>.some))
theorem f_b (k:Nat):∀ v:A,f k v = d (g37.f k) (g50.f k) v:=fun (v0,v1,v2)=>(held_eq _).trans (by kernel_rfl)
theorem F_of (v:A) {r:R} (h:d g37.F g50.F v = some r):F v = some r:=join_of (fun L=>f_b (L 0) v) (d_cn (lp g37.f 0) (lp g50.f 0) v) h
noncomputable def spec (k:Nat):List AV→List Slot→Option Ans:=specS sh os (f k)
theorem spec_ok (k:Nat):SpecOk Try.prog 66 (spec k):=specS_ok cs_ok Try.func66 rfl rfl (fun _ _=>held_eq _) k
end g51
noncomputable def tg51:=tg50.cons 66 g51.spec g51.spec_ok
namespace g52 -- scale_angle
abbrev R:Type:=Int
abbrev A:Type:=Int × Int × Int × Int × Int
abbrev Y:=A→Option R
def lv:List (Nat × List Nat):=[(2000000,[4])]
noncomputable def cs:Nat→Ctx:=ctxOf tis modes tg51.1 lv
theorem cs_ok (n:Nat):CtxOk Try.prog (cs n):=ctxOf_ok rfl tis_ok tg51.2 n
def sh:AS:=⟨[.agg [.int .i64,.int .i64,.int .i64,.int .i64],.c (.int .i64)],[]⟩
def os:OS:=⟨.c (.int .i64),[]⟩
def enc (r:R):Out:=os.enc r
def dec:Out→Option R:=os.dec
noncomputable def b0:Code:=subF [] Try.f47
noncomputable def K0 (k:Nat):Kt R:=kTop (cs k) Try.f47 dec
noncomputable def f (k:Nat):Y:=fun v=>held (runFn cs k Try.f47 (sh.args v) (sh.slots v) dec)
noncomputable def F:Y:=lm f
def d (p0:g51.Y):Y:=fun (v0,v1,v2,v3,v4) =>
bnd (p0 (wrap .i64 (v4 - v0),v2,v3)) fun r=>some (wrap .i64 (r.1 + v1))
theorem d_cn (k0:Pr E g51.A g51.R):∀ v:A,Cn E (d k0.p v) fun i=>d (k0.q i) v:=fun (v0,v1,v2,v3,v4)=>(.bnd (k0.h _) fun _=>.some)
theorem f_b (k:Nat):∀ v:A,f k v = d (g51.f k) v:=fun (v0,v1,v2,v3,v4)=>(held_eq _).trans (by kernel_rfl)
theorem F_of (v:A) {r:R} (h:d g51.F v = some r):F v = some r:=join_of (fun L=>f_b (L 0) v) (d_cn (lp g51.f 0) v) h
noncomputable def spec (k:Nat):List AV→List Slot→Option Ans:=specS sh os (f k)
theorem spec_ok (k:Nat):SpecOk Try.prog 47 (spec k):=specS_ok cs_ok Try.func47 rfl rfl (fun _ _=>held_eq _) k
end g52
noncomputable def tg52:=tg51.cons 47 g52.spec g52.spec_ok
namespace g53 -- num_Mod
abbrev R:Type:=Int
abbrev A:Type:=Int × Int
abbrev Y:=A→Option R
def lv:List (Nat × List Nat):=[(2000000,[4]),(1000006,[5])]
noncomputable def cs:Nat→Ctx:=ctxOf tis modes tg52.1 lv
theorem cs_ok (n:Nat):CtxOk Try.prog (cs n):=ctxOf_ok rfl tis_ok tg52.2 n
def sh:AS:=⟨[.c (.int .i64),.c (.int .i64)],[]⟩
def os:OS:=⟨.c (.int .i64),[]⟩
def enc (r:R):Out:=os.enc r
def dec:Out→Option R:=os.dec
noncomputable def b0:Code:=subF [] Try.f46
noncomputable def K0 (k:Nat):Kt R:=kTop (cs k) Try.f46 dec
noncomputable def c1000006:Code:=sub [1,1,1,1] b0
noncomputable def J1000006 ( k:Nat):Kt R:=kAt (cs k) (loopN cs k) [1,1,1,1] b0 (K0 k)
abbrev T0:Type:=Int
abbrev Y0:=T0→Option R
def s0:T0→St:=fun v0=>⟨17,0,[(5,.c (.int .i64 v0))],[],[(256000000,.gone)]⟩
noncomputable def l0 ( k:Nat) (v:T0):Option R:=held (run (cs k) (loopN cs k) c1000006 (J1000006 k) (s0 v))
noncomputable def D0 (v:T0):Option R:=lim fun L=>l0 (L 0) v
theorem D0_cn (v:T0):Cn late (D0 v) fun L=>l0 (L 0) v:=of_lim
def d0:Y0:=fun v0 =>
some v0
theorem d0_cn:∀ v:T0,Cn E (d0 v) fun i=>d0 v:=fun v0=>.some
theorem l0_b ( k:Nat):∀ v:T0,run (cs k) (loopN cs k) c1000006 (J1000006 k) (s0 v) = d0 v:=fun v0=>by kernel_rfl
theorem D0_of (v:T0) {r:R} (h:d0 v = some r):D0 v = some r:=join_of (fun L=>(held_eq _).trans (l0_b (L 0) v)) (d0_cn v) h
noncomputable def f (k:Nat):Y:=fun v=>held (runFn cs k Try.f46 (sh.args v) (sh.slots v) dec)
noncomputable def F:Y:=lm f
def d (p0:Y0):Y:=fun (v0,v1) =>
br (decide (v1 < 1)) (some 0) (br (!decide (v1 = 0)) (br (decide (v0.tmod v1 < 0)) (p0 (wrap .i64 (v0.tmod v1 + v1))) (p0 (v0.tmod v1))) none)
theorem d_cn (k0:Pr E T0 R):∀ v:A,Cn E (d k0.p v) fun i=>d (k0.q i) v:=fun (v0,v1)=>(.br .some (.br (.br (k0.h _) (k0.h _)) .none))
theorem f_b (k:Nat):∀ v:A,f k v = d (l0 k) v:=fun (v0,v1)=>(held_eq _).trans (by kernel_rfl)
theorem F_of (v:A) {r:R} (h:d D0 v = some r):F v = some r:=join_of (fun L=>f_b (L 0) v) (d_cn (.mk fun v=>(D0_cn v).re [0]) v) h
noncomputable def spec (k:Nat):List AV→List Slot→Option Ans:=specS sh os (f k)
theorem spec_ok (k:Nat):SpecOk Try.prog 46 (spec k):=specS_ok cs_ok Try.func46 rfl rfl (fun _ _=>held_eq _) k
end g53
noncomputable def tg53:=tg52.cons 46 g53.spec g53.spec_ok
namespace g54 -- scale_Angle
abbrev R:Type:=Int
abbrev A:Type:=Int × Int × Int × Int × Int
abbrev Y:=A→Option R
def lv:List (Nat × List Nat):=[(2000000,[4])]
noncomputable def cs:Nat→Ctx:=ctxOf tis modes tg53.1 lv
theorem cs_ok (n:Nat):CtxOk Try.prog (cs n):=ctxOf_ok rfl tis_ok tg53.2 n
def sh:AS:=⟨[.agg [.int .i64,.int .i64,.int .i64,.int .i64],.c (.int .i64)],[]⟩
def os:OS:=⟨.c (.int .i64),[]⟩
def enc (r:R):Out:=os.enc r
def dec:Out→Option R:=os.dec
noncomputable def b0:Code:=subF [] Try.f22
noncomputable def K0 (k:Nat):Kt R:=kTop (cs k) Try.f22 dec
noncomputable def f (k:Nat):Y:=fun v=>held (runFn cs k Try.f22 (sh.args v) (sh.slots v) dec)
noncomputable def F:Y:=lm f
def d (p0:g31.Y) (p1:g52.Y) (p2:g53.Y):Y:=fun (v0,v1,v2,v3,v4) =>
bnd (p0 (v0,v1,v2,v3)) fun r=>br (!decide (r = 0) || decide (v4 < -17592186044416) || decide (17592186044416 < v4)) (some 0) (bnd (p1 (v0,v1,v2,v3,v4)) fun r=>bnd (p2 (r,4294967296)) fun r=>some r)
theorem d_cn (k0:Pr E g31.A g31.R) (k1:Pr E g52.A g52.R) (k2:Pr E g53.A g53.R):∀ v:A,Cn E (d k0.p k1.p k2.p v) fun i=>d (k0.q i) (k1.q i) (k2.q i) v:=fun (v0,v1,v2,v3,v4)=>(.bnd (k0.h _) fun _=>(.br .some (.bnd (k1.h _) fun _=>(.bnd (k2.h _) fun _=>.some))))
theorem f_b (k:Nat):∀ v:A,f k v = d (g31.f k) (g52.f k) (g53.f k) v:=fun (v0,v1,v2,v3,v4)=>(held_eq _).trans (by kernel_rfl)
theorem F_of (v:A) {r:R} (h:d g31.F g52.F g53.F v = some r):F v = some r:=join_of (fun L=>f_b (L 0) v) (d_cn (lp g31.f 0) (lp g52.f 0) (lp g53.f 0) v) h
noncomputable def spec (k:Nat):List AV→List Slot→Option Ans:=specS sh os (f k)
theorem spec_ok (k:Nat):SpecOk Try.prog 22 (spec k):=specS_ok cs_ok Try.func22 rfl rfl (fun _ _=>held_eq _) k
end g54
noncomputable def tg54:=tg53.cons 22 g54.spec g54.spec_ok
namespace g55 -- horizon_CheckSite
abbrev R:Type:=Int
abbrev A:Type:=Int × Int
abbrev Y:=A→Option R
def lv:List (Nat × List Nat):=[(2000000,[2])]
noncomputable def cs:Nat→Ctx:=ctxOf tis modes tg54.1 lv
theorem cs_ok (n:Nat):CtxOk Try.prog (cs n):=ctxOf_ok rfl tis_ok tg54.2 n
def sh:AS:=⟨[(.agg [.int .i64,.int .i64])],[]⟩
def os:OS:=⟨.c (.int .i64),[]⟩
def enc (r:R):Out:=os.enc r
def dec:Out→Option R:=os.dec
noncomputable def b0:Code:=subF [] Try.f49
noncomputable def K0 (k:Nat):Kt R:=kTop (cs k) Try.f49 dec
noncomputable def f (k:Nat):Y:=fun v=>held (runFn cs k Try.f49 (sh.args v) (sh.slots v) dec)
noncomputable def F:Y:=lm f
def d:Y:=fun (v0,v1) =>
br (decide (v0 < -1073741824) || decide (1073741824 < v0) || decide (v1 < 0) || decide (4294967296 ≤ v1)) (some 4) (some 0)
theorem d_cn:∀ v:A,Cn E (d v) fun i=>d v:=fun (v0,v1)=>(.br .some .some)
theorem f_b (k:Nat):∀ v:A,f k v = d v:=fun (v0,v1)=>(held_eq _).trans (by kernel_rfl)
theorem F_of (v:A) {r:R} (h:d v = some r):F v = some r:=join_of (fun L=>f_b (L 0) v) (d_cn v) h
noncomputable def spec (k:Nat):List AV→List Slot→Option Ans:=specS sh os (f k)
theorem spec_ok (k:Nat):SpecOk Try.prog 49 (spec k):=specS_ok cs_ok Try.func49 rfl rfl (fun _ _=>held_eq _) k
end g55
noncomputable def tg55:=tg54.cons 49 g55.spec g55.spec_ok
namespace g56 -- sphere_Grow
abbrev R:Type:=Int × Int × Int
abbrev A:Type:=Int × Int × Int
abbrev Y:=A→Option R
def lv:List (Nat × List Nat):=[(2000000,[2]),(3,[1,2])]
noncomputable def cs:Nat→Ctx:=ctxOf tis modes tg55.1 lv
theorem cs_ok (n:Nat):CtxOk Try.prog (cs n):=ctxOf_ok rfl tis_ok tg55.2 n
def sh:AS:=⟨[(.agg [.int .i64,.int .i64,.int .i64])],[]⟩
def os:OS:=⟨.agg [.int .i64,.int .i64,.int .i64],[]⟩
def enc (r:R):Out:=os.enc r
def dec:Out→Option R:=os.dec
noncomputable def b0:Code:=subF [] Try.f50
noncomputable def K0 (k:Nat):Kt R:=kTop (cs k) Try.f50 dec
noncomputable def b3:Code:=sub [1,1,0,0] b0
noncomputable def K3 ( k:Nat):Kt R:=kAt (cs k) (loopN cs k) [1,1,0] b0 (K0 k)
abbrev T0:Type:=Int × Int × Int × Int × Int × Int
abbrev Y0:=T0→Option R
def s0:T0→St:=fun (v0,v1,v2,v3,v4,v5)=>⟨23,0,[(1,.c (.ptr 64000000 0)),(2,.c (.ptr 64000001 0))],[],[(256000000,.gone),(64000000,.box [.int .i64 v0,.int .i64 v1,.int .i64 v2]),(64000001,.box [.int .i64 v3,.int .i64 v4,.int .i64 v5])]⟩
noncomputable def l0 ( k n:Nat) (v:T0):Option R:=held (loopN cs n b3 (K3 k) (s0 v))
noncomputable def D0 (v:T0):Option R:=lim fun L=>l0 (L 0) (L 1) v
theorem D0_cn (v:T0):Cn late (D0 v) fun L=>l0 (L 0) (L 1) v:=of_lim
def d0 (p0:g46.Y) (p1:Y0):Y0:=fun (v0,v1,v2,v3,v4,v5) =>
bnd (p0 (wrap .i64 (2 * v0),wrap .i64 (2 * v1),wrap .i64 (2 * v2))) fun r=>br (!decide (r = 0)) (some (v0,v1,v2)) (p1 (wrap .i64 (2 * v0),wrap .i64 (2 * v1),wrap .i64 (2 * v2),v3,v4,v5))
theorem d0_cn (k0:Pr E g46.A g46.R) (k1:Pr E T0 R):∀ v:T0,Cn E (d0 k0.p k1.p v) fun i=>d0 (k0.q i) (k1.q i) v:=fun (v0,v1,v2,v3,v4,v5)=>(.bnd (k0.h _) fun _=>(.br .some (k1.h _)))
theorem l0_b ( k m1:Nat):∀ v:T0,run (cs m1) (loopN cs m1) b3 (kLoop cs m1 b3 (K3 k)) (s0 v) = d0 (g46.f m1) (l0 k m1) v:=fun (v0,v1,v2,v3,v4,v5)=>by kernel_rfl
theorem D0_of (v:T0) {r:R} (h:d0 g46.F D0 v = some r):D0 v = some r:=loop_of 1 (fun L n hn=>by show l0 (L 0) (L 1) v = _; rw [hn]; exact (held_eq _).trans ((loopN_succ _ _ _ _ _).trans (l0_b (L 0) n v))) (d0_cn (lp g46.f 1) (.mk fun v=>(D0_cn v).re [0,1]) v) h
noncomputable def f (k:Nat):Y:=fun v=>held (runFn cs k Try.f50 (sh.args v) (sh.slots v) dec)
noncomputable def F:Y:=lm f
def d (p0:g46.Y) (p1:Y0):Y:=fun (v0,v1,v2) =>
bnd (p0 (v0,v1,v2)) fun r=>br (!decide (r = 0)) (some (0,0,0)) (p1 (v0,v1,v2,0,0,0))
theorem d_cn (k0:Pr E g46.A g46.R) (k1:Pr E T0 R):∀ v:A,Cn E (d k0.p k1.p v) fun i=>d (k0.q i) (k1.q i) v:=fun (v0,v1,v2)=>(.bnd (k0.h _) fun _=>(.br .some (k1.h _)))
theorem f_b (k:Nat):∀ v:A,f k v = d (g46.f k) (l0 k k) v:=fun (v0,v1,v2)=>(held_eq _).trans (by kernel_rfl)
theorem F_of (v:A) {r:R} (h:d g46.F D0 v = some r):F v = some r:=join_of (fun L=>f_b (L 0) v) (d_cn (lp g46.f 0) (.mk fun v=>(D0_cn v).re [0,0]) v) h
noncomputable def spec (k:Nat):List AV→List Slot→Option Ans:=specS sh os (f k)
theorem spec_ok (k:Nat):SpecOk Try.prog 50 (spec k):=specS_ok cs_ok Try.func50 rfl rfl (fun _ _=>held_eq _) k
end g56
noncomputable def tg56:=tg55.cons 50 g56.spec g56.spec_ok
namespace g57 -- trig_times
abbrev R:Type:=Int
abbrev A:Type:=Int × Int
abbrev Y:=A→Option R
def lv:List (Nat × List Nat):=[(2000000,[4])]
noncomputable def cs:Nat→Ctx:=ctxOf tis modes tg56.1 lv
theorem cs_ok (n:Nat):CtxOk Try.prog (cs n):=ctxOf_ok rfl tis_ok tg56.2 n
def sh:AS:=⟨[.c (.int .i64),.c (.int .i64)],[]⟩
def os:OS:=⟨.c (.int .i64),[]⟩
def enc (r:R):Out:=os.enc r
def dec:Out→Option R:=os.dec
noncomputable def b0:Code:=subF [] Try.f78
noncomputable def K0 (k:Nat):Kt R:=kTop (cs k) Try.f78 dec
noncomputable def f (k:Nat):Y:=fun v=>held (runFn cs k Try.f78 (sh.args v) (sh.slots v) dec)
noncomputable def F:Y:=lm f
def d (p0:g51.Y):Y:=fun (v0,v1) =>
bnd (p0 (v0,v1,1152921504606846976)) fun r=>some r.1
theorem d_cn (k0:Pr E g51.A g51.R):∀ v:A,Cn E (d k0.p v) fun i=>d (k0.q i) v:=fun (v0,v1)=>(.bnd (k0.h _) fun _=>.some)
theorem f_b (k:Nat):∀ v:A,f k v = d (g51.f k) v:=fun (v0,v1)=>(held_eq _).trans (by kernel_rfl)
theorem F_of (v:A) {r:R} (h:d g51.F v = some r):F v = some r:=join_of (fun L=>f_b (L 0) v) (d_cn (lp g51.f 0) v) h
noncomputable def spec (k:Nat):List AV→List Slot→Option Ans:=specS sh os (f k)
theorem spec_ok (k:Nat):SpecOk Try.prog 78 (spec k):=specS_ok cs_ok Try.func78 rfl rfl (fun _ _=>held_eq _) k
end g57
noncomputable def tg57:=tg56.cons 78 g57.spec g57.spec_ok
namespace g58 -- trig_series
abbrev R:Type:=Int
abbrev A:Type:=Int × List Int
abbrev Y:=A→Option R
def lv:List (Nat × List Nat):=[(2000000,[4]),(3,[0,5,8,9,10])]
noncomputable def cs:Nat→Ctx:=ctxOf tis modes tg57.1 lv
theorem cs_ok (n:Nat):CtxOk Try.prog (cs n):=ctxOf_ok rfl tis_ok tg57.2 n
def sh:AS:=⟨[.c (.int .i64),.c (.frz (.int .i64))],[]⟩
def os:OS:=⟨.c (.int .i64),[]⟩
def enc (r:R):Out:=os.enc r
def dec:Out→Option R:=os.dec
noncomputable def b0:Code:=subF [] Try.f79
noncomputable def K0 (k:Nat):Kt R:=kTop (cs k) Try.f79 dec
noncomputable def b3:Code:=sub [1,1,0,1,0,0] b0
noncomputable def K3 ( k:Nat):Kt R:=kAt (cs k) (loopN cs k) [1,1,0,1,0] b0 (K0 k)
abbrev T0:Type:=Int × Int × List Int × Int × Int
abbrev Y0:=T0→Option R
def s0:T0→St:=fun (v0,v1,v2,v3,v4)=>⟨22,0,[(0,.c (.int .i64 v0)),(5,.c (.int .i64 v1)),(8,.c (.frz (.int .i64) v2)),(9,.c (.int .i64 v3)),(10,.c (.int .i64 v4))],[],[(256000000,.gone)]⟩
noncomputable def l0 ( k n:Nat) (v:T0):Option R:=held (loopN cs n b3 (K3 k) (s0 v))
noncomputable def D0 (v:T0):Option R:=lim fun L=>l0 (L 0) (L 1) v
theorem D0_cn (v:T0):Cn late (D0 v) fun L=>l0 (L 0) (L 1) v:=of_lim
def d0 (p0:g57.Y) (p1:Y0):Y0:=fun (v0,v1,v2,v3,v4) =>
br (decide (v4 < v3)) (br (decide (0 ≤ v4 ∧ v4 < (↑v2.length:Int))) (bnd (p0 (v0,v1)) fun r=>br (!decide (rd (Ty.int .i64) v2 v4 = 0)) (p1 (v0,wrap .i64 (1152921504606846976 - wrap .i64 (r.tdiv (rd (Ty.int .i64) v2 v4))),v2,v3,wrap .i64 (v4 + 1))) none) none) (some v1)
theorem d0_cn (k0:Pr E g57.A g57.R) (k1:Pr E T0 R):∀ v:T0,Cn E (d0 k0.p k1.p v) fun i=>d0 (k0.q i) (k1.q i) v:=fun (v0,v1,v2,v3,v4)=>(.br (.br (.bnd (k0.h _) fun _=>(.br (k1.h _) .none)) .none) .some)
theorem l0_b ( k m1:Nat):∀ v:T0,run (cs m1) (loopN cs m1) b3 (kLoop cs m1 b3 (K3 k)) (s0 v) = d0 (g57.f m1) (l0 k m1) v:=fun (v0,v1,v2,v3,v4)=>by kernel_rfl
theorem D0_of (v:T0) {r:R} (h:d0 g57.F D0 v = some r):D0 v = some r:=loop_of 1 (fun L n hn=>by show l0 (L 0) (L 1) v = _; rw [hn]; exact (held_eq _).trans ((loopN_succ _ _ _ _ _).trans (l0_b (L 0) n v))) (d0_cn (lp g57.f 1) (.mk fun v=>(D0_cn v).re [0,1]) v) h
noncomputable def f (k:Nat):Y:=fun v=>held (runFn cs k Try.f79 (sh.args v) (sh.slots v) dec)
noncomputable def F:Y:=lm f
def d (p0:Y0):Y:=fun (v0,v1) =>
p0 (v0,1152921504606846976,v1,(↑v1.length:Int),0)
theorem d_cn (k0:Pr E T0 R):∀ v:A,Cn E (d k0.p v) fun i=>d (k0.q i) v:=fun (v0,v1)=>(k0.h _)
theorem f_b (k:Nat):∀ v:A,f k v = d (l0 k k) v:=fun (v0,v1)=>(held_eq _).trans (by kernel_rfl)
theorem F_of (v:A) {r:R} (h:d D0 v = some r):F v = some r:=join_of (fun L=>f_b (L 0) v) (d_cn (.mk fun v=>(D0_cn v).re [0,0]) v) h
noncomputable def spec (k:Nat):List AV→List Slot→Option Ans:=specS sh os (f k)
theorem spec_ok (k:Nat):SpecOk Try.prog 79 (spec k):=specS_ok cs_ok Try.func79 rfl rfl (fun _ _=>held_eq _) k
end g58
noncomputable def tg58:=tg57.cons 79 g58.spec g58.spec_ok
namespace g59 -- num_RoundDiv
abbrev R:Type:=Int
abbrev A:Type:=Int × Int
abbrev Y:=A→Option R
def lv:List (Nat × List Nat):=[(2000000,[4]),(1000008,[5])]
noncomputable def cs:Nat→Ctx:=ctxOf tis modes tg58.1 lv
theorem cs_ok (n:Nat):CtxOk Try.prog (cs n):=ctxOf_ok rfl tis_ok tg58.2 n
def sh:AS:=⟨[.c (.int .i64),.c (.int .i64)],[]⟩
def os:OS:=⟨.c (.int .i64),[]⟩
def enc (r:R):Out:=os.enc r
def dec:Out→Option R:=os.dec
noncomputable def b0:Code:=subF [] Try.f54
noncomputable def K0 (k:Nat):Kt R:=kTop (cs k) Try.f54 dec
noncomputable def c1000008:Code:=sub [1,1,1,1] b0
noncomputable def J1000008 ( k:Nat):Kt R:=kAt (cs k) (loopN cs k) [1,1,1,1] b0 (K0 k)
abbrev T0:Type:=Int
abbrev Y0:=T0→Option R
def s0:T0→St:=fun v0=>⟨41,0,[(5,.c (.int .i64 v0))],[],[(256000000,.gone)]⟩
noncomputable def l0 ( k:Nat) (v:T0):Option R:=held (run (cs k) (loopN cs k) c1000008 (J1000008 k) (s0 v))
noncomputable def D0 (v:T0):Option R:=lim fun L=>l0 (L 0) v
theorem D0_cn (v:T0):Cn late (D0 v) fun L=>l0 (L 0) v:=of_lim
def d0:Y0:=fun v0 =>
some v0
theorem d0_cn:∀ v:T0,Cn E (d0 v) fun i=>d0 v:=fun v0=>.some
theorem l0_b ( k:Nat):∀ v:T0,run (cs k) (loopN cs k) c1000008 (J1000008 k) (s0 v) = d0 v:=fun v0=>by kernel_rfl
theorem D0_of (v:T0) {r:R} (h:d0 v = some r):D0 v = some r:=join_of (fun L=>(held_eq _).trans (l0_b (L 0) v)) (d0_cn v) h
noncomputable def f (k:Nat):Y:=fun v=>held (runFn cs k Try.f54 (sh.args v) (sh.slots v) dec)
noncomputable def F:Y:=lm f
def d (p0:Y0):Y:=fun (v0,v1) =>
br (decide (v1 < 1)) (some 0) (br (!decide (v1 = 0)) (br (!decide (v1 = 0)) (br (decide (wrap .i64 (v1 - v0.tmod v1) ≤ v0.tmod v1) && decide (0 < v0.tmod v1)) (p0 (wrap .i64 (wrap .i64 (v0.tdiv v1) + 1))) (br (decide (v0.tmod v1 < 0) && decide (wrap .i64 (v1 + v0.tmod v1) ≤ wrap .i64 (0 - v0.tmod v1))) (p0 (wrap .i64 (wrap .i64 (v0.tdiv v1) - 1))) (p0 (wrap .i64 (v0.tdiv v1))))) none) none)
theorem d_cn (k0:Pr E T0 R):∀ v:A,Cn E (d k0.p v) fun i=>d (k0.q i) v:=fun (v0,v1)=>(.br .some (.br (.br (.br (k0.h _) (.br (k0.h _) (k0.h _))) .none) .none))
theorem f_b (k:Nat):∀ v:A,f k v = d (l0 k) v:=fun (v0,v1)=>(held_eq _).trans (by kernel_rfl)
theorem F_of (v:A) {r:R} (h:d D0 v = some r):F v = some r:=join_of (fun L=>f_b (L 0) v) (d_cn (.mk fun v=>(D0_cn v).re [0]) v) h
noncomputable def spec (k:Nat):List AV→List Slot→Option Ans:=specS sh os (f k)
theorem spec_ok (k:Nat):SpecOk Try.prog 54 (spec k):=specS_ok cs_ok Try.func54 rfl rfl (fun _ _=>held_eq _) k
end g59
noncomputable def tg59:=tg58.cons 54 g59.spec g59.spec_ok
namespace g60 -- trig_quarter
abbrev R:Type:=Int
abbrev A:Type:=Int
abbrev Y:=A→Option R
def lv:List (Nat × List Nat):=[(2000000,[2]),(1000004,[0,3])]
noncomputable def cs:Nat→Ctx:=ctxOf tis modes tg59.1 lv
theorem cs_ok (n:Nat):CtxOk Try.prog (cs n):=ctxOf_ok rfl tis_ok tg59.2 n
def sh:AS:=⟨[(.c (.int .i64))],[]⟩
def os:OS:=⟨.c (.int .i64),[]⟩
def enc (r:R):Out:=os.enc r
def dec:Out→Option R:=os.dec
noncomputable def b0:Code:=subF [] Try.f67
noncomputable def K0 (k:Nat):Kt R:=kTop (cs k) Try.f67 dec
noncomputable def c1000004:Code:=sub [1,1,1] b0
noncomputable def J1000004 ( k:Nat):Kt R:=kAt (cs k) (loopN cs k) [1,1,1] b0 (K0 k)
abbrev T0:Type:=Int × Bool
abbrev Y0:=T0→Option R
def s0:T0→St:=fun (v0,v1)=>⟨31,0,[(0,.c (.int .i64 v0)),(3,.c (.bool v1))],[],[(256000000,.gone)]⟩
noncomputable def l0 ( k:Nat) (v:T0):Option R:=held (run (cs k) (loopN cs k) c1000004 (J1000004 k) (s0 v))
noncomputable def D0 (v:T0):Option R:=lim fun L=>l0 (L 0) v
theorem D0_cn (v:T0):Cn late (D0 v) fun L=>l0 (L 0) v:=of_lim
def d0 (p0:g51.Y) (p1:g57.Y) (p2:g58.Y) (p3:g59.Y):Y0:=fun (v0,v1) =>
bnd (p0 (v0,1811004864519280710,1073741824)) fun r=>bnd (p1 (r.1,r.1)) fun r_1=>br v1 (bnd (p2 (r_1,[182,132,90,56,30,12,2])) fun r=>bnd (p3 (r,1073741824)) fun r=>some r) (bnd (p2 (r_1,[156,110,72,42,20,6])) fun r_2=>bnd (p1 (r.1,r_2)) fun r=>bnd (p3 (r,1073741824)) fun r=>some r)
theorem d0_cn (k0:Pr E g51.A g51.R) (k1:Pr E g57.A g57.R) (k2:Pr E g58.A g58.R) (k3:Pr E g59.A g59.R):∀ v:T0,Cn E (d0 k0.p k1.p k2.p k3.p v) fun i=>d0 (k0.q i) (k1.q i) (k2.q i) (k3.q i) v:=fun (v0,v1)=>(.bnd (k0.h _) fun _=>(.bnd (k1.h _) fun _=>(.br (.bnd (k2.h _) fun _=>(.bnd (k3.h _) fun _=>.some)) (.bnd (k2.h _) fun _=>(.bnd (k1.h _) fun _=>(.bnd (k3.h _) fun _=>.some))))))
theorem l0_b ( k:Nat):∀ v:T0,run (cs k) (loopN cs k) c1000004 (J1000004 k) (s0 v) = d0 (g51.f k) (g57.f k) (g58.f k) (g59.f k) v:=fun (v0,v1)=>by kernel_rfl
theorem D0_of (v:T0) {r:R} (h:d0 g51.F g57.F g58.F g59.F v = some r):D0 v = some r:=join_of (fun L=>(held_eq _).trans (l0_b (L 0) v)) (d0_cn (lp g51.f 0) (lp g57.f 0) (lp g58.f 0) (lp g59.f 0) v) h
noncomputable def f (k:Nat):Y:=fun v=>held (runFn cs k Try.f67 (sh.args v) (sh.slots v) dec)
noncomputable def F:Y:=lm f
def d (p0:Y0):Y:=fun v0 =>
br (decide (536870912 < v0)) (p0 (wrap .i64 (1073741824 - v0),decide (536870912 < v0))) (p0 (v0,decide (536870912 < v0)))
theorem d_cn (k0:Pr E T0 R):∀ v:A,Cn E (d k0.p v) fun i=>d (k0.q i) v:=fun v0=>(.br (k0.h _) (k0.h _))
theorem f_b (k:Nat):∀ v:A,f k v = d (l0 k) v:=fun v0=>(held_eq _).trans (by kernel_rfl)
theorem F_of (v:A) {r:R} (h:d D0 v = some r):F v = some r:=join_of (fun L=>f_b (L 0) v) (d_cn (.mk fun v=>(D0_cn v).re [0]) v) h
noncomputable def spec (k:Nat):List AV→List Slot→Option Ans:=specS sh os (f k)
theorem spec_ok (k:Nat):SpecOk Try.prog 67 (spec k):=specS_ok cs_ok Try.func67 rfl rfl (fun _ _=>held_eq _) k
end g60
noncomputable def tg60:=tg59.cons 67 g60.spec g60.spec_ok
namespace g61 -- trig_Sin
abbrev R:Type:=Int
abbrev A:Type:=Int
abbrev Y:=A→Option R
def lv:List (Nat × List Nat):=[(2000000,[2])]
noncomputable def cs:Nat→Ctx:=ctxOf tis modes tg60.1 lv
theorem cs_ok (n:Nat):CtxOk Try.prog (cs n):=ctxOf_ok rfl tis_ok tg60.2 n
def sh:AS:=⟨[(.c (.int .i64))],[]⟩
def os:OS:=⟨.c (.int .i64),[]⟩
def enc (r:R):Out:=os.enc r
def dec:Out→Option R:=os.dec
noncomputable def b0:Code:=subF [] Try.f53
noncomputable def K0 (k:Nat):Kt R:=kTop (cs k) Try.f53 dec
noncomputable def f (k:Nat):Y:=fun v=>held (runFn cs k Try.f53 (sh.args v) (sh.slots v) dec)
noncomputable def F:Y:=lm f
noncomputable def d (p0:g60.Y):Y:=fun v0 =>
br (!decide (1073741824 = 0)) (br (decide (wrap .i64 ((bAnd .i64 v0 4294967295).tdiv 1073741824) = 0)) (bnd (p0 (bAnd .i64 (bAnd .i64 v0 4294967295) 1073741823)) fun r=>some r) (br (decide (wrap .i64 ((bAnd .i64 v0 4294967295).tdiv 1073741824) = 1)) (bnd (p0 (wrap .i64 (1073741824 - bAnd .i64 (bAnd .i64 v0 4294967295) 1073741823))) fun r=>some r) (br (decide (wrap .i64 ((bAnd .i64 v0 4294967295).tdiv 1073741824) = 2)) (bnd (p0 (bAnd .i64 (bAnd .i64 v0 4294967295) 1073741823)) fun r=>some (wrap .i64 (0 - r))) (bnd (p0 (wrap .i64 (1073741824 - bAnd .i64 (bAnd .i64 v0 4294967295) 1073741823))) fun r=>some (wrap .i64 (0 - r)))))) none
theorem d_cn (k0:Pr E g60.A g60.R):∀ v:A,Cn E (d k0.p v) fun i=>d (k0.q i) v:=fun v0=>(.br (.br (.bnd (k0.h _) fun _=>.some) (.br (.bnd (k0.h _) fun _=>.some) (.br (.bnd (k0.h _) fun _=>.some) (.bnd (k0.h _) fun _=>.some)))) .none)
theorem f_b (k:Nat):∀ v:A,f k v = d (g60.f k) v:=fun v0=>(held_eq _).trans (by kernel_rfl)
theorem F_of (v:A) {r:R} (h:d g60.F v = some r):F v = some r:=join_of (fun L=>f_b (L 0) v) (d_cn (lp g60.f 0) v) h
noncomputable def spec (k:Nat):List AV→List Slot→Option Ans:=specS sh os (f k)
theorem spec_ok (k:Nat):SpecOk Try.prog 53 (spec k):=specS_ok cs_ok Try.func53 rfl rfl (fun _ _=>held_eq _) k
end g61
noncomputable def tg61:=tg60.cons 53 g61.spec g61.spec_ok
namespace g62 -- trig_Cos
abbrev R:Type:=Int
abbrev A:Type:=Int
abbrev Y:=A→Option R
def lv:List (Nat × List Nat):=[(2000000,[2])]
noncomputable def cs:Nat→Ctx:=ctxOf tis modes tg61.1 lv
theorem cs_ok (n:Nat):CtxOk Try.prog (cs n):=ctxOf_ok rfl tis_ok tg61.2 n
def sh:AS:=⟨[(.c (.int .i64))],[]⟩
def os:OS:=⟨.c (.int .i64),[]⟩
def enc (r:R):Out:=os.enc r
def dec:Out→Option R:=os.dec
noncomputable def b0:Code:=subF [] Try.f52
noncomputable def K0 (k:Nat):Kt R:=kTop (cs k) Try.f52 dec
noncomputable def f (k:Nat):Y:=fun v=>held (runFn cs k Try.f52 (sh.args v) (sh.slots v) dec)
noncomputable def F:Y:=lm f
def d (p0:g61.Y):Y:=fun v0 =>
bnd (p0 (wrap .i64 (bAnd .i64 v0 4294967295 + 1073741824))) fun r=>some r
theorem d_cn (k0:Pr E g61.A g61.R):∀ v:A,Cn E (d k0.p v) fun i=>d (k0.q i) v:=fun v0=>(.bnd (k0.h _) fun _=>.some)
theorem f_b (k:Nat):∀ v:A,f k v = d (g61.f k) v:=fun v0=>(held_eq _).trans (by kernel_rfl)
theorem F_of (v:A) {r:R} (h:d g61.F v = some r):F v = some r:=join_of (fun L=>f_b (L 0) v) (d_cn (lp g61.f 0) v) h
noncomputable def spec (k:Nat):List AV→List Slot→Option Ans:=specS sh os (f k)
theorem spec_ok (k:Nat):SpecOk Try.prog 52 (spec k):=specS_ok cs_ok Try.func52 rfl rfl (fun _ _=>held_eq _) k
end g62
noncomputable def tg62:=tg61.cons 52 g62.spec g62.spec_ok
namespace g63 -- horizon_AimS1
abbrev R:Type:=Int
abbrev A:Type:=Int
abbrev Y:=A→Option R
def lv:List (Nat × List Nat):=[(2000000,[4])]
noncomputable def cs:Nat→Ctx:=ctxOf tis modes tg62.1 lv
theorem cs_ok (n:Nat):CtxOk Try.prog (cs n):=ctxOf_ok rfl tis_ok tg62.2 n
def sh:AS:=⟨[.c (.func 52 []),.c (.int .i64)],[]⟩
def os:OS:=⟨.c (.int .i64),[]⟩
def enc (r:R):Out:=os.enc r
def dec:Out→Option R:=os.dec
noncomputable def b0:Code:=subF [] Try.f51
noncomputable def K0 (k:Nat):Kt R:=kTop (cs k) Try.f51 dec
noncomputable def f (k:Nat):Y:=fun v=>held (runFn cs k Try.f51 (sh.args v) (sh.slots v) dec)
noncomputable def F:Y:=lm f
def d (p0:g62.Y):Y:=fun v0 =>
bnd (p0 v0) fun r=>some r
theorem d_cn (k0:Pr E g62.A g62.R):∀ v:A,Cn E (d k0.p v) fun i=>d (k0.q i) v:=fun v0=>(.bnd (k0.h _) fun _=>.some)
theorem f_b (k:Nat):∀ v:A,f k v = d (g62.f k) v:=fun v0=>(held_eq _).trans (by kernel_rfl)
theorem F_of (v:A) {r:R} (h:d g62.F v = some r):F v = some r:=join_of (fun L=>f_b (L 0) v) (d_cn (lp g62.f 0) v) h
noncomputable def spec (k:Nat):List AV→List Slot→Option Ans:=specS sh os (f k)
theorem spec_ok (k:Nat):SpecOk Try.prog 51 (spec k):=specS_ok cs_ok Try.func51 rfl rfl (fun _ _=>held_eq _) k
end g63
noncomputable def tg63:=tg62.cons 51 g63.spec g63.spec_ok
namespace g64 -- horizon_AimS1_1
abbrev R:Type:=Int
abbrev A:Type:=Int
abbrev Y:=A→Option R
def lv:List (Nat × List Nat):=[(2000000,[4])]
noncomputable def cs:Nat→Ctx:=ctxOf tis modes tg63.1 lv
theorem cs_ok (n:Nat):CtxOk Try.prog (cs n):=ctxOf_ok rfl tis_ok tg63.2 n
def sh:AS:=⟨[.c (.func 53 []),.c (.int .i64)],[]⟩
def os:OS:=⟨.c (.int .i64),[]⟩
def enc (r:R):Out:=os.enc r
def dec:Out→Option R:=os.dec
noncomputable def b0:Code:=subF [] Try.f51
noncomputable def K0 (k:Nat):Kt R:=kTop (cs k) Try.f51 dec
noncomputable def f (k:Nat):Y:=fun v=>held (runFn cs k Try.f51 (sh.args v) (sh.slots v) dec)
noncomputable def F:Y:=lm f
def d (p0:g61.Y):Y:=fun v0 =>
bnd (p0 v0) fun r=>some r
theorem d_cn (k0:Pr E g61.A g61.R):∀ v:A,Cn E (d k0.p v) fun i=>d (k0.q i) v:=fun v0=>(.bnd (k0.h _) fun _=>.some)
theorem f_b (k:Nat):∀ v:A,f k v = d (g61.f k) v:=fun v0=>(held_eq _).trans (by kernel_rfl)
theorem F_of (v:A) {r:R} (h:d g61.F v = some r):F v = some r:=join_of (fun L=>f_b (L 0) v) (d_cn (lp g61.f 0) v) h
noncomputable def spec (k:Nat):List AV→List Slot→Option Ans:=specS sh os (f k)
theorem spec_ok (k:Nat):SpecOk Try.prog 51 (spec k):=specS_ok cs_ok Try.func51 rfl rfl (fun _ _=>held_eq _) k
end g64
noncomputable def tg64:=tg63.cons 51 g64.spec g64.spec_ok
namespace g65 -- trig_octant
abbrev R:Type:=Int
abbrev A:Type:=Int × Int
abbrev Y:=A→Option R
def lv:List (Nat × List Nat):=[(2000000,[4]),(2,[0,1,5,6])]
noncomputable def cs:Nat→Ctx:=ctxOf tis modes tg64.1 lv
theorem cs_ok (n:Nat):CtxOk Try.prog (cs n):=ctxOf_ok rfl tis_ok tg64.2 n
def sh:AS:=⟨[.c (.int .i64),.c (.int .i64)],[]⟩
def os:OS:=⟨.c (.int .i64),[]⟩
def enc (r:R):Out:=os.enc r
def dec:Out→Option R:=os.dec
noncomputable def b0:Code:=subF [] Try.f68
noncomputable def K0 (k:Nat):Kt R:=kTop (cs k) Try.f68 dec
noncomputable def b2:Code:=sub [1,1,0,0,0] b0
noncomputable def K2 ( k:Nat):Kt R:=kAt (cs k) (loopN cs k) [1,1,0,0] b0 (K0 k)
abbrev T0:Type:=Int × Int × Int × Int
abbrev Y0:=T0→Option R
def s0:T0→St:=fun (v0,v1,v2,v3)=>⟨28,0,[(0,.c (.int .i64 v0)),(1,.c (.int .i64 v1)),(5,.c (.int .i64 v2)),(6,.c (.int .i64 v3))],[],[(256000000,.gone)]⟩
noncomputable def l0 ( k n:Nat) (v:T0):Option R:=held (loopN cs n b2 (K2 k) (s0 v))
noncomputable def D0 (v:T0):Option R:=lim fun L=>l0 (L 0) (L 1) v
theorem D0_cn (v:T0):Cn late (D0 v) fun L=>l0 (L 0) (L 1) v:=of_lim
def d0 (p0:g61.Y) (p1:g62.Y) (p2:Y0):Y0:=fun (v0,v1,v2,v3) =>
br (decide (1 < wrap .i64 (v3 - v2))) (br (!decide (2 = 0)) (bnd (p0 (wrap .i64 ((wrap .i64 (v2 + v3)).tdiv 2))) fun r=>bnd (p1 (wrap .i64 ((wrap .i64 (v2 + v3)).tdiv 2))) fun r_1=>br (decide (wrap .i64 (r * v1) ≤ wrap .i64 (r_1 * v0))) (p2 (v0,v1,wrap .i64 ((wrap .i64 (v2 + v3)).tdiv 2),v3)) (p2 (v0,v1,v2,wrap .i64 ((wrap .i64 (v2 + v3)).tdiv 2)))) none) (some v2)
theorem d0_cn (k0:Pr E g61.A g61.R) (k1:Pr E g62.A g62.R) (k2:Pr E T0 R):∀ v:T0,Cn E (d0 k0.p k1.p k2.p v) fun i=>d0 (k0.q i) (k1.q i) (k2.q i) v:=fun (v0,v1,v2,v3)=>(.br (.br (.bnd (k0.h _) fun _=>(.bnd (k1.h _) fun _=>(.br (k2.h _) (k2.h _)))) .none) .some)
theorem l0_b ( k m1:Nat):∀ v:T0,run (cs m1) (loopN cs m1) b2 (kLoop cs m1 b2 (K2 k)) (s0 v) = d0 (g61.f m1) (g62.f m1) (l0 k m1) v:=fun (v0,v1,v2,v3)=>by kernel_rfl
theorem D0_of (v:T0) {r:R} (h:d0 g61.F g62.F D0 v = some r):D0 v = some r:=loop_of 1 (fun L n hn=>by show l0 (L 0) (L 1) v = _; rw [hn]; exact (held_eq _).trans ((loopN_succ _ _ _ _ _).trans (l0_b (L 0) n v))) (d0_cn (lp g61.f 1) (lp g62.f 1) (.mk fun v=>(D0_cn v).re [0,1]) v) h
noncomputable def f (k:Nat):Y:=fun v=>held (runFn cs k Try.f68 (sh.args v) (sh.slots v) dec)
noncomputable def F:Y:=lm f
def d (p0:Y0):Y:=fun (v0,v1) =>
p0 (v0,v1,0,536870913)
theorem d_cn (k0:Pr E T0 R):∀ v:A,Cn E (d k0.p v) fun i=>d (k0.q i) v:=fun (v0,v1)=>(k0.h _)
theorem f_b (k:Nat):∀ v:A,f k v = d (l0 k k) v:=fun (v0,v1)=>(held_eq _).trans (by kernel_rfl)
theorem F_of (v:A) {r:R} (h:d D0 v = some r):F v = some r:=join_of (fun L=>f_b (L 0) v) (d_cn (.mk fun v=>(D0_cn v).re [0,0]) v) h
noncomputable def spec (k:Nat):List AV→List Slot→Option Ans:=specS sh os (f k)
theorem spec_ok (k:Nat):SpecOk Try.prog 68 (spec k):=specS_ok cs_ok Try.func68 rfl rfl (fun _ _=>held_eq _) k
end g65
noncomputable def tg65:=tg64.cons 68 g65.spec g65.spec_ok
namespace g66 -- trig_Atan2
abbrev R:Type:=Int × Int
abbrev A:Type:=Int × Int
abbrev Y:=A→Option R
def lv:List (Nat × List Nat):=[(2000000,[4,5]),(1000010,[0,1,8]),(1000012,[0,8]),(1000014,[8])]
noncomputable def cs:Nat→Ctx:=ctxOf tis modes tg65.1 lv
theorem cs_ok (n:Nat):CtxOk Try.prog (cs n):=ctxOf_ok rfl tis_ok tg65.2 n
def sh:AS:=⟨[.c (.int .i64),.c (.int .i64)],[]⟩
def os:OS:=⟨.tup [.c (.int .i64),.c (.int .i64)],[]⟩
def enc (r:R):Out:=os.enc r
def dec:Out→Option R:=os.dec
noncomputable def b0:Code:=subF [] Try.f55
noncomputable def K0 (k:Nat):Kt R:=kTop (cs k) Try.f55 dec
noncomputable def c1000010:Code:=sub [1,1,1,1,1] b0
noncomputable def J1000010 ( k:Nat):Kt R:=kAt (cs k) (loopN cs k) [1,1,1,1,1] b0 (K0 k)
noncomputable def c1000012:Code:=sub [1,1,1,1,1,1] b0
noncomputable def J1000012 ( k:Nat):Kt R:=kAt (cs k) (loopN cs k) [1,1,1,1,1,1] b0 (K0 k)
noncomputable def c1000014:Code:=sub [1,1,1,1,1,1,1] b0
noncomputable def J1000014 ( k:Nat):Kt R:=kAt (cs k) (loopN cs k) [1,1,1,1,1,1,1] b0 (K0 k)
abbrev T0:Type:=Int × Int × Int
abbrev Y0:=T0→Option R
def s0:T0→St:=fun (v0,v1,v2)=>⟨59,0,[(0,.c (.int .i64 v0)),(1,.c (.int .i64 v1)),(8,.c (.int .i64 v2))],[],[(256000000,.gone)]⟩
noncomputable def l0 ( k:Nat) (v:T0):Option R:=held (run (cs k) (loopN cs k) c1000010 (J1000010 k) (s0 v))
noncomputable def D0 (v:T0):Option R:=lim fun L=>l0 (L 0) v
theorem D0_cn (v:T0):Cn late (D0 v) fun L=>l0 (L 0) v:=of_lim
abbrev T1:Type:=Int × Int
abbrev Y1:=T1→Option R
def s1:T1→St:=fun (v0,v1)=>⟨59,0,[(0,.c (.int .i64 v0)),(8,.c (.int .i64 v1))],[],[(256000000,.gone)]⟩
noncomputable def l1 ( k:Nat) (v:T1):Option R:=held (run (cs k) (loopN cs k) c1000012 (J1000012 k) (s1 v))
noncomputable def D1 (v:T1):Option R:=lim fun L=>l1 (L 0) v
theorem D1_cn (v:T1):Cn late (D1 v) fun L=>l1 (L 0) v:=of_lim
abbrev T2:Type:=Int
abbrev Y2:=T2→Option R
def s2:T2→St:=fun v0=>⟨59,0,[(8,.c (.int .i64 v0))],[],[(256000000,.gone)]⟩
noncomputable def l2 ( k:Nat) (v:T2):Option R:=held (run (cs k) (loopN cs k) c1000014 (J1000014 k) (s2 v))
noncomputable def D2 (v:T2):Option R:=lim fun L=>l2 (L 0) v
theorem D2_cn (v:T2):Cn late (D2 v) fun L=>l2 (L 0) v:=of_lim
def d0 (p0:Y1):Y0:=fun (v0,v1,v2) =>
br (decide (v1 < 0)) (p0 (v0,wrap .i64 (2147483648 - v2))) (p0 (v0,v2))
theorem d0_cn (k0:Pr E T1 R):∀ v:T0,Cn E (d0 k0.p v) fun i=>d0 (k0.q i) v:=fun (v0,v1,v2)=>(.br (k0.h _) (k0.h _))
theorem l0_b ( k:Nat):∀ v:T0,run (cs k) (loopN cs k) c1000010 (J1000010 k) (s0 v) = d0 (l1 k) v:=fun (v0,v1,v2)=>by kernel_rfl
theorem D0_of (v:T0) {r:R} (h:d0 D1 v = some r):D0 v = some r:=join_of (fun L=>(held_eq _).trans (l0_b (L 0) v)) (d0_cn (.mk fun v=>(D1_cn v).re [0]) v) h
def d1 (p0:Y2):Y1:=fun (v0,v1) =>
br (decide (v0 < 0)) (p0 (wrap .i64 (4294967296 - v1))) (p0 v1)
theorem d1_cn (k0:Pr E T2 R):∀ v:T1,Cn E (d1 k0.p v) fun i=>d1 (k0.q i) v:=fun (v0,v1)=>(.br (k0.h _) (k0.h _))
theorem l1_b ( k:Nat):∀ v:T1,run (cs k) (loopN cs k) c1000012 (J1000012 k) (s1 v) = d1 (l2 k) v:=fun (v0,v1)=>by kernel_rfl
theorem D1_of (v:T1) {r:R} (h:d1 D2 v = some r):D1 v = some r:=join_of (fun L=>(held_eq _).trans (l1_b (L 0) v)) (d1_cn (.mk fun v=>(D2_cn v).re [0]) v) h
def d2:Y2:=fun v0 =>
br (!decide (4294967296 = 0)) (some (v0.tmod 4294967296,0)) none
theorem d2_cn:∀ v:T2,Cn E (d2 v) fun i=>d2 v:=fun v0=>(.br .some .none)
theorem l2_b ( k:Nat):∀ v:T2,run (cs k) (loopN cs k) c1000014 (J1000014 k) (s2 v) = d2 v:=fun v0=>by kernel_rfl
theorem D2_of (v:T2) {r:R} (h:d2 v = some r):D2 v = some r:=join_of (fun L=>(held_eq _).trans (l2_b (L 0) v)) (d2_cn v) h
noncomputable def f (k:Nat):Y:=fun v=>held (runFn cs k Try.f55 (sh.args v) (sh.slots v) dec)
noncomputable def F:Y:=lm f
def d (p0:g65.Y) (p1:Y0):Y:=fun (v0,v1) =>
br (decide (v1 < -4294967296) || decide (4294967296 < v1) || decide (v0 < -4294967296) || decide (4294967296 < v0)) (some (0,4)) (br (decide (v1 = 0) && decide (v0 = 0)) (some (0,8)) (br (decide (max v0 (wrap .i64 (0 - v0)) ≤ max v1 (wrap .i64 (0 - v1)))) (bnd (p0 (max v0 (wrap .i64 (0 - v0)),max v1 (wrap .i64 (0 - v1)))) fun r=>p1 (v0,v1,r)) (bnd (p0 (max v1 (wrap .i64 (0 - v1)),max v0 (wrap .i64 (0 - v0)))) fun r=>p1 (v0,v1,wrap .i64 (1073741824 - r)))))
theorem d_cn (k0:Pr E g65.A g65.R) (k1:Pr E T0 R):∀ v:A,Cn E (d k0.p k1.p v) fun i=>d (k0.q i) (k1.q i) v:=fun (v0,v1)=>(.br .some (.br .some (.br (.bnd (k0.h _) fun _=>(k1.h _)) (.bnd (k0.h _) fun _=>(k1.h _)))))
theorem f_b (k:Nat):∀ v:A,f k v = d (g65.f k) (l0 k) v:=fun (v0,v1)=>(held_eq _).trans (by kernel_rfl)
theorem F_of (v:A) {r:R} (h:d g65.F D0 v = some r):F v = some r:=join_of (fun L=>f_b (L 0) v) (d_cn (lp g65.f 0) (.mk fun v=>(D0_cn v).re [0]) v) h
noncomputable def spec (k:Nat):List AV→List Slot→Option Ans:=specS sh os (f k)
theorem spec_ok (k:Nat):SpecOk Try.prog 55 (spec k):=specS_ok cs_ok Try.func55 rfl rfl (fun _ _=>held_eq _) k
end g66
noncomputable def tg66:=tg65.cons 55 g66.spec g66.spec_ok
namespace g67 -- num_SqrtMul
abbrev R:Type:=Int
abbrev A:Type:=Int × Int
abbrev Y:=A→Option R
def lv:List (Nat × List Nat):=[(2000000,[4]),(6,[5,6,7,8]),(1000007,[5,6,7,8])]
noncomputable def cs:Nat→Ctx:=ctxOf tis modes tg66.1 lv
theorem cs_ok (n:Nat):CtxOk Try.prog (cs n):=ctxOf_ok rfl tis_ok tg66.2 n
def sh:AS:=⟨[.c (.int .i64),.c (.int .i64)],[]⟩
def os:OS:=⟨.c (.int .i64),[]⟩
def enc (r:R):Out:=os.enc r
def dec:Out→Option R:=os.dec
noncomputable def b0:Code:=subF [] Try.f69
noncomputable def K0 (k:Nat):Kt R:=kTop (cs k) Try.f69 dec
noncomputable def b6:Code:=sub [1,1,1,1,0,1,0,0] b0
noncomputable def K6 ( k:Nat):Kt R:=kAt (cs k) (loopN cs k) [1,1,1,1,0,1,0] b0 (K0 k)
noncomputable def c1000007:Code:=sub [1,1] b6
noncomputable def J1000007 ( k m1:Nat):Kt R:=kAt (cs m1) (loopN cs m1) [1,1] b6 (kLoop cs m1 b6 (K6 k))
abbrev T0:Type:=Int × Int × Int × Int
abbrev Y0:=T0→Option R
def s0:T0→St:=fun (v0,v1,v2,v3)=>⟨57,0,[(5,.c (.int .u64 v0)),(6,.c (.int .u64 v1)),(7,.c (.int .u64 v2)),(8,.c (.int .u64 v3))],[],[(256000000,.gone)]⟩
noncomputable def l0 ( k n:Nat) (v:T0):Option R:=held (loopN cs n b6 (K6 k) (s0 v))
noncomputable def D0 (v:T0):Option R:=lim fun L=>l0 (L 0) (L 1) v
theorem D0_cn (v:T0):Cn late (D0 v) fun L=>l0 (L 0) (L 1) v:=of_lim
abbrev T1:Type:=Int × Int × Int × Int
abbrev Y1:=T1→Option R
def s1:T1→St:=fun (v0,v1,v2,v3)=>⟨57,0,[(5,.c (.int .u64 v0)),(6,.c (.int .u64 v1)),(7,.c (.int .u64 v2)),(8,.c (.int .u64 v3))],[],[(256000000,.gone)]⟩
noncomputable def l1 ( k m1:Nat) (v:T1):Option R:=held (run (cs m1) (loopN cs m1) c1000007 (J1000007 k m1) (s1 v))
noncomputable def D1 (v:T1):Option R:=lim fun L=>l1 (L 0) (L 1) v
theorem D1_cn (v:T1):Cn late (D1 v) fun L=>l1 (L 0) (L 1) v:=of_lim
def d0 (p0:g34.Y) (p1:Y1):Y0:=fun (v0,v1,v2,v3) =>
br (decide (0 < v3)) (bnd (p0 (bOr .u64 v2 v3,bOr .u64 v2 v3)) fun r=>br (decide (r.1 < v0) || decide (r.1 = v0) && decide (r.2 ≤ v1)) (p1 (v0,v1,bOr .u64 v2 v3,v3)) (p1 (v0,v1,v2,v3))) (some (wrap .i64 v2))
theorem d0_cn (k0:Pr E g34.A g34.R) (k1:Pr E T1 R):∀ v:T0,Cn E (d0 k0.p k1.p v) fun i=>d0 (k0.q i) (k1.q i) v:=fun (v0,v1,v2,v3)=>(.br (.bnd (k0.h _) fun _=>(.br (k1.h _) (k1.h _))) .some)
theorem l0_b ( k m1:Nat):∀ v:T0,run (cs m1) (loopN cs m1) b6 (kLoop cs m1 b6 (K6 k)) (s0 v) = d0 (g34.f m1) (l1 k m1) v:=fun (v0,v1,v2,v3)=>by kernel_rfl
theorem D0_of (v:T0) {r:R} (h:d0 g34.F D1 v = some r):D0 v = some r:=loop_of 1 (fun L n hn=>by show l0 (L 0) (L 1) v = _; rw [hn]; exact (held_eq _).trans ((loopN_succ _ _ _ _ _).trans (l0_b (L 0) n v))) (d0_cn (lp g34.f 1) (.mk fun v=>(D1_cn v).re [0,1]) v) h
def d1 (p0:Y0):Y1:=fun (v0,v1,v2,v3) =>
br (decide ((0:Int) ≤ 1)) (p0 (v0,v1,v2,shr .u64 v3 1)) none
theorem d1_cn (k0:Pr E T0 R):∀ v:T1,Cn E (d1 k0.p v) fun i=>d1 (k0.q i) v:=fun (v0,v1,v2,v3)=>(.br (k0.h _) .none)
theorem l1_b ( k m1:Nat):∀ v:T1,run (cs m1) (loopN cs m1) c1000007 (J1000007 k m1) (s1 v) = d1 (l0 k m1) v:=fun (v0,v1,v2,v3)=>by kernel_rfl
theorem D1_of (v:T1) {r:R} (h:d1 D0 v = some r):D1 v = some r:=join_of (fun L=>(held_eq _).trans (l1_b (L 0) (L 1) v)) (d1_cn (.mk fun v=>(D0_cn v).re [0,1]) v) h
noncomputable def f (k:Nat):Y:=fun v=>held (runFn cs k Try.f69 (sh.args v) (sh.slots v) dec)
noncomputable def F:Y:=lm f
def d (p0:g34.Y) (p1:Y0):Y:=fun (v0,v1) =>
br (decide (v0 < 0) || decide (v1 < 0)) (some 0) (bnd (p0 (wrap .u64 v0,wrap .u64 v1)) fun r=>p1 (r.1,r.2,0,4611686018427387904))
theorem d_cn (k0:Pr E g34.A g34.R) (k1:Pr E T0 R):∀ v:A,Cn E (d k0.p k1.p v) fun i=>d (k0.q i) (k1.q i) v:=fun (v0,v1)=>(.br .some (.bnd (k0.h _) fun _=>(k1.h _)))
theorem f_b (k:Nat):∀ v:A,f k v = d (g34.f k) (l0 k k) v:=fun (v0,v1)=>(held_eq _).trans (by kernel_rfl)
theorem F_of (v:A) {r:R} (h:d g34.F D0 v = some r):F v = some r:=join_of (fun L=>f_b (L 0) v) (d_cn (lp g34.f 0) (.mk fun v=>(D0_cn v).re [0,0]) v) h
noncomputable def spec (k:Nat):List AV→List Slot→Option Ans:=specS sh os (f k)
theorem spec_ok (k:Nat):SpecOk Try.prog 69 (spec k):=specS_ok cs_ok Try.func69 rfl rfl (fun _ _=>held_eq _) k
end g67
noncomputable def tg67:=tg66.cons 69 g67.spec g67.spec_ok
namespace g68 -- num_Sqrt
abbrev R:Type:=Int
abbrev A:Type:=Int
abbrev Y:=A→Option R
def lv:List (Nat × List Nat):=[(2000000,[2])]
noncomputable def cs:Nat→Ctx:=ctxOf tis modes tg67.1 lv
theorem cs_ok (n:Nat):CtxOk Try.prog (cs n):=ctxOf_ok rfl tis_ok tg67.2 n
def sh:AS:=⟨[(.c (.int .i64))],[]⟩
def os:OS:=⟨.c (.int .i64),[]⟩
def enc (r:R):Out:=os.enc r
def dec:Out→Option R:=os.dec
noncomputable def b0:Code:=subF [] Try.f56
noncomputable def K0 (k:Nat):Kt R:=kTop (cs k) Try.f56 dec
noncomputable def f (k:Nat):Y:=fun v=>held (runFn cs k Try.f56 (sh.args v) (sh.slots v) dec)
noncomputable def F:Y:=lm f
def d (p0:g67.Y):Y:=fun v0 =>
bnd (p0 (v0,1)) fun r=>some r
theorem d_cn (k0:Pr E g67.A g67.R):∀ v:A,Cn E (d k0.p v) fun i=>d (k0.q i) v:=fun v0=>(.bnd (k0.h _) fun _=>.some)
theorem f_b (k:Nat):∀ v:A,f k v = d (g67.f k) v:=fun v0=>(held_eq _).trans (by kernel_rfl)
theorem F_of (v:A) {r:R} (h:d g67.F v = some r):F v = some r:=join_of (fun L=>f_b (L 0) v) (d_cn (lp g67.f 0) v) h
noncomputable def spec (k:Nat):List AV→List Slot→Option Ans:=specS sh os (f k)
theorem spec_ok (k:Nat):SpecOk Try.prog 56 (spec k):=specS_ok cs_ok Try.func56 rfl rfl (fun _ _=>held_eq _) k
end g68
noncomputable def tg68:=tg67.cons 56 g68.spec g68.spec_ok
namespace g69 -- horizon_Aim
abbrev R:Type:=Int × Int × Int
abbrev A:Type:=Int × Int × Int × Int × Int × Int
abbrev Y:=A→Option R
def lv:List (Nat × List Nat):=[(2000000,[6,7]),(1000017,[6,17,19])]
noncomputable def cs:Nat→Ctx:=ctxOf tis modes tg68.1 lv
theorem cs_ok (n:Nat):CtxOk Try.prog (cs n):=ctxOf_ok rfl tis_ok tg68.2 n
def sh:AS:=⟨[.agg [.int .i64,.int .i64],.c (.int .i64),.agg [.int .i64,.int .i64,.int .i64]],[]⟩
def os:OS:=⟨.tup [.agg [.int .i64,.int .i64],.c (.int .i64)],[]⟩
def enc (r:R):Out:=os.enc r
def dec:Out→Option R:=os.dec
noncomputable def b0:Code:=subF [] Try.f23
noncomputable def K0 (k:Nat):Kt R:=kTop (cs k) Try.f23 dec
noncomputable def c1000017:Code:=sub [1,1,1,1,1,1,1,1,1,1,1,1,1,1] b0
noncomputable def J1000017 ( k:Nat):Kt R:=kAt (cs k) (loopN cs k) [1,1,1,1,1,1,1,1,1,1,1,1,1,1] b0 (K0 k)
abbrev T0:Type:=Int × Int × Int × Int
abbrev Y0:=T0→Option R
def s0:T0→St:=fun (v0,v1,v2,v3)=>⟨118,0,[(6,.c (.ptr 64000000 0)),(17,.c (.int .i64 v0)),(19,.c (.int .i64 v1))],[],[(256000000,.gone),(64000000,.box [.int .i64 v2,.int .i64 v3])]⟩
noncomputable def l0 ( k:Nat) (v:T0):Option R:=held (run (cs k) (loopN cs k) c1000017 (J1000017 k) (s0 v))
noncomputable def D0 (v:T0):Option R:=lim fun L=>l0 (L 0) v
theorem D0_cn (v:T0):Cn late (D0 v) fun L=>l0 (L 0) v:=of_lim
def d0:Y0:=fun (v0,v1,v2,v3) =>
some (v0,v1,0)
theorem d0_cn:∀ v:T0,Cn E (d0 v) fun i=>d0 v:=fun (v0,v1,v2,v3)=>.some
theorem l0_b ( k:Nat):∀ v:T0,run (cs k) (loopN cs k) c1000017 (J1000017 k) (s0 v) = d0 v:=fun (v0,v1,v2,v3)=>by kernel_rfl
theorem D0_of (v:T0) {r:R} (h:d0 v = some r):D0 v = some r:=join_of (fun L=>(held_eq _).trans (l0_b (L 0) v)) (d0_cn v) h
noncomputable def f (k:Nat):Y:=fun v=>held (runFn cs k Try.f23 (sh.args v) (sh.slots v) dec)
noncomputable def F:Y:=lm f
noncomputable def d (p0:g55.Y) (p1:g46.Y) (p2:g32.Y) (p3:g56.Y) (p4:g63.Y) (p5:g64.Y) (p6:g59.Y) (p7:g66.Y) (p8:g68.Y) (p9:Y0):Y:=fun (v0,v1,v2,v3,v4,v5) =>
bnd (p0 (v0,v1)) fun r=>bnd (p1 (v3,v4,v5)) fun r_1=>bnd (p2 [r,r_1]) fun r=>br (!decide (r = 0)) (some (0,0,r)) (bnd (p3 (v3,v4,v5)) fun r=>bnd (p4 (wrap .i64 (bAnd .i64 v2 4294967295 + v1))) fun r_2=>bnd (p5 (wrap .i64 (bAnd .i64 v2 4294967295 + v1))) fun r_3=>bnd (p6 (wrap .i64 (wrap .i64 (r.1 * r_2) + wrap .i64 (r.2.1 * r_3)),1048576)) fun r_4=>bnd (p6 (wrap .i64 (wrap .i64 (r.2.1 * r_2) - wrap .i64 (r.1 * r_3)),1048576)) fun r_5=>bnd (p4 v0) fun r_6=>bnd (p5 v0) fun r_7=>bnd (p6 (wrap .i64 (wrap .i64 (wrap .i64 (r.2.2 * 1024) * r_7) + wrap .i64 (r_4 * r_6)),1073741824)) fun r_8=>bnd (p6 (wrap .i64 (wrap .i64 (wrap .i64 (r.2.2 * 1024) * r_6) - wrap .i64 (r_4 * r_7)),1073741824)) fun r=>bnd (p7 (r_5,r)) fun r_9=>bnd (p8 (wrap .i64 (wrap .i64 (r * r) + wrap .i64 (r_5 * r_5)))) fun r=>bnd (p7 (r_8,r)) fun r=>br (decide (2147483648 < r.1)) (p9 (r_9.1,wrap .i64 (r.1 - 4294967296),0,0)) (p9 (r_9.1,r.1,0,0)))
theorem d_cn (k0:Pr E g55.A g55.R) (k1:Pr E g46.A g46.R) (k2:Pr E g32.A g32.R) (k3:Pr E g56.A g56.R) (k4:Pr E g63.A g63.R) (k5:Pr E g64.A g64.R) (k6:Pr E g59.A g59.R) (k7:Pr E g66.A g66.R) (k8:Pr E g68.A g68.R) (k9:Pr E T0 R):∀ v:A,Cn E (d k0.p k1.p k2.p k3.p k4.p k5.p k6.p k7.p k8.p k9.p v) fun i=>d (k0.q i) (k1.q i) (k2.q i) (k3.q i) (k4.q i) (k5.q i) (k6.q i) (k7.q i) (k8.q i) (k9.q i) v:=fun (v0,v1,v2,v3,v4,v5)=>(.bnd (k0.h _) fun _=>(.bnd (k1.h _) fun _=>(.bnd (k2.h _) fun _=>(.br .some (.bnd (k3.h _) fun _=>(.bnd (k4.h _) fun _=>(.bnd (k5.h _) fun _=>(.bnd (k6.h _) fun _=>(.bnd (k6.h _) fun _=>(.bnd (k4.h _) fun _=>(.bnd (k5.h _) fun _=>(.bnd (k6.h _) fun _=>(.bnd (k6.h _) fun _=>(.bnd (k7.h _) fun _=>(.bnd (k8.h _) fun _=>(.bnd (k7.h _) fun _=>(.br (k9.h _) (k9.h _))))))))))))))))))
theorem f_b (k:Nat):∀ v:A,f k v = d (g55.f k) (g46.f k) (g32.f k) (g56.f k) (g63.f k) (g64.f k) (g59.f k) (g66.f k) (g68.f k) (l0 k) v:=fun (v0,v1,v2,v3,v4,v5)=>(held_eq _).trans (by kernel_rfl)
theorem F_of (v:A) {r:R} (h:d g55.F g46.F g32.F g56.F g63.F g64.F g59.F g66.F g68.F D0 v = some r):F v = some r:=join_of (fun L=>f_b (L 0) v) (d_cn (lp g55.f 0) (lp g46.f 0) (lp g32.f 0) (lp g56.f 0) (lp g63.f 0) (lp g64.f 0) (lp g59.f 0) (lp g66.f 0) (lp g68.f 0) (.mk fun v=>(D0_cn v).re [0]) v) h
noncomputable def spec (k:Nat):List AV→List Slot→Option Ans:=specS sh os (f k)
theorem spec_ok (k:Nat):SpecOk Try.prog 23 (spec k):=specS_ok cs_ok Try.func23 rfl rfl (fun _ _=>held_eq _) k
end g69
noncomputable def tg69:=tg68.cons 23 g69.spec g69.spec_ok
namespace g70 -- slew_Aim
abbrev R:Type:=Int × Int × Int
abbrev A:Type:=Int × Int × Int × Int × Int × Int × Int × Int × Int × Int × Int × Int × Int × Int × Int × Int × List Int × Int × Int × Int × Int
abbrev Y:=A→Option R
def lv:List (Nat × List Nat):=[(2000000,[6,7])]
noncomputable def cs:Nat→Ctx:=ctxOf tis modes tg69.1 lv
theorem cs_ok (n:Nat):CtxOk Try.prog (cs n):=ctxOf_ok rfl tis_ok tg69.2 n
def sh:AS:=⟨[.agg [.int .i64,.int .i64,.int .i64,.int .i64,.int .i64,.int .i64,.int .i64,.int .i64,.int .i64,.int .i64,.int .i64,.int .i64,.int .i64,.int .i64,.int .i64,.int .i64,.frz (.int .i64)],.agg [.int .i64,.int .i64,.int .i64],.c (.int .i64)],[]⟩
def os:OS:=⟨.tup [.agg [.int .i64,.int .i64],.c (.int .i64)],[]⟩
def enc (r:R):Out:=os.enc r
def dec:Out→Option R:=os.dec
noncomputable def b0:Code:=subF [] Try.f10
noncomputable def K0 (k:Nat):Kt R:=kTop (cs k) Try.f10 dec
noncomputable def f (k:Nat):Y:=fun v=>held (runFn cs k Try.f10 (sh.args v) (sh.slots v) dec)
noncomputable def F:Y:=lm f
def d (p0:g47.Y) (p1:g54.Y) (p2:g69.Y):Y:=fun (v0,v1,v2,v3,v4,v5,v6,v7,v8,v9,v10,v11,v12,v13,v14,v15,v16,v17,v18,v19,v20) =>
bnd (p0 (v0,v1,v2,v3,v4,v5,v6,v7,v8,v9,v10,v11,v12,v13,v14,v15,v16)) fun r=>br (!decide (r = 0)) (some (0,0,r)) (br (decide (v20 < 0) || decide (v8 < v20)) (some (0,0,4)) (bnd (p1 (v2,v3,v4,v5,wrap .i64 (v6 + wrap .i64 (v20 * v7)))) fun r=>bnd (p2 (v0,v1,r,v17,v18,v19)) fun r=>some (r.1,r.2.1,r.2.2)))
theorem d_cn (k0:Pr E g47.A g47.R) (k1:Pr E g54.A g54.R) (k2:Pr E g69.A g69.R):∀ v:A,Cn E (d k0.p k1.p k2.p v) fun i=>d (k0.q i) (k1.q i) (k2.q i) v:=fun (v0,v1,v2,v3,v4,v5,v6,v7,v8,v9,v10,v11,v12,v13,v14,v15,v16,v17,v18,v19,v20)=>(.bnd (k0.h _) fun _=>(.br .some (.br .some (.bnd (k1.h _) fun _=>(.bnd (k2.h _) fun _=>.some)))))
theorem f_b (k:Nat):∀ v:A,f k v = d (g47.f k) (g54.f k) (g69.f k) v:=fun (v0,v1,v2,v3,v4,v5,v6,v7,v8,v9,v10,v11,v12,v13,v14,v15,v16,v17,v18,v19,v20)=>(held_eq _).trans (by kernel_rfl)
theorem F_of (v:A) {r:R} (h:d g47.F g54.F g69.F v = some r):F v = some r:=join_of (fun L=>f_b (L 0) v) (d_cn (lp g47.f 0) (lp g54.f 0) (lp g69.f 0) v) h
noncomputable def spec (k:Nat):List AV→List Slot→Option Ans:=specS sh os (f k)
theorem spec_ok (k:Nat):SpecOk Try.prog 10 (spec k):=specS_ok cs_ok Try.func10 rfl rfl (fun _ _=>held_eq _) k
end g70
noncomputable def tg70:=tg69.cons 10 g70.spec g70.spec_ok
namespace g71 -- slew_CheckMount
abbrev R:Type:=Int
abbrev A:Type:=Int × Int × Int × Int × Int × Int × Int × Int × Int × Int
abbrev Y:=A→Option R
def lv:List (Nat × List Nat):=[(2000000,[2])]
noncomputable def cs:Nat→Ctx:=ctxOf tis modes tg70.1 lv
theorem cs_ok (n:Nat):CtxOk Try.prog (cs n):=ctxOf_ok rfl tis_ok tg70.2 n
def sh:AS:=⟨[(.agg [.int .i64,.int .i64,.int .i64,.int .i64,.int .i64,.int .i64,.int .i64,.int .i64,.int .i64,.int .i64])],[]⟩
def os:OS:=⟨.c (.int .i64),[]⟩
def enc (r:R):Out:=os.enc r
def dec:Out→Option R:=os.dec
noncomputable def b0:Code:=subF [] Try.f24
noncomputable def K0 (k:Nat):Kt R:=kTop (cs k) Try.f24 dec
noncomputable def f (k:Nat):Y:=fun v=>held (runFn cs k Try.f24 (sh.args v) (sh.slots v) dec)
noncomputable def F:Y:=lm f
def d (p0:g0.Y) (p1:g1.Y):Y:=fun (v0,v1,v2,v3,v4,v5,v6,v7,v8,v9) =>
bnd (p0 (v0,v1,v2,v3)) fun r=>br (!decide (r = 0)) (some r) (bnd (p0 (v4,v5,v6,v7)) fun r=>br (!decide (r = 0)) (some r) (bnd (p1 (v0,v1,v2,v3,v8)) fun r=>br ((!r) == false) (bnd (p1 (v4,v5,v6,v7,v9)) fun r=>br (!r) (some 4) (some 0)) (some 4)))
theorem d_cn (k0:Pr E g0.A g0.R) (k1:Pr E g1.A g1.R):∀ v:A,Cn E (d k0.p k1.p v) fun i=>d (k0.q i) (k1.q i) v:=fun (v0,v1,v2,v3,v4,v5,v6,v7,v8,v9)=>(.bnd (k0.h _) fun _=>(.br .some (.bnd (k0.h _) fun _=>(.br .some (.bnd (k1.h _) fun _=>(.br (.bnd (k1.h _) fun _=>(.br .some .some)) .some))))))
theorem f_b (k:Nat):∀ v:A,f k v = d (g0.f k) (g1.f k) v:=fun (v0,v1,v2,v3,v4,v5,v6,v7,v8,v9)=>(held_eq _).trans (by kernel_rfl)
theorem F_of (v:A) {r:R} (h:d g0.F g1.F v = some r):F v = some r:=join_of (fun L=>f_b (L 0) v) (d_cn (lp g0.f 0) (lp g1.f 0) v) h
noncomputable def spec (k:Nat):List AV→List Slot→Option Ans:=specS sh os (f k)
theorem spec_ok (k:Nat):SpecOk Try.prog 24 (spec k):=specS_ok cs_ok Try.func24 rfl rfl (fun _ _=>held_eq _) k
end g71
noncomputable def tg71:=tg70.cons 24 g71.spec g71.spec_ok
namespace g72 -- slew_To
abbrev R:Type:=Int × Int × Int × Int
abbrev A:Type:=Int × Int × Int × Int × Int × Int × Int × Int × Int × Int × Int × Int × Int × Int
abbrev Y:=A→Option R
def lv:List (Nat × List Nat):=[(2000000,[6,7,8])]
noncomputable def cs:Nat→Ctx:=ctxOf tis modes tg71.1 lv
theorem cs_ok (n:Nat):CtxOk Try.prog (cs n):=ctxOf_ok rfl tis_ok tg71.2 n
def sh:AS:=⟨[.agg [.int .i64,.int .i64,.int .i64,.int .i64,.int .i64,.int .i64,.int .i64,.int .i64,.int .i64,.int .i64],.agg [.int .i64,.int .i64],.agg [.int .i64,.int .i64]],[]⟩
def os:OS:=⟨.tup [.agg [.int .i64,.int .i64],.c (.int .i64),.c (.int .i64)],[]⟩
def enc (r:R):Out:=os.enc r
def dec:Out→Option R:=os.dec
noncomputable def b0:Code:=subF [] Try.f11
noncomputable def K0 (k:Nat):Kt R:=kTop (cs k) Try.f11 dec
noncomputable def f (k:Nat):Y:=fun v=>held (runFn cs k Try.f11 (sh.args v) (sh.slots v) dec)
noncomputable def F:Y:=lm f
def d (p0:g71.Y) (p1:g7.Y) (p2:g5.Y):Y:=fun (v0,v1,v2,v3,v4,v5,v6,v7,v8,v9,v10,v11,v12,v13) =>
bnd (p0 (v0,v1,v2,v3,v4,v5,v6,v7,v8,v9)) fun r=>br (!decide (r = 0)) (some (0,0,0,r)) (bnd (p1 (v0,v1,v2,v3,v10,v12)) fun r=>br (!decide (r.2 = 0)) (some (0,0,0,r.2)) (bnd (p1 (v4,v5,v6,v7,v11,v13)) fun r_1=>br (!decide (r_1.2 = 0)) (some (0,0,0,r_1.2)) (bnd (p2 (v0,v1,v2,v3,v10,r.1)) fun r_2=>bnd (p2 (v4,v5,v6,v7,v11,r_1.1)) fun r_3=>some (r.1,r_1.1,max r_2.1 r_3.1,0))))
theorem d_cn (k0:Pr E g71.A g71.R) (k1:Pr E g7.A g7.R) (k2:Pr E g5.A g5.R):∀ v:A,Cn E (d k0.p k1.p k2.p v) fun i=>d (k0.q i) (k1.q i) (k2.q i) v:=fun (v0,v1,v2,v3,v4,v5,v6,v7,v8,v9,v10,v11,v12,v13)=>(.bnd (k0.h _) fun _=>(.br .some (.bnd (k1.h _) fun _=>(.br .some (.bnd (k1.h _) fun _=>(.br .some (.bnd (k2.h _) fun _=>(.bnd (k2.h _) fun _=>.some))))))))
theorem f_b (k:Nat):∀ v:A,f k v = d (g71.f k) (g7.f k) (g5.f k) v:=fun (v0,v1,v2,v3,v4,v5,v6,v7,v8,v9,v10,v11,v12,v13)=>(held_eq _).trans (by kernel_rfl)
theorem F_of (v:A) {r:R} (h:d g71.F g7.F g5.F v = some r):F v = some r:=join_of (fun L=>f_b (L 0) v) (d_cn (lp g71.f 0) (lp g7.f 0) (lp g5.f 0) v) h
noncomputable def spec (k:Nat):List AV→List Slot→Option Ans:=specS sh os (f k)
theorem spec_ok (k:Nat):SpecOk Try.prog 11 (spec k):=specS_ok cs_ok Try.func11 rfl rfl (fun _ _=>held_eq _) k
end g72
noncomputable def tg72:=tg71.cons 11 g72.spec g72.spec_ok
end Go.Proofs.RSl
