import Derived.Test.YtmfmjdneljbmoaaEB
import Derived.Test.YtmfmjdneljbmoaaProg
namespace Go.Proofs.RBus
open Go Go.Eng Go.Proofs
set_option maxRecDepth 100000
set_option linter.unusedVariables false
def tis : List (Nat × TI) := [(0, ⟨.true, .other, .false, 0, [], .false⟩), (1, ⟨.true, .func, .false, 8, [], .false⟩), (2, ⟨.true, (.int .i64), .false, 8, [], .false⟩), (3, ⟨.true, (.int .i64), .false, 8, [], .false⟩), (4, ⟨.true, .bool, .false, 1, [], .false⟩), (5, ⟨.true, (.int .u8), .false, 1, [], .false⟩), (6, ⟨.true, (.int .u8), .false, 1, [], .false⟩), (7, ⟨.true, (.pair (.int .i64) (.pair (.int .i64) (.pair .bool (.int .u8)))), .true, 24, [(0, 1), (1, 1), (2, 1), (3, 1)], .true⟩), (8, ⟨.true, (.pair (.int .i64) (.pair (.int .i64) (.pair .bool (.int .u8)))), .true, 24, [(0, 1), (1, 1), (2, 1), (3, 1)], .true⟩), (9, ⟨.true, .str, .false, 16, [], .false⟩), (10, ⟨.true, .str, .false, 16, [], .false⟩), (11, ⟨.true, .str, .false, 16, [], .false⟩), (12, ⟨.true, (.int .u64), .false, 8, [], .false⟩), (13, ⟨.true, (.pair .str (.int .u64)), .true, 24, [(0, 1), (1, 1)], .false⟩), (14, ⟨.true, (.pair .str (.int .u64)), .true, 24, [(0, 1), (1, 1)], .false⟩), (15, ⟨.true, .ptr, .false, 8, [], .false⟩), (16, ⟨.true, .ptr, .false, 8, [], .false⟩), (17, ⟨.true, .ptr, .false, 8, [], .false⟩), (18, ⟨.true, (.pair .ptr .unit), .true, 8, [(0, 1)], .false⟩), (19, ⟨.true, (.pair .ptr .unit), .true, 8, [(0, 1)], .false⟩), (20, ⟨.true, .other, .false, 16, [], .false⟩), (21, ⟨.true, (.int .i32), .false, 4, [], .false⟩), (22, ⟨.true, (.slice (.int .i64)), .false, 8, [], .false⟩), (23, ⟨.true, (.slice (.int .u8)), .false, 1, [], .false⟩), (24, ⟨.true, .func, .false, 8, [], .false⟩), (25, ⟨.true, .ptr, .false, 8, [], .false⟩), (26, ⟨.true, (.pair (.slice (.int .i64)) (.int .i64)), .true, 32, [(0, 1), (1, 1)], .false⟩), (27, ⟨.true, (.pair (.slice (.int .i64)) (.int .i64)), .true, 32, [(0, 1), (1, 1)], .false⟩), (28, ⟨.true, (.slice (.pair (.int .i64) (.pair (.int .i64) (.pair (.int .i64) (.slice (.int .u8)))))), .false, 48, [], .false⟩), (29, ⟨.true, .func, .false, 8, [], .false⟩), (30, ⟨.true, (.pair (.int .i64) (.pair (.int .i64) (.pair (.int .i64) (.slice (.int .u8))))), .true, 48, [(0, 1), (1, 1), (2, 1), (3, 1)], .false⟩), (31, ⟨.true, (.pair (.int .i64) (.pair (.int .i64) (.pair (.int .i64) (.slice (.int .u8))))), .true, 48, [(0, 1), (1, 1), (2, 1), (3, 1)], .false⟩), (32, ⟨.true, .func, .false, 8, [], .false⟩), (33, ⟨.true, (.int .i64), .false, 8, [], .false⟩), (34, ⟨.true, .other, .false, 0, [], .false⟩), (35, ⟨.true, .func, .false, 8, [], .false⟩), (36, ⟨.true, .other, .false, 0, [], .false⟩), (37, ⟨.true, .func, .false, 8, [], .false⟩), (38, ⟨.true, .func, .false, 8, [], .false⟩), (39, ⟨.true, .func, .false, 8, [], .false⟩), (40, ⟨.true, .func, .false, 8, [], .false⟩), (41, ⟨.true, .func, .false, 8, [], .false⟩), (42, ⟨.true, .func, .false, 8, [], .false⟩), (43, ⟨.true, .func, .false, 8, [], .false⟩), (44, ⟨.true, .func, .false, 8, [], .false⟩), (45, ⟨.true, .func, .false, 8, [], .false⟩), (46, ⟨.true, (.slice (.pair (.int .i64) (.pair (.int .i64) (.int .i64)))), .false, 24, [], .false⟩), (47, ⟨.true, .func, .false, 8, [], .false⟩), (48, ⟨.true, (.slice (.pair .bool (.pair (.int .i64) (.pair (.int .i64) (.slice (.int .i64)))))), .false, 48, [], .false⟩), (49, ⟨.true, .func, .false, 8, [], .false⟩), (50, ⟨.true, (.slice (.pair (.int .i64) (.int .i64))), .false, 16, [], .false⟩), (51, ⟨.true, (.pair (.slice (.pair (.int .i64) (.int .i64))) (.pair (.slice (.int .i64)) (.pair (.slice (.int .i64)) (.pair (.int .i64) (.int .i64))))), .true, 88, [(0, 1), (1, 1), (2, 1), (3, 1), (4, 1)], .false⟩), (52, ⟨.true, (.pair (.slice (.pair (.int .i64) (.int .i64))) (.pair (.slice (.int .i64)) (.pair (.slice (.int .i64)) (.pair (.int .i64) (.int .i64))))), .true, 88, [(0, 1), (1, 1), (2, 1), (3, 1), (4, 1)], .false⟩), (53, ⟨.true, .other, .false, 0, [], .false⟩), (54, ⟨.true, .func, .false, 8, [], .false⟩), (55, ⟨.true, (.slice .bool), .false, 1, [], .false⟩), (56, ⟨.true, (.pair (.int .i64) (.int .i64)), .true, 16, [(0, 1), (1, 1)], .true⟩), (57, ⟨.true, (.pair (.int .i64) (.int .i64)), .true, 16, [(0, 1), (1, 1)], .true⟩), (58, ⟨.true, (.pair (.int .i64) (.pair (.int .i64) (.int .i64))), .true, 24, [(0, 1), (1, 1), (2, 1)], .true⟩), (59, ⟨.true, (.pair (.int .i64) (.pair (.int .i64) (.int .i64))), .true, 24, [(0, 1), (1, 1), (2, 1)], .true⟩), (60, ⟨.true, .func, .false, 8, [], .false⟩), (61, ⟨.true, .func, .false, 8, [], .false⟩), (62, ⟨.true, .func, .false, 8, [], .false⟩), (63, ⟨.true, .func, .false, 8, [], .false⟩), (64, ⟨.true, .func, .false, 8, [], .false⟩), (65, ⟨.true, (.pair (.slice (.int .u8)) (.pair .bool (.pair .bool (.pair .bool (.int .i64))))), .true, 40, [(0, 1), (1, 1), (2, 1), (3, 1), (4, 1)], .false⟩), (66, ⟨.true, (.pair (.slice (.int .u8)) (.pair .bool (.pair .bool (.pair .bool (.int .i64))))), .true, 40, [(0, 1), (1, 1), (2, 1), (3, 1), (4, 1)], .false⟩), (67, ⟨.true, .other, .false, 0, [], .false⟩), (68, ⟨.true, .func, .false, 8, [], .false⟩), (69, ⟨.true, (.slice (.slice (.int .u8))), .false, 24, [], .false⟩), (70, ⟨.true, .func, .false, 8, [], .false⟩), (71, ⟨.true, .func, .false, 8, [], .false⟩), (72, ⟨.true, (.int .u64), .false, 8, [], .false⟩), (73, ⟨.true, (.int .u16), .false, 2, [], .false⟩), (74, ⟨.true, .func, .false, 8, [], .false⟩), (75, ⟨.true, .func, .false, 8, [], .false⟩), (76, ⟨.true, (.pair .bool (.pair (.int .i64) (.pair (.int .i64) (.slice (.int .i64))))), .true, 48, [(0, 1), (1, 1), (2, 1), (3, 1)], .false⟩), (77, ⟨.true, (.pair .bool (.pair (.int .i64) (.pair (.int .i64) (.slice (.int .i64))))), .true, 48, [(0, 1), (1, 1), (2, 1), (3, 1)], .false⟩), (78, ⟨.true, .func, .false, 8, [], .false⟩), (79, ⟨.true, (.pair (.int .i64) (.pair .bool (.slice (.pair (.int .i64) (.int .i64))))), .true, 40, [(0, 1), (1, 1), (2, 1)], .false⟩), (80, ⟨.true, (.pair (.int .i64) (.pair .bool (.slice (.pair (.int .i64) (.int .i64))))), .true, 40, [(0, 1), (1, 1), (2, 1)], .false⟩), (81, ⟨.true, .ptr, .false, 8, [], .false⟩), (82, ⟨.true, (.pair (.slice (.pair (.int .i64) (.pair (.int .i64) (.int .i64)))) (.pair (.int .i64) (.pair (.int .i64) .ptr))), .true, 48, [(0, 1), (1, 1), (2, 1), (3, 1)], .false⟩), (83, ⟨.true, (.pair (.slice (.pair (.int .i64) (.pair (.int .i64) (.int .i64)))) (.pair (.int .i64) (.pair (.int .i64) .ptr))), .true, 48, [(0, 1), (1, 1), (2, 1), (3, 1)], .false⟩), (84, ⟨.true, .ptr, .false, 8, [], .false⟩), (85, ⟨.true, (.slice (.pair (.int .i64) (.slice (.int .u8)))), .false, 32, [], .false⟩), (86, ⟨.true, (.pair (.slice (.pair .bool (.pair (.int .i64) (.pair (.int .i64) (.slice (.int .i64)))))) (.pair (.slice (.pair (.int .i64) (.slice (.int .u8)))) (.int .i64))), .true, 56, [(0, 1), (1, 1), (2, 1)], .false⟩), (87, ⟨.true, (.pair (.slice (.pair .bool (.pair (.int .i64) (.pair (.int .i64) (.slice (.int .i64)))))) (.pair (.slice (.pair (.int .i64) (.slice (.int .u8)))) (.int .i64))), .true, 56, [(0, 1), (1, 1), (2, 1)], .false⟩), (88, ⟨.true, .func, .false, 8, [], .false⟩), (89, ⟨.true, .func, .false, 8, [], .false⟩), (90, ⟨.true, .func, .false, 8, [], .false⟩), (91, ⟨.true, .func, .false, 8, [], .false⟩), (92, ⟨.true, .ptr, .false, 8, [], .false⟩), (93, ⟨.true, .func, .false, 8, [], .false⟩), (94, ⟨.true, .func, .false, 8, [], .false⟩), (95, ⟨.true, (.slice (.slice (.pair .bool (.pair (.int .i64) (.pair (.int .i64) (.slice (.int .i64))))))), .false, 24, [], .false⟩), (96, ⟨.true, .func, .false, 8, [], .false⟩), (97, ⟨.true, (.pair (.int .i64) (.slice (.int .u8))), .true, 32, [(0, 1), (1, 1)], .false⟩), (98, ⟨.true, (.pair (.int .i64) (.slice (.int .u8))), .true, 32, [(0, 1), (1, 1)], .false⟩), (99, ⟨.true, .ptr, .false, 8, [], .false⟩), (100, ⟨.true, .func, .false, 8, [], .false⟩), (101, ⟨.true, .ptr, .false, 8, [], .false⟩), (102, ⟨.true, .func, .false, 8, [], .false⟩), (103, ⟨.true, .other, .false, 0, [], .false⟩), (104, ⟨.true, .func, .false, 8, [], .false⟩), (105, ⟨.true, (.int .u64), .false, 8, [], .false⟩), (106, ⟨.true, .func, .false, 8, [], .false⟩), (107, ⟨.true, (.pair .ptr (.pair .ptr (.pair .ptr .str))), .true, 40, [(0, 1), (1, 1), (2, 1), (3, 1)], .false⟩), (108, ⟨.true, (.pair .ptr (.pair .ptr (.pair .ptr .str))), .true, 40, [(0, 1), (1, 1), (2, 1), (3, 1)], .false⟩), (112, ⟨.true, .func, .false, 8, [], .false⟩), (113, ⟨.true, (.int .u32), .false, 4, [], .false⟩), (114, ⟨.true, (.int .u8), .false, 1, [], .false⟩), (115, ⟨.true, (.int .u8), .false, 1, [], .false⟩), (116, ⟨.true, .func, .false, 8, [], .false⟩), (117, ⟨.true, .ptr, .false, 8, [], .false⟩), (118, ⟨.true, (.int .i32), .false, 4, [], .false⟩), (119, ⟨.true, (.int .i32), .false, 4, [], .false⟩), (120, ⟨.true, (.pair (.int .u64) (.pair (.int .u64) (.pair (.int .u32) (.pair (.int .u8) (.pair (.int .u8) (.pair (.int .u8) (.pair (.int .u8) (.pair .func (.pair .ptr (.pair (.int .i32) (.int .i32))))))))))), .true, 48, [(0, 1), (1, 1), (2, 1), (3, 1), (4, 1), (5, 1), (6, 1), (7, 1), (8, 1), (9, 1), (10, 1)], .false⟩), (121, ⟨.true, (.pair (.int .u64) (.pair (.int .u64) (.pair (.int .u32) (.pair (.int .u8) (.pair (.int .u8) (.pair (.int .u8) (.pair (.int .u8) (.pair .func (.pair .ptr (.pair (.int .i32) (.int .i32))))))))))), .true, 48, [(0, 1), (1, 1), (2, 1), (3, 1), (4, 1), (5, 1), (6, 1), (7, 1), (8, 1), (9, 1), (10, 1)], .false⟩), (122, ⟨.true, .other, .false, 8, [], .false⟩)]
theorem tis_ok : tisOk Try.prog tis = true := by kernel_rfl
def modes : List (Nat × List (Nat × Ty)) := [(3, [(1, (.slice (.int .u8)))]), (5, [(1, (.slice (.int .i64)))]), (13, [(0, (.pair (.int .i64) (.pair (.int .i64) (.pair (.int .i64) (.slice (.int .u8))))))]), (14, [(0, (.slice (.int .u8)))]), (15, [(0, (.slice (.pair (.int .i64) (.pair (.int .i64) (.pair (.int .i64) (.slice (.int .u8))))))), (1, (.slice (.pair (.int .i64) (.pair (.int .i64) (.pair (.int .i64) (.slice (.int .u8)))))))]), (16, [(0, (.pair (.int .i64) (.pair (.int .i64) (.pair (.int .i64) (.slice (.int .u8)))))), (1, (.pair (.int .i64) (.pair (.int .i64) (.pair (.int .i64) (.slice (.int .u8))))))]), (17, [(0, (.slice (.slice (.int .u8))))]), (19, [(0, (.pair (.int .i64) (.pair (.int .i64) (.pair (.int .i64) (.slice (.int .u8))))))]), (20, [(0, (.slice (.int .i64)))]), (21, [(0, (.pair (.int .i64) (.pair (.int .i64) (.pair (.int .i64) (.slice (.int .u8)))))), (1, (.slice (.int .i64)))]), (25, [(0, (.slice (.pair (.int .i64) (.pair (.int .i64) (.int .i64))))), (1, (.slice (.pair .bool (.pair (.int .i64) (.pair (.int .i64) (.slice (.int .i64))))))), (2, (.slice (.pair .bool (.pair (.int .i64) (.pair (.int .i64) (.slice (.int .i64)))))))]), (26, [(0, (.slice (.pair (.int .i64) (.int .i64)))), (1, (.slice (.pair (.int .i64) (.int .i64))))]), (27, [(0, (.slice (.pair (.int .i64) (.pair (.int .i64) (.int .i64))))), (1, (.slice (.pair .bool (.pair (.int .i64) (.pair (.int .i64) (.slice (.int .i64))))))), (2, (.slice (.pair .bool (.pair (.int .i64) (.pair (.int .i64) (.slice (.int .i64)))))))]), (28, [(0, (.slice (.int .u8)))]), (31, [(0, (.pair (.int .i64) (.pair (.int .i64) (.pair (.int .i64) (.slice (.int .u8))))))]), (32, [(0, (.slice (.int .u8)))]), (33, [(0, (.slice (.int .i64)))]), (34, [(0, (.slice (.int .i64))), (1, (.slice (.int .i64)))]), (36, [(0, (.slice (.pair (.int .i64) (.pair (.int .i64) (.int .i64))))), (1, (.slice (.pair .bool (.pair (.int .i64) (.pair (.int .i64) (.slice (.int .i64))))))), (2, (.slice (.pair .bool (.pair (.int .i64) (.pair (.int .i64) (.slice (.int .i64)))))))]), (38, [(1, (.pair (.int .i64) (.pair (.int .i64) (.pair (.int .i64) (.slice (.int .u8))))))]), (39, [(1, (.pair (.int .i64) (.pair (.int .i64) (.pair (.int .i64) (.slice (.int .u8))))))]), (40, [(1, (.pair (.int .i64) (.pair (.int .i64) (.pair (.int .i64) (.slice (.int .u8))))))]), (44, [(0, (.pair .bool (.pair (.int .i64) (.pair (.int .i64) (.slice (.int .i64))))))]), (45, [(0, (.pair (.int .i64) (.pair (.int .i64) (.pair (.int .i64) (.slice (.int .u8))))))]), (47, [(0, (.slice (.int .u8)))])]
noncomputable def t0 : Nat → Nat → List AV → List Slot → Option Ans := fun _ => tnil
theorem t0_ok (n g : Nat) : SpecOk Try.prog g (t0 n g) := tnil_ok g
namespace bus_Check
abbrev R : Type := Int
abbrev A : Type := Int × Int × Int × List Int
def lv : List (Nat × List Nat) := [(2000000, [2])]
noncomputable def cs : Nat → Ctx := ctxOf tis modes t0 lv
theorem cs_ok (n : Nat) : CtxOk Try.prog (cs n) := ctxOf_ok rfl tis_ok t0_ok n
def enc (r : R) : Out := ((.c (.int .i64 r)), [])
def dec : Out → Option R
  | ((.c (.int .i64 v0)), []) => some v0
  | _ => none
theorem dec_ok : ∀ u y, dec u = some y → u = enc y := by
  intro u y h
  unfold dec at h
  split at h
  · cases h; rfl
  · cases h
noncomputable def b0 : Code := subF [] Try.f31
noncomputable def K0 (k : Nat) : Kt R := kTop (cs k) Try.f31 dec
noncomputable def f (k : Nat) : A → Option R := fun (v0, v1, v2, v3) => held (runFn cs k Try.f31 [(.agg [(.int .i64 v0), (.int .i64 v1), (.int .i64 v2), (.frz (.int .u8) v3)])] [] dec)
noncomputable def F (v : A) : Option R := lim fun L => f (L 0) v
theorem F_cn (x : Nat) (v : A) : Cn late (F v) fun L => f (L x) v := of_lim.re [x]
def d : A → Option R := fun (v0, v1, v2, v3) =>
br (decide (v0 < 0) || decide (15 < v0) || decide (v1 < 0) || decide (15 < v1) || decide (v2 < 0) || decide (65535 < v2)) (some 4) (br (decide (16 < (↑v3.length : Int))) (some 2) (some 0))
theorem d_cn {ι : Type} {E : Fil ι} : ∀ v : A, Cn E (d v) fun i => d v := fun (v0, v1, v2, v3) => (.br .some (.br .some .some))
theorem f_b (k : Nat) : ∀ v : A, f k v = d v := fun (v0, v1, v2, v3) => (held_eq _).trans (by kernel_rfl)
theorem F_of (v : A) {r : R} (h : d v = some r) : F v = some r :=
  join_of (l := fun L => f (L 0) v) (d := fun L => d v) (fun L => f_b (L 0) v) (d_cn v) h
noncomputable def spec (k : Nat) (args : List AV) (ss : List Slot) : Option Ans :=
  match args, ss with
  | [(.agg [(.int .i64 v0), (.int .i64 v1), (.int .i64 v2), (.frz (.int .u8) v3)])], [] => some ⟨R, f k (v0, v1, v2, v3), enc⟩
  | _, _ => none
theorem spec_ok (k : Nat) : SpecOk Try.prog 31 (spec k) := by
  intro args ss ans x h hx X σ w vals hp
  unfold spec at h
  split at h
  · cases h
    exact spec_of cs_ok Try.func31 rfl rfl dec_ok (held_eq _).symm hx hp
  · cases h
end bus_Check
noncomputable def t_bus_Check (k : Nat) := tcons 31 (bus_Check.spec k) (t0 k)
theorem t_bus_Check_ok (n g : Nat) : SpecOk Try.prog g (t_bus_Check n g) := tcons_ok (bus_Check.spec_ok n) (fun g => t0_ok n g) g
namespace bus_Sum
abbrev R : Type := Int
abbrev A : Type := List Int
def lv : List (Nat × List Nat) := [(2000000, [2]), (3, [3, 6, 7, 8]), (7, [3, 6, 7, 8, 17]), (1000011, [3, 6, 7, 8, 17])]
noncomputable def cs : Nat → Ctx := ctxOf tis modes t_bus_Check lv
theorem cs_ok (n : Nat) : CtxOk Try.prog (cs n) := ctxOf_ok rfl tis_ok t_bus_Check_ok n
def enc (r : R) : Out := ((.c (.int .u16 r)), [])
def dec : Out → Option R
  | ((.c (.int .u16 v0)), []) => some v0
  | _ => none
theorem dec_ok : ∀ u y, dec u = some y → u = enc y := by
  intro u y h
  unfold dec at h
  split at h
  · cases h; rfl
  · cases h
noncomputable def b0 : Code := subF [] Try.f32
noncomputable def K0 (k : Nat) : Kt R := kTop (cs k) Try.f32 dec
noncomputable def b3 : Code := sub [1, 1, 0, 1, 0, 0] b0
noncomputable def K3 ( k : Nat) : Kt R := kAt (cs k) (loopN cs k) [1, 1, 0, 1, 0] b0 (K0 k)
noncomputable def b7 : Code := sub [1, 1, 0, 0, 1, 1, 1, 0, 0] b3
noncomputable def K7 ( k m1 : Nat) : Kt R := kAt (cs m1) (loopN cs m1) [1, 1, 0, 0, 1, 1, 1, 0] b3 (kLoop cs m1 b3 (K3 k))
noncomputable def c1000011 : Code := sub [1, 1, 1] b7
noncomputable def J1000011 ( k m1 m2 : Nat) : Kt R := kAt (cs m2) (loopN cs m2) [1, 1, 1] b7 (kLoop cs m2 b7 (K7 k m1))
abbrev T0 : Type := Int × List Int × Int × Int
def s0 : T0 → St := fun (v0, v1, v2, v3) => ⟨30, 0, [(3, (.c (.int .u16 v0))), (6, (.c (.frz (.int .u8) v1))), (7, (.c (.int .i64 v2))), (8, (.c (.int .i64 v3)))], [], [(256000000, .gone)]⟩
noncomputable def l0 ( k n : Nat) (v : T0) : Option R := held (loopN cs n b3 (K3 k) (s0 v))
noncomputable def D0 (v : T0) : Option R := lim fun L => l0 (L 0) (L 1) v
theorem D0_cn (v : T0) : Cn late (D0 v) fun L => l0 (L 0) (L 1) v := of_lim
abbrev T1 : Type := Int × List Int × Int × Int × Int
def s1 : T1 → St := fun (v0, v1, v2, v3, v4) => ⟨30, 0, [(3, (.c (.int .u16 v0))), (6, (.c (.frz (.int .u8) v1))), (7, (.c (.int .i64 v2))), (8, (.c (.int .i64 v3))), (17, (.c (.int .i64 v4)))], [], [(256000000, .gone)]⟩
noncomputable def l1 ( k m1 n : Nat) (v : T1) : Option R := held (loopN cs n b7 (K7 k m1) (s1 v))
noncomputable def D1 (v : T1) : Option R := lim fun L => l1 (L 0) (L 1) (L 2) v
theorem D1_cn (v : T1) : Cn late (D1 v) fun L => l1 (L 0) (L 1) (L 2) v := of_lim
abbrev T2 : Type := Int × List Int × Int × Int × Int
def s2 : T2 → St := fun (v0, v1, v2, v3, v4) => ⟨30, 0, [(3, (.c (.int .u16 v0))), (6, (.c (.frz (.int .u8) v1))), (7, (.c (.int .i64 v2))), (8, (.c (.int .i64 v3))), (17, (.c (.int .i64 v4)))], [], [(256000000, .gone)]⟩
noncomputable def l2 ( k m1 m2 : Nat) (v : T2) : Option R := held (run (cs m2) (loopN cs m2) c1000011 (J1000011 k m1 m2) (s2 v))
noncomputable def D2 (v : T2) : Option R := lim fun L => l2 (L 0) (L 1) (L 2) v
theorem D2_cn (v : T2) : Cn late (D2 v) fun L => l2 (L 0) (L 1) (L 2) v := of_lim
def d0 (L1m1 : T1 → Option R) : T0 → Option R := fun (v0, v1, v2, v3) =>
br (decide (v3 < v2)) (br (decide (0 ≤ v3 ∧ v3 < (↑v1.length : Int))) (br (decide ((0 : Int) ≤ 8)) (L1m1 (bXor IntKind.u16 v0 (shl IntKind.u16 (wrap IntKind.u16 (rd (Ty.int IntKind.u8) v1 v3)) 8), v1, v2, v3, 0)) none) none)
  (some v0)
theorem d0_cn {ι : Type} {E : Fil ι} {L1m1 : T1 → Option R} {L1m1' : ι → T1 → Option R} (hL1m1 : ∀ v, Cn E (L1m1 v) fun i => L1m1' i v) : ∀ v : T0, Cn E (d0 L1m1 v) fun i => d0 (L1m1' i) v := fun (v0, v1, v2, v3) => (.br (.br (.br (hL1m1 _) .none) .none) .some)
theorem l0_b ( k m1 : Nat) : ∀ v : T0, run (cs m1) (loopN cs m1) b3 (kLoop cs m1 b3 (K3 k)) (s0 v) = d0 (l1 k m1 m1) v := fun (v0, v1, v2, v3) => by kernel_rfl
theorem D0_of (v : T0) {r : R} (h : d0 D1 v = some r) : D0 v = some r :=
  loop_of 1 (l := fun L => l0 (L 0) (L 1) v) (d := fun L => d0 (l1 (L 0) (L 1) (L 1)) v) (fun L n hn => by show l0 (L 0) (L 1) v = _; rw [hn]; exact (held_eq _).trans ((loopN_succ _ _ _ _ _).trans (l0_b (L 0) n v))) (d0_cn (fun v => (D1_cn v).re [0, 1, 1]) v) h
def d1 (L2m2 : T2 → Option R) (L0m1 : T0 → Option R) : T1 → Option R := fun (v0, v1, v2, v3, v4) =>
br (decide (v4 < 8))
  (br (!decide (bAnd IntKind.u16 v0 32768 = 0)) (br (decide ((0 : Int) ≤ 1)) (L2m2 (bXor IntKind.u16 (shl IntKind.u16 v0 1) 4129, v1, v2, v3, v4)) none) (br (decide ((0 : Int) ≤ 1)) (L2m2 (shl IntKind.u16 v0 1, v1, v2, v3, v4)) none))
  (L0m1 (v0, v1, v2, wrap IntKind.i64 (v3 + 1)))
theorem d1_cn {ι : Type} {E : Fil ι} {L2m2 : T2 → Option R} {L2m2' : ι → T2 → Option R} (hL2m2 : ∀ v, Cn E (L2m2 v) fun i => L2m2' i v) {L0m1 : T0 → Option R} {L0m1' : ι → T0 → Option R} (hL0m1 : ∀ v, Cn E (L0m1 v) fun i => L0m1' i v) : ∀ v : T1, Cn E (d1 L2m2 L0m1 v) fun i => d1 (L2m2' i) (L0m1' i) v := fun (v0, v1, v2, v3, v4) => (.br (.br (.br (hL2m2 _) .none) (.br (hL2m2 _) .none)) (hL0m1 _))
theorem l1_b ( k m1 m2 : Nat) : ∀ v : T1, run (cs m2) (loopN cs m2) b7 (kLoop cs m2 b7 (K7 k m1)) (s1 v) = d1 (l2 k m1 m2) (l0 k m1) v := fun (v0, v1, v2, v3, v4) => by kernel_rfl
theorem D1_of (v : T1) {r : R} (h : d1 D2 D0 v = some r) : D1 v = some r :=
  loop_of 2 (l := fun L => l1 (L 0) (L 1) (L 2) v) (d := fun L => d1 (l2 (L 0) (L 1) (L 2)) (l0 (L 0) (L 1)) v) (fun L n hn => by show l1 (L 0) (L 1) (L 2) v = _; rw [hn]; exact (held_eq _).trans ((loopN_succ _ _ _ _ _).trans (l1_b (L 0) (L 1) n v))) (d1_cn (fun v => (D2_cn v).re [0, 1, 2]) (fun v => (D0_cn v).re [0, 1]) v) h
def d2 (L1m2 : T1 → Option R) : T2 → Option R := fun (v0, v1, v2, v3, v4) =>
L1m2 (v0, v1, v2, v3, wrap IntKind.i64 (v4 + 1))
theorem d2_cn {ι : Type} {E : Fil ι} {L1m2 : T1 → Option R} {L1m2' : ι → T1 → Option R} (hL1m2 : ∀ v, Cn E (L1m2 v) fun i => L1m2' i v) : ∀ v : T2, Cn E (d2 L1m2 v) fun i => d2 (L1m2' i) v := fun (v0, v1, v2, v3, v4) => (hL1m2 _)
theorem l2_b ( k m1 m2 : Nat) : ∀ v : T2, run (cs m2) (loopN cs m2) c1000011 (J1000011 k m1 m2) (s2 v) = d2 (l1 k m1 m2) v := fun (v0, v1, v2, v3, v4) => by kernel_rfl
theorem D2_of (v : T2) {r : R} (h : d2 D1 v = some r) : D2 v = some r :=
  join_of (l := fun L => l2 (L 0) (L 1) (L 2) v) (d := fun L => d2 (l1 (L 0) (L 1) (L 2)) v) (fun L => (held_eq _).trans (l2_b (L 0) (L 1) (L 2) v)) (d2_cn (fun v => (D1_cn v).re [0, 1, 2]) v) h
noncomputable def f (k : Nat) : A → Option R := fun v0 => held (runFn cs k Try.f32 [(.c (.frz (.int .u8) v0))] [] dec)
noncomputable def F (v : A) : Option R := lim fun L => f (L 0) v
theorem F_cn (x : Nat) (v : A) : Cn late (F v) fun L => f (L x) v := of_lim.re [x]
def d (L0k : T0 → Option R) : A → Option R := fun v0 =>
L0k (65535, v0, (↑v0.length : Int), 0)
theorem d_cn {ι : Type} {E : Fil ι} {L0k : T0 → Option R} {L0k' : ι → T0 → Option R} (hL0k : ∀ v, Cn E (L0k v) fun i => L0k' i v) : ∀ v : A, Cn E (d L0k v) fun i => d (L0k' i) v := fun v0 => (hL0k _)
theorem f_b (k : Nat) : ∀ v : A, f k v = d (l0 k k) v := fun v0 => (held_eq _).trans (by kernel_rfl)
theorem F_of (v : A) {r : R} (h : d D0 v = some r) : F v = some r :=
  join_of (l := fun L => f (L 0) v) (d := fun L => d (l0 (L 0) (L 0)) v) (fun L => f_b (L 0) v) (d_cn (fun v => (D0_cn v).re [0, 0]) v) h
noncomputable def spec (k : Nat) (args : List AV) (ss : List Slot) : Option Ans :=
  match args, ss with
  | [(.c (.frz (.int .u8) v0))], [] => some ⟨R, f k v0, enc⟩
  | _, _ => none
theorem spec_ok (k : Nat) : SpecOk Try.prog 32 (spec k) := by
  intro args ss ans x h hx X σ w vals hp
  unfold spec at h
  split at h
  · cases h
    exact spec_of cs_ok Try.func32 rfl rfl dec_ok (held_eq _).symm hx hp
  · cases h
end bus_Sum
noncomputable def t_bus_Sum (k : Nat) := tcons 32 (bus_Sum.spec k) (t_bus_Check k)
theorem t_bus_Sum_ok (n g : Nat) : SpecOk Try.prog g (t_bus_Sum n g) := tcons_ok (bus_Sum.spec_ok n) (fun g => t_bus_Check_ok n g) g
namespace bus_Body
abbrev R : Type := Int × List Int
abbrev A : Type := Int × Int × Int × List Int
def lv : List (Nat × List Nat) := [(2000000, [2, 3])]
noncomputable def cs : Nat → Ctx := ctxOf tis modes t_bus_Sum lv
theorem cs_ok (n : Nat) : CtxOk Try.prog (cs n) := ctxOf_ok rfl tis_ok t_bus_Sum_ok n
def enc (r : R) : Out := ((.tup [(.c (.sl 128000000)), (.c (.int .i64 r.1))]), [(.row (.int .u8) r.2)])
def dec : Out → Option R
  | ((.tup [(.c (.sl 128000000)), (.c (.int .i64 v0))]), [(.row (.int .u8) v1)]) => some (v0, v1)
  | _ => none
theorem dec_ok : ∀ u y, dec u = some y → u = enc y := by
  intro u y h
  unfold dec at h
  split at h
  · cases h; rfl
  · cases h
noncomputable def b0 : Code := subF [] Try.f19
noncomputable def K0 (k : Nat) : Kt R := kTop (cs k) Try.f19 dec
noncomputable def f (k : Nat) : A → Option R := fun (v0, v1, v2, v3) => held (runFn cs k Try.f19 [(.agg [(.int .i64 v0), (.int .i64 v1), (.int .i64 v2), (.frz (.int .u8) v3)])] [] dec)
noncomputable def F (v : A) : Option R := lim fun L => f (L 0) v
theorem F_cn (x : Nat) (v : A) : Cn late (F v) fun L => f (L x) v := of_lim.re [x]
def d (bus_Check_k : bus_Check.A → Option bus_Check.R) (bus_Sum_k : bus_Sum.A → Option bus_Sum.R) : A → Option R := fun (v0, v1, v2, v3) =>
bnd (bus_Check_k (v0, v1, v2, v3)) fun r =>
  br (!decide (r = 0)) (some (r, []))
    (br (decide ((0 : Int) ≤ 4))
      (br (decide ((0 : Int) ≤ 8))
        (br (decide ([wrap IntKind.u8 (bOr IntKind.i64 (shl IntKind.i64 v0 4) v1), wrap IntKind.u8 (shr IntKind.i64 v2 8), wrap IntKind.u8 v2].length + v3.length ≤ 140737488355328 / (1 + (1 - 1))))
          (bnd (bus_Sum_k ([wrap IntKind.u8 (bOr IntKind.i64 (shl IntKind.i64 v0 4) v1), wrap IntKind.u8 (shr IntKind.i64 v2 8), wrap IntKind.u8 v2] ++ v3)) fun r =>
            br (decide ((0 : Int) ≤ 8))
              (br
                (decide
                  (([wrap IntKind.u8 (bOr IntKind.i64 (shl IntKind.i64 v0 4) v1), wrap IntKind.u8 (shr IntKind.i64 v2 8), wrap IntKind.u8 v2] ++ v3).length +
                      [wrap IntKind.u8 (shr IntKind.u16 r 8), wrap IntKind.u8 r].length ≤
                    140737488355328 / (1 + (1 - 1))))
                (some (0, [wrap IntKind.u8 (bOr IntKind.i64 (shl IntKind.i64 v0 4) v1), wrap IntKind.u8 (shr IntKind.i64 v2 8), wrap IntKind.u8 v2] ++ v3 ++ [wrap IntKind.u8 (shr IntKind.u16 r 8), wrap IntKind.u8 r]))
                none)
              none)
          none)
        none)
      none)
theorem d_cn {ι : Type} {E : Fil ι} {bus_Check_k : bus_Check.A → Option bus_Check.R} {bus_Check_k' : ι → bus_Check.A → Option bus_Check.R} (hbus_Check_k : ∀ v, Cn E (bus_Check_k v) fun i => bus_Check_k' i v) {bus_Sum_k : bus_Sum.A → Option bus_Sum.R} {bus_Sum_k' : ι → bus_Sum.A → Option bus_Sum.R} (hbus_Sum_k : ∀ v, Cn E (bus_Sum_k v) fun i => bus_Sum_k' i v) : ∀ v : A, Cn E (d bus_Check_k bus_Sum_k v) fun i => d (bus_Check_k' i) (bus_Sum_k' i) v := fun (v0, v1, v2, v3) => (.bnd (hbus_Check_k _) fun _ => (.br .some (.br (.br (.br (.bnd (hbus_Sum_k _) fun _ => (.br (.br .some .none) .none)) .none) .none) .none)))
theorem f_b (k : Nat) : ∀ v : A, f k v = d (bus_Check.f k) (bus_Sum.f k) v := fun (v0, v1, v2, v3) => (held_eq _).trans (by kernel_rfl)
theorem F_of (v : A) {r : R} (h : d bus_Check.F bus_Sum.F v = some r) : F v = some r :=
  join_of (l := fun L => f (L 0) v) (d := fun L => d (bus_Check.f (L 0)) (bus_Sum.f (L 0)) v) (fun L => f_b (L 0) v) (d_cn (bus_Check.F_cn 0) (bus_Sum.F_cn 0) v) h
noncomputable def spec (k : Nat) (args : List AV) (ss : List Slot) : Option Ans :=
  match args, ss with
  | [(.agg [(.int .i64 v0), (.int .i64 v1), (.int .i64 v2), (.frz (.int .u8) v3)])], [] => some ⟨R, f k (v0, v1, v2, v3), enc⟩
  | _, _ => none
theorem spec_ok (k : Nat) : SpecOk Try.prog 19 (spec k) := by
  intro args ss ans x h hx X σ w vals hp
  unfold spec at h
  split at h
  · cases h
    exact spec_of cs_ok Try.func19 rfl rfl dec_ok (held_eq _).symm hx hp
  · cases h
end bus_Body
noncomputable def t_bus_Body (k : Nat) := tcons 19 (bus_Body.spec k) (t_bus_Sum k)
theorem t_bus_Body_ok (n g : Nat) : SpecOk Try.prog g (t_bus_Body n g) := tcons_ok (bus_Body.spec_ok n) (fun g => t_bus_Sum_ok n g) g
namespace bus_Stuff
abbrev R : Type := List Int
abbrev A : Type := List Int
def lv : List (Nat × List Nat) := [(2000000, [2]), (3, [3, 7, 8, 9]), (1000008, [3, 7, 8, 9])]
noncomputable def cs : Nat → Ctx := ctxOf tis modes t_bus_Body lv
theorem cs_ok (n : Nat) : CtxOk Try.prog (cs n) := ctxOf_ok rfl tis_ok t_bus_Body_ok n
def enc (r : R) : Out := ((.c (.sl 128000000)), [(.row (.int .u8) r)])
def dec : Out → Option R
  | ((.c (.sl 128000000)), [(.row (.int .u8) v0)]) => some v0
  | _ => none
theorem dec_ok : ∀ u y, dec u = some y → u = enc y := by
  intro u y h
  unfold dec at h
  split at h
  · cases h; rfl
  · cases h
noncomputable def b0 : Code := subF [] Try.f28
noncomputable def K0 (k : Nat) : Kt R := kTop (cs k) Try.f28 dec
noncomputable def b3 : Code := sub [1, 1, 0, 1, 0, 0] b0
noncomputable def K3 ( k : Nat) : Kt R := kAt (cs k) (loopN cs k) [1, 1, 0, 1, 0] b0 (K0 k)
noncomputable def c1000008 : Code := sub [1, 1, 1] b3
noncomputable def J1000008 ( k m1 : Nat) : Kt R := kAt (cs m1) (loopN cs m1) [1, 1, 1] b3 (kLoop cs m1 b3 (K3 k))
abbrev T0 : Type := List Int × Int × Int × List Int
def s0 : T0 → St := fun (v0, v1, v2, v3) => ⟨32, 0, [(3, (.c (.sl 64000000))), (7, (.c (.frz (.int .u8) v0))), (8, (.c (.int .i64 v1))), (9, (.c (.int .i64 v2)))], [], [(256000000, .gone), (64000000, (.row (.int .u8) v3))]⟩
noncomputable def l0 ( k n : Nat) (v : T0) : Option R := held (loopN cs n b3 (K3 k) (s0 v))
noncomputable def D0 (v : T0) : Option R := lim fun L => l0 (L 0) (L 1) v
theorem D0_cn (v : T0) : Cn late (D0 v) fun L => l0 (L 0) (L 1) v := of_lim
abbrev T1 : Type := List Int × Int × Int × List Int
def s1 : T1 → St := fun (v0, v1, v2, v3) => ⟨32, 0, [(3, (.c (.sl 64000000))), (7, (.c (.frz (.int .u8) v0))), (8, (.c (.int .i64 v1))), (9, (.c (.int .i64 v2)))], [], [(256000000, .gone), (64000000, (.row (.int .u8) v3))]⟩
noncomputable def l1 ( k m1 : Nat) (v : T1) : Option R := held (run (cs m1) (loopN cs m1) c1000008 (J1000008 k m1) (s1 v))
noncomputable def D1 (v : T1) : Option R := lim fun L => l1 (L 0) (L 1) v
theorem D1_cn (v : T1) : Cn late (D1 v) fun L => l1 (L 0) (L 1) v := of_lim
def d0 (L1m1 : T1 → Option R) : T0 → Option R := fun (v0, v1, v2, v3) =>
br (decide (v2 < v1))
  (br (decide (0 ≤ v2 ∧ v2 < (↑v0.length : Int)))
    (br (decide (rd (Ty.int IntKind.u8) v0 v2 = 126) || decide (rd (Ty.int IntKind.u8) v0 v2 = 125))
      (br (decide (v3.length + [125, bXor IntKind.u8 (rd (Ty.int IntKind.u8) v0 v2) 32].length ≤ 140737488355328 / (1 + (1 - 1)))) (L1m1 (v0, v1, v2, v3 ++ [125, bXor IntKind.u8 (rd (Ty.int IntKind.u8) v0 v2) 32])) none)
      (br (decide (v3.length + [rd (Ty.int IntKind.u8) v0 v2].length ≤ 140737488355328 / (1 + (1 - 1)))) (L1m1 (v0, v1, v2, v3 ++ [rd (Ty.int IntKind.u8) v0 v2])) none))
    none)
  (br (decide (v3.length + [126].length ≤ 140737488355328 / (1 + (1 - 1)))) (some (v3 ++ [126])) none)
theorem d0_cn {ι : Type} {E : Fil ι} {L1m1 : T1 → Option R} {L1m1' : ι → T1 → Option R} (hL1m1 : ∀ v, Cn E (L1m1 v) fun i => L1m1' i v) : ∀ v : T0, Cn E (d0 L1m1 v) fun i => d0 (L1m1' i) v := fun (v0, v1, v2, v3) => (.br (.br (.br (.br (hL1m1 _) .none) (.br (hL1m1 _) .none)) .none) (.br .some .none))
theorem l0_b ( k m1 : Nat) : ∀ v : T0, run (cs m1) (loopN cs m1) b3 (kLoop cs m1 b3 (K3 k)) (s0 v) = d0 (l1 k m1) v := fun (v0, v1, v2, v3) => by kernel_rfl
theorem D0_of (v : T0) {r : R} (h : d0 D1 v = some r) : D0 v = some r :=
  loop_of 1 (l := fun L => l0 (L 0) (L 1) v) (d := fun L => d0 (l1 (L 0) (L 1)) v) (fun L n hn => by show l0 (L 0) (L 1) v = _; rw [hn]; exact (held_eq _).trans ((loopN_succ _ _ _ _ _).trans (l0_b (L 0) n v))) (d0_cn (fun v => (D1_cn v).re [0, 1]) v) h
def d1 (L0m1 : T0 → Option R) : T1 → Option R := fun (v0, v1, v2, v3) =>
L0m1 (v0, v1, wrap IntKind.i64 (v2 + 1), v3)
theorem d1_cn {ι : Type} {E : Fil ι} {L0m1 : T0 → Option R} {L0m1' : ι → T0 → Option R} (hL0m1 : ∀ v, Cn E (L0m1 v) fun i => L0m1' i v) : ∀ v : T1, Cn E (d1 L0m1 v) fun i => d1 (L0m1' i) v := fun (v0, v1, v2, v3) => (hL0m1 _)
theorem l1_b ( k m1 : Nat) : ∀ v : T1, run (cs m1) (loopN cs m1) c1000008 (J1000008 k m1) (s1 v) = d1 (l0 k m1) v := fun (v0, v1, v2, v3) => by kernel_rfl
theorem D1_of (v : T1) {r : R} (h : d1 D0 v = some r) : D1 v = some r :=
  join_of (l := fun L => l1 (L 0) (L 1) v) (d := fun L => d1 (l0 (L 0) (L 1)) v) (fun L => (held_eq _).trans (l1_b (L 0) (L 1) v)) (d1_cn (fun v => (D0_cn v).re [0, 1]) v) h
noncomputable def f (k : Nat) : A → Option R := fun v0 => held (runFn cs k Try.f28 [(.c (.frz (.int .u8) v0))] [] dec)
noncomputable def F (v : A) : Option R := lim fun L => f (L 0) v
theorem F_cn (x : Nat) (v : A) : Cn late (F v) fun L => f (L x) v := of_lim.re [x]
def d (L0k : T0 → Option R) : A → Option R := fun v0 =>
L0k (v0, (↑v0.length : Int), 0, [126])
theorem d_cn {ι : Type} {E : Fil ι} {L0k : T0 → Option R} {L0k' : ι → T0 → Option R} (hL0k : ∀ v, Cn E (L0k v) fun i => L0k' i v) : ∀ v : A, Cn E (d L0k v) fun i => d (L0k' i) v := fun v0 => (hL0k _)
theorem f_b (k : Nat) : ∀ v : A, f k v = d (l0 k k) v := fun v0 => (held_eq _).trans (by kernel_rfl)
theorem F_of (v : A) {r : R} (h : d D0 v = some r) : F v = some r :=
  join_of (l := fun L => f (L 0) v) (d := fun L => d (l0 (L 0) (L 0)) v) (fun L => f_b (L 0) v) (d_cn (fun v => (D0_cn v).re [0, 0]) v) h
noncomputable def spec (k : Nat) (args : List AV) (ss : List Slot) : Option Ans :=
  match args, ss with
  | [(.c (.frz (.int .u8) v0))], [] => some ⟨R, f k v0, enc⟩
  | _, _ => none
theorem spec_ok (k : Nat) : SpecOk Try.prog 28 (spec k) := by
  intro args ss ans x h hx X σ w vals hp
  unfold spec at h
  split at h
  · cases h
    exact spec_of cs_ok Try.func28 rfl rfl dec_ok (held_eq _).symm hx hp
  · cases h
end bus_Stuff
noncomputable def t_bus_Stuff (k : Nat) := tcons 28 (bus_Stuff.spec k) (t_bus_Body k)
theorem t_bus_Stuff_ok (n g : Nat) : SpecOk Try.prog g (t_bus_Stuff n g) := tcons_ok (bus_Stuff.spec_ok n) (fun g => t_bus_Body_ok n g) g
namespace bus_Encode
abbrev R : Type := Int × List Int
abbrev A : Type := Int × Int × Int × List Int
def lv : List (Nat × List Nat) := [(2000000, [2, 3])]
noncomputable def cs : Nat → Ctx := ctxOf tis modes t_bus_Stuff lv
theorem cs_ok (n : Nat) : CtxOk Try.prog (cs n) := ctxOf_ok rfl tis_ok t_bus_Stuff_ok n
def enc (r : R) : Out := ((.tup [(.c (.sl 128000000)), (.c (.int .i64 r.1))]), [(.row (.int .u8) r.2)])
def dec : Out → Option R
  | ((.tup [(.c (.sl 128000000)), (.c (.int .i64 v0))]), [(.row (.int .u8) v1)]) => some (v0, v1)
  | _ => none
theorem dec_ok : ∀ u y, dec u = some y → u = enc y := by
  intro u y h
  unfold dec at h
  split at h
  · cases h; rfl
  · cases h
noncomputable def b0 : Code := subF [] Try.f13
noncomputable def K0 (k : Nat) : Kt R := kTop (cs k) Try.f13 dec
noncomputable def f (k : Nat) : A → Option R := fun (v0, v1, v2, v3) => held (runFn cs k Try.f13 [(.agg [(.int .i64 v0), (.int .i64 v1), (.int .i64 v2), (.frz (.int .u8) v3)])] [] dec)
noncomputable def F (v : A) : Option R := lim fun L => f (L 0) v
theorem F_cn (x : Nat) (v : A) : Cn late (F v) fun L => f (L x) v := of_lim.re [x]
def d (bus_Body_k : bus_Body.A → Option bus_Body.R) (bus_Stuff_k : bus_Stuff.A → Option bus_Stuff.R) : A → Option R := fun (v0, v1, v2, v3) =>
bnd (bus_Body_k (v0, v1, v2, v3)) fun r => br (!decide (r.fst = 0)) (some (r.fst, [])) (bnd (bus_Stuff_k r.snd) fun r => some (0, r))
theorem d_cn {ι : Type} {E : Fil ι} {bus_Body_k : bus_Body.A → Option bus_Body.R} {bus_Body_k' : ι → bus_Body.A → Option bus_Body.R} (hbus_Body_k : ∀ v, Cn E (bus_Body_k v) fun i => bus_Body_k' i v) {bus_Stuff_k : bus_Stuff.A → Option bus_Stuff.R} {bus_Stuff_k' : ι → bus_Stuff.A → Option bus_Stuff.R} (hbus_Stuff_k : ∀ v, Cn E (bus_Stuff_k v) fun i => bus_Stuff_k' i v) : ∀ v : A, Cn E (d bus_Body_k bus_Stuff_k v) fun i => d (bus_Body_k' i) (bus_Stuff_k' i) v := fun (v0, v1, v2, v3) => (.bnd (hbus_Body_k _) fun _ => (.br .some (.bnd (hbus_Stuff_k _) fun _ => .some)))
theorem f_b (k : Nat) : ∀ v : A, f k v = d (bus_Body.f k) (bus_Stuff.f k) v := fun (v0, v1, v2, v3) => (held_eq _).trans (by kernel_rfl)
theorem F_of (v : A) {r : R} (h : d bus_Body.F bus_Stuff.F v = some r) : F v = some r :=
  join_of (l := fun L => f (L 0) v) (d := fun L => d (bus_Body.f (L 0)) (bus_Stuff.f (L 0)) v) (fun L => f_b (L 0) v) (d_cn (bus_Body.F_cn 0) (bus_Stuff.F_cn 0) v) h
noncomputable def spec (k : Nat) (args : List AV) (ss : List Slot) : Option Ans :=
  match args, ss with
  | [(.agg [(.int .i64 v0), (.int .i64 v1), (.int .i64 v2), (.frz (.int .u8) v3)])], [] => some ⟨R, f k (v0, v1, v2, v3), enc⟩
  | _, _ => none
theorem spec_ok (k : Nat) : SpecOk Try.prog 13 (spec k) := by
  intro args ss ans x h hx X σ w vals hp
  unfold spec at h
  split at h
  · cases h
    exact spec_of cs_ok Try.func13 rfl rfl dec_ok (held_eq _).symm hx hp
  · cases h
end bus_Encode
noncomputable def t_bus_Encode (k : Nat) := tcons 13 (bus_Encode.spec k) (t_bus_Stuff k)
theorem t_bus_Encode_ok (n g : Nat) : SpecOk Try.prog g (t_bus_Encode n g) := tcons_ok (bus_Encode.spec_ok n) (fun g => t_bus_Stuff_ok n g) g
namespace bus_Parse
abbrev R : Type := Int × Int × Int × Int × List Int
abbrev A : Type := List Int
def lv : List (Nat × List Nat) := [(2000000, [2, 3])]
noncomputable def cs : Nat → Ctx := ctxOf tis modes t_bus_Encode lv
theorem cs_ok (n : Nat) : CtxOk Try.prog (cs n) := ctxOf_ok rfl tis_ok t_bus_Encode_ok n
def enc (r : R) : Out := ((.tup [(.agg [(.int .i64 r.1), (.int .i64 r.2.1), (.int .i64 r.2.2.1), (.sl 128000000)]), (.c (.int .i64 r.2.2.2.1))]), [(.row (.int .u8) r.2.2.2.2)])
def dec : Out → Option R
  | ((.tup [(.agg [(.int .i64 v0), (.int .i64 v1), (.int .i64 v2), (.sl 128000000)]), (.c (.int .i64 v3))]), [(.row (.int .u8) v4)]) => some (v0, v1, v2, v3, v4)
  | _ => none
theorem dec_ok : ∀ u y, dec u = some y → u = enc y := by
  intro u y h
  unfold dec at h
  split at h
  · cases h; rfl
  · cases h
noncomputable def b0 : Code := subF [] Try.f47
noncomputable def K0 (k : Nat) : Kt R := kTop (cs k) Try.f47 dec
noncomputable def f (k : Nat) : A → Option R := fun v0 => held (runFn cs k Try.f47 [(.c (.frz (.int .u8) v0))] [] dec)
noncomputable def F (v : A) : Option R := lim fun L => f (L 0) v
theorem F_cn (x : Nat) (v : A) : Cn late (F v) fun L => f (L x) v := of_lim.re [x]
def d (bus_Sum_k : bus_Sum.A → Option bus_Sum.R) : A → Option R := fun v0 =>
br (decide ((↑v0.length : Int) < 5)) (some (0, 0, 0, 14, []))
  (br (decide (21 < (↑v0.length : Int))) (some (0, 0, 0, 2, []))
    (br (decide (0 ≤ wrap IntKind.i64 ((↑v0.length : Int) - 2) ∧ wrap IntKind.i64 ((↑v0.length : Int) - 2) ≤ (↑v0.length : Int)))
      (bnd (bus_Sum_k (List.drop (Int.toNat 0) (List.take (wrap IntKind.i64 ((↑v0.length : Int) - 2)).toNat v0))) fun r =>
        br (decide (0 ≤ wrap IntKind.i64 ((↑v0.length : Int) - 2) ∧ wrap IntKind.i64 ((↑v0.length : Int) - 2) < (↑v0.length : Int)))
          (br (decide ((0 : Int) ≤ 8))
            (br
              (!(!decide (rd (Ty.int IntKind.u8) v0 (wrap IntKind.i64 ((↑v0.length : Int) - 2)) = wrap IntKind.u8 (shr IntKind.u16 r 8))) == false ||
                decide (0 ≤ wrap IntKind.i64 (wrap IntKind.i64 ((↑v0.length : Int) - 2) + 1) ∧ wrap IntKind.i64 (wrap IntKind.i64 ((↑v0.length : Int) - 2) + 1) < (↑v0.length : Int)))
              (br
                (!decide (rd (Ty.int IntKind.u8) v0 (wrap IntKind.i64 ((↑v0.length : Int) - 2)) = wrap IntKind.u8 (shr IntKind.u16 r 8)) ||
                  !decide (rd (Ty.int IntKind.u8) v0 (wrap IntKind.i64 (wrap IntKind.i64 ((↑v0.length : Int) - 2) + 1)) = wrap IntKind.u8 r))
                (some (0, 0, 0, 13, []))
                (br (decide ((0 : Int) ≤ 0 ∧ 0 < (↑v0.length : Int)))
                  (br (decide ((0 : Int) ≤ 4))
                    (br (decide ((0 : Int) ≤ 0 ∧ 0 < (↑v0.length : Int)))
                      (br (decide ((0 : Int) ≤ 1 ∧ 1 < (↑v0.length : Int)))
                        (br (decide ((0 : Int) ≤ 8))
                          (br (decide ((0 : Int) ≤ 2 ∧ 2 < (↑v0.length : Int)))
                            (br (decide ((0 : Int) ≤ 3 ∧ 3 ≤ wrap IntKind.i64 ((↑v0.length : Int) - 2) ∧ wrap IntKind.i64 ((↑v0.length : Int) - 2) ≤ (↑v0.length : Int)))
                              (br (decide (0 + (List.drop (Int.toNat 3) (List.take (wrap IntKind.i64 ((↑v0.length : Int) - 2)).toNat v0)).length ≤ 140737488355328 / (1 + (1 - 1))))
                                (some
                                  (wrap IntKind.i64 (shr IntKind.u8 (rd (Ty.int IntKind.u8) v0 0) 4), wrap IntKind.i64 (bAnd IntKind.u8 (rd (Ty.int IntKind.u8) v0 0) 15),
                                    bOr IntKind.i64 (shl IntKind.i64 (wrap IntKind.i64 (rd (Ty.int IntKind.u8) v0 1)) 8) (wrap IntKind.i64 (rd (Ty.int IntKind.u8) v0 2)), 0,
                                    [] ++ List.drop (Int.toNat 3) (List.take (wrap IntKind.i64 ((↑v0.length : Int) - 2)).toNat v0)))
                                none)
                              none)
                            none)
                          none)
                        none)
                      none)
                    none)
                  none))
              none)
            none)
          none)
      none))
theorem d_cn {ι : Type} {E : Fil ι} {bus_Sum_k : bus_Sum.A → Option bus_Sum.R} {bus_Sum_k' : ι → bus_Sum.A → Option bus_Sum.R} (hbus_Sum_k : ∀ v, Cn E (bus_Sum_k v) fun i => bus_Sum_k' i v) : ∀ v : A, Cn E (d bus_Sum_k v) fun i => d (bus_Sum_k' i) v := fun v0 => (.br .some (.br .some (.br (.bnd (hbus_Sum_k _) fun _ => (.br (.br (.br (.br .some (.br (.br (.br (.br (.br (.br (.br (.br .some .none) .none) .none) .none) .none) .none) .none) .none)) .none) .none) .none)) .none)))
theorem f_b (k : Nat) : ∀ v : A, f k v = d (bus_Sum.f k) v := fun v0 => (held_eq _).trans (by kernel_rfl)
theorem F_of (v : A) {r : R} (h : d bus_Sum.F v = some r) : F v = some r :=
  join_of (l := fun L => f (L 0) v) (d := fun L => d (bus_Sum.f (L 0)) v) (fun L => f_b (L 0) v) (d_cn (bus_Sum.F_cn 0) v) h
noncomputable def spec (k : Nat) (args : List AV) (ss : List Slot) : Option Ans :=
  match args, ss with
  | [(.c (.frz (.int .u8) v0))], [] => some ⟨R, f k v0, enc⟩
  | _, _ => none
theorem spec_ok (k : Nat) : SpecOk Try.prog 47 (spec k) := by
  intro args ss ans x h hx X σ w vals hp
  unfold spec at h
  split at h
  · cases h
    exact spec_of cs_ok Try.func47 rfl rfl dec_ok (held_eq _).symm hx hp
  · cases h
end bus_Parse
noncomputable def t_bus_Parse (k : Nat) := tcons 47 (bus_Parse.spec k) (t_bus_Encode k)
theorem t_bus_Parse_ok (n g : Nat) : SpecOk Try.prog g (t_bus_Parse n g) := tcons_ok (bus_Parse.spec_ok n) (fun g => t_bus_Encode_ok n g) g
namespace bus_Reader_flag
abbrev R : Type := Int × Int × Int × Bool × Bool × Bool × Bool × Int × List Int × List Int × List Int
abbrev A : Type := Bool × Bool × Bool × Int × List Int
def lv : List (Nat × List Nat) := [(2000000, [2, 3])]
noncomputable def cs : Nat → Ctx := ctxOf tis modes t_bus_Parse lv
theorem cs_ok (n : Nat) : CtxOk Try.prog (cs n) := ctxOf_ok rfl tis_ok t_bus_Parse_ok n
def enc (r : R) : Out := ((.tup [(.agg [(.int .i64 r.1), (.int .i64 r.2.1), (.int .i64 r.2.2.1), (.sl 128000002)]), (.c (.bool r.2.2.2.1))]), [(.box [(.sl 128000003), (.bool r.2.2.2.2.1), (.bool r.2.2.2.2.2.1), (.bool r.2.2.2.2.2.2.1), (.int .i64 r.2.2.2.2.2.2.2.1)]), (.row (.int .u8) r.2.2.2.2.2.2.2.2.1), (.row (.int .u8) r.2.2.2.2.2.2.2.2.2.1), (.row (.int .u8) r.2.2.2.2.2.2.2.2.2.2)])
def dec : Out → Option R
  | ((.tup [(.agg [(.int .i64 v0), (.int .i64 v1), (.int .i64 v2), (.sl 128000002)]), (.c (.bool v3))]), [(.box [(.sl 128000003), (.bool v4), (.bool v5), (.bool v6), (.int .i64 v7)]), (.row (.int .u8) v8), (.row (.int .u8) v9), (.row (.int .u8) v10)]) => some (v0, v1, v2, v3, v4, v5, v6, v7, v8, v9, v10)
  | _ => none
theorem dec_ok : ∀ u y, dec u = some y → u = enc y := by
  intro u y h
  unfold dec at h
  split at h
  · cases h; rfl
  · cases h
noncomputable def b0 : Code := subF [] Try.f42
noncomputable def K0 (k : Nat) : Kt R := kTop (cs k) Try.f42 dec
noncomputable def f (k : Nat) : A → Option R := fun (v0, v1, v2, v3, v4) => held (runFn cs k Try.f42 [(.c (.ptr 128000000 0))] [(.box [(.sl 128000001), (.bool v0), (.bool v1), (.bool v2), (.int .i64 v3)]), (.row (.int .u8) v4)] dec)
noncomputable def F (v : A) : Option R := lim fun L => f (L 0) v
theorem F_cn (x : Nat) (v : A) : Cn late (F v) fun L => f (L x) v := of_lim.re [x]
def d (bus_Parse_k : bus_Parse.A → Option bus_Parse.R) : A → Option R := fun (v0, v1, v2, v3, v4) =>
br (decide ((↑v4.length : Int) = 0) && !(v1 || v0)) (some (0, 0, 0, false, false, false, true, v3, v4, [], []))
  (bnd (bus_Parse_k v4) fun r =>
    br (v1 || v0 || !decide (r.snd.snd.snd.fst = 0)) (some (0, 0, 0, false, false, false, true, wrap IntKind.i64 (v3 + 1), v4, [], []))
      (some (r.fst, r.snd.fst, r.snd.snd.fst, true, false, false, true, v3, v4, r.snd.snd.snd.snd, [])))
theorem d_cn {ι : Type} {E : Fil ι} {bus_Parse_k : bus_Parse.A → Option bus_Parse.R} {bus_Parse_k' : ι → bus_Parse.A → Option bus_Parse.R} (hbus_Parse_k : ∀ v, Cn E (bus_Parse_k v) fun i => bus_Parse_k' i v) : ∀ v : A, Cn E (d bus_Parse_k v) fun i => d (bus_Parse_k' i) v := fun (v0, v1, v2, v3, v4) => (.br .some (.bnd (hbus_Parse_k _) fun _ => (.br .some .some)))
theorem f_b (k : Nat) : ∀ v : A, f k v = d (bus_Parse.f k) v := fun (v0, v1, v2, v3, v4) => (held_eq _).trans (by kernel_rfl)
theorem F_of (v : A) {r : R} (h : d bus_Parse.F v = some r) : F v = some r :=
  join_of (l := fun L => f (L 0) v) (d := fun L => d (bus_Parse.f (L 0)) v) (fun L => f_b (L 0) v) (d_cn (bus_Parse.F_cn 0) v) h
noncomputable def spec (k : Nat) (args : List AV) (ss : List Slot) : Option Ans :=
  match args, ss with
  | [(.c (.ptr 128000000 0))], [(.box [(.sl 128000001), (.bool v0), (.bool v1), (.bool v2), (.int .i64 v3)]), (.row (.int .u8) v4)] => some ⟨R, f k (v0, v1, v2, v3, v4), enc⟩
  | _, _ => none
theorem spec_ok (k : Nat) : SpecOk Try.prog 42 (spec k) := by
  intro args ss ans x h hx X σ w vals hp
  unfold spec at h
  split at h
  · cases h
    exact spec_of cs_ok Try.func42 rfl rfl dec_ok (held_eq _).symm hx hp
  · cases h
end bus_Reader_flag
noncomputable def t_bus_Reader_flag (k : Nat) := tcons 42 (bus_Reader_flag.spec k) (t_bus_Parse k)
theorem t_bus_Reader_flag_ok (n g : Nat) : SpecOk Try.prog g (t_bus_Reader_flag n g) := tcons_ok (bus_Reader_flag.spec_ok n) (fun g => t_bus_Parse_ok n g) g
namespace bus_Reader_put
abbrev R : Type := Bool × Bool × Bool × Int × List Int
abbrev A : Type := Int × Bool × Bool × Bool × Int × List Int
def lv : List (Nat × List Nat) := [(2000001, [1]), (2000000, [0])]
noncomputable def cs : Nat → Ctx := ctxOf tis modes t_bus_Reader_flag lv
theorem cs_ok (n : Nat) : CtxOk Try.prog (cs n) := ctxOf_ok rfl tis_ok t_bus_Reader_flag_ok n
def enc (r : R) : Out := ((.tup []), [(.box [(.sl 128000002), (.bool r.1), (.bool r.2.1), (.bool r.2.2.1), (.int .i64 r.2.2.2.1)]), .gone, (.row (.int .u8) r.2.2.2.2)])
def dec : Out → Option R
  | ((.tup []), [(.box [(.sl 128000002), (.bool v0), (.bool v1), (.bool v2), (.int .i64 v3)]), .gone, (.row (.int .u8) v4)]) => some (v0, v1, v2, v3, v4)
  | _ => none
theorem dec_ok : ∀ u y, dec u = some y → u = enc y := by
  intro u y h
  unfold dec at h
  split at h
  · cases h; rfl
  · cases h
noncomputable def b0 : Code := subF [] Try.f43
noncomputable def K0 (k : Nat) : Kt R := kTop (cs k) Try.f43 dec
noncomputable def f (k : Nat) : A → Option R := fun (v0, v1, v2, v3, v4, v5) => held (runFn cs k Try.f43 [(.c (.ptr 128000000 0)), (.c (.int .u8 v0))] [(.box [(.sl 128000001), (.bool v1), (.bool v2), (.bool v3), (.int .i64 v4)]), (.row (.int .u8) v5)] dec)
noncomputable def F (v : A) : Option R := lim fun L => f (L 0) v
theorem F_cn (x : Nat) (v : A) : Cn late (F v) fun L => f (L x) v := of_lim.re [x]
def d : A → Option R := fun (v0, v1, v2, v3, v4, v5) =>
br (decide ((↑v5.length : Int) = 21)) (some (v1, true, v3, v4, v5)) (br (decide (v5.length + [v0].length ≤ 140737488355328 / (1 + (1 - 1)))) (some (v1, v2, v3, v4, v5 ++ [v0])) none)
theorem d_cn {ι : Type} {E : Fil ι} : ∀ v : A, Cn E (d v) fun i => d v := fun (v0, v1, v2, v3, v4, v5) => (.br .some (.br .some .none))
theorem f_b (k : Nat) : ∀ v : A, f k v = d v := fun (v0, v1, v2, v3, v4, v5) => (held_eq _).trans (by kernel_rfl)
theorem F_of (v : A) {r : R} (h : d v = some r) : F v = some r :=
  join_of (l := fun L => f (L 0) v) (d := fun L => d v) (fun L => f_b (L 0) v) (d_cn v) h
noncomputable def spec (k : Nat) (args : List AV) (ss : List Slot) : Option Ans :=
  match args, ss with
  | [(.c (.ptr 128000000 0)), (.c (.int .u8 v0))], [(.box [(.sl 128000001), (.bool v1), (.bool v2), (.bool v3), (.int .i64 v4)]), (.row (.int .u8) v5)] => some ⟨R, f k (v0, v1, v2, v3, v4, v5), enc⟩
  | _, _ => none
theorem spec_ok (k : Nat) : SpecOk Try.prog 43 (spec k) := by
  intro args ss ans x h hx X σ w vals hp
  unfold spec at h
  split at h
  · cases h
    exact spec_of cs_ok Try.func43 rfl rfl dec_ok (held_eq _).symm hx hp
  · cases h
end bus_Reader_put
noncomputable def t_bus_Reader_put (k : Nat) := tcons 43 (bus_Reader_put.spec k) (t_bus_Reader_flag k)
theorem t_bus_Reader_put_ok (n g : Nat) : SpecOk Try.prog g (t_bus_Reader_put n g) := tcons_ok (bus_Reader_put.spec_ok n) (fun g => t_bus_Reader_flag_ok n g) g
namespace bus_Reader_Feed
abbrev R : Type := Int × Int × Int × Bool × Bool × Bool × Bool × Int × List Int × List Int
abbrev A : Type := Int × Bool × Bool × Bool × Int × List Int
def lv : List (Nat × List Nat) := [(2000001, [1]), (2000000, [4, 5]), (1000013, [4])]
noncomputable def cs : Nat → Ctx := ctxOf tis modes t_bus_Reader_put lv
theorem cs_ok (n : Nat) : CtxOk Try.prog (cs n) := ctxOf_ok rfl tis_ok t_bus_Reader_put_ok n
def enc (r : R) : Out := ((.tup [(.agg [(.int .i64 r.1), (.int .i64 r.2.1), (.int .i64 r.2.2.1), (.sl 128000002)]), (.c (.bool r.2.2.2.1))]), [(.box [(.sl 128000003), (.bool r.2.2.2.2.1), (.bool r.2.2.2.2.2.1), (.bool r.2.2.2.2.2.2.1), (.int .i64 r.2.2.2.2.2.2.2.1)]), .gone, (.row (.int .u8) r.2.2.2.2.2.2.2.2.1), (.row (.int .u8) r.2.2.2.2.2.2.2.2.2)])
def dec : Out → Option R
  | ((.tup [(.agg [(.int .i64 v0), (.int .i64 v1), (.int .i64 v2), (.sl 128000002)]), (.c (.bool v3))]), [(.box [(.sl 128000003), (.bool v4), (.bool v5), (.bool v6), (.int .i64 v7)]), .gone, (.row (.int .u8) v8), (.row (.int .u8) v9)]) => some (v0, v1, v2, v3, v4, v5, v6, v7, v8, v9)
  | _ => none
theorem dec_ok : ∀ u y, dec u = some y → u = enc y := by
  intro u y h
  unfold dec at h
  split at h
  · cases h; rfl
  · cases h
noncomputable def b0 : Code := subF [] Try.f29
noncomputable def K0 (k : Nat) : Kt R := kTop (cs k) Try.f29 dec
noncomputable def c1000013 : Code := sub [1, 1, 1] b0
noncomputable def J1000013 ( k : Nat) : Kt R := kAt (cs k) (loopN cs k) [1, 1, 1] b0 (K0 k)
abbrev T0 : Type := Bool × Bool × Bool × Int × List Int × Int × Int × Int × List Int
def s0 : T0 → St := fun (v0, v1, v2, v3, v4, v5, v6, v7, v8) => ⟨57, 2, [(4, (.c (.ptr 64000000 0)))], [], [(128000000, (.box [(.sl 128000001), (.bool v0), (.bool v1), (.bool v2), (.int .i64 v3)])), (128000001, (.row (.int .u8) v4)), (256000000, .gone), (64000000, (.box [(.int .i64 v5), (.int .i64 v6), (.int .i64 v7), (.sl 64000001)])), (64000001, (.row (.int .u8) v8))]⟩
noncomputable def l0 ( k : Nat) (v : T0) : Option R := held (run (cs k) (loopN cs k) c1000013 (J1000013 k) (s0 v))
noncomputable def D0 (v : T0) : Option R := lim fun L => l0 (L 0) v
theorem D0_cn (v : T0) : Cn late (D0 v) fun L => l0 (L 0) v := of_lim
abbrev T1 : Type := Bool × Bool × Bool × Int × Int × Int × Int × List Int × List Int
def s1 : T1 → St := fun (v0, v1, v2, v3, v4, v5, v6, v7, v8) => ⟨57, 2, [(4, (.c (.ptr 64000000 0)))], [], [(128000000, (.box [(.sl 64000001), (.bool v0), (.bool v1), (.bool v2), (.int .i64 v3)])), (128000001, .gone), (256000000, .gone), (64000000, (.box [(.int .i64 v4), (.int .i64 v5), (.int .i64 v6), (.sl 64000002)])), (64000001, (.row (.int .u8) v7)), (64000002, (.row (.int .u8) v8))]⟩
noncomputable def l1 ( k : Nat) (v : T1) : Option R := held (run (cs k) (loopN cs k) c1000013 (J1000013 k) (s1 v))
noncomputable def D1 (v : T1) : Option R := lim fun L => l1 (L 0) v
theorem D1_cn (v : T1) : Cn late (D1 v) fun L => l1 (L 0) v := of_lim
def d0 : T0 → Option R := fun (v0, v1, v2, v3, v4, v5, v6, v7, v8) =>
some (0, 0, 0, false, v0, v1, v2, v3, [], v4)
theorem d0_cn {ι : Type} {E : Fil ι} : ∀ v : T0, Cn E (d0 v) fun i => d0 v := fun (v0, v1, v2, v3, v4, v5, v6, v7, v8) => .some
theorem l0_b ( k : Nat) : ∀ v : T0, run (cs k) (loopN cs k) c1000013 (J1000013 k) (s0 v) = d0 v := fun (v0, v1, v2, v3, v4, v5, v6, v7, v8) => by kernel_rfl
theorem D0_of (v : T0) {r : R} (h : d0 v = some r) : D0 v = some r :=
  join_of (l := fun L => l0 (L 0) v) (d := fun L => d0 v) (fun L => (held_eq _).trans (l0_b (L 0) v)) (d0_cn v) h
def d1 : T1 → Option R := fun (v0, v1, v2, v3, v4, v5, v6, v7, v8) =>
some (0, 0, 0, false, v0, v1, v2, v3, [], v7)
theorem d1_cn {ι : Type} {E : Fil ι} : ∀ v : T1, Cn E (d1 v) fun i => d1 v := fun (v0, v1, v2, v3, v4, v5, v6, v7, v8) => .some
theorem l1_b ( k : Nat) : ∀ v : T1, run (cs k) (loopN cs k) c1000013 (J1000013 k) (s1 v) = d1 v := fun (v0, v1, v2, v3, v4, v5, v6, v7, v8) => by kernel_rfl
theorem D1_of (v : T1) {r : R} (h : d1 v = some r) : D1 v = some r :=
  join_of (l := fun L => l1 (L 0) v) (d := fun L => d1 v) (fun L => (held_eq _).trans (l1_b (L 0) v)) (d1_cn v) h
noncomputable def f (k : Nat) : A → Option R := fun (v0, v1, v2, v3, v4, v5) => held (runFn cs k Try.f29 [(.c (.ptr 128000000 0)), (.c (.int .u8 v0))] [(.box [(.sl 128000001), (.bool v1), (.bool v2), (.bool v3), (.int .i64 v4)]), (.row (.int .u8) v5)] dec)
noncomputable def F (v : A) : Option R := lim fun L => f (L 0) v
theorem F_cn (x : Nat) (v : A) : Cn late (F v) fun L => f (L x) v := of_lim.re [x]
def d (bus_Reader_flag_k : bus_Reader_flag.A → Option bus_Reader_flag.R) (L0k : T0 → Option R) (bus_Reader_put_k : bus_Reader_put.A → Option bus_Reader_put.R) (L1k : T1 → Option R) : A → Option R := fun (v0, v1, v2, v3, v4, v5) =>
br (decide (v0 = 126))
  (bnd (bus_Reader_flag_k (v1, v2, v3, v4, v5)) fun r =>
    some
      (r.fst, r.snd.fst, r.snd.snd.fst, r.snd.snd.snd.fst, r.snd.snd.snd.snd.fst, r.snd.snd.snd.snd.snd.fst, r.snd.snd.snd.snd.snd.snd.fst, r.snd.snd.snd.snd.snd.snd.snd.fst, r.snd.snd.snd.snd.snd.snd.snd.snd.snd.fst,
        r.snd.snd.snd.snd.snd.snd.snd.snd.snd.snd))
  (br (v2 || !v3) (L0k (v1, v2, v3, v4, v5, 0, 0, 0, []))
    (br v1
      (br (decide (bXor IntKind.u8 v0 32 = 126) || decide (bXor IntKind.u8 v0 32 = 125))
        (bnd (bus_Reader_put_k (bXor IntKind.u8 v0 32, false, v2, v3, v4, v5)) fun r => L1k (r.fst, r.snd.fst, r.snd.snd.fst, r.snd.snd.snd.fst, 0, 0, 0, r.snd.snd.snd.snd, []))
        (L0k (false, true, v3, v4, v5, 0, 0, 0, [])))
      (br (decide (v0 = 125)) (L0k (true, v2, v3, v4, v5, 0, 0, 0, []))
        (bnd (bus_Reader_put_k (v0, v1, v2, v3, v4, v5)) fun r => L1k (r.fst, r.snd.fst, r.snd.snd.fst, r.snd.snd.snd.fst, 0, 0, 0, r.snd.snd.snd.snd, [])))))
theorem d_cn {ι : Type} {E : Fil ι} {bus_Reader_flag_k : bus_Reader_flag.A → Option bus_Reader_flag.R} {bus_Reader_flag_k' : ι → bus_Reader_flag.A → Option bus_Reader_flag.R} (hbus_Reader_flag_k : ∀ v, Cn E (bus_Reader_flag_k v) fun i => bus_Reader_flag_k' i v) {L0k : T0 → Option R} {L0k' : ι → T0 → Option R} (hL0k : ∀ v, Cn E (L0k v) fun i => L0k' i v) {bus_Reader_put_k : bus_Reader_put.A → Option bus_Reader_put.R} {bus_Reader_put_k' : ι → bus_Reader_put.A → Option bus_Reader_put.R} (hbus_Reader_put_k : ∀ v, Cn E (bus_Reader_put_k v) fun i => bus_Reader_put_k' i v) {L1k : T1 → Option R} {L1k' : ι → T1 → Option R} (hL1k : ∀ v, Cn E (L1k v) fun i => L1k' i v) : ∀ v : A, Cn E (d bus_Reader_flag_k L0k bus_Reader_put_k L1k v) fun i => d (bus_Reader_flag_k' i) (L0k' i) (bus_Reader_put_k' i) (L1k' i) v := fun (v0, v1, v2, v3, v4, v5) => (.br (.bnd (hbus_Reader_flag_k _) fun _ => .some) (.br (hL0k _) (.br (.br (.bnd (hbus_Reader_put_k _) fun _ => (hL1k _)) (hL0k _)) (.br (hL0k _) (.bnd (hbus_Reader_put_k _) fun _ => (hL1k _))))))
theorem f_b (k : Nat) : ∀ v : A, f k v = d (bus_Reader_flag.f k) (l0 k) (bus_Reader_put.f k) (l1 k) v := fun (v0, v1, v2, v3, v4, v5) => (held_eq _).trans (by kernel_rfl)
theorem F_of (v : A) {r : R} (h : d bus_Reader_flag.F D0 bus_Reader_put.F D1 v = some r) : F v = some r :=
  join_of (l := fun L => f (L 0) v) (d := fun L => d (bus_Reader_flag.f (L 0)) (l0 (L 0)) (bus_Reader_put.f (L 0)) (l1 (L 0)) v) (fun L => f_b (L 0) v) (d_cn (bus_Reader_flag.F_cn 0) (fun v => (D0_cn v).re [0]) (bus_Reader_put.F_cn 0) (fun v => (D1_cn v).re [0]) v) h
noncomputable def spec (k : Nat) (args : List AV) (ss : List Slot) : Option Ans :=
  match args, ss with
  | [(.c (.ptr 128000000 0)), (.c (.int .u8 v0))], [(.box [(.sl 128000001), (.bool v1), (.bool v2), (.bool v3), (.int .i64 v4)]), (.row (.int .u8) v5)] => some ⟨R, f k (v0, v1, v2, v3, v4, v5), enc⟩
  | _, _ => none
theorem spec_ok (k : Nat) : SpecOk Try.prog 29 (spec k) := by
  intro args ss ans x h hx X σ w vals hp
  unfold spec at h
  split at h
  · cases h
    exact spec_of cs_ok Try.func29 rfl rfl dec_ok (held_eq _).symm hx hp
  · cases h
end bus_Reader_Feed
noncomputable def t_bus_Reader_Feed (k : Nat) := tcons 29 (bus_Reader_Feed.spec k) (t_bus_Reader_put k)
theorem t_bus_Reader_Feed_ok (n g : Nat) : SpecOk Try.prog g (t_bus_Reader_Feed n g) := tcons_ok (bus_Reader_Feed.spec_ok n) (fun g => t_bus_Reader_put_ok n g) g
namespace bus_Decode
abbrev R : Type := Int × List (Int × Int × Int × List Int)
abbrev A : Type := List Int
def lv : List (Nat × List Nat) := [(2000000, [2, 3]), (4, [4, 5, 10, 11, 12]), (1000009, [4, 5, 10, 11, 12])]
noncomputable def cs : Nat → Ctx := ctxOf tis modes t_bus_Reader_Feed lv
theorem cs_ok (n : Nat) : CtxOk Try.prog (cs n) := ctxOf_ok rfl tis_ok t_bus_Reader_Feed_ok n
def enc (r : R) : Out := ((.tup [(.c (.sl 128000000)), (.c (.int .i64 r.1))]), [(.row (.pair (.int .i64) (.pair (.int .i64) (.pair (.int .i64) (.slice (.int .u8))))) r.2)])
def dec : Out → Option R
  | ((.tup [(.c (.sl 128000000)), (.c (.int .i64 v0))]), [(.row (.pair (.int .i64) (.pair (.int .i64) (.pair (.int .i64) (.slice (.int .u8))))) v1)]) => some (v0, v1)
  | _ => none
theorem dec_ok : ∀ u y, dec u = some y → u = enc y := by
  intro u y h
  unfold dec at h
  split at h
  · cases h; rfl
  · cases h
noncomputable def b0 : Code := subF [] Try.f14
noncomputable def K0 (k : Nat) : Kt R := kTop (cs k) Try.f14 dec
noncomputable def b4 : Code := sub [1, 1, 1, 0, 1, 0, 0] b0
noncomputable def K4 ( k : Nat) : Kt R := kAt (cs k) (loopN cs k) [1, 1, 1, 0, 1, 0] b0 (K0 k)
noncomputable def c1000009 : Code := sub [1, 1, 1] b4
noncomputable def J1000009 ( k m1 : Nat) : Kt R := kAt (cs m1) (loopN cs m1) [1, 1, 1] b4 (kLoop cs m1 b4 (K4 k))
abbrev T0 : Type := List Int × Int × Int × Bool × Bool × Bool × Int × List (Int × Int × Int × List Int) × List Int
def s0 : T0 → St := fun (v0, v1, v2, v3, v4, v5, v6, v7, v8) => ⟨30, 0, [(4, (.c (.ptr 64000000 0))), (5, (.c (.sl 64000001))), (10, (.c (.frz (.int .u8) v0))), (11, (.c (.int .i64 v1))), (12, (.c (.int .i64 v2)))], [], [(256000000, .gone), (64000000, (.box [(.sl 64000002), (.bool v3), (.bool v4), (.bool v5), (.int .i64 v6)])), (64000001, (.row (.pair (.int .i64) (.pair (.int .i64) (.pair (.int .i64) (.slice (.int .u8))))) v7)), (64000002, (.row (.int .u8) v8))]⟩
noncomputable def l0 ( k n : Nat) (v : T0) : Option R := held (loopN cs n b4 (K4 k) (s0 v))
noncomputable def D0 (v : T0) : Option R := lim fun L => l0 (L 0) (L 1) v
theorem D0_cn (v : T0) : Cn late (D0 v) fun L => l0 (L 0) (L 1) v := of_lim
abbrev T1 : Type := List Int × Int × Int × Bool × Bool × Bool × Int × List (Int × Int × Int × List Int) × List Int
def s1 : T1 → St := fun (v0, v1, v2, v3, v4, v5, v6, v7, v8) => ⟨30, 0, [(4, (.c (.ptr 64000000 0))), (5, (.c (.sl 64000001))), (10, (.c (.frz (.int .u8) v0))), (11, (.c (.int .i64 v1))), (12, (.c (.int .i64 v2)))], [], [(256000000, .gone), (64000000, (.box [(.sl 64000002), (.bool v3), (.bool v4), (.bool v5), (.int .i64 v6)])), (64000001, (.row (.pair (.int .i64) (.pair (.int .i64) (.pair (.int .i64) (.slice (.int .u8))))) v7)), (64000002, (.row (.int .u8) v8))]⟩
noncomputable def l1 ( k m1 : Nat) (v : T1) : Option R := held (run (cs m1) (loopN cs m1) c1000009 (J1000009 k m1) (s1 v))
noncomputable def D1 (v : T1) : Option R := lim fun L => l1 (L 0) (L 1) v
theorem D1_cn (v : T1) : Cn late (D1 v) fun L => l1 (L 0) (L 1) v := of_lim
def d0 (bus_Reader_Feed_m1 : bus_Reader_Feed.A → Option bus_Reader_Feed.R) (L1m1 : T1 → Option R) : T0 → Option R := fun (v0, v1, v2, v3, v4, v5, v6, v7, v8) =>
br (decide (v2 < v1))
  (br (decide (0 ≤ v2 ∧ v2 < (↑v0.length : Int)))
    (bnd (bus_Reader_Feed_m1 (rd (Ty.int IntKind.u8) v0 v2, v3, v4, v5, v6, v8)) fun r =>
      br r.snd.snd.snd.fst
        (br (decide (v7.length + [(r.fst, r.snd.fst, r.snd.snd.fst, r.snd.snd.snd.snd.snd.snd.snd.snd.fst)].length ≤ 140737488355328 / (48 + (1 - 48))))
          (L1m1
            (v0, v1, v2, r.snd.snd.snd.snd.fst, r.snd.snd.snd.snd.snd.fst, r.snd.snd.snd.snd.snd.snd.fst, r.snd.snd.snd.snd.snd.snd.snd.fst,
              v7 ++ [(r.fst, r.snd.fst, r.snd.snd.fst, r.snd.snd.snd.snd.snd.snd.snd.snd.fst)], r.snd.snd.snd.snd.snd.snd.snd.snd.snd))
          none)
        (L1m1 (v0, v1, v2, r.snd.snd.snd.snd.fst, r.snd.snd.snd.snd.snd.fst, r.snd.snd.snd.snd.snd.snd.fst, r.snd.snd.snd.snd.snd.snd.snd.fst, v7, r.snd.snd.snd.snd.snd.snd.snd.snd.snd)))
    none)
  (some (v6, v7))
theorem d0_cn {ι : Type} {E : Fil ι} {bus_Reader_Feed_m1 : bus_Reader_Feed.A → Option bus_Reader_Feed.R} {bus_Reader_Feed_m1' : ι → bus_Reader_Feed.A → Option bus_Reader_Feed.R} (hbus_Reader_Feed_m1 : ∀ v, Cn E (bus_Reader_Feed_m1 v) fun i => bus_Reader_Feed_m1' i v) {L1m1 : T1 → Option R} {L1m1' : ι → T1 → Option R} (hL1m1 : ∀ v, Cn E (L1m1 v) fun i => L1m1' i v) : ∀ v : T0, Cn E (d0 bus_Reader_Feed_m1 L1m1 v) fun i => d0 (bus_Reader_Feed_m1' i) (L1m1' i) v := fun (v0, v1, v2, v3, v4, v5, v6, v7, v8) => (.br (.br (.bnd (hbus_Reader_Feed_m1 _) fun _ => (.br (.br (hL1m1 _) .none) (hL1m1 _))) .none) .some)
theorem l0_b ( k m1 : Nat) : ∀ v : T0, run (cs m1) (loopN cs m1) b4 (kLoop cs m1 b4 (K4 k)) (s0 v) = d0 (bus_Reader_Feed.f m1) (l1 k m1) v := fun (v0, v1, v2, v3, v4, v5, v6, v7, v8) => by kernel_rfl
theorem D0_of (v : T0) {r : R} (h : d0 bus_Reader_Feed.F D1 v = some r) : D0 v = some r :=
  loop_of 1 (l := fun L => l0 (L 0) (L 1) v) (d := fun L => d0 (bus_Reader_Feed.f (L 1)) (l1 (L 0) (L 1)) v) (fun L n hn => by show l0 (L 0) (L 1) v = _; rw [hn]; exact (held_eq _).trans ((loopN_succ _ _ _ _ _).trans (l0_b (L 0) n v))) (d0_cn (bus_Reader_Feed.F_cn 1) (fun v => (D1_cn v).re [0, 1]) v) h
def d1 (L0m1 : T0 → Option R) : T1 → Option R := fun (v0, v1, v2, v3, v4, v5, v6, v7, v8) =>
L0m1 (v0, v1, wrap IntKind.i64 (v2 + 1), v3, v4, v5, v6, v7, v8)
theorem d1_cn {ι : Type} {E : Fil ι} {L0m1 : T0 → Option R} {L0m1' : ι → T0 → Option R} (hL0m1 : ∀ v, Cn E (L0m1 v) fun i => L0m1' i v) : ∀ v : T1, Cn E (d1 L0m1 v) fun i => d1 (L0m1' i) v := fun (v0, v1, v2, v3, v4, v5, v6, v7, v8) => (hL0m1 _)
theorem l1_b ( k m1 : Nat) : ∀ v : T1, run (cs m1) (loopN cs m1) c1000009 (J1000009 k m1) (s1 v) = d1 (l0 k m1) v := fun (v0, v1, v2, v3, v4, v5, v6, v7, v8) => by kernel_rfl
theorem D1_of (v : T1) {r : R} (h : d1 D0 v = some r) : D1 v = some r :=
  join_of (l := fun L => l1 (L 0) (L 1) v) (d := fun L => d1 (l0 (L 0) (L 1)) v) (fun L => (held_eq _).trans (l1_b (L 0) (L 1) v)) (d1_cn (fun v => (D0_cn v).re [0, 1]) v) h
noncomputable def f (k : Nat) : A → Option R := fun v0 => held (runFn cs k Try.f14 [(.c (.frz (.int .u8) v0))] [] dec)
noncomputable def F (v : A) : Option R := lim fun L => f (L 0) v
theorem F_cn (x : Nat) (v : A) : Cn late (F v) fun L => f (L x) v := of_lim.re [x]
def d (L0k : T0 → Option R) : A → Option R := fun v0 =>
L0k (v0, (↑v0.length : Int), 0, false, false, false, 0, [], [])
theorem d_cn {ι : Type} {E : Fil ι} {L0k : T0 → Option R} {L0k' : ι → T0 → Option R} (hL0k : ∀ v, Cn E (L0k v) fun i => L0k' i v) : ∀ v : A, Cn E (d L0k v) fun i => d (L0k' i) v := fun v0 => (hL0k _)
theorem f_b (k : Nat) : ∀ v : A, f k v = d (l0 k k) v := fun v0 => (held_eq _).trans (by kernel_rfl)
theorem F_of (v : A) {r : R} (h : d D0 v = some r) : F v = some r :=
  join_of (l := fun L => f (L 0) v) (d := fun L => d (l0 (L 0) (L 0)) v) (fun L => f_b (L 0) v) (d_cn (fun v => (D0_cn v).re [0, 0]) v) h
noncomputable def spec (k : Nat) (args : List AV) (ss : List Slot) : Option Ans :=
  match args, ss with
  | [(.c (.frz (.int .u8) v0))], [] => some ⟨R, f k v0, enc⟩
  | _, _ => none
theorem spec_ok (k : Nat) : SpecOk Try.prog 14 (spec k) := by
  intro args ss ans x h hx X σ w vals hp
  unfold spec at h
  split at h
  · cases h
    exact spec_of cs_ok Try.func14 rfl rfl dec_ok (held_eq _).symm hx hp
  · cases h
end bus_Decode
noncomputable def t_bus_Decode (k : Nat) := tcons 14 (bus_Decode.spec k) (t_bus_Reader_Feed k)
theorem t_bus_Decode_ok (n g : Nat) : SpecOk Try.prog g (t_bus_Decode n g) := tcons_ok (bus_Decode.spec_ok n) (fun g => t_bus_Reader_Feed_ok n g) g
namespace spykeep2_carries
abbrev R : Type := Bool
abbrev A : Type := Unit
def lv : List (Nat × List Nat) := [(2000000, [0])]
noncomputable def cs : Nat → Ctx := ctxOf tis modes t_bus_Decode lv
theorem cs_ok (n : Nat) : CtxOk Try.prog (cs n) := ctxOf_ok rfl tis_ok t_bus_Decode_ok n
def enc (r : R) : Out := ((.c (.bool r)), [])
def dec : Out → Option R
  | ((.c (.bool v0)), []) => some v0
  | _ => none
theorem dec_ok : ∀ u y, dec u = some y → u = enc y := by
  intro u y h
  unfold dec at h
  split at h
  · cases h; rfl
  · cases h
noncomputable def b0 : Code := subF [] Try.f10
noncomputable def K0 (k : Nat) : Kt R := kTop (cs k) Try.f10 dec
noncomputable def f (k : Nat) : A → Option R := fun _ => held (runFn cs k Try.f10 [] [] dec)
noncomputable def F (v : A) : Option R := lim fun L => f (L 0) v
theorem F_cn (x : Nat) (v : A) : Cn late (F v) fun L => f (L x) v := of_lim.re [x]
def d (bus_Encode_k : bus_Encode.A → Option bus_Encode.R) (bus_Decode_k : bus_Decode.A → Option bus_Decode.R) : A → Option R := fun _ =>
bnd (bus_Encode_k (1, 2, 3, [])) fun r =>
  bnd (bus_Decode_k r.snd) fun r_1 =>
    br (!(decide (r.fst = 0) && decide ((↑r.snd.length : Int) = 7) && decide ((↑r_1.snd.length : Int) = 1) && decide (r_1.fst = 0)) == true || decide ((0 : Int) ≤ 0 ∧ 0 < (↑r_1.snd.length : Int)))
      (some
        (decide (r.fst = 0) && decide ((↑r.snd.length : Int) = 7) && decide ((↑r_1.snd.length : Int) = 1) && decide (r_1.fst = 0) &&
          decide ((rd ((Ty.int IntKind.i64).pair ((Ty.int IntKind.i64).pair ((Ty.int IntKind.i64).pair (Ty.int IntKind.u8).slice))) r_1.snd 0).snd.snd.fst = 3)))
      none
theorem d_cn {ι : Type} {E : Fil ι} {bus_Encode_k : bus_Encode.A → Option bus_Encode.R} {bus_Encode_k' : ι → bus_Encode.A → Option bus_Encode.R} (hbus_Encode_k : ∀ v, Cn E (bus_Encode_k v) fun i => bus_Encode_k' i v) {bus_Decode_k : bus_Decode.A → Option bus_Decode.R} {bus_Decode_k' : ι → bus_Decode.A → Option bus_Decode.R} (hbus_Decode_k : ∀ v, Cn E (bus_Decode_k v) fun i => bus_Decode_k' i v) : ∀ v : A, Cn E (d bus_Encode_k bus_Decode_k v) fun i => d (bus_Encode_k' i) (bus_Decode_k' i) v := fun _ => (.bnd (hbus_Encode_k _) fun _ => (.bnd (hbus_Decode_k _) fun _ => (.br .some .none)))
theorem f_b (k : Nat) : ∀ v : A, f k v = d (bus_Encode.f k) (bus_Decode.f k) v := fun _ => (held_eq _).trans (by kernel_rfl)
theorem F_of (v : A) {r : R} (h : d bus_Encode.F bus_Decode.F v = some r) : F v = some r :=
  join_of (l := fun L => f (L 0) v) (d := fun L => d (bus_Encode.f (L 0)) (bus_Decode.f (L 0)) v) (fun L => f_b (L 0) v) (d_cn (bus_Encode.F_cn 0) (bus_Decode.F_cn 0) v) h
noncomputable def spec (k : Nat) (args : List AV) (ss : List Slot) : Option Ans :=
  match args, ss with
  | [], [] => some ⟨R, f k (), enc⟩
  | _, _ => none
theorem spec_ok (k : Nat) : SpecOk Try.prog 10 (spec k) := by
  intro args ss ans x h hx X σ w vals hp
  unfold spec at h
  split at h
  · cases h
    exact spec_of cs_ok Try.func10 rfl rfl dec_ok (held_eq _).symm hx hp
  · cases h
end spykeep2_carries
noncomputable def t_spykeep2_carries (k : Nat) := tcons 10 (spykeep2_carries.spec k) (t_bus_Decode k)
theorem t_spykeep2_carries_ok (n g : Nat) : SpecOk Try.prog g (t_spykeep2_carries n g) := tcons_ok (spykeep2_carries.spec_ok n) (fun g => t_bus_Decode_ok n g) g
namespace spymake_Below
abbrev R : Type := Int
abbrev A : Type := Int × Int
def lv : List (Nat × List Nat) := [(2000000, [4]), (1000006, [0])]
noncomputable def cs : Nat → Ctx := ctxOf tis modes t_spykeep2_carries lv
theorem cs_ok (n : Nat) : CtxOk Try.prog (cs n) := ctxOf_ok rfl tis_ok t_spykeep2_carries_ok n
def enc (r : R) : Out := ((.c (.int .i64 r)), [])
def dec : Out → Option R
  | ((.c (.int .i64 v0)), []) => some v0
  | _ => none
theorem dec_ok : ∀ u y, dec u = some y → u = enc y := by
  intro u y h
  unfold dec at h
  split at h
  · cases h; rfl
  · cases h
noncomputable def b0 : Code := subF [] Try.f18
noncomputable def K0 (k : Nat) : Kt R := kTop (cs k) Try.f18 dec
noncomputable def c1000006 : Code := sub [1, 1, 1, 1] b0
noncomputable def J1000006 ( k : Nat) : Kt R := kAt (cs k) (loopN cs k) [1, 1, 1, 1] b0 (K0 k)
abbrev T0 : Type := Int
def s0 : T0 → St := fun v0 => ⟨16, 0, [(0, (.c (.int .i64 v0)))], [], [(256000000, .gone)]⟩
noncomputable def l0 ( k : Nat) (v : T0) : Option R := held (run (cs k) (loopN cs k) c1000006 (J1000006 k) (s0 v))
noncomputable def D0 (v : T0) : Option R := lim fun L => l0 (L 0) v
theorem D0_cn (v : T0) : Cn late (D0 v) fun L => l0 (L 0) v := of_lim
def d0 : T0 → Option R := fun v0 =>
some v0
theorem d0_cn {ι : Type} {E : Fil ι} : ∀ v : T0, Cn E (d0 v) fun i => d0 v := fun v0 => .some
theorem l0_b ( k : Nat) : ∀ v : T0, run (cs k) (loopN cs k) c1000006 (J1000006 k) (s0 v) = d0 v := fun v0 => by kernel_rfl
theorem D0_of (v : T0) {r : R} (h : d0 v = some r) : D0 v = some r :=
  join_of (l := fun L => l0 (L 0) v) (d := fun L => d0 v) (fun L => (held_eq _).trans (l0_b (L 0) v)) (d0_cn v) h
noncomputable def f (k : Nat) : A → Option R := fun (v0, v1) => held (runFn cs k Try.f18 [(.c (.int .i64 v0)), (.c (.int .i64 v1))] [] dec)
noncomputable def F (v : A) : Option R := lim fun L => f (L 0) v
theorem F_cn (x : Nat) (v : A) : Cn late (F v) fun L => f (L x) v := of_lim.re [x]
def d (L0k : T0 → Option R) : A → Option R := fun (v0, v1) =>
br (decide (v1 < 1)) (some 0) (br (!decide (v1 = 0)) (br (decide (v0.tmod v1 < 0)) (L0k (wrap IntKind.i64 (v0.tmod v1 + v1))) (L0k (v0.tmod v1))) none)
theorem d_cn {ι : Type} {E : Fil ι} {L0k : T0 → Option R} {L0k' : ι → T0 → Option R} (hL0k : ∀ v, Cn E (L0k v) fun i => L0k' i v) : ∀ v : A, Cn E (d L0k v) fun i => d (L0k' i) v := fun (v0, v1) => (.br .some (.br (.br (hL0k _) (hL0k _)) .none))
theorem f_b (k : Nat) : ∀ v : A, f k v = d (l0 k) v := fun (v0, v1) => (held_eq _).trans (by kernel_rfl)
theorem F_of (v : A) {r : R} (h : d D0 v = some r) : F v = some r :=
  join_of (l := fun L => f (L 0) v) (d := fun L => d (l0 (L 0)) v) (fun L => f_b (L 0) v) (d_cn (fun v => (D0_cn v).re [0]) v) h
noncomputable def spec (k : Nat) (args : List AV) (ss : List Slot) : Option Ans :=
  match args, ss with
  | [(.c (.int .i64 v0)), (.c (.int .i64 v1))], [] => some ⟨R, f k (v0, v1), enc⟩
  | _, _ => none
theorem spec_ok (k : Nat) : SpecOk Try.prog 18 (spec k) := by
  intro args ss ans x h hx X σ w vals hp
  unfold spec at h
  split at h
  · cases h
    exact spec_of cs_ok Try.func18 rfl rfl dec_ok (held_eq _).symm hx hp
  · cases h
end spymake_Below
noncomputable def t_spymake_Below (k : Nat) := tcons 18 (spymake_Below.spec k) (t_spykeep2_carries k)
theorem t_spymake_Below_ok (n g : Nat) : SpecOk Try.prog g (t_spymake_Below n g) := tcons_ok (spymake_Below.spec_ok n) (fun g => t_spykeep2_carries_ok n g) g
namespace spymake_Stream_Next
abbrev R : Type := Int × List Int × Int
abbrev A : Type := Int × List Int × Int
def lv : List (Nat × List Nat) := [(2000000, [4])]
noncomputable def cs : Nat → Ctx := ctxOf tis modes t_spymake_Below lv
theorem cs_ok (n : Nat) : CtxOk Try.prog (cs n) := ctxOf_ok rfl tis_ok t_spymake_Below_ok n
def enc (r : R) : Out := ((.c (.int .i64 r.1)), [(.box [(.frz (.int .i64) r.2.1), (.int .i64 r.2.2)])])
def dec : Out → Option R
  | ((.c (.int .i64 v0)), [(.box [(.frz (.int .i64) v1), (.int .i64 v2)])]) => some (v0, v1, v2)
  | _ => none
theorem dec_ok : ∀ u y, dec u = some y → u = enc y := by
  intro u y h
  unfold dec at h
  split at h
  · cases h; rfl
  · cases h
noncomputable def b0 : Code := subF [] Try.f11
noncomputable def K0 (k : Nat) : Kt R := kTop (cs k) Try.f11 dec
noncomputable def f (k : Nat) : A → Option R := fun (v0, v1, v2) => held (runFn cs k Try.f11 [(.c (.ptr 128000000 0)), (.c (.int .i64 v0))] [(.box [(.frz (.int .i64) v1), (.int .i64 v2)])] dec)
noncomputable def F (v : A) : Option R := lim fun L => f (L 0) v
theorem F_cn (x : Nat) (v : A) : Cn late (F v) fun L => f (L x) v := of_lim.re [x]
def d (spymake_Below_k : spymake_Below.A → Option spymake_Below.R) : A → Option R := fun (v0, v1, v2) =>
br (decide ((↑v1.length : Int) = 0)) (bnd (spymake_Below_k (wrap IntKind.i64 (wrap IntKind.i64 (v2 + 1) * 7919), v0)) fun r => some (r, v1, wrap IntKind.i64 (v2 + 1)))
  (br (!decide ((↑v1.length : Int) = 0))
    (br (!decide ((↑v1.length : Int) = 0))
      (br (decide (0 ≤ (wrap IntKind.i64 (wrap IntKind.i64 (v2 + 1) - 1)).tmod (↑v1.length : Int) ∧ (wrap IntKind.i64 (wrap IntKind.i64 (v2 + 1) - 1)).tmod (↑v1.length : Int) < (↑v1.length : Int)))
        (bnd (spymake_Below_k (rd (Ty.int IntKind.i64) v1 ((wrap IntKind.i64 (wrap IntKind.i64 (v2 + 1) - 1)).tmod (↑v1.length : Int)), 1073741824)) fun r =>
          bnd
            (spymake_Below_k
              (wrap IntKind.i64
                  (r +
                    wrap IntKind.i64
                      (wrap IntKind.i64 ((wrap IntKind.i64 (wrap IntKind.i64 (v2 + 1) - 1)).tdiv (↑v1.length : Int)) *
                        wrap IntKind.i64 (7919 + (wrap IntKind.i64 (wrap IntKind.i64 (v2 + 1) - 1)).tmod (↑v1.length : Int)))),
                v0))
            fun r => some (r, v1, wrap IntKind.i64 (v2 + 1)))
        none)
      none)
    none)
theorem d_cn {ι : Type} {E : Fil ι} {spymake_Below_k : spymake_Below.A → Option spymake_Below.R} {spymake_Below_k' : ι → spymake_Below.A → Option spymake_Below.R} (hspymake_Below_k : ∀ v, Cn E (spymake_Below_k v) fun i => spymake_Below_k' i v) : ∀ v : A, Cn E (d spymake_Below_k v) fun i => d (spymake_Below_k' i) v := fun (v0, v1, v2) => (.br (.bnd (hspymake_Below_k _) fun _ => .some) (.br (.br (.br (.bnd (hspymake_Below_k _) fun _ => (.bnd (hspymake_Below_k _) fun _ => .some)) .none) .none) .none))
theorem f_b (k : Nat) : ∀ v : A, f k v = d (spymake_Below.f k) v := fun (v0, v1, v2) => (held_eq _).trans (by kernel_rfl)
theorem F_of (v : A) {r : R} (h : d spymake_Below.F v = some r) : F v = some r :=
  join_of (l := fun L => f (L 0) v) (d := fun L => d (spymake_Below.f (L 0)) v) (fun L => f_b (L 0) v) (d_cn (spymake_Below.F_cn 0) v) h
noncomputable def spec (k : Nat) (args : List AV) (ss : List Slot) : Option Ans :=
  match args, ss with
  | [(.c (.ptr 128000000 0)), (.c (.int .i64 v0))], [(.box [(.frz (.int .i64) v1), (.int .i64 v2)])] => some ⟨R, f k (v0, v1, v2), enc⟩
  | _, _ => none
theorem spec_ok (k : Nat) : SpecOk Try.prog 11 (spec k) := by
  intro args ss ans x h hx X σ w vals hp
  unfold spec at h
  split at h
  · cases h
    exact spec_of cs_ok Try.func11 rfl rfl dec_ok (held_eq _).symm hx hp
  · cases h
end spymake_Stream_Next
noncomputable def t_spymake_Stream_Next (k : Nat) := tcons 11 (spymake_Stream_Next.spec k) (t_spymake_Below k)
theorem t_spymake_Stream_Next_ok (n g : Nat) : SpecOk Try.prog g (t_spymake_Stream_Next n g) := tcons_ok (spymake_Stream_Next.spec_ok n) (fun g => t_spymake_Below_ok n g) g
namespace spykeep2_packet
abbrev R : Type := Int × Int × Int × List Int × Int × List Int
abbrev A : Type := List Int × Int
def lv : List (Nat × List Nat) := [(2000000, [2]), (3, [0, 2, 3, 12, 13])]
noncomputable def cs : Nat → Ctx := ctxOf tis modes t_spymake_Stream_Next lv
theorem cs_ok (n : Nat) : CtxOk Try.prog (cs n) := ctxOf_ok rfl tis_ok t_spymake_Stream_Next_ok n
def enc (r : R) : Out := ((.agg [(.int .i64 r.1), (.int .i64 r.2.1), (.int .i64 r.2.2.1), (.sl 128000001)]), [(.box [(.frz (.int .i64) r.2.2.2.1), (.int .i64 r.2.2.2.2.1)]), (.row (.int .u8) r.2.2.2.2.2)])
def dec : Out → Option R
  | ((.agg [(.int .i64 v0), (.int .i64 v1), (.int .i64 v2), (.sl 128000001)]), [(.box [(.frz (.int .i64) v3), (.int .i64 v4)]), (.row (.int .u8) v5)]) => some (v0, v1, v2, v3, v4, v5)
  | _ => none
theorem dec_ok : ∀ u y, dec u = some y → u = enc y := by
  intro u y h
  unfold dec at h
  split at h
  · cases h; rfl
  · cases h
noncomputable def b0 : Code := subF [] Try.f12
noncomputable def K0 (k : Nat) : Kt R := kTop (cs k) Try.f12 dec
noncomputable def b3 : Code := sub [1, 1, 0, 1, 0, 0] b0
noncomputable def K3 ( k : Nat) : Kt R := kAt (cs k) (loopN cs k) [1, 1, 0, 1, 0] b0 (K0 k)
abbrev T0 : Type := Int × Int × List Int × Int × Int × Int × Int × Int × Int × Int × List Int × List Int
def s0 : T0 → St := fun (v0, v1, v2, v3, v4, v5, v6, v7, v8, v9, v10, v11) => ⟨30, 1, [(0, (.c (.ptr 128000000 0))), (2, (.c (.ptr 64000000 0))), (3, (.c (.ptr 64000001 0))), (12, (.c (.int .i64 v0))), (13, (.c (.int .i64 v1)))], [], [(128000000, (.box [(.frz (.int .i64) v2), (.int .i64 v3)])), (256000000, .gone), (64000000, (.box [(.int .i64 v4), (.int .i64 v5), (.int .i64 v6), (.sl 64000002)])), (64000001, (.box [(.int .i64 v7), (.int .i64 v8), (.int .i64 v9), (.sl 64000003)])), (64000002, (.row (.int .u8) v10)), (64000003, (.row (.int .u8) v11))]⟩
noncomputable def l0 ( k n : Nat) (v : T0) : Option R := held (loopN cs n b3 (K3 k) (s0 v))
noncomputable def D0 (v : T0) : Option R := lim fun L => l0 (L 0) (L 1) v
theorem D0_cn (v : T0) : Cn late (D0 v) fun L => l0 (L 0) (L 1) v := of_lim
def d0 (spymake_Stream_Next_m1 : spymake_Stream_Next.A → Option spymake_Stream_Next.R) (L0m1 : T0 → Option R) : T0 → Option R := fun (v0, v1, v2, v3, v4, v5, v6, v7, v8, v9, v10, v11) =>
br (decide (v1 < v0))
  (bnd (spymake_Stream_Next_m1 (256, v2, v3)) fun r =>
    bnd (spymake_Stream_Next_m1 (5, r.snd.fst, r.snd.snd)) fun r_1 =>
      br (decide (0 ≤ r_1.fst ∧ r_1.fst < (↑[126, 125, 94, 93, wrap IntKind.u8 r.fst].length : Int)))
        (br (decide (v11.length + [rd (Ty.int IntKind.u8) [126, 125, 94, 93, wrap IntKind.u8 r.fst] r_1.fst].length ≤ 140737488355328 / (1 + (1 - 1))))
          (L0m1 (v0, wrap IntKind.i64 (v1 + 1), r_1.snd.fst, r_1.snd.snd, v4, v5, v6, v7, v8, v9, v10, v11 ++ [rd (Ty.int IntKind.u8) [126, 125, 94, 93, wrap IntKind.u8 r.fst] r_1.fst])) none)
        none)
  (some (v7, v8, v9, v2, v3, v11))
theorem d0_cn {ι : Type} {E : Fil ι} {spymake_Stream_Next_m1 : spymake_Stream_Next.A → Option spymake_Stream_Next.R} {spymake_Stream_Next_m1' : ι → spymake_Stream_Next.A → Option spymake_Stream_Next.R} (hspymake_Stream_Next_m1 : ∀ v, Cn E (spymake_Stream_Next_m1 v) fun i => spymake_Stream_Next_m1' i v) {L0m1 : T0 → Option R} {L0m1' : ι → T0 → Option R} (hL0m1 : ∀ v, Cn E (L0m1 v) fun i => L0m1' i v) : ∀ v : T0, Cn E (d0 spymake_Stream_Next_m1 L0m1 v) fun i => d0 (spymake_Stream_Next_m1' i) (L0m1' i) v := fun (v0, v1, v2, v3, v4, v5, v6, v7, v8, v9, v10, v11) => (.br (.bnd (hspymake_Stream_Next_m1 _) fun _ => (.bnd (hspymake_Stream_Next_m1 _) fun _ => (.br (.br (hL0m1 _) .none) .none))) .some)
theorem l0_b ( k m1 : Nat) : ∀ v : T0, run (cs m1) (loopN cs m1) b3 (kLoop cs m1 b3 (K3 k)) (s0 v) = d0 (spymake_Stream_Next.f m1) (l0 k m1) v := fun (v0, v1, v2, v3, v4, v5, v6, v7, v8, v9, v10, v11) => by kernel_rfl
theorem D0_of (v : T0) {r : R} (h : d0 spymake_Stream_Next.F D0 v = some r) : D0 v = some r :=
  loop_of 1 (l := fun L => l0 (L 0) (L 1) v) (d := fun L => d0 (spymake_Stream_Next.f (L 1)) (l0 (L 0) (L 1)) v) (fun L n hn => by show l0 (L 0) (L 1) v = _; rw [hn]; exact (held_eq _).trans ((loopN_succ _ _ _ _ _).trans (l0_b (L 0) n v))) (d0_cn (spymake_Stream_Next.F_cn 1) (fun v => (D0_cn v).re [0, 1]) v) h
noncomputable def f (k : Nat) : A → Option R := fun (v0, v1) => held (runFn cs k Try.f12 [(.c (.ptr 128000000 0))] [(.box [(.frz (.int .i64) v0), (.int .i64 v1)])] dec)
noncomputable def F (v : A) : Option R := lim fun L => f (L 0) v
theorem F_cn (x : Nat) (v : A) : Cn late (F v) fun L => f (L x) v := of_lim.re [x]
def d (spymake_Stream_Next_k : spymake_Stream_Next.A → Option spymake_Stream_Next.R) (L0k : T0 → Option R) : A → Option R := fun (v0, v1) =>
bnd (spymake_Stream_Next_k (16, v0, v1)) fun r =>
  bnd (spymake_Stream_Next_k (16, r.snd.fst, r.snd.snd)) fun r_1 =>
    bnd (spymake_Stream_Next_k (65536, r_1.snd.fst, r_1.snd.snd)) fun r_2 =>
      bnd (spymake_Stream_Next_k (17, r_2.snd.fst, r_2.snd.snd)) fun r_3 => L0k (r_3.fst, 0, r_3.snd.fst, r_3.snd.snd, 0, 0, 0, r.fst, r_1.fst, r_2.fst, [], [])
theorem d_cn {ι : Type} {E : Fil ι} {spymake_Stream_Next_k : spymake_Stream_Next.A → Option spymake_Stream_Next.R} {spymake_Stream_Next_k' : ι → spymake_Stream_Next.A → Option spymake_Stream_Next.R} (hspymake_Stream_Next_k : ∀ v, Cn E (spymake_Stream_Next_k v) fun i => spymake_Stream_Next_k' i v) {L0k : T0 → Option R} {L0k' : ι → T0 → Option R} (hL0k : ∀ v, Cn E (L0k v) fun i => L0k' i v) : ∀ v : A, Cn E (d spymake_Stream_Next_k L0k v) fun i => d (spymake_Stream_Next_k' i) (L0k' i) v := fun (v0, v1) => (.bnd (hspymake_Stream_Next_k _) fun _ => (.bnd (hspymake_Stream_Next_k _) fun _ => (.bnd (hspymake_Stream_Next_k _) fun _ => (.bnd (hspymake_Stream_Next_k _) fun _ => (hL0k _)))))
theorem f_b (k : Nat) : ∀ v : A, f k v = d (spymake_Stream_Next.f k) (l0 k k) v := fun (v0, v1) => (held_eq _).trans (by kernel_rfl)
theorem F_of (v : A) {r : R} (h : d spymake_Stream_Next.F D0 v = some r) : F v = some r :=
  join_of (l := fun L => f (L 0) v) (d := fun L => d (spymake_Stream_Next.f (L 0)) (l0 (L 0) (L 0)) v) (fun L => f_b (L 0) v) (d_cn (spymake_Stream_Next.F_cn 0) (fun v => (D0_cn v).re [0, 0]) v) h
noncomputable def spec (k : Nat) (args : List AV) (ss : List Slot) : Option Ans :=
  match args, ss with
  | [(.c (.ptr 128000000 0))], [(.box [(.frz (.int .i64) v0), (.int .i64 v1)])] => some ⟨R, f k (v0, v1), enc⟩
  | _, _ => none
theorem spec_ok (k : Nat) : SpecOk Try.prog 12 (spec k) := by
  intro args ss ans x h hx X σ w vals hp
  unfold spec at h
  split at h
  · cases h
    exact spec_of cs_ok Try.func12 rfl rfl dec_ok (held_eq _).symm hx hp
  · cases h
end spykeep2_packet
noncomputable def t_spykeep2_packet (k : Nat) := tcons 12 (spykeep2_packet.spec k) (t_spymake_Stream_Next k)
theorem t_spykeep2_packet_ok (n g : Nat) : SpecOk Try.prog g (t_spykeep2_packet n g) := tcons_ok (spykeep2_packet.spec_ok n) (fun g => t_spymake_Stream_Next_ok n g) g
namespace spykeep2_samePacket
abbrev R : Type := Bool
abbrev A : Type := Int × Int × Int × List Int × Int × Int × Int × List Int
def lv : List (Nat × List Nat) := [(2000000, [4])]
noncomputable def cs : Nat → Ctx := ctxOf tis modes t_spykeep2_packet lv
theorem cs_ok (n : Nat) : CtxOk Try.prog (cs n) := ctxOf_ok rfl tis_ok t_spykeep2_packet_ok n
def enc (r : R) : Out := ((.c (.bool r)), [])
def dec : Out → Option R
  | ((.c (.bool v0)), []) => some v0
  | _ => none
theorem dec_ok : ∀ u y, dec u = some y → u = enc y := by
  intro u y h
  unfold dec at h
  split at h
  · cases h; rfl
  · cases h
noncomputable def b0 : Code := subF [] Try.f16
noncomputable def K0 (k : Nat) : Kt R := kTop (cs k) Try.f16 dec
noncomputable def f (k : Nat) : A → Option R := fun (v0, v1, v2, v3, v4, v5, v6, v7) => held (runFn cs k Try.f16 [(.agg [(.int .i64 v0), (.int .i64 v1), (.int .i64 v2), (.frz (.int .u8) v3)]), (.agg [(.int .i64 v4), (.int .i64 v5), (.int .i64 v6), (.frz (.int .u8) v7)])] [] dec)
noncomputable def F (v : A) : Option R := lim fun L => f (L 0) v
theorem F_cn (x : Nat) (v : A) : Cn late (F v) fun L => f (L x) v := of_lim.re [x]
def d : A → Option R := fun (v0, v1, v2, v3, v4, v5, v6, v7) =>
some (decide (v0 = v4) && decide (v1 = v5) && decide (v2 = v6) && decide (bytesStr v3 = bytesStr v7))
theorem d_cn {ι : Type} {E : Fil ι} : ∀ v : A, Cn E (d v) fun i => d v := fun (v0, v1, v2, v3, v4, v5, v6, v7) => .some
theorem f_b (k : Nat) : ∀ v : A, f k v = d v := fun (v0, v1, v2, v3, v4, v5, v6, v7) => (held_eq _).trans (by kernel_rfl)
theorem F_of (v : A) {r : R} (h : d v = some r) : F v = some r :=
  join_of (l := fun L => f (L 0) v) (d := fun L => d v) (fun L => f_b (L 0) v) (d_cn v) h
noncomputable def spec (k : Nat) (args : List AV) (ss : List Slot) : Option Ans :=
  match args, ss with
  | [(.agg [(.int .i64 v0), (.int .i64 v1), (.int .i64 v2), (.frz (.int .u8) v3)]), (.agg [(.int .i64 v4), (.int .i64 v5), (.int .i64 v6), (.frz (.int .u8) v7)])], [] => some ⟨R, f k (v0, v1, v2, v3, v4, v5, v6, v7), enc⟩
  | _, _ => none
theorem spec_ok (k : Nat) : SpecOk Try.prog 16 (spec k) := by
  intro args ss ans x h hx X σ w vals hp
  unfold spec at h
  split at h
  · cases h
    exact spec_of cs_ok Try.func16 rfl rfl dec_ok (held_eq _).symm hx hp
  · cases h
end spykeep2_samePacket
noncomputable def t_spykeep2_samePacket (k : Nat) := tcons 16 (spykeep2_samePacket.spec k) (t_spykeep2_packet k)
theorem t_spykeep2_samePacket_ok (n g : Nat) : SpecOk Try.prog g (t_spykeep2_samePacket n g) := tcons_ok (spykeep2_samePacket.spec_ok n) (fun g => t_spykeep2_packet_ok n g) g
namespace slices_EqualFunc_Packet
abbrev R : Type := Bool
abbrev A : Type := List (Int × Int × Int × List Int) × List (Int × Int × Int × List Int)
def lv : List (Nat × List Nat) := [(2000000, [6]), (4, [1, 2, 15, 16, 17])]
noncomputable def cs : Nat → Ctx := ctxOf tis modes t_spykeep2_samePacket lv
theorem cs_ok (n : Nat) : CtxOk Try.prog (cs n) := ctxOf_ok rfl tis_ok t_spykeep2_samePacket_ok n
def enc (r : R) : Out := ((.c (.bool r)), [])
def dec : Out → Option R
  | ((.c (.bool v0)), []) => some v0
  | _ => none
theorem dec_ok : ∀ u y, dec u = some y → u = enc y := by
  intro u y h
  unfold dec at h
  split at h
  · cases h; rfl
  · cases h
noncomputable def b0 : Code := subF [] Try.f15
noncomputable def K0 (k : Nat) : Kt R := kTop (cs k) Try.f15 dec
noncomputable def b4 : Code := sub [1, 1, 0, 1, 0, 0] b0
noncomputable def K4 ( k : Nat) : Kt R := kAt (cs k) (loopN cs k) [1, 1, 0, 1, 0] b0 (K0 k)
abbrev T0 : Type := List (Int × Int × Int × List Int) × List (Int × Int × Int × List Int) × Int × Int
def s0 : T0 → St := fun (v0, v1, v2, v3) => ⟨32, 0, [(1, (.c (.frz (.pair (.int .i64) (.pair (.int .i64) (.pair (.int .i64) (.slice (.int .u8))))) v0))), (2, (.c (.func 16 []))), (15, (.c (.frz (.pair (.int .i64) (.pair (.int .i64) (.pair (.int .i64) (.slice (.int .u8))))) v1))), (16, (.c (.int .i64 v2))), (17, (.c (.int .i64 v3)))], [], [(256000000, .gone)]⟩
noncomputable def l0 ( k n : Nat) (v : T0) : Option R := held (loopN cs n b4 (K4 k) (s0 v))
noncomputable def D0 (v : T0) : Option R := lim fun L => l0 (L 0) (L 1) v
theorem D0_cn (v : T0) : Cn late (D0 v) fun L => l0 (L 0) (L 1) v := of_lim
def d0 (spykeep2_samePacket_m1 : spykeep2_samePacket.A → Option spykeep2_samePacket.R) (L0m1 : T0 → Option R) : T0 → Option R := fun (v0, v1, v2, v3) =>
br (decide (v3 < v2))
  (br (decide (0 ≤ v3 ∧ v3 < (↑v1.length : Int)))
    (br (decide (0 ≤ v3 ∧ v3 < (↑v0.length : Int)))
      (bnd
        (spykeep2_samePacket_m1
          ((rd ((Ty.int IntKind.i64).pair ((Ty.int IntKind.i64).pair ((Ty.int IntKind.i64).pair (Ty.int IntKind.u8).slice))) v1 v3).fst,
            (rd ((Ty.int IntKind.i64).pair ((Ty.int IntKind.i64).pair ((Ty.int IntKind.i64).pair (Ty.int IntKind.u8).slice))) v1 v3).snd.fst,
            (rd ((Ty.int IntKind.i64).pair ((Ty.int IntKind.i64).pair ((Ty.int IntKind.i64).pair (Ty.int IntKind.u8).slice))) v1 v3).snd.snd.fst,
            (rd ((Ty.int IntKind.i64).pair ((Ty.int IntKind.i64).pair ((Ty.int IntKind.i64).pair (Ty.int IntKind.u8).slice))) v1 v3).snd.snd.snd,
            (rd ((Ty.int IntKind.i64).pair ((Ty.int IntKind.i64).pair ((Ty.int IntKind.i64).pair (Ty.int IntKind.u8).slice))) v0 v3).fst,
            (rd ((Ty.int IntKind.i64).pair ((Ty.int IntKind.i64).pair ((Ty.int IntKind.i64).pair (Ty.int IntKind.u8).slice))) v0 v3).snd.fst,
            (rd ((Ty.int IntKind.i64).pair ((Ty.int IntKind.i64).pair ((Ty.int IntKind.i64).pair (Ty.int IntKind.u8).slice))) v0 v3).snd.snd.fst,
            (rd ((Ty.int IntKind.i64).pair ((Ty.int IntKind.i64).pair ((Ty.int IntKind.i64).pair (Ty.int IntKind.u8).slice))) v0 v3).snd.snd.snd))
        fun r => br (!r) (some false) (L0m1 (v0, v1, v2, wrap IntKind.i64 (v3 + 1))))
      none)
    none)
  (some true)
theorem d0_cn {ι : Type} {E : Fil ι} {spykeep2_samePacket_m1 : spykeep2_samePacket.A → Option spykeep2_samePacket.R} {spykeep2_samePacket_m1' : ι → spykeep2_samePacket.A → Option spykeep2_samePacket.R} (hspykeep2_samePacket_m1 : ∀ v, Cn E (spykeep2_samePacket_m1 v) fun i => spykeep2_samePacket_m1' i v) {L0m1 : T0 → Option R} {L0m1' : ι → T0 → Option R} (hL0m1 : ∀ v, Cn E (L0m1 v) fun i => L0m1' i v) : ∀ v : T0, Cn E (d0 spykeep2_samePacket_m1 L0m1 v) fun i => d0 (spykeep2_samePacket_m1' i) (L0m1' i) v := fun (v0, v1, v2, v3) => (.br (.br (.br (.bnd (hspykeep2_samePacket_m1 _) fun _ => (.br .some (hL0m1 _))) .none) .none) .some)
theorem l0_b ( k m1 : Nat) : ∀ v : T0, run (cs m1) (loopN cs m1) b4 (kLoop cs m1 b4 (K4 k)) (s0 v) = d0 (spykeep2_samePacket.f m1) (l0 k m1) v := fun (v0, v1, v2, v3) => by kernel_rfl
theorem D0_of (v : T0) {r : R} (h : d0 spykeep2_samePacket.F D0 v = some r) : D0 v = some r :=
  loop_of 1 (l := fun L => l0 (L 0) (L 1) v) (d := fun L => d0 (spykeep2_samePacket.f (L 1)) (l0 (L 0) (L 1)) v) (fun L n hn => by show l0 (L 0) (L 1) v = _; rw [hn]; exact (held_eq _).trans ((loopN_succ _ _ _ _ _).trans (l0_b (L 0) n v))) (d0_cn (spykeep2_samePacket.F_cn 1) (fun v => (D0_cn v).re [0, 1]) v) h
noncomputable def f (k : Nat) : A → Option R := fun (v0, v1) => held (runFn cs k Try.f15 [(.c (.frz (.pair (.int .i64) (.pair (.int .i64) (.pair (.int .i64) (.slice (.int .u8))))) v0)), (.c (.frz (.pair (.int .i64) (.pair (.int .i64) (.pair (.int .i64) (.slice (.int .u8))))) v1)), (.c (.func 16 []))] [] dec)
noncomputable def F (v : A) : Option R := lim fun L => f (L 0) v
theorem F_cn (x : Nat) (v : A) : Cn late (F v) fun L => f (L x) v := of_lim.re [x]
def d (L0k : T0 → Option R) : A → Option R := fun (v0, v1) =>
br (!decide ((↑v0.length : Int) = (↑v1.length : Int))) (some false) (L0k (v1, v0, (↑v0.length : Int), 0))
theorem d_cn {ι : Type} {E : Fil ι} {L0k : T0 → Option R} {L0k' : ι → T0 → Option R} (hL0k : ∀ v, Cn E (L0k v) fun i => L0k' i v) : ∀ v : A, Cn E (d L0k v) fun i => d (L0k' i) v := fun (v0, v1) => (.br .some (hL0k _))
theorem f_b (k : Nat) : ∀ v : A, f k v = d (l0 k k) v := fun (v0, v1) => (held_eq _).trans (by kernel_rfl)
theorem F_of (v : A) {r : R} (h : d D0 v = some r) : F v = some r :=
  join_of (l := fun L => f (L 0) v) (d := fun L => d (l0 (L 0) (L 0)) v) (fun L => f_b (L 0) v) (d_cn (fun v => (D0_cn v).re [0, 0]) v) h
noncomputable def spec (k : Nat) (args : List AV) (ss : List Slot) : Option Ans :=
  match args, ss with
  | [(.c (.frz (.pair (.int .i64) (.pair (.int .i64) (.pair (.int .i64) (.slice (.int .u8))))) v0)), (.c (.frz (.pair (.int .i64) (.pair (.int .i64) (.pair (.int .i64) (.slice (.int .u8))))) v1)), (.c (.func 16 []))], [] => some ⟨R, f k (v0, v1), enc⟩
  | _, _ => none
theorem spec_ok (k : Nat) : SpecOk Try.prog 15 (spec k) := by
  intro args ss ans x h hx X σ w vals hp
  unfold spec at h
  split at h
  · cases h
    exact spec_of cs_ok Try.func15 rfl rfl dec_ok (held_eq _).symm hx hp
  · cases h
end slices_EqualFunc_Packet
noncomputable def t_slices_EqualFunc_Packet (k : Nat) := tcons 15 (slices_EqualFunc_Packet.spec k) (t_spykeep2_samePacket k)
theorem t_slices_EqualFunc_Packet_ok (n g : Nat) : SpecOk Try.prog g (t_slices_EqualFunc_Packet n g) := tcons_ok (slices_EqualFunc_Packet.spec_ok n) (fun g => t_spykeep2_samePacket_ok n g) g
namespace spykeep2_BusBack
abbrev R : Type := Bool
abbrev A : Type := List Int × List Int
def lv : List (Nat × List Nat) := [(2000000, [4]), (6, [5, 6, 20, 21, 22]), (1000010, [5, 6, 20, 21, 22]), (13, [5, 6, 9, 34, 35])]
noncomputable def cs : Nat → Ctx := ctxOf tis modes t_slices_EqualFunc_Packet lv
theorem cs_ok (n : Nat) : CtxOk Try.prog (cs n) := ctxOf_ok rfl tis_ok t_slices_EqualFunc_Packet_ok n
def enc (r : R) : Out := ((.c (.bool r)), [])
def dec : Out → Option R
  | ((.c (.bool v0)), []) => some v0
  | _ => none
theorem dec_ok : ∀ u y, dec u = some y → u = enc y := by
  intro u y h
  unfold dec at h
  split at h
  · cases h; rfl
  · cases h
noncomputable def b0 : Code := subF [] Try.f3
noncomputable def K0 (k : Nat) : Kt R := kTop (cs k) Try.f3 dec
noncomputable def b6 : Code := sub [1, 1, 1, 1, 0, 1, 0, 0] b0
noncomputable def K6 ( k : Nat) : Kt R := kAt (cs k) (loopN cs k) [1, 1, 1, 1, 0, 1, 0] b0 (K0 k)
noncomputable def c1000010 : Code := sub [1, 1, 1] b6
noncomputable def J1000010 ( k m1 : Nat) : Kt R := kAt (cs m1) (loopN cs m1) [1, 1, 1] b6 (kLoop cs m1 b6 (K6 k))
noncomputable def b13 : Code := sub [1, 1, 1, 1, 1, 1, 0, 1, 0, 0] b0
noncomputable def K13 ( k : Nat) : Kt R := kAt (cs k) (loopN cs k) [1, 1, 1, 1, 1, 1, 0, 1, 0] b0 (K0 k)
abbrev T0 : Type := List Int × Int × Int × List Int × Int × List Int
def s0 : T0 → St := fun (v0, v1, v2, v3, v4, v5) => ⟨66, 0, [(5, (.c (.ptr 64000000 0))), (6, (.c (.sl 64000001))), (20, (.c (.frz (.int .u8) v0))), (21, (.c (.int .i64 v1))), (22, (.c (.int .i64 v2)))], [], [(256000000, .gone), (64000000, (.box [(.frz (.int .i64) v3), (.int .i64 v4)])), (64000001, (.row (.int .u8) v5))]⟩
noncomputable def l0 ( k n : Nat) (v : T0) : Option R := held (loopN cs n b6 (K6 k) (s0 v))
noncomputable def D0 (v : T0) : Option R := lim fun L => l0 (L 0) (L 1) v
theorem D0_cn (v : T0) : Cn late (D0 v) fun L => l0 (L 0) (L 1) v := of_lim
abbrev T1 : Type := List Int × Int × Int × List Int × Int × List Int
def s1 : T1 → St := fun (v0, v1, v2, v3, v4, v5) => ⟨66, 0, [(5, (.c (.ptr 64000000 0))), (6, (.c (.sl 64000001))), (20, (.c (.frz (.int .u8) v0))), (21, (.c (.int .i64 v1))), (22, (.c (.int .i64 v2)))], [], [(256000000, .gone), (64000000, (.box [(.frz (.int .i64) v3), (.int .i64 v4)])), (64000001, (.row (.int .u8) v5))]⟩
noncomputable def l1 ( k m1 : Nat) (v : T1) : Option R := held (run (cs m1) (loopN cs m1) c1000010 (J1000010 k m1) (s1 v))
noncomputable def D1 (v : T1) : Option R := lim fun L => l1 (L 0) (L 1) v
theorem D1_cn (v : T1) : Cn late (D1 v) fun L => l1 (L 0) (L 1) v := of_lim
abbrev T2 : Type := Int × Int × List Int × Int × List Int × List (Int × Int × Int × List Int)
def s2 : T2 → St := fun (v0, v1, v2, v3, v4, v5) => ⟨66, 0, [(5, (.c (.ptr 64000000 0))), (6, (.c (.sl 64000001))), (9, (.c (.sl 64000002))), (34, (.c (.int .i64 v0))), (35, (.c (.int .i64 v1)))], [], [(256000000, .gone), (64000000, (.box [(.frz (.int .i64) v2), (.int .i64 v3)])), (64000001, (.row (.int .u8) v4)), (64000002, (.row (.pair (.int .i64) (.pair (.int .i64) (.pair (.int .i64) (.slice (.int .u8))))) v5))]⟩
noncomputable def l2 ( k n : Nat) (v : T2) : Option R := held (loopN cs n b13 (K13 k) (s2 v))
noncomputable def D2 (v : T2) : Option R := lim fun L => l2 (L 0) (L 1) v
theorem D2_cn (v : T2) : Cn late (D2 v) fun L => l2 (L 0) (L 1) v := of_lim
def d0 (L1m1 : T1 → Option R) (spymake_Stream_Next_k : spymake_Stream_Next.A → Option spymake_Stream_Next.R) (L2k : T2 → Option R) : T0 → Option R := fun (v0, v1, v2, v3, v4, v5) =>
br (decide (v2 < v1))
  (br (decide (0 ≤ v2 ∧ v2 < (↑v0.length : Int)))
    (br (!decide (rd (Ty.int IntKind.u8) v0 v2 = 126))
      (br (decide (v5.length + [rd (Ty.int IntKind.u8) v0 v2].length ≤ 140737488355328 / (1 + (1 - 1)))) (L1m1 (v0, v1, v2, v3, v4, v5 ++ [rd (Ty.int IntKind.u8) v0 v2])) none) (L1m1 (v0, v1, v2, v3, v4, v5)))
    none)
  (bnd (spymake_Stream_Next_k (6, v3, v4)) fun r => L2k (r.fst, 0, r.snd.fst, r.snd.snd, v5, []))
theorem d0_cn {ι : Type} {E : Fil ι} {L1m1 : T1 → Option R} {L1m1' : ι → T1 → Option R} (hL1m1 : ∀ v, Cn E (L1m1 v) fun i => L1m1' i v) {spymake_Stream_Next_k : spymake_Stream_Next.A → Option spymake_Stream_Next.R} {spymake_Stream_Next_k' : ι → spymake_Stream_Next.A → Option spymake_Stream_Next.R} (hspymake_Stream_Next_k : ∀ v, Cn E (spymake_Stream_Next_k v) fun i => spymake_Stream_Next_k' i v) {L2k : T2 → Option R} {L2k' : ι → T2 → Option R} (hL2k : ∀ v, Cn E (L2k v) fun i => L2k' i v) : ∀ v : T0, Cn E (d0 L1m1 spymake_Stream_Next_k L2k v) fun i => d0 (L1m1' i) (spymake_Stream_Next_k' i) (L2k' i) v := fun (v0, v1, v2, v3, v4, v5) => (.br (.br (.br (.br (hL1m1 _) .none) (hL1m1 _)) .none) (.bnd (hspymake_Stream_Next_k _) fun _ => (hL2k _)))
theorem l0_b ( k m1 : Nat) : ∀ v : T0, run (cs m1) (loopN cs m1) b6 (kLoop cs m1 b6 (K6 k)) (s0 v) = d0 (l1 k m1) (spymake_Stream_Next.f k) (l2 k k) v := fun (v0, v1, v2, v3, v4, v5) => by kernel_rfl
theorem D0_of (v : T0) {r : R} (h : d0 D1 spymake_Stream_Next.F D2 v = some r) : D0 v = some r :=
  loop_of 1 (l := fun L => l0 (L 0) (L 1) v) (d := fun L => d0 (l1 (L 0) (L 1)) (spymake_Stream_Next.f (L 0)) (l2 (L 0) (L 0)) v) (fun L n hn => by show l0 (L 0) (L 1) v = _; rw [hn]; exact (held_eq _).trans ((loopN_succ _ _ _ _ _).trans (l0_b (L 0) n v))) (d0_cn (fun v => (D1_cn v).re [0, 1]) (spymake_Stream_Next.F_cn 0) (fun v => (D2_cn v).re [0, 0]) v) h
def d1 (L0m1 : T0 → Option R) : T1 → Option R := fun (v0, v1, v2, v3, v4, v5) =>
L0m1 (v0, v1, wrap IntKind.i64 (v2 + 1), v3, v4, v5)
theorem d1_cn {ι : Type} {E : Fil ι} {L0m1 : T0 → Option R} {L0m1' : ι → T0 → Option R} (hL0m1 : ∀ v, Cn E (L0m1 v) fun i => L0m1' i v) : ∀ v : T1, Cn E (d1 L0m1 v) fun i => d1 (L0m1' i) v := fun (v0, v1, v2, v3, v4, v5) => (hL0m1 _)
theorem l1_b ( k m1 : Nat) : ∀ v : T1, run (cs m1) (loopN cs m1) c1000010 (J1000010 k m1) (s1 v) = d1 (l0 k m1) v := fun (v0, v1, v2, v3, v4, v5) => by kernel_rfl
theorem D1_of (v : T1) {r : R} (h : d1 D0 v = some r) : D1 v = some r :=
  join_of (l := fun L => l1 (L 0) (L 1) v) (d := fun L => d1 (l0 (L 0) (L 1)) v) (fun L => (held_eq _).trans (l1_b (L 0) (L 1) v)) (d1_cn (fun v => (D0_cn v).re [0, 1]) v) h
def d2 (spykeep2_packet_m1 : spykeep2_packet.A → Option spykeep2_packet.R) (bus_Encode_m1 : bus_Encode.A → Option bus_Encode.R) (L2m1 : T2 → Option R) (bus_Decode_k : bus_Decode.A → Option bus_Decode.R) (slices_EqualFunc_Packet_k : slices_EqualFunc_Packet.A → Option slices_EqualFunc_Packet.R) : T2 → Option R := fun (v0, v1, v2, v3, v4, v5) =>
br (decide (v1 < v0))
  (bnd (spykeep2_packet_m1 (v2, v3)) fun r =>
    bnd (bus_Encode_m1 (r.fst, r.snd.fst, r.snd.snd.fst, r.snd.snd.snd.snd.snd)) fun r_1 =>
      br (!decide (r_1.fst = 0)) (some false)
        (br (decide (v5.length + [(r.fst, r.snd.fst, r.snd.snd.fst, r.snd.snd.snd.snd.snd)].length ≤ 140737488355328 / (48 + (1 - 48))))
          (br (decide (v4.length + r_1.snd.length ≤ 140737488355328 / (1 + (1 - 1))))
            (L2m1 (v0, wrap IntKind.i64 (v1 + 1), r.snd.snd.snd.fst, r.snd.snd.snd.snd.fst, v4 ++ r_1.snd, v5 ++ [(r.fst, r.snd.fst, r.snd.snd.fst, r.snd.snd.snd.snd.snd)])) none)
          none))
  (bnd (bus_Decode_k v4) fun r => br (decide (r.fst = 0) == true) (bnd (slices_EqualFunc_Packet_k (r.snd, v5)) fun r => some r) (some false))
theorem d2_cn {ι : Type} {E : Fil ι} {spykeep2_packet_m1 : spykeep2_packet.A → Option spykeep2_packet.R} {spykeep2_packet_m1' : ι → spykeep2_packet.A → Option spykeep2_packet.R} (hspykeep2_packet_m1 : ∀ v, Cn E (spykeep2_packet_m1 v) fun i => spykeep2_packet_m1' i v) {bus_Encode_m1 : bus_Encode.A → Option bus_Encode.R} {bus_Encode_m1' : ι → bus_Encode.A → Option bus_Encode.R} (hbus_Encode_m1 : ∀ v, Cn E (bus_Encode_m1 v) fun i => bus_Encode_m1' i v) {L2m1 : T2 → Option R} {L2m1' : ι → T2 → Option R} (hL2m1 : ∀ v, Cn E (L2m1 v) fun i => L2m1' i v) {bus_Decode_k : bus_Decode.A → Option bus_Decode.R} {bus_Decode_k' : ι → bus_Decode.A → Option bus_Decode.R} (hbus_Decode_k : ∀ v, Cn E (bus_Decode_k v) fun i => bus_Decode_k' i v) {slices_EqualFunc_Packet_k : slices_EqualFunc_Packet.A → Option slices_EqualFunc_Packet.R} {slices_EqualFunc_Packet_k' : ι → slices_EqualFunc_Packet.A → Option slices_EqualFunc_Packet.R} (hslices_EqualFunc_Packet_k : ∀ v, Cn E (slices_EqualFunc_Packet_k v) fun i => slices_EqualFunc_Packet_k' i v) : ∀ v : T2, Cn E (d2 spykeep2_packet_m1 bus_Encode_m1 L2m1 bus_Decode_k slices_EqualFunc_Packet_k v) fun i => d2 (spykeep2_packet_m1' i) (bus_Encode_m1' i) (L2m1' i) (bus_Decode_k' i) (slices_EqualFunc_Packet_k' i) v := fun (v0, v1, v2, v3, v4, v5) => (.br (.bnd (hspykeep2_packet_m1 _) fun _ => (.bnd (hbus_Encode_m1 _) fun _ => (.br .some (.br (.br (hL2m1 _) .none) .none)))) (.bnd (hbus_Decode_k _) fun _ => (.br (.bnd (hslices_EqualFunc_Packet_k _) fun _ => .some) .some)))
theorem l2_b ( k m1 : Nat) : ∀ v : T2, run (cs m1) (loopN cs m1) b13 (kLoop cs m1 b13 (K13 k)) (s2 v) = d2 (spykeep2_packet.f m1) (bus_Encode.f m1) (l2 k m1) (bus_Decode.f k) (slices_EqualFunc_Packet.f k) v := fun (v0, v1, v2, v3, v4, v5) => by kernel_rfl
theorem D2_of (v : T2) {r : R} (h : d2 spykeep2_packet.F bus_Encode.F D2 bus_Decode.F slices_EqualFunc_Packet.F v = some r) : D2 v = some r :=
  loop_of 1 (l := fun L => l2 (L 0) (L 1) v) (d := fun L => d2 (spykeep2_packet.f (L 1)) (bus_Encode.f (L 1)) (l2 (L 0) (L 1)) (bus_Decode.f (L 0)) (slices_EqualFunc_Packet.f (L 0)) v) (fun L n hn => by show l2 (L 0) (L 1) v = _; rw [hn]; exact (held_eq _).trans ((loopN_succ _ _ _ _ _).trans (l2_b (L 0) n v))) (d2_cn (spykeep2_packet.F_cn 1) (bus_Encode.F_cn 1) (fun v => (D2_cn v).re [0, 1]) (bus_Decode.F_cn 0) (slices_EqualFunc_Packet.F_cn 0) v) h
noncomputable def f (k : Nat) : A → Option R := fun (v0, v1) => held (runFn cs k Try.f3 [(.c (.frz (.int .i64) v0)), (.c (.frz (.int .u8) v1))] [] dec)
noncomputable def F (v : A) : Option R := lim fun L => f (L 0) v
theorem F_cn (x : Nat) (v : A) : Cn late (F v) fun L => f (L x) v := of_lim.re [x]
def d (spykeep2_carries_k : spykeep2_carries.A → Option spykeep2_carries.R) (L0k : T0 → Option R) : A → Option R := fun (v0, v1) =>
bnd (spykeep2_carries_k ()) fun r => br (!r) (some false) (L0k (v1, (↑v1.length : Int), 0, v0, 0, []))
theorem d_cn {ι : Type} {E : Fil ι} {spykeep2_carries_k : spykeep2_carries.A → Option spykeep2_carries.R} {spykeep2_carries_k' : ι → spykeep2_carries.A → Option spykeep2_carries.R} (hspykeep2_carries_k : ∀ v, Cn E (spykeep2_carries_k v) fun i => spykeep2_carries_k' i v) {L0k : T0 → Option R} {L0k' : ι → T0 → Option R} (hL0k : ∀ v, Cn E (L0k v) fun i => L0k' i v) : ∀ v : A, Cn E (d spykeep2_carries_k L0k v) fun i => d (spykeep2_carries_k' i) (L0k' i) v := fun (v0, v1) => (.bnd (hspykeep2_carries_k _) fun _ => (.br .some (hL0k _)))
theorem f_b (k : Nat) : ∀ v : A, f k v = d (spykeep2_carries.f k) (l0 k k) v := fun (v0, v1) => (held_eq _).trans (by kernel_rfl)
theorem F_of (v : A) {r : R} (h : d spykeep2_carries.F D0 v = some r) : F v = some r :=
  join_of (l := fun L => f (L 0) v) (d := fun L => d (spykeep2_carries.f (L 0)) (l0 (L 0) (L 0)) v) (fun L => f_b (L 0) v) (d_cn (spykeep2_carries.F_cn 0) (fun v => (D0_cn v).re [0, 0]) v) h
noncomputable def spec (k : Nat) (args : List AV) (ss : List Slot) : Option Ans :=
  match args, ss with
  | [(.c (.frz (.int .i64) v0)), (.c (.frz (.int .u8) v1))], [] => some ⟨R, f k (v0, v1), enc⟩
  | _, _ => none
theorem spec_ok (k : Nat) : SpecOk Try.prog 3 (spec k) := by
  intro args ss ans x h hx X σ w vals hp
  unfold spec at h
  split at h
  · cases h
    exact spec_of cs_ok Try.func3 rfl rfl dec_ok (held_eq _).symm hx hp
  · cases h
end spykeep2_BusBack
noncomputable def t_spykeep2_BusBack (k : Nat) := tcons 3 (spykeep2_BusBack.spec k) (t_slices_EqualFunc_Packet k)
theorem t_spykeep2_BusBack_ok (n g : Nat) : SpecOk Try.prog g (t_spykeep2_BusBack n g) := tcons_ok (spykeep2_BusBack.spec_ok n) (fun g => t_slices_EqualFunc_Packet_ok n g) g
namespace slices_Grow_byte
abbrev R : Type := List Int
abbrev A : Type := Int
def lv : List (Nat × List Nat) := [(2000000, [4]), (1000006, [0])]
noncomputable def cs : Nat → Ctx := ctxOf tis modes t_spykeep2_BusBack lv
theorem cs_ok (n : Nat) : CtxOk Try.prog (cs n) := ctxOf_ok rfl tis_ok t_spykeep2_BusBack_ok n
def enc (r : R) : Out := ((.c (.sl 128000000)), [(.row (.int .u8) r)])
def dec : Out → Option R
  | ((.c (.sl 128000000)), [(.row (.int .u8) v0)]) => some v0
  | _ => none
theorem dec_ok : ∀ u y, dec u = some y → u = enc y := by
  intro u y h
  unfold dec at h
  split at h
  · cases h; rfl
  · cases h
noncomputable def b0 : Code := subF [] Try.f30
noncomputable def K0 (k : Nat) : Kt R := kTop (cs k) Try.f30 dec
noncomputable def c1000006 : Code := sub [1, 1, 1] b0
noncomputable def J1000006 ( k : Nat) : Kt R := kAt (cs k) (loopN cs k) [1, 1, 1] b0 (K0 k)
abbrev T0 : Type := List Int
def s0 : T0 → St := fun v0 => ⟨27, 0, [(0, (.c (.sl 64000000)))], [], [(256000000, .gone), (64000000, (.row (.int .u8) v0))]⟩
noncomputable def l0 ( k : Nat) (v : T0) : Option R := held (run (cs k) (loopN cs k) c1000006 (J1000006 k) (s0 v))
noncomputable def D0 (v : T0) : Option R := lim fun L => l0 (L 0) v
theorem D0_cn (v : T0) : Cn late (D0 v) fun L => l0 (L 0) v := of_lim
def d0 : T0 → Option R := fun v0 =>
some v0
theorem d0_cn {ι : Type} {E : Fil ι} : ∀ v : T0, Cn E (d0 v) fun i => d0 v := fun v0 => .some
theorem l0_b ( k : Nat) : ∀ v : T0, run (cs k) (loopN cs k) c1000006 (J1000006 k) (s0 v) = d0 v := fun v0 => by kernel_rfl
theorem D0_of (v : T0) {r : R} (h : d0 v = some r) : D0 v = some r :=
  join_of (l := fun L => l0 (L 0) v) (d := fun L => d0 v) (fun L => (held_eq _).trans (l0_b (L 0) v)) (d0_cn v) h
noncomputable def f (k : Nat) : A → Option R := fun v0 => held (runFn cs k Try.f30 [(.c (.nilsl .other)), (.c (.int .i64 v0))] [] dec)
noncomputable def F (v : A) : Option R := lim fun L => f (L 0) v
theorem F_cn (x : Nat) (v : A) : Cn late (F v) fun L => f (L x) v := of_lim.re [x]
def d (L0k : T0 → Option R) : A → Option R := fun v0 =>
br (decide (v0 < 0)) none
  (br (decide (0 < wrap IntKind.i64 (v0 - wrap IntKind.i64 (0 - (↑0 : Int)))))
    (br (decide ((0 : Int) ≤ 0 ∧ (0 : Int) ≤ 0))
      (br (decide (0 ≤ wrap IntKind.i64 (v0 - wrap IntKind.i64 (0 - (↑0 : Int))) ∧ wrap IntKind.i64 (v0 - wrap IntKind.i64 (0 - (↑0 : Int))) ≤ (↑(140737488355328 / (1 + (1 - 1))) : Int)))
        (br (decide (0 ≤ (↑0 : Int) ∧ (↑0 : Int) ≤ (↑(List.replicate (wrap IntKind.i64 (v0 - wrap IntKind.i64 (0 - (↑0 : Int)))).toNat (Ty.int IntKind.u8).dflt).length : Int)))
          (L0k (List.drop (Int.toNat 0) (List.take (↑0 : Int).toNat (List.replicate (wrap IntKind.i64 (v0 - wrap IntKind.i64 (0 - (↑0 : Int)))).toNat (Ty.int IntKind.u8).dflt)))) none)
        none)
      none)
    (L0k []))
theorem d_cn {ι : Type} {E : Fil ι} {L0k : T0 → Option R} {L0k' : ι → T0 → Option R} (hL0k : ∀ v, Cn E (L0k v) fun i => L0k' i v) : ∀ v : A, Cn E (d L0k v) fun i => d (L0k' i) v := fun v0 => (.br .none (.br (.br (.br (.br (hL0k _) .none) .none) .none) (hL0k _)))
theorem f_b (k : Nat) : ∀ v : A, f k v = d (l0 k) v := fun v0 => (held_eq _).trans (by kernel_rfl)
theorem F_of (v : A) {r : R} (h : d D0 v = some r) : F v = some r :=
  join_of (l := fun L => f (L 0) v) (d := fun L => d (l0 (L 0)) v) (fun L => f_b (L 0) v) (d_cn (fun v => (D0_cn v).re [0]) v) h
noncomputable def spec (k : Nat) (args : List AV) (ss : List Slot) : Option Ans :=
  match args, ss with
  | [(.c (.nilsl .other)), (.c (.int .i64 v0))], [] => some ⟨R, f k v0, enc⟩
  | _, _ => none
theorem spec_ok (k : Nat) : SpecOk Try.prog 30 (spec k) := by
  intro args ss ans x h hx X σ w vals hp
  unfold spec at h
  split at h
  · cases h
    exact spec_of cs_ok Try.func30 rfl rfl dec_ok (held_eq _).symm hx hp
  · cases h
end slices_Grow_byte
noncomputable def t_slices_Grow_byte (k : Nat) := tcons 30 (slices_Grow_byte.spec k) (t_spykeep2_BusBack k)
theorem t_slices_Grow_byte_ok (n g : Nat) : SpecOk Try.prog g (t_slices_Grow_byte n g) := tcons_ok (slices_Grow_byte.spec_ok n) (fun g => t_spykeep2_BusBack_ok n g) g
namespace slices_Concat_byte
abbrev R : Type := List Int
abbrev A : Type := List (List Int)
def lv : List (Nat × List Nat) := [(2000000, [2]), (3, [0, 3, 9, 10, 11]), (11, [6, 25, 26, 27])]
noncomputable def cs : Nat → Ctx := ctxOf tis modes t_slices_Grow_byte lv
theorem cs_ok (n : Nat) : CtxOk Try.prog (cs n) := ctxOf_ok rfl tis_ok t_slices_Grow_byte_ok n
def enc (r : R) : Out := ((.c (.sl 128000000)), [(.row (.int .u8) r)])
def dec : Out → Option R
  | ((.c (.sl 128000000)), [(.row (.int .u8) v0)]) => some v0
  | _ => none
theorem dec_ok : ∀ u y, dec u = some y → u = enc y := by
  intro u y h
  unfold dec at h
  split at h
  · cases h; rfl
  · cases h
noncomputable def b0 : Code := subF [] Try.f17
noncomputable def K0 (k : Nat) : Kt R := kTop (cs k) Try.f17 dec
noncomputable def b3 : Code := sub [1, 1, 0, 1, 0, 0] b0
noncomputable def K3 ( k : Nat) : Kt R := kAt (cs k) (loopN cs k) [1, 1, 0, 1, 0] b0 (K0 k)
noncomputable def b11 : Code := sub [1, 1, 1, 1, 0, 1, 0, 0] b0
noncomputable def K11 ( k : Nat) : Kt R := kAt (cs k) (loopN cs k) [1, 1, 1, 1, 0, 1, 0] b0 (K0 k)
abbrev T0 : Type := List (List Int) × Int × List (List Int) × Int × Int
def s0 : T0 → St := fun (v0, v1, v2, v3, v4) => ⟨36, 0, [(0, (.c (.frz (.slice (.int .u8)) v0))), (3, (.c (.int .i64 v1))), (9, (.c (.frz (.slice (.int .u8)) v2))), (10, (.c (.int .i64 v3))), (11, (.c (.int .i64 v4)))], [], [(256000000, .gone)]⟩
noncomputable def l0 ( k n : Nat) (v : T0) : Option R := held (loopN cs n b3 (K3 k) (s0 v))
noncomputable def D0 (v : T0) : Option R := lim fun L => l0 (L 0) (L 1) v
theorem D0_cn (v : T0) : Cn late (D0 v) fun L => l0 (L 0) (L 1) v := of_lim
abbrev T1 : Type := List (List Int) × Int × Int × List Int
def s1 : T1 → St := fun (v0, v1, v2, v3) => ⟨36, 0, [(6, (.c (.sl 64000000))), (25, (.c (.frz (.slice (.int .u8)) v0))), (26, (.c (.int .i64 v1))), (27, (.c (.int .i64 v2)))], [], [(256000000, .gone), (64000000, (.row (.int .u8) v3))]⟩
noncomputable def l1 ( k n : Nat) (v : T1) : Option R := held (loopN cs n b11 (K11 k) (s1 v))
noncomputable def D1 (v : T1) : Option R := lim fun L => l1 (L 0) (L 1) v
theorem D1_cn (v : T1) : Cn late (D1 v) fun L => l1 (L 0) (L 1) v := of_lim
def d0 (L0m1 : T0 → Option R) (slices_Grow_byte_k : slices_Grow_byte.A → Option slices_Grow_byte.R) (L1k : T1 → Option R) : T0 → Option R := fun (v0, v1, v2, v3, v4) =>
br (decide (v4 < v3))
  (br (decide (0 ≤ v4 ∧ v4 < (↑v2.length : Int)))
    (br (decide (wrap IntKind.i64 (v1 + (↑(List.length (rd (Ty.int IntKind.u8).slice v2 v4)) : Int)) < 0)) none
      (L0m1 (v0, wrap IntKind.i64 (v1 + (↑(List.length (rd (Ty.int IntKind.u8).slice v2 v4)) : Int)), v2, v3, wrap IntKind.i64 (v4 + 1))))
    none)
  (bnd (slices_Grow_byte_k v1) fun r => L1k (v0, (↑v0.length : Int), 0, r))
theorem d0_cn {ι : Type} {E : Fil ι} {L0m1 : T0 → Option R} {L0m1' : ι → T0 → Option R} (hL0m1 : ∀ v, Cn E (L0m1 v) fun i => L0m1' i v) {slices_Grow_byte_k : slices_Grow_byte.A → Option slices_Grow_byte.R} {slices_Grow_byte_k' : ι → slices_Grow_byte.A → Option slices_Grow_byte.R} (hslices_Grow_byte_k : ∀ v, Cn E (slices_Grow_byte_k v) fun i => slices_Grow_byte_k' i v) {L1k : T1 → Option R} {L1k' : ι → T1 → Option R} (hL1k : ∀ v, Cn E (L1k v) fun i => L1k' i v) : ∀ v : T0, Cn E (d0 L0m1 slices_Grow_byte_k L1k v) fun i => d0 (L0m1' i) (slices_Grow_byte_k' i) (L1k' i) v := fun (v0, v1, v2, v3, v4) => (.br (.br (.br .none (hL0m1 _)) .none) (.bnd (hslices_Grow_byte_k _) fun _ => (hL1k _)))
theorem l0_b ( k m1 : Nat) : ∀ v : T0, run (cs m1) (loopN cs m1) b3 (kLoop cs m1 b3 (K3 k)) (s0 v) = d0 (l0 k m1) (slices_Grow_byte.f k) (l1 k k) v := fun (v0, v1, v2, v3, v4) => by kernel_rfl
theorem D0_of (v : T0) {r : R} (h : d0 D0 slices_Grow_byte.F D1 v = some r) : D0 v = some r :=
  loop_of 1 (l := fun L => l0 (L 0) (L 1) v) (d := fun L => d0 (l0 (L 0) (L 1)) (slices_Grow_byte.f (L 0)) (l1 (L 0) (L 0)) v) (fun L n hn => by show l0 (L 0) (L 1) v = _; rw [hn]; exact (held_eq _).trans ((loopN_succ _ _ _ _ _).trans (l0_b (L 0) n v))) (d0_cn (fun v => (D0_cn v).re [0, 1]) (slices_Grow_byte.F_cn 0) (fun v => (D1_cn v).re [0, 0]) v) h
def d1 (L1m1 : T1 → Option R) : T1 → Option R := fun (v0, v1, v2, v3) =>
br (decide (v2 < v1))
  (br (decide (0 ≤ v2 ∧ v2 < (↑v0.length : Int)))
    (br (decide (v3.length + List.length (rd (Ty.int IntKind.u8).slice v0 v2) ≤ 140737488355328 / (1 + (1 - 1)))) (L1m1 (v0, v1, wrap IntKind.i64 (v2 + 1), v3 ++ rd (Ty.int IntKind.u8).slice v0 v2)) none) none)
  (some v3)
theorem d1_cn {ι : Type} {E : Fil ι} {L1m1 : T1 → Option R} {L1m1' : ι → T1 → Option R} (hL1m1 : ∀ v, Cn E (L1m1 v) fun i => L1m1' i v) : ∀ v : T1, Cn E (d1 L1m1 v) fun i => d1 (L1m1' i) v := fun (v0, v1, v2, v3) => (.br (.br (.br (hL1m1 _) .none) .none) .some)
theorem l1_b ( k m1 : Nat) : ∀ v : T1, run (cs m1) (loopN cs m1) b11 (kLoop cs m1 b11 (K11 k)) (s1 v) = d1 (l1 k m1) v := fun (v0, v1, v2, v3) => by kernel_rfl
theorem D1_of (v : T1) {r : R} (h : d1 D1 v = some r) : D1 v = some r :=
  loop_of 1 (l := fun L => l1 (L 0) (L 1) v) (d := fun L => d1 (l1 (L 0) (L 1)) v) (fun L n hn => by show l1 (L 0) (L 1) v = _; rw [hn]; exact (held_eq _).trans ((loopN_succ _ _ _ _ _).trans (l1_b (L 0) n v))) (d1_cn (fun v => (D1_cn v).re [0, 1]) v) h
noncomputable def f (k : Nat) : A → Option R := fun v0 => held (runFn cs k Try.f17 [(.c (.frz (.slice (.int .u8)) v0))] [] dec)
noncomputable def F (v : A) : Option R := lim fun L => f (L 0) v
theorem F_cn (x : Nat) (v : A) : Cn late (F v) fun L => f (L x) v := of_lim.re [x]
def d (L0k : T0 → Option R) : A → Option R := fun v0 =>
L0k (v0, 0, v0, (↑v0.length : Int), 0)
theorem d_cn {ι : Type} {E : Fil ι} {L0k : T0 → Option R} {L0k' : ι → T0 → Option R} (hL0k : ∀ v, Cn E (L0k v) fun i => L0k' i v) : ∀ v : A, Cn E (d L0k v) fun i => d (L0k' i) v := fun v0 => (hL0k _)
theorem f_b (k : Nat) : ∀ v : A, f k v = d (l0 k k) v := fun v0 => (held_eq _).trans (by kernel_rfl)
theorem F_of (v : A) {r : R} (h : d D0 v = some r) : F v = some r :=
  join_of (l := fun L => f (L 0) v) (d := fun L => d (l0 (L 0) (L 0)) v) (fun L => f_b (L 0) v) (d_cn (fun v => (D0_cn v).re [0, 0]) v) h
noncomputable def spec (k : Nat) (args : List AV) (ss : List Slot) : Option Ans :=
  match args, ss with
  | [(.c (.frz (.slice (.int .u8)) v0))], [] => some ⟨R, f k v0, enc⟩
  | _, _ => none
theorem spec_ok (k : Nat) : SpecOk Try.prog 17 (spec k) := by
  intro args ss ans x h hx X σ w vals hp
  unfold spec at h
  split at h
  · cases h
    exact spec_of cs_ok Try.func17 rfl rfl dec_ok (held_eq _).symm hx hp
  · cases h
end slices_Concat_byte
noncomputable def t_slices_Concat_byte (k : Nat) := tcons 17 (slices_Concat_byte.spec k) (t_slices_Grow_byte k)
theorem t_slices_Concat_byte_ok (n g : Nat) : SpecOk Try.prog g (t_slices_Concat_byte n g) := tcons_ok (slices_Concat_byte.spec_ok n) (fun g => t_slices_Grow_byte_ok n g) g
namespace spykeep2_BusCut
abbrev R : Type := Bool
abbrev A : Type := List Int × Int
def lv : List (Nat × List Nat) := [(2000000, [4])]
noncomputable def cs : Nat → Ctx := ctxOf tis modes t_slices_Concat_byte lv
theorem cs_ok (n : Nat) : CtxOk Try.prog (cs n) := ctxOf_ok rfl tis_ok t_slices_Concat_byte_ok n
def enc (r : R) : Out := ((.c (.bool r)), [])
def dec : Out → Option R
  | ((.c (.bool v0)), []) => some v0
  | _ => none
theorem dec_ok : ∀ u y, dec u = some y → u = enc y := by
  intro u y h
  unfold dec at h
  split at h
  · cases h; rfl
  · cases h
noncomputable def b0 : Code := subF [] Try.f4
noncomputable def K0 (k : Nat) : Kt R := kTop (cs k) Try.f4 dec
noncomputable def f (k : Nat) : A → Option R := fun (v0, v1) => held (runFn cs k Try.f4 [(.c (.frz (.int .i64) v0)), (.c (.int .i64 v1))] [] dec)
noncomputable def F (v : A) : Option R := lim fun L => f (L 0) v
theorem F_cn (x : Nat) (v : A) : Cn late (F v) fun L => f (L x) v := of_lim.re [x]
def d (spykeep2_carries_k : spykeep2_carries.A → Option spykeep2_carries.R) (spykeep2_packet_k : spykeep2_packet.A → Option spykeep2_packet.R) (bus_Encode_k : bus_Encode.A → Option bus_Encode.R) (spymake_Below_k : spymake_Below.A → Option spymake_Below.R) (slices_Concat_byte_k : slices_Concat_byte.A → Option slices_Concat_byte.R) (bus_Decode_k : bus_Decode.A → Option bus_Decode.R) (spykeep2_samePacket_k : spykeep2_samePacket.A → Option spykeep2_samePacket.R) : A → Option R := fun (v0, v1) =>
bnd (spykeep2_carries_k ()) fun r =>
  br (!r) (some false)
    (bnd (spykeep2_packet_k (v0, 0)) fun r =>
      bnd (spykeep2_packet_k (r.snd.snd.snd.fst, r.snd.snd.snd.snd.fst)) fun r_1 =>
        bnd (bus_Encode_k (r.fst, r.snd.fst, r.snd.snd.fst, r.snd.snd.snd.snd.snd)) fun r =>
          bnd (bus_Encode_k (r_1.fst, r_1.snd.fst, r_1.snd.snd.fst, r_1.snd.snd.snd.snd.snd)) fun r_2 =>
            br (!decide (r.fst = 0) || !decide (r_2.fst = 0) || decide ((↑r.snd.length : Int) < 7)) (some false)
              (bnd (spymake_Below_k (v1, wrap IntKind.i64 ((↑r.snd.length : Int) - 3))) fun r_3 =>
                br (decide (0 ≤ wrap IntKind.i64 (2 + r_3) ∧ wrap IntKind.i64 (2 + r_3) ≤ (↑r.snd.length : Int)))
                  (bnd (slices_Concat_byte_k [List.drop (Int.toNat 0) (List.take (wrap IntKind.i64 (2 + r_3)).toNat r.snd), r_2.snd]) fun r =>
                    bnd (bus_Decode_k r) fun r =>
                      br (!decide (0 < (↑r.snd.length : Int)) == true || decide (0 ≤ wrap IntKind.i64 ((↑r.snd.length : Int) - 1) ∧ wrap IntKind.i64 ((↑r.snd.length : Int) - 1) < (↑r.snd.length : Int)))
                        (br (decide (0 < (↑r.snd.length : Int)) == true)
                          (br (decide (0 < (↑r.snd.length : Int)) == true)
                            (br (decide (0 < (↑r.snd.length : Int)) == true)
                              (bnd
                                (spykeep2_samePacket_k
                                  ((rd ((Ty.int IntKind.i64).pair ((Ty.int IntKind.i64).pair ((Ty.int IntKind.i64).pair (Ty.int IntKind.u8).slice))) r.snd (wrap IntKind.i64 ((↑r.snd.length : Int) - 1))).fst,
                                    (rd ((Ty.int IntKind.i64).pair ((Ty.int IntKind.i64).pair ((Ty.int IntKind.i64).pair (Ty.int IntKind.u8).slice))) r.snd (wrap IntKind.i64 ((↑r.snd.length : Int) - 1))).snd.fst,
                                    (rd ((Ty.int IntKind.i64).pair ((Ty.int IntKind.i64).pair ((Ty.int IntKind.i64).pair (Ty.int IntKind.u8).slice))) r.snd (wrap IntKind.i64 ((↑r.snd.length : Int) - 1))).snd.snd.fst,
                                    (rd ((Ty.int IntKind.i64).pair ((Ty.int IntKind.i64).pair ((Ty.int IntKind.i64).pair (Ty.int IntKind.u8).slice))) r.snd (wrap IntKind.i64 ((↑r.snd.length : Int) - 1))).snd.snd.snd,
                                    r_1.fst, r_1.snd.fst, r_1.snd.snd.fst, r_1.snd.snd.snd.snd.snd))
                                fun r_4 => some (decide (0 < (↑r.snd.length : Int)) && r_4))
                              none)
                            (br (decide (0 < (↑r.snd.length : Int)) == true) none none))
                          (br (decide (0 < (↑r.snd.length : Int)) == true) (br (decide (0 < (↑r.snd.length : Int)) == true) none none) (br (decide (0 < (↑r.snd.length : Int)) == true) none none)))
                        none)
                  none))
theorem d_cn {ι : Type} {E : Fil ι} {spykeep2_carries_k : spykeep2_carries.A → Option spykeep2_carries.R} {spykeep2_carries_k' : ι → spykeep2_carries.A → Option spykeep2_carries.R} (hspykeep2_carries_k : ∀ v, Cn E (spykeep2_carries_k v) fun i => spykeep2_carries_k' i v) {spykeep2_packet_k : spykeep2_packet.A → Option spykeep2_packet.R} {spykeep2_packet_k' : ι → spykeep2_packet.A → Option spykeep2_packet.R} (hspykeep2_packet_k : ∀ v, Cn E (spykeep2_packet_k v) fun i => spykeep2_packet_k' i v) {bus_Encode_k : bus_Encode.A → Option bus_Encode.R} {bus_Encode_k' : ι → bus_Encode.A → Option bus_Encode.R} (hbus_Encode_k : ∀ v, Cn E (bus_Encode_k v) fun i => bus_Encode_k' i v) {spymake_Below_k : spymake_Below.A → Option spymake_Below.R} {spymake_Below_k' : ι → spymake_Below.A → Option spymake_Below.R} (hspymake_Below_k : ∀ v, Cn E (spymake_Below_k v) fun i => spymake_Below_k' i v) {slices_Concat_byte_k : slices_Concat_byte.A → Option slices_Concat_byte.R} {slices_Concat_byte_k' : ι → slices_Concat_byte.A → Option slices_Concat_byte.R} (hslices_Concat_byte_k : ∀ v, Cn E (slices_Concat_byte_k v) fun i => slices_Concat_byte_k' i v) {bus_Decode_k : bus_Decode.A → Option bus_Decode.R} {bus_Decode_k' : ι → bus_Decode.A → Option bus_Decode.R} (hbus_Decode_k : ∀ v, Cn E (bus_Decode_k v) fun i => bus_Decode_k' i v) {spykeep2_samePacket_k : spykeep2_samePacket.A → Option spykeep2_samePacket.R} {spykeep2_samePacket_k' : ι → spykeep2_samePacket.A → Option spykeep2_samePacket.R} (hspykeep2_samePacket_k : ∀ v, Cn E (spykeep2_samePacket_k v) fun i => spykeep2_samePacket_k' i v) : ∀ v : A, Cn E (d spykeep2_carries_k spykeep2_packet_k bus_Encode_k spymake_Below_k slices_Concat_byte_k bus_Decode_k spykeep2_samePacket_k v) fun i => d (spykeep2_carries_k' i) (spykeep2_packet_k' i) (bus_Encode_k' i) (spymake_Below_k' i) (slices_Concat_byte_k' i) (bus_Decode_k' i) (spykeep2_samePacket_k' i) v := fun (v0, v1) => (.bnd (hspykeep2_carries_k _) fun _ => (.br .some (.bnd (hspykeep2_packet_k _) fun _ => (.bnd (hspykeep2_packet_k _) fun _ => (.bnd (hbus_Encode_k _) fun _ => (.bnd (hbus_Encode_k _) fun _ => (.br .some (.bnd (hspymake_Below_k _) fun _ => (.br (.bnd (hslices_Concat_byte_k _) fun _ => (.bnd (hbus_Decode_k _) fun _ => (.br (.br (.br (.br (.bnd (hspykeep2_samePacket_k _) fun _ => .some) .none) (.br .none .none)) (.br (.br .none .none) (.br .none .none))) .none))) .none)))))))))
theorem f_b (k : Nat) : ∀ v : A, f k v = d (spykeep2_carries.f k) (spykeep2_packet.f k) (bus_Encode.f k) (spymake_Below.f k) (slices_Concat_byte.f k) (bus_Decode.f k) (spykeep2_samePacket.f k) v := fun (v0, v1) => (held_eq _).trans (by kernel_rfl)
theorem F_of (v : A) {r : R} (h : d spykeep2_carries.F spykeep2_packet.F bus_Encode.F spymake_Below.F slices_Concat_byte.F bus_Decode.F spykeep2_samePacket.F v = some r) : F v = some r :=
  join_of (l := fun L => f (L 0) v) (d := fun L => d (spykeep2_carries.f (L 0)) (spykeep2_packet.f (L 0)) (bus_Encode.f (L 0)) (spymake_Below.f (L 0)) (slices_Concat_byte.f (L 0)) (bus_Decode.f (L 0)) (spykeep2_samePacket.f (L 0)) v) (fun L => f_b (L 0) v) (d_cn (spykeep2_carries.F_cn 0) (spykeep2_packet.F_cn 0) (bus_Encode.F_cn 0) (spymake_Below.F_cn 0) (slices_Concat_byte.F_cn 0) (bus_Decode.F_cn 0) (spykeep2_samePacket.F_cn 0) v) h
noncomputable def spec (k : Nat) (args : List AV) (ss : List Slot) : Option Ans :=
  match args, ss with
  | [(.c (.frz (.int .i64) v0)), (.c (.int .i64 v1))], [] => some ⟨R, f k (v0, v1), enc⟩
  | _, _ => none
theorem spec_ok (k : Nat) : SpecOk Try.prog 4 (spec k) := by
  intro args ss ans x h hx X σ w vals hp
  unfold spec at h
  split at h
  · cases h
    exact spec_of cs_ok Try.func4 rfl rfl dec_ok (held_eq _).symm hx hp
  · cases h
end spykeep2_BusCut
noncomputable def t_spykeep2_BusCut (k : Nat) := tcons 4 (spykeep2_BusCut.spec k) (t_slices_Concat_byte k)
theorem t_spykeep2_BusCut_ok (n g : Nat) : SpecOk Try.prog g (t_spykeep2_BusCut n g) := tcons_ok (spykeep2_BusCut.spec_ok n) (fun g => t_slices_Concat_byte_ok n g) g
namespace slices_Index_int
abbrev R : Type := Int
abbrev A : Type := List Int × Int
def lv : List (Nat × List Nat) := [(2000000, [4]), (2, [0, 1, 7, 8])]
noncomputable def cs : Nat → Ctx := ctxOf tis modes t_spykeep2_BusCut lv
theorem cs_ok (n : Nat) : CtxOk Try.prog (cs n) := ctxOf_ok rfl tis_ok t_spykeep2_BusCut_ok n
def enc (r : R) : Out := ((.c (.int .i64 r)), [])
def dec : Out → Option R
  | ((.c (.int .i64 v0)), []) => some v0
  | _ => none
theorem dec_ok : ∀ u y, dec u = some y → u = enc y := by
  intro u y h
  unfold dec at h
  split at h
  · cases h; rfl
  · cases h
noncomputable def b0 : Code := subF [] Try.f33
noncomputable def K0 (k : Nat) : Kt R := kTop (cs k) Try.f33 dec
noncomputable def b2 : Code := sub [1, 0, 1, 0, 0] b0
noncomputable def K2 ( k : Nat) : Kt R := kAt (cs k) (loopN cs k) [1, 0, 1, 0] b0 (K0 k)
abbrev T0 : Type := List Int × Int × Int × Int
def s0 : T0 → St := fun (v0, v1, v2, v3) => ⟨19, 0, [(0, (.c (.frz (.int .i64) v0))), (1, (.c (.int .i64 v1))), (7, (.c (.int .i64 v2))), (8, (.c (.int .i64 v3)))], [], [(256000000, .gone)]⟩
noncomputable def l0 ( k n : Nat) (v : T0) : Option R := held (loopN cs n b2 (K2 k) (s0 v))
noncomputable def D0 (v : T0) : Option R := lim fun L => l0 (L 0) (L 1) v
theorem D0_cn (v : T0) : Cn late (D0 v) fun L => l0 (L 0) (L 1) v := of_lim
def d0 (L0m1 : T0 → Option R) : T0 → Option R := fun (v0, v1, v2, v3) =>
br (decide (v3 < v2)) (br (decide (0 ≤ v3 ∧ v3 < (↑v0.length : Int))) (br (decide (v1 = rd (Ty.int IntKind.i64) v0 v3)) (some v3) (L0m1 (v0, v1, v2, wrap IntKind.i64 (v3 + 1)))) none) (some (-1))
theorem d0_cn {ι : Type} {E : Fil ι} {L0m1 : T0 → Option R} {L0m1' : ι → T0 → Option R} (hL0m1 : ∀ v, Cn E (L0m1 v) fun i => L0m1' i v) : ∀ v : T0, Cn E (d0 L0m1 v) fun i => d0 (L0m1' i) v := fun (v0, v1, v2, v3) => (.br (.br (.br .some (hL0m1 _)) .none) .some)
theorem l0_b ( k m1 : Nat) : ∀ v : T0, run (cs m1) (loopN cs m1) b2 (kLoop cs m1 b2 (K2 k)) (s0 v) = d0 (l0 k m1) v := fun (v0, v1, v2, v3) => by kernel_rfl
theorem D0_of (v : T0) {r : R} (h : d0 D0 v = some r) : D0 v = some r :=
  loop_of 1 (l := fun L => l0 (L 0) (L 1) v) (d := fun L => d0 (l0 (L 0) (L 1)) v) (fun L n hn => by show l0 (L 0) (L 1) v = _; rw [hn]; exact (held_eq _).trans ((loopN_succ _ _ _ _ _).trans (l0_b (L 0) n v))) (d0_cn (fun v => (D0_cn v).re [0, 1]) v) h
noncomputable def f (k : Nat) : A → Option R := fun (v0, v1) => held (runFn cs k Try.f33 [(.c (.frz (.int .i64) v0)), (.c (.int .i64 v1))] [] dec)
noncomputable def F (v : A) : Option R := lim fun L => f (L 0) v
theorem F_cn (x : Nat) (v : A) : Cn late (F v) fun L => f (L x) v := of_lim.re [x]
def d (L0k : T0 → Option R) : A → Option R := fun (v0, v1) =>
L0k (v0, v1, (↑v0.length : Int), 0)
theorem d_cn {ι : Type} {E : Fil ι} {L0k : T0 → Option R} {L0k' : ι → T0 → Option R} (hL0k : ∀ v, Cn E (L0k v) fun i => L0k' i v) : ∀ v : A, Cn E (d L0k v) fun i => d (L0k' i) v := fun (v0, v1) => (hL0k _)
theorem f_b (k : Nat) : ∀ v : A, f k v = d (l0 k k) v := fun (v0, v1) => (held_eq _).trans (by kernel_rfl)
theorem F_of (v : A) {r : R} (h : d D0 v = some r) : F v = some r :=
  join_of (l := fun L => f (L 0) v) (d := fun L => d (l0 (L 0) (L 0)) v) (fun L => f_b (L 0) v) (d_cn (fun v => (D0_cn v).re [0, 0]) v) h
noncomputable def spec (k : Nat) (args : List AV) (ss : List Slot) : Option Ans :=
  match args, ss with
  | [(.c (.frz (.int .i64) v0)), (.c (.int .i64 v1))], [] => some ⟨R, f k (v0, v1), enc⟩
  | _, _ => none
theorem spec_ok (k : Nat) : SpecOk Try.prog 33 (spec k) := by
  intro args ss ans x h hx X σ w vals hp
  unfold spec at h
  split at h
  · cases h
    exact spec_of cs_ok Try.func33 rfl rfl dec_ok (held_eq _).symm hx hp
  · cases h
end slices_Index_int
noncomputable def t_slices_Index_int (k : Nat) := tcons 33 (slices_Index_int.spec k) (t_spykeep2_BusCut k)
theorem t_slices_Index_int_ok (n g : Nat) : SpecOk Try.prog g (t_slices_Index_int n g) := tcons_ok (slices_Index_int.spec_ok n) (fun g => t_spykeep2_BusCut_ok n g) g
namespace slices_Contains_int
abbrev R : Type := Bool
abbrev A : Type := List Int × Int
def lv : List (Nat × List Nat) := [(2000000, [4])]
noncomputable def cs : Nat → Ctx := ctxOf tis modes t_slices_Index_int lv
theorem cs_ok (n : Nat) : CtxOk Try.prog (cs n) := ctxOf_ok rfl tis_ok t_slices_Index_int_ok n
def enc (r : R) : Out := ((.c (.bool r)), [])
def dec : Out → Option R
  | ((.c (.bool v0)), []) => some v0
  | _ => none
theorem dec_ok : ∀ u y, dec u = some y → u = enc y := by
  intro u y h
  unfold dec at h
  split at h
  · cases h; rfl
  · cases h
noncomputable def b0 : Code := subF [] Try.f20
noncomputable def K0 (k : Nat) : Kt R := kTop (cs k) Try.f20 dec
noncomputable def f (k : Nat) : A → Option R := fun (v0, v1) => held (runFn cs k Try.f20 [(.c (.frz (.int .i64) v0)), (.c (.int .i64 v1))] [] dec)
noncomputable def F (v : A) : Option R := lim fun L => f (L 0) v
theorem F_cn (x : Nat) (v : A) : Cn late (F v) fun L => f (L x) v := of_lim.re [x]
def d (slices_Index_int_k : slices_Index_int.A → Option slices_Index_int.R) : A → Option R := fun (v0, v1) =>
bnd (slices_Index_int_k (v0, v1)) fun r => some (decide (0 ≤ r))
theorem d_cn {ι : Type} {E : Fil ι} {slices_Index_int_k : slices_Index_int.A → Option slices_Index_int.R} {slices_Index_int_k' : ι → slices_Index_int.A → Option slices_Index_int.R} (hslices_Index_int_k : ∀ v, Cn E (slices_Index_int_k v) fun i => slices_Index_int_k' i v) : ∀ v : A, Cn E (d slices_Index_int_k v) fun i => d (slices_Index_int_k' i) v := fun (v0, v1) => (.bnd (hslices_Index_int_k _) fun _ => .some)
theorem f_b (k : Nat) : ∀ v : A, f k v = d (slices_Index_int.f k) v := fun (v0, v1) => (held_eq _).trans (by kernel_rfl)
theorem F_of (v : A) {r : R} (h : d slices_Index_int.F v = some r) : F v = some r :=
  join_of (l := fun L => f (L 0) v) (d := fun L => d (slices_Index_int.f (L 0)) v) (fun L => f_b (L 0) v) (d_cn (slices_Index_int.F_cn 0) v) h
noncomputable def spec (k : Nat) (args : List AV) (ss : List Slot) : Option Ans :=
  match args, ss with
  | [(.c (.frz (.int .i64) v0)), (.c (.int .i64 v1))], [] => some ⟨R, f k (v0, v1), enc⟩
  | _, _ => none
theorem spec_ok (k : Nat) : SpecOk Try.prog 20 (spec k) := by
  intro args ss ans x h hx X σ w vals hp
  unfold spec at h
  split at h
  · cases h
    exact spec_of cs_ok Try.func20 rfl rfl dec_ok (held_eq _).symm hx hp
  · cases h
end slices_Contains_int
noncomputable def t_slices_Contains_int (k : Nat) := tcons 20 (slices_Contains_int.spec k) (t_slices_Index_int k)
theorem t_slices_Contains_int_ok (n g : Nat) : SpecOk Try.prog g (t_slices_Contains_int n g) := tcons_ok (slices_Contains_int.spec_ok n) (fun g => t_slices_Index_int_ok n g) g
namespace bus_Noise
abbrev R : Type := Int × List Int
abbrev A : Type := Int × Int × Int × List Int × List Int
def lv : List (Nat × List Nat) := [(2000000, [4, 5]), (5, [6, 18, 19, 20]), (1000009, [6, 18, 19, 20])]
noncomputable def cs : Nat → Ctx := ctxOf tis modes t_slices_Contains_int lv
theorem cs_ok (n : Nat) : CtxOk Try.prog (cs n) := ctxOf_ok rfl tis_ok t_slices_Contains_int_ok n
def enc (r : R) : Out := ((.tup [(.c (.sl 128000000)), (.c (.int .i64 r.1))]), [(.row (.int .u8) r.2)])
def dec : Out → Option R
  | ((.tup [(.c (.sl 128000000)), (.c (.int .i64 v0))]), [(.row (.int .u8) v1)]) => some (v0, v1)
  | _ => none
theorem dec_ok : ∀ u y, dec u = some y → u = enc y := by
  intro u y h
  unfold dec at h
  split at h
  · cases h; rfl
  · cases h
noncomputable def b0 : Code := subF [] Try.f21
noncomputable def K0 (k : Nat) : Kt R := kTop (cs k) Try.f21 dec
noncomputable def b5 : Code := sub [1, 1, 1, 0, 1, 0, 0] b0
noncomputable def K5 ( k : Nat) : Kt R := kAt (cs k) (loopN cs k) [1, 1, 1, 0, 1, 0] b0 (K0 k)
noncomputable def c1000009 : Code := sub [1, 1, 1] b5
noncomputable def J1000009 ( k m1 : Nat) : Kt R := kAt (cs m1) (loopN cs m1) [1, 1, 1] b5 (kLoop cs m1 b5 (K5 k))
abbrev T0 : Type := List Int × Int × Int × List Int
def s0 : T0 → St := fun (v0, v1, v2, v3) => ⟨46, 0, [(6, (.c (.sl 64000000))), (18, (.c (.frz (.int .i64) v0))), (19, (.c (.int .i64 v1))), (20, (.c (.int .i64 v2)))], [], [(256000000, .gone), (64000000, (.row (.int .u8) v3))]⟩
noncomputable def l0 ( k n : Nat) (v : T0) : Option R := held (loopN cs n b5 (K5 k) (s0 v))
noncomputable def D0 (v : T0) : Option R := lim fun L => l0 (L 0) (L 1) v
theorem D0_cn (v : T0) : Cn late (D0 v) fun L => l0 (L 0) (L 1) v := of_lim
abbrev T1 : Type := List Int × Int × Int × List Int
def s1 : T1 → St := fun (v0, v1, v2, v3) => ⟨46, 0, [(6, (.c (.sl 64000000))), (18, (.c (.frz (.int .i64) v0))), (19, (.c (.int .i64 v1))), (20, (.c (.int .i64 v2)))], [], [(256000000, .gone), (64000000, (.row (.int .u8) v3))]⟩
noncomputable def l1 ( k m1 : Nat) (v : T1) : Option R := held (run (cs m1) (loopN cs m1) c1000009 (J1000009 k m1) (s1 v))
noncomputable def D1 (v : T1) : Option R := lim fun L => l1 (L 0) (L 1) v
theorem D1_cn (v : T1) : Cn late (D1 v) fun L => l1 (L 0) (L 1) v := of_lim
def d0 (L1m1 : T1 → Option R) (bus_Stuff_k : bus_Stuff.A → Option bus_Stuff.R) : T0 → Option R := fun (v0, v1, v2, v3) =>
br (decide (v2 < v1))
  (br (decide (0 ≤ v2 ∧ v2 < (↑v0.length : Int)))
    (br (decide (0 ≤ rd (Ty.int IntKind.i64) v0 v2) && decide (rd (Ty.int IntKind.i64) v0 v2 < wrap IntKind.i64 (8 * (↑v3.length : Int))))
      (br (!decide (8 = 0))
        (br (decide (0 ≤ wrap IntKind.i64 (Int.tdiv (rd (Ty.int IntKind.i64) v0 v2) 8) ∧ wrap IntKind.i64 (Int.tdiv (rd (Ty.int IntKind.i64) v0 v2) 8) < (↑v3.length : Int)))
          (br (!decide (8 = 0))
            (br (decide (0 ≤ Int.tmod (rd (Ty.int IntKind.i64) v0 v2) 8))
              (br (decide (0 ≤ wrap IntKind.i64 (Int.tdiv (rd (Ty.int IntKind.i64) v0 v2) 8) ∧ wrap IntKind.i64 (Int.tdiv (rd (Ty.int IntKind.i64) v0 v2) 8) < (↑v3.length : Int)))
                (L1m1
                  (v0, v1, v2,
                    v3.set (wrap IntKind.i64 (Int.tdiv (rd (Ty.int IntKind.i64) v0 v2) 8)).toNat
                      (bXor IntKind.u8 (rd (Ty.int IntKind.u8) v3 (wrap IntKind.i64 (Int.tdiv (rd (Ty.int IntKind.i64) v0 v2) 8))) (shl IntKind.u8 1 (Int.tmod (rd (Ty.int IntKind.i64) v0 v2) 8)))))
                none)
              none)
            none)
          none)
        none)
      (L1m1 (v0, v1, v2, v3)))
    none)
  (bnd (bus_Stuff_k v3) fun r => some (0, r))
theorem d0_cn {ι : Type} {E : Fil ι} {L1m1 : T1 → Option R} {L1m1' : ι → T1 → Option R} (hL1m1 : ∀ v, Cn E (L1m1 v) fun i => L1m1' i v) {bus_Stuff_k : bus_Stuff.A → Option bus_Stuff.R} {bus_Stuff_k' : ι → bus_Stuff.A → Option bus_Stuff.R} (hbus_Stuff_k : ∀ v, Cn E (bus_Stuff_k v) fun i => bus_Stuff_k' i v) : ∀ v : T0, Cn E (d0 L1m1 bus_Stuff_k v) fun i => d0 (L1m1' i) (bus_Stuff_k' i) v := fun (v0, v1, v2, v3) => (.br (.br (.br (.br (.br (.br (.br (.br (hL1m1 _) .none) .none) .none) .none) .none) (hL1m1 _)) .none) (.bnd (hbus_Stuff_k _) fun _ => .some))
theorem l0_b ( k m1 : Nat) : ∀ v : T0, run (cs m1) (loopN cs m1) b5 (kLoop cs m1 b5 (K5 k)) (s0 v) = d0 (l1 k m1) (bus_Stuff.f k) v := fun (v0, v1, v2, v3) => by kernel_rfl
theorem D0_of (v : T0) {r : R} (h : d0 D1 bus_Stuff.F v = some r) : D0 v = some r :=
  loop_of 1 (l := fun L => l0 (L 0) (L 1) v) (d := fun L => d0 (l1 (L 0) (L 1)) (bus_Stuff.f (L 0)) v) (fun L n hn => by show l0 (L 0) (L 1) v = _; rw [hn]; exact (held_eq _).trans ((loopN_succ _ _ _ _ _).trans (l0_b (L 0) n v))) (d0_cn (fun v => (D1_cn v).re [0, 1]) (bus_Stuff.F_cn 0) v) h
def d1 (L0m1 : T0 → Option R) : T1 → Option R := fun (v0, v1, v2, v3) =>
L0m1 (v0, v1, wrap IntKind.i64 (v2 + 1), v3)
theorem d1_cn {ι : Type} {E : Fil ι} {L0m1 : T0 → Option R} {L0m1' : ι → T0 → Option R} (hL0m1 : ∀ v, Cn E (L0m1 v) fun i => L0m1' i v) : ∀ v : T1, Cn E (d1 L0m1 v) fun i => d1 (L0m1' i) v := fun (v0, v1, v2, v3) => (hL0m1 _)
theorem l1_b ( k m1 : Nat) : ∀ v : T1, run (cs m1) (loopN cs m1) c1000009 (J1000009 k m1) (s1 v) = d1 (l0 k m1) v := fun (v0, v1, v2, v3) => by kernel_rfl
theorem D1_of (v : T1) {r : R} (h : d1 D0 v = some r) : D1 v = some r :=
  join_of (l := fun L => l1 (L 0) (L 1) v) (d := fun L => d1 (l0 (L 0) (L 1)) v) (fun L => (held_eq _).trans (l1_b (L 0) (L 1) v)) (d1_cn (fun v => (D0_cn v).re [0, 1]) v) h
noncomputable def f (k : Nat) : A → Option R := fun (v0, v1, v2, v3, v4) => held (runFn cs k Try.f21 [(.agg [(.int .i64 v0), (.int .i64 v1), (.int .i64 v2), (.frz (.int .u8) v3)]), (.c (.frz (.int .i64) v4))] [] dec)
noncomputable def F (v : A) : Option R := lim fun L => f (L 0) v
theorem F_cn (x : Nat) (v : A) : Cn late (F v) fun L => f (L x) v := of_lim.re [x]
def d (bus_Body_k : bus_Body.A → Option bus_Body.R) (L0k : T0 → Option R) : A → Option R := fun (v0, v1, v2, v3, v4) =>
bnd (bus_Body_k (v0, v1, v2, v3)) fun r => br (!decide (r.fst = 0)) (some (r.fst, [])) (L0k (v4, (↑v4.length : Int), 0, r.snd))
theorem d_cn {ι : Type} {E : Fil ι} {bus_Body_k : bus_Body.A → Option bus_Body.R} {bus_Body_k' : ι → bus_Body.A → Option bus_Body.R} (hbus_Body_k : ∀ v, Cn E (bus_Body_k v) fun i => bus_Body_k' i v) {L0k : T0 → Option R} {L0k' : ι → T0 → Option R} (hL0k : ∀ v, Cn E (L0k v) fun i => L0k' i v) : ∀ v : A, Cn E (d bus_Body_k L0k v) fun i => d (bus_Body_k' i) (L0k' i) v := fun (v0, v1, v2, v3, v4) => (.bnd (hbus_Body_k _) fun _ => (.br .some (hL0k _)))
theorem f_b (k : Nat) : ∀ v : A, f k v = d (bus_Body.f k) (l0 k k) v := fun (v0, v1, v2, v3, v4) => (held_eq _).trans (by kernel_rfl)
theorem F_of (v : A) {r : R} (h : d bus_Body.F D0 v = some r) : F v = some r :=
  join_of (l := fun L => f (L 0) v) (d := fun L => d (bus_Body.f (L 0)) (l0 (L 0) (L 0)) v) (fun L => f_b (L 0) v) (d_cn (bus_Body.F_cn 0) (fun v => (D0_cn v).re [0, 0]) v) h
noncomputable def spec (k : Nat) (args : List AV) (ss : List Slot) : Option Ans :=
  match args, ss with
  | [(.agg [(.int .i64 v0), (.int .i64 v1), (.int .i64 v2), (.frz (.int .u8) v3)]), (.c (.frz (.int .i64) v4))], [] => some ⟨R, f k (v0, v1, v2, v3, v4), enc⟩
  | _, _ => none
theorem spec_ok (k : Nat) : SpecOk Try.prog 21 (spec k) := by
  intro args ss ans x h hx X σ w vals hp
  unfold spec at h
  split at h
  · cases h
    exact spec_of cs_ok Try.func21 rfl rfl dec_ok (held_eq _).symm hx hp
  · cases h
end bus_Noise
noncomputable def t_bus_Noise (k : Nat) := tcons 21 (bus_Noise.spec k) (t_slices_Contains_int k)
theorem t_bus_Noise_ok (n g : Nat) : SpecOk Try.prog g (t_bus_Noise n g) := tcons_ok (bus_Noise.spec_ok n) (fun g => t_slices_Contains_int_ok n g) g
namespace spykeep2_BusFlips
abbrev R : Type := Bool
abbrev A : Type := List Int × List Int
def lv : List (Nat × List Nat) := [(2000000, [4]), (10, [6, 7, 8, 9, 11, 41, 42, 43]), (1000015, [6, 7, 8, 9, 11, 41, 42, 43])]
noncomputable def cs : Nat → Ctx := ctxOf tis modes t_bus_Noise lv
theorem cs_ok (n : Nat) : CtxOk Try.prog (cs n) := ctxOf_ok rfl tis_ok t_bus_Noise_ok n
def enc (r : R) : Out := ((.c (.bool r)), [])
def dec : Out → Option R
  | ((.c (.bool v0)), []) => some v0
  | _ => none
theorem dec_ok : ∀ u y, dec u = some y → u = enc y := by
  intro u y h
  unfold dec at h
  split at h
  · cases h; rfl
  · cases h
noncomputable def b0 : Code := subF [] Try.f5
noncomputable def K0 (k : Nat) : Kt R := kTop (cs k) Try.f5 dec
noncomputable def b10 : Code := sub [1, 1, 1, 1, 1, 1, 1, 0, 1, 0, 0] b0
noncomputable def K10 ( k : Nat) : Kt R := kAt (cs k) (loopN cs k) [1, 1, 1, 1, 1, 1, 1, 0, 1, 0] b0 (K0 k)
noncomputable def c1000015 : Code := sub [1, 1, 1] b10
noncomputable def J1000015 ( k m1 : Nat) : Kt R := kAt (cs m1) (loopN cs m1) [1, 1, 1] b10 (kLoop cs m1 b10 (K10 k))
abbrev T0 : Type := List Int × Int × Int × Int × Int × Int × Int × Int × Int × Int × Int × Int × List Int × List Int × List Int × List Int × List Int
def s0 : T0 → St := fun (v0, v1, v2, v3, v4, v5, v6, v7, v8, v9, v10, v11, v12, v13, v14, v15, v16) => ⟨121, 0, [(6, (.c (.ptr 64000000 0))), (7, (.c (.ptr 64000001 0))), (8, (.c (.ptr 64000002 0))), (9, (.c (.sl 64000003))), (11, (.c (.sl 64000004))), (41, (.c (.frz (.int .i64) v0))), (42, (.c (.int .i64 v1))), (43, (.c (.int .i64 v2)))], [], [(256000000, .gone), (64000000, (.box [(.int .i64 v3), (.int .i64 v4), (.int .i64 v5), (.sl 64000005)])), (64000001, (.box [(.int .i64 v6), (.int .i64 v7), (.int .i64 v8), (.sl 64000006)])), (64000002, (.box [(.int .i64 v9), (.int .i64 v10), (.int .i64 v11), (.sl 64000007)])), (64000003, (.row (.int .u8) v12)), (64000004, (.row (.int .i64) v13)), (64000005, (.row (.int .u8) v14)), (64000006, (.row (.int .u8) v15)), (64000007, (.row (.int .u8) v16))]⟩
noncomputable def l0 ( k n : Nat) (v : T0) : Option R := held (loopN cs n b10 (K10 k) (s0 v))
noncomputable def D0 (v : T0) : Option R := lim fun L => l0 (L 0) (L 1) v
theorem D0_cn (v : T0) : Cn late (D0 v) fun L => l0 (L 0) (L 1) v := of_lim
abbrev T1 : Type := List Int × Int × Int × Int × Int × Int × Int × Int × Int × Int × Int × Int × List Int × List Int × List Int × List Int × List Int
def s1 : T1 → St := fun (v0, v1, v2, v3, v4, v5, v6, v7, v8, v9, v10, v11, v12, v13, v14, v15, v16) => ⟨121, 0, [(6, (.c (.ptr 64000000 0))), (7, (.c (.ptr 64000001 0))), (8, (.c (.ptr 64000002 0))), (9, (.c (.sl 64000003))), (11, (.c (.sl 64000004))), (41, (.c (.frz (.int .i64) v0))), (42, (.c (.int .i64 v1))), (43, (.c (.int .i64 v2)))], [], [(256000000, .gone), (64000000, (.box [(.int .i64 v3), (.int .i64 v4), (.int .i64 v5), (.sl 64000005)])), (64000001, (.box [(.int .i64 v6), (.int .i64 v7), (.int .i64 v8), (.sl 64000006)])), (64000002, (.box [(.int .i64 v9), (.int .i64 v10), (.int .i64 v11), (.sl 64000007)])), (64000003, (.row (.int .u8) v12)), (64000004, (.row (.int .i64) v13)), (64000005, (.row (.int .u8) v14)), (64000006, (.row (.int .u8) v15)), (64000007, (.row (.int .u8) v16))]⟩
noncomputable def l1 ( k m1 : Nat) (v : T1) : Option R := held (run (cs m1) (loopN cs m1) c1000015 (J1000015 k m1) (s1 v))
noncomputable def D1 (v : T1) : Option R := lim fun L => l1 (L 0) (L 1) v
theorem D1_cn (v : T1) : Cn late (D1 v) fun L => l1 (L 0) (L 1) v := of_lim
def d0 (spymake_Below_m1 : spymake_Below.A → Option spymake_Below.R) (slices_Contains_int_m1 : slices_Contains_int.A → Option slices_Contains_int.R) (L1m1 : T1 → Option R) (bus_Encode_k : bus_Encode.A → Option bus_Encode.R) (bus_Noise_k : bus_Noise.A → Option bus_Noise.R) (slices_Concat_byte_k : slices_Concat_byte.A → Option slices_Concat_byte.R) (bus_Decode_k : bus_Decode.A → Option bus_Decode.R) (slices_EqualFunc_Packet_k : slices_EqualFunc_Packet.A → Option slices_EqualFunc_Packet.R) : T0 → Option R := fun (v0, v1, v2, v3, v4, v5, v6, v7, v8, v9, v10, v11, v12, v13, v14, v15, v16) =>
br (decide (v2 < v1))
  (br (decide (0 ≤ v2 ∧ v2 < (↑v0.length : Int)))
    (bnd (spymake_Below_m1 (rd (Ty.int IntKind.i64) v0 v2, wrap IntKind.i64 (8 * (↑v12.length : Int)))) fun r =>
      br (decide ((↑v13.length : Int) < 3) == true)
        (bnd (slices_Contains_int_m1 (v13, r)) fun r_1 =>
          br (!r_1) (br (decide (v13.length + [r].length ≤ 140737488355328 / (8 + (1 - 8)))) (L1m1 (v0, v1, v2, v3, v4, v5, v6, v7, v8, v9, v10, v11, v12, v13 ++ [r], v14, v15, v16)) none)
            (L1m1 (v0, v1, v2, v3, v4, v5, v6, v7, v8, v9, v10, v11, v12, v13, v14, v15, v16)))
        (L1m1 (v0, v1, v2, v3, v4, v5, v6, v7, v8, v9, v10, v11, v12, v13, v14, v15, v16)))
    none)
  (bnd (bus_Encode_k (v6, v7, v8, v15)) fun r =>
    bnd (bus_Noise_k (v3, v4, v5, v14, v13)) fun r_1 =>
      bnd (bus_Encode_k (v9, v10, v11, v16)) fun r_2 =>
        bnd (slices_Concat_byte_k [r.snd, r_1.snd, r_2.snd]) fun r =>
          bnd (bus_Decode_k r) fun r =>
            br (!decide (r_1.fst = 0) || decide ((↑v13.length : Int) = 0))
              (br ((decide (r_1.fst = 0) && decide (r.fst = 0)) == true) (bnd (slices_EqualFunc_Packet_k (r.snd, [(v6, v7, v8, v15), (v3, v4, v5, v14), (v9, v10, v11, v16)])) fun r => some r) (some false))
              (br (decide (r.fst = 1) == true) (bnd (slices_EqualFunc_Packet_k (r.snd, [(v6, v7, v8, v15), (v9, v10, v11, v16)])) fun r => some r) (some false)))
theorem d0_cn {ι : Type} {E : Fil ι} {spymake_Below_m1 : spymake_Below.A → Option spymake_Below.R} {spymake_Below_m1' : ι → spymake_Below.A → Option spymake_Below.R} (hspymake_Below_m1 : ∀ v, Cn E (spymake_Below_m1 v) fun i => spymake_Below_m1' i v) {slices_Contains_int_m1 : slices_Contains_int.A → Option slices_Contains_int.R} {slices_Contains_int_m1' : ι → slices_Contains_int.A → Option slices_Contains_int.R} (hslices_Contains_int_m1 : ∀ v, Cn E (slices_Contains_int_m1 v) fun i => slices_Contains_int_m1' i v) {L1m1 : T1 → Option R} {L1m1' : ι → T1 → Option R} (hL1m1 : ∀ v, Cn E (L1m1 v) fun i => L1m1' i v) {bus_Encode_k : bus_Encode.A → Option bus_Encode.R} {bus_Encode_k' : ι → bus_Encode.A → Option bus_Encode.R} (hbus_Encode_k : ∀ v, Cn E (bus_Encode_k v) fun i => bus_Encode_k' i v) {bus_Noise_k : bus_Noise.A → Option bus_Noise.R} {bus_Noise_k' : ι → bus_Noise.A → Option bus_Noise.R} (hbus_Noise_k : ∀ v, Cn E (bus_Noise_k v) fun i => bus_Noise_k' i v) {slices_Concat_byte_k : slices_Concat_byte.A → Option slices_Concat_byte.R} {slices_Concat_byte_k' : ι → slices_Concat_byte.A → Option slices_Concat_byte.R} (hslices_Concat_byte_k : ∀ v, Cn E (slices_Concat_byte_k v) fun i => slices_Concat_byte_k' i v) {bus_Decode_k : bus_Decode.A → Option bus_Decode.R} {bus_Decode_k' : ι → bus_Decode.A → Option bus_Decode.R} (hbus_Decode_k : ∀ v, Cn E (bus_Decode_k v) fun i => bus_Decode_k' i v) {slices_EqualFunc_Packet_k : slices_EqualFunc_Packet.A → Option slices_EqualFunc_Packet.R} {slices_EqualFunc_Packet_k' : ι → slices_EqualFunc_Packet.A → Option slices_EqualFunc_Packet.R} (hslices_EqualFunc_Packet_k : ∀ v, Cn E (slices_EqualFunc_Packet_k v) fun i => slices_EqualFunc_Packet_k' i v) : ∀ v : T0, Cn E (d0 spymake_Below_m1 slices_Contains_int_m1 L1m1 bus_Encode_k bus_Noise_k slices_Concat_byte_k bus_Decode_k slices_EqualFunc_Packet_k v) fun i => d0 (spymake_Below_m1' i) (slices_Contains_int_m1' i) (L1m1' i) (bus_Encode_k' i) (bus_Noise_k' i) (slices_Concat_byte_k' i) (bus_Decode_k' i) (slices_EqualFunc_Packet_k' i) v := fun (v0, v1, v2, v3, v4, v5, v6, v7, v8, v9, v10, v11, v12, v13, v14, v15, v16) => (.br (.br (.bnd (hspymake_Below_m1 _) fun _ => (.br (.bnd (hslices_Contains_int_m1 _) fun _ => (.br (.br (hL1m1 _) .none) (hL1m1 _))) (hL1m1 _))) .none) (.bnd (hbus_Encode_k _) fun _ => (.bnd (hbus_Noise_k _) fun _ => (.bnd (hbus_Encode_k _) fun _ => (.bnd (hslices_Concat_byte_k _) fun _ => (.bnd (hbus_Decode_k _) fun _ => (.br (.br (.bnd (hslices_EqualFunc_Packet_k _) fun _ => .some) .some) (.br (.bnd (hslices_EqualFunc_Packet_k _) fun _ => .some) .some))))))))
theorem l0_b ( k m1 : Nat) : ∀ v : T0, run (cs m1) (loopN cs m1) b10 (kLoop cs m1 b10 (K10 k)) (s0 v) = d0 (spymake_Below.f m1) (slices_Contains_int.f m1) (l1 k m1) (bus_Encode.f k) (bus_Noise.f k) (slices_Concat_byte.f k) (bus_Decode.f k) (slices_EqualFunc_Packet.f k) v := fun (v0, v1, v2, v3, v4, v5, v6, v7, v8, v9, v10, v11, v12, v13, v14, v15, v16) => by kernel_rfl
theorem D0_of (v : T0) {r : R} (h : d0 spymake_Below.F slices_Contains_int.F D1 bus_Encode.F bus_Noise.F slices_Concat_byte.F bus_Decode.F slices_EqualFunc_Packet.F v = some r) : D0 v = some r :=
  loop_of 1 (l := fun L => l0 (L 0) (L 1) v) (d := fun L => d0 (spymake_Below.f (L 1)) (slices_Contains_int.f (L 1)) (l1 (L 0) (L 1)) (bus_Encode.f (L 0)) (bus_Noise.f (L 0)) (slices_Concat_byte.f (L 0)) (bus_Decode.f (L 0)) (slices_EqualFunc_Packet.f (L 0)) v) (fun L n hn => by show l0 (L 0) (L 1) v = _; rw [hn]; exact (held_eq _).trans ((loopN_succ _ _ _ _ _).trans (l0_b (L 0) n v))) (d0_cn (spymake_Below.F_cn 1) (slices_Contains_int.F_cn 1) (fun v => (D1_cn v).re [0, 1]) (bus_Encode.F_cn 0) (bus_Noise.F_cn 0) (slices_Concat_byte.F_cn 0) (bus_Decode.F_cn 0) (slices_EqualFunc_Packet.F_cn 0) v) h
def d1 (L0m1 : T0 → Option R) : T1 → Option R := fun (v0, v1, v2, v3, v4, v5, v6, v7, v8, v9, v10, v11, v12, v13, v14, v15, v16) =>
L0m1 (v0, v1, wrap IntKind.i64 (v2 + 1), v3, v4, v5, v6, v7, v8, v9, v10, v11, v12, v13, v14, v15, v16)
theorem d1_cn {ι : Type} {E : Fil ι} {L0m1 : T0 → Option R} {L0m1' : ι → T0 → Option R} (hL0m1 : ∀ v, Cn E (L0m1 v) fun i => L0m1' i v) : ∀ v : T1, Cn E (d1 L0m1 v) fun i => d1 (L0m1' i) v := fun (v0, v1, v2, v3, v4, v5, v6, v7, v8, v9, v10, v11, v12, v13, v14, v15, v16) => (hL0m1 _)
theorem l1_b ( k m1 : Nat) : ∀ v : T1, run (cs m1) (loopN cs m1) c1000015 (J1000015 k m1) (s1 v) = d1 (l0 k m1) v := fun (v0, v1, v2, v3, v4, v5, v6, v7, v8, v9, v10, v11, v12, v13, v14, v15, v16) => by kernel_rfl
theorem D1_of (v : T1) {r : R} (h : d1 D0 v = some r) : D1 v = some r :=
  join_of (l := fun L => l1 (L 0) (L 1) v) (d := fun L => d1 (l0 (L 0) (L 1)) v) (fun L => (held_eq _).trans (l1_b (L 0) (L 1) v)) (d1_cn (fun v => (D0_cn v).re [0, 1]) v) h
noncomputable def f (k : Nat) : A → Option R := fun (v0, v1) => held (runFn cs k Try.f5 [(.c (.frz (.int .i64) v0)), (.c (.frz (.int .i64) v1))] [] dec)
noncomputable def F (v : A) : Option R := lim fun L => f (L 0) v
theorem F_cn (x : Nat) (v : A) : Cn late (F v) fun L => f (L x) v := of_lim.re [x]
def d (spykeep2_carries_k : spykeep2_carries.A → Option spykeep2_carries.R) (spykeep2_packet_k : spykeep2_packet.A → Option spykeep2_packet.R) (bus_Body_k : bus_Body.A → Option bus_Body.R) (L0k : T0 → Option R) : A → Option R := fun (v0, v1) =>
bnd (spykeep2_carries_k ()) fun r =>
  br (!r) (some false)
    (bnd (spykeep2_packet_k (v0, 0)) fun r =>
      bnd (spykeep2_packet_k (r.snd.snd.snd.fst, r.snd.snd.snd.snd.fst)) fun r_1 =>
        bnd (spykeep2_packet_k (r_1.snd.snd.snd.fst, r_1.snd.snd.snd.snd.fst)) fun r_2 =>
          bnd (bus_Body_k (r.fst, r.snd.fst, r.snd.snd.fst, r.snd.snd.snd.snd.snd)) fun r_3 =>
            br (!decide (r_3.fst = 0)) (some false)
              (L0k
                (v1, (↑v1.length : Int), 0, r.fst, r.snd.fst, r.snd.snd.fst, r_1.fst, r_1.snd.fst, r_1.snd.snd.fst, r_2.fst, r_2.snd.fst, r_2.snd.snd.fst, r_3.snd, [], r.snd.snd.snd.snd.snd, r_1.snd.snd.snd.snd.snd,
                  r_2.snd.snd.snd.snd.snd)))
theorem d_cn {ι : Type} {E : Fil ι} {spykeep2_carries_k : spykeep2_carries.A → Option spykeep2_carries.R} {spykeep2_carries_k' : ι → spykeep2_carries.A → Option spykeep2_carries.R} (hspykeep2_carries_k : ∀ v, Cn E (spykeep2_carries_k v) fun i => spykeep2_carries_k' i v) {spykeep2_packet_k : spykeep2_packet.A → Option spykeep2_packet.R} {spykeep2_packet_k' : ι → spykeep2_packet.A → Option spykeep2_packet.R} (hspykeep2_packet_k : ∀ v, Cn E (spykeep2_packet_k v) fun i => spykeep2_packet_k' i v) {bus_Body_k : bus_Body.A → Option bus_Body.R} {bus_Body_k' : ι → bus_Body.A → Option bus_Body.R} (hbus_Body_k : ∀ v, Cn E (bus_Body_k v) fun i => bus_Body_k' i v) {L0k : T0 → Option R} {L0k' : ι → T0 → Option R} (hL0k : ∀ v, Cn E (L0k v) fun i => L0k' i v) : ∀ v : A, Cn E (d spykeep2_carries_k spykeep2_packet_k bus_Body_k L0k v) fun i => d (spykeep2_carries_k' i) (spykeep2_packet_k' i) (bus_Body_k' i) (L0k' i) v := fun (v0, v1) => (.bnd (hspykeep2_carries_k _) fun _ => (.br .some (.bnd (hspykeep2_packet_k _) fun _ => (.bnd (hspykeep2_packet_k _) fun _ => (.bnd (hspykeep2_packet_k _) fun _ => (.bnd (hbus_Body_k _) fun _ => (.br .some (hL0k _))))))))
theorem f_b (k : Nat) : ∀ v : A, f k v = d (spykeep2_carries.f k) (spykeep2_packet.f k) (bus_Body.f k) (l0 k k) v := fun (v0, v1) => (held_eq _).trans (by kernel_rfl)
theorem F_of (v : A) {r : R} (h : d spykeep2_carries.F spykeep2_packet.F bus_Body.F D0 v = some r) : F v = some r :=
  join_of (l := fun L => f (L 0) v) (d := fun L => d (spykeep2_carries.f (L 0)) (spykeep2_packet.f (L 0)) (bus_Body.f (L 0)) (l0 (L 0) (L 0)) v) (fun L => f_b (L 0) v) (d_cn (spykeep2_carries.F_cn 0) (spykeep2_packet.F_cn 0) (bus_Body.F_cn 0) (fun v => (D0_cn v).re [0, 0]) v) h
noncomputable def spec (k : Nat) (args : List AV) (ss : List Slot) : Option Ans :=
  match args, ss with
  | [(.c (.frz (.int .i64) v0)), (.c (.frz (.int .i64) v1))], [] => some ⟨R, f k (v0, v1), enc⟩
  | _, _ => none
theorem spec_ok (k : Nat) : SpecOk Try.prog 5 (spec k) := by
  intro args ss ans x h hx X σ w vals hp
  unfold spec at h
  split at h
  · cases h
    exact spec_of cs_ok Try.func5 rfl rfl dec_ok (held_eq _).symm hx hp
  · cases h
end spykeep2_BusFlips
noncomputable def t_spykeep2_BusFlips (k : Nat) := tcons 5 (spykeep2_BusFlips.spec k) (t_bus_Noise k)
theorem t_spykeep2_BusFlips_ok (n g : Nat) : SpecOk Try.prog g (t_spykeep2_BusFlips n g) := tcons_ok (spykeep2_BusFlips.spec_ok n) (fun g => t_bus_Noise_ok n g) g

end Go.Proofs.RBus
