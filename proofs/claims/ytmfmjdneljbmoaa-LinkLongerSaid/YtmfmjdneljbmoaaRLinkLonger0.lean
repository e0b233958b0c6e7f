import Derived.Test.YtmfmjdneljbmoaaEB
import Derived.Test.YtmfmjdneljbmoaaProg
namespace Go.Proofs.RLink
open Go Go.Eng Go.Proofs
set_option maxRecDepth 100000
set_option linter.unusedVariables false
def tis : List (Nat × TI) := [(0, ⟨.true, .other, .false, 0, [], .false⟩), (1, ⟨.true, .func, .false, 8, [], .false⟩), (2, ⟨.true, (.int .i64), .false, 8, [], .false⟩), (3, ⟨.true, (.int .i64), .false, 8, [], .false⟩), (4, ⟨.true, .bool, .false, 1, [], .false⟩), (5, ⟨.true, (.int .u8), .false, 1, [], .false⟩), (6, ⟨.true, (.int .u8), .false, 1, [], .false⟩), (7, ⟨.true, (.pair (.int .i64) (.pair (.int .i64) (.pair .bool (.int .u8)))), .true, 24, [(0, 1), (1, 1), (2, 1), (3, 1)], .true⟩), (8, ⟨.true, (.pair (.int .i64) (.pair (.int .i64) (.pair .bool (.int .u8)))), .true, 24, [(0, 1), (1, 1), (2, 1), (3, 1)], .true⟩), (9, ⟨.true, .str, .false, 16, [], .false⟩), (10, ⟨.true, .str, .false, 16, [], .false⟩), (11, ⟨.true, .str, .false, 16, [], .false⟩), (12, ⟨.true, (.int .u64), .false, 8, [], .false⟩), (13, ⟨.true, (.pair .str (.int .u64)), .true, 24, [(0, 1), (1, 1)], .false⟩), (14, ⟨.true, (.pair .str (.int .u64)), .true, 24, [(0, 1), (1, 1)], .false⟩), (15, ⟨.true, .ptr, .false, 8, [], .false⟩), (16, ⟨.true, .ptr, .false, 8, [], .false⟩), (17, ⟨.true, .ptr, .false, 8, [], .false⟩), (18, ⟨.true, (.pair .ptr .unit), .true, 8, [(0, 1)], .false⟩), (19, ⟨.true, (.pair .ptr .unit), .true, 8, [(0, 1)], .false⟩), (20, ⟨.true, .other, .false, 16, [], .false⟩), (21, ⟨.true, (.int .i32), .false, 4, [], .false⟩), (22, ⟨.true, (.slice (.int .i64)), .false, 8, [], .false⟩), (23, ⟨.true, (.slice (.int .u8)), .false, 1, [], .false⟩), (24, ⟨.true, .func, .false, 8, [], .false⟩), (25, ⟨.true, .ptr, .false, 8, [], .false⟩), (26, ⟨.true, (.pair (.slice (.int .i64)) (.int .i64)), .true, 32, [(0, 1), (1, 1)], .false⟩), (27, ⟨.true, (.pair (.slice (.int .i64)) (.int .i64)), .true, 32, [(0, 1), (1, 1)], .false⟩), (28, ⟨.true, (.slice (.pair (.int .i64) (.pair (.int .i64) (.pair (.int .i64) (.slice (.int .u8)))))), .false, 48, [], .false⟩), (29, ⟨.true, .func, .false, 8, [], .false⟩), (30, ⟨.true, (.pair (.int .i64) (.pair (.int .i64) (.pair (.int .i64) (.slice (.int .u8))))), .true, 48, [(0, 1), (1, 1), (2, 1), (3, 1)], .false⟩), (31, ⟨.true, (.pair (.int .i64) (.pair (.int .i64) (.pair (.int .i64) (.slice (.int .u8))))), .true, 48, [(0, 1), (1, 1), (2, 1), (3, 1)], .false⟩), (32, ⟨.true, .func, .false, 8, [], .false⟩), (33, ⟨.true, (.int .i64), .false, 8, [], .false⟩), (34, ⟨.true, .other, .false, 0, [], .false⟩), (35, ⟨.true, .func, .false, 8, [], .false⟩), (36, ⟨.true, .other, .false, 0, [], .false⟩), (37, ⟨.true, .func, .false, 8, [], .false⟩), (38, ⟨.true, .func, .false, 8, [], .false⟩), (39, ⟨.true, .func, .false, 8, [], .false⟩), (40, ⟨.true, .func, .false, 8, [], .false⟩), (41, ⟨.true, .func, .false, 8, [], .false⟩), (42, ⟨.true, .func, .false, 8, [], .false⟩), (43, ⟨.true, .func, .false, 8, [], .false⟩), (44, ⟨.true, .func, .false, 8, [], .false⟩), (45, ⟨.true, .func, .false, 8, [], .false⟩), (46, ⟨.true, (.slice (.pair (.int .i64) (.pair (.int .i64) (.int .i64)))), .false, 24, [], .false⟩), (47, ⟨.true, .func, .false, 8, [], .false⟩), (48, ⟨.true, (.slice (.pair .bool (.pair (.int .i64) (.pair (.int .i64) (.slice (.int .i64)))))), .false, 48, [], .false⟩), (49, ⟨.true, .func, .false, 8, [], .false⟩), (50, ⟨.true, (.slice (.pair (.int .i64) (.int .i64))), .false, 16, [], .false⟩), (51, ⟨.true, (.pair (.slice (.pair (.int .i64) (.int .i64))) (.pair (.slice (.int .i64)) (.pair (.slice (.int .i64)) (.pair (.int .i64) (.int .i64))))), .true, 88, [(0, 1), (1, 1), (2, 1), (3, 1), (4, 1)], .false⟩), (52, ⟨.true, (.pair (.slice (.pair (.int .i64) (.int .i64))) (.pair (.slice (.int .i64)) (.pair (.slice (.int .i64)) (.pair (.int .i64) (.int .i64))))), .true, 88, [(0, 1), (1, 1), (2, 1), (3, 1), (4, 1)], .false⟩), (53, ⟨.true, .other, .false, 0, [], .false⟩), (54, ⟨.true, .func, .false, 8, [], .false⟩), (55, ⟨.true, (.slice .bool), .false, 1, [], .false⟩), (56, ⟨.true, (.pair (.int .i64) (.int .i64)), .true, 16, [(0, 1), (1, 1)], .true⟩), (57, ⟨.true, (.pair (.int .i64) (.int .i64)), .true, 16, [(0, 1), (1, 1)], .true⟩), (58, ⟨.true, (.pair (.int .i64) (.pair (.int .i64) (.int .i64))), .true, 24, [(0, 1), (1, 1), (2, 1)], .true⟩), (59, ⟨.true, (.pair (.int .i64) (.pair (.int .i64) (.int .i64))), .true, 24, [(0, 1), (1, 1), (2, 1)], .true⟩), (60, ⟨.true, .func, .false, 8, [], .false⟩), (61, ⟨.true, .func, .false, 8, [], .false⟩), (62, ⟨.true, .func, .false, 8, [], .false⟩), (63, ⟨.true, .func, .false, 8, [], .false⟩), (64, ⟨.true, .func, .false, 8, [], .false⟩), (65, ⟨.true, (.pair (.slice (.int .u8)) (.pair .bool (.pair .bool (.pair .bool (.int .i64))))), .true, 40, [(0, 1), (1, 1), (2, 1), (3, 1), (4, 1)], .false⟩), (66, ⟨.true, (.pair (.slice (.int .u8)) (.pair .bool (.pair .bool (.pair .bool (.int .i64))))), .true, 40, [(0, 1), (1, 1), (2, 1), (3, 1), (4, 1)], .false⟩), (67, ⟨.true, .other, .false, 0, [], .false⟩), (68, ⟨.true, .func, .false, 8, [], .false⟩), (69, ⟨.true, (.slice (.slice (.int .u8))), .false, 24, [], .false⟩), (70, ⟨.true, .func, .false, 8, [], .false⟩), (71, ⟨.true, .func, .false, 8, [], .false⟩), (72, ⟨.true, (.int .u64), .false, 8, [], .false⟩), (73, ⟨.true, (.int .u16), .false, 2, [], .false⟩), (74, ⟨.true, .func, .false, 8, [], .false⟩), (75, ⟨.true, .func, .false, 8, [], .false⟩), (76, ⟨.true, (.pair .bool (.pair (.int .i64) (.pair (.int .i64) (.slice (.int .i64))))), .true, 48, [(0, 1), (1, 1), (2, 1), (3, 1)], .false⟩), (77, ⟨.true, (.pair .bool (.pair (.int .i64) (.pair (.int .i64) (.slice (.int .i64))))), .true, 48, [(0, 1), (1, 1), (2, 1), (3, 1)], .false⟩), (78, ⟨.true, .func, .false, 8, [], .false⟩), (79, ⟨.true, (.pair (.int .i64) (.pair .bool (.slice (.pair (.int .i64) (.int .i64))))), .true, 40, [(0, 1), (1, 1), (2, 1)], .false⟩), (80, ⟨.true, (.pair (.int .i64) (.pair .bool (.slice (.pair (.int .i64) (.int .i64))))), .true, 40, [(0, 1), (1, 1), (2, 1)], .false⟩), (81, ⟨.true, .ptr, .false, 8, [], .false⟩), (82, ⟨.true, (.pair (.slice (.pair (.int .i64) (.pair (.int .i64) (.int .i64)))) (.pair (.int .i64) (.pair (.int .i64) .ptr))), .true, 48, [(0, 1), (1, 1), (2, 1), (3, 1)], .false⟩), (83, ⟨.true, (.pair (.slice (.pair (.int .i64) (.pair (.int .i64) (.int .i64)))) (.pair (.int .i64) (.pair (.int .i64) .ptr))), .true, 48, [(0, 1), (1, 1), (2, 1), (3, 1)], .false⟩), (84, ⟨.true, .ptr, .false, 8, [], .false⟩), (85, ⟨.true, (.slice (.pair (.int .i64) (.slice (.int .u8)))), .false, 32, [], .false⟩), (86, ⟨.true, (.pair (.slice (.pair .bool (.pair (.int .i64) (.pair (.int .i64) (.slice (.int .i64)))))) (.pair (.slice (.pair (.int .i64) (.slice (.int .u8)))) (.int .i64))), .true, 56, [(0, 1), (1, 1), (2, 1)], .false⟩), (87, ⟨.true, (.pair (.slice (.pair .bool (.pair (.int .i64) (.pair (.int .i64) (.slice (.int .i64)))))) (.pair (.slice (.pair (.int .i64) (.slice (.int .u8)))) (.int .i64))), .true, 56, [(0, 1), (1, 1), (2, 1)], .false⟩), (88, ⟨.true, .func, .false, 8, [], .false⟩), (89, ⟨.true, .func, .false, 8, [], .false⟩), (90, ⟨.true, .func, .false, 8, [], .false⟩), (91, ⟨.true, .func, .false, 8, [], .false⟩), (92, ⟨.true, .ptr, .false, 8, [], .false⟩), (93, ⟨.true, .func, .false, 8, [], .false⟩), (94, ⟨.true, .func, .false, 8, [], .false⟩), (95, ⟨.true, (.slice (.slice (.pair .bool (.pair (.int .i64) (.pair (.int .i64) (.slice (.int .i64))))))), .false, 24, [], .false⟩), (96, ⟨.true, .func, .false, 8, [], .false⟩), (97, ⟨.true, (.pair (.int .i64) (.slice (.int .u8))), .true, 32, [(0, 1), (1, 1)], .false⟩), (98, ⟨.true, (.pair (.int .i64) (.slice (.int .u8))), .true, 32, [(0, 1), (1, 1)], .false⟩), (99, ⟨.true, .ptr, .false, 8, [], .false⟩), (100, ⟨.true, .func, .false, 8, [], .false⟩), (101, ⟨.true, .ptr, .false, 8, [], .false⟩), (102, ⟨.true, .func, .false, 8, [], .false⟩), (103, ⟨.true, .other, .false, 0, [], .false⟩), (104, ⟨.true, .func, .false, 8, [], .false⟩), (105, ⟨.true, (.int .u64), .false, 8, [], .false⟩), (106, ⟨.true, .func, .false, 8, [], .false⟩), (107, ⟨.true, (.pair .ptr (.pair .ptr (.pair .ptr .str))), .true, 40, [(0, 1), (1, 1), (2, 1), (3, 1)], .false⟩), (108, ⟨.true, (.pair .ptr (.pair .ptr (.pair .ptr .str))), .true, 40, [(0, 1), (1, 1), (2, 1), (3, 1)], .false⟩), (112, ⟨.true, .func, .false, 8, [], .false⟩), (113, ⟨.true, (.int .u32), .false, 4, [], .false⟩), (114, ⟨.true, (.int .u8), .false, 1, [], .false⟩), (115, ⟨.true, (.int .u8), .false, 1, [], .false⟩), (116, ⟨.true, .func, .false, 8, [], .false⟩), (117, ⟨.true, .ptr, .false, 8, [], .false⟩), (118, ⟨.true, (.int .i32), .false, 4, [], .false⟩), (119, ⟨.true, (.int .i32), .false, 4, [], .false⟩), (120, ⟨.true, (.pair (.int .u64) (.pair (.int .u64) (.pair (.int .u32) (.pair (.int .u8) (.pair (.int .u8) (.pair (.int .u8) (.pair (.int .u8) (.pair .func (.pair .ptr (.pair (.int .i32) (.int .i32))))))))))), .true, 48, [(0, 1), (1, 1), (2, 1), (3, 1), (4, 1), (5, 1), (6, 1), (7, 1), (8, 1), (9, 1), (10, 1)], .false⟩), (121, ⟨.true, (.pair (.int .u64) (.pair (.int .u64) (.pair (.int .u32) (.pair (.int .u8) (.pair (.int .u8) (.pair (.int .u8) (.pair (.int .u8) (.pair .func (.pair .ptr (.pair (.int .i32) (.int .i32))))))))))), .true, 48, [(0, 1), (1, 1), (2, 1), (3, 1), (4, 1), (5, 1), (6, 1), (7, 1), (8, 1), (9, 1), (10, 1)], .false⟩), (122, ⟨.true, .other, .false, 8, [], .false⟩)]
theorem tis_ok : tisOk Try.prog tis = true := by kernel_rfl
def modes : List (Nat × List (Nat × Ty)) := [(3, [(1, (.slice (.int .u8)))]), (5, [(1, (.slice (.int .i64)))]), (13, [(0, (.pair (.int .i64) (.pair (.int .i64) (.pair (.int .i64) (.slice (.int .u8))))))]), (14, [(0, (.slice (.int .u8)))]), (15, [(0, (.slice (.pair (.int .i64) (.pair (.int .i64) (.pair (.int .i64) (.slice (.int .u8))))))), (1, (.slice (.pair (.int .i64) (.pair (.int .i64) (.pair (.int .i64) (.slice (.int .u8)))))))]), (16, [(0, (.pair (.int .i64) (.pair (.int .i64) (.pair (.int .i64) (.slice (.int .u8)))))), (1, (.pair (.int .i64) (.pair (.int .i64) (.pair (.int .i64) (.slice (.int .u8))))))]), (17, [(0, (.slice (.slice (.int .u8))))]), (19, [(0, (.pair (.int .i64) (.pair (.int .i64) (.pair (.int .i64) (.slice (.int .u8))))))]), (20, [(0, (.slice (.int .i64)))]), (21, [(0, (.pair (.int .i64) (.pair (.int .i64) (.pair (.int .i64) (.slice (.int .u8)))))), (1, (.slice (.int .i64)))]), (25, [(0, (.slice (.pair (.int .i64) (.pair (.int .i64) (.int .i64))))), (1, (.slice (.pair .bool (.pair (.int .i64) (.pair (.int .i64) (.slice (.int .i64))))))), (2, (.slice (.pair .bool (.pair (.int .i64) (.pair (.int .i64) (.slice (.int .i64)))))))]), (26, [(0, (.slice (.pair (.int .i64) (.int .i64)))), (1, (.slice (.pair (.int .i64) (.int .i64))))]), (27, [(0, (.slice (.pair (.int .i64) (.pair (.int .i64) (.int .i64))))), (1, (.slice (.pair .bool (.pair (.int .i64) (.pair (.int .i64) (.slice (.int .i64))))))), (2, (.slice (.pair .bool (.pair (.int .i64) (.pair (.int .i64) (.slice (.int .i64)))))))]), (28, [(0, (.slice (.int .u8)))]), (30, [(0, (.pair .func (.slice (.int .u8))))]), (31, [(0, (.pair (.int .i64) (.pair (.int .i64) (.pair (.int .i64) (.slice (.int .u8))))))]), (32, [(0, (.slice (.int .u8)))]), (33, [(0, (.slice (.int .i64)))]), (34, [(0, (.slice (.int .i64))), (1, (.slice (.int .i64)))]), (36, [(0, (.slice (.pair (.int .i64) (.pair (.int .i64) (.int .i64))))), (1, (.slice (.pair .bool (.pair (.int .i64) (.pair (.int .i64) (.slice (.int .i64))))))), (2, (.slice (.pair .bool (.pair (.int .i64) (.pair (.int .i64) (.slice (.int .i64)))))))]), (38, [(1, (.pair (.int .i64) (.pair (.int .i64) (.pair (.int .i64) (.slice (.int .u8))))))]), (39, [(1, (.pair (.int .i64) (.pair (.int .i64) (.pair (.int .i64) (.slice (.int .u8))))))]), (40, [(1, (.pair (.int .i64) (.pair (.int .i64) (.pair (.int .i64) (.slice (.int .u8))))))]), (44, [(0, (.pair .bool (.pair (.int .i64) (.pair (.int .i64) (.slice (.int .i64))))))]), (45, [(0, (.pair (.int .i64) (.pair (.int .i64) (.pair (.int .i64) (.slice (.int .u8))))))]), (47, [(0, (.slice (.int .u8)))])]
noncomputable def t0 : Nat → Nat → List AV → List Slot → Option Ans := fun _ => tnil
theorem t0_ok (n g : Nat) : SpecOk Try.prog g (t0 n g) := tnil_ok g
namespace link_CheckFate
abbrev R : Type := Int
abbrev A : Type := Bool × Int × Int × List Int
def lv : List (Nat × List Nat) := [(2000000, [2]), (10, [1, 46, 47, 48]), (15, [1, 4, 46, 47, 48, 58, 59, 60])]
noncomputable def cs : Nat → Ctx := ctxOf tis modes t0 lv
theorem cs_ok (n : Nat) : CtxOk Try.prog (cs n) := ctxOf_ok rfl tis_ok t0_ok n
def enc (r : R) : Out := ((.c (.int .i64 r)), [])
def dec : Out → Option R
  | ((.c (.int .i64 v0)), []) => some v0
  | _ => none
theorem dec_ok : ∀ u y, dec u = some y → u = enc y := by
  intro u y h
  unfold dec at h
  split at h
  · cases h; rfl
  · cases h
noncomputable def b0 : Code := subF [] Try.f44
noncomputable def K0 (k : Nat) : Kt R := kTop (cs k) Try.f44 dec
noncomputable def b10 : Code := sub [1, 1, 1, 1, 0, 1, 0, 0] b0
noncomputable def K10 ( k : Nat) : Kt R := kAt (cs k) (loopN cs k) [1, 1, 1, 1, 0, 1, 0] b0 (K0 k)
noncomputable def b15 : Code := sub [1, 1, 0, 0, 1, 1, 1, 0, 0] b10
noncomputable def K15 ( k m1 : Nat) : Kt R := kAt (cs m1) (loopN cs m1) [1, 1, 0, 0, 1, 1, 1, 0] b10 (kLoop cs m1 b10 (K10 k))
abbrev T0 : Type := List Int × Int × Int × Bool × Int × Int × List Int
def s0 : T0 → St := fun (v0, v1, v2, v3, v4, v5, v6) => ⟨69, 0, [(1, (.c (.ptr 64000000 0))), (46, (.c (.frz (.int .i64) v0))), (47, (.c (.int .i64 v1))), (48, (.c (.int .i64 v2)))], [], [(256000000, .gone), (64000000, (.box [(.bool v3), (.int .i64 v4), (.int .i64 v5), (.frz (.int .i64) v6)]))]⟩
noncomputable def l0 ( k n : Nat) (v : T0) : Option R := held (loopN cs n b10 (K10 k) (s0 v))
noncomputable def D0 (v : T0) : Option R := lim fun L => l0 (L 0) (L 1) v
theorem D0_cn (v : T0) : Cn late (D0 v) fun L => l0 (L 0) (L 1) v := of_lim
abbrev T1 : Type := Int × List Int × Int × Int × List Int × Int × Int × Bool × Int × Int × List Int
def s1 : T1 → St := fun (v0, v1, v2, v3, v4, v5, v6, v7, v8, v9, v10) => ⟨69, 0, [(1, (.c (.ptr 64000000 0))), (4, (.c (.int .i64 v0))), (46, (.c (.frz (.int .i64) v1))), (47, (.c (.int .i64 v2))), (48, (.c (.int .i64 v3))), (58, (.c (.frz (.int .i64) v4))), (59, (.c (.int .i64 v5))), (60, (.c (.int .i64 v6)))], [], [(256000000, .gone), (64000000, (.box [(.bool v7), (.int .i64 v8), (.int .i64 v9), (.frz (.int .i64) v10)]))]⟩
noncomputable def l1 ( k m1 n : Nat) (v : T1) : Option R := held (loopN cs n b15 (K15 k m1) (s1 v))
noncomputable def D1 (v : T1) : Option R := lim fun L => l1 (L 0) (L 1) (L 2) v
theorem D1_cn (v : T1) : Cn late (D1 v) fun L => l1 (L 0) (L 1) (L 2) v := of_lim
def d0 (L1m1 : T1 → Option R) : T0 → Option R := fun (v0, v1, v2, v3, v4, v5, v6) =>
br (decide (v2 < v1))
  (br (decide (0 ≤ v2 ∧ v2 < (↑v0.length : Int)))
    (br (decide (rd (Ty.int IntKind.i64) v0 v2 < 0)) (some 4)
      (br (decide (0 ≤ v2 ∧ v2 ≤ (↑v6.length : Int)))
        (L1m1 (rd (Ty.int IntKind.i64) v0 v2, v0, v1, v2, List.drop (Int.toNat 0) (List.take v2.toNat v6), (↑(List.drop (Int.toNat 0) (List.take v2.toNat v6)).length : Int), 0, v3, v4, v5, v6)) none))
    none)
  (some 0)
theorem d0_cn {ι : Type} {E : Fil ι} {L1m1 : T1 → Option R} {L1m1' : ι → T1 → Option R} (hL1m1 : ∀ v, Cn E (L1m1 v) fun i => L1m1' i v) : ∀ v : T0, Cn E (d0 L1m1 v) fun i => d0 (L1m1' i) v := fun (v0, v1, v2, v3, v4, v5, v6) => (.br (.br (.br .some (.br (hL1m1 _) .none)) .none) .some)
theorem l0_b ( k m1 : Nat) : ∀ v : T0, run (cs m1) (loopN cs m1) b10 (kLoop cs m1 b10 (K10 k)) (s0 v) = d0 (l1 k m1 m1) v := fun (v0, v1, v2, v3, v4, v5, v6) => by kernel_rfl
theorem D0_of (v : T0) {r : R} (h : d0 D1 v = some r) : D0 v = some r :=
  loop_of 1 (l := fun L => l0 (L 0) (L 1) v) (d := fun L => d0 (l1 (L 0) (L 1) (L 1)) v) (fun L n hn => by show l0 (L 0) (L 1) v = _; rw [hn]; exact (held_eq _).trans ((loopN_succ _ _ _ _ _).trans (l0_b (L 0) n v))) (d0_cn (fun v => (D1_cn v).re [0, 1, 1]) v) h
def d1 (L1m2 : T1 → Option R) (L0m1 : T0 → Option R) : T1 → Option R := fun (v0, v1, v2, v3, v4, v5, v6, v7, v8, v9, v10) =>
br (decide (v6 < v5)) (br (decide (0 ≤ v6 ∧ v6 < (↑v4.length : Int))) (br (decide (v0 = rd (Ty.int IntKind.i64) v4 v6)) (some 7) (L1m2 (v0, v1, v2, v3, v4, v5, wrap IntKind.i64 (v6 + 1), v7, v8, v9, v10))) none)
  (L0m1 (v1, v2, wrap IntKind.i64 (v3 + 1), v7, v8, v9, v10))
theorem d1_cn {ι : Type} {E : Fil ι} {L1m2 : T1 → Option R} {L1m2' : ι → T1 → Option R} (hL1m2 : ∀ v, Cn E (L1m2 v) fun i => L1m2' i v) {L0m1 : T0 → Option R} {L0m1' : ι → T0 → Option R} (hL0m1 : ∀ v, Cn E (L0m1 v) fun i => L0m1' i v) : ∀ v : T1, Cn E (d1 L1m2 L0m1 v) fun i => d1 (L1m2' i) (L0m1' i) v := fun (v0, v1, v2, v3, v4, v5, v6, v7, v8, v9, v10) => (.br (.br (.br .some (hL1m2 _)) .none) (hL0m1 _))
theorem l1_b ( k m1 m2 : Nat) : ∀ v : T1, run (cs m2) (loopN cs m2) b15 (kLoop cs m2 b15 (K15 k m1)) (s1 v) = d1 (l1 k m1 m2) (l0 k m1) v := fun (v0, v1, v2, v3, v4, v5, v6, v7, v8, v9, v10) => by kernel_rfl
theorem D1_of (v : T1) {r : R} (h : d1 D1 D0 v = some r) : D1 v = some r :=
  loop_of 2 (l := fun L => l1 (L 0) (L 1) (L 2) v) (d := fun L => d1 (l1 (L 0) (L 1) (L 2)) (l0 (L 0) (L 1)) v) (fun L n hn => by show l1 (L 0) (L 1) (L 2) v = _; rw [hn]; exact (held_eq _).trans ((loopN_succ _ _ _ _ _).trans (l1_b (L 0) (L 1) n v))) (d1_cn (fun v => (D1_cn v).re [0, 1, 2]) (fun v => (D0_cn v).re [0, 1]) v) h
noncomputable def f (k : Nat) : A → Option R := fun (v0, v1, v2, v3) => held (runFn cs k Try.f44 [(.agg [(.bool v0), (.int .i64 v1), (.int .i64 v2), (.frz (.int .i64) v3)])] [] dec)
noncomputable def F (v : A) : Option R := lim fun L => f (L 0) v
theorem F_cn (x : Nat) (v : A) : Cn late (F v) fun L => f (L x) v := of_lim.re [x]
def d (L0k : T0 → Option R) : A → Option R := fun (v0, v1, v2, v3) =>
br v0 (br (!decide (v1 = 0) || !decide (v2 = 0) || !decide ((↑v3.length : Int) = 0)) (some 3) (some 0))
  (br (decide (v1 < 1) || decide (8 < v1) || decide (v2 < 0) || decide (8 < v2)) (some 4) (br (decide (3 < (↑v3.length : Int))) (some 2) (L0k (v3, (↑v3.length : Int), 0, v0, v1, v2, v3))))
theorem d_cn {ι : Type} {E : Fil ι} {L0k : T0 → Option R} {L0k' : ι → T0 → Option R} (hL0k : ∀ v, Cn E (L0k v) fun i => L0k' i v) : ∀ v : A, Cn E (d L0k v) fun i => d (L0k' i) v := fun (v0, v1, v2, v3) => (.br (.br .some .some) (.br .some (.br .some (hL0k _))))
theorem f_b (k : Nat) : ∀ v : A, f k v = d (l0 k k) v := fun (v0, v1, v2, v3) => (held_eq _).trans (by kernel_rfl)
theorem F_of (v : A) {r : R} (h : d D0 v = some r) : F v = some r :=
  join_of (l := fun L => f (L 0) v) (d := fun L => d (l0 (L 0) (L 0)) v) (fun L => f_b (L 0) v) (d_cn (fun v => (D0_cn v).re [0, 0]) v) h
noncomputable def spec (k : Nat) (args : List AV) (ss : List Slot) : Option Ans :=
  match args, ss with
  | [(.agg [(.bool v0), (.int .i64 v1), (.int .i64 v2), (.frz (.int .i64) v3)])], [] => some ⟨R, f k (v0, v1, v2, v3), enc⟩
  | _, _ => none
theorem spec_ok (k : Nat) : SpecOk Try.prog 44 (spec k) := by
  intro args ss ans x h hx X σ w vals hp
  unfold spec at h
  split at h
  · cases h
    exact spec_of cs_ok Try.func44 rfl rfl dec_ok (held_eq _).symm hx hp
  · cases h
end link_CheckFate
noncomputable def t_link_CheckFate (k : Nat) := tcons 44 (link_CheckFate.spec k) (t0 k)
theorem t_link_CheckFate_ok (n g : Nat) : SpecOk Try.prog g (t_link_CheckFate n g) := tcons_ok (link_CheckFate.spec_ok n) (fun g => t0_ok n g) g
namespace link_Check
abbrev R : Type := Int
abbrev A : Type := List (Int × Int × Int) × List (Bool × Int × Int × List Int) × List (Bool × Int × Int × List Int)
def lv : List (Nat × List Nat) := [(2000000, [6]), (4, [1, 2, 27, 28, 29]), (10, [54, 55, 56]), (13, [54, 55, 56, 60, 61, 62])]
noncomputable def cs : Nat → Ctx := ctxOf tis modes t_link_CheckFate lv
theorem cs_ok (n : Nat) : CtxOk Try.prog (cs n) := ctxOf_ok rfl tis_ok t_link_CheckFate_ok n
def enc (r : R) : Out := ((.c (.int .i64 r)), [])
def dec : Out → Option R
  | ((.c (.int .i64 v0)), []) => some v0
  | _ => none
theorem dec_ok : ∀ u y, dec u = some y → u = enc y := by
  intro u y h
  unfold dec at h
  split at h
  · cases h; rfl
  · cases h
noncomputable def b0 : Code := subF [] Try.f36
noncomputable def K0 (k : Nat) : Kt R := kTop (cs k) Try.f36 dec
noncomputable def b4 : Code := sub [1, 1, 0, 1, 0, 0] b0
noncomputable def K4 ( k : Nat) : Kt R := kAt (cs k) (loopN cs k) [1, 1, 0, 1, 0] b0 (K0 k)
noncomputable def b10 : Code := sub [1, 1, 1, 0, 1, 0, 0] b0
noncomputable def K10 ( k : Nat) : Kt R := kAt (cs k) (loopN cs k) [1, 1, 1, 0, 1, 0] b0 (K0 k)
noncomputable def b13 : Code := sub [1, 1, 0, 0, 1, 1, 0, 0] b10
noncomputable def K13 ( k m1 : Nat) : Kt R := kAt (cs m1) (loopN cs m1) [1, 1, 0, 0, 1, 1, 0] b10 (kLoop cs m1 b10 (K10 k))
abbrev T0 : Type := List (Bool × Int × Int × List Int) × List (Bool × Int × Int × List Int) × List (Int × Int × Int) × Int × Int
def s0 : T0 → St := fun (v0, v1, v2, v3, v4) => ⟨73, 0, [(1, (.c (.frz (.pair .bool (.pair (.int .i64) (.pair (.int .i64) (.slice (.int .i64))))) v0))), (2, (.c (.frz (.pair .bool (.pair (.int .i64) (.pair (.int .i64) (.slice (.int .i64))))) v1))), (27, (.c (.frz (.pair (.int .i64) (.pair (.int .i64) (.int .i64))) v2))), (28, (.c (.int .i64 v3))), (29, (.c (.int .i64 v4)))], [], [(256000000, .gone)]⟩
noncomputable def l0 ( k n : Nat) (v : T0) : Option R := held (loopN cs n b4 (K4 k) (s0 v))
noncomputable def D0 (v : T0) : Option R := lim fun L => l0 (L 0) (L 1) v
theorem D0_cn (v : T0) : Cn late (D0 v) fun L => l0 (L 0) (L 1) v := of_lim
abbrev T1 : Type := Int × Int × List (List (Bool × Int × Int × List Int))
def s1 : T1 → St := fun (v0, v1, v2) => ⟨73, 0, [(54, (.c (.sl 64000000))), (55, (.c (.int .i64 v0))), (56, (.c (.int .i64 v1)))], [], [(256000000, .gone), (64000000, (.row (.slice (.pair .bool (.pair (.int .i64) (.pair (.int .i64) (.slice (.int .i64)))))) v2))]⟩
noncomputable def l1 ( k n : Nat) (v : T1) : Option R := held (loopN cs n b10 (K10 k) (s1 v))
noncomputable def D1 (v : T1) : Option R := lim fun L => l1 (L 0) (L 1) v
theorem D1_cn (v : T1) : Cn late (D1 v) fun L => l1 (L 0) (L 1) v := of_lim
abbrev T2 : Type := Int × Int × List (Bool × Int × Int × List Int) × Int × Int × List (List (Bool × Int × Int × List Int))
def s2 : T2 → St := fun (v0, v1, v2, v3, v4, v5) => ⟨73, 0, [(54, (.c (.sl 64000000))), (55, (.c (.int .i64 v0))), (56, (.c (.int .i64 v1))), (60, (.c (.frz (.pair .bool (.pair (.int .i64) (.pair (.int .i64) (.slice (.int .i64))))) v2))), (61, (.c (.int .i64 v3))), (62, (.c (.int .i64 v4)))], [], [(256000000, .gone), (64000000, (.row (.slice (.pair .bool (.pair (.int .i64) (.pair (.int .i64) (.slice (.int .i64)))))) v5))]⟩
noncomputable def l2 ( k m1 n : Nat) (v : T2) : Option R := held (loopN cs n b13 (K13 k m1) (s2 v))
noncomputable def D2 (v : T2) : Option R := lim fun L => l2 (L 0) (L 1) (L 2) v
theorem D2_cn (v : T2) : Cn late (D2 v) fun L => l2 (L 0) (L 1) (L 2) v := of_lim
def d0 (L0m1 : T0 → Option R) (L1k : T1 → Option R) : T0 → Option R := fun (v0, v1, v2, v3, v4) =>
br (decide (v4 < v3))
  (br (decide (0 ≤ v4 ∧ v4 < (↑v2.length : Int)))
    (br
      (decide ((rd ((Ty.int IntKind.i64).pair ((Ty.int IntKind.i64).pair (Ty.int IntKind.i64))) v2 v4).fst < 0) ||
            decide (255 < (rd ((Ty.int IntKind.i64).pair ((Ty.int IntKind.i64).pair (Ty.int IntKind.i64))) v2 v4).fst) ||
          decide ((rd ((Ty.int IntKind.i64).pair ((Ty.int IntKind.i64).pair (Ty.int IntKind.i64))) v2 v4).snd.snd < 0) ||
        decide (2000 < (rd ((Ty.int IntKind.i64).pair ((Ty.int IntKind.i64).pair (Ty.int IntKind.i64))) v2 v4).snd.snd))
      (some 4) (L0m1 (v0, v1, v2, v3, wrap IntKind.i64 (v4 + 1))))
    none)
  (L1k ((↑[v0, v1].length : Int), 0, [v0, v1]))
theorem d0_cn {ι : Type} {E : Fil ι} {L0m1 : T0 → Option R} {L0m1' : ι → T0 → Option R} (hL0m1 : ∀ v, Cn E (L0m1 v) fun i => L0m1' i v) {L1k : T1 → Option R} {L1k' : ι → T1 → Option R} (hL1k : ∀ v, Cn E (L1k v) fun i => L1k' i v) : ∀ v : T0, Cn E (d0 L0m1 L1k v) fun i => d0 (L0m1' i) (L1k' i) v := fun (v0, v1, v2, v3, v4) => (.br (.br (.br .some (hL0m1 _)) .none) (hL1k _))
theorem l0_b ( k m1 : Nat) : ∀ v : T0, run (cs m1) (loopN cs m1) b4 (kLoop cs m1 b4 (K4 k)) (s0 v) = d0 (l0 k m1) (l1 k k) v := fun (v0, v1, v2, v3, v4) => by kernel_rfl
theorem D0_of (v : T0) {r : R} (h : d0 D0 D1 v = some r) : D0 v = some r :=
  loop_of 1 (l := fun L => l0 (L 0) (L 1) v) (d := fun L => d0 (l0 (L 0) (L 1)) (l1 (L 0) (L 0)) v) (fun L n hn => by show l0 (L 0) (L 1) v = _; rw [hn]; exact (held_eq _).trans ((loopN_succ _ _ _ _ _).trans (l0_b (L 0) n v))) (d0_cn (fun v => (D0_cn v).re [0, 1]) (fun v => (D1_cn v).re [0, 0]) v) h
def d1 (L2m1 : T2 → Option R) : T1 → Option R := fun (v0, v1, v2) =>
br (decide (v1 < v0))
  (br (decide (0 ≤ v1 ∧ v1 < (↑v2.length : Int)))
    (L2m1
      (v0, v1, rd (Ty.bool.pair ((Ty.int IntKind.i64).pair ((Ty.int IntKind.i64).pair (Ty.int IntKind.i64).slice))).slice v2 v1,
        (↑(List.length (rd (Ty.bool.pair ((Ty.int IntKind.i64).pair ((Ty.int IntKind.i64).pair (Ty.int IntKind.i64).slice))).slice v2 v1)) : Int), 0, v2))
    none)
  (some 0)
theorem d1_cn {ι : Type} {E : Fil ι} {L2m1 : T2 → Option R} {L2m1' : ι → T2 → Option R} (hL2m1 : ∀ v, Cn E (L2m1 v) fun i => L2m1' i v) : ∀ v : T1, Cn E (d1 L2m1 v) fun i => d1 (L2m1' i) v := fun (v0, v1, v2) => (.br (.br (hL2m1 _) .none) .some)
theorem l1_b ( k m1 : Nat) : ∀ v : T1, run (cs m1) (loopN cs m1) b10 (kLoop cs m1 b10 (K10 k)) (s1 v) = d1 (l2 k m1 m1) v := fun (v0, v1, v2) => by kernel_rfl
theorem D1_of (v : T1) {r : R} (h : d1 D2 v = some r) : D1 v = some r :=
  loop_of 1 (l := fun L => l1 (L 0) (L 1) v) (d := fun L => d1 (l2 (L 0) (L 1) (L 1)) v) (fun L n hn => by show l1 (L 0) (L 1) v = _; rw [hn]; exact (held_eq _).trans ((loopN_succ _ _ _ _ _).trans (l1_b (L 0) n v))) (d1_cn (fun v => (D2_cn v).re [0, 1, 1]) v) h
def d2 (link_CheckFate_m2 : link_CheckFate.A → Option link_CheckFate.R) (L2m2 : T2 → Option R) (L1m1 : T1 → Option R) : T2 → Option R := fun (v0, v1, v2, v3, v4, v5) =>
br (decide (v4 < v3))
  (br (decide (0 ≤ v4 ∧ v4 < (↑v2.length : Int)))
    (bnd
      (link_CheckFate_m2
        ((rd (Ty.bool.pair ((Ty.int IntKind.i64).pair ((Ty.int IntKind.i64).pair (Ty.int IntKind.i64).slice))) v2 v4).fst,
          (rd (Ty.bool.pair ((Ty.int IntKind.i64).pair ((Ty.int IntKind.i64).pair (Ty.int IntKind.i64).slice))) v2 v4).snd.fst,
          (rd (Ty.bool.pair ((Ty.int IntKind.i64).pair ((Ty.int IntKind.i64).pair (Ty.int IntKind.i64).slice))) v2 v4).snd.snd.fst,
          (rd (Ty.bool.pair ((Ty.int IntKind.i64).pair ((Ty.int IntKind.i64).pair (Ty.int IntKind.i64).slice))) v2 v4).snd.snd.snd))
      fun r => br (!decide (r = 0)) (some r) (L2m2 (v0, v1, v2, v3, wrap IntKind.i64 (v4 + 1), v5)))
    none)
  (L1m1 (v0, wrap IntKind.i64 (v1 + 1), v5))
theorem d2_cn {ι : Type} {E : Fil ι} {link_CheckFate_m2 : link_CheckFate.A → Option link_CheckFate.R} {link_CheckFate_m2' : ι → link_CheckFate.A → Option link_CheckFate.R} (hlink_CheckFate_m2 : ∀ v, Cn E (link_CheckFate_m2 v) fun i => link_CheckFate_m2' i v) {L2m2 : T2 → Option R} {L2m2' : ι → T2 → Option R} (hL2m2 : ∀ v, Cn E (L2m2 v) fun i => L2m2' i v) {L1m1 : T1 → Option R} {L1m1' : ι → T1 → Option R} (hL1m1 : ∀ v, Cn E (L1m1 v) fun i => L1m1' i v) : ∀ v : T2, Cn E (d2 link_CheckFate_m2 L2m2 L1m1 v) fun i => d2 (link_CheckFate_m2' i) (L2m2' i) (L1m1' i) v := fun (v0, v1, v2, v3, v4, v5) => (.br (.br (.bnd (hlink_CheckFate_m2 _) fun _ => (.br .some (hL2m2 _))) .none) (hL1m1 _))
theorem l2_b ( k m1 m2 : Nat) : ∀ v : T2, run (cs m2) (loopN cs m2) b13 (kLoop cs m2 b13 (K13 k m1)) (s2 v) = d2 (link_CheckFate.f m2) (l2 k m1 m2) (l1 k m1) v := fun (v0, v1, v2, v3, v4, v5) => by kernel_rfl
theorem D2_of (v : T2) {r : R} (h : d2 link_CheckFate.F D2 D1 v = some r) : D2 v = some r :=
  loop_of 2 (l := fun L => l2 (L 0) (L 1) (L 2) v) (d := fun L => d2 (link_CheckFate.f (L 2)) (l2 (L 0) (L 1) (L 2)) (l1 (L 0) (L 1)) v) (fun L n hn => by show l2 (L 0) (L 1) (L 2) v = _; rw [hn]; exact (held_eq _).trans ((loopN_succ _ _ _ _ _).trans (l2_b (L 0) (L 1) n v))) (d2_cn (link_CheckFate.F_cn 2) (fun v => (D2_cn v).re [0, 1, 2]) (fun v => (D1_cn v).re [0, 1]) v) h
noncomputable def f (k : Nat) : A → Option R := fun (v0, v1, v2) => held (runFn cs k Try.f36 [(.c (.frz (.pair (.int .i64) (.pair (.int .i64) (.int .i64))) v0)), (.c (.frz (.pair .bool (.pair (.int .i64) (.pair (.int .i64) (.slice (.int .i64))))) v1)), (.c (.frz (.pair .bool (.pair (.int .i64) (.pair (.int .i64) (.slice (.int .i64))))) v2))] [] dec)
noncomputable def F (v : A) : Option R := lim fun L => f (L 0) v
theorem F_cn (x : Nat) (v : A) : Cn late (F v) fun L => f (L x) v := of_lim.re [x]
def d (L0k : T0 → Option R) : A → Option R := fun (v0, v1, v2) =>
br (decide (16 < (↑v0.length : Int)) || decide (200 < (↑v1.length : Int)) || decide (200 < (↑v2.length : Int))) (some 2) (L0k (v1, v2, v0, (↑v0.length : Int), 0))
theorem d_cn {ι : Type} {E : Fil ι} {L0k : T0 → Option R} {L0k' : ι → T0 → Option R} (hL0k : ∀ v, Cn E (L0k v) fun i => L0k' i v) : ∀ v : A, Cn E (d L0k v) fun i => d (L0k' i) v := fun (v0, v1, v2) => (.br .some (hL0k _))
theorem f_b (k : Nat) : ∀ v : A, f k v = d (l0 k k) v := fun (v0, v1, v2) => (held_eq _).trans (by kernel_rfl)
theorem F_of (v : A) {r : R} (h : d D0 v = some r) : F v = some r :=
  join_of (l := fun L => f (L 0) v) (d := fun L => d (l0 (L 0) (L 0)) v) (fun L => f_b (L 0) v) (d_cn (fun v => (D0_cn v).re [0, 0]) v) h
noncomputable def spec (k : Nat) (args : List AV) (ss : List Slot) : Option Ans :=
  match args, ss with
  | [(.c (.frz (.pair (.int .i64) (.pair (.int .i64) (.int .i64))) v0)), (.c (.frz (.pair .bool (.pair (.int .i64) (.pair (.int .i64) (.slice (.int .i64))))) v1)), (.c (.frz (.pair .bool (.pair (.int .i64) (.pair (.int .i64) (.slice (.int .i64))))) v2))], [] => some ⟨R, f k (v0, v1, v2), enc⟩
  | _, _ => none
theorem spec_ok (k : Nat) : SpecOk Try.prog 36 (spec k) := by
  intro args ss ans x h hx X σ w vals hp
  unfold spec at h
  split at h
  · cases h
    exact spec_of cs_ok Try.func36 rfl rfl dec_ok (held_eq _).symm hx hp
  · cases h
end link_Check
noncomputable def t_link_Check (k : Nat) := tcons 36 (link_Check.spec k) (t_link_CheckFate k)
theorem t_link_Check_ok (n g : Nat) : SpecOk Try.prog g (t_link_Check n g) := tcons_ok (link_Check.spec_ok n) (fun g => t_link_CheckFate_ok n g) g
namespace bus_Sum
abbrev R : Type := Int
abbrev A : Type := List Int
def lv : List (Nat × List Nat) := [(2000000, [2]), (3, [3, 6, 7, 8]), (7, [3, 6, 7, 8, 17]), (1000011, [3, 6, 7, 8, 17])]
noncomputable def cs : Nat → Ctx := ctxOf tis modes t_link_Check lv
theorem cs_ok (n : Nat) : CtxOk Try.prog (cs n) := ctxOf_ok rfl tis_ok t_link_Check_ok n
def enc (r : R) : Out := ((.c (.int .u16 r)), [])
def dec : Out → Option R
  | ((.c (.int .u16 v0)), []) => some v0
  | _ => none
theorem dec_ok : ∀ u y, dec u = some y → u = enc y := by
  intro u y h
  unfold dec at h
  split at h
  · cases h; rfl
  · cases h
noncomputable def b0 : Code := subF [] Try.f32
noncomputable def K0 (k : Nat) : Kt R := kTop (cs k) Try.f32 dec
noncomputable def b3 : Code := sub [1, 1, 0, 1, 0, 0] b0
noncomputable def K3 ( k : Nat) : Kt R := kAt (cs k) (loopN cs k) [1, 1, 0, 1, 0] b0 (K0 k)
noncomputable def b7 : Code := sub [1, 1, 0, 0, 1, 1, 1, 0, 0] b3
noncomputable def K7 ( k m1 : Nat) : Kt R := kAt (cs m1) (loopN cs m1) [1, 1, 0, 0, 1, 1, 1, 0] b3 (kLoop cs m1 b3 (K3 k))
noncomputable def c1000011 : Code := sub [1, 1, 1] b7
noncomputable def J1000011 ( k m1 m2 : Nat) : Kt R := kAt (cs m2) (loopN cs m2) [1, 1, 1] b7 (kLoop cs m2 b7 (K7 k m1))
abbrev T0 : Type := Int × List Int × Int × Int
def s0 : T0 → St := fun (v0, v1, v2, v3) => ⟨30, 0, [(3, (.c (.int .u16 v0))), (6, (.c (.frz (.int .u8) v1))), (7, (.c (.int .i64 v2))), (8, (.c (.int .i64 v3)))], [], [(256000000, .gone)]⟩
noncomputable def l0 ( k n : Nat) (v : T0) : Option R := held (loopN cs n b3 (K3 k) (s0 v))
noncomputable def D0 (v : T0) : Option R := lim fun L => l0 (L 0) (L 1) v
theorem D0_cn (v : T0) : Cn late (D0 v) fun L => l0 (L 0) (L 1) v := of_lim
abbrev T1 : Type := Int × List Int × Int × Int × Int
def s1 : T1 → St := fun (v0, v1, v2, v3, v4) => ⟨30, 0, [(3, (.c (.int .u16 v0))), (6, (.c (.frz (.int .u8) v1))), (7, (.c (.int .i64 v2))), (8, (.c (.int .i64 v3))), (17, (.c (.int .i64 v4)))], [], [(256000000, .gone)]⟩
noncomputable def l1 ( k m1 n : Nat) (v : T1) : Option R := held (loopN cs n b7 (K7 k m1) (s1 v))
noncomputable def D1 (v : T1) : Option R := lim fun L => l1 (L 0) (L 1) (L 2) v
theorem D1_cn (v : T1) : Cn late (D1 v) fun L => l1 (L 0) (L 1) (L 2) v := of_lim
abbrev T2 : Type := Int × List Int × Int × Int × Int
def s2 : T2 → St := fun (v0, v1, v2, v3, v4) => ⟨30, 0, [(3, (.c (.int .u16 v0))), (6, (.c (.frz (.int .u8) v1))), (7, (.c (.int .i64 v2))), (8, (.c (.int .i64 v3))), (17, (.c (.int .i64 v4)))], [], [(256000000, .gone)]⟩
noncomputable def l2 ( k m1 m2 : Nat) (v : T2) : Option R := held (run (cs m2) (loopN cs m2) c1000011 (J1000011 k m1 m2) (s2 v))
noncomputable def D2 (v : T2) : Option R := lim fun L => l2 (L 0) (L 1) (L 2) v
theorem D2_cn (v : T2) : Cn late (D2 v) fun L => l2 (L 0) (L 1) (L 2) v := of_lim
def d0 (L1m1 : T1 → Option R) : T0 → Option R := fun (v0, v1, v2, v3) =>
br (decide (v3 < v2)) (br (decide (0 ≤ v3 ∧ v3 < (↑v1.length : Int))) (br (decide ((0 : Int) ≤ 8)) (L1m1 (bXor IntKind.u16 v0 (shl IntKind.u16 (wrap IntKind.u16 (rd (Ty.int IntKind.u8) v1 v3)) 8), v1, v2, v3, 0)) none) none)
  (some v0)
theorem d0_cn {ι : Type} {E : Fil ι} {L1m1 : T1 → Option R} {L1m1' : ι → T1 → Option R} (hL1m1 : ∀ v, Cn E (L1m1 v) fun i => L1m1' i v) : ∀ v : T0, Cn E (d0 L1m1 v) fun i => d0 (L1m1' i) v := fun (v0, v1, v2, v3) => (.br (.br (.br (hL1m1 _) .none) .none) .some)
theorem l0_b ( k m1 : Nat) : ∀ v : T0, run (cs m1) (loopN cs m1) b3 (kLoop cs m1 b3 (K3 k)) (s0 v) = d0 (l1 k m1 m1) v := fun (v0, v1, v2, v3) => by kernel_rfl
theorem D0_of (v : T0) {r : R} (h : d0 D1 v = some r) : D0 v = some r :=
  loop_of 1 (l := fun L => l0 (L 0) (L 1) v) (d := fun L => d0 (l1 (L 0) (L 1) (L 1)) v) (fun L n hn => by show l0 (L 0) (L 1) v = _; rw [hn]; exact (held_eq _).trans ((loopN_succ _ _ _ _ _).trans (l0_b (L 0) n v))) (d0_cn (fun v => (D1_cn v).re [0, 1, 1]) v) h
def d1 (L2m2 : T2 → Option R) (L0m1 : T0 → Option R) : T1 → Option R := fun (v0, v1, v2, v3, v4) =>
br (decide (v4 < 8))
  (br (!decide (bAnd IntKind.u16 v0 32768 = 0)) (br (decide ((0 : Int) ≤ 1)) (L2m2 (bXor IntKind.u16 (shl IntKind.u16 v0 1) 4129, v1, v2, v3, v4)) none) (br (decide ((0 : Int) ≤ 1)) (L2m2 (shl IntKind.u16 v0 1, v1, v2, v3, v4)) none))
  (L0m1 (v0, v1, v2, wrap IntKind.i64 (v3 + 1)))
theorem d1_cn {ι : Type} {E : Fil ι} {L2m2 : T2 → Option R} {L2m2' : ι → T2 → Option R} (hL2m2 : ∀ v, Cn E (L2m2 v) fun i => L2m2' i v) {L0m1 : T0 → Option R} {L0m1' : ι → T0 → Option R} (hL0m1 : ∀ v, Cn E (L0m1 v) fun i => L0m1' i v) : ∀ v : T1, Cn E (d1 L2m2 L0m1 v) fun i => d1 (L2m2' i) (L0m1' i) v := fun (v0, v1, v2, v3, v4) => (.br (.br (.br (hL2m2 _) .none) (.br (hL2m2 _) .none)) (hL0m1 _))
theorem l1_b ( k m1 m2 : Nat) : ∀ v : T1, run (cs m2) (loopN cs m2) b7 (kLoop cs m2 b7 (K7 k m1)) (s1 v) = d1 (l2 k m1 m2) (l0 k m1) v := fun (v0, v1, v2, v3, v4) => by kernel_rfl
theorem D1_of (v : T1) {r : R} (h : d1 D2 D0 v = some r) : D1 v = some r :=
  loop_of 2 (l := fun L => l1 (L 0) (L 1) (L 2) v) (d := fun L => d1 (l2 (L 0) (L 1) (L 2)) (l0 (L 0) (L 1)) v) (fun L n hn => by show l1 (L 0) (L 1) (L 2) v = _; rw [hn]; exact (held_eq _).trans ((loopN_succ _ _ _ _ _).trans (l1_b (L 0) (L 1) n v))) (d1_cn (fun v => (D2_cn v).re [0, 1, 2]) (fun v => (D0_cn v).re [0, 1]) v) h
def d2 (L1m2 : T1 → Option R) : T2 → Option R := fun (v0, v1, v2, v3, v4) =>
L1m2 (v0, v1, v2, v3, wrap IntKind.i64 (v4 + 1))
theorem d2_cn {ι : Type} {E : Fil ι} {L1m2 : T1 → Option R} {L1m2' : ι → T1 → Option R} (hL1m2 : ∀ v, Cn E (L1m2 v) fun i => L1m2' i v) : ∀ v : T2, Cn E (d2 L1m2 v) fun i => d2 (L1m2' i) v := fun (v0, v1, v2, v3, v4) => (hL1m2 _)
theorem l2_b ( k m1 m2 : Nat) : ∀ v : T2, run (cs m2) (loopN cs m2) c1000011 (J1000011 k m1 m2) (s2 v) = d2 (l1 k m1 m2) v := fun (v0, v1, v2, v3, v4) => by kernel_rfl
theorem D2_of (v : T2) {r : R} (h : d2 D1 v = some r) : D2 v = some r :=
  join_of (l := fun L => l2 (L 0) (L 1) (L 2) v) (d := fun L => d2 (l1 (L 0) (L 1) (L 2)) v) (fun L => (held_eq _).trans (l2_b (L 0) (L 1) (L 2) v)) (d2_cn (fun v => (D1_cn v).re [0, 1, 2]) v) h
noncomputable def f (k : Nat) : A → Option R := fun v0 => held (runFn cs k Try.f32 [(.c (.frz (.int .u8) v0))] [] dec)
noncomputable def F (v : A) : Option R := lim fun L => f (L 0) v
theorem F_cn (x : Nat) (v : A) : Cn late (F v) fun L => f (L x) v := of_lim.re [x]
def d (L0k : T0 → Option R) : A → Option R := fun v0 =>
L0k (65535, v0, (↑v0.length : Int), 0)
theorem d_cn {ι : Type} {E : Fil ι} {L0k : T0 → Option R} {L0k' : ι → T0 → Option R} (hL0k : ∀ v, Cn E (L0k v) fun i => L0k' i v) : ∀ v : A, Cn E (d L0k v) fun i => d (L0k' i) v := fun v0 => (hL0k _)
theorem f_b (k : Nat) : ∀ v : A, f k v = d (l0 k k) v := fun v0 => (held_eq _).trans (by kernel_rfl)
theorem F_of (v : A) {r : R} (h : d D0 v = some r) : F v = some r :=
  join_of (l := fun L => f (L 0) v) (d := fun L => d (l0 (L 0) (L 0)) v) (fun L => f_b (L 0) v) (d_cn (fun v => (D0_cn v).re [0, 0]) v) h
noncomputable def spec (k : Nat) (args : List AV) (ss : List Slot) : Option Ans :=
  match args, ss with
  | [(.c (.frz (.int .u8) v0))], [] => some ⟨R, f k v0, enc⟩
  | _, _ => none
theorem spec_ok (k : Nat) : SpecOk Try.prog 32 (spec k) := by
  intro args ss ans x h hx X σ w vals hp
  unfold spec at h
  split at h
  · cases h
    exact spec_of cs_ok Try.func32 rfl rfl dec_ok (held_eq _).symm hx hp
  · cases h
end bus_Sum
noncomputable def t_bus_Sum (k : Nat) := tcons 32 (bus_Sum.spec k) (t_link_Check k)
theorem t_bus_Sum_ok (n g : Nat) : SpecOk Try.prog g (t_bus_Sum n g) := tcons_ok (bus_Sum.spec_ok n) (fun g => t_link_Check_ok n g) g
namespace bus_Parse
abbrev R : Type := Int × Int × Int × Int × List Int
abbrev A : Type := List Int
def lv : List (Nat × List Nat) := [(2000000, [2, 3])]
noncomputable def cs : Nat → Ctx := ctxOf tis modes t_bus_Sum lv
theorem cs_ok (n : Nat) : CtxOk Try.prog (cs n) := ctxOf_ok rfl tis_ok t_bus_Sum_ok n
def enc (r : R) : Out := ((.tup [(.agg [(.int .i64 r.1), (.int .i64 r.2.1), (.int .i64 r.2.2.1), (.sl 128000000)]), (.c (.int .i64 r.2.2.2.1))]), [(.row (.int .u8) r.2.2.2.2)])
def dec : Out → Option R
  | ((.tup [(.agg [(.int .i64 v0), (.int .i64 v1), (.int .i64 v2), (.sl 128000000)]), (.c (.int .i64 v3))]), [(.row (.int .u8) v4)]) => some (v0, v1, v2, v3, v4)
  | _ => none
theorem dec_ok : ∀ u y, dec u = some y → u = enc y := by
  intro u y h
  unfold dec at h
  split at h
  · cases h; rfl
  · cases h
noncomputable def b0 : Code := subF [] Try.f47
noncomputable def K0 (k : Nat) : Kt R := kTop (cs k) Try.f47 dec
noncomputable def f (k : Nat) : A → Option R := fun v0 => held (runFn cs k Try.f47 [(.c (.frz (.int .u8) v0))] [] dec)
noncomputable def F (v : A) : Option R := lim fun L => f (L 0) v
theorem F_cn (x : Nat) (v : A) : Cn late (F v) fun L => f (L x) v := of_lim.re [x]
def d (bus_Sum_k : bus_Sum.A → Option bus_Sum.R) : A → Option R := fun v0 =>
br (decide ((↑v0.length : Int) < 5)) (some (0, 0, 0, 14, []))
  (br (decide (21 < (↑v0.length : Int))) (some (0, 0, 0, 2, []))
    (br (decide (0 ≤ wrap IntKind.i64 ((↑v0.length : Int) - 2) ∧ wrap IntKind.i64 ((↑v0.length : Int) - 2) ≤ (↑v0.length : Int)))
      (bnd (bus_Sum_k (List.drop (Int.toNat 0) (List.take (wrap IntKind.i64 ((↑v0.length : Int) - 2)).toNat v0))) fun r =>
        br (decide (0 ≤ wrap IntKind.i64 ((↑v0.length : Int) - 2) ∧ wrap IntKind.i64 ((↑v0.length : Int) - 2) < (↑v0.length : Int)))
          (br (decide ((0 : Int) ≤ 8))
            (br
              (!(!decide (rd (Ty.int IntKind.u8) v0 (wrap IntKind.i64 ((↑v0.length : Int) - 2)) = wrap IntKind.u8 (shr IntKind.u16 r 8))) == false ||
                decide (0 ≤ wrap IntKind.i64 (wrap IntKind.i64 ((↑v0.length : Int) - 2) + 1) ∧ wrap IntKind.i64 (wrap IntKind.i64 ((↑v0.length : Int) - 2) + 1) < (↑v0.length : Int)))
              (br
                (!decide (rd (Ty.int IntKind.u8) v0 (wrap IntKind.i64 ((↑v0.length : Int) - 2)) = wrap IntKind.u8 (shr IntKind.u16 r 8)) ||
                  !decide (rd (Ty.int IntKind.u8) v0 (wrap IntKind.i64 (wrap IntKind.i64 ((↑v0.length : Int) - 2) + 1)) = wrap IntKind.u8 r))
                (some (0, 0, 0, 13, []))
                (br (decide ((0 : Int) ≤ 0 ∧ 0 < (↑v0.length : Int)))
                  (br (decide ((0 : Int) ≤ 4))
                    (br (decide ((0 : Int) ≤ 0 ∧ 0 < (↑v0.length : Int)))
                      (br (decide ((0 : Int) ≤ 1 ∧ 1 < (↑v0.length : Int)))
                        (br (decide ((0 : Int) ≤ 8))
                          (br (decide ((0 : Int) ≤ 2 ∧ 2 < (↑v0.length : Int)))
                            (br (decide ((0 : Int) ≤ 3 ∧ 3 ≤ wrap IntKind.i64 ((↑v0.length : Int) - 2) ∧ wrap IntKind.i64 ((↑v0.length : Int) - 2) ≤ (↑v0.length : Int)))
                              (br (decide (0 + (List.drop (Int.toNat 3) (List.take (wrap IntKind.i64 ((↑v0.length : Int) - 2)).toNat v0)).length ≤ 140737488355328 / 1))
                                (some
                                  (wrap IntKind.i64 (shr IntKind.u8 (rd (Ty.int IntKind.u8) v0 0) 4), wrap IntKind.i64 (bAnd IntKind.u8 (rd (Ty.int IntKind.u8) v0 0) 15),
                                    bOr IntKind.i64 (shl IntKind.i64 (wrap IntKind.i64 (rd (Ty.int IntKind.u8) v0 1)) 8) (wrap IntKind.i64 (rd (Ty.int IntKind.u8) v0 2)), 0,
                                    [] ++ List.drop (Int.toNat 3) (List.take (wrap IntKind.i64 ((↑v0.length : Int) - 2)).toNat v0)))
                                none)
                              none)
                            none)
                          none)
                        none)
                      none)
                    none)
                  none))
              none)
            none)
          none)
      none))
theorem d_cn {ι : Type} {E : Fil ι} {bus_Sum_k : bus_Sum.A → Option bus_Sum.R} {bus_Sum_k' : ι → bus_Sum.A → Option bus_Sum.R} (hbus_Sum_k : ∀ v, Cn E (bus_Sum_k v) fun i => bus_Sum_k' i v) : ∀ v : A, Cn E (d bus_Sum_k v) fun i => d (bus_Sum_k' i) v := fun v0 => (.br .some (.br .some (.br (.bnd (hbus_Sum_k _) fun _ => (.br (.br (.br (.br .some (.br (.br (.br (.br (.br (.br (.br (.br .some .none) .none) .none) .none) .none) .none) .none) .none)) .none) .none) .none)) .none)))
theorem f_b (k : Nat) : ∀ v : A, f k v = d (bus_Sum.f k) v := fun v0 => (held_eq _).trans (by kernel_rfl)
theorem F_of (v : A) {r : R} (h : d bus_Sum.F v = some r) : F v = some r :=
  join_of (l := fun L => f (L 0) v) (d := fun L => d (bus_Sum.f (L 0)) v) (fun L => f_b (L 0) v) (d_cn (bus_Sum.F_cn 0) v) h
noncomputable def spec (k : Nat) (args : List AV) (ss : List Slot) : Option Ans :=
  match args, ss with
  | [(.c (.frz (.int .u8) v0))], [] => some ⟨R, f k v0, enc⟩
  | _, _ => none
theorem spec_ok (k : Nat) : SpecOk Try.prog 47 (spec k) := by
  intro args ss ans x h hx X σ w vals hp
  unfold spec at h
  split at h
  · cases h
    exact spec_of cs_ok Try.func47 rfl rfl dec_ok (held_eq _).symm hx hp
  · cases h
end bus_Parse
noncomputable def t_bus_Parse (k : Nat) := tcons 47 (bus_Parse.spec k) (t_bus_Sum k)
theorem t_bus_Parse_ok (n g : Nat) : SpecOk Try.prog g (t_bus_Parse n g) := tcons_ok (bus_Parse.spec_ok n) (fun g => t_bus_Sum_ok n g) g
namespace bus_Reader_flag
abbrev R : Type := Int × Int × Int × Bool × Bool × Bool × Bool × Int × List Int × List Int × List Int
abbrev A : Type := Bool × Bool × Bool × Int × List Int
def lv : List (Nat × List Nat) := [(2000000, [2, 3])]
noncomputable def cs : Nat → Ctx := ctxOf tis modes t_bus_Parse lv
theorem cs_ok (n : Nat) : CtxOk Try.prog (cs n) := ctxOf_ok rfl tis_ok t_bus_Parse_ok n
def enc (r : R) : Out := ((.tup [(.agg [(.int .i64 r.1), (.int .i64 r.2.1), (.int .i64 r.2.2.1), (.sl 128000002)]), (.c (.bool r.2.2.2.1))]), [(.box [(.sl 128000003), (.bool r.2.2.2.2.1), (.bool r.2.2.2.2.2.1), (.bool r.2.2.2.2.2.2.1), (.int .i64 r.2.2.2.2.2.2.2.1)]), (.row (.int .u8) r.2.2.2.2.2.2.2.2.1), (.row (.int .u8) r.2.2.2.2.2.2.2.2.2.1), (.row (.int .u8) r.2.2.2.2.2.2.2.2.2.2)])
def dec : Out → Option R
  | ((.tup [(.agg [(.int .i64 v0), (.int .i64 v1), (.int .i64 v2), (.sl 128000002)]), (.c (.bool v3))]), [(.box [(.sl 128000003), (.bool v4), (.bool v5), (.bool v6), (.int .i64 v7)]), (.row (.int .u8) v8), (.row (.int .u8) v9), (.row (.int .u8) v10)]) => some (v0, v1, v2, v3, v4, v5, v6, v7, v8, v9, v10)
  | _ => none
theorem dec_ok : ∀ u y, dec u = some y → u = enc y := by
  intro u y h
  unfold dec at h
  split at h
  · cases h; rfl
  · cases h
noncomputable def b0 : Code := subF [] Try.f42
noncomputable def K0 (k : Nat) : Kt R := kTop (cs k) Try.f42 dec
noncomputable def f (k : Nat) : A → Option R := fun (v0, v1, v2, v3, v4) => held (runFn cs k Try.f42 [(.c (.ptr 128000000 0))] [(.box [(.sl 128000001), (.bool v0), (.bool v1), (.bool v2), (.int .i64 v3)]), (.row (.int .u8) v4)] dec)
noncomputable def F (v : A) : Option R := lim fun L => f (L 0) v
theorem F_cn (x : Nat) (v : A) : Cn late (F v) fun L => f (L x) v := of_lim.re [x]
def d (bus_Parse_k : bus_Parse.A → Option bus_Parse.R) : A → Option R := fun (v0, v1, v2, v3, v4) =>
br (decide ((↑v4.length : Int) = 0) && !(v1 || v0)) (some (0, 0, 0, false, false, false, true, v3, v4, [], []))
  (bnd (bus_Parse_k v4) fun r =>
    br (v1 || v0 || !decide (r.snd.snd.snd.fst = 0)) (some (0, 0, 0, false, false, false, true, wrap IntKind.i64 (v3 + 1), v4, [], []))
      (some (r.fst, r.snd.fst, r.snd.snd.fst, true, false, false, true, v3, v4, r.snd.snd.snd.snd, [])))
theorem d_cn {ι : Type} {E : Fil ι} {bus_Parse_k : bus_Parse.A → Option bus_Parse.R} {bus_Parse_k' : ι → bus_Parse.A → Option bus_Parse.R} (hbus_Parse_k : ∀ v, Cn E (bus_Parse_k v) fun i => bus_Parse_k' i v) : ∀ v : A, Cn E (d bus_Parse_k v) fun i => d (bus_Parse_k' i) v := fun (v0, v1, v2, v3, v4) => (.br .some (.bnd (hbus_Parse_k _) fun _ => (.br .some .some)))
theorem f_b (k : Nat) : ∀ v : A, f k v = d (bus_Parse.f k) v := fun (v0, v1, v2, v3, v4) => (held_eq _).trans (by kernel_rfl)
theorem F_of (v : A) {r : R} (h : d bus_Parse.F v = some r) : F v = some r :=
  join_of (l := fun L => f (L 0) v) (d := fun L => d (bus_Parse.f (L 0)) v) (fun L => f_b (L 0) v) (d_cn (bus_Parse.F_cn 0) v) h
noncomputable def spec (k : Nat) (args : List AV) (ss : List Slot) : Option Ans :=
  match args, ss with
  | [(.c (.ptr 128000000 0))], [(.box [(.sl 128000001), (.bool v0), (.bool v1), (.bool v2), (.int .i64 v3)]), (.row (.int .u8) v4)] => some ⟨R, f k (v0, v1, v2, v3, v4), enc⟩
  | _, _ => none
theorem spec_ok (k : Nat) : SpecOk Try.prog 42 (spec k) := by
  intro args ss ans x h hx X σ w vals hp
  unfold spec at h
  split at h
  · cases h
    exact spec_of cs_ok Try.func42 rfl rfl dec_ok (held_eq _).symm hx hp
  · cases h
end bus_Reader_flag
noncomputable def t_bus_Reader_flag (k : Nat) := tcons 42 (bus_Reader_flag.spec k) (t_bus_Parse k)
theorem t_bus_Reader_flag_ok (n g : Nat) : SpecOk Try.prog g (t_bus_Reader_flag n g) := tcons_ok (bus_Reader_flag.spec_ok n) (fun g => t_bus_Parse_ok n g) g
namespace bus_Reader_put
abbrev R : Type := Bool × Bool × Bool × Int × List Int
abbrev A : Type := Int × Bool × Bool × Bool × Int × List Int
def lv : List (Nat × List Nat) := [(2000001, [1]), (2000000, [0])]
noncomputable def cs : Nat → Ctx := ctxOf tis modes t_bus_Reader_flag lv
theorem cs_ok (n : Nat) : CtxOk Try.prog (cs n) := ctxOf_ok rfl tis_ok t_bus_Reader_flag_ok n
def enc (r : R) : Out := ((.tup []), [(.box [(.sl 128000002), (.bool r.1), (.bool r.2.1), (.bool r.2.2.1), (.int .i64 r.2.2.2.1)]), .gone, (.row (.int .u8) r.2.2.2.2)])
def dec : Out → Option R
  | ((.tup []), [(.box [(.sl 128000002), (.bool v0), (.bool v1), (.bool v2), (.int .i64 v3)]), .gone, (.row (.int .u8) v4)]) => some (v0, v1, v2, v3, v4)
  | _ => none
theorem dec_ok : ∀ u y, dec u = some y → u = enc y := by
  intro u y h
  unfold dec at h
  split at h
  · cases h; rfl
  · cases h
noncomputable def b0 : Code := subF [] Try.f43
noncomputable def K0 (k : Nat) : Kt R := kTop (cs k) Try.f43 dec
noncomputable def f (k : Nat) : A → Option R := fun (v0, v1, v2, v3, v4, v5) => held (runFn cs k Try.f43 [(.c (.ptr 128000000 0)), (.c (.int .u8 v0))] [(.box [(.sl 128000001), (.bool v1), (.bool v2), (.bool v3), (.int .i64 v4)]), (.row (.int .u8) v5)] dec)
noncomputable def F (v : A) : Option R := lim fun L => f (L 0) v
theorem F_cn (x : Nat) (v : A) : Cn late (F v) fun L => f (L x) v := of_lim.re [x]
def d : A → Option R := fun (v0, v1, v2, v3, v4, v5) =>
br (decide ((↑v5.length : Int) = 21)) (some (v1, true, v3, v4, v5)) (br (decide (v5.length + [v0].length ≤ 140737488355328 / 1)) (some (v1, v2, v3, v4, v5 ++ [v0])) none)
theorem d_cn {ι : Type} {E : Fil ι} : ∀ v : A, Cn E (d v) fun i => d v := fun (v0, v1, v2, v3, v4, v5) => (.br .some (.br .some .none))
theorem f_b (k : Nat) : ∀ v : A, f k v = d v := fun (v0, v1, v2, v3, v4, v5) => (held_eq _).trans (by kernel_rfl)
theorem F_of (v : A) {r : R} (h : d v = some r) : F v = some r :=
  join_of (l := fun L => f (L 0) v) (d := fun L => d v) (fun L => f_b (L 0) v) (d_cn v) h
noncomputable def spec (k : Nat) (args : List AV) (ss : List Slot) : Option Ans :=
  match args, ss with
  | [(.c (.ptr 128000000 0)), (.c (.int .u8 v0))], [(.box [(.sl 128000001), (.bool v1), (.bool v2), (.bool v3), (.int .i64 v4)]), (.row (.int .u8) v5)] => some ⟨R, f k (v0, v1, v2, v3, v4, v5), enc⟩
  | _, _ => none
theorem spec_ok (k : Nat) : SpecOk Try.prog 43 (spec k) := by
  intro args ss ans x h hx X σ w vals hp
  unfold spec at h
  split at h
  · cases h
    exact spec_of cs_ok Try.func43 rfl rfl dec_ok (held_eq _).symm hx hp
  · cases h
end bus_Reader_put
noncomputable def t_bus_Reader_put (k : Nat) := tcons 43 (bus_Reader_put.spec k) (t_bus_Reader_flag k)
theorem t_bus_Reader_put_ok (n g : Nat) : SpecOk Try.prog g (t_bus_Reader_put n g) := tcons_ok (bus_Reader_put.spec_ok n) (fun g => t_bus_Reader_flag_ok n g) g
namespace bus_Reader_Feed
abbrev R : Type := Int × Int × Int × Bool × Bool × Bool × Bool × Int × List Int × List Int
abbrev A : Type := Int × Bool × Bool × Bool × Int × List Int
def lv : List (Nat × List Nat) := [(2000001, [1]), (2000000, [4, 5]), (1000013, [4])]
noncomputable def cs : Nat → Ctx := ctxOf tis modes t_bus_Reader_put lv
theorem cs_ok (n : Nat) : CtxOk Try.prog (cs n) := ctxOf_ok rfl tis_ok t_bus_Reader_put_ok n
def enc (r : R) : Out := ((.tup [(.agg [(.int .i64 r.1), (.int .i64 r.2.1), (.int .i64 r.2.2.1), (.sl 128000002)]), (.c (.bool r.2.2.2.1))]), [(.box [(.sl 128000003), (.bool r.2.2.2.2.1), (.bool r.2.2.2.2.2.1), (.bool r.2.2.2.2.2.2.1), (.int .i64 r.2.2.2.2.2.2.2.1)]), .gone, (.row (.int .u8) r.2.2.2.2.2.2.2.2.1), (.row (.int .u8) r.2.2.2.2.2.2.2.2.2)])
def dec : Out → Option R
  | ((.tup [(.agg [(.int .i64 v0), (.int .i64 v1), (.int .i64 v2), (.sl 128000002)]), (.c (.bool v3))]), [(.box [(.sl 128000003), (.bool v4), (.bool v5), (.bool v6), (.int .i64 v7)]), .gone, (.row (.int .u8) v8), (.row (.int .u8) v9)]) => some (v0, v1, v2, v3, v4, v5, v6, v7, v8, v9)
  | _ => none
theorem dec_ok : ∀ u y, dec u = some y → u = enc y := by
  intro u y h
  unfold dec at h
  split at h
  · cases h; rfl
  · cases h
noncomputable def b0 : Code := subF [] Try.f29
noncomputable def K0 (k : Nat) : Kt R := kTop (cs k) Try.f29 dec
noncomputable def c1000013 : Code := sub [1, 1, 1] b0
noncomputable def J1000013 ( k : Nat) : Kt R := kAt (cs k) (loopN cs k) [1, 1, 1] b0 (K0 k)
abbrev T0 : Type := Bool × Bool × Bool × Int × List Int × Int × Int × Int × List Int
def s0 : T0 → St := fun (v0, v1, v2, v3, v4, v5, v6, v7, v8) => ⟨57, 2, [(4, (.c (.ptr 64000000 0)))], [], [(128000000, (.box [(.sl 128000001), (.bool v0), (.bool v1), (.bool v2), (.int .i64 v3)])), (128000001, (.row (.int .u8) v4)), (256000000, .gone), (64000000, (.box [(.int .i64 v5), (.int .i64 v6), (.int .i64 v7), (.sl 64000001)])), (64000001, (.row (.int .u8) v8))]⟩
noncomputable def l0 ( k : Nat) (v : T0) : Option R := held (run (cs k) (loopN cs k) c1000013 (J1000013 k) (s0 v))
noncomputable def D0 (v : T0) : Option R := lim fun L => l0 (L 0) v
theorem D0_cn (v : T0) : Cn late (D0 v) fun L => l0 (L 0) v := of_lim
abbrev T1 : Type := Bool × Bool × Bool × Int × Int × Int × Int × List Int × List Int
def s1 : T1 → St := fun (v0, v1, v2, v3, v4, v5, v6, v7, v8) => ⟨57, 2, [(4, (.c (.ptr 64000000 0)))], [], [(128000000, (.box [(.sl 64000001), (.bool v0), (.bool v1), (.bool v2), (.int .i64 v3)])), (128000001, .gone), (256000000, .gone), (64000000, (.box [(.int .i64 v4), (.int .i64 v5), (.int .i64 v6), (.sl 64000002)])), (64000001, (.row (.int .u8) v7)), (64000002, (.row (.int .u8) v8))]⟩
noncomputable def l1 ( k : Nat) (v : T1) : Option R := held (run (cs k) (loopN cs k) c1000013 (J1000013 k) (s1 v))
noncomputable def D1 (v : T1) : Option R := lim fun L => l1 (L 0) v
theorem D1_cn (v : T1) : Cn late (D1 v) fun L => l1 (L 0) v := of_lim
def d0 : T0 → Option R := fun (v0, v1, v2, v3, v4, v5, v6, v7, v8) =>
some (0, 0, 0, false, v0, v1, v2, v3, [], v4)
theorem d0_cn {ι : Type} {E : Fil ι} : ∀ v : T0, Cn E (d0 v) fun i => d0 v := fun (v0, v1, v2, v3, v4, v5, v6, v7, v8) => .some
theorem l0_b ( k : Nat) : ∀ v : T0, run (cs k) (loopN cs k) c1000013 (J1000013 k) (s0 v) = d0 v := fun (v0, v1, v2, v3, v4, v5, v6, v7, v8) => by kernel_rfl
theorem D0_of (v : T0) {r : R} (h : d0 v = some r) : D0 v = some r :=
  join_of (l := fun L => l0 (L 0) v) (d := fun L => d0 v) (fun L => (held_eq _).trans (l0_b (L 0) v)) (d0_cn v) h
def d1 : T1 → Option R := fun (v0, v1, v2, v3, v4, v5, v6, v7, v8) =>
some (0, 0, 0, false, v0, v1, v2, v3, [], v7)
theorem d1_cn {ι : Type} {E : Fil ι} : ∀ v : T1, Cn E (d1 v) fun i => d1 v := fun (v0, v1, v2, v3, v4, v5, v6, v7, v8) => .some
theorem l1_b ( k : Nat) : ∀ v : T1, run (cs k) (loopN cs k) c1000013 (J1000013 k) (s1 v) = d1 v := fun (v0, v1, v2, v3, v4, v5, v6, v7, v8) => by kernel_rfl
theorem D1_of (v : T1) {r : R} (h : d1 v = some r) : D1 v = some r :=
  join_of (l := fun L => l1 (L 0) v) (d := fun L => d1 v) (fun L => (held_eq _).trans (l1_b (L 0) v)) (d1_cn v) h
noncomputable def f (k : Nat) : A → Option R := fun (v0, v1, v2, v3, v4, v5) => held (runFn cs k Try.f29 [(.c (.ptr 128000000 0)), (.c (.int .u8 v0))] [(.box [(.sl 128000001), (.bool v1), (.bool v2), (.bool v3), (.int .i64 v4)]), (.row (.int .u8) v5)] dec)
noncomputable def F (v : A) : Option R := lim fun L => f (L 0) v
theorem F_cn (x : Nat) (v : A) : Cn late (F v) fun L => f (L x) v := of_lim.re [x]
def d (bus_Reader_flag_k : bus_Reader_flag.A → Option bus_Reader_flag.R) (L0k : T0 → Option R) (bus_Reader_put_k : bus_Reader_put.A → Option bus_Reader_put.R) (L1k : T1 → Option R) : A → Option R := fun (v0, v1, v2, v3, v4, v5) =>
br (decide (v0 = 126))
  (bnd (bus_Reader_flag_k (v1, v2, v3, v4, v5)) fun r =>
    some
      (r.fst, r.snd.fst, r.snd.snd.fst, r.snd.snd.snd.fst, r.snd.snd.snd.snd.fst, r.snd.snd.snd.snd.snd.fst, r.snd.snd.snd.snd.snd.snd.fst, r.snd.snd.snd.snd.snd.snd.snd.fst, r.snd.snd.snd.snd.snd.snd.snd.snd.snd.fst,
        r.snd.snd.snd.snd.snd.snd.snd.snd.snd.snd))
  (br (v2 || !v3) (L0k (v1, v2, v3, v4, v5, 0, 0, 0, []))
    (br v1
      (br (decide (bXor IntKind.u8 v0 32 = 126) || decide (bXor IntKind.u8 v0 32 = 125))
        (bnd (bus_Reader_put_k (bXor IntKind.u8 v0 32, false, v2, v3, v4, v5)) fun r => L1k (r.fst, r.snd.fst, r.snd.snd.fst, r.snd.snd.snd.fst, 0, 0, 0, r.snd.snd.snd.snd, []))
        (L0k (false, true, v3, v4, v5, 0, 0, 0, [])))
      (br (decide (v0 = 125)) (L0k (true, v2, v3, v4, v5, 0, 0, 0, []))
        (bnd (bus_Reader_put_k (v0, v1, v2, v3, v4, v5)) fun r => L1k (r.fst, r.snd.fst, r.snd.snd.fst, r.snd.snd.snd.fst, 0, 0, 0, r.snd.snd.snd.snd, [])))))
theorem d_cn {ι : Type} {E : Fil ι} {bus_Reader_flag_k : bus_Reader_flag.A → Option bus_Reader_flag.R} {bus_Reader_flag_k' : ι → bus_Reader_flag.A → Option bus_Reader_flag.R} (hbus_Reader_flag_k : ∀ v, Cn E (bus_Reader_flag_k v) fun i => bus_Reader_flag_k' i v) {L0k : T0 → Option R} {L0k' : ι → T0 → Option R} (hL0k : ∀ v, Cn E (L0k v) fun i => L0k' i v) {bus_Reader_put_k : bus_Reader_put.A → Option bus_Reader_put.R} {bus_Reader_put_k' : ι → bus_Reader_put.A → Option bus_Reader_put.R} (hbus_Reader_put_k : ∀ v, Cn E (bus_Reader_put_k v) fun i => bus_Reader_put_k' i v) {L1k : T1 → Option R} {L1k' : ι → T1 → Option R} (hL1k : ∀ v, Cn E (L1k v) fun i => L1k' i v) : ∀ v : A, Cn E (d bus_Reader_flag_k L0k bus_Reader_put_k L1k v) fun i => d (bus_Reader_flag_k' i) (L0k' i) (bus_Reader_put_k' i) (L1k' i) v := fun (v0, v1, v2, v3, v4, v5) => (.br (.bnd (hbus_Reader_flag_k _) fun _ => .some) (.br (hL0k _) (.br (.br (.bnd (hbus_Reader_put_k _) fun _ => (hL1k _)) (hL0k _)) (.br (hL0k _) (.bnd (hbus_Reader_put_k _) fun _ => (hL1k _))))))
theorem f_b (k : Nat) : ∀ v : A, f k v = d (bus_Reader_flag.f k) (l0 k) (bus_Reader_put.f k) (l1 k) v := fun (v0, v1, v2, v3, v4, v5) => (held_eq _).trans (by kernel_rfl)
theorem F_of (v : A) {r : R} (h : d bus_Reader_flag.F D0 bus_Reader_put.F D1 v = some r) : F v = some r :=
  join_of (l := fun L => f (L 0) v) (d := fun L => d (bus_Reader_flag.f (L 0)) (l0 (L 0)) (bus_Reader_put.f (L 0)) (l1 (L 0)) v) (fun L => f_b (L 0) v) (d_cn (bus_Reader_flag.F_cn 0) (fun v => (D0_cn v).re [0]) (bus_Reader_put.F_cn 0) (fun v => (D1_cn v).re [0]) v) h
noncomputable def spec (k : Nat) (args : List AV) (ss : List Slot) : Option Ans :=
  match args, ss with
  | [(.c (.ptr 128000000 0)), (.c (.int .u8 v0))], [(.box [(.sl 128000001), (.bool v1), (.bool v2), (.bool v3), (.int .i64 v4)]), (.row (.int .u8) v5)] => some ⟨R, f k (v0, v1, v2, v3, v4, v5), enc⟩
  | _, _ => none
theorem spec_ok (k : Nat) : SpecOk Try.prog 29 (spec k) := by
  intro args ss ans x h hx X σ w vals hp
  unfold spec at h
  split at h
  · cases h
    exact spec_of cs_ok Try.func29 rfl rfl dec_ok (held_eq _).symm hx hp
  · cases h
end bus_Reader_Feed
noncomputable def t_bus_Reader_Feed (k : Nat) := tcons 29 (bus_Reader_Feed.spec k) (t_bus_Reader_put k)
theorem t_bus_Reader_Feed_ok (n g : Nat) : SpecOk Try.prog g (t_bus_Reader_Feed n g) := tcons_ok (bus_Reader_Feed.spec_ok n) (fun g => t_bus_Reader_put_ok n g) g
namespace bus_Decode
abbrev R : Type := Int × List (Int × Int × Int × List Int)
abbrev A : Type := List Int
def lv : List (Nat × List Nat) := [(2000000, [2, 3]), (4, [4, 5, 10, 11, 12]), (1000009, [4, 5, 10, 11, 12])]
noncomputable def cs : Nat → Ctx := ctxOf tis modes t_bus_Reader_Feed lv
theorem cs_ok (n : Nat) : CtxOk Try.prog (cs n) := ctxOf_ok rfl tis_ok t_bus_Reader_Feed_ok n
def enc (r : R) : Out := ((.tup [(.c (.sl 128000000)), (.c (.int .i64 r.1))]), [(.row (.pair (.int .i64) (.pair (.int .i64) (.pair (.int .i64) (.slice (.int .u8))))) r.2)])
def dec : Out → Option R
  | ((.tup [(.c (.sl 128000000)), (.c (.int .i64 v0))]), [(.row (.pair (.int .i64) (.pair (.int .i64) (.pair (.int .i64) (.slice (.int .u8))))) v1)]) => some (v0, v1)
  | _ => none
theorem dec_ok : ∀ u y, dec u = some y → u = enc y := by
  intro u y h
  unfold dec at h
  split at h
  · cases h; rfl
  · cases h
noncomputable def b0 : Code := subF [] Try.f14
noncomputable def K0 (k : Nat) : Kt R := kTop (cs k) Try.f14 dec
noncomputable def b4 : Code := sub [1, 1, 1, 0, 1, 0, 0] b0
noncomputable def K4 ( k : Nat) : Kt R := kAt (cs k) (loopN cs k) [1, 1, 1, 0, 1, 0] b0 (K0 k)
noncomputable def c1000009 : Code := sub [1, 1, 1] b4
noncomputable def J1000009 ( k m1 : Nat) : Kt R := kAt (cs m1) (loopN cs m1) [1, 1, 1] b4 (kLoop cs m1 b4 (K4 k))
abbrev T0 : Type := List Int × Int × Int × Bool × Bool × Bool × Int × List (Int × Int × Int × List Int) × List Int
def s0 : T0 → St := fun (v0, v1, v2, v3, v4, v5, v6, v7, v8) => ⟨30, 0, [(4, (.c (.ptr 64000000 0))), (5, (.c (.sl 64000001))), (10, (.c (.frz (.int .u8) v0))), (11, (.c (.int .i64 v1))), (12, (.c (.int .i64 v2)))], [], [(256000000, .gone), (64000000, (.box [(.sl 64000002), (.bool v3), (.bool v4), (.bool v5), (.int .i64 v6)])), (64000001, (.row (.pair (.int .i64) (.pair (.int .i64) (.pair (.int .i64) (.slice (.int .u8))))) v7)), (64000002, (.row (.int .u8) v8))]⟩
noncomputable def l0 ( k n : Nat) (v : T0) : Option R := held (loopN cs n b4 (K4 k) (s0 v))
noncomputable def D0 (v : T0) : Option R := lim fun L => l0 (L 0) (L 1) v
theorem D0_cn (v : T0) : Cn late (D0 v) fun L => l0 (L 0) (L 1) v := of_lim
abbrev T1 : Type := List Int × Int × Int × Bool × Bool × Bool × Int × List (Int × Int × Int × List Int) × List Int
def s1 : T1 → St := fun (v0, v1, v2, v3, v4, v5, v6, v7, v8) => ⟨30, 0, [(4, (.c (.ptr 64000000 0))), (5, (.c (.sl 64000001))), (10, (.c (.frz (.int .u8) v0))), (11, (.c (.int .i64 v1))), (12, (.c (.int .i64 v2)))], [], [(256000000, .gone), (64000000, (.box [(.sl 64000002), (.bool v3), (.bool v4), (.bool v5), (.int .i64 v6)])), (64000001, (.row (.pair (.int .i64) (.pair (.int .i64) (.pair (.int .i64) (.slice (.int .u8))))) v7)), (64000002, (.row (.int .u8) v8))]⟩
noncomputable def l1 ( k m1 : Nat) (v : T1) : Option R := held (run (cs m1) (loopN cs m1) c1000009 (J1000009 k m1) (s1 v))
noncomputable def D1 (v : T1) : Option R := lim fun L => l1 (L 0) (L 1) v
theorem D1_cn (v : T1) : Cn late (D1 v) fun L => l1 (L 0) (L 1) v := of_lim
def d0 (bus_Reader_Feed_m1 : bus_Reader_Feed.A → Option bus_Reader_Feed.R) (L1m1 : T1 → Option R) : T0 → Option R := fun (v0, v1, v2, v3, v4, v5, v6, v7, v8) =>
br (decide (v2 < v1))
  (br (decide (0 ≤ v2 ∧ v2 < (↑v0.length : Int)))
    (bnd (bus_Reader_Feed_m1 (rd (Ty.int IntKind.u8) v0 v2, v3, v4, v5, v6, v8)) fun r =>
      br r.snd.snd.snd.fst
        (br (decide (v7.length + [(r.fst, r.snd.fst, r.snd.snd.fst, r.snd.snd.snd.snd.snd.snd.snd.snd.fst)].length ≤ 140737488355328 / 48))
          (L1m1
            (v0, v1, v2, r.snd.snd.snd.snd.fst, r.snd.snd.snd.snd.snd.fst, r.snd.snd.snd.snd.snd.snd.fst, r.snd.snd.snd.snd.snd.snd.snd.fst,
              v7 ++ [(r.fst, r.snd.fst, r.snd.snd.fst, r.snd.snd.snd.snd.snd.snd.snd.snd.fst)], r.snd.snd.snd.snd.snd.snd.snd.snd.snd))
          none)
        (L1m1 (v0, v1, v2, r.snd.snd.snd.snd.fst, r.snd.snd.snd.snd.snd.fst, r.snd.snd.snd.snd.snd.snd.fst, r.snd.snd.snd.snd.snd.snd.snd.fst, v7, r.snd.snd.snd.snd.snd.snd.snd.snd.snd)))
    none)
  (some (v6, v7))
theorem d0_cn {ι : Type} {E : Fil ι} {bus_Reader_Feed_m1 : bus_Reader_Feed.A → Option bus_Reader_Feed.R} {bus_Reader_Feed_m1' : ι → bus_Reader_Feed.A → Option bus_Reader_Feed.R} (hbus_Reader_Feed_m1 : ∀ v, Cn E (bus_Reader_Feed_m1 v) fun i => bus_Reader_Feed_m1' i v) {L1m1 : T1 → Option R} {L1m1' : ι → T1 → Option R} (hL1m1 : ∀ v, Cn E (L1m1 v) fun i => L1m1' i v) : ∀ v : T0, Cn E (d0 bus_Reader_Feed_m1 L1m1 v) fun i => d0 (bus_Reader_Feed_m1' i) (L1m1' i) v := fun (v0, v1, v2, v3, v4, v5, v6, v7, v8) => (.br (.br (.bnd (hbus_Reader_Feed_m1 _) fun _ => (.br (.br (hL1m1 _) .none) (hL1m1 _))) .none) .some)
theorem l0_b ( k m1 : Nat) : ∀ v : T0, run (cs m1) (loopN cs m1) b4 (kLoop cs m1 b4 (K4 k)) (s0 v) = d0 (bus_Reader_Feed.f m1) (l1 k m1) v := fun (v0, v1, v2, v3, v4, v5, v6, v7, v8) => by kernel_rfl
theorem D0_of (v : T0) {r : R} (h : d0 bus_Reader_Feed.F D1 v = some r) : D0 v = some r :=
  loop_of 1 (l := fun L => l0 (L 0) (L 1) v) (d := fun L => d0 (bus_Reader_Feed.f (L 1)) (l1 (L 0) (L 1)) v) (fun L n hn => by show l0 (L 0) (L 1) v = _; rw [hn]; exact (held_eq _).trans ((loopN_succ _ _ _ _ _).trans (l0_b (L 0) n v))) (d0_cn (bus_Reader_Feed.F_cn 1) (fun v => (D1_cn v).re [0, 1]) v) h
def d1 (L0m1 : T0 → Option R) : T1 → Option R := fun (v0, v1, v2, v3, v4, v5, v6, v7, v8) =>
L0m1 (v0, v1, wrap IntKind.i64 (v2 + 1), v3, v4, v5, v6, v7, v8)
theorem d1_cn {ι : Type} {E : Fil ι} {L0m1 : T0 → Option R} {L0m1' : ι → T0 → Option R} (hL0m1 : ∀ v, Cn E (L0m1 v) fun i => L0m1' i v) : ∀ v : T1, Cn E (d1 L0m1 v) fun i => d1 (L0m1' i) v := fun (v0, v1, v2, v3, v4, v5, v6, v7, v8) => (hL0m1 _)
theorem l1_b ( k m1 : Nat) : ∀ v : T1, run (cs m1) (loopN cs m1) c1000009 (J1000009 k m1) (s1 v) = d1 (l0 k m1) v := fun (v0, v1, v2, v3, v4, v5, v6, v7, v8) => by kernel_rfl
theorem D1_of (v : T1) {r : R} (h : d1 D0 v = some r) : D1 v = some r :=
  join_of (l := fun L => l1 (L 0) (L 1) v) (d := fun L => d1 (l0 (L 0) (L 1)) v) (fun L => (held_eq _).trans (l1_b (L 0) (L 1) v)) (d1_cn (fun v => (D0_cn v).re [0, 1]) v) h
noncomputable def f (k : Nat) : A → Option R := fun v0 => held (runFn cs k Try.f14 [(.c (.frz (.int .u8) v0))] [] dec)
noncomputable def F (v : A) : Option R := lim fun L => f (L 0) v
theorem F_cn (x : Nat) (v : A) : Cn late (F v) fun L => f (L x) v := of_lim.re [x]
def d (L0k : T0 → Option R) : A → Option R := fun v0 =>
L0k (v0, (↑v0.length : Int), 0, false, false, false, 0, [], [])
theorem d_cn {ι : Type} {E : Fil ι} {L0k : T0 → Option R} {L0k' : ι → T0 → Option R} (hL0k : ∀ v, Cn E (L0k v) fun i => L0k' i v) : ∀ v : A, Cn E (d L0k v) fun i => d (L0k' i) v := fun v0 => (hL0k _)
theorem f_b (k : Nat) : ∀ v : A, f k v = d (l0 k k) v := fun v0 => (held_eq _).trans (by kernel_rfl)
theorem F_of (v : A) {r : R} (h : d D0 v = some r) : F v = some r :=
  join_of (l := fun L => f (L 0) v) (d := fun L => d (l0 (L 0) (L 0)) v) (fun L => f_b (L 0) v) (d_cn (fun v => (D0_cn v).re [0, 0]) v) h
noncomputable def spec (k : Nat) (args : List AV) (ss : List Slot) : Option Ans :=
  match args, ss with
  | [(.c (.frz (.int .u8) v0))], [] => some ⟨R, f k v0, enc⟩
  | _, _ => none
theorem spec_ok (k : Nat) : SpecOk Try.prog 14 (spec k) := by
  intro args ss ans x h hx X σ w vals hp
  unfold spec at h
  split at h
  · cases h
    exact spec_of cs_ok Try.func14 rfl rfl dec_ok (held_eq _).symm hx hp
  · cases h
end bus_Decode
noncomputable def t_bus_Decode (k : Nat) := tcons 14 (bus_Decode.spec k) (t_bus_Reader_Feed k)
theorem t_bus_Decode_ok (n g : Nat) : SpecOk Try.prog g (t_bus_Decode n g) := tcons_ok (bus_Decode.spec_ok n) (fun g => t_bus_Reader_Feed_ok n g) g
namespace link_line_take
abbrev R : Type := List (Bool × Int × Int × List Int) × Int × List (Int × List Int) × List (Int × Int × Int × List Int) × List (Int × List Int)
abbrev A : Type := Int × List (Bool × Int × Int × List Int) × Int × List (Int × List Int)
def lv : List (Nat × List Nat) := [(2000000, [4]), (4, [0, 1, 5, 6, 14, 15, 16]), (1000009, [0, 1, 5, 6, 14, 15, 16])]
noncomputable def cs : Nat → Ctx := ctxOf tis modes t_bus_Decode lv
theorem cs_ok (n : Nat) : CtxOk Try.prog (cs n) := ctxOf_ok rfl tis_ok t_bus_Decode_ok n
def enc (r : R) : Out := ((.c (.sl 128000002)), [(.box [(.frz (.pair .bool (.pair (.int .i64) (.pair (.int .i64) (.slice (.int .i64))))) r.1), (.sl 128000003), (.int .i64 r.2.1)]), (.row (.pair (.int .i64) (.slice (.int .u8))) r.2.2.1), (.row (.pair (.int .i64) (.pair (.int .i64) (.pair (.int .i64) (.slice (.int .u8))))) r.2.2.2.1), (.row (.pair (.int .i64) (.slice (.int .u8))) r.2.2.2.2)])
def dec : Out → Option R
  | ((.c (.sl 128000002)), [(.box [(.frz (.pair .bool (.pair (.int .i64) (.pair (.int .i64) (.slice (.int .i64))))) v0), (.sl 128000003), (.int .i64 v1)]), (.row (.pair (.int .i64) (.slice (.int .u8))) v2), (.row (.pair (.int .i64) (.pair (.int .i64) (.pair (.int .i64) (.slice (.int .u8))))) v3), (.row (.pair (.int .i64) (.slice (.int .u8))) v4)]) => some (v0, v1, v2, v3, v4)
  | _ => none
theorem dec_ok : ∀ u y, dec u = some y → u = enc y := by
  intro u y h
  unfold dec at h
  split at h
  · cases h; rfl
  · cases h
noncomputable def b0 : Code := subF [] Try.f37
noncomputable def K0 (k : Nat) : Kt R := kTop (cs k) Try.f37 dec
noncomputable def b4 : Code := sub [1, 1, 1, 0, 1, 0, 0] b0
noncomputable def K4 ( k : Nat) : Kt R := kAt (cs k) (loopN cs k) [1, 1, 1, 0, 1, 0] b0 (K0 k)
noncomputable def c1000009 : Code := sub [1, 1, 1] b4
noncomputable def J1000009 ( k m1 : Nat) : Kt R := kAt (cs m1) (loopN cs m1) [1, 1, 1] b4 (kLoop cs m1 b4 (K4 k))
abbrev T0 : Type := Int × Int × Int × List (Bool × Int × Int × List Int) × Int × List (Int × List Int) × List Int × List (Int × List Int)
def s0 : T0 → St := fun (v0, v1, v2, v3, v4, v5, v6, v7) => ⟨43, 2, [(0, (.c (.ptr 128000000 0))), (1, (.c (.int .i64 v0))), (5, (.c (.sl 64000000))), (6, (.c (.sl 64000001))), (14, (.c (.sl 128000001))), (15, (.c (.int .i64 v1))), (16, (.c (.int .i64 v2)))], [], [(128000000, (.box [(.frz (.pair .bool (.pair (.int .i64) (.pair (.int .i64) (.slice (.int .i64))))) v3), (.sl 128000001), (.int .i64 v4)])), (128000001, (.row (.pair (.int .i64) (.slice (.int .u8))) v5)), (256000000, .gone), (64000000, (.row (.int .u8) v6)), (64000001, (.row (.pair (.int .i64) (.slice (.int .u8))) v7))]⟩
noncomputable def l0 ( k n : Nat) (v : T0) : Option R := held (loopN cs n b4 (K4 k) (s0 v))
noncomputable def D0 (v : T0) : Option R := lim fun L => l0 (L 0) (L 1) v
theorem D0_cn (v : T0) : Cn late (D0 v) fun L => l0 (L 0) (L 1) v := of_lim
abbrev T1 : Type := Int × Int × Int × List (Bool × Int × Int × List Int) × Int × List (Int × List Int) × List Int × List (Int × List Int)
def s1 : T1 → St := fun (v0, v1, v2, v3, v4, v5, v6, v7) => ⟨43, 2, [(0, (.c (.ptr 128000000 0))), (1, (.c (.int .i64 v0))), (5, (.c (.sl 64000000))), (6, (.c (.sl 64000001))), (14, (.c (.sl 128000001))), (15, (.c (.int .i64 v1))), (16, (.c (.int .i64 v2)))], [], [(128000000, (.box [(.frz (.pair .bool (.pair (.int .i64) (.pair (.int .i64) (.slice (.int .i64))))) v3), (.sl 128000001), (.int .i64 v4)])), (128000001, (.row (.pair (.int .i64) (.slice (.int .u8))) v5)), (256000000, .gone), (64000000, (.row (.int .u8) v6)), (64000001, (.row (.pair (.int .i64) (.slice (.int .u8))) v7))]⟩
noncomputable def l1 ( k m1 : Nat) (v : T1) : Option R := held (run (cs m1) (loopN cs m1) c1000009 (J1000009 k m1) (s1 v))
noncomputable def D1 (v : T1) : Option R := lim fun L => l1 (L 0) (L 1) v
theorem D1_cn (v : T1) : Cn late (D1 v) fun L => l1 (L 0) (L 1) v := of_lim
def d0 (L1m1 : T1 → Option R) (bus_Decode_k : bus_Decode.A → Option bus_Decode.R) : T0 → Option R := fun (v0, v1, v2, v3, v4, v5, v6, v7) =>
br (decide (v2 < v1))
  (br (decide (0 ≤ v2 ∧ v2 < (↑v5.length : Int)))
    (br (decide ((rd ((Ty.int IntKind.i64).pair (Ty.int IntKind.u8).slice) v5 v2).fst = v0))
      (br (decide (v6.length + List.length (rd ((Ty.int IntKind.i64).pair (Ty.int IntKind.u8).slice) v5 v2).snd ≤ 140737488355328 / 1))
        (L1m1 (v0, v1, v2, v3, v4, v5, v6 ++ (rd ((Ty.int IntKind.i64).pair (Ty.int IntKind.u8).slice) v5 v2).snd, v7)) none)
      (br (decide (v7.length + [((rd ((Ty.int IntKind.i64).pair (Ty.int IntKind.u8).slice) v5 v2).fst, (rd ((Ty.int IntKind.i64).pair (Ty.int IntKind.u8).slice) v5 v2).snd)].length ≤ 140737488355328 / 32))
        (L1m1 (v0, v1, v2, v3, v4, v5, v6, v7 ++ [((rd ((Ty.int IntKind.i64).pair (Ty.int IntKind.u8).slice) v5 v2).fst, (rd ((Ty.int IntKind.i64).pair (Ty.int IntKind.u8).slice) v5 v2).snd)])) none))
    none)
  (bnd (bus_Decode_k v6) fun r => some (v3, v4, v5, r.snd, v7))
theorem d0_cn {ι : Type} {E : Fil ι} {L1m1 : T1 → Option R} {L1m1' : ι → T1 → Option R} (hL1m1 : ∀ v, Cn E (L1m1 v) fun i => L1m1' i v) {bus_Decode_k : bus_Decode.A → Option bus_Decode.R} {bus_Decode_k' : ι → bus_Decode.A → Option bus_Decode.R} (hbus_Decode_k : ∀ v, Cn E (bus_Decode_k v) fun i => bus_Decode_k' i v) : ∀ v : T0, Cn E (d0 L1m1 bus_Decode_k v) fun i => d0 (L1m1' i) (bus_Decode_k' i) v := fun (v0, v1, v2, v3, v4, v5, v6, v7) => (.br (.br (.br (.br (hL1m1 _) .none) (.br (hL1m1 _) .none)) .none) (.bnd (hbus_Decode_k _) fun _ => .some))
theorem l0_b ( k m1 : Nat) : ∀ v : T0, run (cs m1) (loopN cs m1) b4 (kLoop cs m1 b4 (K4 k)) (s0 v) = d0 (l1 k m1) (bus_Decode.f k) v := fun (v0, v1, v2, v3, v4, v5, v6, v7) => by kernel_rfl
theorem D0_of (v : T0) {r : R} (h : d0 D1 bus_Decode.F v = some r) : D0 v = some r :=
  loop_of 1 (l := fun L => l0 (L 0) (L 1) v) (d := fun L => d0 (l1 (L 0) (L 1)) (bus_Decode.f (L 0)) v) (fun L n hn => by show l0 (L 0) (L 1) v = _; rw [hn]; exact (held_eq _).trans ((loopN_succ _ _ _ _ _).trans (l0_b (L 0) n v))) (d0_cn (fun v => (D1_cn v).re [0, 1]) (bus_Decode.F_cn 0) v) h
def d1 (L0m1 : T0 → Option R) : T1 → Option R := fun (v0, v1, v2, v3, v4, v5, v6, v7) =>
L0m1 (v0, v1, wrap IntKind.i64 (v2 + 1), v3, v4, v5, v6, v7)
theorem d1_cn {ι : Type} {E : Fil ι} {L0m1 : T0 → Option R} {L0m1' : ι → T0 → Option R} (hL0m1 : ∀ v, Cn E (L0m1 v) fun i => L0m1' i v) : ∀ v : T1, Cn E (d1 L0m1 v) fun i => d1 (L0m1' i) v := fun (v0, v1, v2, v3, v4, v5, v6, v7) => (hL0m1 _)
theorem l1_b ( k m1 : Nat) : ∀ v : T1, run (cs m1) (loopN cs m1) c1000009 (J1000009 k m1) (s1 v) = d1 (l0 k m1) v := fun (v0, v1, v2, v3, v4, v5, v6, v7) => by kernel_rfl
theorem D1_of (v : T1) {r : R} (h : d1 D0 v = some r) : D1 v = some r :=
  join_of (l := fun L => l1 (L 0) (L 1) v) (d := fun L => d1 (l0 (L 0) (L 1)) v) (fun L => (held_eq _).trans (l1_b (L 0) (L 1) v)) (d1_cn (fun v => (D0_cn v).re [0, 1]) v) h
noncomputable def f (k : Nat) : A → Option R := fun (v0, v1, v2, v3) => held (runFn cs k Try.f37 [(.c (.ptr 128000000 0)), (.c (.int .i64 v0))] [(.box [(.frz (.pair .bool (.pair (.int .i64) (.pair (.int .i64) (.slice (.int .i64))))) v1), (.sl 128000001), (.int .i64 v2)]), (.row (.pair (.int .i64) (.slice (.int .u8))) v3)] dec)
noncomputable def F (v : A) : Option R := lim fun L => f (L 0) v
theorem F_cn (x : Nat) (v : A) : Cn late (F v) fun L => f (L x) v := of_lim.re [x]
def d (L0k : T0 → Option R) : A → Option R := fun (v0, v1, v2, v3) =>
L0k (v0, (↑v3.length : Int), 0, v1, v2, v3, [], [])
theorem d_cn {ι : Type} {E : Fil ι} {L0k : T0 → Option R} {L0k' : ι → T0 → Option R} (hL0k : ∀ v, Cn E (L0k v) fun i => L0k' i v) : ∀ v : A, Cn E (d L0k v) fun i => d (L0k' i) v := fun (v0, v1, v2, v3) => (hL0k _)
theorem f_b (k : Nat) : ∀ v : A, f k v = d (l0 k k) v := fun (v0, v1, v2, v3) => (held_eq _).trans (by kernel_rfl)
theorem F_of (v : A) {r : R} (h : d D0 v = some r) : F v = some r :=
  join_of (l := fun L => f (L 0) v) (d := fun L => d (l0 (L 0) (L 0)) v) (fun L => f_b (L 0) v) (d_cn (fun v => (D0_cn v).re [0, 0]) v) h
noncomputable def spec (k : Nat) (args : List AV) (ss : List Slot) : Option Ans :=
  match args, ss with
  | [(.c (.ptr 128000000 0)), (.c (.int .i64 v0))], [(.box [(.frz (.pair .bool (.pair (.int .i64) (.pair (.int .i64) (.slice (.int .i64))))) v1), (.sl 128000001), (.int .i64 v2)]), (.row (.pair (.int .i64) (.slice (.int .u8))) v3)] => some ⟨R, f k (v0, v1, v2, v3), enc⟩
  | _, _ => none
theorem spec_ok (k : Nat) : SpecOk Try.prog 37 (spec k) := by
  intro args ss ans x h hx X σ w vals hp
  unfold spec at h
  split at h
  · cases h
    exact spec_of cs_ok Try.func37 rfl rfl dec_ok (held_eq _).symm hx hp
  · cases h
end link_line_take
noncomputable def t_link_line_take (k : Nat) := tcons 37 (link_line_take.spec k) (t_bus_Decode k)
theorem t_link_line_take_ok (n g : Nat) : SpecOk Try.prog g (t_link_line_take n g) := tcons_ok (link_line_take.spec_ok n) (fun g => t_bus_Decode_ok n g) g
namespace link_due
abbrev R : Type := Int
abbrev A : Type := Int × Int × Int × List Int
def lv : List (Nat × List Nat) := [(2000000, [2])]
noncomputable def cs : Nat → Ctx := ctxOf tis modes t_link_line_take lv
theorem cs_ok (n : Nat) : CtxOk Try.prog (cs n) := ctxOf_ok rfl tis_ok t_link_line_take_ok n
def enc (r : R) : Out := ((.c (.int .i64 r)), [])
def dec : Out → Option R
  | ((.c (.int .i64 v0)), []) => some v0
  | _ => none
theorem dec_ok : ∀ u y, dec u = some y → u = enc y := by
  intro u y h
  unfold dec at h
  split at h
  · cases h; rfl
  · cases h
noncomputable def b0 : Code := subF [] Try.f45
noncomputable def K0 (k : Nat) : Kt R := kTop (cs k) Try.f45 dec
noncomputable def f (k : Nat) : A → Option R := fun (v0, v1, v2, v3) => held (runFn cs k Try.f45 [(.agg [(.int .i64 v0), (.int .i64 v1), (.int .i64 v2), (.frz (.int .u8) v3)])] [] dec)
noncomputable def F (v : A) : Option R := lim fun L => f (L 0) v
theorem F_cn (x : Nat) (v : A) : Cn late (F v) fun L => f (L x) v := of_lim.re [x]
def d : A → Option R := fun (v0, v1, v2, v3) =>
br (decide ((↑v3.length : Int) < 3)) (some (-1))
  (br (decide ((0 : Int) ≤ 1 ∧ 1 < (↑v3.length : Int)))
    (br (decide ((0 : Int) ≤ 8)) (br (decide ((0 : Int) ≤ 2 ∧ 2 < (↑v3.length : Int))) (some (bOr IntKind.i64 (shl IntKind.i64 (wrap IntKind.i64 (rd (Ty.int IntKind.u8) v3 1)) 8) (wrap IntKind.i64 (rd (Ty.int IntKind.u8) v3 2)))) none)
      none)
    none)
theorem d_cn {ι : Type} {E : Fil ι} : ∀ v : A, Cn E (d v) fun i => d v := fun (v0, v1, v2, v3) => (.br .some (.br (.br (.br .some .none) .none) .none))
theorem f_b (k : Nat) : ∀ v : A, f k v = d v := fun (v0, v1, v2, v3) => (held_eq _).trans (by kernel_rfl)
theorem F_of (v : A) {r : R} (h : d v = some r) : F v = some r :=
  join_of (l := fun L => f (L 0) v) (d := fun L => d v) (fun L => f_b (L 0) v) (d_cn v) h
noncomputable def spec (k : Nat) (args : List AV) (ss : List Slot) : Option Ans :=
  match args, ss with
  | [(.agg [(.int .i64 v0), (.int .i64 v1), (.int .i64 v2), (.frz (.int .u8) v3)])], [] => some ⟨R, f k (v0, v1, v2, v3), enc⟩
  | _, _ => none
theorem spec_ok (k : Nat) : SpecOk Try.prog 45 (spec k) := by
  intro args ss ans x h hx X σ w vals hp
  unfold spec at h
  split at h
  · cases h
    exact spec_of cs_ok Try.func45 rfl rfl dec_ok (held_eq _).symm hx hp
  · cases h
end link_due
noncomputable def t_link_due (k : Nat) := tcons 45 (link_due.spec k) (t_link_line_take k)
theorem t_link_due_ok (n g : Nat) : SpecOk Try.prog g (t_link_due n g) := tcons_ok (link_due.spec_ok n) (fun g => t_link_line_take_ok n g) g
namespace link_device_hear
abbrev R : Type := Int × Int × Int × Bool × Int × Bool × List Int × List (Int × Int)
abbrev A : Type := Int × Int × Int × List Int × Int × Int × Bool × List (Int × Int)
def lv : List (Nat × List Nat) := [(2000001, [1]), (2000000, [6, 7]), (1000008, [0, 4, 6]), (1000011, [4, 6, 8])]
noncomputable def cs : Nat → Ctx := ctxOf tis modes t_link_due lv
theorem cs_ok (n : Nat) : CtxOk Try.prog (cs n) := ctxOf_ok rfl tis_ok t_link_due_ok n
def enc (r : R) : Out := ((.tup [(.agg [(.int .i64 r.1), (.int .i64 r.2.1), (.int .i64 r.2.2.1), (.sl 128000002)]), (.c (.bool r.2.2.2.1))]), [(.box [(.int .i64 r.2.2.2.2.1), (.bool r.2.2.2.2.2.1), (.sl 128000003)]), .gone, (.row (.int .u8) r.2.2.2.2.2.2.1), (.row (.pair (.int .i64) (.int .i64)) r.2.2.2.2.2.2.2)])
def dec : Out → Option R
  | ((.tup [(.agg [(.int .i64 v0), (.int .i64 v1), (.int .i64 v2), (.sl 128000002)]), (.c (.bool v3))]), [(.box [(.int .i64 v4), (.bool v5), (.sl 128000003)]), .gone, (.row (.int .u8) v6), (.row (.pair (.int .i64) (.int .i64)) v7)]) => some (v0, v1, v2, v3, v4, v5, v6, v7)
  | _ => none
theorem dec_ok : ∀ u y, dec u = some y → u = enc y := by
  intro u y h
  unfold dec at h
  split at h
  · cases h; rfl
  · cases h
noncomputable def b0 : Code := subF [] Try.f38
noncomputable def K0 (k : Nat) : Kt R := kTop (cs k) Try.f38 dec
noncomputable def c1000008 : Code := sub [1, 1, 1] b0
noncomputable def J1000008 ( k : Nat) : Kt R := kAt (cs k) (loopN cs k) [1, 1, 1] b0 (K0 k)
noncomputable def c1000011 : Code := sub [1, 1, 1, 1, 1] b0
noncomputable def J1000011 ( k : Nat) : Kt R := kAt (cs k) (loopN cs k) [1, 1, 1, 1, 1] b0 (K0 k)
abbrev T0 : Type := Int × Bool × Int × Int × Int × List Int × Int × Int × Int × List (Int × Int) × List Int
def s0 : T0 → St := fun (v0, v1, v2, v3, v4, v5, v6, v7, v8, v9, v10) => ⟨76, 2, [(0, (.c (.ptr 128000000 0))), (4, (.c (.ptr 64000000 0))), (6, (.c (.ptr 64000001 0)))], [], [(128000000, (.box [(.int .i64 v0), (.bool v1), (.sl 64000002)])), (128000001, .gone), (256000000, .gone), (64000000, (.box [(.int .i64 v2), (.int .i64 v3), (.int .i64 v4), (.frz (.int .u8) v5)])), (64000001, (.box [(.int .i64 v6), (.int .i64 v7), (.int .i64 v8), (.sl 64000003)])), (64000002, (.row (.pair (.int .i64) (.int .i64)) v9)), (64000003, (.row (.int .u8) v10))]⟩
noncomputable def l0 ( k : Nat) (v : T0) : Option R := held (run (cs k) (loopN cs k) c1000008 (J1000008 k) (s0 v))
noncomputable def D0 (v : T0) : Option R := lim fun L => l0 (L 0) v
theorem D0_cn (v : T0) : Cn late (D0 v) fun L => l0 (L 0) v := of_lim
abbrev T1 : Type := Int × Int × Bool × Int × Int × Int × List Int × Int × Int × Int × List (Int × Int) × List Int
def s1 : T1 → St := fun (v0, v1, v2, v3, v4, v5, v6, v7, v8, v9, v10, v11) => ⟨76, 2, [(4, (.c (.ptr 64000000 0))), (6, (.c (.ptr 64000001 0))), (8, (.c (.int .i64 v0)))], [], [(128000000, (.box [(.int .i64 v1), (.bool v2), (.sl 64000002)])), (128000001, .gone), (256000000, .gone), (64000000, (.box [(.int .i64 v3), (.int .i64 v4), (.int .i64 v5), (.frz (.int .u8) v6)])), (64000001, (.box [(.int .i64 v7), (.int .i64 v8), (.int .i64 v9), (.sl 64000003)])), (64000002, (.row (.pair (.int .i64) (.int .i64)) v10)), (64000003, (.row (.int .u8) v11))]⟩
noncomputable def l1 ( k : Nat) (v : T1) : Option R := held (run (cs k) (loopN cs k) c1000011 (J1000011 k) (s1 v))
noncomputable def D1 (v : T1) : Option R := lim fun L => l1 (L 0) v
theorem D1_cn (v : T1) : Cn late (D1 v) fun L => l1 (L 0) v := of_lim
abbrev T2 : Type := Int × Bool × List (Int × Int) × Int × Int × Int × List Int × Int × Int × Int × List Int
def s2 : T2 → St := fun (v0, v1, v2, v3, v4, v5, v6, v7, v8, v9, v10) => ⟨76, 2, [(0, (.c (.ptr 128000000 0))), (4, (.c (.ptr 64000000 0))), (6, (.c (.ptr 64000001 0)))], [], [(128000000, (.box [(.int .i64 v0), (.bool v1), (.sl 128000001)])), (128000001, (.row (.pair (.int .i64) (.int .i64)) v2)), (256000000, .gone), (64000000, (.box [(.int .i64 v3), (.int .i64 v4), (.int .i64 v5), (.frz (.int .u8) v6)])), (64000001, (.box [(.int .i64 v7), (.int .i64 v8), (.int .i64 v9), (.sl 64000002)])), (64000002, (.row (.int .u8) v10))]⟩
noncomputable def l2 ( k : Nat) (v : T2) : Option R := held (run (cs k) (loopN cs k) c1000008 (J1000008 k) (s2 v))
noncomputable def D2 (v : T2) : Option R := lim fun L => l2 (L 0) v
theorem D2_cn (v : T2) : Cn late (D2 v) fun L => l2 (L 0) v := of_lim
abbrev T3 : Type := Int × Int × Bool × List (Int × Int) × Int × Int × Int × List Int × Int × Int × Int × List Int
def s3 : T3 → St := fun (v0, v1, v2, v3, v4, v5, v6, v7, v8, v9, v10, v11) => ⟨76, 2, [(4, (.c (.ptr 64000000 0))), (6, (.c (.ptr 64000001 0))), (8, (.c (.int .i64 v0)))], [], [(128000000, (.box [(.int .i64 v1), (.bool v2), (.sl 128000001)])), (128000001, (.row (.pair (.int .i64) (.int .i64)) v3)), (256000000, .gone), (64000000, (.box [(.int .i64 v4), (.int .i64 v5), (.int .i64 v6), (.frz (.int .u8) v7)])), (64000001, (.box [(.int .i64 v8), (.int .i64 v9), (.int .i64 v10), (.sl 64000002)])), (64000002, (.row (.int .u8) v11))]⟩
noncomputable def l3 ( k : Nat) (v : T3) : Option R := held (run (cs k) (loopN cs k) c1000011 (J1000011 k) (s3 v))
noncomputable def D3 (v : T3) : Option R := lim fun L => l3 (L 0) v
theorem D3_cn (v : T3) : Cn late (D3 v) fun L => l3 (L 0) v := of_lim
def d0 (L1k : T1 → Option R) : T0 → Option R := fun (v0, v1, v2, v3, v4, v5, v6, v7, v8, v9, v10) =>
br v1 (L1k (3, v0, v1, v2, v3, v4, v5, v6, v7, v8, v9, v10)) (L1k (4, v0, v1, v2, v3, v4, v5, v6, v7, v8, v9, v10))
theorem d0_cn {ι : Type} {E : Fil ι} {L1k : T1 → Option R} {L1k' : ι → T1 → Option R} (hL1k : ∀ v, Cn E (L1k v) fun i => L1k' i v) : ∀ v : T0, Cn E (d0 L1k v) fun i => d0 (L1k' i) v := fun (v0, v1, v2, v3, v4, v5, v6, v7, v8, v9, v10) => (.br (hL1k _) (hL1k _))
theorem l0_b ( k : Nat) : ∀ v : T0, run (cs k) (loopN cs k) c1000008 (J1000008 k) (s0 v) = d0 (l1 k) v := fun (v0, v1, v2, v3, v4, v5, v6, v7, v8, v9, v10) => by kernel_rfl
theorem D0_of (v : T0) {r : R} (h : d0 D1 v = some r) : D0 v = some r :=
  join_of (l := fun L => l0 (L 0) v) (d := fun L => d0 (l1 (L 0)) v) (fun L => (held_eq _).trans (l0_b (L 0) v)) (d0_cn (fun v => (D1_cn v).re [0]) v) h
def d1 : T1 → Option R := fun (v0, v1, v2, v3, v4, v5, v6, v7, v8, v9, v10, v11) =>
some (0, v0, v5, true, v1, v2, [], v10)
theorem d1_cn {ι : Type} {E : Fil ι} : ∀ v : T1, Cn E (d1 v) fun i => d1 v := fun (v0, v1, v2, v3, v4, v5, v6, v7, v8, v9, v10, v11) => .some
theorem l1_b ( k : Nat) : ∀ v : T1, run (cs k) (loopN cs k) c1000011 (J1000011 k) (s1 v) = d1 v := fun (v0, v1, v2, v3, v4, v5, v6, v7, v8, v9, v10, v11) => by kernel_rfl
theorem D1_of (v : T1) {r : R} (h : d1 v = some r) : D1 v = some r :=
  join_of (l := fun L => l1 (L 0) v) (d := fun L => d1 v) (fun L => (held_eq _).trans (l1_b (L 0) v)) (d1_cn v) h
def d2 (L3k : T3 → Option R) : T2 → Option R := fun (v0, v1, v2, v3, v4, v5, v6, v7, v8, v9, v10) =>
br v1 (L3k (3, v0, v1, v2, v3, v4, v5, v6, v7, v8, v9, v10)) (L3k (4, v0, v1, v2, v3, v4, v5, v6, v7, v8, v9, v10))
theorem d2_cn {ι : Type} {E : Fil ι} {L3k : T3 → Option R} {L3k' : ι → T3 → Option R} (hL3k : ∀ v, Cn E (L3k v) fun i => L3k' i v) : ∀ v : T2, Cn E (d2 L3k v) fun i => d2 (L3k' i) v := fun (v0, v1, v2, v3, v4, v5, v6, v7, v8, v9, v10) => (.br (hL3k _) (hL3k _))
theorem l2_b ( k : Nat) : ∀ v : T2, run (cs k) (loopN cs k) c1000008 (J1000008 k) (s2 v) = d2 (l3 k) v := fun (v0, v1, v2, v3, v4, v5, v6, v7, v8, v9, v10) => by kernel_rfl
theorem D2_of (v : T2) {r : R} (h : d2 D3 v = some r) : D2 v = some r :=
  join_of (l := fun L => l2 (L 0) v) (d := fun L => d2 (l3 (L 0)) v) (fun L => (held_eq _).trans (l2_b (L 0) v)) (d2_cn (fun v => (D3_cn v).re [0]) v) h
def d3 : T3 → Option R := fun (v0, v1, v2, v3, v4, v5, v6, v7, v8, v9, v10, v11) =>
some (0, v0, v6, true, v1, v2, [], v3)
theorem d3_cn {ι : Type} {E : Fil ι} : ∀ v : T3, Cn E (d3 v) fun i => d3 v := fun (v0, v1, v2, v3, v4, v5, v6, v7, v8, v9, v10, v11) => .some
theorem l3_b ( k : Nat) : ∀ v : T3, run (cs k) (loopN cs k) c1000011 (J1000011 k) (s3 v) = d3 v := fun (v0, v1, v2, v3, v4, v5, v6, v7, v8, v9, v10, v11) => by kernel_rfl
theorem D3_of (v : T3) {r : R} (h : d3 v = some r) : D3 v = some r :=
  join_of (l := fun L => l3 (L 0) v) (d := fun L => d3 v) (fun L => (held_eq _).trans (l3_b (L 0) v)) (d3_cn v) h
noncomputable def f (k : Nat) : A → Option R := fun (v0, v1, v2, v3, v4, v5, v6, v7) => held (runFn cs k Try.f38 [(.c (.ptr 128000000 0)), (.agg [(.int .i64 v0), (.int .i64 v1), (.int .i64 v2), (.frz (.int .u8) v3)]), (.c (.int .i64 v4))] [(.box [(.int .i64 v5), (.bool v6), (.sl 128000001)]), (.row (.pair (.int .i64) (.int .i64)) v7)] dec)
noncomputable def F (v : A) : Option R := lim fun L => f (L 0) v
theorem F_cn (x : Nat) (v : A) : Cn late (F v) fun L => f (L x) v := of_lim.re [x]
def d (link_due_k : link_due.A → Option link_due.R) (L0k : T0 → Option R) (L2k : T2 → Option R) : A → Option R := fun (v0, v1, v2, v3, v4, v5, v6, v7) =>
br (!decide (v1 = 1) && !decide (v1 = 2) || decide (v2 < v5)) (some (0, 0, 0, false, v5, v6, [], v7))
  (br (decide (v5 < v2))
    (br (decide (v1 = 1) == true)
      (bnd (link_due_k (v0, v1, v2, v3)) fun r =>
        br (decide (v4 ≤ r)) (br (decide (v7.length + [(wrap IntKind.i64 (v2 - 1), v4)].length ≤ 140737488355328 / 16)) (L0k (v2, true, v0, v1, v2, v3, 0, 0, 0, v7 ++ [(wrap IntKind.i64 (v2 - 1), v4)], [])) none)
          (L2k (v2, false, v7, v0, v1, v2, v3, 0, 0, 0, [])))
      (L2k (v2, false, v7, v0, v1, v2, v3, 0, 0, 0, [])))
    (L2k (v5, v6, v7, v0, v1, v2, v3, 0, 0, 0, [])))
theorem d_cn {ι : Type} {E : Fil ι} {link_due_k : link_due.A → Option link_due.R} {link_due_k' : ι → link_due.A → Option link_due.R} (hlink_due_k : ∀ v, Cn E (link_due_k v) fun i => link_due_k' i v) {L0k : T0 → Option R} {L0k' : ι → T0 → Option R} (hL0k : ∀ v, Cn E (L0k v) fun i => L0k' i v) {L2k : T2 → Option R} {L2k' : ι → T2 → Option R} (hL2k : ∀ v, Cn E (L2k v) fun i => L2k' i v) : ∀ v : A, Cn E (d link_due_k L0k L2k v) fun i => d (link_due_k' i) (L0k' i) (L2k' i) v := fun (v0, v1, v2, v3, v4, v5, v6, v7) => (.br .some (.br (.br (.bnd (hlink_due_k _) fun _ => (.br (.br (hL0k _) .none) (hL2k _))) (hL2k _)) (hL2k _)))
theorem f_b (k : Nat) : ∀ v : A, f k v = d (link_due.f k) (l0 k) (l2 k) v := fun (v0, v1, v2, v3, v4, v5, v6, v7) => (held_eq _).trans (by kernel_rfl)
theorem F_of (v : A) {r : R} (h : d link_due.F D0 D2 v = some r) : F v = some r :=
  join_of (l := fun L => f (L 0) v) (d := fun L => d (link_due.f (L 0)) (l0 (L 0)) (l2 (L 0)) v) (fun L => f_b (L 0) v) (d_cn (link_due.F_cn 0) (fun v => (D0_cn v).re [0]) (fun v => (D2_cn v).re [0]) v) h
noncomputable def spec (k : Nat) (args : List AV) (ss : List Slot) : Option Ans :=
  match args, ss with
  | [(.c (.ptr 128000000 0)), (.agg [(.int .i64 v0), (.int .i64 v1), (.int .i64 v2), (.frz (.int .u8) v3)]), (.c (.int .i64 v4))], [(.box [(.int .i64 v5), (.bool v6), (.sl 128000001)]), (.row (.pair (.int .i64) (.int .i64)) v7)] => some ⟨R, f k (v0, v1, v2, v3, v4, v5, v6, v7), enc⟩
  | _, _ => none
theorem spec_ok (k : Nat) : SpecOk Try.prog 38 (spec k) := by
  intro args ss ans x h hx X σ w vals hp
  unfold spec at h
  split at h
  · cases h
    exact spec_of cs_ok Try.func38 rfl rfl dec_ok (held_eq _).symm hx hp
  · cases h
end link_device_hear
noncomputable def t_link_device_hear (k : Nat) := tcons 38 (link_device_hear.spec k) (t_link_due k)
theorem t_link_device_hear_ok (n g : Nat) : SpecOk Try.prog g (t_link_device_hear n g) := tcons_ok (link_device_hear.spec_ok n) (fun g => t_link_due_ok n g) g
namespace bus_Check
abbrev R : Type := Int
abbrev A : Type := Int × Int × Int × List Int
def lv : List (Nat × List Nat) := [(2000000, [2])]
noncomputable def cs : Nat → Ctx := ctxOf tis modes t_link_device_hear lv
theorem cs_ok (n : Nat) : CtxOk Try.prog (cs n) := ctxOf_ok rfl tis_ok t_link_device_hear_ok n
def enc (r : R) : Out := ((.c (.int .i64 r)), [])
def dec : Out → Option R
  | ((.c (.int .i64 v0)), []) => some v0
  | _ => none
theorem dec_ok : ∀ u y, dec u = some y → u = enc y := by
  intro u y h
  unfold dec at h
  split at h
  · cases h; rfl
  · cases h
noncomputable def b0 : Code := subF [] Try.f31
noncomputable def K0 (k : Nat) : Kt R := kTop (cs k) Try.f31 dec
noncomputable def f (k : Nat) : A → Option R := fun (v0, v1, v2, v3) => held (runFn cs k Try.f31 [(.agg [(.int .i64 v0), (.int .i64 v1), (.int .i64 v2), (.frz (.int .u8) v3)])] [] dec)
noncomputable def F (v : A) : Option R := lim fun L => f (L 0) v
theorem F_cn (x : Nat) (v : A) : Cn late (F v) fun L => f (L x) v := of_lim.re [x]
def d : A → Option R := fun (v0, v1, v2, v3) =>
br (decide (v0 < 0) || decide (15 < v0) || decide (v1 < 0) || decide (15 < v1) || decide (v2 < 0) || decide (65535 < v2)) (some 4) (br (decide (16 < (↑v3.length : Int))) (some 2) (some 0))
theorem d_cn {ι : Type} {E : Fil ι} : ∀ v : A, Cn E (d v) fun i => d v := fun (v0, v1, v2, v3) => (.br .some (.br .some .some))
theorem f_b (k : Nat) : ∀ v : A, f k v = d v := fun (v0, v1, v2, v3) => (held_eq _).trans (by kernel_rfl)
theorem F_of (v : A) {r : R} (h : d v = some r) : F v = some r :=
  join_of (l := fun L => f (L 0) v) (d := fun L => d v) (fun L => f_b (L 0) v) (d_cn v) h
noncomputable def spec (k : Nat) (args : List AV) (ss : List Slot) : Option Ans :=
  match args, ss with
  | [(.agg [(.int .i64 v0), (.int .i64 v1), (.int .i64 v2), (.frz (.int .u8) v3)])], [] => some ⟨R, f k (v0, v1, v2, v3), enc⟩
  | _, _ => none
theorem spec_ok (k : Nat) : SpecOk Try.prog 31 (spec k) := by
  intro args ss ans x h hx X σ w vals hp
  unfold spec at h
  split at h
  · cases h
    exact spec_of cs_ok Try.func31 rfl rfl dec_ok (held_eq _).symm hx hp
  · cases h
end bus_Check
noncomputable def t_bus_Check (k : Nat) := tcons 31 (bus_Check.spec k) (t_link_device_hear k)
theorem t_bus_Check_ok (n g : Nat) : SpecOk Try.prog g (t_bus_Check n g) := tcons_ok (bus_Check.spec_ok n) (fun g => t_link_device_hear_ok n g) g
namespace bus_Body
abbrev R : Type := Int × List Int
abbrev A : Type := Int × Int × Int × List Int
def lv : List (Nat × List Nat) := [(2000000, [2, 3])]
noncomputable def cs : Nat → Ctx := ctxOf tis modes t_bus_Check lv
theorem cs_ok (n : Nat) : CtxOk Try.prog (cs n) := ctxOf_ok rfl tis_ok t_bus_Check_ok n
def enc (r : R) : Out := ((.tup [(.c (.sl 128000000)), (.c (.int .i64 r.1))]), [(.row (.int .u8) r.2)])
def dec : Out → Option R
  | ((.tup [(.c (.sl 128000000)), (.c (.int .i64 v0))]), [(.row (.int .u8) v1)]) => some (v0, v1)
  | _ => none
theorem dec_ok : ∀ u y, dec u = some y → u = enc y := by
  intro u y h
  unfold dec at h
  split at h
  · cases h; rfl
  · cases h
noncomputable def b0 : Code := subF [] Try.f19
noncomputable def K0 (k : Nat) : Kt R := kTop (cs k) Try.f19 dec
noncomputable def f (k : Nat) : A → Option R := fun (v0, v1, v2, v3) => held (runFn cs k Try.f19 [(.agg [(.int .i64 v0), (.int .i64 v1), (.int .i64 v2), (.frz (.int .u8) v3)])] [] dec)
noncomputable def F (v : A) : Option R := lim fun L => f (L 0) v
theorem F_cn (x : Nat) (v : A) : Cn late (F v) fun L => f (L x) v := of_lim.re [x]
def d (bus_Check_k : bus_Check.A → Option bus_Check.R) (bus_Sum_k : bus_Sum.A → Option bus_Sum.R) : A → Option R := fun (v0, v1, v2, v3) =>
bnd (bus_Check_k (v0, v1, v2, v3)) fun r =>
  br (!decide (r = 0)) (some (r, []))
    (br (decide ((0 : Int) ≤ 4))
      (br (decide ((0 : Int) ≤ 8))
        (br (decide ([wrap IntKind.u8 (bOr IntKind.i64 (shl IntKind.i64 v0 4) v1), wrap IntKind.u8 (shr IntKind.i64 v2 8), wrap IntKind.u8 v2].length + v3.length ≤ 140737488355328 / 1))
          (bnd (bus_Sum_k ([wrap IntKind.u8 (bOr IntKind.i64 (shl IntKind.i64 v0 4) v1), wrap IntKind.u8 (shr IntKind.i64 v2 8), wrap IntKind.u8 v2] ++ v3)) fun r =>
            br (decide ((0 : Int) ≤ 8))
              (br
                (decide
                  (([wrap IntKind.u8 (bOr IntKind.i64 (shl IntKind.i64 v0 4) v1), wrap IntKind.u8 (shr IntKind.i64 v2 8), wrap IntKind.u8 v2] ++ v3).length +
                      [wrap IntKind.u8 (shr IntKind.u16 r 8), wrap IntKind.u8 r].length ≤
                    140737488355328 / 1))
                (some (0, [wrap IntKind.u8 (bOr IntKind.i64 (shl IntKind.i64 v0 4) v1), wrap IntKind.u8 (shr IntKind.i64 v2 8), wrap IntKind.u8 v2] ++ v3 ++ [wrap IntKind.u8 (shr IntKind.u16 r 8), wrap IntKind.u8 r]))
                none)
              none)
          none)
        none)
      none)
theorem d_cn {ι : Type} {E : Fil ι} {bus_Check_k : bus_Check.A → Option bus_Check.R} {bus_Check_k' : ι → bus_Check.A → Option bus_Check.R} (hbus_Check_k : ∀ v, Cn E (bus_Check_k v) fun i => bus_Check_k' i v) {bus_Sum_k : bus_Sum.A → Option bus_Sum.R} {bus_Sum_k' : ι → bus_Sum.A → Option bus_Sum.R} (hbus_Sum_k : ∀ v, Cn E (bus_Sum_k v) fun i => bus_Sum_k' i v) : ∀ v : A, Cn E (d bus_Check_k bus_Sum_k v) fun i => d (bus_Check_k' i) (bus_Sum_k' i) v := fun (v0, v1, v2, v3) => (.bnd (hbus_Check_k _) fun _ => (.br .some (.br (.br (.br (.bnd (hbus_Sum_k _) fun _ => (.br (.br .some .none) .none)) .none) .none) .none)))
theorem f_b (k : Nat) : ∀ v : A, f k v = d (bus_Check.f k) (bus_Sum.f k) v := fun (v0, v1, v2, v3) => (held_eq _).trans (by kernel_rfl)
theorem F_of (v : A) {r : R} (h : d bus_Check.F bus_Sum.F v = some r) : F v = some r :=
  join_of (l := fun L => f (L 0) v) (d := fun L => d (bus_Check.f (L 0)) (bus_Sum.f (L 0)) v) (fun L => f_b (L 0) v) (d_cn (bus_Check.F_cn 0) (bus_Sum.F_cn 0) v) h
noncomputable def spec (k : Nat) (args : List AV) (ss : List Slot) : Option Ans :=
  match args, ss with
  | [(.agg [(.int .i64 v0), (.int .i64 v1), (.int .i64 v2), (.frz (.int .u8) v3)])], [] => some ⟨R, f k (v0, v1, v2, v3), enc⟩
  | _, _ => none
theorem spec_ok (k : Nat) : SpecOk Try.prog 19 (spec k) := by
  intro args ss ans x h hx X σ w vals hp
  unfold spec at h
  split at h
  · cases h
    exact spec_of cs_ok Try.func19 rfl rfl dec_ok (held_eq _).symm hx hp
  · cases h
end bus_Body
noncomputable def t_bus_Body (k : Nat) := tcons 19 (bus_Body.spec k) (t_bus_Check k)
theorem t_bus_Body_ok (n g : Nat) : SpecOk Try.prog g (t_bus_Body n g) := tcons_ok (bus_Body.spec_ok n) (fun g => t_bus_Check_ok n g) g
namespace bus_Stuff
abbrev R : Type := List Int
abbrev A : Type := List Int
def lv : List (Nat × List Nat) := [(2000000, [2]), (3, [3, 7, 8, 9]), (1000008, [3, 7, 8, 9])]
noncomputable def cs : Nat → Ctx := ctxOf tis modes t_bus_Body lv
theorem cs_ok (n : Nat) : CtxOk Try.prog (cs n) := ctxOf_ok rfl tis_ok t_bus_Body_ok n
def enc (r : R) : Out := ((.c (.sl 128000000)), [(.row (.int .u8) r)])
def dec : Out → Option R
  | ((.c (.sl 128000000)), [(.row (.int .u8) v0)]) => some v0
  | _ => none
theorem dec_ok : ∀ u y, dec u = some y → u = enc y := by
  intro u y h
  unfold dec at h
  split at h
  · cases h; rfl
  · cases h
noncomputable def b0 : Code := subF [] Try.f28
noncomputable def K0 (k : Nat) : Kt R := kTop (cs k) Try.f28 dec
noncomputable def b3 : Code := sub [1, 1, 0, 1, 0, 0] b0
noncomputable def K3 ( k : Nat) : Kt R := kAt (cs k) (loopN cs k) [1, 1, 0, 1, 0] b0 (K0 k)
noncomputable def c1000008 : Code := sub [1, 1, 1] b3
noncomputable def J1000008 ( k m1 : Nat) : Kt R := kAt (cs m1) (loopN cs m1) [1, 1, 1] b3 (kLoop cs m1 b3 (K3 k))
abbrev T0 : Type := List Int × Int × Int × List Int
def s0 : T0 → St := fun (v0, v1, v2, v3) => ⟨32, 0, [(3, (.c (.sl 64000000))), (7, (.c (.frz (.int .u8) v0))), (8, (.c (.int .i64 v1))), (9, (.c (.int .i64 v2)))], [], [(256000000, .gone), (64000000, (.row (.int .u8) v3))]⟩
noncomputable def l0 ( k n : Nat) (v : T0) : Option R := held (loopN cs n b3 (K3 k) (s0 v))
noncomputable def D0 (v : T0) : Option R := lim fun L => l0 (L 0) (L 1) v
theorem D0_cn (v : T0) : Cn late (D0 v) fun L => l0 (L 0) (L 1) v := of_lim
abbrev T1 : Type := List Int × Int × Int × List Int
def s1 : T1 → St := fun (v0, v1, v2, v3) => ⟨32, 0, [(3, (.c (.sl 64000000))), (7, (.c (.frz (.int .u8) v0))), (8, (.c (.int .i64 v1))), (9, (.c (.int .i64 v2)))], [], [(256000000, .gone), (64000000, (.row (.int .u8) v3))]⟩
noncomputable def l1 ( k m1 : Nat) (v : T1) : Option R := held (run (cs m1) (loopN cs m1) c1000008 (J1000008 k m1) (s1 v))
noncomputable def D1 (v : T1) : Option R := lim fun L => l1 (L 0) (L 1) v
theorem D1_cn (v : T1) : Cn late (D1 v) fun L => l1 (L 0) (L 1) v := of_lim
def d0 (L1m1 : T1 → Option R) : T0 → Option R := fun (v0, v1, v2, v3) =>
br (decide (v2 < v1))
  (br (decide (0 ≤ v2 ∧ v2 < (↑v0.length : Int)))
    (br (decide (rd (Ty.int IntKind.u8) v0 v2 = 126) || decide (rd (Ty.int IntKind.u8) v0 v2 = 125))
      (br (decide (v3.length + [125, bXor IntKind.u8 (rd (Ty.int IntKind.u8) v0 v2) 32].length ≤ 140737488355328 / 1)) (L1m1 (v0, v1, v2, v3 ++ [125, bXor IntKind.u8 (rd (Ty.int IntKind.u8) v0 v2) 32])) none)
      (br (decide (v3.length + [rd (Ty.int IntKind.u8) v0 v2].length ≤ 140737488355328 / 1)) (L1m1 (v0, v1, v2, v3 ++ [rd (Ty.int IntKind.u8) v0 v2])) none))
    none)
  (br (decide (v3.length + [126].length ≤ 140737488355328 / 1)) (some (v3 ++ [126])) none)
theorem d0_cn {ι : Type} {E : Fil ι} {L1m1 : T1 → Option R} {L1m1' : ι → T1 → Option R} (hL1m1 : ∀ v, Cn E (L1m1 v) fun i => L1m1' i v) : ∀ v : T0, Cn E (d0 L1m1 v) fun i => d0 (L1m1' i) v := fun (v0, v1, v2, v3) => (.br (.br (.br (.br (hL1m1 _) .none) (.br (hL1m1 _) .none)) .none) (.br .some .none))
theorem l0_b ( k m1 : Nat) : ∀ v : T0, run (cs m1) (loopN cs m1) b3 (kLoop cs m1 b3 (K3 k)) (s0 v) = d0 (l1 k m1) v := fun (v0, v1, v2, v3) => by kernel_rfl
theorem D0_of (v : T0) {r : R} (h : d0 D1 v = some r) : D0 v = some r :=
  loop_of 1 (l := fun L => l0 (L 0) (L 1) v) (d := fun L => d0 (l1 (L 0) (L 1)) v) (fun L n hn => by show l0 (L 0) (L 1) v = _; rw [hn]; exact (held_eq _).trans ((loopN_succ _ _ _ _ _).trans (l0_b (L 0) n v))) (d0_cn (fun v => (D1_cn v).re [0, 1]) v) h
def d1 (L0m1 : T0 → Option R) : T1 → Option R := fun (v0, v1, v2, v3) =>
L0m1 (v0, v1, wrap IntKind.i64 (v2 + 1), v3)
theorem d1_cn {ι : Type} {E : Fil ι} {L0m1 : T0 → Option R} {L0m1' : ι → T0 → Option R} (hL0m1 : ∀ v, Cn E (L0m1 v) fun i => L0m1' i v) : ∀ v : T1, Cn E (d1 L0m1 v) fun i => d1 (L0m1' i) v := fun (v0, v1, v2, v3) => (hL0m1 _)
theorem l1_b ( k m1 : Nat) : ∀ v : T1, run (cs m1) (loopN cs m1) c1000008 (J1000008 k m1) (s1 v) = d1 (l0 k m1) v := fun (v0, v1, v2, v3) => by kernel_rfl
theorem D1_of (v : T1) {r : R} (h : d1 D0 v = some r) : D1 v = some r :=
  join_of (l := fun L => l1 (L 0) (L 1) v) (d := fun L => d1 (l0 (L 0) (L 1)) v) (fun L => (held_eq _).trans (l1_b (L 0) (L 1) v)) (d1_cn (fun v => (D0_cn v).re [0, 1]) v) h
noncomputable def f (k : Nat) : A → Option R := fun v0 => held (runFn cs k Try.f28 [(.c (.frz (.int .u8) v0))] [] dec)
noncomputable def F (v : A) : Option R := lim fun L => f (L 0) v
theorem F_cn (x : Nat) (v : A) : Cn late (F v) fun L => f (L x) v := of_lim.re [x]
def d (L0k : T0 → Option R) : A → Option R := fun v0 =>
L0k (v0, (↑v0.length : Int), 0, [126])
theorem d_cn {ι : Type} {E : Fil ι} {L0k : T0 → Option R} {L0k' : ι → T0 → Option R} (hL0k : ∀ v, Cn E (L0k v) fun i => L0k' i v) : ∀ v : A, Cn E (d L0k v) fun i => d (L0k' i) v := fun v0 => (hL0k _)
theorem f_b (k : Nat) : ∀ v : A, f k v = d (l0 k k) v := fun v0 => (held_eq _).trans (by kernel_rfl)
theorem F_of (v : A) {r : R} (h : d D0 v = some r) : F v = some r :=
  join_of (l := fun L => f (L 0) v) (d := fun L => d (l0 (L 0) (L 0)) v) (fun L => f_b (L 0) v) (d_cn (fun v => (D0_cn v).re [0, 0]) v) h
noncomputable def spec (k : Nat) (args : List AV) (ss : List Slot) : Option Ans :=
  match args, ss with
  | [(.c (.frz (.int .u8) v0))], [] => some ⟨R, f k v0, enc⟩
  | _, _ => none
theorem spec_ok (k : Nat) : SpecOk Try.prog 28 (spec k) := by
  intro args ss ans x h hx X σ w vals hp
  unfold spec at h
  split at h
  · cases h
    exact spec_of cs_ok Try.func28 rfl rfl dec_ok (held_eq _).symm hx hp
  · cases h
end bus_Stuff
noncomputable def t_bus_Stuff (k : Nat) := tcons 28 (bus_Stuff.spec k) (t_bus_Body k)
theorem t_bus_Stuff_ok (n g : Nat) : SpecOk Try.prog g (t_bus_Stuff n g) := tcons_ok (bus_Stuff.spec_ok n) (fun g => t_bus_Body_ok n g) g
namespace bus_Noise
abbrev R : Type := Int × List Int
abbrev A : Type := Int × Int × Int × List Int × List Int
def lv : List (Nat × List Nat) := [(2000000, [4, 5]), (5, [6, 18, 19, 20]), (1000009, [6, 18, 19, 20])]
noncomputable def cs : Nat → Ctx := ctxOf tis modes t_bus_Stuff lv
theorem cs_ok (n : Nat) : CtxOk Try.prog (cs n) := ctxOf_ok rfl tis_ok t_bus_Stuff_ok n
def enc (r : R) : Out := ((.tup [(.c (.sl 128000000)), (.c (.int .i64 r.1))]), [(.row (.int .u8) r.2)])
def dec : Out → Option R
  | ((.tup [(.c (.sl 128000000)), (.c (.int .i64 v0))]), [(.row (.int .u8) v1)]) => some (v0, v1)
  | _ => none
theorem dec_ok : ∀ u y, dec u = some y → u = enc y := by
  intro u y h
  unfold dec at h
  split at h
  · cases h; rfl
  · cases h
noncomputable def b0 : Code := subF [] Try.f21
noncomputable def K0 (k : Nat) : Kt R := kTop (cs k) Try.f21 dec
noncomputable def b5 : Code := sub [1, 1, 1, 0, 1, 0, 0] b0
noncomputable def K5 ( k : Nat) : Kt R := kAt (cs k) (loopN cs k) [1, 1, 1, 0, 1, 0] b0 (K0 k)
noncomputable def c1000009 : Code := sub [1, 1, 1] b5
noncomputable def J1000009 ( k m1 : Nat) : Kt R := kAt (cs m1) (loopN cs m1) [1, 1, 1] b5 (kLoop cs m1 b5 (K5 k))
abbrev T0 : Type := List Int × Int × Int × List Int
def s0 : T0 → St := fun (v0, v1, v2, v3) => ⟨46, 0, [(6, (.c (.sl 64000000))), (18, (.c (.frz (.int .i64) v0))), (19, (.c (.int .i64 v1))), (20, (.c (.int .i64 v2)))], [], [(256000000, .gone), (64000000, (.row (.int .u8) v3))]⟩
noncomputable def l0 ( k n : Nat) (v : T0) : Option R := held (loopN cs n b5 (K5 k) (s0 v))
noncomputable def D0 (v : T0) : Option R := lim fun L => l0 (L 0) (L 1) v
theorem D0_cn (v : T0) : Cn late (D0 v) fun L => l0 (L 0) (L 1) v := of_lim
abbrev T1 : Type := List Int × Int × Int × List Int
def s1 : T1 → St := fun (v0, v1, v2, v3) => ⟨46, 0, [(6, (.c (.sl 64000000))), (18, (.c (.frz (.int .i64) v0))), (19, (.c (.int .i64 v1))), (20, (.c (.int .i64 v2)))], [], [(256000000, .gone), (64000000, (.row (.int .u8) v3))]⟩
noncomputable def l1 ( k m1 : Nat) (v : T1) : Option R := held (run (cs m1) (loopN cs m1) c1000009 (J1000009 k m1) (s1 v))
noncomputable def D1 (v : T1) : Option R := lim fun L => l1 (L 0) (L 1) v
theorem D1_cn (v : T1) : Cn late (D1 v) fun L => l1 (L 0) (L 1) v := of_lim
def d0 (L1m1 : T1 → Option R) (bus_Stuff_k : bus_Stuff.A → Option bus_Stuff.R) : T0 → Option R := fun (v0, v1, v2, v3) =>
br (decide (v2 < v1))
  (br (decide (0 ≤ v2 ∧ v2 < (↑v0.length : Int)))
    (br (decide (0 ≤ rd (Ty.int IntKind.i64) v0 v2) && decide (rd (Ty.int IntKind.i64) v0 v2 < wrap IntKind.i64 (8 * (↑v3.length : Int))))
      (br (!decide (8 = 0))
        (br (decide (0 ≤ wrap IntKind.i64 (Int.tdiv (rd (Ty.int IntKind.i64) v0 v2) 8) ∧ wrap IntKind.i64 (Int.tdiv (rd (Ty.int IntKind.i64) v0 v2) 8) < (↑v3.length : Int)))
          (br (!decide (8 = 0))
            (br (decide (0 ≤ Int.tmod (rd (Ty.int IntKind.i64) v0 v2) 8))
              (br (decide (0 ≤ wrap IntKind.i64 (Int.tdiv (rd (Ty.int IntKind.i64) v0 v2) 8) ∧ wrap IntKind.i64 (Int.tdiv (rd (Ty.int IntKind.i64) v0 v2) 8) < (↑v3.length : Int)))
                (L1m1
                  (v0, v1, v2,
                    v3.set (wrap IntKind.i64 (Int.tdiv (rd (Ty.int IntKind.i64) v0 v2) 8)).toNat
                      (bXor IntKind.u8 (rd (Ty.int IntKind.u8) v3 (wrap IntKind.i64 (Int.tdiv (rd (Ty.int IntKind.i64) v0 v2) 8))) (shl IntKind.u8 1 (Int.tmod (rd (Ty.int IntKind.i64) v0 v2) 8)))))
                none)
              none)
            none)
          none)
        none)
      (L1m1 (v0, v1, v2, v3)))
    none)
  (bnd (bus_Stuff_k v3) fun r => some (0, r))
theorem d0_cn {ι : Type} {E : Fil ι} {L1m1 : T1 → Option R} {L1m1' : ι → T1 → Option R} (hL1m1 : ∀ v, Cn E (L1m1 v) fun i => L1m1' i v) {bus_Stuff_k : bus_Stuff.A → Option bus_Stuff.R} {bus_Stuff_k' : ι → bus_Stuff.A → Option bus_Stuff.R} (hbus_Stuff_k : ∀ v, Cn E (bus_Stuff_k v) fun i => bus_Stuff_k' i v) : ∀ v : T0, Cn E (d0 L1m1 bus_Stuff_k v) fun i => d0 (L1m1' i) (bus_Stuff_k' i) v := fun (v0, v1, v2, v3) => (.br (.br (.br (.br (.br (.br (.br (.br (hL1m1 _) .none) .none) .none) .none) .none) (hL1m1 _)) .none) (.bnd (hbus_Stuff_k _) fun _ => .some))
theorem l0_b ( k m1 : Nat) : ∀ v : T0, run (cs m1) (loopN cs m1) b5 (kLoop cs m1 b5 (K5 k)) (s0 v) = d0 (l1 k m1) (bus_Stuff.f k) v := fun (v0, v1, v2, v3) => by kernel_rfl
theorem D0_of (v : T0) {r : R} (h : d0 D1 bus_Stuff.F v = some r) : D0 v = some r :=
  loop_of 1 (l := fun L => l0 (L 0) (L 1) v) (d := fun L => d0 (l1 (L 0) (L 1)) (bus_Stuff.f (L 0)) v) (fun L n hn => by show l0 (L 0) (L 1) v = _; rw [hn]; exact (held_eq _).trans ((loopN_succ _ _ _ _ _).trans (l0_b (L 0) n v))) (d0_cn (fun v => (D1_cn v).re [0, 1]) (bus_Stuff.F_cn 0) v) h
def d1 (L0m1 : T0 → Option R) : T1 → Option R := fun (v0, v1, v2, v3) =>
L0m1 (v0, v1, wrap IntKind.i64 (v2 + 1), v3)
theorem d1_cn {ι : Type} {E : Fil ι} {L0m1 : T0 → Option R} {L0m1' : ι → T0 → Option R} (hL0m1 : ∀ v, Cn E (L0m1 v) fun i => L0m1' i v) : ∀ v : T1, Cn E (d1 L0m1 v) fun i => d1 (L0m1' i) v := fun (v0, v1, v2, v3) => (hL0m1 _)
theorem l1_b ( k m1 : Nat) : ∀ v : T1, run (cs m1) (loopN cs m1) c1000009 (J1000009 k m1) (s1 v) = d1 (l0 k m1) v := fun (v0, v1, v2, v3) => by kernel_rfl
theorem D1_of (v : T1) {r : R} (h : d1 D0 v = some r) : D1 v = some r :=
  join_of (l := fun L => l1 (L 0) (L 1) v) (d := fun L => d1 (l0 (L 0) (L 1)) v) (fun L => (held_eq _).trans (l1_b (L 0) (L 1) v)) (d1_cn (fun v => (D0_cn v).re [0, 1]) v) h
noncomputable def f (k : Nat) : A → Option R := fun (v0, v1, v2, v3, v4) => held (runFn cs k Try.f21 [(.agg [(.int .i64 v0), (.int .i64 v1), (.int .i64 v2), (.frz (.int .u8) v3)]), (.c (.frz (.int .i64) v4))] [] dec)
noncomputable def F (v : A) : Option R := lim fun L => f (L 0) v
theorem F_cn (x : Nat) (v : A) : Cn late (F v) fun L => f (L x) v := of_lim.re [x]
def d (bus_Body_k : bus_Body.A → Option bus_Body.R) (L0k : T0 → Option R) : A → Option R := fun (v0, v1, v2, v3, v4) =>
bnd (bus_Body_k (v0, v1, v2, v3)) fun r => br (!decide (r.fst = 0)) (some (r.fst, [])) (L0k (v4, (↑v4.length : Int), 0, r.snd))
theorem d_cn {ι : Type} {E : Fil ι} {bus_Body_k : bus_Body.A → Option bus_Body.R} {bus_Body_k' : ι → bus_Body.A → Option bus_Body.R} (hbus_Body_k : ∀ v, Cn E (bus_Body_k v) fun i => bus_Body_k' i v) {L0k : T0 → Option R} {L0k' : ι → T0 → Option R} (hL0k : ∀ v, Cn E (L0k v) fun i => L0k' i v) : ∀ v : A, Cn E (d bus_Body_k L0k v) fun i => d (bus_Body_k' i) (L0k' i) v := fun (v0, v1, v2, v3, v4) => (.bnd (hbus_Body_k _) fun _ => (.br .some (hL0k _)))
theorem f_b (k : Nat) : ∀ v : A, f k v = d (bus_Body.f k) (l0 k k) v := fun (v0, v1, v2, v3, v4) => (held_eq _).trans (by kernel_rfl)
theorem F_of (v : A) {r : R} (h : d bus_Body.F D0 v = some r) : F v = some r :=
  join_of (l := fun L => f (L 0) v) (d := fun L => d (bus_Body.f (L 0)) (l0 (L 0) (L 0)) v) (fun L => f_b (L 0) v) (d_cn (bus_Body.F_cn 0) (fun v => (D0_cn v).re [0, 0]) v) h
noncomputable def spec (k : Nat) (args : List AV) (ss : List Slot) : Option Ans :=
  match args, ss with
  | [(.agg [(.int .i64 v0), (.int .i64 v1), (.int .i64 v2), (.frz (.int .u8) v3)]), (.c (.frz (.int .i64) v4))], [] => some ⟨R, f k (v0, v1, v2, v3, v4), enc⟩
  | _, _ => none
theorem spec_ok (k : Nat) : SpecOk Try.prog 21 (spec k) := by
  intro args ss ans x h hx X σ w vals hp
  unfold spec at h
  split at h
  · cases h
    exact spec_of cs_ok Try.func21 rfl rfl dec_ok (held_eq _).symm hx hp
  · cases h
end bus_Noise
noncomputable def t_bus_Noise (k : Nat) := tcons 21 (bus_Noise.spec k) (t_bus_Stuff k)
theorem t_bus_Noise_ok (n g : Nat) : SpecOk Try.prog g (t_bus_Noise n g) := tcons_ok (bus_Noise.spec_ok n) (fun g => t_bus_Stuff_ok n g) g
namespace link_line_send
abbrev R : Type := List (Bool × Int × Int × List Int) × Int × List (Int × List Int)
abbrev A : Type := Int × Int × Int × List Int × Int × List (Bool × Int × Int × List Int) × Int × List (Int × List Int)
def lv : List (Nat × List Nat) := [(2000001, [1]), (2000000, [0]), (1000004, [0, 2, 4, 6])]
noncomputable def cs : Nat → Ctx := ctxOf tis modes t_bus_Noise lv
theorem cs_ok (n : Nat) : CtxOk Try.prog (cs n) := ctxOf_ok rfl tis_ok t_bus_Noise_ok n
def enc (r : R) : Out := ((.tup []), [(.box [(.frz (.pair .bool (.pair (.int .i64) (.pair (.int .i64) (.slice (.int .i64))))) r.1), (.sl 128000002), (.int .i64 r.2.1)]), .gone, (.row (.pair (.int .i64) (.slice (.int .u8))) r.2.2)])
def dec : Out → Option R
  | ((.tup []), [(.box [(.frz (.pair .bool (.pair (.int .i64) (.pair (.int .i64) (.slice (.int .i64))))) v0), (.sl 128000002), (.int .i64 v1)]), .gone, (.row (.pair (.int .i64) (.slice (.int .u8))) v2)]) => some (v0, v1, v2)
  | _ => none
theorem dec_ok : ∀ u y, dec u = some y → u = enc y := by
  intro u y h
  unfold dec at h
  split at h
  · cases h; rfl
  · cases h
noncomputable def b0 : Code := subF [] Try.f39
noncomputable def K0 (k : Nat) : Kt R := kTop (cs k) Try.f39 dec
noncomputable def c1000004 : Code := sub [1, 1, 1] b0
noncomputable def J1000004 ( k : Nat) : Kt R := kAt (cs k) (loopN cs k) [1, 1, 1] b0 (K0 k)
abbrev T0 : Type := Int × List (Bool × Int × Int × List Int) × Int × List (Int × List Int) × Int × Int × Int × List Int × Bool × Int × Int × List Int
def s0 : T0 → St := fun (v0, v1, v2, v3, v4, v5, v6, v7, v8, v9, v10, v11) => ⟨79, 2, [(0, (.c (.ptr 128000000 0))), (2, (.c (.int .i64 v0))), (4, (.c (.ptr 64000000 0))), (6, (.c (.ptr 64000001 0)))], [], [(128000000, (.box [(.frz (.pair .bool (.pair (.int .i64) (.pair (.int .i64) (.slice (.int .i64))))) v1), (.sl 128000001), (.int .i64 v2)])), (128000001, (.row (.pair (.int .i64) (.slice (.int .u8))) v3)), (256000000, .gone), (64000000, (.box [(.int .i64 v4), (.int .i64 v5), (.int .i64 v6), (.frz (.int .u8) v7)])), (64000001, (.box [(.bool v8), (.int .i64 v9), (.int .i64 v10), (.frz (.int .i64) v11)]))]⟩
noncomputable def l0 ( k : Nat) (v : T0) : Option R := held (run (cs k) (loopN cs k) c1000004 (J1000004 k) (s0 v))
noncomputable def D0 (v : T0) : Option R := lim fun L => l0 (L 0) v
theorem D0_cn (v : T0) : Cn late (D0 v) fun L => l0 (L 0) v := of_lim
abbrev T1 : Type := Int × List (Bool × Int × Int × List Int) × Int × List (Int × List Int) × Int × Int × Int × List Int × Bool × Int × Int × List Int
def s1 : T1 → St := fun (v0, v1, v2, v3, v4, v5, v6, v7, v8, v9, v10, v11) => ⟨79, 2, [(0, (.c (.ptr 128000000 0))), (2, (.c (.int .i64 v0))), (4, (.c (.ptr 64000000 0))), (6, (.c (.ptr 64000001 0)))], [], [(128000000, (.box [(.frz (.pair .bool (.pair (.int .i64) (.pair (.int .i64) (.slice (.int .i64))))) v1), (.sl 128000001), (.int .i64 v2)])), (128000001, (.row (.pair (.int .i64) (.slice (.int .u8))) v3)), (256000000, .gone), (64000000, (.box [(.int .i64 v4), (.int .i64 v5), (.int .i64 v6), (.frz (.int .u8) v7)])), (64000001, (.box [(.bool v8), (.int .i64 v9), (.int .i64 v10), (.sl 64000002)])), (64000002, (.row (.int .i64) v11))]⟩
noncomputable def l1 ( k : Nat) (v : T1) : Option R := held (run (cs k) (loopN cs k) c1000004 (J1000004 k) (s1 v))
noncomputable def D1 (v : T1) : Option R := lim fun L => l1 (L 0) v
theorem D1_cn (v : T1) : Cn late (D1 v) fun L => l1 (L 0) v := of_lim
def d0 (bus_Noise_k : bus_Noise.A → Option bus_Noise.R) : T0 → Option R := fun (v0, v1, v2, v3, v4, v5, v6, v7, v8, v9, v10, v11) =>
br v8 (some (v1, wrap IntKind.i64 (v2 + 1), v3))
  (bnd (bus_Noise_k (v4, v5, v6, v7, v11)) fun r =>
    br (decide (v3.length + [(wrap IntKind.i64 (v0 + v9), r.snd)].length ≤ 140737488355328 / 32))
      (br (decide (0 < v10))
        (br (decide ((v3 ++ [(wrap IntKind.i64 (v0 + v9), r.snd)]).length + [(wrap IntKind.i64 (v0 + v10), r.snd)].length ≤ 140737488355328 / 32))
          (some (v1, wrap IntKind.i64 (v2 + 1), v3 ++ [(wrap IntKind.i64 (v0 + v9), r.snd)] ++ [(wrap IntKind.i64 (v0 + v10), r.snd)])) none)
        (some (v1, wrap IntKind.i64 (v2 + 1), v3 ++ [(wrap IntKind.i64 (v0 + v9), r.snd)])))
      none)
theorem d0_cn {ι : Type} {E : Fil ι} {bus_Noise_k : bus_Noise.A → Option bus_Noise.R} {bus_Noise_k' : ι → bus_Noise.A → Option bus_Noise.R} (hbus_Noise_k : ∀ v, Cn E (bus_Noise_k v) fun i => bus_Noise_k' i v) : ∀ v : T0, Cn E (d0 bus_Noise_k v) fun i => d0 (bus_Noise_k' i) v := fun (v0, v1, v2, v3, v4, v5, v6, v7, v8, v9, v10, v11) => (.br .some (.bnd (hbus_Noise_k _) fun _ => (.br (.br (.br .some .none) .some) .none)))
theorem l0_b ( k : Nat) : ∀ v : T0, run (cs k) (loopN cs k) c1000004 (J1000004 k) (s0 v) = d0 (bus_Noise.f k) v := fun (v0, v1, v2, v3, v4, v5, v6, v7, v8, v9, v10, v11) => by kernel_rfl
theorem D0_of (v : T0) {r : R} (h : d0 bus_Noise.F v = some r) : D0 v = some r :=
  join_of (l := fun L => l0 (L 0) v) (d := fun L => d0 (bus_Noise.f (L 0)) v) (fun L => (held_eq _).trans (l0_b (L 0) v)) (d0_cn (bus_Noise.F_cn 0) v) h
def d1 (bus_Noise_k : bus_Noise.A → Option bus_Noise.R) : T1 → Option R := fun (v0, v1, v2, v3, v4, v5, v6, v7, v8, v9, v10, v11) =>
br v8 (some (v1, wrap IntKind.i64 (v2 + 1), v3))
  (bnd (bus_Noise_k (v4, v5, v6, v7, v11)) fun r =>
    br (decide (v3.length + [(wrap IntKind.i64 (v0 + v9), r.snd)].length ≤ 140737488355328 / 32))
      (br (decide (0 < v10))
        (br (decide ((v3 ++ [(wrap IntKind.i64 (v0 + v9), r.snd)]).length + [(wrap IntKind.i64 (v0 + v10), r.snd)].length ≤ 140737488355328 / 32))
          (some (v1, wrap IntKind.i64 (v2 + 1), v3 ++ [(wrap IntKind.i64 (v0 + v9), r.snd)] ++ [(wrap IntKind.i64 (v0 + v10), r.snd)])) none)
        (some (v1, wrap IntKind.i64 (v2 + 1), v3 ++ [(wrap IntKind.i64 (v0 + v9), r.snd)])))
      none)
theorem d1_cn {ι : Type} {E : Fil ι} {bus_Noise_k : bus_Noise.A → Option bus_Noise.R} {bus_Noise_k' : ι → bus_Noise.A → Option bus_Noise.R} (hbus_Noise_k : ∀ v, Cn E (bus_Noise_k v) fun i => bus_Noise_k' i v) : ∀ v : T1, Cn E (d1 bus_Noise_k v) fun i => d1 (bus_Noise_k' i) v := fun (v0, v1, v2, v3, v4, v5, v6, v7, v8, v9, v10, v11) => (.br .some (.bnd (hbus_Noise_k _) fun _ => (.br (.br (.br .some .none) .some) .none)))
theorem l1_b ( k : Nat) : ∀ v : T1, run (cs k) (loopN cs k) c1000004 (J1000004 k) (s1 v) = d1 (bus_Noise.f k) v := fun (v0, v1, v2, v3, v4, v5, v6, v7, v8, v9, v10, v11) => by kernel_rfl
theorem D1_of (v : T1) {r : R} (h : d1 bus_Noise.F v = some r) : D1 v = some r :=
  join_of (l := fun L => l1 (L 0) v) (d := fun L => d1 (bus_Noise.f (L 0)) v) (fun L => (held_eq _).trans (l1_b (L 0) v)) (d1_cn (bus_Noise.F_cn 0) v) h
noncomputable def f (k : Nat) : A → Option R := fun (v0, v1, v2, v3, v4, v5, v6, v7) => held (runFn cs k Try.f39 [(.c (.ptr 128000000 0)), (.agg [(.int .i64 v0), (.int .i64 v1), (.int .i64 v2), (.frz (.int .u8) v3)]), (.c (.int .i64 v4))] [(.box [(.frz (.pair .bool (.pair (.int .i64) (.pair (.int .i64) (.slice (.int .i64))))) v5), (.sl 128000001), (.int .i64 v6)]), (.row (.pair (.int .i64) (.slice (.int .u8))) v7)] dec)
noncomputable def F (v : A) : Option R := lim fun L => f (L 0) v
theorem F_cn (x : Nat) (v : A) : Cn late (F v) fun L => f (L x) v := of_lim.re [x]
def d (L0k : T0 → Option R) (L1k : T1 → Option R) : A → Option R := fun (v0, v1, v2, v3, v4, v5, v6, v7) =>
br (decide (v6 < (↑v5.length : Int)))
  (br (decide (0 ≤ v6 ∧ v6 < (↑v5.length : Int)))
    (L0k
      (v4, v5, v6, v7, v0, v1, v2, v3, (rd (Ty.bool.pair ((Ty.int IntKind.i64).pair ((Ty.int IntKind.i64).pair (Ty.int IntKind.i64).slice))) v5 v6).fst,
        (rd (Ty.bool.pair ((Ty.int IntKind.i64).pair ((Ty.int IntKind.i64).pair (Ty.int IntKind.i64).slice))) v5 v6).snd.fst,
        (rd (Ty.bool.pair ((Ty.int IntKind.i64).pair ((Ty.int IntKind.i64).pair (Ty.int IntKind.i64).slice))) v5 v6).snd.snd.fst,
        (rd (Ty.bool.pair ((Ty.int IntKind.i64).pair ((Ty.int IntKind.i64).pair (Ty.int IntKind.i64).slice))) v5 v6).snd.snd.snd))
    none)
  (L1k (v4, v5, v6, v7, v0, v1, v2, v3, false, 1, 0, []))
theorem d_cn {ι : Type} {E : Fil ι} {L0k : T0 → Option R} {L0k' : ι → T0 → Option R} (hL0k : ∀ v, Cn E (L0k v) fun i => L0k' i v) {L1k : T1 → Option R} {L1k' : ι → T1 → Option R} (hL1k : ∀ v, Cn E (L1k v) fun i => L1k' i v) : ∀ v : A, Cn E (d L0k L1k v) fun i => d (L0k' i) (L1k' i) v := fun (v0, v1, v2, v3, v4, v5, v6, v7) => (.br (.br (hL0k _) .none) (hL1k _))
theorem f_b (k : Nat) : ∀ v : A, f k v = d (l0 k) (l1 k) v := fun (v0, v1, v2, v3, v4, v5, v6, v7) => (held_eq _).trans (by kernel_rfl)
theorem F_of (v : A) {r : R} (h : d D0 D1 v = some r) : F v = some r :=
  join_of (l := fun L => f (L 0) v) (d := fun L => d (l0 (L 0)) (l1 (L 0)) v) (fun L => f_b (L 0) v) (d_cn (fun v => (D0_cn v).re [0]) (fun v => (D1_cn v).re [0]) v) h
noncomputable def spec (k : Nat) (args : List AV) (ss : List Slot) : Option Ans :=
  match args, ss with
  | [(.c (.ptr 128000000 0)), (.agg [(.int .i64 v0), (.int .i64 v1), (.int .i64 v2), (.frz (.int .u8) v3)]), (.c (.int .i64 v4))], [(.box [(.frz (.pair .bool (.pair (.int .i64) (.pair (.int .i64) (.slice (.int .i64))))) v5), (.sl 128000001), (.int .i64 v6)]), (.row (.pair (.int .i64) (.slice (.int .u8))) v7)] => some ⟨R, f k (v0, v1, v2, v3, v4, v5, v6, v7), enc⟩
  | _, _ => none
theorem spec_ok (k : Nat) : SpecOk Try.prog 39 (spec k) := by
  intro args ss ans x h hx X σ w vals hp
  unfold spec at h
  split at h
  · cases h
    exact spec_of cs_ok Try.func39 rfl rfl dec_ok (held_eq _).symm hx hp
  · cases h
end link_line_send
noncomputable def t_link_line_send (k : Nat) := tcons 39 (link_line_send.spec k) (t_bus_Noise k)
theorem t_link_line_send_ok (n g : Nat) : SpecOk Try.prog g (t_link_line_send n g) := tcons_ok (link_line_send.spec_ok n) (fun g => t_bus_Noise_ok n g) g
namespace link_controller_hear
abbrev R : Type := List (Int × Int × Int) × Int × Int × Int × Int × List (Int × Int) × List Int × List Int
abbrev A : Type := Int × Int × Int × List Int × Int × List (Int × Int × Int) × Int × Int × Int × Int × List (Int × Int) × List Int × List Int
def lv : List (Nat × List Nat) := [(2000000, [0]), (1000007, [0, 2])]
noncomputable def cs : Nat → Ctx := ctxOf tis modes t_link_line_send lv
theorem cs_ok (n : Nat) : CtxOk Try.prog (cs n) := ctxOf_ok rfl tis_ok t_link_line_send_ok n
def enc (r : R) : Out := ((.tup []), [(.box [(.frz (.pair (.int .i64) (.pair (.int .i64) (.int .i64))) r.1), (.int .i64 r.2.1), (.int .i64 r.2.2.1), (.ptr 128000001 0)]), (.box [(.sl 128000002), (.sl 128000003), (.sl 128000004), (.int .i64 r.2.2.2.1), (.int .i64 r.2.2.2.2.1)]), (.row (.pair (.int .i64) (.int .i64)) r.2.2.2.2.2.1), (.row (.int .i64) r.2.2.2.2.2.2.1), (.row (.int .i64) r.2.2.2.2.2.2.2)])
def dec : Out → Option R
  | ((.tup []), [(.box [(.frz (.pair (.int .i64) (.pair (.int .i64) (.int .i64))) v0), (.int .i64 v1), (.int .i64 v2), (.ptr 128000001 0)]), (.box [(.sl 128000002), (.sl 128000003), (.sl 128000004), (.int .i64 v3), (.int .i64 v4)]), (.row (.pair (.int .i64) (.int .i64)) v5), (.row (.int .i64) v6), (.row (.int .i64) v7)]) => some (v0, v1, v2, v3, v4, v5, v6, v7)
  | _ => none
theorem dec_ok : ∀ u y, dec u = some y → u = enc y := by
  intro u y h
  unfold dec at h
  split at h
  · cases h; rfl
  · cases h
noncomputable def b0 : Code := subF [] Try.f40
noncomputable def K0 (k : Nat) : Kt R := kTop (cs k) Try.f40 dec
noncomputable def c1000007 : Code := sub [1, 1, 1] b0
noncomputable def J1000007 ( k : Nat) : Kt R := kAt (cs k) (loopN cs k) [1, 1, 1] b0 (K0 k)
abbrev T0 : Type := Int × List (Int × Int × Int) × Int × Int × Int × Int × List (Int × Int) × List Int × List Int
def s0 : T0 → St := fun (v0, v1, v2, v3, v4, v5, v6, v7, v8) => ⟨92, 5, [(0, (.c (.ptr 128000000 0))), (2, (.c (.int .i64 v0)))], [], [(128000000, (.box [(.frz (.pair (.int .i64) (.pair (.int .i64) (.int .i64))) v1), (.int .i64 v2), (.int .i64 v3), (.ptr 128000001 0)])), (128000001, (.box [(.sl 128000002), (.sl 128000003), (.sl 128000004), (.int .i64 v4), (.int .i64 v5)])), (128000002, (.row (.pair (.int .i64) (.int .i64)) v6)), (128000003, (.row (.int .i64) v7)), (128000004, (.row (.int .i64) v8)), (256000000, .gone)]⟩
noncomputable def l0 ( k : Nat) (v : T0) : Option R := held (run (cs k) (loopN cs k) c1000007 (J1000007 k) (s0 v))
noncomputable def D0 (v : T0) : Option R := lim fun L => l0 (L 0) v
theorem D0_cn (v : T0) : Cn late (D0 v) fun L => l0 (L 0) v := of_lim
def d0 : T0 → Option R := fun (v0, v1, v2, v3, v4, v5, v6, v7, v8) =>
br (decide (0 ≤ v2 ∧ v2 < (↑v8.length : Int))) (some (v1, wrap IntKind.i64 (v2 + 1), v3, v4, v5, v6, v7, v8.set v2.toNat v0)) none
theorem d0_cn {ι : Type} {E : Fil ι} : ∀ v : T0, Cn E (d0 v) fun i => d0 v := fun (v0, v1, v2, v3, v4, v5, v6, v7, v8) => (.br .some .none)
theorem l0_b ( k : Nat) : ∀ v : T0, run (cs k) (loopN cs k) c1000007 (J1000007 k) (s0 v) = d0 v := fun (v0, v1, v2, v3, v4, v5, v6, v7, v8) => by kernel_rfl
theorem D0_of (v : T0) {r : R} (h : d0 v = some r) : D0 v = some r :=
  join_of (l := fun L => l0 (L 0) v) (d := fun L => d0 v) (fun L => (held_eq _).trans (l0_b (L 0) v)) (d0_cn v) h
noncomputable def f (k : Nat) : A → Option R := fun (v0, v1, v2, v3, v4, v5, v6, v7, v8, v9, v10, v11, v12) => held (runFn cs k Try.f40 [(.c (.ptr 128000000 0)), (.agg [(.int .i64 v0), (.int .i64 v1), (.int .i64 v2), (.frz (.int .u8) v3)]), (.c (.int .i64 v4))] [(.box [(.frz (.pair (.int .i64) (.pair (.int .i64) (.int .i64))) v5), (.int .i64 v6), (.int .i64 v7), (.ptr 128000001 0)]), (.box [(.sl 128000002), (.sl 128000003), (.sl 128000004), (.int .i64 v8), (.int .i64 v9)]), (.row (.pair (.int .i64) (.int .i64)) v10), (.row (.int .i64) v11), (.row (.int .i64) v12)] dec)
noncomputable def F (v : A) : Option R := lim fun L => f (L 0) v
theorem F_cn (x : Nat) (v : A) : Cn late (F v) fun L => f (L x) v := of_lim.re [x]
def d (L0k : T0 → Option R) : A → Option R := fun (v0, v1, v2, v3, v4, v5, v6, v7, v8, v9, v10, v11, v12) =>
br (!(decide ((↑v5.length : Int) ≤ v6) || !decide (v2 = wrap IntKind.i64 (v6 + 1))) == false || decide (0 ≤ v6 ∧ v6 < (↑v11.length : Int)))
  (br (decide ((↑v5.length : Int) ≤ v6) || !decide (v2 = wrap IntKind.i64 (v6 + 1)) || !decide (rd (Ty.int IntKind.i64) v11 v6 = 1)) (some (v5, v6, v7, v8, v9, v10, v11, v12))
    (br (decide (v1 = 3)) (br (decide (0 ≤ v6 ∧ v6 < (↑v11.length : Int))) (L0k (v4, v5, v6, v7, v8, v9, v10, v11.set v6.toNat 2, v12)) none)
      (br (decide (v1 = 4)) (br (decide (0 ≤ v6 ∧ v6 < (↑v11.length : Int))) (L0k (v4, v5, v6, v7, v8, v9, v10, v11.set v6.toNat 3, v12)) none) (some (v5, v6, v7, v8, v9, v10, v11, v12)))))
  none
theorem d_cn {ι : Type} {E : Fil ι} {L0k : T0 → Option R} {L0k' : ι → T0 → Option R} (hL0k : ∀ v, Cn E (L0k v) fun i => L0k' i v) : ∀ v : A, Cn E (d L0k v) fun i => d (L0k' i) v := fun (v0, v1, v2, v3, v4, v5, v6, v7, v8, v9, v10, v11, v12) => (.br (.br .some (.br (.br (hL0k _) .none) (.br (.br (hL0k _) .none) .some))) .none)
theorem f_b (k : Nat) : ∀ v : A, f k v = d (l0 k) v := fun (v0, v1, v2, v3, v4, v5, v6, v7, v8, v9, v10, v11, v12) => (held_eq _).trans (by kernel_rfl)
theorem F_of (v : A) {r : R} (h : d D0 v = some r) : F v = some r :=
  join_of (l := fun L => f (L 0) v) (d := fun L => d (l0 (L 0)) v) (fun L => f_b (L 0) v) (d_cn (fun v => (D0_cn v).re [0]) v) h
noncomputable def spec (k : Nat) (args : List AV) (ss : List Slot) : Option Ans :=
  match args, ss with
  | [(.c (.ptr 128000000 0)), (.agg [(.int .i64 v0), (.int .i64 v1), (.int .i64 v2), (.frz (.int .u8) v3)]), (.c (.int .i64 v4))], [(.box [(.frz (.pair (.int .i64) (.pair (.int .i64) (.int .i64))) v5), (.int .i64 v6), (.int .i64 v7), (.ptr 128000001 0)]), (.box [(.sl 128000002), (.sl 128000003), (.sl 128000004), (.int .i64 v8), (.int .i64 v9)]), (.row (.pair (.int .i64) (.int .i64)) v10), (.row (.int .i64) v11), (.row (.int .i64) v12)] => some ⟨R, f k (v0, v1, v2, v3, v4, v5, v6, v7, v8, v9, v10, v11, v12), enc⟩
  | _, _ => none
theorem spec_ok (k : Nat) : SpecOk Try.prog 40 (spec k) := by
  intro args ss ans x h hx X σ w vals hp
  unfold spec at h
  split at h
  · cases h
    exact spec_of cs_ok Try.func40 rfl rfl dec_ok (held_eq _).symm hx hp
  · cases h
end link_controller_hear
noncomputable def t_link_controller_hear (k : Nat) := tcons 40 (link_controller_hear.spec k) (t_link_line_send k)
theorem t_link_controller_hear_ok (n g : Nat) : SpecOk Try.prog g (t_link_controller_hear n g) := tcons_ok (link_controller_hear.spec_ok n) (fun g => t_link_line_send_ok n g) g
namespace link_data
abbrev R : Type := List Int
abbrev A : Type := Int × Int × Int
def lv : List (Nat × List Nat) := [(2000000, [2]), (3, [1, 3, 4])]
noncomputable def cs : Nat → Ctx := ctxOf tis modes t_link_controller_hear lv
theorem cs_ok (n : Nat) : CtxOk Try.prog (cs n) := ctxOf_ok rfl tis_ok t_link_controller_hear_ok n
def enc (r : R) : Out := ((.c (.sl 128000000)), [(.row (.int .u8) r)])
def dec : Out → Option R
  | ((.c (.sl 128000000)), [(.row (.int .u8) v0)]) => some v0
  | _ => none
theorem dec_ok : ∀ u y, dec u = some y → u = enc y := by
  intro u y h
  unfold dec at h
  split at h
  · cases h; rfl
  · cases h
noncomputable def b0 : Code := subF [] Try.f46
noncomputable def K0 (k : Nat) : Kt R := kTop (cs k) Try.f46 dec
noncomputable def b3 : Code := sub [1, 1, 0, 1, 0, 0] b0
noncomputable def K3 ( k : Nat) : Kt R := kAt (cs k) (loopN cs k) [1, 1, 0, 1, 0] b0 (K0 k)
abbrev T0 : Type := Int × Int × Int × Int × List Int
def s0 : T0 → St := fun (v0, v1, v2, v3, v4) => ⟨30, 0, [(1, (.c (.ptr 64000000 0))), (3, (.c (.sl 64000001))), (4, (.c (.int .i64 v0)))], [], [(256000000, .gone), (64000000, (.box [(.int .i64 v1), (.int .i64 v2), (.int .i64 v3)])), (64000001, (.row (.int .u8) v4))]⟩
noncomputable def l0 ( k n : Nat) (v : T0) : Option R := held (loopN cs n b3 (K3 k) (s0 v))
noncomputable def D0 (v : T0) : Option R := lim fun L => l0 (L 0) (L 1) v
theorem D0_cn (v : T0) : Cn late (D0 v) fun L => l0 (L 0) (L 1) v := of_lim
def d0 (L0m1 : T0 → Option R) : T0 → Option R := fun (v0, v1, v2, v3, v4) =>
br (decide (0 ≤ v0))
  (br (decide (0 ≤ v0))
    (br (decide (v4.length + [wrap IntKind.u8 (shr IntKind.u64 (wrap IntKind.u64 v2) v0)].length ≤ 140737488355328 / 1))
      (L0m1 (wrap IntKind.i64 (v0 - 8), v1, v2, v3, v4 ++ [wrap IntKind.u8 (shr IntKind.u64 (wrap IntKind.u64 v2) v0)])) none)
    none)
  (some v4)
theorem d0_cn {ι : Type} {E : Fil ι} {L0m1 : T0 → Option R} {L0m1' : ι → T0 → Option R} (hL0m1 : ∀ v, Cn E (L0m1 v) fun i => L0m1' i v) : ∀ v : T0, Cn E (d0 L0m1 v) fun i => d0 (L0m1' i) v := fun (v0, v1, v2, v3, v4) => (.br (.br (.br (hL0m1 _) .none) .none) .some)
theorem l0_b ( k m1 : Nat) : ∀ v : T0, run (cs m1) (loopN cs m1) b3 (kLoop cs m1 b3 (K3 k)) (s0 v) = d0 (l0 k m1) v := fun (v0, v1, v2, v3, v4) => by kernel_rfl
theorem D0_of (v : T0) {r : R} (h : d0 D0 v = some r) : D0 v = some r :=
  loop_of 1 (l := fun L => l0 (L 0) (L 1) v) (d := fun L => d0 (l0 (L 0) (L 1)) v) (fun L n hn => by show l0 (L 0) (L 1) v = _; rw [hn]; exact (held_eq _).trans ((loopN_succ _ _ _ _ _).trans (l0_b (L 0) n v))) (d0_cn (fun v => (D0_cn v).re [0, 1]) v) h
noncomputable def f (k : Nat) : A → Option R := fun (v0, v1, v2) => held (runFn cs k Try.f46 [(.agg [(.int .i64 v0), (.int .i64 v1), (.int .i64 v2)])] [] dec)
noncomputable def F (v : A) : Option R := lim fun L => f (L 0) v
theorem F_cn (x : Nat) (v : A) : Cn late (F v) fun L => f (L x) v := of_lim.re [x]
def d (L0k : T0 → Option R) : A → Option R := fun (v0, v1, v2) =>
br (decide ((0 : Int) ≤ 8)) (L0k (56, v0, v1, v2, [wrap IntKind.u8 v0, wrap IntKind.u8 (shr IntKind.i64 v2 8), wrap IntKind.u8 v2])) none
theorem d_cn {ι : Type} {E : Fil ι} {L0k : T0 → Option R} {L0k' : ι → T0 → Option R} (hL0k : ∀ v, Cn E (L0k v) fun i => L0k' i v) : ∀ v : A, Cn E (d L0k v) fun i => d (L0k' i) v := fun (v0, v1, v2) => (.br (hL0k _) .none)
theorem f_b (k : Nat) : ∀ v : A, f k v = d (l0 k k) v := fun (v0, v1, v2) => (held_eq _).trans (by kernel_rfl)
theorem F_of (v : A) {r : R} (h : d D0 v = some r) : F v = some r :=
  join_of (l := fun L => f (L 0) v) (d := fun L => d (l0 (L 0) (L 0)) v) (fun L => f_b (L 0) v) (d_cn (fun v => (D0_cn v).re [0, 0]) v) h
noncomputable def spec (k : Nat) (args : List AV) (ss : List Slot) : Option Ans :=
  match args, ss with
  | [(.agg [(.int .i64 v0), (.int .i64 v1), (.int .i64 v2)])], [] => some ⟨R, f k (v0, v1, v2), enc⟩
  | _, _ => none
theorem spec_ok (k : Nat) : SpecOk Try.prog 46 (spec k) := by
  intro args ss ans x h hx X σ w vals hp
  unfold spec at h
  split at h
  · cases h
    exact spec_of cs_ok Try.func46 rfl rfl dec_ok (held_eq _).symm hx hp
  · cases h
end link_data
noncomputable def t_link_data (k : Nat) := tcons 46 (link_data.spec k) (t_link_controller_hear k)
theorem t_link_data_ok (n g : Nat) : SpecOk Try.prog g (t_link_data n g) := tcons_ok (link_data.spec_ok n) (fun g => t_link_controller_hear_ok n g) g
namespace link_controller_act
abbrev R : Type := Int × Int × Int × Bool × List (Int × Int × Int) × Int × Int × Int × Int × List (Int × Int) × List Int × List Int × List Int
abbrev A : Type := Int × List (Int × Int × Int) × Int × Int × Int × Int × List (Int × Int) × List Int × List Int
def lv : List (Nat × List Nat) := [(2000000, [4, 5]), (1000005, [0, 1, 4])]
noncomputable def cs : Nat → Ctx := ctxOf tis modes t_link_data lv
theorem cs_ok (n : Nat) : CtxOk Try.prog (cs n) := ctxOf_ok rfl tis_ok t_link_data_ok n
def enc (r : R) : Out := ((.tup [(.agg [(.int .i64 r.1), (.int .i64 r.2.1), (.int .i64 r.2.2.1), (.sl 128000005)]), (.c (.bool r.2.2.2.1))]), [(.box [(.frz (.pair (.int .i64) (.pair (.int .i64) (.int .i64))) r.2.2.2.2.1), (.int .i64 r.2.2.2.2.2.1), (.int .i64 r.2.2.2.2.2.2.1), (.ptr 128000001 0)]), (.box [(.sl 128000002), (.sl 128000003), (.sl 128000004), (.int .i64 r.2.2.2.2.2.2.2.1), (.int .i64 r.2.2.2.2.2.2.2.2.1)]), (.row (.pair (.int .i64) (.int .i64)) r.2.2.2.2.2.2.2.2.2.1), (.row (.int .i64) r.2.2.2.2.2.2.2.2.2.2.1), (.row (.int .i64) r.2.2.2.2.2.2.2.2.2.2.2.1), (.row (.int .u8) r.2.2.2.2.2.2.2.2.2.2.2.2)])
def dec : Out → Option R
  | ((.tup [(.agg [(.int .i64 v0), (.int .i64 v1), (.int .i64 v2), (.sl 128000005)]), (.c (.bool v3))]), [(.box [(.frz (.pair (.int .i64) (.pair (.int .i64) (.int .i64))) v4), (.int .i64 v5), (.int .i64 v6), (.ptr 128000001 0)]), (.box [(.sl 128000002), (.sl 128000003), (.sl 128000004), (.int .i64 v7), (.int .i64 v8)]), (.row (.pair (.int .i64) (.int .i64)) v9), (.row (.int .i64) v10), (.row (.int .i64) v11), (.row (.int .u8) v12)]) => some (v0, v1, v2, v3, v4, v5, v6, v7, v8, v9, v10, v11, v12)
  | _ => none
theorem dec_ok : ∀ u y, dec u = some y → u = enc y := by
  intro u y h
  unfold dec at h
  split at h
  · cases h; rfl
  · cases h
noncomputable def b0 : Code := subF [] Try.f41
noncomputable def K0 (k : Nat) : Kt R := kTop (cs k) Try.f41 dec
noncomputable def c1000005 : Code := sub [1, 1, 1] b0
noncomputable def J1000005 ( k : Nat) : Kt R := kAt (cs k) (loopN cs k) [1, 1, 1] b0 (K0 k)
abbrev T0 : Type := Int × List (Int × Int × Int) × Int × Int × Int × Int × List (Int × Int) × List Int × List Int × Int × Int × Int × List Int
def s0 : T0 → St := fun (v0, v1, v2, v3, v4, v5, v6, v7, v8, v9, v10, v11, v12) => ⟨92, 5, [(0, (.c (.ptr 128000000 0))), (1, (.c (.int .i64 v0))), (4, (.c (.ptr 64000000 0)))], [], [(128000000, (.box [(.frz (.pair (.int .i64) (.pair (.int .i64) (.int .i64))) v1), (.int .i64 v2), (.int .i64 v3), (.ptr 128000001 0)])), (128000001, (.box [(.sl 128000002), (.sl 128000003), (.sl 128000004), (.int .i64 v4), (.int .i64 v5)])), (128000002, (.row (.pair (.int .i64) (.int .i64)) v6)), (128000003, (.row (.int .i64) v7)), (128000004, (.row (.int .i64) v8)), (256000000, .gone), (64000000, (.box [(.int .i64 v9), (.int .i64 v10), (.int .i64 v11), (.sl 64000001)])), (64000001, (.row (.int .u8) v12))]⟩
noncomputable def l0 ( k : Nat) (v : T0) : Option R := held (run (cs k) (loopN cs k) c1000005 (J1000005 k) (s0 v))
noncomputable def D0 (v : T0) : Option R := lim fun L => l0 (L 0) v
theorem D0_cn (v : T0) : Cn late (D0 v) fun L => l0 (L 0) v := of_lim
def d0 (link_data_k : link_data.A → Option link_data.R) : T0 → Option R := fun (v0, v1, v2, v3, v4, v5, v6, v7, v8, v9, v10, v11, v12) =>
br (!decide (4 = 0))
  (br (!decide ((wrap IntKind.i64 (v0 - v3)).tmod 4 = 0)) (some (0, 0, 0, false, v1, v2, v3, v4, v5, v6, v7, v8, []))
    (br (decide (0 ≤ v2 ∧ v2 < (↑v1.length : Int)))
      (br (decide ((rd ((Ty.int IntKind.i64).pair ((Ty.int IntKind.i64).pair (Ty.int IntKind.i64))) v1 v2).snd.snd < v0)) (some (0, 2, wrap IntKind.i64 (v2 + 1), true, v1, v2, v3, v4, v5, v6, v7, v8, []))
        (br (decide (0 ≤ v2 ∧ v2 < (↑v1.length : Int)))
          (bnd
            (link_data_k
              ((rd ((Ty.int IntKind.i64).pair ((Ty.int IntKind.i64).pair (Ty.int IntKind.i64))) v1 v2).fst, (rd ((Ty.int IntKind.i64).pair ((Ty.int IntKind.i64).pair (Ty.int IntKind.i64))) v1 v2).snd.fst,
                (rd ((Ty.int IntKind.i64).pair ((Ty.int IntKind.i64).pair (Ty.int IntKind.i64))) v1 v2).snd.snd))
            fun r => some (0, 1, wrap IntKind.i64 (v2 + 1), true, v1, v2, v3, v4, v5, v6, v7, v8, r))
          none))
      none))
  none
theorem d0_cn {ι : Type} {E : Fil ι} {link_data_k : link_data.A → Option link_data.R} {link_data_k' : ι → link_data.A → Option link_data.R} (hlink_data_k : ∀ v, Cn E (link_data_k v) fun i => link_data_k' i v) : ∀ v : T0, Cn E (d0 link_data_k v) fun i => d0 (link_data_k' i) v := fun (v0, v1, v2, v3, v4, v5, v6, v7, v8, v9, v10, v11, v12) => (.br (.br .some (.br (.br .some (.br (.bnd (hlink_data_k _) fun _ => .some) .none)) .none)) .none)
theorem l0_b ( k : Nat) : ∀ v : T0, run (cs k) (loopN cs k) c1000005 (J1000005 k) (s0 v) = d0 (link_data.f k) v := fun (v0, v1, v2, v3, v4, v5, v6, v7, v8, v9, v10, v11, v12) => by kernel_rfl
theorem D0_of (v : T0) {r : R} (h : d0 link_data.F v = some r) : D0 v = some r :=
  join_of (l := fun L => l0 (L 0) v) (d := fun L => d0 (link_data.f (L 0)) v) (fun L => (held_eq _).trans (l0_b (L 0) v)) (d0_cn (link_data.F_cn 0) v) h
noncomputable def f (k : Nat) : A → Option R := fun (v0, v1, v2, v3, v4, v5, v6, v7, v8) => held (runFn cs k Try.f41 [(.c (.ptr 128000000 0)), (.c (.int .i64 v0))] [(.box [(.frz (.pair (.int .i64) (.pair (.int .i64) (.int .i64))) v1), (.int .i64 v2), (.int .i64 v3), (.ptr 128000001 0)]), (.box [(.sl 128000002), (.sl 128000003), (.sl 128000004), (.int .i64 v4), (.int .i64 v5)]), (.row (.pair (.int .i64) (.int .i64)) v6), (.row (.int .i64) v7), (.row (.int .i64) v8)] dec)
noncomputable def F (v : A) : Option R := lim fun L => f (L 0) v
theorem F_cn (x : Nat) (v : A) : Cn late (F v) fun L => f (L x) v := of_lim.re [x]
def d (L0k : T0 → Option R) : A → Option R := fun (v0, v1, v2, v3, v4, v5, v6, v7, v8) =>
br (decide ((↑v1.length : Int) ≤ v2)) (some (0, 0, 0, false, v1, v2, v3, v4, v5, v6, v7, v8, []))
  (br (decide (0 ≤ v2 ∧ v2 < (↑v7.length : Int)))
    (br (decide (rd (Ty.int IntKind.i64) v7 v2 = 0)) (br (decide (0 ≤ v2 ∧ v2 < (↑v7.length : Int))) (L0k (v0, v1, v2, v0, v4, v5, v6, v7.set v2.toNat 1, v8, 0, 0, 0, [])) none)
      (L0k (v0, v1, v2, v3, v4, v5, v6, v7, v8, 0, 0, 0, [])))
    none)
theorem d_cn {ι : Type} {E : Fil ι} {L0k : T0 → Option R} {L0k' : ι → T0 → Option R} (hL0k : ∀ v, Cn E (L0k v) fun i => L0k' i v) : ∀ v : A, Cn E (d L0k v) fun i => d (L0k' i) v := fun (v0, v1, v2, v3, v4, v5, v6, v7, v8) => (.br .some (.br (.br (.br (hL0k _) .none) (hL0k _)) .none))
theorem f_b (k : Nat) : ∀ v : A, f k v = d (l0 k) v := fun (v0, v1, v2, v3, v4, v5, v6, v7, v8) => (held_eq _).trans (by kernel_rfl)
theorem F_of (v : A) {r : R} (h : d D0 v = some r) : F v = some r :=
  join_of (l := fun L => f (L 0) v) (d := fun L => d (l0 (L 0)) v) (fun L => f_b (L 0) v) (d_cn (fun v => (D0_cn v).re [0]) v) h
noncomputable def spec (k : Nat) (args : List AV) (ss : List Slot) : Option Ans :=
  match args, ss with
  | [(.c (.ptr 128000000 0)), (.c (.int .i64 v0))], [(.box [(.frz (.pair (.int .i64) (.pair (.int .i64) (.int .i64))) v1), (.int .i64 v2), (.int .i64 v3), (.ptr 128000001 0)]), (.box [(.sl 128000002), (.sl 128000003), (.sl 128000004), (.int .i64 v4), (.int .i64 v5)]), (.row (.pair (.int .i64) (.int .i64)) v6), (.row (.int .i64) v7), (.row (.int .i64) v8)] => some ⟨R, f k (v0, v1, v2, v3, v4, v5, v6, v7, v8), enc⟩
  | _, _ => none
theorem spec_ok (k : Nat) : SpecOk Try.prog 41 (spec k) := by
  intro args ss ans x h hx X σ w vals hp
  unfold spec at h
  split at h
  · cases h
    exact spec_of cs_ok Try.func41 rfl rfl dec_ok (held_eq _).symm hx hp
  · cases h
end link_controller_act
noncomputable def t_link_controller_act (k : Nat) := tcons 41 (link_controller_act.spec k) (t_link_data k)
theorem t_link_controller_act_ok (n g : Nat) : SpecOk Try.prog g (t_link_controller_act n g) := tcons_ok (link_controller_act.spec_ok n) (fun g => t_link_data_ok n g) g
namespace link_Run
abbrev R : Type := Int × Int × Int × List (Int × Int) × List Int × List Int
abbrev A : Type := List (Int × Int × Int) × List (Bool × Int × Int × List Int) × List (Bool × Int × Int × List Int) × Int
def lv : List (Nat × List Nat) := [(2000000, [8, 9]), (11, [8, 11, 12, 13, 14, 15, 55, 56]), (14, [8, 11, 12, 13, 14, 15, 16, 55, 56, 61, 62, 63]), (1000019, [8, 11, 12, 13, 14, 15, 16, 55, 56, 61, 62, 63]), (21, [8, 11, 12, 13, 14, 15, 16, 55, 56, 81, 82, 83]), (1000028, [8, 11, 12, 13, 14, 15, 55, 56])]
noncomputable def cs : Nat → Ctx := ctxOf tis modes t_link_controller_act lv
theorem cs_ok (n : Nat) : CtxOk Try.prog (cs n) := ctxOf_ok rfl tis_ok t_link_controller_act_ok n
def enc (r : R) : Out := ((.tup [(.agg [(.sl 128000000), (.sl 128000001), (.sl 128000002), (.int .i64 r.1), (.int .i64 r.2.1)]), (.c (.int .i64 r.2.2.1))]), [(.row (.pair (.int .i64) (.int .i64)) r.2.2.2.1), (.row (.int .i64) r.2.2.2.2.1), (.row (.int .i64) r.2.2.2.2.2)])
def dec : Out → Option R
  | ((.tup [(.agg [(.sl 128000000), (.sl 128000001), (.sl 128000002), (.int .i64 v0), (.int .i64 v1)]), (.c (.int .i64 v2))]), [(.row (.pair (.int .i64) (.int .i64)) v3), (.row (.int .i64) v4), (.row (.int .i64) v5)]) => some (v0, v1, v2, v3, v4, v5)
  | _ => none
theorem dec_ok : ∀ u y, dec u = some y → u = enc y := by
  intro u y h
  unfold dec at h
  split at h
  · cases h; rfl
  · cases h
noncomputable def b0 : Code := subF [] Try.f25
noncomputable def K0 (k : Nat) : Kt R := kTop (cs k) Try.f25 dec
noncomputable def b11 : Code := sub [1, 1, 1, 1, 1, 1, 1, 0, 1, 0, 0] b0
noncomputable def K11 ( k : Nat) : Kt R := kAt (cs k) (loopN cs k) [1, 1, 1, 1, 1, 1, 1, 0, 1, 0] b0 (K0 k)
noncomputable def c1000028 : Code := sub [1, 1, 1] b11
noncomputable def J1000028 ( k m1 : Nat) : Kt R := kAt (cs m1) (loopN cs m1) [1, 1, 1] b11 (kLoop cs m1 b11 (K11 k))
noncomputable def b14 : Code := sub [1, 1, 0, 0, 1, 0, 1, 0, 0] b11
noncomputable def K14 ( k m1 : Nat) : Kt R := kAt (cs m1) (loopN cs m1) [1, 1, 0, 0, 1, 0, 1, 0] b11 (kLoop cs m1 b11 (K11 k))
noncomputable def c1000019 : Code := sub [1, 1, 1] b14
noncomputable def J1000019 ( k m1 m2 : Nat) : Kt R := kAt (cs m2) (loopN cs m2) [1, 1, 1] b14 (kLoop cs m2 b14 (K14 k m1))
noncomputable def b21 : Code := sub [1, 1, 0, 0, 1, 1, 0, 1, 0, 0] b11
noncomputable def K21 ( k m1 : Nat) : Kt R := kAt (cs m1) (loopN cs m1) [1, 1, 0, 0, 1, 1, 0, 1, 0] b11 (kLoop cs m1 b11 (K11 k))
abbrev T0 : Type := Int × Int × Int × Int × Int × Int × Int × Bool × List (Int × Int × Int) × Int × Int × List (Bool × Int × Int × List Int) × Int × List (Bool × Int × Int × List Int) × Int × List (Int × Int) × List Int × List Int × List (Int × Int) × List Int × List Int × List (Int × Int) × List (Int × List Int) × List (Int × List Int)
def s0 : T0 → St := fun (v0, v1, v2, v3, v4, v5, v6, v7, v8, v9, v10, v11, v12, v13, v14, v15, v16, v17, v18, v19, v20, v21, v22, v23) => ⟨116, 0, [(8, (.c (.ptr 64000000 0))), (11, (.c (.ptr 64000001 0))), (12, (.c (.ptr 64000002 0))), (13, (.c (.ptr 64000003 0))), (14, (.c (.ptr 64000004 0))), (15, (.c (.ptr 64000005 0))), (55, (.c (.int .i64 v0))), (56, (.c (.int .i64 v1)))], [], [(256000000, .gone), (64000000, (.box [(.sl 64000006), (.sl 64000007), (.sl 64000008), (.int .i64 v2), (.int .i64 v3)])), (64000001, (.box [(.sl 64000009), (.sl 64000010), (.sl 64000011), (.int .i64 v4), (.int .i64 v5)])), (64000002, (.box [(.int .i64 v6), (.bool v7), (.sl 64000012)])), (64000003, (.box [(.frz (.pair (.int .i64) (.pair (.int .i64) (.int .i64))) v8), (.int .i64 v9), (.int .i64 v10), (.ptr 64000001 0)])), (64000004, (.box [(.frz (.pair .bool (.pair (.int .i64) (.pair (.int .i64) (.slice (.int .i64))))) v11), (.sl 64000013), (.int .i64 v12)])), (64000005, (.box [(.frz (.pair .bool (.pair (.int .i64) (.pair (.int .i64) (.slice (.int .i64))))) v13), (.sl 64000014), (.int .i64 v14)])), (64000006, (.row (.pair (.int .i64) (.int .i64)) v15)), (64000007, (.row (.int .i64) v16)), (64000008, (.row (.int .i64) v17)), (64000009, (.row (.pair (.int .i64) (.int .i64)) v18)), (64000010, (.row (.int .i64) v19)), (64000011, (.row (.int .i64) v20)), (64000012, (.row (.pair (.int .i64) (.int .i64)) v21)), (64000013, (.row (.pair (.int .i64) (.slice (.int .u8))) v22)), (64000014, (.row (.pair (.int .i64) (.slice (.int .u8))) v23))]⟩
noncomputable def l0 ( k n : Nat) (v : T0) : Option R := held (loopN cs n b11 (K11 k) (s0 v))
noncomputable def D0 (v : T0) : Option R := lim fun L => l0 (L 0) (L 1) v
theorem D0_cn (v : T0) : Cn late (D0 v) fun L => l0 (L 0) (L 1) v := of_lim
abbrev T1 : Type := Int × Int × Int × Int × Int × Int × Int × Int × Int × Int × Bool × List (Int × Int × Int) × Int × Int × List (Bool × Int × Int × List Int) × Int × List (Bool × Int × Int × List Int) × Int × List (Int × Int × Int × List Int) × List (Int × Int) × List Int × List Int × List (Int × Int) × List Int × List Int × List (Int × Int) × List (Int × List Int) × List (Int × List Int)
def s1 : T1 → St := fun (v0, v1, v2, v3, v4, v5, v6, v7, v8, v9, v10, v11, v12, v13, v14, v15, v16, v17, v18, v19, v20, v21, v22, v23, v24, v25, v26, v27) => ⟨116, 0, [(8, (.c (.ptr 64000000 0))), (11, (.c (.ptr 64000001 0))), (12, (.c (.ptr 64000002 0))), (13, (.c (.ptr 64000003 0))), (14, (.c (.ptr 64000004 0))), (15, (.c (.ptr 64000005 0))), (16, (.c (.int .i64 v0))), (55, (.c (.int .i64 v1))), (56, (.c (.int .i64 v2))), (61, (.c (.sl 64000006))), (62, (.c (.int .i64 v3))), (63, (.c (.int .i64 v4)))], [], [(256000000, .gone), (64000000, (.box [(.sl 64000007), (.sl 64000008), (.sl 64000009), (.int .i64 v5), (.int .i64 v6)])), (64000001, (.box [(.sl 64000010), (.sl 64000011), (.sl 64000012), (.int .i64 v7), (.int .i64 v8)])), (64000002, (.box [(.int .i64 v9), (.bool v10), (.sl 64000013)])), (64000003, (.box [(.frz (.pair (.int .i64) (.pair (.int .i64) (.int .i64))) v11), (.int .i64 v12), (.int .i64 v13), (.ptr 64000001 0)])), (64000004, (.box [(.frz (.pair .bool (.pair (.int .i64) (.pair (.int .i64) (.slice (.int .i64))))) v14), (.sl 64000014), (.int .i64 v15)])), (64000005, (.box [(.frz (.pair .bool (.pair (.int .i64) (.pair (.int .i64) (.slice (.int .i64))))) v16), (.sl 64000015), (.int .i64 v17)])), (64000006, (.row (.pair (.int .i64) (.pair (.int .i64) (.pair (.int .i64) (.slice (.int .u8))))) v18)), (64000007, (.row (.pair (.int .i64) (.int .i64)) v19)), (64000008, (.row (.int .i64) v20)), (64000009, (.row (.int .i64) v21)), (64000010, (.row (.pair (.int .i64) (.int .i64)) v22)), (64000011, (.row (.int .i64) v23)), (64000012, (.row (.int .i64) v24)), (64000013, (.row (.pair (.int .i64) (.int .i64)) v25)), (64000014, (.row (.pair (.int .i64) (.slice (.int .u8))) v26)), (64000015, (.row (.pair (.int .i64) (.slice (.int .u8))) v27))]⟩
noncomputable def l1 ( k m1 n : Nat) (v : T1) : Option R := held (loopN cs n b14 (K14 k m1) (s1 v))
noncomputable def D1 (v : T1) : Option R := lim fun L => l1 (L 0) (L 1) (L 2) v
theorem D1_cn (v : T1) : Cn late (D1 v) fun L => l1 (L 0) (L 1) (L 2) v := of_lim
abbrev T2 : Type := Int × Int × Int × Int × Int × Int × Int × Int × Int × Int × Bool × List (Int × Int × Int) × Int × Int × List (Bool × Int × Int × List Int) × Int × List (Bool × Int × Int × List Int) × Int × List (Int × Int × Int × List Int) × List (Int × Int) × List Int × List Int × List (Int × Int) × List Int × List Int × List (Int × Int) × List (Int × List Int) × List (Int × List Int)
def s2 : T2 → St := fun (v0, v1, v2, v3, v4, v5, v6, v7, v8, v9, v10, v11, v12, v13, v14, v15, v16, v17, v18, v19, v20, v21, v22, v23, v24, v25, v26, v27) => ⟨116, 0, [(8, (.c (.ptr 64000000 0))), (11, (.c (.ptr 64000001 0))), (12, (.c (.ptr 64000002 0))), (13, (.c (.ptr 64000003 0))), (14, (.c (.ptr 64000004 0))), (15, (.c (.ptr 64000005 0))), (16, (.c (.int .i64 v0))), (55, (.c (.int .i64 v1))), (56, (.c (.int .i64 v2))), (61, (.c (.sl 64000006))), (62, (.c (.int .i64 v3))), (63, (.c (.int .i64 v4)))], [], [(256000000, .gone), (64000000, (.box [(.sl 64000007), (.sl 64000008), (.sl 64000009), (.int .i64 v5), (.int .i64 v6)])), (64000001, (.box [(.sl 64000010), (.sl 64000011), (.sl 64000012), (.int .i64 v7), (.int .i64 v8)])), (64000002, (.box [(.int .i64 v9), (.bool v10), (.sl 64000013)])), (64000003, (.box [(.frz (.pair (.int .i64) (.pair (.int .i64) (.int .i64))) v11), (.int .i64 v12), (.int .i64 v13), (.ptr 64000001 0)])), (64000004, (.box [(.frz (.pair .bool (.pair (.int .i64) (.pair (.int .i64) (.slice (.int .i64))))) v14), (.sl 64000014), (.int .i64 v15)])), (64000005, (.box [(.frz (.pair .bool (.pair (.int .i64) (.pair (.int .i64) (.slice (.int .i64))))) v16), (.sl 64000015), (.int .i64 v17)])), (64000006, (.row (.pair (.int .i64) (.pair (.int .i64) (.pair (.int .i64) (.slice (.int .u8))))) v18)), (64000007, (.row (.pair (.int .i64) (.int .i64)) v19)), (64000008, (.row (.int .i64) v20)), (64000009, (.row (.int .i64) v21)), (64000010, (.row (.pair (.int .i64) (.int .i64)) v22)), (64000011, (.row (.int .i64) v23)), (64000012, (.row (.int .i64) v24)), (64000013, (.row (.pair (.int .i64) (.int .i64)) v25)), (64000014, (.row (.pair (.int .i64) (.slice (.int .u8))) v26)), (64000015, (.row (.pair (.int .i64) (.slice (.int .u8))) v27))]⟩
noncomputable def l2 ( k m1 m2 : Nat) (v : T2) : Option R := held (run (cs m2) (loopN cs m2) c1000019 (J1000019 k m1 m2) (s2 v))
noncomputable def D2 (v : T2) : Option R := lim fun L => l2 (L 0) (L 1) (L 2) v
theorem D2_cn (v : T2) : Cn late (D2 v) fun L => l2 (L 0) (L 1) (L 2) v := of_lim
abbrev T3 : Type := Int × Int × Int × Int × Int × Int × Int × Int × Int × Int × Bool × List (Int × Int × Int) × Int × Int × List (Bool × Int × Int × List Int) × Int × List (Bool × Int × Int × List Int) × Int × List (Int × Int × Int × List Int) × List (Int × Int) × List Int × List Int × List (Int × Int) × List Int × List Int × List (Int × Int) × List (Int × List Int) × List (Int × List Int)
def s3 : T3 → St := fun (v0, v1, v2, v3, v4, v5, v6, v7, v8, v9, v10, v11, v12, v13, v14, v15, v16, v17, v18, v19, v20, v21, v22, v23, v24, v25, v26, v27) => ⟨116, 0, [(8, (.c (.ptr 64000000 0))), (11, (.c (.ptr 64000001 0))), (12, (.c (.ptr 64000002 0))), (13, (.c (.ptr 64000003 0))), (14, (.c (.ptr 64000004 0))), (15, (.c (.ptr 64000005 0))), (16, (.c (.int .i64 v0))), (55, (.c (.int .i64 v1))), (56, (.c (.int .i64 v2))), (81, (.c (.sl 64000006))), (82, (.c (.int .i64 v3))), (83, (.c (.int .i64 v4)))], [], [(256000000, .gone), (64000000, (.box [(.sl 64000007), (.sl 64000008), (.sl 64000009), (.int .i64 v5), (.int .i64 v6)])), (64000001, (.box [(.sl 64000010), (.sl 64000011), (.sl 64000012), (.int .i64 v7), (.int .i64 v8)])), (64000002, (.box [(.int .i64 v9), (.bool v10), (.sl 64000013)])), (64000003, (.box [(.frz (.pair (.int .i64) (.pair (.int .i64) (.int .i64))) v11), (.int .i64 v12), (.int .i64 v13), (.ptr 64000001 0)])), (64000004, (.box [(.frz (.pair .bool (.pair (.int .i64) (.pair (.int .i64) (.slice (.int .i64))))) v14), (.sl 64000014), (.int .i64 v15)])), (64000005, (.box [(.frz (.pair .bool (.pair (.int .i64) (.pair (.int .i64) (.slice (.int .i64))))) v16), (.sl 64000015), (.int .i64 v17)])), (64000006, (.row (.pair (.int .i64) (.pair (.int .i64) (.pair (.int .i64) (.slice (.int .u8))))) v18)), (64000007, (.row (.pair (.int .i64) (.int .i64)) v19)), (64000008, (.row (.int .i64) v20)), (64000009, (.row (.int .i64) v21)), (64000010, (.row (.pair (.int .i64) (.int .i64)) v22)), (64000011, (.row (.int .i64) v23)), (64000012, (.row (.int .i64) v24)), (64000013, (.row (.pair (.int .i64) (.int .i64)) v25)), (64000014, (.row (.pair (.int .i64) (.slice (.int .u8))) v26)), (64000015, (.row (.pair (.int .i64) (.slice (.int .u8))) v27))]⟩
noncomputable def l3 ( k m1 n : Nat) (v : T3) : Option R := held (loopN cs n b21 (K21 k m1) (s3 v))
noncomputable def D3 (v : T3) : Option R := lim fun L => l3 (L 0) (L 1) (L 2) v
theorem D3_cn (v : T3) : Cn late (D3 v) fun L => l3 (L 0) (L 1) (L 2) v := of_lim
abbrev T4 : Type := Int × Int × Int × Int × Int × Int × Int × Bool × List (Int × Int × Int) × Int × Int × List (Bool × Int × Int × List Int) × Int × List (Bool × Int × Int × List Int) × Int × List (Int × Int) × List Int × List Int × List (Int × Int) × List Int × List Int × List (Int × Int) × List (Int × List Int) × List (Int × List Int)
def s4 : T4 → St := fun (v0, v1, v2, v3, v4, v5, v6, v7, v8, v9, v10, v11, v12, v13, v14, v15, v16, v17, v18, v19, v20, v21, v22, v23) => ⟨116, 0, [(8, (.c (.ptr 64000000 0))), (11, (.c (.ptr 64000001 0))), (12, (.c (.ptr 64000002 0))), (13, (.c (.ptr 64000003 0))), (14, (.c (.ptr 64000004 0))), (15, (.c (.ptr 64000005 0))), (55, (.c (.int .i64 v0))), (56, (.c (.int .i64 v1)))], [], [(256000000, .gone), (64000000, (.box [(.sl 64000006), (.sl 64000007), (.sl 64000008), (.int .i64 v2), (.int .i64 v3)])), (64000001, (.box [(.sl 64000009), (.sl 64000010), (.sl 64000011), (.int .i64 v4), (.int .i64 v5)])), (64000002, (.box [(.int .i64 v6), (.bool v7), (.sl 64000012)])), (64000003, (.box [(.frz (.pair (.int .i64) (.pair (.int .i64) (.int .i64))) v8), (.int .i64 v9), (.int .i64 v10), (.ptr 64000001 0)])), (64000004, (.box [(.frz (.pair .bool (.pair (.int .i64) (.pair (.int .i64) (.slice (.int .i64))))) v11), (.sl 64000013), (.int .i64 v12)])), (64000005, (.box [(.frz (.pair .bool (.pair (.int .i64) (.pair (.int .i64) (.slice (.int .i64))))) v13), (.sl 64000014), (.int .i64 v14)])), (64000006, (.row (.pair (.int .i64) (.int .i64)) v15)), (64000007, (.row (.int .i64) v16)), (64000008, (.row (.int .i64) v17)), (64000009, (.row (.pair (.int .i64) (.int .i64)) v18)), (64000010, (.row (.int .i64) v19)), (64000011, (.row (.int .i64) v20)), (64000012, (.row (.pair (.int .i64) (.int .i64)) v21)), (64000013, (.row (.pair (.int .i64) (.slice (.int .u8))) v22)), (64000014, (.row (.pair (.int .i64) (.slice (.int .u8))) v23))]⟩
noncomputable def l4 ( k m1 : Nat) (v : T4) : Option R := held (run (cs m1) (loopN cs m1) c1000028 (J1000028 k m1) (s4 v))
noncomputable def D4 (v : T4) : Option R := lim fun L => l4 (L 0) (L 1) v
theorem D4_cn (v : T4) : Cn late (D4 v) fun L => l4 (L 0) (L 1) v := of_lim
def d0 (link_line_take_m1 : link_line_take.A → Option link_line_take.R) (L1m1 : T1 → Option R) : T0 → Option R := fun (v0, v1, v2, v3, v4, v5, v6, v7, v8, v9, v10, v11, v12, v13, v14, v15, v16, v17, v18, v19, v20, v21, v22, v23) =>
br (decide (v1 < v0))
  (bnd (link_line_take_m1 (v1, v11, v12, v22)) fun r =>
    L1m1 (v1, v0, v1, (↑r.snd.snd.snd.fst.length : Int), 0, v2, v3, v4, v5, v6, v7, v8, v9, v10, r.fst, r.snd.fst, v13, v14, r.snd.snd.snd.fst, v15, v16, v17, v18, v19, v20, v21, r.snd.snd.snd.snd, v23))
  (some (v12, v14, 0, v21, v19, v20))
theorem d0_cn {ι : Type} {E : Fil ι} {link_line_take_m1 : link_line_take.A → Option link_line_take.R} {link_line_take_m1' : ι → link_line_take.A → Option link_line_take.R} (hlink_line_take_m1 : ∀ v, Cn E (link_line_take_m1 v) fun i => link_line_take_m1' i v) {L1m1 : T1 → Option R} {L1m1' : ι → T1 → Option R} (hL1m1 : ∀ v, Cn E (L1m1 v) fun i => L1m1' i v) : ∀ v : T0, Cn E (d0 link_line_take_m1 L1m1 v) fun i => d0 (link_line_take_m1' i) (L1m1' i) v := fun (v0, v1, v2, v3, v4, v5, v6, v7, v8, v9, v10, v11, v12, v13, v14, v15, v16, v17, v18, v19, v20, v21, v22, v23) => (.br (.bnd (hlink_line_take_m1 _) fun _ => (hL1m1 _)) .some)
theorem l0_b ( k m1 : Nat) : ∀ v : T0, run (cs m1) (loopN cs m1) b11 (kLoop cs m1 b11 (K11 k)) (s0 v) = d0 (link_line_take.f m1) (l1 k m1 m1) v := fun (v0, v1, v2, v3, v4, v5, v6, v7, v8, v9, v10, v11, v12, v13, v14, v15, v16, v17, v18, v19, v20, v21, v22, v23) => by kernel_rfl
theorem D0_of (v : T0) {r : R} (h : d0 link_line_take.F D1 v = some r) : D0 v = some r :=
  loop_of 1 (l := fun L => l0 (L 0) (L 1) v) (d := fun L => d0 (link_line_take.f (L 1)) (l1 (L 0) (L 1) (L 1)) v) (fun L n hn => by show l0 (L 0) (L 1) v = _; rw [hn]; exact (held_eq _).trans ((loopN_succ _ _ _ _ _).trans (l0_b (L 0) n v))) (d0_cn (link_line_take.F_cn 1) (fun v => (D1_cn v).re [0, 1, 1]) v) h
def d1 (link_device_hear_m2 : link_device_hear.A → Option link_device_hear.R) (link_line_send_m2 : link_line_send.A → Option link_line_send.R) (L2m2 : T2 → Option R) (link_line_take_m1 : link_line_take.A → Option link_line_take.R) (L3m1 : T3 → Option R) : T1 → Option R := fun (v0, v1, v2, v3, v4, v5, v6, v7, v8, v9, v10, v11, v12, v13, v14, v15, v16, v17, v18, v19, v20, v21, v22, v23, v24, v25, v26, v27) =>
br (decide (v4 < v3))
  (br (decide (0 ≤ v4 ∧ v4 < (↑v18.length : Int)))
    (bnd
      (link_device_hear_m2
        ((rd ((Ty.int IntKind.i64).pair ((Ty.int IntKind.i64).pair ((Ty.int IntKind.i64).pair (Ty.int IntKind.u8).slice))) v18 v4).fst,
          (rd ((Ty.int IntKind.i64).pair ((Ty.int IntKind.i64).pair ((Ty.int IntKind.i64).pair (Ty.int IntKind.u8).slice))) v18 v4).snd.fst,
          (rd ((Ty.int IntKind.i64).pair ((Ty.int IntKind.i64).pair ((Ty.int IntKind.i64).pair (Ty.int IntKind.u8).slice))) v18 v4).snd.snd.fst,
          (rd ((Ty.int IntKind.i64).pair ((Ty.int IntKind.i64).pair ((Ty.int IntKind.i64).pair (Ty.int IntKind.u8).slice))) v18 v4).snd.snd.snd, v0, v9, v10, v25))
      fun r =>
      br r.snd.snd.snd.fst
        (bnd (link_line_send_m2 (r.fst, r.snd.fst, r.snd.snd.fst, r.snd.snd.snd.snd.snd.snd.fst, v0, v16, v17, v27)) fun r_1 =>
          L2m2
            (v0, v1, v2, v3, v4, v5, v6, v7, v8, r.snd.snd.snd.snd.fst, r.snd.snd.snd.snd.snd.fst, v11, v12, v13, v14, v15, r_1.fst, r_1.snd.fst, v18, v19, v20, v21, v22, v23, v24, r.snd.snd.snd.snd.snd.snd.snd, v26,
              r_1.snd.snd))
        (L2m2 (v0, v1, v2, v3, v4, v5, v6, v7, v8, r.snd.snd.snd.snd.fst, r.snd.snd.snd.snd.snd.fst, v11, v12, v13, v14, v15, v16, v17, v18, v19, v20, v21, v22, v23, v24, r.snd.snd.snd.snd.snd.snd.snd, v26, v27)))
    none)
  (bnd (link_line_take_m1 (v0, v16, v17, v27)) fun r =>
    L3m1 (v0, v1, v2, (↑r.snd.snd.snd.fst.length : Int), 0, v5, v6, v7, v8, v9, v10, v11, v12, v13, v14, v15, r.fst, r.snd.fst, r.snd.snd.snd.fst, v19, v20, v21, v22, v23, v24, v25, v26, r.snd.snd.snd.snd))
theorem d1_cn {ι : Type} {E : Fil ι} {link_device_hear_m2 : link_device_hear.A → Option link_device_hear.R} {link_device_hear_m2' : ι → link_device_hear.A → Option link_device_hear.R} (hlink_device_hear_m2 : ∀ v, Cn E (link_device_hear_m2 v) fun i => link_device_hear_m2' i v) {link_line_send_m2 : link_line_send.A → Option link_line_send.R} {link_line_send_m2' : ι → link_line_send.A → Option link_line_send.R} (hlink_line_send_m2 : ∀ v, Cn E (link_line_send_m2 v) fun i => link_line_send_m2' i v) {L2m2 : T2 → Option R} {L2m2' : ι → T2 → Option R} (hL2m2 : ∀ v, Cn E (L2m2 v) fun i => L2m2' i v) {link_line_take_m1 : link_line_take.A → Option link_line_take.R} {link_line_take_m1' : ι → link_line_take.A → Option link_line_take.R} (hlink_line_take_m1 : ∀ v, Cn E (link_line_take_m1 v) fun i => link_line_take_m1' i v) {L3m1 : T3 → Option R} {L3m1' : ι → T3 → Option R} (hL3m1 : ∀ v, Cn E (L3m1 v) fun i => L3m1' i v) : ∀ v : T1, Cn E (d1 link_device_hear_m2 link_line_send_m2 L2m2 link_line_take_m1 L3m1 v) fun i => d1 (link_device_hear_m2' i) (link_line_send_m2' i) (L2m2' i) (link_line_take_m1' i) (L3m1' i) v := fun (v0, v1, v2, v3, v4, v5, v6, v7, v8, v9, v10, v11, v12, v13, v14, v15, v16, v17, v18, v19, v20, v21, v22, v23, v24, v25, v26, v27) => (.br (.br (.bnd (hlink_device_hear_m2 _) fun _ => (.br (.bnd (hlink_line_send_m2 _) fun _ => (hL2m2 _)) (hL2m2 _))) .none) (.bnd (hlink_line_take_m1 _) fun _ => (hL3m1 _)))
theorem l1_b ( k m1 m2 : Nat) : ∀ v : T1, run (cs m2) (loopN cs m2) b14 (kLoop cs m2 b14 (K14 k m1)) (s1 v) = d1 (link_device_hear.f m2) (link_line_send.f m2) (l2 k m1 m2) (link_line_take.f m1) (l3 k m1 m1) v := fun (v0, v1, v2, v3, v4, v5, v6, v7, v8, v9, v10, v11, v12, v13, v14, v15, v16, v17, v18, v19, v20, v21, v22, v23, v24, v25, v26, v27) => by kernel_rfl
theorem D1_of (v : T1) {r : R} (h : d1 link_device_hear.F link_line_send.F D2 link_line_take.F D3 v = some r) : D1 v = some r :=
  loop_of 2 (l := fun L => l1 (L 0) (L 1) (L 2) v) (d := fun L => d1 (link_device_hear.f (L 2)) (link_line_send.f (L 2)) (l2 (L 0) (L 1) (L 2)) (link_line_take.f (L 1)) (l3 (L 0) (L 1) (L 1)) v) (fun L n hn => by show l1 (L 0) (L 1) (L 2) v = _; rw [hn]; exact (held_eq _).trans ((loopN_succ _ _ _ _ _).trans (l1_b (L 0) (L 1) n v))) (d1_cn (link_device_hear.F_cn 2) (link_line_send.F_cn 2) (fun v => (D2_cn v).re [0, 1, 2]) (link_line_take.F_cn 1) (fun v => (D3_cn v).re [0, 1, 1]) v) h
def d2 (L1m2 : T1 → Option R) : T2 → Option R := fun (v0, v1, v2, v3, v4, v5, v6, v7, v8, v9, v10, v11, v12, v13, v14, v15, v16, v17, v18, v19, v20, v21, v22, v23, v24, v25, v26, v27) =>
L1m2 (v0, v1, v2, v3, wrap IntKind.i64 (v4 + 1), v5, v6, v7, v8, v9, v10, v11, v12, v13, v14, v15, v16, v17, v18, v19, v20, v21, v22, v23, v24, v25, v26, v27)
theorem d2_cn {ι : Type} {E : Fil ι} {L1m2 : T1 → Option R} {L1m2' : ι → T1 → Option R} (hL1m2 : ∀ v, Cn E (L1m2 v) fun i => L1m2' i v) : ∀ v : T2, Cn E (d2 L1m2 v) fun i => d2 (L1m2' i) v := fun (v0, v1, v2, v3, v4, v5, v6, v7, v8, v9, v10, v11, v12, v13, v14, v15, v16, v17, v18, v19, v20, v21, v22, v23, v24, v25, v26, v27) => (hL1m2 _)
theorem l2_b ( k m1 m2 : Nat) : ∀ v : T2, run (cs m2) (loopN cs m2) c1000019 (J1000019 k m1 m2) (s2 v) = d2 (l1 k m1 m2) v := fun (v0, v1, v2, v3, v4, v5, v6, v7, v8, v9, v10, v11, v12, v13, v14, v15, v16, v17, v18, v19, v20, v21, v22, v23, v24, v25, v26, v27) => by kernel_rfl
theorem D2_of (v : T2) {r : R} (h : d2 D1 v = some r) : D2 v = some r :=
  join_of (l := fun L => l2 (L 0) (L 1) (L 2) v) (d := fun L => d2 (l1 (L 0) (L 1) (L 2)) v) (fun L => (held_eq _).trans (l2_b (L 0) (L 1) (L 2) v)) (d2_cn (fun v => (D1_cn v).re [0, 1, 2]) v) h
def d3 (link_controller_hear_m2 : link_controller_hear.A → Option link_controller_hear.R) (L3m2 : T3 → Option R) (link_controller_act_m1 : link_controller_act.A → Option link_controller_act.R) (link_line_send_m1 : link_line_send.A → Option link_line_send.R) (L4m1 : T4 → Option R) : T3 → Option R := fun (v0, v1, v2, v3, v4, v5, v6, v7, v8, v9, v10, v11, v12, v13, v14, v15, v16, v17, v18, v19, v20, v21, v22, v23, v24, v25, v26, v27) =>
br (decide (v4 < v3))
  (br (decide (0 ≤ v4 ∧ v4 < (↑v18.length : Int)))
    (bnd
      (link_controller_hear_m2
        ((rd ((Ty.int IntKind.i64).pair ((Ty.int IntKind.i64).pair ((Ty.int IntKind.i64).pair (Ty.int IntKind.u8).slice))) v18 v4).fst,
          (rd ((Ty.int IntKind.i64).pair ((Ty.int IntKind.i64).pair ((Ty.int IntKind.i64).pair (Ty.int IntKind.u8).slice))) v18 v4).snd.fst,
          (rd ((Ty.int IntKind.i64).pair ((Ty.int IntKind.i64).pair ((Ty.int IntKind.i64).pair (Ty.int IntKind.u8).slice))) v18 v4).snd.snd.fst,
          (rd ((Ty.int IntKind.i64).pair ((Ty.int IntKind.i64).pair ((Ty.int IntKind.i64).pair (Ty.int IntKind.u8).slice))) v18 v4).snd.snd.snd, v0, v11, v12, v13, v7, v8, v22, v23, v24))
      fun r =>
      L3m2
        (v0, v1, v2, v3, wrap IntKind.i64 (v4 + 1), v5, v6, r.snd.snd.snd.fst, r.snd.snd.snd.snd.fst, v9, v10, r.fst, r.snd.fst, r.snd.snd.fst, v14, v15, v16, v17, v18, v19, v20, v21, r.snd.snd.snd.snd.snd.fst,
          r.snd.snd.snd.snd.snd.snd.fst, r.snd.snd.snd.snd.snd.snd.snd, v25, v26, v27))
    none)
  (bnd (link_controller_act_m1 (v0, v11, v12, v13, v7, v8, v22, v23, v24)) fun r =>
    br r.snd.snd.snd.fst
      (bnd (link_line_send_m1 (r.fst, r.snd.fst, r.snd.snd.fst, r.snd.snd.snd.snd.snd.snd.snd.snd.snd.snd.snd.snd, v0, v14, v15, v26)) fun r_1 =>
        L4m1
          (v1, v2, v5, v6, r.snd.snd.snd.snd.snd.snd.snd.fst, r.snd.snd.snd.snd.snd.snd.snd.snd.fst, v9, v10, r.snd.snd.snd.snd.fst, r.snd.snd.snd.snd.snd.fst, r.snd.snd.snd.snd.snd.snd.fst, r_1.fst, r_1.snd.fst, v16,
            v17, v19, v20, v21, r.snd.snd.snd.snd.snd.snd.snd.snd.snd.fst, r.snd.snd.snd.snd.snd.snd.snd.snd.snd.snd.fst, r.snd.snd.snd.snd.snd.snd.snd.snd.snd.snd.snd.fst, v25, r_1.snd.snd, v27))
      (L4m1
        (v1, v2, v5, v6, r.snd.snd.snd.snd.snd.snd.snd.fst, r.snd.snd.snd.snd.snd.snd.snd.snd.fst, v9, v10, r.snd.snd.snd.snd.fst, r.snd.snd.snd.snd.snd.fst, r.snd.snd.snd.snd.snd.snd.fst, v14, v15, v16, v17, v19, v20,
          v21, r.snd.snd.snd.snd.snd.snd.snd.snd.snd.fst, r.snd.snd.snd.snd.snd.snd.snd.snd.snd.snd.fst, r.snd.snd.snd.snd.snd.snd.snd.snd.snd.snd.snd.fst, v25, v26, v27)))
theorem d3_cn {ι : Type} {E : Fil ι} {link_controller_hear_m2 : link_controller_hear.A → Option link_controller_hear.R} {link_controller_hear_m2' : ι → link_controller_hear.A → Option link_controller_hear.R} (hlink_controller_hear_m2 : ∀ v, Cn E (link_controller_hear_m2 v) fun i => link_controller_hear_m2' i v) {L3m2 : T3 → Option R} {L3m2' : ι → T3 → Option R} (hL3m2 : ∀ v, Cn E (L3m2 v) fun i => L3m2' i v) {link_controller_act_m1 : link_controller_act.A → Option link_controller_act.R} {link_controller_act_m1' : ι → link_controller_act.A → Option link_controller_act.R} (hlink_controller_act_m1 : ∀ v, Cn E (link_controller_act_m1 v) fun i => link_controller_act_m1' i v) {link_line_send_m1 : link_line_send.A → Option link_line_send.R} {link_line_send_m1' : ι → link_line_send.A → Option link_line_send.R} (hlink_line_send_m1 : ∀ v, Cn E (link_line_send_m1 v) fun i => link_line_send_m1' i v) {L4m1 : T4 → Option R} {L4m1' : ι → T4 → Option R} (hL4m1 : ∀ v, Cn E (L4m1 v) fun i => L4m1' i v) : ∀ v : T3, Cn E (d3 link_controller_hear_m2 L3m2 link_controller_act_m1 link_line_send_m1 L4m1 v) fun i => d3 (link_controller_hear_m2' i) (L3m2' i) (link_controller_act_m1' i) (link_line_send_m1' i) (L4m1' i) v := fun (v0, v1, v2, v3, v4, v5, v6, v7, v8, v9, v10, v11, v12, v13, v14, v15, v16, v17, v18, v19, v20, v21, v22, v23, v24, v25, v26, v27) => (.br (.br (.bnd (hlink_controller_hear_m2 _) fun _ => (hL3m2 _)) .none) (.bnd (hlink_controller_act_m1 _) fun _ => (.br (.bnd (hlink_line_send_m1 _) fun _ => (hL4m1 _)) (hL4m1 _))))
theorem l3_b ( k m1 m2 : Nat) : ∀ v : T3, run (cs m2) (loopN cs m2) b21 (kLoop cs m2 b21 (K21 k m1)) (s3 v) = d3 (link_controller_hear.f m2) (l3 k m1 m2) (link_controller_act.f m1) (link_line_send.f m1) (l4 k m1) v := fun (v0, v1, v2, v3, v4, v5, v6, v7, v8, v9, v10, v11, v12, v13, v14, v15, v16, v17, v18, v19, v20, v21, v22, v23, v24, v25, v26, v27) => by kernel_rfl
theorem D3_of (v : T3) {r : R} (h : d3 link_controller_hear.F D3 link_controller_act.F link_line_send.F D4 v = some r) : D3 v = some r :=
  loop_of 2 (l := fun L => l3 (L 0) (L 1) (L 2) v) (d := fun L => d3 (link_controller_hear.f (L 2)) (l3 (L 0) (L 1) (L 2)) (link_controller_act.f (L 1)) (link_line_send.f (L 1)) (l4 (L 0) (L 1)) v) (fun L n hn => by show l3 (L 0) (L 1) (L 2) v = _; rw [hn]; exact (held_eq _).trans ((loopN_succ _ _ _ _ _).trans (l3_b (L 0) (L 1) n v))) (d3_cn (link_controller_hear.F_cn 2) (fun v => (D3_cn v).re [0, 1, 2]) (link_controller_act.F_cn 1) (link_line_send.F_cn 1) (fun v => (D4_cn v).re [0, 1]) v) h
def d4 (L0m1 : T0 → Option R) : T4 → Option R := fun (v0, v1, v2, v3, v4, v5, v6, v7, v8, v9, v10, v11, v12, v13, v14, v15, v16, v17, v18, v19, v20, v21, v22, v23) =>
L0m1 (v0, wrap IntKind.i64 (v1 + 1), v2, v3, v4, v5, v6, v7, v8, v9, v10, v11, v12, v13, v14, v15, v16, v17, v18, v19, v20, v21, v22, v23)
theorem d4_cn {ι : Type} {E : Fil ι} {L0m1 : T0 → Option R} {L0m1' : ι → T0 → Option R} (hL0m1 : ∀ v, Cn E (L0m1 v) fun i => L0m1' i v) : ∀ v : T4, Cn E (d4 L0m1 v) fun i => d4 (L0m1' i) v := fun (v0, v1, v2, v3, v4, v5, v6, v7, v8, v9, v10, v11, v12, v13, v14, v15, v16, v17, v18, v19, v20, v21, v22, v23) => (hL0m1 _)
theorem l4_b ( k m1 : Nat) : ∀ v : T4, run (cs m1) (loopN cs m1) c1000028 (J1000028 k m1) (s4 v) = d4 (l0 k m1) v := fun (v0, v1, v2, v3, v4, v5, v6, v7, v8, v9, v10, v11, v12, v13, v14, v15, v16, v17, v18, v19, v20, v21, v22, v23) => by kernel_rfl
theorem D4_of (v : T4) {r : R} (h : d4 D0 v = some r) : D4 v = some r :=
  join_of (l := fun L => l4 (L 0) (L 1) v) (d := fun L => d4 (l0 (L 0) (L 1)) v) (fun L => (held_eq _).trans (l4_b (L 0) (L 1) v)) (d4_cn (fun v => (D0_cn v).re [0, 1]) v) h
noncomputable def f (k : Nat) : A → Option R := fun (v0, v1, v2, v3) => held (runFn cs k Try.f25 [(.c (.frz (.pair (.int .i64) (.pair (.int .i64) (.int .i64))) v0)), (.c (.frz (.pair .bool (.pair (.int .i64) (.pair (.int .i64) (.slice (.int .i64))))) v1)), (.c (.frz (.pair .bool (.pair (.int .i64) (.pair (.int .i64) (.slice (.int .i64))))) v2)), (.c (.int .i64 v3))] [] dec)
noncomputable def F (v : A) : Option R := lim fun L => f (L 0) v
theorem F_cn (x : Nat) (v : A) : Cn late (F v) fun L => f (L x) v := of_lim.re [x]
def d (link_Check_k : link_Check.A → Option link_Check.R) (L0k : T0 → Option R) : A → Option R := fun (v0, v1, v2, v3) =>
bnd (link_Check_k (v0, v1, v2)) fun r =>
  br (!decide (r = 0)) (some (0, 0, r, [], [], []))
    (br (decide (v3 < 0) || decide (2000 < v3)) (some (0, 0, 4, [], [], []))
      (br (decide (0 ≤ (↑v0.length : Int) ∧ (↑v0.length : Int) ≤ (↑v0.length : Int) ∧ (↑v0.length : Int) ≤ (↑(140737488355328 / 8) : Int)))
        (br (decide (0 ≤ (↑v0.length : Int) ∧ (↑v0.length : Int) ≤ (↑v0.length : Int) ∧ (↑v0.length : Int) ≤ (↑(140737488355328 / 8) : Int)))
          (L0k
            (v3, 0, 0, 0, 0, 0, 0, false, v0, 0, 0, v1, 0, v2, 0, [], [], [], [], List.replicate (↑v0.length : Int).toNat (Ty.int IntKind.i64).dflt, List.replicate (↑v0.length : Int).toNat (Ty.int IntKind.i64).dflt, [],
              [], []))
          none)
        none))
theorem d_cn {ι : Type} {E : Fil ι} {link_Check_k : link_Check.A → Option link_Check.R} {link_Check_k' : ι → link_Check.A → Option link_Check.R} (hlink_Check_k : ∀ v, Cn E (link_Check_k v) fun i => link_Check_k' i v) {L0k : T0 → Option R} {L0k' : ι → T0 → Option R} (hL0k : ∀ v, Cn E (L0k v) fun i => L0k' i v) : ∀ v : A, Cn E (d link_Check_k L0k v) fun i => d (link_Check_k' i) (L0k' i) v := fun (v0, v1, v2, v3) => (.bnd (hlink_Check_k _) fun _ => (.br .some (.br .some (.br (.br (hL0k _) .none) .none))))
theorem f_b (k : Nat) : ∀ v : A, f k v = d (link_Check.f k) (l0 k k) v := fun (v0, v1, v2, v3) => (held_eq _).trans (by kernel_rfl)
theorem F_of (v : A) {r : R} (h : d link_Check.F D0 v = some r) : F v = some r :=
  join_of (l := fun L => f (L 0) v) (d := fun L => d (link_Check.f (L 0)) (l0 (L 0) (L 0)) v) (fun L => f_b (L 0) v) (d_cn (link_Check.F_cn 0) (fun v => (D0_cn v).re [0, 0]) v) h
noncomputable def spec (k : Nat) (args : List AV) (ss : List Slot) : Option Ans :=
  match args, ss with
  | [(.c (.frz (.pair (.int .i64) (.pair (.int .i64) (.int .i64))) v0)), (.c (.frz (.pair .bool (.pair (.int .i64) (.pair (.int .i64) (.slice (.int .i64))))) v1)), (.c (.frz (.pair .bool (.pair (.int .i64) (.pair (.int .i64) (.slice (.int .i64))))) v2)), (.c (.int .i64 v3))], [] => some ⟨R, f k (v0, v1, v2, v3), enc⟩
  | _, _ => none
theorem spec_ok (k : Nat) : SpecOk Try.prog 25 (spec k) := by
  intro args ss ans x h hx X σ w vals hp
  unfold spec at h
  split at h
  · cases h
    exact spec_of cs_ok Try.func25 rfl rfl dec_ok (held_eq _).symm hx hp
  · cases h
end link_Run
noncomputable def t_link_Run (k : Nat) := tcons 25 (link_Run.spec k) (t_link_controller_act k)
theorem t_link_Run_ok (n g : Nat) : SpecOk Try.prog g (t_link_Run n g) := tcons_ok (link_Run.spec_ok n) (fun g => t_link_controller_act_ok n g) g
namespace slices_Equal_int
abbrev R : Type := Bool
abbrev A : Type := List Int × List Int
def lv : List (Nat × List Nat) := [(2000000, [4]), (4, [0, 1, 12, 13])]
noncomputable def cs : Nat → Ctx := ctxOf tis modes t_link_Run lv
theorem cs_ok (n : Nat) : CtxOk Try.prog (cs n) := ctxOf_ok rfl tis_ok t_link_Run_ok n
def enc (r : R) : Out := ((.c (.bool r)), [])
def dec : Out → Option R
  | ((.c (.bool v0)), []) => some v0
  | _ => none
theorem dec_ok : ∀ u y, dec u = some y → u = enc y := by
  intro u y h
  unfold dec at h
  split at h
  · cases h; rfl
  · cases h
noncomputable def b0 : Code := subF [] Try.f34
noncomputable def K0 (k : Nat) : Kt R := kTop (cs k) Try.f34 dec
noncomputable def b4 : Code := sub [1, 1, 0, 1, 0, 0] b0
noncomputable def K4 ( k : Nat) : Kt R := kAt (cs k) (loopN cs k) [1, 1, 0, 1, 0] b0 (K0 k)
abbrev T0 : Type := List Int × List Int × Int × Int
def s0 : T0 → St := fun (v0, v1, v2, v3) => ⟨26, 0, [(0, (.c (.frz (.int .i64) v0))), (1, (.c (.frz (.int .i64) v1))), (12, (.c (.int .i64 v2))), (13, (.c (.int .i64 v3)))], [], [(256000000, .gone)]⟩
noncomputable def l0 ( k n : Nat) (v : T0) : Option R := held (loopN cs n b4 (K4 k) (s0 v))
noncomputable def D0 (v : T0) : Option R := lim fun L => l0 (L 0) (L 1) v
theorem D0_cn (v : T0) : Cn late (D0 v) fun L => l0 (L 0) (L 1) v := of_lim
def d0 (L0m1 : T0 → Option R) : T0 → Option R := fun (v0, v1, v2, v3) =>
br (decide (v3 < v2))
  (br (decide (0 ≤ v3 ∧ v3 < (↑v0.length : Int)))
    (br (decide (0 ≤ v3 ∧ v3 < (↑v1.length : Int))) (br (!decide (rd (Ty.int IntKind.i64) v0 v3 = rd (Ty.int IntKind.i64) v1 v3)) (some false) (L0m1 (v0, v1, v2, wrap IntKind.i64 (v3 + 1)))) none) none)
  (some true)
theorem d0_cn {ι : Type} {E : Fil ι} {L0m1 : T0 → Option R} {L0m1' : ι → T0 → Option R} (hL0m1 : ∀ v, Cn E (L0m1 v) fun i => L0m1' i v) : ∀ v : T0, Cn E (d0 L0m1 v) fun i => d0 (L0m1' i) v := fun (v0, v1, v2, v3) => (.br (.br (.br (.br .some (hL0m1 _)) .none) .none) .some)
theorem l0_b ( k m1 : Nat) : ∀ v : T0, run (cs m1) (loopN cs m1) b4 (kLoop cs m1 b4 (K4 k)) (s0 v) = d0 (l0 k m1) v := fun (v0, v1, v2, v3) => by kernel_rfl
theorem D0_of (v : T0) {r : R} (h : d0 D0 v = some r) : D0 v = some r :=
  loop_of 1 (l := fun L => l0 (L 0) (L 1) v) (d := fun L => d0 (l0 (L 0) (L 1)) v) (fun L n hn => by show l0 (L 0) (L 1) v = _; rw [hn]; exact (held_eq _).trans ((loopN_succ _ _ _ _ _).trans (l0_b (L 0) n v))) (d0_cn (fun v => (D0_cn v).re [0, 1]) v) h
noncomputable def f (k : Nat) : A → Option R := fun (v0, v1) => held (runFn cs k Try.f34 [(.c (.frz (.int .i64) v0)), (.c (.frz (.int .i64) v1))] [] dec)
noncomputable def F (v : A) : Option R := lim fun L => f (L 0) v
theorem F_cn (x : Nat) (v : A) : Cn late (F v) fun L => f (L x) v := of_lim.re [x]
def d (L0k : T0 → Option R) : A → Option R := fun (v0, v1) =>
br (!decide ((↑v0.length : Int) = (↑v1.length : Int))) (some false) (L0k (v0, v1, (↑v0.length : Int), 0))
theorem d_cn {ι : Type} {E : Fil ι} {L0k : T0 → Option R} {L0k' : ι → T0 → Option R} (hL0k : ∀ v, Cn E (L0k v) fun i => L0k' i v) : ∀ v : A, Cn E (d L0k v) fun i => d (L0k' i) v := fun (v0, v1) => (.br .some (hL0k _))
theorem f_b (k : Nat) : ∀ v : A, f k v = d (l0 k k) v := fun (v0, v1) => (held_eq _).trans (by kernel_rfl)
theorem F_of (v : A) {r : R} (h : d D0 v = some r) : F v = some r :=
  join_of (l := fun L => f (L 0) v) (d := fun L => d (l0 (L 0) (L 0)) v) (fun L => f_b (L 0) v) (d_cn (fun v => (D0_cn v).re [0, 0]) v) h
noncomputable def spec (k : Nat) (args : List AV) (ss : List Slot) : Option Ans :=
  match args, ss with
  | [(.c (.frz (.int .i64) v0)), (.c (.frz (.int .i64) v1))], [] => some ⟨R, f k (v0, v1), enc⟩
  | _, _ => none
theorem spec_ok (k : Nat) : SpecOk Try.prog 34 (spec k) := by
  intro args ss ans x h hx X σ w vals hp
  unfold spec at h
  split at h
  · cases h
    exact spec_of cs_ok Try.func34 rfl rfl dec_ok (held_eq _).symm hx hp
  · cases h
end slices_Equal_int
noncomputable def t_slices_Equal_int (k : Nat) := tcons 34 (slices_Equal_int.spec k) (t_link_Run k)
theorem t_slices_Equal_int_ok (n g : Nat) : SpecOk Try.prog g (t_slices_Equal_int n g) := tcons_ok (slices_Equal_int.spec_ok n) (fun g => t_link_Run_ok n g) g
namespace spykeep2_sends
abbrev R : Type := Bool
abbrev A : Type := Unit
def lv : List (Nat × List Nat) := [(2000000, [0])]
noncomputable def cs : Nat → Ctx := ctxOf tis modes t_slices_Equal_int lv
theorem cs_ok (n : Nat) : CtxOk Try.prog (cs n) := ctxOf_ok rfl tis_ok t_slices_Equal_int_ok n
def enc (r : R) : Out := ((.c (.bool r)), [])
def dec : Out → Option R
  | ((.c (.bool v0)), []) => some v0
  | _ => none
theorem dec_ok : ∀ u y, dec u = some y → u = enc y := by
  intro u y h
  unfold dec at h
  split at h
  · cases h; rfl
  · cases h
noncomputable def b0 : Code := subF [] Try.f22
noncomputable def K0 (k : Nat) : Kt R := kTop (cs k) Try.f22 dec
noncomputable def f (k : Nat) : A → Option R := fun _ => held (runFn cs k Try.f22 [] [] dec)
noncomputable def F (v : A) : Option R := lim fun L => f (L 0) v
theorem F_cn (x : Nat) (v : A) : Cn late (F v) fun L => f (L x) v := of_lim.re [x]
def d (link_Run_k : link_Run.A → Option link_Run.R) (slices_Equal_int_k : slices_Equal_int.A → Option slices_Equal_int.R) : A → Option R := fun _ =>
bnd (link_Run_k ([(1, 0, 10)], [], [], 3)) fun r =>
  br ((decide (r.snd.snd.fst = 0) && decide ((↑r.snd.snd.snd.fst.length : Int) = 1)) == true) (bnd (slices_Equal_int_k (r.snd.snd.snd.snd.fst, [2])) fun r => some r) (some false)
theorem d_cn {ι : Type} {E : Fil ι} {link_Run_k : link_Run.A → Option link_Run.R} {link_Run_k' : ι → link_Run.A → Option link_Run.R} (hlink_Run_k : ∀ v, Cn E (link_Run_k v) fun i => link_Run_k' i v) {slices_Equal_int_k : slices_Equal_int.A → Option slices_Equal_int.R} {slices_Equal_int_k' : ι → slices_Equal_int.A → Option slices_Equal_int.R} (hslices_Equal_int_k : ∀ v, Cn E (slices_Equal_int_k v) fun i => slices_Equal_int_k' i v) : ∀ v : A, Cn E (d link_Run_k slices_Equal_int_k v) fun i => d (link_Run_k' i) (slices_Equal_int_k' i) v := fun _ => (.bnd (hlink_Run_k _) fun _ => (.br (.bnd (hslices_Equal_int_k _) fun _ => .some) .some))
theorem f_b (k : Nat) : ∀ v : A, f k v = d (link_Run.f k) (slices_Equal_int.f k) v := fun _ => (held_eq _).trans (by kernel_rfl)
theorem F_of (v : A) {r : R} (h : d link_Run.F slices_Equal_int.F v = some r) : F v = some r :=
  join_of (l := fun L => f (L 0) v) (d := fun L => d (link_Run.f (L 0)) (slices_Equal_int.f (L 0)) v) (fun L => f_b (L 0) v) (d_cn (link_Run.F_cn 0) (slices_Equal_int.F_cn 0) v) h
noncomputable def spec (k : Nat) (args : List AV) (ss : List Slot) : Option Ans :=
  match args, ss with
  | [], [] => some ⟨R, f k (), enc⟩
  | _, _ => none
theorem spec_ok (k : Nat) : SpecOk Try.prog 22 (spec k) := by
  intro args ss ans x h hx X σ w vals hp
  unfold spec at h
  split at h
  · cases h
    exact spec_of cs_ok Try.func22 rfl rfl dec_ok (held_eq _).symm hx hp
  · cases h
end spykeep2_sends
noncomputable def t_spykeep2_sends (k : Nat) := tcons 22 (spykeep2_sends.spec k) (t_slices_Equal_int k)
theorem t_spykeep2_sends_ok (n g : Nat) : SpecOk Try.prog g (t_spykeep2_sends n g) := tcons_ok (spykeep2_sends.spec_ok n) (fun g => t_slices_Equal_int_ok n g) g
namespace spymake_Below
abbrev R : Type := Int
abbrev A : Type := Int × Int
def lv : List (Nat × List Nat) := [(2000000, [4]), (1000006, [0])]
noncomputable def cs : Nat → Ctx := ctxOf tis modes t_spykeep2_sends lv
theorem cs_ok (n : Nat) : CtxOk Try.prog (cs n) := ctxOf_ok rfl tis_ok t_spykeep2_sends_ok n
def enc (r : R) : Out := ((.c (.int .i64 r)), [])
def dec : Out → Option R
  | ((.c (.int .i64 v0)), []) => some v0
  | _ => none
theorem dec_ok : ∀ u y, dec u = some y → u = enc y := by
  intro u y h
  unfold dec at h
  split at h
  · cases h; rfl
  · cases h
noncomputable def b0 : Code := subF [] Try.f18
noncomputable def K0 (k : Nat) : Kt R := kTop (cs k) Try.f18 dec
noncomputable def c1000006 : Code := sub [1, 1, 1, 1] b0
noncomputable def J1000006 ( k : Nat) : Kt R := kAt (cs k) (loopN cs k) [1, 1, 1, 1] b0 (K0 k)
abbrev T0 : Type := Int
def s0 : T0 → St := fun v0 => ⟨16, 0, [(0, (.c (.int .i64 v0)))], [], [(256000000, .gone)]⟩
noncomputable def l0 ( k : Nat) (v : T0) : Option R := held (run (cs k) (loopN cs k) c1000006 (J1000006 k) (s0 v))
noncomputable def D0 (v : T0) : Option R := lim fun L => l0 (L 0) v
theorem D0_cn (v : T0) : Cn late (D0 v) fun L => l0 (L 0) v := of_lim
def d0 : T0 → Option R := fun v0 =>
some v0
theorem d0_cn {ι : Type} {E : Fil ι} : ∀ v : T0, Cn E (d0 v) fun i => d0 v := fun v0 => .some
theorem l0_b ( k : Nat) : ∀ v : T0, run (cs k) (loopN cs k) c1000006 (J1000006 k) (s0 v) = d0 v := fun v0 => by kernel_rfl
theorem D0_of (v : T0) {r : R} (h : d0 v = some r) : D0 v = some r :=
  join_of (l := fun L => l0 (L 0) v) (d := fun L => d0 v) (fun L => (held_eq _).trans (l0_b (L 0) v)) (d0_cn v) h
noncomputable def f (k : Nat) : A → Option R := fun (v0, v1) => held (runFn cs k Try.f18 [(.c (.int .i64 v0)), (.c (.int .i64 v1))] [] dec)
noncomputable def F (v : A) : Option R := lim fun L => f (L 0) v
theorem F_cn (x : Nat) (v : A) : Cn late (F v) fun L => f (L x) v := of_lim.re [x]
def d (L0k : T0 → Option R) : A → Option R := fun (v0, v1) =>
br (decide (v1 < 1)) (some 0) (br (!decide (v1 = 0)) (br (decide (v0.tmod v1 < 0)) (L0k (wrap IntKind.i64 (v0.tmod v1 + v1))) (L0k (v0.tmod v1))) none)
theorem d_cn {ι : Type} {E : Fil ι} {L0k : T0 → Option R} {L0k' : ι → T0 → Option R} (hL0k : ∀ v, Cn E (L0k v) fun i => L0k' i v) : ∀ v : A, Cn E (d L0k v) fun i => d (L0k' i) v := fun (v0, v1) => (.br .some (.br (.br (hL0k _) (hL0k _)) .none))
theorem f_b (k : Nat) : ∀ v : A, f k v = d (l0 k) v := fun (v0, v1) => (held_eq _).trans (by kernel_rfl)
theorem F_of (v : A) {r : R} (h : d D0 v = some r) : F v = some r :=
  join_of (l := fun L => f (L 0) v) (d := fun L => d (l0 (L 0)) v) (fun L => f_b (L 0) v) (d_cn (fun v => (D0_cn v).re [0]) v) h
noncomputable def spec (k : Nat) (args : List AV) (ss : List Slot) : Option Ans :=
  match args, ss with
  | [(.c (.int .i64 v0)), (.c (.int .i64 v1))], [] => some ⟨R, f k (v0, v1), enc⟩
  | _, _ => none
theorem spec_ok (k : Nat) : SpecOk Try.prog 18 (spec k) := by
  intro args ss ans x h hx X σ w vals hp
  unfold spec at h
  split at h
  · cases h
    exact spec_of cs_ok Try.func18 rfl rfl dec_ok (held_eq _).symm hx hp
  · cases h
end spymake_Below
noncomputable def t_spymake_Below (k : Nat) := tcons 18 (spymake_Below.spec k) (t_spykeep2_sends k)
theorem t_spymake_Below_ok (n g : Nat) : SpecOk Try.prog g (t_spymake_Below n g) := tcons_ok (spymake_Below.spec_ok n) (fun g => t_spykeep2_sends_ok n g) g
namespace spymake_Stream_Next
abbrev R : Type := Int × List Int × Int
abbrev A : Type := Int × List Int × Int
def lv : List (Nat × List Nat) := [(2000000, [4])]
noncomputable def cs : Nat → Ctx := ctxOf tis modes t_spymake_Below lv
theorem cs_ok (n : Nat) : CtxOk Try.prog (cs n) := ctxOf_ok rfl tis_ok t_spymake_Below_ok n
def enc (r : R) : Out := ((.c (.int .i64 r.1)), [(.box [(.frz (.int .i64) r.2.1), (.int .i64 r.2.2)])])
def dec : Out → Option R
  | ((.c (.int .i64 v0)), [(.box [(.frz (.int .i64) v1), (.int .i64 v2)])]) => some (v0, v1, v2)
  | _ => none
theorem dec_ok : ∀ u y, dec u = some y → u = enc y := by
  intro u y h
  unfold dec at h
  split at h
  · cases h; rfl
  · cases h
noncomputable def b0 : Code := subF [] Try.f11
noncomputable def K0 (k : Nat) : Kt R := kTop (cs k) Try.f11 dec
noncomputable def f (k : Nat) : A → Option R := fun (v0, v1, v2) => held (runFn cs k Try.f11 [(.c (.ptr 128000000 0)), (.c (.int .i64 v0))] [(.box [(.frz (.int .i64) v1), (.int .i64 v2)])] dec)
noncomputable def F (v : A) : Option R := lim fun L => f (L 0) v
theorem F_cn (x : Nat) (v : A) : Cn late (F v) fun L => f (L x) v := of_lim.re [x]
def d (spymake_Below_k : spymake_Below.A → Option spymake_Below.R) : A → Option R := fun (v0, v1, v2) =>
br (decide ((↑v1.length : Int) = 0)) (bnd (spymake_Below_k (wrap IntKind.i64 (wrap IntKind.i64 (v2 + 1) * 7919), v0)) fun r => some (r, v1, wrap IntKind.i64 (v2 + 1)))
  (br (!decide ((↑v1.length : Int) = 0))
    (br (!decide ((↑v1.length : Int) = 0))
      (br (decide (0 ≤ (wrap IntKind.i64 (wrap IntKind.i64 (v2 + 1) - 1)).tmod (↑v1.length : Int) ∧ (wrap IntKind.i64 (wrap IntKind.i64 (v2 + 1) - 1)).tmod (↑v1.length : Int) < (↑v1.length : Int)))
        (bnd (spymake_Below_k (rd (Ty.int IntKind.i64) v1 ((wrap IntKind.i64 (wrap IntKind.i64 (v2 + 1) - 1)).tmod (↑v1.length : Int)), 1073741824)) fun r =>
          bnd
            (spymake_Below_k
              (wrap IntKind.i64
                  (r +
                    wrap IntKind.i64
                      (wrap IntKind.i64 ((wrap IntKind.i64 (wrap IntKind.i64 (v2 + 1) - 1)).tdiv (↑v1.length : Int)) *
                        wrap IntKind.i64 (7919 + (wrap IntKind.i64 (wrap IntKind.i64 (v2 + 1) - 1)).tmod (↑v1.length : Int)))),
                v0))
            fun r => some (r, v1, wrap IntKind.i64 (v2 + 1)))
        none)
      none)
    none)
theorem d_cn {ι : Type} {E : Fil ι} {spymake_Below_k : spymake_Below.A → Option spymake_Below.R} {spymake_Below_k' : ι → spymake_Below.A → Option spymake_Below.R} (hspymake_Below_k : ∀ v, Cn E (spymake_Below_k v) fun i => spymake_Below_k' i v) : ∀ v : A, Cn E (d spymake_Below_k v) fun i => d (spymake_Below_k' i) v := fun (v0, v1, v2) => (.br (.bnd (hspymake_Below_k _) fun _ => .some) (.br (.br (.br (.bnd (hspymake_Below_k _) fun _ => (.bnd (hspymake_Below_k _) fun _ => .some)) .none) .none) .none))
theorem f_b (k : Nat) : ∀ v : A, f k v = d (spymake_Below.f k) v := fun (v0, v1, v2) => (held_eq _).trans (by kernel_rfl)
theorem F_of (v : A) {r : R} (h : d spymake_Below.F v = some r) : F v = some r :=
  join_of (l := fun L => f (L 0) v) (d := fun L => d (spymake_Below.f (L 0)) v) (fun L => f_b (L 0) v) (d_cn (spymake_Below.F_cn 0) v) h
noncomputable def spec (k : Nat) (args : List AV) (ss : List Slot) : Option Ans :=
  match args, ss with
  | [(.c (.ptr 128000000 0)), (.c (.int .i64 v0))], [(.box [(.frz (.int .i64) v1), (.int .i64 v2)])] => some ⟨R, f k (v0, v1, v2), enc⟩
  | _, _ => none
theorem spec_ok (k : Nat) : SpecOk Try.prog 11 (spec k) := by
  intro args ss ans x h hx X σ w vals hp
  unfold spec at h
  split at h
  · cases h
    exact spec_of cs_ok Try.func11 rfl rfl dec_ok (held_eq _).symm hx hp
  · cases h
end spymake_Stream_Next
noncomputable def t_spymake_Stream_Next (k : Nat) := tcons 11 (spymake_Stream_Next.spec k) (t_spymake_Below k)
theorem t_spymake_Stream_Next_ok (n g : Nat) : SpecOk Try.prog g (t_spymake_Stream_Next n g) := tcons_ok (spymake_Stream_Next.spec_ok n) (fun g => t_spymake_Below_ok n g) g
namespace spymake_Stream_Range
abbrev R : Type := Int × List Int × Int
abbrev A : Type := Int × Int × List Int × Int
def lv : List (Nat × List Nat) := [(2000000, [6])]
noncomputable def cs : Nat → Ctx := ctxOf tis modes t_spymake_Stream_Next lv
theorem cs_ok (n : Nat) : CtxOk Try.prog (cs n) := ctxOf_ok rfl tis_ok t_spymake_Stream_Next_ok n
def enc (r : R) : Out := ((.c (.int .i64 r.1)), [(.box [(.frz (.int .i64) r.2.1), (.int .i64 r.2.2)])])
def dec : Out → Option R
  | ((.c (.int .i64 v0)), [(.box [(.frz (.int .i64) v1), (.int .i64 v2)])]) => some (v0, v1, v2)
  | _ => none
theorem dec_ok : ∀ u y, dec u = some y → u = enc y := by
  intro u y h
  unfold dec at h
  split at h
  · cases h; rfl
  · cases h
noncomputable def b0 : Code := subF [] Try.f35
noncomputable def K0 (k : Nat) : Kt R := kTop (cs k) Try.f35 dec
noncomputable def f (k : Nat) : A → Option R := fun (v0, v1, v2, v3) => held (runFn cs k Try.f35 [(.c (.ptr 128000000 0)), (.c (.int .i64 v0)), (.c (.int .i64 v1))] [(.box [(.frz (.int .i64) v2), (.int .i64 v3)])] dec)
noncomputable def F (v : A) : Option R := lim fun L => f (L 0) v
theorem F_cn (x : Nat) (v : A) : Cn late (F v) fun L => f (L x) v := of_lim.re [x]
def d (spymake_Stream_Next_k : spymake_Stream_Next.A → Option spymake_Stream_Next.R) : A → Option R := fun (v0, v1, v2, v3) =>
br (decide (v1 < v0)) (some (v0, v2, v3)) (bnd (spymake_Stream_Next_k (wrap IntKind.i64 (wrap IntKind.i64 (v1 - v0) + 1), v2, v3)) fun r => some (wrap IntKind.i64 (v0 + r.fst), r.snd.fst, r.snd.snd))
theorem d_cn {ι : Type} {E : Fil ι} {spymake_Stream_Next_k : spymake_Stream_Next.A → Option spymake_Stream_Next.R} {spymake_Stream_Next_k' : ι → spymake_Stream_Next.A → Option spymake_Stream_Next.R} (hspymake_Stream_Next_k : ∀ v, Cn E (spymake_Stream_Next_k v) fun i => spymake_Stream_Next_k' i v) : ∀ v : A, Cn E (d spymake_Stream_Next_k v) fun i => d (spymake_Stream_Next_k' i) v := fun (v0, v1, v2, v3) => (.br .some (.bnd (hspymake_Stream_Next_k _) fun _ => .some))
theorem f_b (k : Nat) : ∀ v : A, f k v = d (spymake_Stream_Next.f k) v := fun (v0, v1, v2, v3) => (held_eq _).trans (by kernel_rfl)
theorem F_of (v : A) {r : R} (h : d spymake_Stream_Next.F v = some r) : F v = some r :=
  join_of (l := fun L => f (L 0) v) (d := fun L => d (spymake_Stream_Next.f (L 0)) v) (fun L => f_b (L 0) v) (d_cn (spymake_Stream_Next.F_cn 0) v) h
noncomputable def spec (k : Nat) (args : List AV) (ss : List Slot) : Option Ans :=
  match args, ss with
  | [(.c (.ptr 128000000 0)), (.c (.int .i64 v0)), (.c (.int .i64 v1))], [(.box [(.frz (.int .i64) v2), (.int .i64 v3)])] => some ⟨R, f k (v0, v1, v2, v3), enc⟩
  | _, _ => none
theorem spec_ok (k : Nat) : SpecOk Try.prog 35 (spec k) := by
  intro args ss ans x h hx X σ w vals hp
  unfold spec at h
  split at h
  · cases h
    exact spec_of cs_ok Try.func35 rfl rfl dec_ok (held_eq _).symm hx hp
  · cases h
end spymake_Stream_Range
noncomputable def t_spymake_Stream_Range (k : Nat) := tcons 35 (spymake_Stream_Range.spec k) (t_spymake_Stream_Next k)
theorem t_spymake_Stream_Range_ok (n g : Nat) : SpecOk Try.prog g (t_spymake_Stream_Range n g) := tcons_ok (spymake_Stream_Range.spec_ok n) (fun g => t_spymake_Stream_Next_ok n g) g
namespace spykeep2_commands
abbrev R : Type := List Int × Int × List (Int × Int × Int)
abbrev A : Type := List Int × Int
def lv : List (Nat × List Nat) := [(2000000, [2]), (4, [0, 3, 4, 6, 7])]
noncomputable def cs : Nat → Ctx := ctxOf tis modes t_spymake_Stream_Range lv
theorem cs_ok (n : Nat) : CtxOk Try.prog (cs n) := ctxOf_ok rfl tis_ok t_spymake_Stream_Range_ok n
def enc (r : R) : Out := ((.c (.sl 128000001)), [(.box [(.frz (.int .i64) r.1), (.int .i64 r.2.1)]), (.row (.pair (.int .i64) (.pair (.int .i64) (.int .i64))) r.2.2)])
def dec : Out → Option R
  | ((.c (.sl 128000001)), [(.box [(.frz (.int .i64) v0), (.int .i64 v1)]), (.row (.pair (.int .i64) (.pair (.int .i64) (.int .i64))) v2)]) => some (v0, v1, v2)
  | _ => none
theorem dec_ok : ∀ u y, dec u = some y → u = enc y := by
  intro u y h
  unfold dec at h
  split at h
  · cases h; rfl
  · cases h
noncomputable def b0 : Code := subF [] Try.f23
noncomputable def K0 (k : Nat) : Kt R := kTop (cs k) Try.f23 dec
noncomputable def b4 : Code := sub [1, 1, 1, 0, 1, 0, 0] b0
noncomputable def K4 ( k : Nat) : Kt R := kAt (cs k) (loopN cs k) [1, 1, 1, 0, 1, 0] b0 (K0 k)
abbrev T0 : Type := Int × Int × Int × List Int × Int × List (Int × Int × Int)
def s0 : T0 → St := fun (v0, v1, v2, v3, v4, v5) => ⟨24, 1, [(0, (.c (.ptr 128000000 0))), (3, (.c (.sl 64000000))), (4, (.c (.int .i64 v0))), (6, (.c (.int .i64 v1))), (7, (.c (.int .i64 v2)))], [], [(128000000, (.box [(.frz (.int .i64) v3), (.int .i64 v4)])), (256000000, .gone), (64000000, (.row (.pair (.int .i64) (.pair (.int .i64) (.int .i64))) v5))]⟩
noncomputable def l0 ( k n : Nat) (v : T0) : Option R := held (loopN cs n b4 (K4 k) (s0 v))
noncomputable def D0 (v : T0) : Option R := lim fun L => l0 (L 0) (L 1) v
theorem D0_cn (v : T0) : Cn late (D0 v) fun L => l0 (L 0) (L 1) v := of_lim
def d0 (spymake_Stream_Next_m1 : spymake_Stream_Next.A → Option spymake_Stream_Next.R) (L0m1 : T0 → Option R) : T0 → Option R := fun (v0, v1, v2, v3, v4, v5) =>
br (decide (v2 < v1))
  (bnd (spymake_Stream_Next_m1 (30, v3, v4)) fun r =>
    bnd (spymake_Stream_Next_m1 (14, r.snd.fst, r.snd.snd)) fun r_1 =>
      bnd (spymake_Stream_Next_m1 (1048576, r_1.snd.fst, r_1.snd.snd)) fun r_2 =>
        br (decide (v5.length + [(r_1.fst, r_2.fst, wrap IntKind.i64 (v0 + r.fst))].length ≤ 140737488355328 / 24))
          (L0m1 (wrap IntKind.i64 (v0 + r.fst), v1, wrap IntKind.i64 (v2 + 1), r_2.snd.fst, r_2.snd.snd, v5 ++ [(r_1.fst, r_2.fst, wrap IntKind.i64 (v0 + r.fst))])) none)
  (some (v3, v4, v5))
theorem d0_cn {ι : Type} {E : Fil ι} {spymake_Stream_Next_m1 : spymake_Stream_Next.A → Option spymake_Stream_Next.R} {spymake_Stream_Next_m1' : ι → spymake_Stream_Next.A → Option spymake_Stream_Next.R} (hspymake_Stream_Next_m1 : ∀ v, Cn E (spymake_Stream_Next_m1 v) fun i => spymake_Stream_Next_m1' i v) {L0m1 : T0 → Option R} {L0m1' : ι → T0 → Option R} (hL0m1 : ∀ v, Cn E (L0m1 v) fun i => L0m1' i v) : ∀ v : T0, Cn E (d0 spymake_Stream_Next_m1 L0m1 v) fun i => d0 (spymake_Stream_Next_m1' i) (L0m1' i) v := fun (v0, v1, v2, v3, v4, v5) => (.br (.bnd (hspymake_Stream_Next_m1 _) fun _ => (.bnd (hspymake_Stream_Next_m1 _) fun _ => (.bnd (hspymake_Stream_Next_m1 _) fun _ => (.br (hL0m1 _) .none)))) .some)
theorem l0_b ( k m1 : Nat) : ∀ v : T0, run (cs m1) (loopN cs m1) b4 (kLoop cs m1 b4 (K4 k)) (s0 v) = d0 (spymake_Stream_Next.f m1) (l0 k m1) v := fun (v0, v1, v2, v3, v4, v5) => by kernel_rfl
theorem D0_of (v : T0) {r : R} (h : d0 spymake_Stream_Next.F D0 v = some r) : D0 v = some r :=
  loop_of 1 (l := fun L => l0 (L 0) (L 1) v) (d := fun L => d0 (spymake_Stream_Next.f (L 1)) (l0 (L 0) (L 1)) v) (fun L n hn => by show l0 (L 0) (L 1) v = _; rw [hn]; exact (held_eq _).trans ((loopN_succ _ _ _ _ _).trans (l0_b (L 0) n v))) (d0_cn (spymake_Stream_Next.F_cn 1) (fun v => (D0_cn v).re [0, 1]) v) h
noncomputable def f (k : Nat) : A → Option R := fun (v0, v1) => held (runFn cs k Try.f23 [(.c (.ptr 128000000 0))] [(.box [(.frz (.int .i64) v0), (.int .i64 v1)])] dec)
noncomputable def F (v : A) : Option R := lim fun L => f (L 0) v
theorem F_cn (x : Nat) (v : A) : Cn late (F v) fun L => f (L x) v := of_lim.re [x]
def d (spymake_Stream_Range_k : spymake_Stream_Range.A → Option spymake_Stream_Range.R) (L0k : T0 → Option R) : A → Option R := fun (v0, v1) =>
bnd (spymake_Stream_Range_k (1, 6, v0, v1)) fun r => L0k (0, r.fst, 0, r.snd.fst, r.snd.snd, [])
theorem d_cn {ι : Type} {E : Fil ι} {spymake_Stream_Range_k : spymake_Stream_Range.A → Option spymake_Stream_Range.R} {spymake_Stream_Range_k' : ι → spymake_Stream_Range.A → Option spymake_Stream_Range.R} (hspymake_Stream_Range_k : ∀ v, Cn E (spymake_Stream_Range_k v) fun i => spymake_Stream_Range_k' i v) {L0k : T0 → Option R} {L0k' : ι → T0 → Option R} (hL0k : ∀ v, Cn E (L0k v) fun i => L0k' i v) : ∀ v : A, Cn E (d spymake_Stream_Range_k L0k v) fun i => d (spymake_Stream_Range_k' i) (L0k' i) v := fun (v0, v1) => (.bnd (hspymake_Stream_Range_k _) fun _ => (hL0k _))
theorem f_b (k : Nat) : ∀ v : A, f k v = d (spymake_Stream_Range.f k) (l0 k k) v := fun (v0, v1) => (held_eq _).trans (by kernel_rfl)
theorem F_of (v : A) {r : R} (h : d spymake_Stream_Range.F D0 v = some r) : F v = some r :=
  join_of (l := fun L => f (L 0) v) (d := fun L => d (spymake_Stream_Range.f (L 0)) (l0 (L 0) (L 0)) v) (fun L => f_b (L 0) v) (d_cn (spymake_Stream_Range.F_cn 0) (fun v => (D0_cn v).re [0, 0]) v) h
noncomputable def spec (k : Nat) (args : List AV) (ss : List Slot) : Option Ans :=
  match args, ss with
  | [(.c (.ptr 128000000 0))], [(.box [(.frz (.int .i64) v0), (.int .i64 v1)])] => some ⟨R, f k (v0, v1), enc⟩
  | _, _ => none
theorem spec_ok (k : Nat) : SpecOk Try.prog 23 (spec k) := by
  intro args ss ans x h hx X σ w vals hp
  unfold spec at h
  split at h
  · cases h
    exact spec_of cs_ok Try.func23 rfl rfl dec_ok (held_eq _).symm hx hp
  · cases h
end spykeep2_commands
noncomputable def t_spykeep2_commands (k : Nat) := tcons 23 (spykeep2_commands.spec k) (t_spymake_Stream_Range k)
theorem t_spykeep2_commands_ok (n g : Nat) : SpecOk Try.prog g (t_spykeep2_commands n g) := tcons_ok (spykeep2_commands.spec_ok n) (fun g => t_spymake_Stream_Range_ok n g) g
namespace spykeep2_fates
abbrev R : Type := List Int × Int × List (Bool × Int × Int × List Int)
abbrev A : Type := List Int × Int
def lv : List (Nat × List Nat) := [(2000000, [2]), (3, [0, 3, 6, 7]), (1000012, [0, 3, 4, 6, 7]), (1000013, [0, 3, 6, 7])]
noncomputable def cs : Nat → Ctx := ctxOf tis modes t_spykeep2_commands lv
theorem cs_ok (n : Nat) : CtxOk Try.prog (cs n) := ctxOf_ok rfl tis_ok t_spykeep2_commands_ok n
def enc (r : R) : Out := ((.c (.sl 128000001)), [(.box [(.frz (.int .i64) r.1), (.int .i64 r.2.1)]), (.row (.pair .bool (.pair (.int .i64) (.pair (.int .i64) (.slice (.int .i64))))) r.2.2)])
def dec : Out → Option R
  | ((.c (.sl 128000001)), [(.box [(.frz (.int .i64) v0), (.int .i64 v1)]), (.row (.pair .bool (.pair (.int .i64) (.pair (.int .i64) (.slice (.int .i64))))) v2)]) => some (v0, v1, v2)
  | _ => none
theorem dec_ok : ∀ u y, dec u = some y → u = enc y := by
  intro u y h
  unfold dec at h
  split at h
  · cases h; rfl
  · cases h
noncomputable def b0 : Code := subF [] Try.f24
noncomputable def K0 (k : Nat) : Kt R := kTop (cs k) Try.f24 dec
noncomputable def b3 : Code := sub [1, 1, 0, 1, 0, 0] b0
noncomputable def K3 ( k : Nat) : Kt R := kAt (cs k) (loopN cs k) [1, 1, 0, 1, 0] b0 (K0 k)
noncomputable def c1000013 : Code := sub [1, 1, 1] b3
noncomputable def J1000013 ( k m1 : Nat) : Kt R := kAt (cs m1) (loopN cs m1) [1, 1, 1] b3 (kLoop cs m1 b3 (K3 k))
noncomputable def c1000012 : Code := sub [1, 1, 0, 0, 1, 1] b3
noncomputable def J1000012 ( k m1 : Nat) : Kt R := kAt (cs m1) (loopN cs m1) [1, 1, 0, 0, 1, 1] b3 (kLoop cs m1 b3 (K3 k))
abbrev T0 : Type := Int × Int × List Int × Int × List (Bool × Int × Int × List Int)
def s0 : T0 → St := fun (v0, v1, v2, v3, v4) => ⟨37, 1, [(0, (.c (.ptr 128000000 0))), (3, (.c (.sl 64000000))), (6, (.c (.int .i64 v0))), (7, (.c (.int .i64 v1)))], [], [(128000000, (.box [(.frz (.int .i64) v2), (.int .i64 v3)])), (256000000, .gone), (64000000, (.row (.pair .bool (.pair (.int .i64) (.pair (.int .i64) (.slice (.int .i64))))) v4))]⟩
noncomputable def l0 ( k n : Nat) (v : T0) : Option R := held (loopN cs n b3 (K3 k) (s0 v))
noncomputable def D0 (v : T0) : Option R := lim fun L => l0 (L 0) (L 1) v
theorem D0_cn (v : T0) : Cn late (D0 v) fun L => l0 (L 0) (L 1) v := of_lim
abbrev T1 : Type := Int × Int × List Int × Int × List (Bool × Int × Int × List Int) × Bool × Int × Int × List Int
def s1 : T1 → St := fun (v0, v1, v2, v3, v4, v5, v6, v7, v8) => ⟨37, 1, [(0, (.c (.ptr 128000000 0))), (3, (.c (.sl 64000000))), (4, (.c (.ptr 64000001 0))), (6, (.c (.int .i64 v0))), (7, (.c (.int .i64 v1)))], [], [(128000000, (.box [(.frz (.int .i64) v2), (.int .i64 v3)])), (256000000, .gone), (64000000, (.row (.pair .bool (.pair (.int .i64) (.pair (.int .i64) (.slice (.int .i64))))) v4)), (64000001, (.box [(.bool v5), (.int .i64 v6), (.int .i64 v7), (.sl 64000002)])), (64000002, (.row (.int .i64) v8))]⟩
noncomputable def l1 ( k m1 : Nat) (v : T1) : Option R := held (run (cs m1) (loopN cs m1) c1000012 (J1000012 k m1) (s1 v))
noncomputable def D1 (v : T1) : Option R := lim fun L => l1 (L 0) (L 1) v
theorem D1_cn (v : T1) : Cn late (D1 v) fun L => l1 (L 0) (L 1) v := of_lim
abbrev T2 : Type := Int × Int × List Int × Int × List (Bool × Int × Int × List Int)
def s2 : T2 → St := fun (v0, v1, v2, v3, v4) => ⟨37, 1, [(0, (.c (.ptr 128000000 0))), (3, (.c (.sl 64000000))), (6, (.c (.int .i64 v0))), (7, (.c (.int .i64 v1)))], [], [(128000000, (.box [(.frz (.int .i64) v2), (.int .i64 v3)])), (256000000, .gone), (64000000, (.row (.pair .bool (.pair (.int .i64) (.pair (.int .i64) (.slice (.int .i64))))) v4))]⟩
noncomputable def l2 ( k m1 : Nat) (v : T2) : Option R := held (run (cs m1) (loopN cs m1) c1000013 (J1000013 k m1) (s2 v))
noncomputable def D2 (v : T2) : Option R := lim fun L => l2 (L 0) (L 1) v
theorem D2_cn (v : T2) : Cn late (D2 v) fun L => l2 (L 0) (L 1) v := of_lim
def d0 (spymake_Stream_Range_m1 : spymake_Stream_Range.A → Option spymake_Stream_Range.R) (spymake_Stream_Next_m1 : spymake_Stream_Next.A → Option spymake_Stream_Next.R) (L1m1 : T1 → Option R) : T0 → Option R := fun (v0, v1, v2, v3, v4) =>
br (decide (v1 < v0))
  (bnd (spymake_Stream_Range_m1 (1, 8, v2, v3)) fun r =>
    bnd (spymake_Stream_Next_m1 (5, r.snd.fst, r.snd.snd)) fun r_1 =>
      br (decide (r_1.fst = 0)) (L1m1 (v0, v1, r_1.snd.fst, r_1.snd.snd, v4, true, 0, 0, []))
        (br (decide (r_1.fst = 1)) (bnd (spymake_Stream_Range_m1 (1, 8, r_1.snd.fst, r_1.snd.snd)) fun r_2 => L1m1 (v0, v1, r_2.snd.fst, r_2.snd.snd, v4, false, r.fst, r_2.fst, []))
          (br (decide (r_1.fst = 2))
            (bnd (spymake_Stream_Next_m1 (40, r_1.snd.fst, r_1.snd.snd)) fun r_2 =>
              bnd (spymake_Stream_Next_m1 (90, r_2.snd.fst, r_2.snd.snd)) fun r_3 => L1m1 (v0, v1, r_3.snd.fst, r_3.snd.snd, v4, false, r.fst, 0, [r_2.fst, wrap IntKind.i64 (40 + r_3.fst)]))
            (L1m1 (v0, v1, r_1.snd.fst, r_1.snd.snd, v4, false, r.fst, 0, [])))))
  (some (v2, v3, v4))
theorem d0_cn {ι : Type} {E : Fil ι} {spymake_Stream_Range_m1 : spymake_Stream_Range.A → Option spymake_Stream_Range.R} {spymake_Stream_Range_m1' : ι → spymake_Stream_Range.A → Option spymake_Stream_Range.R} (hspymake_Stream_Range_m1 : ∀ v, Cn E (spymake_Stream_Range_m1 v) fun i => spymake_Stream_Range_m1' i v) {spymake_Stream_Next_m1 : spymake_Stream_Next.A → Option spymake_Stream_Next.R} {spymake_Stream_Next_m1' : ι → spymake_Stream_Next.A → Option spymake_Stream_Next.R} (hspymake_Stream_Next_m1 : ∀ v, Cn E (spymake_Stream_Next_m1 v) fun i => spymake_Stream_Next_m1' i v) {L1m1 : T1 → Option R} {L1m1' : ι → T1 → Option R} (hL1m1 : ∀ v, Cn E (L1m1 v) fun i => L1m1' i v) : ∀ v : T0, Cn E (d0 spymake_Stream_Range_m1 spymake_Stream_Next_m1 L1m1 v) fun i => d0 (spymake_Stream_Range_m1' i) (spymake_Stream_Next_m1' i) (L1m1' i) v := fun (v0, v1, v2, v3, v4) => (.br (.bnd (hspymake_Stream_Range_m1 _) fun _ => (.bnd (hspymake_Stream_Next_m1 _) fun _ => (.br (hL1m1 _) (.br (.bnd (hspymake_Stream_Range_m1 _) fun _ => (hL1m1 _)) (.br (.bnd (hspymake_Stream_Next_m1 _) fun _ => (.bnd (hspymake_Stream_Next_m1 _) fun _ => (hL1m1 _))) (hL1m1 _)))))) .some)
theorem l0_b ( k m1 : Nat) : ∀ v : T0, run (cs m1) (loopN cs m1) b3 (kLoop cs m1 b3 (K3 k)) (s0 v) = d0 (spymake_Stream_Range.f m1) (spymake_Stream_Next.f m1) (l1 k m1) v := fun (v0, v1, v2, v3, v4) => by kernel_rfl
theorem D0_of (v : T0) {r : R} (h : d0 spymake_Stream_Range.F spymake_Stream_Next.F D1 v = some r) : D0 v = some r :=
  loop_of 1 (l := fun L => l0 (L 0) (L 1) v) (d := fun L => d0 (spymake_Stream_Range.f (L 1)) (spymake_Stream_Next.f (L 1)) (l1 (L 0) (L 1)) v) (fun L n hn => by show l0 (L 0) (L 1) v = _; rw [hn]; exact (held_eq _).trans ((loopN_succ _ _ _ _ _).trans (l0_b (L 0) n v))) (d0_cn (spymake_Stream_Range.F_cn 1) (spymake_Stream_Next.F_cn 1) (fun v => (D1_cn v).re [0, 1]) v) h
def d1 (L2m1 : T2 → Option R) : T1 → Option R := fun (v0, v1, v2, v3, v4, v5, v6, v7, v8) =>
br (decide (v4.length + [(v5, v6, v7, v8)].length ≤ 140737488355328 / 48)) (L2m1 (v0, v1, v2, v3, v4 ++ [(v5, v6, v7, v8)])) none
theorem d1_cn {ι : Type} {E : Fil ι} {L2m1 : T2 → Option R} {L2m1' : ι → T2 → Option R} (hL2m1 : ∀ v, Cn E (L2m1 v) fun i => L2m1' i v) : ∀ v : T1, Cn E (d1 L2m1 v) fun i => d1 (L2m1' i) v := fun (v0, v1, v2, v3, v4, v5, v6, v7, v8) => (.br (hL2m1 _) .none)
theorem l1_b ( k m1 : Nat) : ∀ v : T1, run (cs m1) (loopN cs m1) c1000012 (J1000012 k m1) (s1 v) = d1 (l2 k m1) v := fun (v0, v1, v2, v3, v4, v5, v6, v7, v8) => by kernel_rfl
theorem D1_of (v : T1) {r : R} (h : d1 D2 v = some r) : D1 v = some r :=
  join_of (l := fun L => l1 (L 0) (L 1) v) (d := fun L => d1 (l2 (L 0) (L 1)) v) (fun L => (held_eq _).trans (l1_b (L 0) (L 1) v)) (d1_cn (fun v => (D2_cn v).re [0, 1]) v) h
def d2 (L0m1 : T0 → Option R) : T2 → Option R := fun (v0, v1, v2, v3, v4) =>
L0m1 (v0, wrap IntKind.i64 (v1 + 1), v2, v3, v4)
theorem d2_cn {ι : Type} {E : Fil ι} {L0m1 : T0 → Option R} {L0m1' : ι → T0 → Option R} (hL0m1 : ∀ v, Cn E (L0m1 v) fun i => L0m1' i v) : ∀ v : T2, Cn E (d2 L0m1 v) fun i => d2 (L0m1' i) v := fun (v0, v1, v2, v3, v4) => (hL0m1 _)
theorem l2_b ( k m1 : Nat) : ∀ v : T2, run (cs m1) (loopN cs m1) c1000013 (J1000013 k m1) (s2 v) = d2 (l0 k m1) v := fun (v0, v1, v2, v3, v4) => by kernel_rfl
theorem D2_of (v : T2) {r : R} (h : d2 D0 v = some r) : D2 v = some r :=
  join_of (l := fun L => l2 (L 0) (L 1) v) (d := fun L => d2 (l0 (L 0) (L 1)) v) (fun L => (held_eq _).trans (l2_b (L 0) (L 1) v)) (d2_cn (fun v => (D0_cn v).re [0, 1]) v) h
noncomputable def f (k : Nat) : A → Option R := fun (v0, v1) => held (runFn cs k Try.f24 [(.c (.ptr 128000000 0))] [(.box [(.frz (.int .i64) v0), (.int .i64 v1)])] dec)
noncomputable def F (v : A) : Option R := lim fun L => f (L 0) v
theorem F_cn (x : Nat) (v : A) : Cn late (F v) fun L => f (L x) v := of_lim.re [x]
def d (spymake_Stream_Next_k : spymake_Stream_Next.A → Option spymake_Stream_Next.R) (L0k : T0 → Option R) : A → Option R := fun (v0, v1) =>
bnd (spymake_Stream_Next_k (20, v0, v1)) fun r => L0k (r.fst, 0, r.snd.fst, r.snd.snd, [])
theorem d_cn {ι : Type} {E : Fil ι} {spymake_Stream_Next_k : spymake_Stream_Next.A → Option spymake_Stream_Next.R} {spymake_Stream_Next_k' : ι → spymake_Stream_Next.A → Option spymake_Stream_Next.R} (hspymake_Stream_Next_k : ∀ v, Cn E (spymake_Stream_Next_k v) fun i => spymake_Stream_Next_k' i v) {L0k : T0 → Option R} {L0k' : ι → T0 → Option R} (hL0k : ∀ v, Cn E (L0k v) fun i => L0k' i v) : ∀ v : A, Cn E (d spymake_Stream_Next_k L0k v) fun i => d (spymake_Stream_Next_k' i) (L0k' i) v := fun (v0, v1) => (.bnd (hspymake_Stream_Next_k _) fun _ => (hL0k _))
theorem f_b (k : Nat) : ∀ v : A, f k v = d (spymake_Stream_Next.f k) (l0 k k) v := fun (v0, v1) => (held_eq _).trans (by kernel_rfl)
theorem F_of (v : A) {r : R} (h : d spymake_Stream_Next.F D0 v = some r) : F v = some r :=
  join_of (l := fun L => f (L 0) v) (d := fun L => d (spymake_Stream_Next.f (L 0)) (l0 (L 0) (L 0)) v) (fun L => f_b (L 0) v) (d_cn (spymake_Stream_Next.F_cn 0) (fun v => (D0_cn v).re [0, 0]) v) h
noncomputable def spec (k : Nat) (args : List AV) (ss : List Slot) : Option Ans :=
  match args, ss with
  | [(.c (.ptr 128000000 0))], [(.box [(.frz (.int .i64) v0), (.int .i64 v1)])] => some ⟨R, f k (v0, v1), enc⟩
  | _, _ => none
theorem spec_ok (k : Nat) : SpecOk Try.prog 24 (spec k) := by
  intro args ss ans x h hx X σ w vals hp
  unfold spec at h
  split at h
  · cases h
    exact spec_of cs_ok Try.func24 rfl rfl dec_ok (held_eq _).symm hx hp
  · cases h
end spykeep2_fates
noncomputable def t_spykeep2_fates (k : Nat) := tcons 24 (spykeep2_fates.spec k) (t_spykeep2_commands k)
theorem t_spykeep2_fates_ok (n g : Nat) : SpecOk Try.prog g (t_spykeep2_fates n g) := tcons_ok (spykeep2_fates.spec_ok n) (fun g => t_spykeep2_commands_ok n g) g
namespace spykeep2_LinkOnce
abbrev R : Type := Bool
abbrev A : Type := List Int × Int
def lv : List (Nat × List Nat) := [(2000000, [4]), (11, [6, 9, 11, 12, 51, 52, 53]), (18, [12, 87, 88, 89])]
noncomputable def cs : Nat → Ctx := ctxOf tis modes t_spykeep2_fates lv
theorem cs_ok (n : Nat) : CtxOk Try.prog (cs n) := ctxOf_ok rfl tis_ok t_spykeep2_fates_ok n
def enc (r : R) : Out := ((.c (.bool r)), [])
def dec : Out → Option R
  | ((.c (.bool v0)), []) => some v0
  | _ => none
theorem dec_ok : ∀ u y, dec u = some y → u = enc y := by
  intro u y h
  unfold dec at h
  split at h
  · cases h; rfl
  · cases h
noncomputable def b0 : Code := subF [] Try.f6
noncomputable def K0 (k : Nat) : Kt R := kTop (cs k) Try.f6 dec
noncomputable def b11 : Code := sub [1, 1, 1, 1, 1, 1, 1, 1, 0, 1, 0, 0] b0
noncomputable def K11 ( k : Nat) : Kt R := kAt (cs k) (loopN cs k) [1, 1, 1, 1, 1, 1, 1, 1, 0, 1, 0] b0 (K0 k)
noncomputable def b18 : Code := sub [1, 1, 1, 1, 1, 1, 1, 1, 1, 0, 1, 0, 0] b0
noncomputable def K18 ( k : Nat) : Kt R := kAt (cs k) (loopN cs k) [1, 1, 1, 1, 1, 1, 1, 1, 1, 0, 1, 0] b0 (K0 k)
abbrev T0 : Type := Int × Int × Int × List (Int × Int × Int) × Int × Int × List Bool × List (Int × Int) × List Int × List Int
def s0 : T0 → St := fun (v0, v1, v2, v3, v4, v5, v6, v7, v8, v9) => ⟨124, 0, [(6, (.c (.sl 64000000))), (9, (.c (.ptr 64000001 0))), (11, (.c (.int .i64 v0))), (12, (.c (.sl 64000002))), (51, (.c (.sl 64000003))), (52, (.c (.int .i64 v1))), (53, (.c (.int .i64 v2)))], [], [(256000000, .gone), (64000000, (.row (.pair (.int .i64) (.pair (.int .i64) (.int .i64))) v3)), (64000001, (.box [(.sl 64000003), (.sl 64000004), (.sl 64000005), (.int .i64 v4), (.int .i64 v5)])), (64000002, (.row .bool v6)), (64000003, (.row (.pair (.int .i64) (.int .i64)) v7)), (64000004, (.row (.int .i64) v8)), (64000005, (.row (.int .i64) v9))]⟩
noncomputable def l0 ( k n : Nat) (v : T0) : Option R := held (loopN cs n b11 (K11 k) (s0 v))
noncomputable def D0 (v : T0) : Option R := lim fun L => l0 (L 0) (L 1) v
theorem D0_cn (v : T0) : Cn late (D0 v) fun L => l0 (L 0) (L 1) v := of_lim
abbrev T1 : Type := Int × Int × List Bool × List Int
def s1 : T1 → St := fun (v0, v1, v2, v3) => ⟨124, 0, [(12, (.c (.sl 64000000))), (87, (.c (.sl 64000001))), (88, (.c (.int .i64 v0))), (89, (.c (.int .i64 v1)))], [], [(256000000, .gone), (64000000, (.row .bool v2)), (64000001, (.row (.int .i64) v3))]⟩
noncomputable def l1 ( k n : Nat) (v : T1) : Option R := held (loopN cs n b18 (K18 k) (s1 v))
noncomputable def D1 (v : T1) : Option R := lim fun L => l1 (L 0) (L 1) v
theorem D1_cn (v : T1) : Cn late (D1 v) fun L => l1 (L 0) (L 1) v := of_lim
def d0 (L0m1 : T0 → Option R) (L1k : T1 → Option R) : T0 → Option R := fun (v0, v1, v2, v3, v4, v5, v6, v7, v8, v9) =>
br (decide (v2 < v1))
  (br (decide (0 ≤ v2 ∧ v2 < (↑v7.length : Int)))
    (br
      (!(decide ((rd ((Ty.int IntKind.i64).pair (Ty.int IntKind.i64)) v7 v2).fst ≤ v0) || decide ((↑v3.length : Int) ≤ (rd ((Ty.int IntKind.i64).pair (Ty.int IntKind.i64)) v7 v2).fst)) == false ||
        decide (0 ≤ (rd ((Ty.int IntKind.i64).pair (Ty.int IntKind.i64)) v7 v2).fst ∧ (rd ((Ty.int IntKind.i64).pair (Ty.int IntKind.i64)) v7 v2).fst < (↑v3.length : Int)))
      (br
        (decide ((rd ((Ty.int IntKind.i64).pair (Ty.int IntKind.i64)) v7 v2).fst ≤ v0) || decide ((↑v3.length : Int) ≤ (rd ((Ty.int IntKind.i64).pair (Ty.int IntKind.i64)) v7 v2).fst) ||
          decide
            ((rd ((Ty.int IntKind.i64).pair ((Ty.int IntKind.i64).pair (Ty.int IntKind.i64))) v3 (rd ((Ty.int IntKind.i64).pair (Ty.int IntKind.i64)) v7 v2).fst).snd.snd <
              (rd ((Ty.int IntKind.i64).pair (Ty.int IntKind.i64)) v7 v2).snd))
        (some false)
        (br (decide (0 ≤ (rd ((Ty.int IntKind.i64).pair (Ty.int IntKind.i64)) v7 v2).fst ∧ (rd ((Ty.int IntKind.i64).pair (Ty.int IntKind.i64)) v7 v2).fst < (↑v6.length : Int)))
          (L0m1
            ((rd ((Ty.int IntKind.i64).pair (Ty.int IntKind.i64)) v7 v2).fst, v1, wrap IntKind.i64 (v2 + 1), v3, v4, v5, v6.set (Int.toNat (rd ((Ty.int IntKind.i64).pair (Ty.int IntKind.i64)) v7 v2).fst) true, v7, v8,
              v9))
          none))
      none)
    none)
  (L1k ((↑v8.length : Int), 0, v6, v8))
theorem d0_cn {ι : Type} {E : Fil ι} {L0m1 : T0 → Option R} {L0m1' : ι → T0 → Option R} (hL0m1 : ∀ v, Cn E (L0m1 v) fun i => L0m1' i v) {L1k : T1 → Option R} {L1k' : ι → T1 → Option R} (hL1k : ∀ v, Cn E (L1k v) fun i => L1k' i v) : ∀ v : T0, Cn E (d0 L0m1 L1k v) fun i => d0 (L0m1' i) (L1k' i) v := fun (v0, v1, v2, v3, v4, v5, v6, v7, v8, v9) => (.br (.br (.br (.br .some (.br (hL0m1 _) .none)) .none) .none) (hL1k _))
theorem l0_b ( k m1 : Nat) : ∀ v : T0, run (cs m1) (loopN cs m1) b11 (kLoop cs m1 b11 (K11 k)) (s0 v) = d0 (l0 k m1) (l1 k k) v := fun (v0, v1, v2, v3, v4, v5, v6, v7, v8, v9) => by kernel_rfl
theorem D0_of (v : T0) {r : R} (h : d0 D0 D1 v = some r) : D0 v = some r :=
  loop_of 1 (l := fun L => l0 (L 0) (L 1) v) (d := fun L => d0 (l0 (L 0) (L 1)) (l1 (L 0) (L 0)) v) (fun L n hn => by show l0 (L 0) (L 1) v = _; rw [hn]; exact (held_eq _).trans ((loopN_succ _ _ _ _ _).trans (l0_b (L 0) n v))) (d0_cn (fun v => (D0_cn v).re [0, 1]) (fun v => (D1_cn v).re [0, 0]) v) h
def d1 (L1m1 : T1 → Option R) : T1 → Option R := fun (v0, v1, v2, v3) =>
br (decide (v1 < v0))
  (br (decide (0 ≤ v1 ∧ v1 < (↑v3.length : Int)))
    (br (!decide (rd (Ty.int IntKind.i64) v3 v1 = 2) == true || decide (0 ≤ v1 ∧ v1 < (↑v2.length : Int)))
      (br (!((decide (rd (Ty.int IntKind.i64) v3 v1 = 2) && !rd Ty.bool v2 v1) == false && decide (rd (Ty.int IntKind.i64) v3 v1 = 3) == true) || decide (0 ≤ v1 ∧ v1 < (↑v2.length : Int)))
        (br
          (!((decide (rd (Ty.int IntKind.i64) v3 v1 = 2) && !rd Ty.bool v2 v1 || decide (rd (Ty.int IntKind.i64) v3 v1 = 3) && rd Ty.bool v2 v1) == false && decide (rd (Ty.int IntKind.i64) v3 v1 = 0) == true) ||
            decide (0 ≤ v1 ∧ v1 < (↑v2.length : Int)))
          (br (decide (rd (Ty.int IntKind.i64) v3 v1 = 2) && !rd Ty.bool v2 v1 || decide (rd (Ty.int IntKind.i64) v3 v1 = 3) && rd Ty.bool v2 v1 || decide (rd (Ty.int IntKind.i64) v3 v1 = 0) && rd Ty.bool v2 v1)
            (some false) (L1m1 (v0, wrap IntKind.i64 (v1 + 1), v2, v3)))
          none)
        none)
      none)
    none)
  (some true)
theorem d1_cn {ι : Type} {E : Fil ι} {L1m1 : T1 → Option R} {L1m1' : ι → T1 → Option R} (hL1m1 : ∀ v, Cn E (L1m1 v) fun i => L1m1' i v) : ∀ v : T1, Cn E (d1 L1m1 v) fun i => d1 (L1m1' i) v := fun (v0, v1, v2, v3) => (.br (.br (.br (.br (.br (.br .some (hL1m1 _)) .none) .none) .none) .none) .some)
theorem l1_b ( k m1 : Nat) : ∀ v : T1, run (cs m1) (loopN cs m1) b18 (kLoop cs m1 b18 (K18 k)) (s1 v) = d1 (l1 k m1) v := fun (v0, v1, v2, v3) => by kernel_rfl
theorem D1_of (v : T1) {r : R} (h : d1 D1 v = some r) : D1 v = some r :=
  loop_of 1 (l := fun L => l1 (L 0) (L 1) v) (d := fun L => d1 (l1 (L 0) (L 1)) v) (fun L n hn => by show l1 (L 0) (L 1) v = _; rw [hn]; exact (held_eq _).trans ((loopN_succ _ _ _ _ _).trans (l1_b (L 0) n v))) (d1_cn (fun v => (D1_cn v).re [0, 1]) v) h
noncomputable def f (k : Nat) : A → Option R := fun (v0, v1) => held (runFn cs k Try.f6 [(.c (.frz (.int .i64) v0)), (.c (.int .i64 v1))] [] dec)
noncomputable def F (v : A) : Option R := lim fun L => f (L 0) v
theorem F_cn (x : Nat) (v : A) : Cn late (F v) fun L => f (L x) v := of_lim.re [x]
def d (spykeep2_sends_k : spykeep2_sends.A → Option spykeep2_sends.R) (spykeep2_commands_k : spykeep2_commands.A → Option spykeep2_commands.R) (spykeep2_fates_k : spykeep2_fates.A → Option spykeep2_fates.R) (spymake_Below_k : spymake_Below.A → Option spymake_Below.R) (link_Run_k : link_Run.A → Option link_Run.R) (L0k : T0 → Option R) : A → Option R := fun (v0, v1) =>
bnd (spykeep2_sends_k ()) fun r =>
  br (!r) (some false)
    (bnd (spykeep2_commands_k (v0, 0)) fun r =>
      bnd (spykeep2_fates_k (r.fst, r.snd.fst)) fun r_1 =>
        bnd (spykeep2_fates_k (r_1.fst, r_1.snd.fst)) fun r_2 =>
          bnd (spymake_Below_k (v1, 300)) fun r_3 =>
            bnd (link_Run_k (r.snd.snd, r_1.snd.snd, r_2.snd.snd, r_3)) fun r_4 =>
              br (!decide (r_4.snd.snd.fst = 0) || !decide ((↑r_4.snd.snd.snd.snd.fst.length : Int) = (↑r.snd.snd.length : Int))) (some false)
                (br (decide (0 ≤ (↑r.snd.snd.length : Int) ∧ (↑r.snd.snd.length : Int) ≤ (↑r.snd.snd.length : Int) ∧ (↑r.snd.snd.length : Int) ≤ (↑(140737488355328 / 1) : Int)))
                  (L0k
                    (-1, (↑r_4.snd.snd.snd.fst.length : Int), 0, r.snd.snd, r_4.fst, r_4.snd.fst, List.replicate (↑r.snd.snd.length : Int).toNat Ty.bool.dflt, r_4.snd.snd.snd.fst, r_4.snd.snd.snd.snd.fst,
                      r_4.snd.snd.snd.snd.snd))
                  none))
theorem d_cn {ι : Type} {E : Fil ι} {spykeep2_sends_k : spykeep2_sends.A → Option spykeep2_sends.R} {spykeep2_sends_k' : ι → spykeep2_sends.A → Option spykeep2_sends.R} (hspykeep2_sends_k : ∀ v, Cn E (spykeep2_sends_k v) fun i => spykeep2_sends_k' i v) {spykeep2_commands_k : spykeep2_commands.A → Option spykeep2_commands.R} {spykeep2_commands_k' : ι → spykeep2_commands.A → Option spykeep2_commands.R} (hspykeep2_commands_k : ∀ v, Cn E (spykeep2_commands_k v) fun i => spykeep2_commands_k' i v) {spykeep2_fates_k : spykeep2_fates.A → Option spykeep2_fates.R} {spykeep2_fates_k' : ι → spykeep2_fates.A → Option spykeep2_fates.R} (hspykeep2_fates_k : ∀ v, Cn E (spykeep2_fates_k v) fun i => spykeep2_fates_k' i v) {spymake_Below_k : spymake_Below.A → Option spymake_Below.R} {spymake_Below_k' : ι → spymake_Below.A → Option spymake_Below.R} (hspymake_Below_k : ∀ v, Cn E (spymake_Below_k v) fun i => spymake_Below_k' i v) {link_Run_k : link_Run.A → Option link_Run.R} {link_Run_k' : ι → link_Run.A → Option link_Run.R} (hlink_Run_k : ∀ v, Cn E (link_Run_k v) fun i => link_Run_k' i v) {L0k : T0 → Option R} {L0k' : ι → T0 → Option R} (hL0k : ∀ v, Cn E (L0k v) fun i => L0k' i v) : ∀ v : A, Cn E (d spykeep2_sends_k spykeep2_commands_k spykeep2_fates_k spymake_Below_k link_Run_k L0k v) fun i => d (spykeep2_sends_k' i) (spykeep2_commands_k' i) (spykeep2_fates_k' i) (spymake_Below_k' i) (link_Run_k' i) (L0k' i) v := fun (v0, v1) => (.bnd (hspykeep2_sends_k _) fun _ => (.br .some (.bnd (hspykeep2_commands_k _) fun _ => (.bnd (hspykeep2_fates_k _) fun _ => (.bnd (hspykeep2_fates_k _) fun _ => (.bnd (hspymake_Below_k _) fun _ => (.bnd (hlink_Run_k _) fun _ => (.br .some (.br (hL0k _) .none)))))))))
theorem f_b (k : Nat) : ∀ v : A, f k v = d (spykeep2_sends.f k) (spykeep2_commands.f k) (spykeep2_fates.f k) (spymake_Below.f k) (link_Run.f k) (l0 k k) v := fun (v0, v1) => (held_eq _).trans (by kernel_rfl)
theorem F_of (v : A) {r : R} (h : d spykeep2_sends.F spykeep2_commands.F spykeep2_fates.F spymake_Below.F link_Run.F D0 v = some r) : F v = some r :=
  join_of (l := fun L => f (L 0) v) (d := fun L => d (spykeep2_sends.f (L 0)) (spykeep2_commands.f (L 0)) (spykeep2_fates.f (L 0)) (spymake_Below.f (L 0)) (link_Run.f (L 0)) (l0 (L 0) (L 0)) v) (fun L => f_b (L 0) v) (d_cn (spykeep2_sends.F_cn 0) (spykeep2_commands.F_cn 0) (spykeep2_fates.F_cn 0) (spymake_Below.F_cn 0) (link_Run.F_cn 0) (fun v => (D0_cn v).re [0, 0]) v) h
noncomputable def spec (k : Nat) (args : List AV) (ss : List Slot) : Option Ans :=
  match args, ss with
  | [(.c (.frz (.int .i64) v0)), (.c (.int .i64 v1))], [] => some ⟨R, f k (v0, v1), enc⟩
  | _, _ => none
theorem spec_ok (k : Nat) : SpecOk Try.prog 6 (spec k) := by
  intro args ss ans x h hx X σ w vals hp
  unfold spec at h
  split at h
  · cases h
    exact spec_of cs_ok Try.func6 rfl rfl dec_ok (held_eq _).symm hx hp
  · cases h
end spykeep2_LinkOnce
noncomputable def t_spykeep2_LinkOnce (k : Nat) := tcons 6 (spykeep2_LinkOnce.spec k) (t_spykeep2_fates k)
theorem t_spykeep2_LinkOnce_ok (n g : Nat) : SpecOk Try.prog g (t_spykeep2_LinkOnce n g) := tcons_ok (spykeep2_LinkOnce.spec_ok n) (fun g => t_spykeep2_fates_ok n g) g
namespace slices_Equal_Exec
abbrev R : Type := Bool
abbrev A : Type := List (Int × Int) × List (Int × Int)
def lv : List (Nat × List Nat) := [(2000000, [4]), (4, [0, 1, 12, 13])]
noncomputable def cs : Nat → Ctx := ctxOf tis modes t_spykeep2_LinkOnce lv
theorem cs_ok (n : Nat) : CtxOk Try.prog (cs n) := ctxOf_ok rfl tis_ok t_spykeep2_LinkOnce_ok n
def enc (r : R) : Out := ((.c (.bool r)), [])
def dec : Out → Option R
  | ((.c (.bool v0)), []) => some v0
  | _ => none
theorem dec_ok : ∀ u y, dec u = some y → u = enc y := by
  intro u y h
  unfold dec at h
  split at h
  · cases h; rfl
  · cases h
noncomputable def b0 : Code := subF [] Try.f26
noncomputable def K0 (k : Nat) : Kt R := kTop (cs k) Try.f26 dec
noncomputable def b4 : Code := sub [1, 1, 0, 1, 0, 0] b0
noncomputable def K4 ( k : Nat) : Kt R := kAt (cs k) (loopN cs k) [1, 1, 0, 1, 0] b0 (K0 k)
abbrev T0 : Type := List (Int × Int) × List (Int × Int) × Int × Int
def s0 : T0 → St := fun (v0, v1, v2, v3) => ⟨26, 0, [(0, (.c (.frz (.pair (.int .i64) (.int .i64)) v0))), (1, (.c (.frz (.pair (.int .i64) (.int .i64)) v1))), (12, (.c (.int .i64 v2))), (13, (.c (.int .i64 v3)))], [], [(256000000, .gone)]⟩
noncomputable def l0 ( k n : Nat) (v : T0) : Option R := held (loopN cs n b4 (K4 k) (s0 v))
noncomputable def D0 (v : T0) : Option R := lim fun L => l0 (L 0) (L 1) v
theorem D0_cn (v : T0) : Cn late (D0 v) fun L => l0 (L 0) (L 1) v := of_lim
def d0 (L0m1 : T0 → Option R) : T0 → Option R := fun (v0, v1, v2, v3) =>
br (decide (v3 < v2))
  (br (decide (0 ≤ v3 ∧ v3 < (↑v0.length : Int)))
    (br (decide (0 ≤ v3 ∧ v3 < (↑v1.length : Int)))
      (br
        (!(decide ((rd ((Ty.int IntKind.i64).pair (Ty.int IntKind.i64)) v0 v3).fst = (rd ((Ty.int IntKind.i64).pair (Ty.int IntKind.i64)) v1 v3).fst) &&
            (decide ((rd ((Ty.int IntKind.i64).pair (Ty.int IntKind.i64)) v0 v3).snd = (rd ((Ty.int IntKind.i64).pair (Ty.int IntKind.i64)) v1 v3).snd) && true)))
        (some false) (L0m1 (v0, v1, v2, wrap IntKind.i64 (v3 + 1))))
      none)
    none)
  (some true)
theorem d0_cn {ι : Type} {E : Fil ι} {L0m1 : T0 → Option R} {L0m1' : ι → T0 → Option R} (hL0m1 : ∀ v, Cn E (L0m1 v) fun i => L0m1' i v) : ∀ v : T0, Cn E (d0 L0m1 v) fun i => d0 (L0m1' i) v := fun (v0, v1, v2, v3) => (.br (.br (.br (.br .some (hL0m1 _)) .none) .none) .some)
theorem l0_b ( k m1 : Nat) : ∀ v : T0, run (cs m1) (loopN cs m1) b4 (kLoop cs m1 b4 (K4 k)) (s0 v) = d0 (l0 k m1) v := fun (v0, v1, v2, v3) => by kernel_rfl
theorem D0_of (v : T0) {r : R} (h : d0 D0 v = some r) : D0 v = some r :=
  loop_of 1 (l := fun L => l0 (L 0) (L 1) v) (d := fun L => d0 (l0 (L 0) (L 1)) v) (fun L n hn => by show l0 (L 0) (L 1) v = _; rw [hn]; exact (held_eq _).trans ((loopN_succ _ _ _ _ _).trans (l0_b (L 0) n v))) (d0_cn (fun v => (D0_cn v).re [0, 1]) v) h
noncomputable def f (k : Nat) : A → Option R := fun (v0, v1) => held (runFn cs k Try.f26 [(.c (.frz (.pair (.int .i64) (.int .i64)) v0)), (.c (.frz (.pair (.int .i64) (.int .i64)) v1))] [] dec)
noncomputable def F (v : A) : Option R := lim fun L => f (L 0) v
theorem F_cn (x : Nat) (v : A) : Cn late (F v) fun L => f (L x) v := of_lim.re [x]
def d (L0k : T0 → Option R) : A → Option R := fun (v0, v1) =>
br (!decide ((↑v0.length : Int) = (↑v1.length : Int))) (some false) (L0k (v0, v1, (↑v0.length : Int), 0))
theorem d_cn {ι : Type} {E : Fil ι} {L0k : T0 → Option R} {L0k' : ι → T0 → Option R} (hL0k : ∀ v, Cn E (L0k v) fun i => L0k' i v) : ∀ v : A, Cn E (d L0k v) fun i => d (L0k' i) v := fun (v0, v1) => (.br .some (hL0k _))
theorem f_b (k : Nat) : ∀ v : A, f k v = d (l0 k k) v := fun (v0, v1) => (held_eq _).trans (by kernel_rfl)
theorem F_of (v : A) {r : R} (h : d D0 v = some r) : F v = some r :=
  join_of (l := fun L => f (L 0) v) (d := fun L => d (l0 (L 0) (L 0)) v) (fun L => f_b (L 0) v) (d_cn (fun v => (D0_cn v).re [0, 0]) v) h
noncomputable def spec (k : Nat) (args : List AV) (ss : List Slot) : Option Ans :=
  match args, ss with
  | [(.c (.frz (.pair (.int .i64) (.int .i64)) v0)), (.c (.frz (.pair (.int .i64) (.int .i64)) v1))], [] => some ⟨R, f k (v0, v1), enc⟩
  | _, _ => none
theorem spec_ok (k : Nat) : SpecOk Try.prog 26 (spec k) := by
  intro args ss ans x h hx X σ w vals hp
  unfold spec at h
  split at h
  · cases h
    exact spec_of cs_ok Try.func26 rfl rfl dec_ok (held_eq _).symm hx hp
  · cases h
end slices_Equal_Exec
noncomputable def t_slices_Equal_Exec (k : Nat) := tcons 26 (slices_Equal_Exec.spec k) (t_spykeep2_LinkOnce k)
theorem t_slices_Equal_Exec_ok (n g : Nat) : SpecOk Try.prog g (t_slices_Equal_Exec n g) := tcons_ok (slices_Equal_Exec.spec_ok n) (fun g => t_spykeep2_LinkOnce_ok n g) g
namespace spykeep2_LinkLonger
abbrev R : Type := Bool
abbrev A : Type := List Int × Int × Int
def lv : List (Nat × List Nat) := [(2000000, [6]), (11, [12, 14, 105, 106, 107])]
noncomputable def cs : Nat → Ctx := ctxOf tis modes t_slices_Equal_Exec lv
theorem cs_ok (n : Nat) : CtxOk Try.prog (cs n) := ctxOf_ok rfl tis_ok t_slices_Equal_Exec_ok n
def enc (r : R) : Out := ((.c (.bool r)), [])
def dec : Out → Option R
  | ((.c (.bool v0)), []) => some v0
  | _ => none
theorem dec_ok : ∀ u y, dec u = some y → u = enc y := by
  intro u y h
  unfold dec at h
  split at h
  · cases h; rfl
  · cases h
noncomputable def b0 : Code := subF [] Try.f7
noncomputable def K0 (k : Nat) : Kt R := kTop (cs k) Try.f7 dec
noncomputable def b11 : Code := sub [1, 1, 1, 1, 1, 1, 1, 1, 0, 1, 0, 0] b0
noncomputable def K11 ( k : Nat) : Kt R := kAt (cs k) (loopN cs k) [1, 1, 1, 1, 1, 1, 1, 1, 0, 1, 0] b0 (K0 k)
abbrev T0 : Type := Int × Int × Int × Int × Int × Int × List Int × List (Int × Int) × List Int × List (Int × Int) × List Int × List Int
def s0 : T0 → St := fun (v0, v1, v2, v3, v4, v5, v6, v7, v8, v9, v10, v11) => ⟨154, 0, [(12, (.c (.ptr 64000000 0))), (14, (.c (.ptr 64000001 0))), (105, (.c (.sl 64000002))), (106, (.c (.int .i64 v0))), (107, (.c (.int .i64 v1)))], [], [(256000000, .gone), (64000000, (.box [(.sl 64000003), (.sl 64000002), (.sl 64000004), (.int .i64 v2), (.int .i64 v3)])), (64000001, (.box [(.sl 64000005), (.sl 64000006), (.sl 64000007), (.int .i64 v4), (.int .i64 v5)])), (64000002, (.row (.int .i64) v6)), (64000003, (.row (.pair (.int .i64) (.int .i64)) v7)), (64000004, (.row (.int .i64) v8)), (64000005, (.row (.pair (.int .i64) (.int .i64)) v9)), (64000006, (.row (.int .i64) v10)), (64000007, (.row (.int .i64) v11))]⟩
noncomputable def l0 ( k n : Nat) (v : T0) : Option R := held (loopN cs n b11 (K11 k) (s0 v))
noncomputable def D0 (v : T0) : Option R := lim fun L => l0 (L 0) (L 1) v
theorem D0_cn (v : T0) : Cn late (D0 v) fun L => l0 (L 0) (L 1) v := of_lim
def d0 (L0m1 : T0 → Option R) : T0 → Option R := fun (v0, v1, v2, v3, v4, v5, v6, v7, v8, v9, v10, v11) =>
br (decide (v1 < v0))
  (br (decide (0 ≤ v1 ∧ v1 < (↑v6.length : Int)))
    (br (!decide (2 ≤ rd (Ty.int IntKind.i64) v6 v1) == true || decide (0 ≤ v1 ∧ v1 < (↑v10.length : Int)))
      (br (!(decide (2 ≤ rd (Ty.int IntKind.i64) v6 v1) == true && (!decide (rd (Ty.int IntKind.i64) v10 v1 = rd (Ty.int IntKind.i64) v6 v1)) == false) || decide (0 ≤ v1 ∧ v1 < (↑v11.length : Int)))
        (br (!(decide (2 ≤ rd (Ty.int IntKind.i64) v6 v1) == true && (!decide (rd (Ty.int IntKind.i64) v10 v1 = rd (Ty.int IntKind.i64) v6 v1)) == false) || decide (0 ≤ v1 ∧ v1 < (↑v8.length : Int)))
          (br
            (!(decide (2 ≤ rd (Ty.int IntKind.i64) v6 v1) && (!decide (rd (Ty.int IntKind.i64) v10 v1 = rd (Ty.int IntKind.i64) v6 v1) || !decide (rd (Ty.int IntKind.i64) v11 v1 = rd (Ty.int IntKind.i64) v8 v1))) ==
                  false ||
              decide (0 ≤ v1 ∧ v1 < (↑v10.length : Int)))
            (br
              (!((decide (2 ≤ rd (Ty.int IntKind.i64) v6 v1) && (!decide (rd (Ty.int IntKind.i64) v10 v1 = rd (Ty.int IntKind.i64) v6 v1) || !decide (rd (Ty.int IntKind.i64) v11 v1 = rd (Ty.int IntKind.i64) v8 v1))) ==
                      false &&
                    decide (rd (Ty.int IntKind.i64) v10 v1 < rd (Ty.int IntKind.i64) v6 v1) == true) ||
                decide (0 ≤ v1 ∧ v1 < (↑v10.length : Int)))
              (br
                (decide (2 ≤ rd (Ty.int IntKind.i64) v6 v1) && (!decide (rd (Ty.int IntKind.i64) v10 v1 = rd (Ty.int IntKind.i64) v6 v1) || !decide (rd (Ty.int IntKind.i64) v11 v1 = rd (Ty.int IntKind.i64) v8 v1)) ||
                  decide (rd (Ty.int IntKind.i64) v10 v1 < rd (Ty.int IntKind.i64) v6 v1) && decide (rd (Ty.int IntKind.i64) v10 v1 < 2))
                (some false) (L0m1 (v0, wrap IntKind.i64 (v1 + 1), v2, v3, v4, v5, v6, v7, v8, v9, v10, v11)))
              none)
            none)
          none)
        none)
      none)
    none)
  (some true)
theorem d0_cn {ι : Type} {E : Fil ι} {L0m1 : T0 → Option R} {L0m1' : ι → T0 → Option R} (hL0m1 : ∀ v, Cn E (L0m1 v) fun i => L0m1' i v) : ∀ v : T0, Cn E (d0 L0m1 v) fun i => d0 (L0m1' i) v := fun (v0, v1, v2, v3, v4, v5, v6, v7, v8, v9, v10, v11) => (.br (.br (.br (.br (.br (.br (.br (.br .some (hL0m1 _)) .none) .none) .none) .none) .none) .none) .some)
theorem l0_b ( k m1 : Nat) : ∀ v : T0, run (cs m1) (loopN cs m1) b11 (kLoop cs m1 b11 (K11 k)) (s0 v) = d0 (l0 k m1) v := fun (v0, v1, v2, v3, v4, v5, v6, v7, v8, v9, v10, v11) => by kernel_rfl
theorem D0_of (v : T0) {r : R} (h : d0 D0 v = some r) : D0 v = some r :=
  loop_of 1 (l := fun L => l0 (L 0) (L 1) v) (d := fun L => d0 (l0 (L 0) (L 1)) v) (fun L n hn => by show l0 (L 0) (L 1) v = _; rw [hn]; exact (held_eq _).trans ((loopN_succ _ _ _ _ _).trans (l0_b (L 0) n v))) (d0_cn (fun v => (D0_cn v).re [0, 1]) v) h
noncomputable def f (k : Nat) : A → Option R := fun (v0, v1, v2) => held (runFn cs k Try.f7 [(.c (.frz (.int .i64) v0)), (.c (.int .i64 v1)), (.c (.int .i64 v2))] [] dec)
noncomputable def F (v : A) : Option R := lim fun L => f (L 0) v
theorem F_cn (x : Nat) (v : A) : Cn late (F v) fun L => f (L x) v := of_lim.re [x]
def d (spykeep2_sends_k : spykeep2_sends.A → Option spykeep2_sends.R) (spykeep2_commands_k : spykeep2_commands.A → Option spykeep2_commands.R) (spykeep2_fates_k : spykeep2_fates.A → Option spykeep2_fates.R) (spymake_Below_k : spymake_Below.A → Option spymake_Below.R) (link_Run_k : link_Run.A → Option link_Run.R) (slices_Equal_Exec_k : slices_Equal_Exec.A → Option slices_Equal_Exec.R) (L0k : T0 → Option R) : A → Option R := fun (v0, v1, v2) =>
bnd (spykeep2_sends_k ()) fun r =>
  br (!r) (some false)
    (bnd (spykeep2_commands_k (v0, 0)) fun r =>
      bnd (spykeep2_fates_k (r.fst, r.snd.fst)) fun r_1 =>
        bnd (spykeep2_fates_k (r_1.fst, r_1.snd.fst)) fun r_2 =>
          bnd (spymake_Below_k (v1, 200)) fun r_3 =>
            bnd (link_Run_k (r.snd.snd, r_1.snd.snd, r_2.snd.snd, r_3)) fun r_4 =>
              bnd (spymake_Below_k (v2, 200)) fun r_5 =>
                bnd (link_Run_k (r.snd.snd, r_1.snd.snd, r_2.snd.snd, wrap IntKind.i64 (r_3 + r_5))) fun r =>
                  br
                    (!(!decide (r_4.snd.snd.fst = 0) || !decide (r.snd.snd.fst = 0) || decide ((↑r.snd.snd.snd.fst.length : Int) < (↑r_4.snd.snd.snd.fst.length : Int))) == false ||
                      decide (0 ≤ (↑r_4.snd.snd.snd.fst.length : Int) ∧ (↑r_4.snd.snd.snd.fst.length : Int) ≤ (↑r.snd.snd.snd.fst.length : Int)))
                    (br ((!decide (r_4.snd.snd.fst = 0) || !decide (r.snd.snd.fst = 0) || decide ((↑r.snd.snd.snd.fst.length : Int) < (↑r_4.snd.snd.snd.fst.length : Int))) == false)
                      (bnd (slices_Equal_Exec_k (r_4.snd.snd.snd.fst, List.drop (Int.toNat 0) (List.take (↑r_4.snd.snd.snd.fst.length : Int).toNat r.snd.snd.snd.fst))) fun r_6 =>
                        br
                          (!decide (r_4.snd.snd.fst = 0) || !decide (r.snd.snd.fst = 0) || decide ((↑r.snd.snd.snd.fst.length : Int) < (↑r_4.snd.snd.snd.fst.length : Int)) || !r_6 ||
                                !decide ((↑r_4.snd.snd.snd.snd.fst.length : Int) = (↑r.snd.snd.snd.snd.fst.length : Int)) ||
                              !decide ((↑r_4.snd.snd.snd.snd.snd.length : Int) = (↑r_4.snd.snd.snd.snd.fst.length : Int)) ||
                            !decide ((↑r.snd.snd.snd.snd.snd.length : Int) = (↑r_4.snd.snd.snd.snd.snd.length : Int)))
                          (some false)
                          (L0k
                            ((↑r_4.snd.snd.snd.snd.fst.length : Int), 0, r_4.fst, r_4.snd.fst, r.fst, r.snd.fst, r_4.snd.snd.snd.snd.fst, r_4.snd.snd.snd.fst, r_4.snd.snd.snd.snd.snd, r.snd.snd.snd.fst,
                              r.snd.snd.snd.snd.fst, r.snd.snd.snd.snd.snd)))
                      none)
                    none)
theorem d_cn {ι : Type} {E : Fil ι} {spykeep2_sends_k : spykeep2_sends.A → Option spykeep2_sends.R} {spykeep2_sends_k' : ι → spykeep2_sends.A → Option spykeep2_sends.R} (hspykeep2_sends_k : ∀ v, Cn E (spykeep2_sends_k v) fun i => spykeep2_sends_k' i v) {spykeep2_commands_k : spykeep2_commands.A → Option spykeep2_commands.R} {spykeep2_commands_k' : ι → spykeep2_commands.A → Option spykeep2_commands.R} (hspykeep2_commands_k : ∀ v, Cn E (spykeep2_commands_k v) fun i => spykeep2_commands_k' i v) {spykeep2_fates_k : spykeep2_fates.A → Option spykeep2_fates.R} {spykeep2_fates_k' : ι → spykeep2_fates.A → Option spykeep2_fates.R} (hspykeep2_fates_k : ∀ v, Cn E (spykeep2_fates_k v) fun i => spykeep2_fates_k' i v) {spymake_Below_k : spymake_Below.A → Option spymake_Below.R} {spymake_Below_k' : ι → spymake_Below.A → Option spymake_Below.R} (hspymake_Below_k : ∀ v, Cn E (spymake_Below_k v) fun i => spymake_Below_k' i v) {link_Run_k : link_Run.A → Option link_Run.R} {link_Run_k' : ι → link_Run.A → Option link_Run.R} (hlink_Run_k : ∀ v, Cn E (link_Run_k v) fun i => link_Run_k' i v) {slices_Equal_Exec_k : slices_Equal_Exec.A → Option slices_Equal_Exec.R} {slices_Equal_Exec_k' : ι → slices_Equal_Exec.A → Option slices_Equal_Exec.R} (hslices_Equal_Exec_k : ∀ v, Cn E (slices_Equal_Exec_k v) fun i => slices_Equal_Exec_k' i v) {L0k : T0 → Option R} {L0k' : ι → T0 → Option R} (hL0k : ∀ v, Cn E (L0k v) fun i => L0k' i v) : ∀ v : A, Cn E (d spykeep2_sends_k spykeep2_commands_k spykeep2_fates_k spymake_Below_k link_Run_k slices_Equal_Exec_k L0k v) fun i => d (spykeep2_sends_k' i) (spykeep2_commands_k' i) (spykeep2_fates_k' i) (spymake_Below_k' i) (link_Run_k' i) (slices_Equal_Exec_k' i) (L0k' i) v := fun (v0, v1, v2) => (.bnd (hspykeep2_sends_k _) fun _ => (.br .some (.bnd (hspykeep2_commands_k _) fun _ => (.bnd (hspykeep2_fates_k _) fun _ => (.bnd (hspykeep2_fates_k _) fun _ => (.bnd (hspymake_Below_k _) fun _ => (.bnd (hlink_Run_k _) fun _ => (.bnd (hspymake_Below_k _) fun _ => (.bnd (hlink_Run_k _) fun _ => (.br (.br (.bnd (hslices_Equal_Exec_k _) fun _ => (.br .some (hL0k _))) .none) .none))))))))))
theorem f_b (k : Nat) : ∀ v : A, f k v = d (spykeep2_sends.f k) (spykeep2_commands.f k) (spykeep2_fates.f k) (spymake_Below.f k) (link_Run.f k) (slices_Equal_Exec.f k) (l0 k k) v := fun (v0, v1, v2) => (held_eq _).trans (by kernel_rfl)
theorem F_of (v : A) {r : R} (h : d spykeep2_sends.F spykeep2_commands.F spykeep2_fates.F spymake_Below.F link_Run.F slices_Equal_Exec.F D0 v = some r) : F v = some r :=
  join_of (l := fun L => f (L 0) v) (d := fun L => d (spykeep2_sends.f (L 0)) (spykeep2_commands.f (L 0)) (spykeep2_fates.f (L 0)) (spymake_Below.f (L 0)) (link_Run.f (L 0)) (slices_Equal_Exec.f (L 0)) (l0 (L 0) (L 0)) v) (fun L => f_b (L 0) v) (d_cn (spykeep2_sends.F_cn 0) (spykeep2_commands.F_cn 0) (spykeep2_fates.F_cn 0) (spymake_Below.F_cn 0) (link_Run.F_cn 0) (slices_Equal_Exec.F_cn 0) (fun v => (D0_cn v).re [0, 0]) v) h
noncomputable def spec (k : Nat) (args : List AV) (ss : List Slot) : Option Ans :=
  match args, ss with
  | [(.c (.frz (.int .i64) v0)), (.c (.int .i64 v1)), (.c (.int .i64 v2))], [] => some ⟨R, f k (v0, v1, v2), enc⟩
  | _, _ => none
theorem spec_ok (k : Nat) : SpecOk Try.prog 7 (spec k) := by
  intro args ss ans x h hx X σ w vals hp
  unfold spec at h
  split at h
  · cases h
    exact spec_of cs_ok Try.func7 rfl rfl dec_ok (held_eq _).symm hx hp
  · cases h
end spykeep2_LinkLonger
noncomputable def t_spykeep2_LinkLonger (k : Nat) := tcons 7 (spykeep2_LinkLonger.spec k) (t_slices_Equal_Exec k)
theorem t_spykeep2_LinkLonger_ok (n g : Nat) : SpecOk Try.prog g (t_spykeep2_LinkLonger n g) := tcons_ok (spykeep2_LinkLonger.spec_ok n) (fun g => t_slices_Equal_Exec_ok n g) g
namespace spykeep2_LinkPerfect
abbrev R : Type := Bool
abbrev A : Type := List Int
def lv : List (Nat × List Nat) := [(2000000, [2]), (6, [4, 18, 19]), (14, [6, 78, 79, 80])]
noncomputable def cs : Nat → Ctx := ctxOf tis modes t_spykeep2_LinkLonger lv
theorem cs_ok (n : Nat) : CtxOk Try.prog (cs n) := ctxOf_ok rfl tis_ok t_spykeep2_LinkLonger_ok n
def enc (r : R) : Out := ((.c (.bool r)), [])
def dec : Out → Option R
  | ((.c (.bool v0)), []) => some v0
  | _ => none
theorem dec_ok : ∀ u y, dec u = some y → u = enc y := by
  intro u y h
  unfold dec at h
  split at h
  · cases h; rfl
  · cases h
noncomputable def b0 : Code := subF [] Try.f8
noncomputable def K0 (k : Nat) : Kt R := kTop (cs k) Try.f8 dec
noncomputable def b6 : Code := sub [1, 1, 1, 1, 0, 1, 0, 0] b0
noncomputable def K6 ( k : Nat) : Kt R := kAt (cs k) (loopN cs k) [1, 1, 1, 1, 0, 1, 0] b0 (K0 k)
noncomputable def b14 : Code := sub [1, 1, 1, 1, 1, 1, 1, 0, 1, 0, 0] b0
noncomputable def K14 ( k : Nat) : Kt R := kAt (cs k) (loopN cs k) [1, 1, 1, 1, 1, 1, 1, 0, 1, 0] b0 (K0 k)
abbrev T0 : Type := Int × Int × List (Int × Int × Int)
def s0 : T0 → St := fun (v0, v1, v2) => ⟨117, 0, [(4, (.c (.sl 64000000))), (18, (.c (.int .i64 v0))), (19, (.c (.int .i64 v1)))], [], [(256000000, .gone), (64000000, (.row (.pair (.int .i64) (.pair (.int .i64) (.int .i64))) v2))]⟩
noncomputable def l0 ( k n : Nat) (v : T0) : Option R := held (loopN cs n b6 (K6 k) (s0 v))
noncomputable def D0 (v : T0) : Option R := lim fun L => l0 (L 0) (L 1) v
theorem D0_cn (v : T0) : Cn late (D0 v) fun L => l0 (L 0) (L 1) v := of_lim
abbrev T1 : Type := Int × Int × Int × Int × List (Int × Int) × List Int × List Int
def s1 : T1 → St := fun (v0, v1, v2, v3, v4, v5, v6) => ⟨117, 0, [(6, (.c (.ptr 64000000 0))), (78, (.c (.sl 64000001))), (79, (.c (.int .i64 v0))), (80, (.c (.int .i64 v1)))], [], [(256000000, .gone), (64000000, (.box [(.sl 64000001), (.sl 64000002), (.sl 64000003), (.int .i64 v2), (.int .i64 v3)])), (64000001, (.row (.pair (.int .i64) (.int .i64)) v4)), (64000002, (.row (.int .i64) v5)), (64000003, (.row (.int .i64) v6))]⟩
noncomputable def l1 ( k n : Nat) (v : T1) : Option R := held (loopN cs n b14 (K14 k) (s1 v))
noncomputable def D1 (v : T1) : Option R := lim fun L => l1 (L 0) (L 1) v
theorem D1_cn (v : T1) : Cn late (D1 v) fun L => l1 (L 0) (L 1) v := of_lim
def d0 (L0m1 : T0 → Option R) (link_Run_k : link_Run.A → Option link_Run.R) (L1k : T1 → Option R) : T0 → Option R := fun (v0, v1, v2) =>
br (decide (v1 < v0))
  (br (decide (0 ≤ v1 ∧ v1 < (↑v2.length : Int)))
    (br (decide (0 ≤ v1 ∧ v1 < (↑v2.length : Int)))
      (L0m1
        (v0, wrap IntKind.i64 (v1 + 1),
          v2.set v1.toNat
            ((rd ((Ty.int IntKind.i64).pair ((Ty.int IntKind.i64).pair (Ty.int IntKind.i64))) v2 v1).fst, (rd ((Ty.int IntKind.i64).pair ((Ty.int IntKind.i64).pair (Ty.int IntKind.i64))) v2 v1).snd.fst,
              max (rd ((Ty.int IntKind.i64).pair ((Ty.int IntKind.i64).pair (Ty.int IntKind.i64))) v2 v1).snd.snd (wrap IntKind.i64 (wrap IntKind.i64 (2 * v1) + 1)))))
      none)
    none)
  (bnd (link_Run_k (v2, [], [], wrap IntKind.i64 (wrap IntKind.i64 (2 * (↑v2.length : Int)) + 1))) fun r =>
    br
      (!decide (r.snd.snd.fst = 0) || !decide ((↑r.snd.snd.snd.fst.length : Int) = (↑v2.length : Int)) || !decide ((↑r.snd.snd.snd.snd.snd.length : Int) = (↑v2.length : Int)) || !decide (r.fst = (↑v2.length : Int)) ||
        !decide (r.snd.fst = (↑v2.length : Int)))
      (some false) (L1k ((↑r.snd.snd.snd.fst.length : Int), 0, r.fst, r.snd.fst, r.snd.snd.snd.fst, r.snd.snd.snd.snd.fst, r.snd.snd.snd.snd.snd)))
theorem d0_cn {ι : Type} {E : Fil ι} {L0m1 : T0 → Option R} {L0m1' : ι → T0 → Option R} (hL0m1 : ∀ v, Cn E (L0m1 v) fun i => L0m1' i v) {link_Run_k : link_Run.A → Option link_Run.R} {link_Run_k' : ι → link_Run.A → Option link_Run.R} (hlink_Run_k : ∀ v, Cn E (link_Run_k v) fun i => link_Run_k' i v) {L1k : T1 → Option R} {L1k' : ι → T1 → Option R} (hL1k : ∀ v, Cn E (L1k v) fun i => L1k' i v) : ∀ v : T0, Cn E (d0 L0m1 link_Run_k L1k v) fun i => d0 (L0m1' i) (link_Run_k' i) (L1k' i) v := fun (v0, v1, v2) => (.br (.br (.br (hL0m1 _) .none) .none) (.bnd (hlink_Run_k _) fun _ => (.br .some (hL1k _))))
theorem l0_b ( k m1 : Nat) : ∀ v : T0, run (cs m1) (loopN cs m1) b6 (kLoop cs m1 b6 (K6 k)) (s0 v) = d0 (l0 k m1) (link_Run.f k) (l1 k k) v := fun (v0, v1, v2) => by kernel_rfl
theorem D0_of (v : T0) {r : R} (h : d0 D0 link_Run.F D1 v = some r) : D0 v = some r :=
  loop_of 1 (l := fun L => l0 (L 0) (L 1) v) (d := fun L => d0 (l0 (L 0) (L 1)) (link_Run.f (L 0)) (l1 (L 0) (L 0)) v) (fun L n hn => by show l0 (L 0) (L 1) v = _; rw [hn]; exact (held_eq _).trans ((loopN_succ _ _ _ _ _).trans (l0_b (L 0) n v))) (d0_cn (fun v => (D0_cn v).re [0, 1]) (link_Run.F_cn 0) (fun v => (D1_cn v).re [0, 0]) v) h
def d1 (L1m1 : T1 → Option R) : T1 → Option R := fun (v0, v1, v2, v3, v4, v5, v6) =>
br (decide (v1 < v0))
  (br (decide (0 ≤ v1 ∧ v1 < (↑v4.length : Int)))
    (br
      (!(!decide ((rd ((Ty.int IntKind.i64).pair (Ty.int IntKind.i64)) v4 v1).fst = v1) || !decide ((rd ((Ty.int IntKind.i64).pair (Ty.int IntKind.i64)) v4 v1).snd = wrap IntKind.i64 (wrap IntKind.i64 (2 * v1) + 1))) ==
            false ||
        decide (0 ≤ v1 ∧ v1 < (↑v6.length : Int)))
      (br
        (!(!decide ((rd ((Ty.int IntKind.i64).pair (Ty.int IntKind.i64)) v4 v1).fst = v1) || !decide ((rd ((Ty.int IntKind.i64).pair (Ty.int IntKind.i64)) v4 v1).snd = wrap IntKind.i64 (wrap IntKind.i64 (2 * v1) + 1)) ||
                !decide (rd (Ty.int IntKind.i64) v6 v1 = wrap IntKind.i64 (wrap IntKind.i64 (2 * v1) + 2))) ==
              false ||
          decide (0 ≤ v1 ∧ v1 < (↑v5.length : Int)))
        (br
          (!decide ((rd ((Ty.int IntKind.i64).pair (Ty.int IntKind.i64)) v4 v1).fst = v1) || !decide ((rd ((Ty.int IntKind.i64).pair (Ty.int IntKind.i64)) v4 v1).snd = wrap IntKind.i64 (wrap IntKind.i64 (2 * v1) + 1)) ||
              !decide (rd (Ty.int IntKind.i64) v6 v1 = wrap IntKind.i64 (wrap IntKind.i64 (2 * v1) + 2)) ||
            !decide (rd (Ty.int IntKind.i64) v5 v1 = 2))
          (some false) (L1m1 (v0, wrap IntKind.i64 (v1 + 1), v2, v3, v4, v5, v6)))
        none)
      none)
    none)
  (some true)
theorem d1_cn {ι : Type} {E : Fil ι} {L1m1 : T1 → Option R} {L1m1' : ι → T1 → Option R} (hL1m1 : ∀ v, Cn E (L1m1 v) fun i => L1m1' i v) : ∀ v : T1, Cn E (d1 L1m1 v) fun i => d1 (L1m1' i) v := fun (v0, v1, v2, v3, v4, v5, v6) => (.br (.br (.br (.br (.br .some (hL1m1 _)) .none) .none) .none) .some)
theorem l1_b ( k m1 : Nat) : ∀ v : T1, run (cs m1) (loopN cs m1) b14 (kLoop cs m1 b14 (K14 k)) (s1 v) = d1 (l1 k m1) v := fun (v0, v1, v2, v3, v4, v5, v6) => by kernel_rfl
theorem D1_of (v : T1) {r : R} (h : d1 D1 v = some r) : D1 v = some r :=
  loop_of 1 (l := fun L => l1 (L 0) (L 1) v) (d := fun L => d1 (l1 (L 0) (L 1)) v) (fun L n hn => by show l1 (L 0) (L 1) v = _; rw [hn]; exact (held_eq _).trans ((loopN_succ _ _ _ _ _).trans (l1_b (L 0) n v))) (d1_cn (fun v => (D1_cn v).re [0, 1]) v) h
noncomputable def f (k : Nat) : A → Option R := fun v0 => held (runFn cs k Try.f8 [(.c (.frz (.int .i64) v0))] [] dec)
noncomputable def F (v : A) : Option R := lim fun L => f (L 0) v
theorem F_cn (x : Nat) (v : A) : Cn late (F v) fun L => f (L x) v := of_lim.re [x]
def d (spykeep2_sends_k : spykeep2_sends.A → Option spykeep2_sends.R) (spykeep2_commands_k : spykeep2_commands.A → Option spykeep2_commands.R) (L0k : T0 → Option R) : A → Option R := fun v0 =>
bnd (spykeep2_sends_k ()) fun r => br (!r) (some false) (bnd (spykeep2_commands_k (v0, 0)) fun r => L0k ((↑r.snd.snd.length : Int), 0, r.snd.snd))
theorem d_cn {ι : Type} {E : Fil ι} {spykeep2_sends_k : spykeep2_sends.A → Option spykeep2_sends.R} {spykeep2_sends_k' : ι → spykeep2_sends.A → Option spykeep2_sends.R} (hspykeep2_sends_k : ∀ v, Cn E (spykeep2_sends_k v) fun i => spykeep2_sends_k' i v) {spykeep2_commands_k : spykeep2_commands.A → Option spykeep2_commands.R} {spykeep2_commands_k' : ι → spykeep2_commands.A → Option spykeep2_commands.R} (hspykeep2_commands_k : ∀ v, Cn E (spykeep2_commands_k v) fun i => spykeep2_commands_k' i v) {L0k : T0 → Option R} {L0k' : ι → T0 → Option R} (hL0k : ∀ v, Cn E (L0k v) fun i => L0k' i v) : ∀ v : A, Cn E (d spykeep2_sends_k spykeep2_commands_k L0k v) fun i => d (spykeep2_sends_k' i) (spykeep2_commands_k' i) (L0k' i) v := fun v0 => (.bnd (hspykeep2_sends_k _) fun _ => (.br .some (.bnd (hspykeep2_commands_k _) fun _ => (hL0k _))))
theorem f_b (k : Nat) : ∀ v : A, f k v = d (spykeep2_sends.f k) (spykeep2_commands.f k) (l0 k k) v := fun v0 => (held_eq _).trans (by kernel_rfl)
theorem F_of (v : A) {r : R} (h : d spykeep2_sends.F spykeep2_commands.F D0 v = some r) : F v = some r :=
  join_of (l := fun L => f (L 0) v) (d := fun L => d (spykeep2_sends.f (L 0)) (spykeep2_commands.f (L 0)) (l0 (L 0) (L 0)) v) (fun L => f_b (L 0) v) (d_cn (spykeep2_sends.F_cn 0) (spykeep2_commands.F_cn 0) (fun v => (D0_cn v).re [0, 0]) v) h
noncomputable def spec (k : Nat) (args : List AV) (ss : List Slot) : Option Ans :=
  match args, ss with
  | [(.c (.frz (.int .i64) v0))], [] => some ⟨R, f k v0, enc⟩
  | _, _ => none
theorem spec_ok (k : Nat) : SpecOk Try.prog 8 (spec k) := by
  intro args ss ans x h hx X σ w vals hp
  unfold spec at h
  split at h
  · cases h
    exact spec_of cs_ok Try.func8 rfl rfl dec_ok (held_eq _).symm hx hp
  · cases h
end spykeep2_LinkPerfect
noncomputable def t_spykeep2_LinkPerfect (k : Nat) := tcons 8 (spykeep2_LinkPerfect.spec k) (t_spykeep2_LinkLonger k)
theorem t_spykeep2_LinkPerfect_ok (n g : Nat) : SpecOk Try.prog g (t_spykeep2_LinkPerfect n g) := tcons_ok (spykeep2_LinkPerfect.spec_ok n) (fun g => t_spykeep2_LinkLonger_ok n g) g
namespace link_Calm
abbrev R : Type := Int
abbrev A : Type := List (Int × Int × Int) × List (Bool × Int × Int × List Int) × List (Bool × Int × Int × List Int)
def lv : List (Nat × List Nat) := [(2000000, [6])]
noncomputable def cs : Nat → Ctx := ctxOf tis modes t_spykeep2_LinkPerfect lv
theorem cs_ok (n : Nat) : CtxOk Try.prog (cs n) := ctxOf_ok rfl tis_ok t_spykeep2_LinkPerfect_ok n
def enc (r : R) : Out := ((.c (.int .i64 r)), [])
def dec : Out → Option R
  | ((.c (.int .i64 v0)), []) => some v0
  | _ => none
theorem dec_ok : ∀ u y, dec u = some y → u = enc y := by
  intro u y h
  unfold dec at h
  split at h
  · cases h; rfl
  · cases h
noncomputable def b0 : Code := subF [] Try.f27
noncomputable def K0 (k : Nat) : Kt R := kTop (cs k) Try.f27 dec
noncomputable def f (k : Nat) : A → Option R := fun (v0, v1, v2) => held (runFn cs k Try.f27 [(.c (.frz (.pair (.int .i64) (.pair (.int .i64) (.int .i64))) v0)), (.c (.frz (.pair .bool (.pair (.int .i64) (.pair (.int .i64) (.slice (.int .i64))))) v1)), (.c (.frz (.pair .bool (.pair (.int .i64) (.pair (.int .i64) (.slice (.int .i64))))) v2))] [] dec)
noncomputable def F (v : A) : Option R := lim fun L => f (L 0) v
theorem F_cn (x : Nat) (v : A) : Cn late (F v) fun L => f (L x) v := of_lim.re [x]
def d : A → Option R := fun (v0, v1, v2) =>
some (wrap IntKind.i64 (wrap IntKind.i64 (4 * wrap IntKind.i64 (wrap IntKind.i64 ((↑v0.length : Int) + (↑v1.length : Int)) + (↑v2.length : Int))) + 2))
theorem d_cn {ι : Type} {E : Fil ι} : ∀ v : A, Cn E (d v) fun i => d v := fun (v0, v1, v2) => .some
theorem f_b (k : Nat) : ∀ v : A, f k v = d v := fun (v0, v1, v2) => (held_eq _).trans (by kernel_rfl)
theorem F_of (v : A) {r : R} (h : d v = some r) : F v = some r :=
  join_of (l := fun L => f (L 0) v) (d := fun L => d v) (fun L => f_b (L 0) v) (d_cn v) h
noncomputable def spec (k : Nat) (args : List AV) (ss : List Slot) : Option Ans :=
  match args, ss with
  | [(.c (.frz (.pair (.int .i64) (.pair (.int .i64) (.int .i64))) v0)), (.c (.frz (.pair .bool (.pair (.int .i64) (.pair (.int .i64) (.slice (.int .i64))))) v1)), (.c (.frz (.pair .bool (.pair (.int .i64) (.pair (.int .i64) (.slice (.int .i64))))) v2))], [] => some ⟨R, f k (v0, v1, v2), enc⟩
  | _, _ => none
theorem spec_ok (k : Nat) : SpecOk Try.prog 27 (spec k) := by
  intro args ss ans x h hx X σ w vals hp
  unfold spec at h
  split at h
  · cases h
    exact spec_of cs_ok Try.func27 rfl rfl dec_ok (held_eq _).symm hx hp
  · cases h
end link_Calm
noncomputable def t_link_Calm (k : Nat) := tcons 27 (link_Calm.spec k) (t_spykeep2_LinkPerfect k)
theorem t_link_Calm_ok (n g : Nat) : SpecOk Try.prog g (t_link_Calm n g) := tcons_ok (link_Calm.spec_ok n) (fun g => t_spykeep2_LinkPerfect_ok n g) g
namespace spykeep2_LinkCalm
abbrev R : Type := Bool
abbrev A : Type := List Int
def lv : List (Nat × List Nat) := [(2000000, [2]), (10, [7, 9, 45, 46, 47]), (1000016, [7, 9, 45, 46, 47])]
noncomputable def cs : Nat → Ctx := ctxOf tis modes t_link_Calm lv
theorem cs_ok (n : Nat) : CtxOk Try.prog (cs n) := ctxOf_ok rfl tis_ok t_link_Calm_ok n
def enc (r : R) : Out := ((.c (.bool r)), [])
def dec : Out → Option R
  | ((.c (.bool v0)), []) => some v0
  | _ => none
theorem dec_ok : ∀ u y, dec u = some y → u = enc y := by
  intro u y h
  unfold dec at h
  split at h
  · cases h; rfl
  · cases h
noncomputable def b0 : Code := subF [] Try.f9
noncomputable def K0 (k : Nat) : Kt R := kTop (cs k) Try.f9 dec
noncomputable def b10 : Code := sub [1, 1, 1, 1, 1, 1, 1, 0, 1, 0, 0] b0
noncomputable def K10 ( k : Nat) : Kt R := kAt (cs k) (loopN cs k) [1, 1, 1, 1, 1, 1, 1, 0, 1, 0] b0 (K0 k)
noncomputable def c1000016 : Code := sub [1, 1, 1] b10
noncomputable def J1000016 ( k m1 : Nat) : Kt R := kAt (cs m1) (loopN cs m1) [1, 1, 1] b10 (kLoop cs m1 b10 (K10 k))
abbrev T0 : Type := Int × Int × Int × Int × Int × List Int × List (Int × Int) × List Int
def s0 : T0 → St := fun (v0, v1, v2, v3, v4, v5, v6, v7) => ⟨67, 0, [(7, (.c (.ptr 64000000 0))), (9, (.c (.int .i64 v0))), (45, (.c (.sl 64000001))), (46, (.c (.int .i64 v1))), (47, (.c (.int .i64 v2)))], [], [(256000000, .gone), (64000000, (.box [(.sl 64000002), (.sl 64000001), (.sl 64000003), (.int .i64 v3), (.int .i64 v4)])), (64000001, (.row (.int .i64) v5)), (64000002, (.row (.pair (.int .i64) (.int .i64)) v6)), (64000003, (.row (.int .i64) v7))]⟩
noncomputable def l0 ( k n : Nat) (v : T0) : Option R := held (loopN cs n b10 (K10 k) (s0 v))
noncomputable def D0 (v : T0) : Option R := lim fun L => l0 (L 0) (L 1) v
theorem D0_cn (v : T0) : Cn late (D0 v) fun L => l0 (L 0) (L 1) v := of_lim
abbrev T1 : Type := Int × Int × Int × Int × Int × List Int × List (Int × Int) × List Int
def s1 : T1 → St := fun (v0, v1, v2, v3, v4, v5, v6, v7) => ⟨67, 0, [(7, (.c (.ptr 64000000 0))), (9, (.c (.int .i64 v0))), (45, (.c (.sl 64000001))), (46, (.c (.int .i64 v1))), (47, (.c (.int .i64 v2)))], [], [(256000000, .gone), (64000000, (.box [(.sl 64000002), (.sl 64000001), (.sl 64000003), (.int .i64 v3), (.int .i64 v4)])), (64000001, (.row (.int .i64) v5)), (64000002, (.row (.pair (.int .i64) (.int .i64)) v6)), (64000003, (.row (.int .i64) v7))]⟩
noncomputable def l1 ( k m1 : Nat) (v : T1) : Option R := held (run (cs m1) (loopN cs m1) c1000016 (J1000016 k m1) (s1 v))
noncomputable def D1 (v : T1) : Option R := lim fun L => l1 (L 0) (L 1) v
theorem D1_cn (v : T1) : Cn late (D1 v) fun L => l1 (L 0) (L 1) v := of_lim
def d0 (L1m1 : T1 → Option R) : T0 → Option R := fun (v0, v1, v2, v3, v4, v5, v6, v7) =>
br (decide (v2 < v1))
  (br (decide (0 ≤ v2 ∧ v2 < (↑v5.length : Int)))
    (br (!decide (rd (Ty.int IntKind.i64) v5 v2 = 2) && !decide (rd (Ty.int IntKind.i64) v5 v2 = 3)) (some false)
      (br (decide (rd (Ty.int IntKind.i64) v5 v2 = 2)) (L1m1 (wrap IntKind.i64 (v0 + 1), v1, v2, v3, v4, v5, v6, v7)) (L1m1 (v0, v1, v2, v3, v4, v5, v6, v7))))
    none)
  (some (decide (v0 = (↑v6.length : Int))))
theorem d0_cn {ι : Type} {E : Fil ι} {L1m1 : T1 → Option R} {L1m1' : ι → T1 → Option R} (hL1m1 : ∀ v, Cn E (L1m1 v) fun i => L1m1' i v) : ∀ v : T0, Cn E (d0 L1m1 v) fun i => d0 (L1m1' i) v := fun (v0, v1, v2, v3, v4, v5, v6, v7) => (.br (.br (.br .some (.br (hL1m1 _) (hL1m1 _))) .none) .some)
theorem l0_b ( k m1 : Nat) : ∀ v : T0, run (cs m1) (loopN cs m1) b10 (kLoop cs m1 b10 (K10 k)) (s0 v) = d0 (l1 k m1) v := fun (v0, v1, v2, v3, v4, v5, v6, v7) => by kernel_rfl
theorem D0_of (v : T0) {r : R} (h : d0 D1 v = some r) : D0 v = some r :=
  loop_of 1 (l := fun L => l0 (L 0) (L 1) v) (d := fun L => d0 (l1 (L 0) (L 1)) v) (fun L n hn => by show l0 (L 0) (L 1) v = _; rw [hn]; exact (held_eq _).trans ((loopN_succ _ _ _ _ _).trans (l0_b (L 0) n v))) (d0_cn (fun v => (D1_cn v).re [0, 1]) v) h
def d1 (L0m1 : T0 → Option R) : T1 → Option R := fun (v0, v1, v2, v3, v4, v5, v6, v7) =>
L0m1 (v0, v1, wrap IntKind.i64 (v2 + 1), v3, v4, v5, v6, v7)
theorem d1_cn {ι : Type} {E : Fil ι} {L0m1 : T0 → Option R} {L0m1' : ι → T0 → Option R} (hL0m1 : ∀ v, Cn E (L0m1 v) fun i => L0m1' i v) : ∀ v : T1, Cn E (d1 L0m1 v) fun i => d1 (L0m1' i) v := fun (v0, v1, v2, v3, v4, v5, v6, v7) => (hL0m1 _)
theorem l1_b ( k m1 : Nat) : ∀ v : T1, run (cs m1) (loopN cs m1) c1000016 (J1000016 k m1) (s1 v) = d1 (l0 k m1) v := fun (v0, v1, v2, v3, v4, v5, v6, v7) => by kernel_rfl
theorem D1_of (v : T1) {r : R} (h : d1 D0 v = some r) : D1 v = some r :=
  join_of (l := fun L => l1 (L 0) (L 1) v) (d := fun L => d1 (l0 (L 0) (L 1)) v) (fun L => (held_eq _).trans (l1_b (L 0) (L 1) v)) (d1_cn (fun v => (D0_cn v).re [0, 1]) v) h
noncomputable def f (k : Nat) : A → Option R := fun v0 => held (runFn cs k Try.f9 [(.c (.frz (.int .i64) v0))] [] dec)
noncomputable def F (v : A) : Option R := lim fun L => f (L 0) v
theorem F_cn (x : Nat) (v : A) : Cn late (F v) fun L => f (L x) v := of_lim.re [x]
def d (spykeep2_sends_k : spykeep2_sends.A → Option spykeep2_sends.R) (spykeep2_commands_k : spykeep2_commands.A → Option spykeep2_commands.R) (spykeep2_fates_k : spykeep2_fates.A → Option spykeep2_fates.R) (link_Calm_k : link_Calm.A → Option link_Calm.R) (link_Run_k : link_Run.A → Option link_Run.R) (L0k : T0 → Option R) : A → Option R := fun v0 =>
bnd (spykeep2_sends_k ()) fun r =>
  br (!r) (some false)
    (bnd (spykeep2_commands_k (v0, 0)) fun r =>
      bnd (spykeep2_fates_k (r.fst, r.snd.fst)) fun r_1 =>
        bnd (spykeep2_fates_k (r_1.fst, r_1.snd.fst)) fun r_2 =>
          bnd (link_Calm_k (r.snd.snd, r_1.snd.snd, r_2.snd.snd)) fun r_3 =>
            bnd (link_Run_k (r.snd.snd, r_1.snd.snd, r_2.snd.snd, r_3)) fun r_4 =>
              br (!decide (r_4.snd.snd.fst = 0) || !decide ((↑r_4.snd.snd.snd.snd.fst.length : Int) = (↑r.snd.snd.length : Int))) (some false)
                (L0k (0, (↑r_4.snd.snd.snd.snd.fst.length : Int), 0, r_4.fst, r_4.snd.fst, r_4.snd.snd.snd.snd.fst, r_4.snd.snd.snd.fst, r_4.snd.snd.snd.snd.snd)))
theorem d_cn {ι : Type} {E : Fil ι} {spykeep2_sends_k : spykeep2_sends.A → Option spykeep2_sends.R} {spykeep2_sends_k' : ι → spykeep2_sends.A → Option spykeep2_sends.R} (hspykeep2_sends_k : ∀ v, Cn E (spykeep2_sends_k v) fun i => spykeep2_sends_k' i v) {spykeep2_commands_k : spykeep2_commands.A → Option spykeep2_commands.R} {spykeep2_commands_k' : ι → spykeep2_commands.A → Option spykeep2_commands.R} (hspykeep2_commands_k : ∀ v, Cn E (spykeep2_commands_k v) fun i => spykeep2_commands_k' i v) {spykeep2_fates_k : spykeep2_fates.A → Option spykeep2_fates.R} {spykeep2_fates_k' : ι → spykeep2_fates.A → Option spykeep2_fates.R} (hspykeep2_fates_k : ∀ v, Cn E (spykeep2_fates_k v) fun i => spykeep2_fates_k' i v) {link_Calm_k : link_Calm.A → Option link_Calm.R} {link_Calm_k' : ι → link_Calm.A → Option link_Calm.R} (hlink_Calm_k : ∀ v, Cn E (link_Calm_k v) fun i => link_Calm_k' i v) {link_Run_k : link_Run.A → Option link_Run.R} {link_Run_k' : ι → link_Run.A → Option link_Run.R} (hlink_Run_k : ∀ v, Cn E (link_Run_k v) fun i => link_Run_k' i v) {L0k : T0 → Option R} {L0k' : ι → T0 → Option R} (hL0k : ∀ v, Cn E (L0k v) fun i => L0k' i v) : ∀ v : A, Cn E (d spykeep2_sends_k spykeep2_commands_k spykeep2_fates_k link_Calm_k link_Run_k L0k v) fun i => d (spykeep2_sends_k' i) (spykeep2_commands_k' i) (spykeep2_fates_k' i) (link_Calm_k' i) (link_Run_k' i) (L0k' i) v := fun v0 => (.bnd (hspykeep2_sends_k _) fun _ => (.br .some (.bnd (hspykeep2_commands_k _) fun _ => (.bnd (hspykeep2_fates_k _) fun _ => (.bnd (hspykeep2_fates_k _) fun _ => (.bnd (hlink_Calm_k _) fun _ => (.bnd (hlink_Run_k _) fun _ => (.br .some (hL0k _)))))))))
theorem f_b (k : Nat) : ∀ v : A, f k v = d (spykeep2_sends.f k) (spykeep2_commands.f k) (spykeep2_fates.f k) (link_Calm.f k) (link_Run.f k) (l0 k k) v := fun v0 => (held_eq _).trans (by kernel_rfl)
theorem F_of (v : A) {r : R} (h : d spykeep2_sends.F spykeep2_commands.F spykeep2_fates.F link_Calm.F link_Run.F D0 v = some r) : F v = some r :=
  join_of (l := fun L => f (L 0) v) (d := fun L => d (spykeep2_sends.f (L 0)) (spykeep2_commands.f (L 0)) (spykeep2_fates.f (L 0)) (link_Calm.f (L 0)) (link_Run.f (L 0)) (l0 (L 0) (L 0)) v) (fun L => f_b (L 0) v) (d_cn (spykeep2_sends.F_cn 0) (spykeep2_commands.F_cn 0) (spykeep2_fates.F_cn 0) (link_Calm.F_cn 0) (link_Run.F_cn 0) (fun v => (D0_cn v).re [0, 0]) v) h
noncomputable def spec (k : Nat) (args : List AV) (ss : List Slot) : Option Ans :=
  match args, ss with
  | [(.c (.frz (.int .i64) v0))], [] => some ⟨R, f k v0, enc⟩
  | _, _ => none
theorem spec_ok (k : Nat) : SpecOk Try.prog 9 (spec k) := by
  intro args ss ans x h hx X σ w vals hp
  unfold spec at h
  split at h
  · cases h
    exact spec_of cs_ok Try.func9 rfl rfl dec_ok (held_eq _).symm hx hp
  · cases h
end spykeep2_LinkCalm
noncomputable def t_spykeep2_LinkCalm (k : Nat) := tcons 9 (spykeep2_LinkCalm.spec k) (t_link_Calm k)
theorem t_spykeep2_LinkCalm_ok (n g : Nat) : SpecOk Try.prog g (t_spykeep2_LinkCalm n g) := tcons_ok (spykeep2_LinkCalm.spec_ok n) (fun g => t_link_Calm_ok n g) g

end Go.Proofs.RLink
