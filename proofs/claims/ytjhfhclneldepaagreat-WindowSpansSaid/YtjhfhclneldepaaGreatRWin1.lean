import Derived.Test.YtjhfhclneldepaaGreatRWin0
import Derived.Test.YtjhfhclneldepaaGreatProg
namespace Go.Proofs.RWin
open Go Go.Eng Go.Proofs
set_option maxRecDepth 100000
set_option linter.unusedVariables false
namespace slices_Min_Fix
abbrev R : Type := Int
abbrev A : Type := List Int
def lv : List (Nat × List Nat) := [(2000000, [2]), (5, [0, 3, 4])]
noncomputable def cs : Nat → Ctx := ctxOf tis modes t_bound_Mul_FixS2 lv
theorem cs_ok (n : Nat) : CtxOk Tryz.prog (cs n) := ctxOf_ok rfl tis_ok t_bound_Mul_FixS2_ok n
def enc (r : R) : Out := ((.c (.int .i64 r)), [])
def dec : Out → Option R
  | ((.c (.int .i64 v0)), []) => some v0
  | _ => none
theorem dec_ok : ∀ u y, dec u = some y → u = enc y := by
  intro u y h
  unfold dec at h
  split at h
  · cases h; rfl
  · cases h
noncomputable def b0 : Code := subF [] Tryz.f99
noncomputable def K0 (k : Nat) : Kt R := kTop (cs k) Tryz.f99 dec
noncomputable def b5 : Code := sub [1, 1, 1, 0, 1, 0, 0] b0
noncomputable def K5 ( k : Nat) : Kt R := kAt (cs k) (loopN cs k) [1, 1, 1, 0, 1, 0] b0 (K0 k)
abbrev T0 : Type := List Int × Int × Int
def s0 : T0 → St := fun (v0, v1, v2) => ⟨25, 0, [(0, (.c (.frz (.int .i64) v0))), (3, (.c (.int .i64 v1))), (4, (.c (.int .i64 v2)))], [], [(256000000, .gone)]⟩
noncomputable def l0 ( k n : Nat) (v : T0) : Option R := held (loopN cs n b5 (K5 k) (s0 v))
noncomputable def D0 (v : T0) : Option R := lim fun L => l0 (L 0) (L 1) v
theorem D0_cn (v : T0) : Cn late (D0 v) fun L => l0 (L 0) (L 1) v := of_lim
def d0 (L0m1 : T0 → Option R) : T0 → Option R := fun (v0, v1, v2) =>
br (decide (v2 < (↑v0.length : Int))) (br (decide (0 ≤ v2 ∧ v2 < (↑v0.length : Int))) (L0m1 (v0, min v1 (rd (Ty.int IntKind.i64) v0 v2), wrap IntKind.i64 (v2 + 1))) none) (some v1)
theorem d0_cn {ι : Type} {E : Fil ι} {L0m1 : T0 → Option R} {L0m1' : ι → T0 → Option R} (hL0m1 : ∀ v, Cn E (L0m1 v) fun i => L0m1' i v) : ∀ v : T0, Cn E (d0 L0m1 v) fun i => d0 (L0m1' i) v := fun (v0, v1, v2) => (.br (.br (hL0m1 _) .none) .some)
theorem l0_b ( k m1 : Nat) : ∀ v : T0, run (cs m1) (loopN cs m1) b5 (kLoop cs m1 b5 (K5 k)) (s0 v) = d0 (l0 k m1) v := fun (v0, v1, v2) => by kernel_rfl
theorem D0_of (v : T0) {r : R} (h : d0 D0 v = some r) : D0 v = some r :=
  loop_of 1 (l := fun L => l0 (L 0) (L 1) v) (d := fun L => d0 (l0 (L 0) (L 1)) v) (fun L n hn => by show l0 (L 0) (L 1) v = _; rw [hn]; exact (held_eq _).trans ((loopN_succ _ _ _ _ _).trans (l0_b (L 0) n v))) (d0_cn (fun v => (D0_cn v).re [0, 1]) v) h
noncomputable def f (k : Nat) : A → Option R := fun v0 => held (runFn cs k Tryz.f99 [(.c (.frz (.int .i64) v0))] [] dec)
noncomputable def F (v : A) : Option R := lim fun L => f (L 0) v
theorem F_cn (x : Nat) (v : A) : Cn late (F v) fun L => f (L x) v := of_lim.re [x]
def d (L0k : T0 → Option R) : A → Option R := fun v0 =>
br (decide ((↑v0.length : Int) < 1)) none (br (decide ((0 : Int) ≤ 0 ∧ 0 < (↑v0.length : Int))) (L0k (v0, rd (Ty.int IntKind.i64) v0 0, 1)) none)
theorem d_cn {ι : Type} {E : Fil ι} {L0k : T0 → Option R} {L0k' : ι → T0 → Option R} (hL0k : ∀ v, Cn E (L0k v) fun i => L0k' i v) : ∀ v : A, Cn E (d L0k v) fun i => d (L0k' i) v := fun v0 => (.br .none (.br (hL0k _) .none))
theorem f_b (k : Nat) : ∀ v : A, f k v = d (l0 k k) v := fun v0 => (held_eq _).trans (by kernel_rfl)
theorem F_of (v : A) {r : R} (h : d D0 v = some r) : F v = some r :=
  join_of (l := fun L => f (L 0) v) (d := fun L => d (l0 (L 0) (L 0)) v) (fun L => f_b (L 0) v) (d_cn (fun v => (D0_cn v).re [0, 0]) v) h
noncomputable def spec (k : Nat) (args : List AV) (ss : List Slot) : Option Ans :=
  match args, ss with
  | [(.c (.frz (.int .i64) v0))], [] => some ⟨R, f k v0, enc⟩
  | _, _ => none
theorem spec_ok (k : Nat) : SpecOk Tryz.prog 99 (spec k) := by
  intro args ss ans x h hx X σ w vals hp
  unfold spec at h
  split at h
  · cases h
    exact spec_of cs_ok Tryz.func99 rfl rfl dec_ok (held_eq _).symm hx hp
  · cases h
end slices_Min_Fix
noncomputable def t_slices_Min_Fix (k : Nat) := tcons 99 (slices_Min_Fix.spec k) (t_bound_Mul_FixS2 k)
theorem t_slices_Min_Fix_ok (n g : Nat) : SpecOk Tryz.prog g (t_slices_Min_Fix n g) := tcons_ok (slices_Min_Fix.spec_ok n) (fun g => t_bound_Mul_FixS2_ok n g) g
namespace slices_Max_Fix
abbrev R : Type := Int
abbrev A : Type := List Int
def lv : List (Nat × List Nat) := [(2000000, [2]), (5, [0, 3, 4])]
noncomputable def cs : Nat → Ctx := ctxOf tis modes t_slices_Min_Fix lv
theorem cs_ok (n : Nat) : CtxOk Tryz.prog (cs n) := ctxOf_ok rfl tis_ok t_slices_Min_Fix_ok n
def enc (r : R) : Out := ((.c (.int .i64 r)), [])
def dec : Out → Option R
  | ((.c (.int .i64 v0)), []) => some v0
  | _ => none
theorem dec_ok : ∀ u y, dec u = some y → u = enc y := by
  intro u y h
  unfold dec at h
  split at h
  · cases h; rfl
  · cases h
noncomputable def b0 : Code := subF [] Tryz.f100
noncomputable def K0 (k : Nat) : Kt R := kTop (cs k) Tryz.f100 dec
noncomputable def b5 : Code := sub [1, 1, 1, 0, 1, 0, 0] b0
noncomputable def K5 ( k : Nat) : Kt R := kAt (cs k) (loopN cs k) [1, 1, 1, 0, 1, 0] b0 (K0 k)
abbrev T0 : Type := List Int × Int × Int
def s0 : T0 → St := fun (v0, v1, v2) => ⟨25, 0, [(0, (.c (.frz (.int .i64) v0))), (3, (.c (.int .i64 v1))), (4, (.c (.int .i64 v2)))], [], [(256000000, .gone)]⟩
noncomputable def l0 ( k n : Nat) (v : T0) : Option R := held (loopN cs n b5 (K5 k) (s0 v))
noncomputable def D0 (v : T0) : Option R := lim fun L => l0 (L 0) (L 1) v
theorem D0_cn (v : T0) : Cn late (D0 v) fun L => l0 (L 0) (L 1) v := of_lim
def d0 (L0m1 : T0 → Option R) : T0 → Option R := fun (v0, v1, v2) =>
br (decide (v2 < (↑v0.length : Int))) (br (decide (0 ≤ v2 ∧ v2 < (↑v0.length : Int))) (L0m1 (v0, max v1 (rd (Ty.int IntKind.i64) v0 v2), wrap IntKind.i64 (v2 + 1))) none) (some v1)
theorem d0_cn {ι : Type} {E : Fil ι} {L0m1 : T0 → Option R} {L0m1' : ι → T0 → Option R} (hL0m1 : ∀ v, Cn E (L0m1 v) fun i => L0m1' i v) : ∀ v : T0, Cn E (d0 L0m1 v) fun i => d0 (L0m1' i) v := fun (v0, v1, v2) => (.br (.br (hL0m1 _) .none) .some)
theorem l0_b ( k m1 : Nat) : ∀ v : T0, run (cs m1) (loopN cs m1) b5 (kLoop cs m1 b5 (K5 k)) (s0 v) = d0 (l0 k m1) v := fun (v0, v1, v2) => by kernel_rfl
theorem D0_of (v : T0) {r : R} (h : d0 D0 v = some r) : D0 v = some r :=
  loop_of 1 (l := fun L => l0 (L 0) (L 1) v) (d := fun L => d0 (l0 (L 0) (L 1)) v) (fun L n hn => by show l0 (L 0) (L 1) v = _; rw [hn]; exact (held_eq _).trans ((loopN_succ _ _ _ _ _).trans (l0_b (L 0) n v))) (d0_cn (fun v => (D0_cn v).re [0, 1]) v) h
noncomputable def f (k : Nat) : A → Option R := fun v0 => held (runFn cs k Tryz.f100 [(.c (.frz (.int .i64) v0))] [] dec)
noncomputable def F (v : A) : Option R := lim fun L => f (L 0) v
theorem F_cn (x : Nat) (v : A) : Cn late (F v) fun L => f (L x) v := of_lim.re [x]
def d (L0k : T0 → Option R) : A → Option R := fun v0 =>
br (decide ((↑v0.length : Int) < 1)) none (br (decide ((0 : Int) ≤ 0 ∧ 0 < (↑v0.length : Int))) (L0k (v0, rd (Ty.int IntKind.i64) v0 0, 1)) none)
theorem d_cn {ι : Type} {E : Fil ι} {L0k : T0 → Option R} {L0k' : ι → T0 → Option R} (hL0k : ∀ v, Cn E (L0k v) fun i => L0k' i v) : ∀ v : A, Cn E (d L0k v) fun i => d (L0k' i) v := fun v0 => (.br .none (.br (hL0k _) .none))
theorem f_b (k : Nat) : ∀ v : A, f k v = d (l0 k k) v := fun v0 => (held_eq _).trans (by kernel_rfl)
theorem F_of (v : A) {r : R} (h : d D0 v = some r) : F v = some r :=
  join_of (l := fun L => f (L 0) v) (d := fun L => d (l0 (L 0) (L 0)) v) (fun L => f_b (L 0) v) (d_cn (fun v => (D0_cn v).re [0, 0]) v) h
noncomputable def spec (k : Nat) (args : List AV) (ss : List Slot) : Option Ans :=
  match args, ss with
  | [(.c (.frz (.int .i64) v0))], [] => some ⟨R, f k v0, enc⟩
  | _, _ => none
theorem spec_ok (k : Nat) : SpecOk Tryz.prog 100 (spec k) := by
  intro args ss ans x h hx X σ w vals hp
  unfold spec at h
  split at h
  · cases h
    exact spec_of cs_ok Tryz.func100 rfl rfl dec_ok (held_eq _).symm hx hp
  · cases h
end slices_Max_Fix
noncomputable def t_slices_Max_Fix (k : Nat) := tcons 100 (slices_Max_Fix.spec k) (t_slices_Min_Fix k)
theorem t_slices_Max_Fix_ok (n g : Nat) : SpecOk Tryz.prog g (t_slices_Max_Fix n g) := tcons_ok (slices_Max_Fix.spec_ok n) (fun g => t_slices_Min_Fix_ok n g) g
namespace bound_corners_Fix
abbrev R : Type := Int × Int × Bool × Int
abbrev A : Type := Int × Int × Bool × Int × Int × Bool × Int
def lv : List (Nat × List Nat) := [(2000000, [8]), (3, [2, 3, 5, 8, 9, 22, 23, 24]), (6, [2, 3, 5, 8, 9, 11, 22, 23, 24, 32, 33, 34])]
noncomputable def cs : Nat → Ctx := ctxOf tis modes t_slices_Max_Fix lv
theorem cs_ok (n : Nat) : CtxOk Tryz.prog (cs n) := ctxOf_ok rfl tis_ok t_slices_Max_Fix_ok n
def enc (r : R) : Out := ((.agg [(.int .i64 r.1), (.int .i64 r.2.1), (.bool r.2.2.1)]), [(.box [(.int .i64 r.2.2.2)])])
def dec : Out → Option R
  | ((.agg [(.int .i64 v0), (.int .i64 v1), (.bool v2)]), [(.box [(.int .i64 v3)])]) => some (v0, v1, v2, v3)
  | _ => none
theorem dec_ok : ∀ u y, dec u = some y → u = enc y := by
  intro u y h
  unfold dec at h
  split at h
  · cases h; rfl
  · cases h
noncomputable def b0 : Code := subF [] Tryz.f68
noncomputable def K0 (k : Nat) : Kt R := kTop (cs k) Tryz.f68 dec
noncomputable def b3 : Code := sub [1, 1, 0, 1, 0, 0] b0
noncomputable def K3 ( k : Nat) : Kt R := kAt (cs k) (loopN cs k) [1, 1, 0, 1, 0] b0 (K0 k)
noncomputable def b6 : Code := sub [1, 1, 0, 0, 1, 1, 0, 0] b3
noncomputable def K6 ( k m1 : Nat) : Kt R := kAt (cs m1) (loopN cs m1) [1, 1, 0, 0, 1, 1, 0] b3 (kLoop cs m1 b3 (K3 k))
abbrev T0 : Type := Int × Int × Int × Int × Int × Bool × Int × Int × Bool × List Int × List Int
def s0 : T0 → St := fun (v0, v1, v2, v3, v4, v5, v6, v7, v8, v9, v10) => ⟨71, 1, [(2, (.c (.func 69 [(128000000, 0)]))), (3, (.c (.func 70 [(128000000, 0)]))), (5, (.c (.ptr 64000000 0))), (8, (.c (.ptr 64000001 0))), (9, (.c (.sl 64000002))), (22, (.c (.sl 64000003))), (23, (.c (.int .i64 v0))), (24, (.c (.int .i64 v1)))], [], [(128000000, (.box [(.int .i64 v2)])), (256000000, .gone), (64000000, (.box [(.int .i64 v3), (.int .i64 v4), (.bool v5)])), (64000001, (.box [(.int .i64 v6), (.int .i64 v7), (.bool v8)])), (64000002, (.row (.int .i64) v9)), (64000003, (.row (.int .i64) v10))]⟩
noncomputable def l0 ( k n : Nat) (v : T0) : Option R := held (loopN cs n b3 (K3 k) (s0 v))
noncomputable def D0 (v : T0) : Option R := lim fun L => l0 (L 0) (L 1) v
theorem D0_cn (v : T0) : Cn late (D0 v) fun L => l0 (L 0) (L 1) v := of_lim
abbrev T1 : Type := Int × Int × Int × Int × Int × Int × Int × Int × Bool × Int × Int × Bool × List Int × List Int × List Int
def s1 : T1 → St := fun (v0, v1, v2, v3, v4, v5, v6, v7, v8, v9, v10, v11, v12, v13, v14) => ⟨71, 1, [(2, (.c (.func 69 [(128000000, 0)]))), (3, (.c (.func 70 [(128000000, 0)]))), (5, (.c (.ptr 64000000 0))), (8, (.c (.ptr 64000001 0))), (9, (.c (.sl 64000002))), (11, (.c (.int .i64 v0))), (22, (.c (.sl 64000003))), (23, (.c (.int .i64 v1))), (24, (.c (.int .i64 v2))), (32, (.c (.sl 64000004))), (33, (.c (.int .i64 v3))), (34, (.c (.int .i64 v4)))], [], [(128000000, (.box [(.int .i64 v5)])), (256000000, .gone), (64000000, (.box [(.int .i64 v6), (.int .i64 v7), (.bool v8)])), (64000001, (.box [(.int .i64 v9), (.int .i64 v10), (.bool v11)])), (64000002, (.row (.int .i64) v12)), (64000003, (.row (.int .i64) v13)), (64000004, (.row (.int .i64) v14))]⟩
noncomputable def l1 ( k m1 n : Nat) (v : T1) : Option R := held (loopN cs n b6 (K6 k m1) (s1 v))
noncomputable def D1 (v : T1) : Option R := lim fun L => l1 (L 0) (L 1) (L 2) v
theorem D1_cn (v : T1) : Cn late (D1 v) fun L => l1 (L 0) (L 1) (L 2) v := of_lim
def d0 (L1m1 : T1 → Option R) (slices_Min_Fix_k : slices_Min_Fix.A → Option slices_Min_Fix.R) (slices_Max_Fix_k : slices_Max_Fix.A → Option slices_Max_Fix.R) (bound_Of_Fix_k : bound_Of_Fix.A → Option bound_Of_Fix.R) : T0 → Option R := fun (v0, v1, v2, v3, v4, v5, v6, v7, v8, v9, v10) =>
br (decide (v1 < v0)) (br (decide (0 ≤ v1 ∧ v1 < (↑v10.length : Int))) (L1m1 (rd (Ty.int IntKind.i64) v10 v1, v0, v1, (↑[v3, v4].length : Int), 0, v2, v3, v4, v5, v6, v7, v8, v9, v10, [v3, v4])) none)
  (bnd (slices_Min_Fix_k v9) fun r => bnd (slices_Max_Fix_k v9) fun r_1 => bnd (bound_Of_Fix_k (r, r_1)) fun r => some (r.fst, r.snd.fst, r.snd.snd, v2))
theorem d0_cn {ι : Type} {E : Fil ι} {L1m1 : T1 → Option R} {L1m1' : ι → T1 → Option R} (hL1m1 : ∀ v, Cn E (L1m1 v) fun i => L1m1' i v) {slices_Min_Fix_k : slices_Min_Fix.A → Option slices_Min_Fix.R} {slices_Min_Fix_k' : ι → slices_Min_Fix.A → Option slices_Min_Fix.R} (hslices_Min_Fix_k : ∀ v, Cn E (slices_Min_Fix_k v) fun i => slices_Min_Fix_k' i v) {slices_Max_Fix_k : slices_Max_Fix.A → Option slices_Max_Fix.R} {slices_Max_Fix_k' : ι → slices_Max_Fix.A → Option slices_Max_Fix.R} (hslices_Max_Fix_k : ∀ v, Cn E (slices_Max_Fix_k v) fun i => slices_Max_Fix_k' i v) {bound_Of_Fix_k : bound_Of_Fix.A → Option bound_Of_Fix.R} {bound_Of_Fix_k' : ι → bound_Of_Fix.A → Option bound_Of_Fix.R} (hbound_Of_Fix_k : ∀ v, Cn E (bound_Of_Fix_k v) fun i => bound_Of_Fix_k' i v) : ∀ v : T0, Cn E (d0 L1m1 slices_Min_Fix_k slices_Max_Fix_k bound_Of_Fix_k v) fun i => d0 (L1m1' i) (slices_Min_Fix_k' i) (slices_Max_Fix_k' i) (bound_Of_Fix_k' i) v := fun (v0, v1, v2, v3, v4, v5, v6, v7, v8, v9, v10) => (.br (.br (hL1m1 _) .none) (.bnd (hslices_Min_Fix_k _) fun _ => (.bnd (hslices_Max_Fix_k _) fun _ => (.bnd (hbound_Of_Fix_k _) fun _ => .some))))
theorem l0_b ( k m1 : Nat) : ∀ v : T0, run (cs m1) (loopN cs m1) b3 (kLoop cs m1 b3 (K3 k)) (s0 v) = d0 (l1 k m1 m1) (slices_Min_Fix.f k) (slices_Max_Fix.f k) (bound_Of_Fix.f k) v := fun (v0, v1, v2, v3, v4, v5, v6, v7, v8, v9, v10) => by kernel_rfl
theorem D0_of (v : T0) {r : R} (h : d0 D1 slices_Min_Fix.F slices_Max_Fix.F bound_Of_Fix.F v = some r) : D0 v = some r :=
  loop_of 1 (l := fun L => l0 (L 0) (L 1) v) (d := fun L => d0 (l1 (L 0) (L 1) (L 1)) (slices_Min_Fix.f (L 0)) (slices_Max_Fix.f (L 0)) (bound_Of_Fix.f (L 0)) v) (fun L n hn => by show l0 (L 0) (L 1) v = _; rw [hn]; exact (held_eq _).trans ((loopN_succ _ _ _ _ _).trans (l0_b (L 0) n v))) (d0_cn (fun v => (D1_cn v).re [0, 1, 1]) (slices_Min_Fix.F_cn 0) (slices_Max_Fix.F_cn 0) (bound_Of_Fix.F_cn 0) v) h
def d1 (bound_Mul_FixS1_m2 : bound_Mul_FixS1.A → Option bound_Mul_FixS1.R) (bound_Mul_FixS2_m2 : bound_Mul_FixS2.A → Option bound_Mul_FixS2.R) (bound_None_Fix_m2 : bound_None_Fix.A → Option bound_None_Fix.R) (L1m2 : T1 → Option R) (L0m1 : T0 → Option R) : T1 → Option R := fun (v0, v1, v2, v3, v4, v5, v6, v7, v8, v9, v10, v11, v12, v13, v14) =>
br (decide (v4 < v3))
  (br (decide (0 ≤ v4 ∧ v4 < (↑v14.length : Int)))
    (bnd (bound_Mul_FixS1_m2 (v0, rd (Ty.int IntKind.i64) v14 v4, v5)) fun r =>
      bnd (bound_Mul_FixS2_m2 (v0, rd (Ty.int IntKind.i64) v14 v4, r.snd.snd)) fun r_1 =>
        br (!decide (r.snd.fst = 0) || !decide (r_1.snd.fst = 0)) (bnd (bound_None_Fix_m2 ()) fun r => some (r.fst, r.snd.fst, r.snd.snd, r_1.snd.snd))
          (br (decide (v12.length + [r.fst, r_1.fst].length ≤ 140737488355328 / 8)) (L1m2 (v0, v1, v2, v3, wrap IntKind.i64 (v4 + 1), r_1.snd.snd, v6, v7, v8, v9, v10, v11, v12 ++ [r.fst, r_1.fst], v13, v14)) none))
    none)
  (L0m1 (v1, wrap IntKind.i64 (v2 + 1), v5, v6, v7, v8, v9, v10, v11, v12, v13))
theorem d1_cn {ι : Type} {E : Fil ι} {bound_Mul_FixS1_m2 : bound_Mul_FixS1.A → Option bound_Mul_FixS1.R} {bound_Mul_FixS1_m2' : ι → bound_Mul_FixS1.A → Option bound_Mul_FixS1.R} (hbound_Mul_FixS1_m2 : ∀ v, Cn E (bound_Mul_FixS1_m2 v) fun i => bound_Mul_FixS1_m2' i v) {bound_Mul_FixS2_m2 : bound_Mul_FixS2.A → Option bound_Mul_FixS2.R} {bound_Mul_FixS2_m2' : ι → bound_Mul_FixS2.A → Option bound_Mul_FixS2.R} (hbound_Mul_FixS2_m2 : ∀ v, Cn E (bound_Mul_FixS2_m2 v) fun i => bound_Mul_FixS2_m2' i v) {bound_None_Fix_m2 : bound_None_Fix.A → Option bound_None_Fix.R} {bound_None_Fix_m2' : ι → bound_None_Fix.A → Option bound_None_Fix.R} (hbound_None_Fix_m2 : ∀ v, Cn E (bound_None_Fix_m2 v) fun i => bound_None_Fix_m2' i v) {L1m2 : T1 → Option R} {L1m2' : ι → T1 → Option R} (hL1m2 : ∀ v, Cn E (L1m2 v) fun i => L1m2' i v) {L0m1 : T0 → Option R} {L0m1' : ι → T0 → Option R} (hL0m1 : ∀ v, Cn E (L0m1 v) fun i => L0m1' i v) : ∀ v : T1, Cn E (d1 bound_Mul_FixS1_m2 bound_Mul_FixS2_m2 bound_None_Fix_m2 L1m2 L0m1 v) fun i => d1 (bound_Mul_FixS1_m2' i) (bound_Mul_FixS2_m2' i) (bound_None_Fix_m2' i) (L1m2' i) (L0m1' i) v := fun (v0, v1, v2, v3, v4, v5, v6, v7, v8, v9, v10, v11, v12, v13, v14) => (.br (.br (.bnd (hbound_Mul_FixS1_m2 _) fun _ => (.bnd (hbound_Mul_FixS2_m2 _) fun _ => (.br (.bnd (hbound_None_Fix_m2 _) fun _ => .some) (.br (hL1m2 _) .none)))) .none) (hL0m1 _))
theorem l1_b ( k m1 m2 : Nat) : ∀ v : T1, run (cs m2) (loopN cs m2) b6 (kLoop cs m2 b6 (K6 k m1)) (s1 v) = d1 (bound_Mul_FixS1.f m2) (bound_Mul_FixS2.f m2) (bound_None_Fix.f m2) (l1 k m1 m2) (l0 k m1) v := fun (v0, v1, v2, v3, v4, v5, v6, v7, v8, v9, v10, v11, v12, v13, v14) => by kernel_rfl
theorem D1_of (v : T1) {r : R} (h : d1 bound_Mul_FixS1.F bound_Mul_FixS2.F bound_None_Fix.F D1 D0 v = some r) : D1 v = some r :=
  loop_of 2 (l := fun L => l1 (L 0) (L 1) (L 2) v) (d := fun L => d1 (bound_Mul_FixS1.f (L 2)) (bound_Mul_FixS2.f (L 2)) (bound_None_Fix.f (L 2)) (l1 (L 0) (L 1) (L 2)) (l0 (L 0) (L 1)) v) (fun L n hn => by show l1 (L 0) (L 1) (L 2) v = _; rw [hn]; exact (held_eq _).trans ((loopN_succ _ _ _ _ _).trans (l1_b (L 0) (L 1) n v))) (d1_cn (bound_Mul_FixS1.F_cn 2) (bound_Mul_FixS2.F_cn 2) (bound_None_Fix.F_cn 2) (fun v => (D1_cn v).re [0, 1, 2]) (fun v => (D0_cn v).re [0, 1]) v) h
noncomputable def f (k : Nat) : A → Option R := fun (v0, v1, v2, v3, v4, v5, v6) => held (runFn cs k Tryz.f68 [(.agg [(.int .i64 v0), (.int .i64 v1), (.bool v2)]), (.agg [(.int .i64 v3), (.int .i64 v4), (.bool v5)]), (.c (.func 69 [(128000000, 0)])), (.c (.func 70 [(128000000, 0)]))] [(.box [(.int .i64 v6)])] dec)
noncomputable def F (v : A) : Option R := lim fun L => f (L 0) v
theorem F_cn (x : Nat) (v : A) : Cn late (F v) fun L => f (L x) v := of_lim.re [x]
def d (L0k : T0 → Option R) : A → Option R := fun (v0, v1, v2, v3, v4, v5, v6) =>
L0k ((↑[v0, v1].length : Int), 0, v6, v3, v4, v5, 0, 0, false, [], [v0, v1])
theorem d_cn {ι : Type} {E : Fil ι} {L0k : T0 → Option R} {L0k' : ι → T0 → Option R} (hL0k : ∀ v, Cn E (L0k v) fun i => L0k' i v) : ∀ v : A, Cn E (d L0k v) fun i => d (L0k' i) v := fun (v0, v1, v2, v3, v4, v5, v6) => (hL0k _)
theorem f_b (k : Nat) : ∀ v : A, f k v = d (l0 k k) v := fun (v0, v1, v2, v3, v4, v5, v6) => (held_eq _).trans (by kernel_rfl)
theorem F_of (v : A) {r : R} (h : d D0 v = some r) : F v = some r :=
  join_of (l := fun L => f (L 0) v) (d := fun L => d (l0 (L 0) (L 0)) v) (fun L => f_b (L 0) v) (d_cn (fun v => (D0_cn v).re [0, 0]) v) h
noncomputable def spec (k : Nat) (args : List AV) (ss : List Slot) : Option Ans :=
  match args, ss with
  | [(.agg [(.int .i64 v0), (.int .i64 v1), (.bool v2)]), (.agg [(.int .i64 v3), (.int .i64 v4), (.bool v5)]), (.c (.func 69 [(128000000, 0)])), (.c (.func 70 [(128000000, 0)]))], [(.box [(.int .i64 v6)])] => some ⟨R, f k (v0, v1, v2, v3, v4, v5, v6), enc⟩
  | _, _ => none
theorem spec_ok (k : Nat) : SpecOk Tryz.prog 68 (spec k) := by
  intro args ss ans x h hx X σ w vals hp
  unfold spec at h
  split at h
  · cases h
    exact spec_of cs_ok Tryz.func68 rfl rfl dec_ok (held_eq _).symm hx hp
  · cases h
end bound_corners_Fix
noncomputable def t_bound_corners_Fix (k : Nat) := tcons 68 (bound_corners_Fix.spec k) (t_slices_Max_Fix k)
theorem t_bound_corners_Fix_ok (n g : Nat) : SpecOk Tryz.prog g (t_bound_corners_Fix n g) := tcons_ok (bound_corners_Fix.spec_ok n) (fun g => t_slices_Max_Fix_ok n g) g
namespace bound_Mul_Fix
abbrev R : Type := Int × Int × Bool
abbrev A : Type := Int × Int × Bool × Int × Int × Bool × Int
def lv : List (Nat × List Nat) := [(2000000, [6])]
noncomputable def cs : Nat → Ctx := ctxOf tis modes t_bound_corners_Fix lv
theorem cs_ok (n : Nat) : CtxOk Tryz.prog (cs n) := ctxOf_ok rfl tis_ok t_bound_corners_Fix_ok n
def enc (r : R) : Out := ((.agg [(.int .i64 r.1), (.int .i64 r.2.1), (.bool r.2.2)]), [])
def dec : Out → Option R
  | ((.agg [(.int .i64 v0), (.int .i64 v1), (.bool v2)]), []) => some (v0, v1, v2)
  | _ => none
theorem dec_ok : ∀ u y, dec u = some y → u = enc y := by
  intro u y h
  unfold dec at h
  split at h
  · cases h; rfl
  · cases h
noncomputable def b0 : Code := subF [] Tryz.f41
noncomputable def K0 (k : Nat) : Kt R := kTop (cs k) Tryz.f41 dec
noncomputable def f (k : Nat) : A → Option R := fun (v0, v1, v2, v3, v4, v5, v6) => held (runFn cs k Tryz.f41 [(.agg [(.int .i64 v0), (.int .i64 v1), (.bool v2)]), (.agg [(.int .i64 v3), (.int .i64 v4), (.bool v5)]), (.c (.int .i64 v6))] [] dec)
noncomputable def F (v : A) : Option R := lim fun L => f (L 0) v
theorem F_cn (x : Nat) (v : A) : Cn late (F v) fun L => f (L x) v := of_lim.re [x]
def d (bound_vague_Fix_k : bound_vague_Fix.A → Option bound_vague_Fix.R) (bound_None_Fix_k : bound_None_Fix.A → Option bound_None_Fix.R) (bound_corners_Fix_k : bound_corners_Fix.A → Option bound_corners_Fix.R) : A → Option R := fun (v0, v1, v2, v3, v4, v5, v6) =>
bnd (bound_vague_Fix_k (v0, v1, v2, v3, v4, v5)) fun r =>
  br (r || decide (v6 < 1)) (bnd (bound_None_Fix_k ()) fun r => some (r.fst, r.snd.fst, r.snd.snd)) (bnd (bound_corners_Fix_k (v0, v1, v2, v3, v4, v5, v6)) fun r => some (r.fst, r.snd.fst, r.snd.snd.fst))
theorem d_cn {ι : Type} {E : Fil ι} {bound_vague_Fix_k : bound_vague_Fix.A → Option bound_vague_Fix.R} {bound_vague_Fix_k' : ι → bound_vague_Fix.A → Option bound_vague_Fix.R} (hbound_vague_Fix_k : ∀ v, Cn E (bound_vague_Fix_k v) fun i => bound_vague_Fix_k' i v) {bound_None_Fix_k : bound_None_Fix.A → Option bound_None_Fix.R} {bound_None_Fix_k' : ι → bound_None_Fix.A → Option bound_None_Fix.R} (hbound_None_Fix_k : ∀ v, Cn E (bound_None_Fix_k v) fun i => bound_None_Fix_k' i v) {bound_corners_Fix_k : bound_corners_Fix.A → Option bound_corners_Fix.R} {bound_corners_Fix_k' : ι → bound_corners_Fix.A → Option bound_corners_Fix.R} (hbound_corners_Fix_k : ∀ v, Cn E (bound_corners_Fix_k v) fun i => bound_corners_Fix_k' i v) : ∀ v : A, Cn E (d bound_vague_Fix_k bound_None_Fix_k bound_corners_Fix_k v) fun i => d (bound_vague_Fix_k' i) (bound_None_Fix_k' i) (bound_corners_Fix_k' i) v := fun (v0, v1, v2, v3, v4, v5, v6) => (.bnd (hbound_vague_Fix_k _) fun _ => (.br (.bnd (hbound_None_Fix_k _) fun _ => .some) (.bnd (hbound_corners_Fix_k _) fun _ => .some)))
theorem f_b (k : Nat) : ∀ v : A, f k v = d (bound_vague_Fix.f k) (bound_None_Fix.f k) (bound_corners_Fix.f k) v := fun (v0, v1, v2, v3, v4, v5, v6) => (held_eq _).trans (by kernel_rfl)
theorem F_of (v : A) {r : R} (h : d bound_vague_Fix.F bound_None_Fix.F bound_corners_Fix.F v = some r) : F v = some r :=
  join_of (l := fun L => f (L 0) v) (d := fun L => d (bound_vague_Fix.f (L 0)) (bound_None_Fix.f (L 0)) (bound_corners_Fix.f (L 0)) v) (fun L => f_b (L 0) v) (d_cn (bound_vague_Fix.F_cn 0) (bound_None_Fix.F_cn 0) (bound_corners_Fix.F_cn 0) v) h
noncomputable def spec (k : Nat) (args : List AV) (ss : List Slot) : Option Ans :=
  match args, ss with
  | [(.agg [(.int .i64 v0), (.int .i64 v1), (.bool v2)]), (.agg [(.int .i64 v3), (.int .i64 v4), (.bool v5)]), (.c (.int .i64 v6))], [] => some ⟨R, f k (v0, v1, v2, v3, v4, v5, v6), enc⟩
  | _, _ => none
theorem spec_ok (k : Nat) : SpecOk Tryz.prog 41 (spec k) := by
  intro args ss ans x h hx X σ w vals hp
  unfold spec at h
  split at h
  · cases h
    exact spec_of cs_ok Tryz.func41 rfl rfl dec_ok (held_eq _).symm hx hp
  · cases h
end bound_Mul_Fix
noncomputable def t_bound_Mul_Fix (k : Nat) := tcons 41 (bound_Mul_Fix.spec k) (t_bound_corners_Fix k)
theorem t_bound_Mul_Fix_ok (n g : Nat) : SpecOk Tryz.prog g (t_bound_Mul_Fix n g) := tcons_ok (bound_Mul_Fix.spec_ok n) (fun g => t_bound_corners_Fix_ok n g) g
namespace bound_Scale_Fix
abbrev R : Type := Int × Int × Bool
abbrev A : Type := Int × Int × Bool × Int × Int
def lv : List (Nat × List Nat) := [(2000000, [6])]
noncomputable def cs : Nat → Ctx := ctxOf tis modes t_bound_Mul_Fix lv
theorem cs_ok (n : Nat) : CtxOk Tryz.prog (cs n) := ctxOf_ok rfl tis_ok t_bound_Mul_Fix_ok n
def enc (r : R) : Out := ((.agg [(.int .i64 r.1), (.int .i64 r.2.1), (.bool r.2.2)]), [])
def dec : Out → Option R
  | ((.agg [(.int .i64 v0), (.int .i64 v1), (.bool v2)]), []) => some (v0, v1, v2)
  | _ => none
theorem dec_ok : ∀ u y, dec u = some y → u = enc y := by
  intro u y h
  unfold dec at h
  split at h
  · cases h; rfl
  · cases h
noncomputable def b0 : Code := subF [] Tryz.f38
noncomputable def K0 (k : Nat) : Kt R := kTop (cs k) Tryz.f38 dec
noncomputable def f (k : Nat) : A → Option R := fun (v0, v1, v2, v3, v4) => held (runFn cs k Tryz.f38 [(.agg [(.int .i64 v0), (.int .i64 v1), (.bool v2)]), (.c (.int .i64 v3)), (.c (.int .i64 v4))] [] dec)
noncomputable def F (v : A) : Option R := lim fun L => f (L 0) v
theorem F_cn (x : Nat) (v : A) : Cn late (F v) fun L => f (L x) v := of_lim.re [x]
def d (bound_Exact_Fix_k : bound_Exact_Fix.A → Option bound_Exact_Fix.R) (bound_Mul_Fix_k : bound_Mul_Fix.A → Option bound_Mul_Fix.R) : A → Option R := fun (v0, v1, v2, v3, v4) =>
bnd (bound_Exact_Fix_k v3) fun r => bnd (bound_Mul_Fix_k (v0, v1, v2, r.fst, r.snd.fst, r.snd.snd, v4)) fun r => some (r.fst, r.snd.fst, r.snd.snd)
theorem d_cn {ι : Type} {E : Fil ι} {bound_Exact_Fix_k : bound_Exact_Fix.A → Option bound_Exact_Fix.R} {bound_Exact_Fix_k' : ι → bound_Exact_Fix.A → Option bound_Exact_Fix.R} (hbound_Exact_Fix_k : ∀ v, Cn E (bound_Exact_Fix_k v) fun i => bound_Exact_Fix_k' i v) {bound_Mul_Fix_k : bound_Mul_Fix.A → Option bound_Mul_Fix.R} {bound_Mul_Fix_k' : ι → bound_Mul_Fix.A → Option bound_Mul_Fix.R} (hbound_Mul_Fix_k : ∀ v, Cn E (bound_Mul_Fix_k v) fun i => bound_Mul_Fix_k' i v) : ∀ v : A, Cn E (d bound_Exact_Fix_k bound_Mul_Fix_k v) fun i => d (bound_Exact_Fix_k' i) (bound_Mul_Fix_k' i) v := fun (v0, v1, v2, v3, v4) => (.bnd (hbound_Exact_Fix_k _) fun _ => (.bnd (hbound_Mul_Fix_k _) fun _ => .some))
theorem f_b (k : Nat) : ∀ v : A, f k v = d (bound_Exact_Fix.f k) (bound_Mul_Fix.f k) v := fun (v0, v1, v2, v3, v4) => (held_eq _).trans (by kernel_rfl)
theorem F_of (v : A) {r : R} (h : d bound_Exact_Fix.F bound_Mul_Fix.F v = some r) : F v = some r :=
  join_of (l := fun L => f (L 0) v) (d := fun L => d (bound_Exact_Fix.f (L 0)) (bound_Mul_Fix.f (L 0)) v) (fun L => f_b (L 0) v) (d_cn (bound_Exact_Fix.F_cn 0) (bound_Mul_Fix.F_cn 0) v) h
noncomputable def spec (k : Nat) (args : List AV) (ss : List Slot) : Option Ans :=
  match args, ss with
  | [(.agg [(.int .i64 v0), (.int .i64 v1), (.bool v2)]), (.c (.int .i64 v3)), (.c (.int .i64 v4))], [] => some ⟨R, f k (v0, v1, v2, v3, v4), enc⟩
  | _, _ => none
theorem spec_ok (k : Nat) : SpecOk Tryz.prog 38 (spec k) := by
  intro args ss ans x h hx X σ w vals hp
  unfold spec at h
  split at h
  · cases h
    exact spec_of cs_ok Tryz.func38 rfl rfl dec_ok (held_eq _).symm hx hp
  · cases h
end bound_Scale_Fix
noncomputable def t_bound_Scale_Fix (k : Nat) := tcons 38 (bound_Scale_Fix.spec k) (t_bound_Mul_Fix k)
theorem t_bound_Scale_Fix_ok (n g : Nat) : SpecOk Tryz.prog g (t_bound_Scale_Fix n g) := tcons_ok (bound_Scale_Fix.spec_ok n) (fun g => t_bound_Mul_Fix_ok n g) g
namespace trig_wave_1
abbrev R : Type := Int × Int × Bool
abbrev A : Type := Int × Int × Bool × Int
def lv : List (Nat × List Nat) := [(2000000, [6]), (1000008, [2, 3, 6, 9, 10]), (1000010, [6, 9, 10])]
noncomputable def cs : Nat → Ctx := ctxOf tis modes t_bound_Scale_Fix lv
theorem cs_ok (n : Nat) : CtxOk Tryz.prog (cs n) := ctxOf_ok rfl tis_ok t_bound_Scale_Fix_ok n
def enc (r : R) : Out := ((.agg [(.int .i64 r.1), (.int .i64 r.2.1), (.bool r.2.2)]), [])
def dec : Out → Option R
  | ((.agg [(.int .i64 v0), (.int .i64 v1), (.bool v2)]), []) => some (v0, v1, v2)
  | _ => none
theorem dec_ok : ∀ u y, dec u = some y → u = enc y := by
  intro u y h
  unfold dec at h
  split at h
  · cases h; rfl
  · cases h
noncomputable def b0 : Code := subF [] Tryz.f65
noncomputable def K0 (k : Nat) : Kt R := kTop (cs k) Tryz.f65 dec
noncomputable def c1000008 : Code := sub [1, 1, 1, 1, 1] b0
noncomputable def J1000008 ( k : Nat) : Kt R := kAt (cs k) (loopN cs k) [1, 1, 1, 1, 1] b0 (K0 k)
noncomputable def c1000010 : Code := sub [1, 1, 1, 1, 1, 1] b0
noncomputable def J1000010 ( k : Nat) : Kt R := kAt (cs k) (loopN cs k) [1, 1, 1, 1, 1, 1] b0 (K0 k)
abbrev T0 : Type := Int × Int × Int × Int × Int × Bool × Int × Int × Bool
def s0 : T0 → St := fun (v0, v1, v2, v3, v4, v5, v6, v7, v8) => ⟨44, 0, [(2, (.c (.int .i64 v0))), (3, (.c (.ptr 64000000 0))), (6, (.c (.ptr 64000001 0))), (9, (.c (.int .i64 v1))), (10, (.c (.int .i64 v2)))], [], [(256000000, .gone), (64000000, (.box [(.int .i64 v3), (.int .i64 v4), (.bool v5)])), (64000001, (.box [(.int .i64 v6), (.int .i64 v7), (.bool v8)]))]⟩
noncomputable def l0 ( k : Nat) (v : T0) : Option R := held (run (cs k) (loopN cs k) c1000008 (J1000008 k) (s0 v))
noncomputable def D0 (v : T0) : Option R := lim fun L => l0 (L 0) v
theorem D0_cn (v : T0) : Cn late (D0 v) fun L => l0 (L 0) v := of_lim
abbrev T1 : Type := Int × Int × Int × Int × Bool
def s1 : T1 → St := fun (v0, v1, v2, v3, v4) => ⟨44, 0, [(6, (.c (.ptr 64000000 0))), (9, (.c (.int .i64 v0))), (10, (.c (.int .i64 v1)))], [], [(256000000, .gone), (64000000, (.box [(.int .i64 v2), (.int .i64 v3), (.bool v4)]))]⟩
noncomputable def l1 ( k : Nat) (v : T1) : Option R := held (run (cs k) (loopN cs k) c1000010 (J1000010 k) (s1 v))
noncomputable def D1 (v : T1) : Option R := lim fun L => l1 (L 0) v
theorem D1_cn (v : T1) : Cn late (D1 v) fun L => l1 (L 0) v := of_lim
def d0 (trig_meets_k : trig_meets.A → Option trig_meets.R) (L1k : T1 → Option R) : T0 → Option R := fun (v0, v1, v2, v3, v4, v5, v6, v7, v8) =>
bnd (trig_meets_k (v3, v4, v5, wrap IntKind.i64 (v0 + 2147483648))) fun r => br r (L1k (-1073741824, v2, v6, v7, v8)) (L1k (v1, v2, v6, v7, v8))
theorem d0_cn {ι : Type} {E : Fil ι} {trig_meets_k : trig_meets.A → Option trig_meets.R} {trig_meets_k' : ι → trig_meets.A → Option trig_meets.R} (htrig_meets_k : ∀ v, Cn E (trig_meets_k v) fun i => trig_meets_k' i v) {L1k : T1 → Option R} {L1k' : ι → T1 → Option R} (hL1k : ∀ v, Cn E (L1k v) fun i => L1k' i v) : ∀ v : T0, Cn E (d0 trig_meets_k L1k v) fun i => d0 (trig_meets_k' i) (L1k' i) v := fun (v0, v1, v2, v3, v4, v5, v6, v7, v8) => (.bnd (htrig_meets_k _) fun _ => (.br (hL1k _) (hL1k _)))
theorem l0_b ( k : Nat) : ∀ v : T0, run (cs k) (loopN cs k) c1000008 (J1000008 k) (s0 v) = d0 (trig_meets.f k) (l1 k) v := fun (v0, v1, v2, v3, v4, v5, v6, v7, v8) => by kernel_rfl
theorem D0_of (v : T0) {r : R} (h : d0 trig_meets.F D1 v = some r) : D0 v = some r :=
  join_of (l := fun L => l0 (L 0) v) (d := fun L => d0 (trig_meets.f (L 0)) (l1 (L 0)) v) (fun L => (held_eq _).trans (l0_b (L 0) v)) (d0_cn (trig_meets.F_cn 0) (fun v => (D1_cn v).re [0]) v) h
def d1 (bound_Of_Fix_k : bound_Of_Fix.A → Option bound_Of_Fix.R) : T1 → Option R := fun (v0, v1, v2, v3, v4) =>
bnd (bound_Of_Fix_k (v0, v1)) fun r => some (r.fst, r.snd.fst, r.snd.snd)
theorem d1_cn {ι : Type} {E : Fil ι} {bound_Of_Fix_k : bound_Of_Fix.A → Option bound_Of_Fix.R} {bound_Of_Fix_k' : ι → bound_Of_Fix.A → Option bound_Of_Fix.R} (hbound_Of_Fix_k : ∀ v, Cn E (bound_Of_Fix_k v) fun i => bound_Of_Fix_k' i v) : ∀ v : T1, Cn E (d1 bound_Of_Fix_k v) fun i => d1 (bound_Of_Fix_k' i) v := fun (v0, v1, v2, v3, v4) => (.bnd (hbound_Of_Fix_k _) fun _ => .some)
theorem l1_b ( k : Nat) : ∀ v : T1, run (cs k) (loopN cs k) c1000010 (J1000010 k) (s1 v) = d1 (bound_Of_Fix.f k) v := fun (v0, v1, v2, v3, v4) => by kernel_rfl
theorem D1_of (v : T1) {r : R} (h : d1 bound_Of_Fix.F v = some r) : D1 v = some r :=
  join_of (l := fun L => l1 (L 0) v) (d := fun L => d1 (bound_Of_Fix.f (L 0)) v) (fun L => (held_eq _).trans (l1_b (L 0) v)) (d1_cn (bound_Of_Fix.F_cn 0) v) h
noncomputable def f (k : Nat) : A → Option R := fun (v0, v1, v2, v3) => held (runFn cs k Tryz.f65 [(.agg [(.int .i64 v0), (.int .i64 v1), (.bool v2)]), (.c (.func 67 [])), (.c (.int .i64 v3))] [] dec)
noncomputable def F (v : A) : Option R := lim fun L => f (L 0) v
theorem F_cn (x : Nat) (v : A) : Cn late (F v) fun L => f (L x) v := of_lim.re [x]
def d (bound_Norm_Arc_k : bound_Norm_Arc.A → Option bound_Norm_Arc.R) (bound_None_Fix_k : bound_None_Fix.A → Option bound_None_Fix.R) (trig_Sin_k : trig_Sin.A → Option trig_Sin.R) (trig_meets_k : trig_meets.A → Option trig_meets.R) (L0k : T0 → Option R) : A → Option R := fun (v0, v1, v2, v3) =>
bnd (bound_Norm_Arc_k (v0, v1, v2)) fun r =>
  br r.snd.snd (bnd (bound_None_Fix_k ()) fun r => some (r.fst, r.snd.fst, r.snd.snd))
    (bnd (trig_Sin_k r.fst) fun r_1 =>
      bnd (trig_Sin_k r.snd.fst) fun r_2 =>
        bnd (trig_meets_k (r.fst, r.snd.fst, r.snd.snd, v3)) fun r_3 =>
          br r_3 (L0k (v3, max (-1073741824) (wrap IntKind.i64 (min r_1 r_2 - 1)), 1073741824, r.fst, r.snd.fst, r.snd.snd, 0, 0, false))
            (L0k (v3, max (-1073741824) (wrap IntKind.i64 (min r_1 r_2 - 1)), min 1073741824 (wrap IntKind.i64 (max r_1 r_2 + 1)), r.fst, r.snd.fst, r.snd.snd, 0, 0, false)))
theorem d_cn {ι : Type} {E : Fil ι} {bound_Norm_Arc_k : bound_Norm_Arc.A → Option bound_Norm_Arc.R} {bound_Norm_Arc_k' : ι → bound_Norm_Arc.A → Option bound_Norm_Arc.R} (hbound_Norm_Arc_k : ∀ v, Cn E (bound_Norm_Arc_k v) fun i => bound_Norm_Arc_k' i v) {bound_None_Fix_k : bound_None_Fix.A → Option bound_None_Fix.R} {bound_None_Fix_k' : ι → bound_None_Fix.A → Option bound_None_Fix.R} (hbound_None_Fix_k : ∀ v, Cn E (bound_None_Fix_k v) fun i => bound_None_Fix_k' i v) {trig_Sin_k : trig_Sin.A → Option trig_Sin.R} {trig_Sin_k' : ι → trig_Sin.A → Option trig_Sin.R} (htrig_Sin_k : ∀ v, Cn E (trig_Sin_k v) fun i => trig_Sin_k' i v) {trig_meets_k : trig_meets.A → Option trig_meets.R} {trig_meets_k' : ι → trig_meets.A → Option trig_meets.R} (htrig_meets_k : ∀ v, Cn E (trig_meets_k v) fun i => trig_meets_k' i v) {L0k : T0 → Option R} {L0k' : ι → T0 → Option R} (hL0k : ∀ v, Cn E (L0k v) fun i => L0k' i v) : ∀ v : A, Cn E (d bound_Norm_Arc_k bound_None_Fix_k trig_Sin_k trig_meets_k L0k v) fun i => d (bound_Norm_Arc_k' i) (bound_None_Fix_k' i) (trig_Sin_k' i) (trig_meets_k' i) (L0k' i) v := fun (v0, v1, v2, v3) => (.bnd (hbound_Norm_Arc_k _) fun _ => (.br (.bnd (hbound_None_Fix_k _) fun _ => .some) (.bnd (htrig_Sin_k _) fun _ => (.bnd (htrig_Sin_k _) fun _ => (.bnd (htrig_meets_k _) fun _ => (.br (hL0k _) (hL0k _)))))))
theorem f_b (k : Nat) : ∀ v : A, f k v = d (bound_Norm_Arc.f k) (bound_None_Fix.f k) (trig_Sin.f k) (trig_meets.f k) (l0 k) v := fun (v0, v1, v2, v3) => (held_eq _).trans (by kernel_rfl)
theorem F_of (v : A) {r : R} (h : d bound_Norm_Arc.F bound_None_Fix.F trig_Sin.F trig_meets.F D0 v = some r) : F v = some r :=
  join_of (l := fun L => f (L 0) v) (d := fun L => d (bound_Norm_Arc.f (L 0)) (bound_None_Fix.f (L 0)) (trig_Sin.f (L 0)) (trig_meets.f (L 0)) (l0 (L 0)) v) (fun L => f_b (L 0) v) (d_cn (bound_Norm_Arc.F_cn 0) (bound_None_Fix.F_cn 0) (trig_Sin.F_cn 0) (trig_meets.F_cn 0) (fun v => (D0_cn v).re [0]) v) h
noncomputable def spec (k : Nat) (args : List AV) (ss : List Slot) : Option Ans :=
  match args, ss with
  | [(.agg [(.int .i64 v0), (.int .i64 v1), (.bool v2)]), (.c (.func 67 [])), (.c (.int .i64 v3))], [] => some ⟨R, f k (v0, v1, v2, v3), enc⟩
  | _, _ => none
theorem spec_ok (k : Nat) : SpecOk Tryz.prog 65 (spec k) := by
  intro args ss ans x h hx X σ w vals hp
  unfold spec at h
  split at h
  · cases h
    exact spec_of cs_ok Tryz.func65 rfl rfl dec_ok (held_eq _).symm hx hp
  · cases h
end trig_wave_1
noncomputable def t_trig_wave_1 (k : Nat) := tcons 65 (trig_wave_1.spec k) (t_bound_Scale_Fix k)
theorem t_trig_wave_1_ok (n g : Nat) : SpecOk Tryz.prog g (t_trig_wave_1 n g) := tcons_ok (trig_wave_1.spec_ok n) (fun g => t_bound_Scale_Fix_ok n g) g
namespace trig_SinBound
abbrev R : Type := Int × Int × Bool
abbrev A : Type := Int × Int × Bool
def lv : List (Nat × List Nat) := [(2000000, [2])]
noncomputable def cs : Nat → Ctx := ctxOf tis modes t_trig_wave_1 lv
theorem cs_ok (n : Nat) : CtxOk Tryz.prog (cs n) := ctxOf_ok rfl tis_ok t_trig_wave_1_ok n
def enc (r : R) : Out := ((.agg [(.int .i64 r.1), (.int .i64 r.2.1), (.bool r.2.2)]), [])
def dec : Out → Option R
  | ((.agg [(.int .i64 v0), (.int .i64 v1), (.bool v2)]), []) => some (v0, v1, v2)
  | _ => none
theorem dec_ok : ∀ u y, dec u = some y → u = enc y := by
  intro u y h
  unfold dec at h
  split at h
  · cases h; rfl
  · cases h
noncomputable def b0 : Code := subF [] Tryz.f40
noncomputable def K0 (k : Nat) : Kt R := kTop (cs k) Tryz.f40 dec
noncomputable def f (k : Nat) : A → Option R := fun (v0, v1, v2) => held (runFn cs k Tryz.f40 [(.agg [(.int .i64 v0), (.int .i64 v1), (.bool v2)])] [] dec)
noncomputable def F (v : A) : Option R := lim fun L => f (L 0) v
theorem F_cn (x : Nat) (v : A) : Cn late (F v) fun L => f (L x) v := of_lim.re [x]
def d (trig_wave_1_k : trig_wave_1.A → Option trig_wave_1.R) : A → Option R := fun (v0, v1, v2) =>
bnd (trig_wave_1_k (v0, v1, v2, 1073741824)) fun r => some (r.fst, r.snd.fst, r.snd.snd)
theorem d_cn {ι : Type} {E : Fil ι} {trig_wave_1_k : trig_wave_1.A → Option trig_wave_1.R} {trig_wave_1_k' : ι → trig_wave_1.A → Option trig_wave_1.R} (htrig_wave_1_k : ∀ v, Cn E (trig_wave_1_k v) fun i => trig_wave_1_k' i v) : ∀ v : A, Cn E (d trig_wave_1_k v) fun i => d (trig_wave_1_k' i) v := fun (v0, v1, v2) => (.bnd (htrig_wave_1_k _) fun _ => .some)
theorem f_b (k : Nat) : ∀ v : A, f k v = d (trig_wave_1.f k) v := fun (v0, v1, v2) => (held_eq _).trans (by kernel_rfl)
theorem F_of (v : A) {r : R} (h : d trig_wave_1.F v = some r) : F v = some r :=
  join_of (l := fun L => f (L 0) v) (d := fun L => d (trig_wave_1.f (L 0)) v) (fun L => f_b (L 0) v) (d_cn (trig_wave_1.F_cn 0) v) h
noncomputable def spec (k : Nat) (args : List AV) (ss : List Slot) : Option Ans :=
  match args, ss with
  | [(.agg [(.int .i64 v0), (.int .i64 v1), (.bool v2)])], [] => some ⟨R, f k (v0, v1, v2), enc⟩
  | _, _ => none
theorem spec_ok (k : Nat) : SpecOk Tryz.prog 40 (spec k) := by
  intro args ss ans x h hx X σ w vals hp
  unfold spec at h
  split at h
  · cases h
    exact spec_of cs_ok Tryz.func40 rfl rfl dec_ok (held_eq _).symm hx hp
  · cases h
end trig_SinBound
noncomputable def t_trig_SinBound (k : Nat) := tcons 40 (trig_SinBound.spec k) (t_trig_wave_1 k)
theorem t_trig_SinBound_ok (n g : Nat) : SpecOk Tryz.prog g (t_trig_SinBound n g) := tcons_ok (trig_SinBound.spec_ok n) (fun g => t_trig_wave_1_ok n g) g
namespace bound_Add_Fix
abbrev R : Type := Int × Int × Bool
abbrev A : Type := Int × Int × Bool × Int × Int × Bool
def lv : List (Nat × List Nat) := [(2000000, [4])]
noncomputable def cs : Nat → Ctx := ctxOf tis modes t_trig_SinBound lv
theorem cs_ok (n : Nat) : CtxOk Tryz.prog (cs n) := ctxOf_ok rfl tis_ok t_trig_SinBound_ok n
def enc (r : R) : Out := ((.agg [(.int .i64 r.1), (.int .i64 r.2.1), (.bool r.2.2)]), [])
def dec : Out → Option R
  | ((.agg [(.int .i64 v0), (.int .i64 v1), (.bool v2)]), []) => some (v0, v1, v2)
  | _ => none
theorem dec_ok : ∀ u y, dec u = some y → u = enc y := by
  intro u y h
  unfold dec at h
  split at h
  · cases h; rfl
  · cases h
noncomputable def b0 : Code := subF [] Tryz.f37
noncomputable def K0 (k : Nat) : Kt R := kTop (cs k) Tryz.f37 dec
noncomputable def f (k : Nat) : A → Option R := fun (v0, v1, v2, v3, v4, v5) => held (runFn cs k Tryz.f37 [(.agg [(.int .i64 v0), (.int .i64 v1), (.bool v2)]), (.agg [(.int .i64 v3), (.int .i64 v4), (.bool v5)])] [] dec)
noncomputable def F (v : A) : Option R := lim fun L => f (L 0) v
theorem F_cn (x : Nat) (v : A) : Cn late (F v) fun L => f (L x) v := of_lim.re [x]
def d (bound_vague_Fix_k : bound_vague_Fix.A → Option bound_vague_Fix.R) (bound_None_Fix_k : bound_None_Fix.A → Option bound_None_Fix.R) (bound_Of_Fix_k : bound_Of_Fix.A → Option bound_Of_Fix.R) : A → Option R := fun (v0, v1, v2, v3, v4, v5) =>
bnd (bound_vague_Fix_k (v0, v1, v2, v3, v4, v5)) fun r =>
  br r (bnd (bound_None_Fix_k ()) fun r => some (r.fst, r.snd.fst, r.snd.snd)) (bnd (bound_Of_Fix_k (wrap IntKind.i64 (v0 + v3), wrap IntKind.i64 (v1 + v4))) fun r => some (r.fst, r.snd.fst, r.snd.snd))
theorem d_cn {ι : Type} {E : Fil ι} {bound_vague_Fix_k : bound_vague_Fix.A → Option bound_vague_Fix.R} {bound_vague_Fix_k' : ι → bound_vague_Fix.A → Option bound_vague_Fix.R} (hbound_vague_Fix_k : ∀ v, Cn E (bound_vague_Fix_k v) fun i => bound_vague_Fix_k' i v) {bound_None_Fix_k : bound_None_Fix.A → Option bound_None_Fix.R} {bound_None_Fix_k' : ι → bound_None_Fix.A → Option bound_None_Fix.R} (hbound_None_Fix_k : ∀ v, Cn E (bound_None_Fix_k v) fun i => bound_None_Fix_k' i v) {bound_Of_Fix_k : bound_Of_Fix.A → Option bound_Of_Fix.R} {bound_Of_Fix_k' : ι → bound_Of_Fix.A → Option bound_Of_Fix.R} (hbound_Of_Fix_k : ∀ v, Cn E (bound_Of_Fix_k v) fun i => bound_Of_Fix_k' i v) : ∀ v : A, Cn E (d bound_vague_Fix_k bound_None_Fix_k bound_Of_Fix_k v) fun i => d (bound_vague_Fix_k' i) (bound_None_Fix_k' i) (bound_Of_Fix_k' i) v := fun (v0, v1, v2, v3, v4, v5) => (.bnd (hbound_vague_Fix_k _) fun _ => (.br (.bnd (hbound_None_Fix_k _) fun _ => .some) (.bnd (hbound_Of_Fix_k _) fun _ => .some)))
theorem f_b (k : Nat) : ∀ v : A, f k v = d (bound_vague_Fix.f k) (bound_None_Fix.f k) (bound_Of_Fix.f k) v := fun (v0, v1, v2, v3, v4, v5) => (held_eq _).trans (by kernel_rfl)
theorem F_of (v : A) {r : R} (h : d bound_vague_Fix.F bound_None_Fix.F bound_Of_Fix.F v = some r) : F v = some r :=
  join_of (l := fun L => f (L 0) v) (d := fun L => d (bound_vague_Fix.f (L 0)) (bound_None_Fix.f (L 0)) (bound_Of_Fix.f (L 0)) v) (fun L => f_b (L 0) v) (d_cn (bound_vague_Fix.F_cn 0) (bound_None_Fix.F_cn 0) (bound_Of_Fix.F_cn 0) v) h
noncomputable def spec (k : Nat) (args : List AV) (ss : List Slot) : Option Ans :=
  match args, ss with
  | [(.agg [(.int .i64 v0), (.int .i64 v1), (.bool v2)]), (.agg [(.int .i64 v3), (.int .i64 v4), (.bool v5)])], [] => some ⟨R, f k (v0, v1, v2, v3, v4, v5), enc⟩
  | _, _ => none
theorem spec_ok (k : Nat) : SpecOk Tryz.prog 37 (spec k) := by
  intro args ss ans x h hx X σ w vals hp
  unfold spec at h
  split at h
  · cases h
    exact spec_of cs_ok Tryz.func37 rfl rfl dec_ok (held_eq _).symm hx hp
  · cases h
end bound_Add_Fix
noncomputable def t_bound_Add_Fix (k : Nat) := tcons 37 (bound_Add_Fix.spec k) (t_trig_SinBound k)
theorem t_bound_Add_Fix_ok (n g : Nat) : SpecOk Tryz.prog g (t_bound_Add_Fix n g) := tcons_ok (bound_Add_Fix.spec_ok n) (fun g => t_trig_SinBound_ok n g) g
namespace num_SqrtMul
abbrev R : Type := Int
abbrev A : Type := Int × Int
def lv : List (Nat × List Nat) := [(2000000, [4]), (6, [5, 6, 7, 8]), (1000007, [5, 6, 7, 8])]
noncomputable def cs : Nat → Ctx := ctxOf tis modes t_bound_Add_Fix lv
theorem cs_ok (n : Nat) : CtxOk Tryz.prog (cs n) := ctxOf_ok rfl tis_ok t_bound_Add_Fix_ok n
def enc (r : R) : Out := ((.c (.int .i64 r)), [])
def dec : Out → Option R
  | ((.c (.int .i64 v0)), []) => some v0
  | _ => none
theorem dec_ok : ∀ u y, dec u = some y → u = enc y := by
  intro u y h
  unfold dec at h
  split at h
  · cases h; rfl
  · cases h
noncomputable def b0 : Code := subF [] Tryz.f71
noncomputable def K0 (k : Nat) : Kt R := kTop (cs k) Tryz.f71 dec
noncomputable def b6 : Code := sub [1, 1, 1, 1, 0, 1, 0, 0] b0
noncomputable def K6 ( k : Nat) : Kt R := kAt (cs k) (loopN cs k) [1, 1, 1, 1, 0, 1, 0] b0 (K0 k)
noncomputable def c1000007 : Code := sub [1, 1] b6
noncomputable def J1000007 ( k m1 : Nat) : Kt R := kAt (cs m1) (loopN cs m1) [1, 1] b6 (kLoop cs m1 b6 (K6 k))
abbrev T0 : Type := Int × Int × Int × Int
def s0 : T0 → St := fun (v0, v1, v2, v3) => ⟨57, 0, [(5, (.c (.int .u64 v0))), (6, (.c (.int .u64 v1))), (7, (.c (.int .u64 v2))), (8, (.c (.int .u64 v3)))], [], [(256000000, .gone)]⟩
noncomputable def l0 ( k n : Nat) (v : T0) : Option R := held (loopN cs n b6 (K6 k) (s0 v))
noncomputable def D0 (v : T0) : Option R := lim fun L => l0 (L 0) (L 1) v
theorem D0_cn (v : T0) : Cn late (D0 v) fun L => l0 (L 0) (L 1) v := of_lim
abbrev T1 : Type := Int × Int × Int × Int
def s1 : T1 → St := fun (v0, v1, v2, v3) => ⟨57, 0, [(5, (.c (.int .u64 v0))), (6, (.c (.int .u64 v1))), (7, (.c (.int .u64 v2))), (8, (.c (.int .u64 v3)))], [], [(256000000, .gone)]⟩
noncomputable def l1 ( k m1 : Nat) (v : T1) : Option R := held (run (cs m1) (loopN cs m1) c1000007 (J1000007 k m1) (s1 v))
noncomputable def D1 (v : T1) : Option R := lim fun L => l1 (L 0) (L 1) v
theorem D1_cn (v : T1) : Cn late (D1 v) fun L => l1 (L 0) (L 1) v := of_lim
def d0 (bits_Mul64_m1 : bits_Mul64.A → Option bits_Mul64.R) (L1m1 : T1 → Option R) : T0 → Option R := fun (v0, v1, v2, v3) =>
br (decide (0 < v3))
  (bnd (bits_Mul64_m1 (bOr IntKind.u64 v2 v3, bOr IntKind.u64 v2 v3)) fun r => br (decide (r.fst < v0) || decide (r.fst = v0) && decide (r.snd ≤ v1)) (L1m1 (v0, v1, bOr IntKind.u64 v2 v3, v3)) (L1m1 (v0, v1, v2, v3)))
  (some (wrap IntKind.i64 v2))
theorem d0_cn {ι : Type} {E : Fil ι} {bits_Mul64_m1 : bits_Mul64.A → Option bits_Mul64.R} {bits_Mul64_m1' : ι → bits_Mul64.A → Option bits_Mul64.R} (hbits_Mul64_m1 : ∀ v, Cn E (bits_Mul64_m1 v) fun i => bits_Mul64_m1' i v) {L1m1 : T1 → Option R} {L1m1' : ι → T1 → Option R} (hL1m1 : ∀ v, Cn E (L1m1 v) fun i => L1m1' i v) : ∀ v : T0, Cn E (d0 bits_Mul64_m1 L1m1 v) fun i => d0 (bits_Mul64_m1' i) (L1m1' i) v := fun (v0, v1, v2, v3) => (.br (.bnd (hbits_Mul64_m1 _) fun _ => (.br (hL1m1 _) (hL1m1 _))) .some)
theorem l0_b ( k m1 : Nat) : ∀ v : T0, run (cs m1) (loopN cs m1) b6 (kLoop cs m1 b6 (K6 k)) (s0 v) = d0 (bits_Mul64.f m1) (l1 k m1) v := fun (v0, v1, v2, v3) => by kernel_rfl
theorem D0_of (v : T0) {r : R} (h : d0 bits_Mul64.F D1 v = some r) : D0 v = some r :=
  loop_of 1 (l := fun L => l0 (L 0) (L 1) v) (d := fun L => d0 (bits_Mul64.f (L 1)) (l1 (L 0) (L 1)) v) (fun L n hn => by show l0 (L 0) (L 1) v = _; rw [hn]; exact (held_eq _).trans ((loopN_succ _ _ _ _ _).trans (l0_b (L 0) n v))) (d0_cn (bits_Mul64.F_cn 1) (fun v => (D1_cn v).re [0, 1]) v) h
def d1 (L0m1 : T0 → Option R) : T1 → Option R := fun (v0, v1, v2, v3) =>
br (decide ((0 : Int) ≤ 1)) (L0m1 (v0, v1, v2, shr IntKind.u64 v3 1)) none
theorem d1_cn {ι : Type} {E : Fil ι} {L0m1 : T0 → Option R} {L0m1' : ι → T0 → Option R} (hL0m1 : ∀ v, Cn E (L0m1 v) fun i => L0m1' i v) : ∀ v : T1, Cn E (d1 L0m1 v) fun i => d1 (L0m1' i) v := fun (v0, v1, v2, v3) => (.br (hL0m1 _) .none)
theorem l1_b ( k m1 : Nat) : ∀ v : T1, run (cs m1) (loopN cs m1) c1000007 (J1000007 k m1) (s1 v) = d1 (l0 k m1) v := fun (v0, v1, v2, v3) => by kernel_rfl
theorem D1_of (v : T1) {r : R} (h : d1 D0 v = some r) : D1 v = some r :=
  join_of (l := fun L => l1 (L 0) (L 1) v) (d := fun L => d1 (l0 (L 0) (L 1)) v) (fun L => (held_eq _).trans (l1_b (L 0) (L 1) v)) (d1_cn (fun v => (D0_cn v).re [0, 1]) v) h
noncomputable def f (k : Nat) : A → Option R := fun (v0, v1) => held (runFn cs k Tryz.f71 [(.c (.int .i64 v0)), (.c (.int .i64 v1))] [] dec)
noncomputable def F (v : A) : Option R := lim fun L => f (L 0) v
theorem F_cn (x : Nat) (v : A) : Cn late (F v) fun L => f (L x) v := of_lim.re [x]
def d (bits_Mul64_k : bits_Mul64.A → Option bits_Mul64.R) (L0k : T0 → Option R) : A → Option R := fun (v0, v1) =>
br (decide (v0 < 0) || decide (v1 < 0)) (some 0) (bnd (bits_Mul64_k (wrap IntKind.u64 v0, wrap IntKind.u64 v1)) fun r => L0k (r.fst, r.snd, 0, 4611686018427387904))
theorem d_cn {ι : Type} {E : Fil ι} {bits_Mul64_k : bits_Mul64.A → Option bits_Mul64.R} {bits_Mul64_k' : ι → bits_Mul64.A → Option bits_Mul64.R} (hbits_Mul64_k : ∀ v, Cn E (bits_Mul64_k v) fun i => bits_Mul64_k' i v) {L0k : T0 → Option R} {L0k' : ι → T0 → Option R} (hL0k : ∀ v, Cn E (L0k v) fun i => L0k' i v) : ∀ v : A, Cn E (d bits_Mul64_k L0k v) fun i => d (bits_Mul64_k' i) (L0k' i) v := fun (v0, v1) => (.br .some (.bnd (hbits_Mul64_k _) fun _ => (hL0k _)))
theorem f_b (k : Nat) : ∀ v : A, f k v = d (bits_Mul64.f k) (l0 k k) v := fun (v0, v1) => (held_eq _).trans (by kernel_rfl)
theorem F_of (v : A) {r : R} (h : d bits_Mul64.F D0 v = some r) : F v = some r :=
  join_of (l := fun L => f (L 0) v) (d := fun L => d (bits_Mul64.f (L 0)) (l0 (L 0) (L 0)) v) (fun L => f_b (L 0) v) (d_cn (bits_Mul64.F_cn 0) (fun v => (D0_cn v).re [0, 0]) v) h
noncomputable def spec (k : Nat) (args : List AV) (ss : List Slot) : Option Ans :=
  match args, ss with
  | [(.c (.int .i64 v0)), (.c (.int .i64 v1))], [] => some ⟨R, f k (v0, v1), enc⟩
  | _, _ => none
theorem spec_ok (k : Nat) : SpecOk Tryz.prog 71 (spec k) := by
  intro args ss ans x h hx X σ w vals hp
  unfold spec at h
  split at h
  · cases h
    exact spec_of cs_ok Tryz.func71 rfl rfl dec_ok (held_eq _).symm hx hp
  · cases h
end num_SqrtMul
noncomputable def t_num_SqrtMul (k : Nat) := tcons 71 (num_SqrtMul.spec k) (t_bound_Add_Fix k)
theorem t_num_SqrtMul_ok (n g : Nat) : SpecOk Tryz.prog g (t_num_SqrtMul n g) := tcons_ok (num_SqrtMul.spec_ok n) (fun g => t_bound_Add_Fix_ok n g) g
namespace bound_Root_Fix
abbrev R : Type := Int × Int × Bool
abbrev A : Type := Int × Int × Bool × Int
def lv : List (Nat × List Nat) := [(2000000, [4]), (1000006, [4, 5, 6])]
noncomputable def cs : Nat → Ctx := ctxOf tis modes t_num_SqrtMul lv
theorem cs_ok (n : Nat) : CtxOk Tryz.prog (cs n) := ctxOf_ok rfl tis_ok t_num_SqrtMul_ok n
def enc (r : R) : Out := ((.agg [(.int .i64 r.1), (.int .i64 r.2.1), (.bool r.2.2)]), [])
def dec : Out → Option R
  | ((.agg [(.int .i64 v0), (.int .i64 v1), (.bool v2)]), []) => some (v0, v1, v2)
  | _ => none
theorem dec_ok : ∀ u y, dec u = some y → u = enc y := by
  intro u y h
  unfold dec at h
  split at h
  · cases h; rfl
  · cases h
noncomputable def b0 : Code := subF [] Tryz.f42
noncomputable def K0 (k : Nat) : Kt R := kTop (cs k) Tryz.f42 dec
noncomputable def c1000006 : Code := sub [1, 1, 1, 1] b0
noncomputable def J1000006 ( k : Nat) : Kt R := kAt (cs k) (loopN cs k) [1, 1, 1, 1] b0 (K0 k)
abbrev T0 : Type := Int × Int × Int × Int × Bool
def s0 : T0 → St := fun (v0, v1, v2, v3, v4) => ⟨43, 0, [(4, (.c (.ptr 64000000 0))), (5, (.c (.int .i64 v0))), (6, (.c (.int .i64 v1)))], [], [(256000000, .gone), (64000000, (.box [(.int .i64 v2), (.int .i64 v3), (.bool v4)]))]⟩
noncomputable def l0 ( k : Nat) (v : T0) : Option R := held (run (cs k) (loopN cs k) c1000006 (J1000006 k) (s0 v))
noncomputable def D0 (v : T0) : Option R := lim fun L => l0 (L 0) v
theorem D0_cn (v : T0) : Cn late (D0 v) fun L => l0 (L 0) v := of_lim
def d0 (bound_Of_Fix_k : bound_Of_Fix.A → Option bound_Of_Fix.R) : T0 → Option R := fun (v0, v1, v2, v3, v4) =>
bnd (bound_Of_Fix_k (v0, v1)) fun r => some (r.fst, r.snd.fst, r.snd.snd)
theorem d0_cn {ι : Type} {E : Fil ι} {bound_Of_Fix_k : bound_Of_Fix.A → Option bound_Of_Fix.R} {bound_Of_Fix_k' : ι → bound_Of_Fix.A → Option bound_Of_Fix.R} (hbound_Of_Fix_k : ∀ v, Cn E (bound_Of_Fix_k v) fun i => bound_Of_Fix_k' i v) : ∀ v : T0, Cn E (d0 bound_Of_Fix_k v) fun i => d0 (bound_Of_Fix_k' i) v := fun (v0, v1, v2, v3, v4) => (.bnd (hbound_Of_Fix_k _) fun _ => .some)
theorem l0_b ( k : Nat) : ∀ v : T0, run (cs k) (loopN cs k) c1000006 (J1000006 k) (s0 v) = d0 (bound_Of_Fix.f k) v := fun (v0, v1, v2, v3, v4) => by kernel_rfl
theorem D0_of (v : T0) {r : R} (h : d0 bound_Of_Fix.F v = some r) : D0 v = some r :=
  join_of (l := fun L => l0 (L 0) v) (d := fun L => d0 (bound_Of_Fix.f (L 0)) v) (fun L => (held_eq _).trans (l0_b (L 0) v)) (d0_cn (bound_Of_Fix.F_cn 0) v) h
noncomputable def f (k : Nat) : A → Option R := fun (v0, v1, v2, v3) => held (runFn cs k Tryz.f42 [(.agg [(.int .i64 v0), (.int .i64 v1), (.bool v2)]), (.c (.int .i64 v3))] [] dec)
noncomputable def F (v : A) : Option R := lim fun L => f (L 0) v
theorem F_cn (x : Nat) (v : A) : Cn late (F v) fun L => f (L x) v := of_lim.re [x]
def d (bound_vague_Fix_k : bound_vague_Fix.A → Option bound_vague_Fix.R) (bound_None_Fix_k : bound_None_Fix.A → Option bound_None_Fix.R) (num_SqrtMul_k : num_SqrtMul.A → Option num_SqrtMul.R) (num_Product_k : num_Product.A → Option num_Product.R) (num_Wide_Cmp_k : num_Wide_Cmp.A → Option num_Wide_Cmp.R) (L0k : T0 → Option R) : A → Option R := fun (v0, v1, v2, v3) =>
bnd (bound_vague_Fix_k (v0, v1, v2, v0, v1, v2)) fun r =>
  br (r || decide (v3 < 1) || decide (v1 < 0)) (bnd (bound_None_Fix_k ()) fun r => some (r.fst, r.snd.fst, r.snd.snd))
    (bnd (num_SqrtMul_k (max v0 0, v3)) fun r =>
      bnd (num_SqrtMul_k (v1, v3)) fun r_1 =>
        bnd (num_Product_k (r_1, r_1)) fun r_2 =>
          bnd (num_Product_k (v1, v3)) fun r_3 => bnd (num_Wide_Cmp_k (r_2.fst, r_2.snd, r_3.fst, r_3.snd)) fun r_4 => br (decide (r_4 < 0)) (L0k (r, wrap IntKind.i64 (r_1 + 1), 0, 0, false)) (L0k (r, r_1, 0, 0, false)))
theorem d_cn {ι : Type} {E : Fil ι} {bound_vague_Fix_k : bound_vague_Fix.A → Option bound_vague_Fix.R} {bound_vague_Fix_k' : ι → bound_vague_Fix.A → Option bound_vague_Fix.R} (hbound_vague_Fix_k : ∀ v, Cn E (bound_vague_Fix_k v) fun i => bound_vague_Fix_k' i v) {bound_None_Fix_k : bound_None_Fix.A → Option bound_None_Fix.R} {bound_None_Fix_k' : ι → bound_None_Fix.A → Option bound_None_Fix.R} (hbound_None_Fix_k : ∀ v, Cn E (bound_None_Fix_k v) fun i => bound_None_Fix_k' i v) {num_SqrtMul_k : num_SqrtMul.A → Option num_SqrtMul.R} {num_SqrtMul_k' : ι → num_SqrtMul.A → Option num_SqrtMul.R} (hnum_SqrtMul_k : ∀ v, Cn E (num_SqrtMul_k v) fun i => num_SqrtMul_k' i v) {num_Product_k : num_Product.A → Option num_Product.R} {num_Product_k' : ι → num_Product.A → Option num_Product.R} (hnum_Product_k : ∀ v, Cn E (num_Product_k v) fun i => num_Product_k' i v) {num_Wide_Cmp_k : num_Wide_Cmp.A → Option num_Wide_Cmp.R} {num_Wide_Cmp_k' : ι → num_Wide_Cmp.A → Option num_Wide_Cmp.R} (hnum_Wide_Cmp_k : ∀ v, Cn E (num_Wide_Cmp_k v) fun i => num_Wide_Cmp_k' i v) {L0k : T0 → Option R} {L0k' : ι → T0 → Option R} (hL0k : ∀ v, Cn E (L0k v) fun i => L0k' i v) : ∀ v : A, Cn E (d bound_vague_Fix_k bound_None_Fix_k num_SqrtMul_k num_Product_k num_Wide_Cmp_k L0k v) fun i => d (bound_vague_Fix_k' i) (bound_None_Fix_k' i) (num_SqrtMul_k' i) (num_Product_k' i) (num_Wide_Cmp_k' i) (L0k' i) v := fun (v0, v1, v2, v3) => (.bnd (hbound_vague_Fix_k _) fun _ => (.br (.bnd (hbound_None_Fix_k _) fun _ => .some) (.bnd (hnum_SqrtMul_k _) fun _ => (.bnd (hnum_SqrtMul_k _) fun _ => (.bnd (hnum_Product_k _) fun _ => (.bnd (hnum_Product_k _) fun _ => (.bnd (hnum_Wide_Cmp_k _) fun _ => (.br (hL0k _) (hL0k _)))))))))
theorem f_b (k : Nat) : ∀ v : A, f k v = d (bound_vague_Fix.f k) (bound_None_Fix.f k) (num_SqrtMul.f k) (num_Product.f k) (num_Wide_Cmp.f k) (l0 k) v := fun (v0, v1, v2, v3) => (held_eq _).trans (by kernel_rfl)
theorem F_of (v : A) {r : R} (h : d bound_vague_Fix.F bound_None_Fix.F num_SqrtMul.F num_Product.F num_Wide_Cmp.F D0 v = some r) : F v = some r :=
  join_of (l := fun L => f (L 0) v) (d := fun L => d (bound_vague_Fix.f (L 0)) (bound_None_Fix.f (L 0)) (num_SqrtMul.f (L 0)) (num_Product.f (L 0)) (num_Wide_Cmp.f (L 0)) (l0 (L 0)) v) (fun L => f_b (L 0) v) (d_cn (bound_vague_Fix.F_cn 0) (bound_None_Fix.F_cn 0) (num_SqrtMul.F_cn 0) (num_Product.F_cn 0) (num_Wide_Cmp.F_cn 0) (fun v => (D0_cn v).re [0]) v) h
noncomputable def spec (k : Nat) (args : List AV) (ss : List Slot) : Option Ans :=
  match args, ss with
  | [(.agg [(.int .i64 v0), (.int .i64 v1), (.bool v2)]), (.c (.int .i64 v3))], [] => some ⟨R, f k (v0, v1, v2, v3), enc⟩
  | _, _ => none
theorem spec_ok (k : Nat) : SpecOk Tryz.prog 42 (spec k) := by
  intro args ss ans x h hx X σ w vals hp
  unfold spec at h
  split at h
  · cases h
    exact spec_of cs_ok Tryz.func42 rfl rfl dec_ok (held_eq _).symm hx hp
  · cases h
end bound_Root_Fix
noncomputable def t_bound_Root_Fix (k : Nat) := tcons 42 (bound_Root_Fix.spec k) (t_num_SqrtMul k)
theorem t_bound_Root_Fix_ok (n g : Nat) : SpecOk Tryz.prog g (t_bound_Root_Fix n g) := tcons_ok (bound_Root_Fix.spec_ok n) (fun g => t_num_SqrtMul_ok n g) g
namespace bound_Neg_Fix
abbrev R : Type := Int × Int × Bool
abbrev A : Type := Int × Int × Bool
def lv : List (Nat × List Nat) := [(2000000, [2])]
noncomputable def cs : Nat → Ctx := ctxOf tis modes t_bound_Root_Fix lv
theorem cs_ok (n : Nat) : CtxOk Tryz.prog (cs n) := ctxOf_ok rfl tis_ok t_bound_Root_Fix_ok n
def enc (r : R) : Out := ((.agg [(.int .i64 r.1), (.int .i64 r.2.1), (.bool r.2.2)]), [])
def dec : Out → Option R
  | ((.agg [(.int .i64 v0), (.int .i64 v1), (.bool v2)]), []) => some (v0, v1, v2)
  | _ => none
theorem dec_ok : ∀ u y, dec u = some y → u = enc y := by
  intro u y h
  unfold dec at h
  split at h
  · cases h; rfl
  · cases h
noncomputable def b0 : Code := subF [] Tryz.f73
noncomputable def K0 (k : Nat) : Kt R := kTop (cs k) Tryz.f73 dec
noncomputable def f (k : Nat) : A → Option R := fun (v0, v1, v2) => held (runFn cs k Tryz.f73 [(.agg [(.int .i64 v0), (.int .i64 v1), (.bool v2)])] [] dec)
noncomputable def F (v : A) : Option R := lim fun L => f (L 0) v
theorem F_cn (x : Nat) (v : A) : Cn late (F v) fun L => f (L x) v := of_lim.re [x]
def d (bound_Norm_Fix_k : bound_Norm_Fix.A → Option bound_Norm_Fix.R) : A → Option R := fun (v0, v1, v2) =>
bnd (bound_Norm_Fix_k (v0, v1, v2)) fun r => some (wrap IntKind.i64 (0 - r.snd.fst), wrap IntKind.i64 (0 - r.fst), r.snd.snd)
theorem d_cn {ι : Type} {E : Fil ι} {bound_Norm_Fix_k : bound_Norm_Fix.A → Option bound_Norm_Fix.R} {bound_Norm_Fix_k' : ι → bound_Norm_Fix.A → Option bound_Norm_Fix.R} (hbound_Norm_Fix_k : ∀ v, Cn E (bound_Norm_Fix_k v) fun i => bound_Norm_Fix_k' i v) : ∀ v : A, Cn E (d bound_Norm_Fix_k v) fun i => d (bound_Norm_Fix_k' i) v := fun (v0, v1, v2) => (.bnd (hbound_Norm_Fix_k _) fun _ => .some)
theorem f_b (k : Nat) : ∀ v : A, f k v = d (bound_Norm_Fix.f k) v := fun (v0, v1, v2) => (held_eq _).trans (by kernel_rfl)
theorem F_of (v : A) {r : R} (h : d bound_Norm_Fix.F v = some r) : F v = some r :=
  join_of (l := fun L => f (L 0) v) (d := fun L => d (bound_Norm_Fix.f (L 0)) v) (fun L => f_b (L 0) v) (d_cn (bound_Norm_Fix.F_cn 0) v) h
noncomputable def spec (k : Nat) (args : List AV) (ss : List Slot) : Option Ans :=
  match args, ss with
  | [(.agg [(.int .i64 v0), (.int .i64 v1), (.bool v2)])], [] => some ⟨R, f k (v0, v1, v2), enc⟩
  | _, _ => none
theorem spec_ok (k : Nat) : SpecOk Tryz.prog 73 (spec k) := by
  intro args ss ans x h hx X σ w vals hp
  unfold spec at h
  split at h
  · cases h
    exact spec_of cs_ok Tryz.func73 rfl rfl dec_ok (held_eq _).symm hx hp
  · cases h
end bound_Neg_Fix
noncomputable def t_bound_Neg_Fix (k : Nat) := tcons 73 (bound_Neg_Fix.spec k) (t_bound_Root_Fix k)
theorem t_bound_Neg_Fix_ok (n g : Nat) : SpecOk Tryz.prog g (t_bound_Neg_Fix n g) := tcons_ok (bound_Neg_Fix.spec_ok n) (fun g => t_bound_Root_Fix_ok n g) g
namespace bound_Div_FixS1
abbrev R : Type := Int × Int × Int
abbrev A : Type := Int × Int × Int
def lv : List (Nat × List Nat) := [(2000000, [5, 6])]
noncomputable def cs : Nat → Ctx := ctxOf tis modes t_bound_Neg_Fix lv
theorem cs_ok (n : Nat) : CtxOk Tryz.prog (cs n) := ctxOf_ok rfl tis_ok t_bound_Neg_Fix_ok n
def enc (r : R) : Out := ((.tup [(.c (.int .i64 r.1)), (.c (.int .i64 r.2.1))]), [(.box [(.int .i64 r.2.2)])])
def dec : Out → Option R
  | ((.tup [(.c (.int .i64 v0)), (.c (.int .i64 v1))]), [(.box [(.int .i64 v2)])]) => some (v0, v1, v2)
  | _ => none
theorem dec_ok : ∀ u y, dec u = some y → u = enc y := by
  intro u y h
  unfold dec at h
  split at h
  · cases h; rfl
  · cases h
noncomputable def b0 : Code := subF [] Tryz.f74
noncomputable def K0 (k : Nat) : Kt R := kTop (cs k) Tryz.f74 dec
noncomputable def f (k : Nat) : A → Option R := fun (v0, v1, v2) => held (runFn cs k Tryz.f74 [(.c (.int .i64 v0)), (.c (.int .i64 v1)), (.c (.ptr 128000000 0))] [(.box [(.int .i64 v2)])] dec)
noncomputable def F (v : A) : Option R := lim fun L => f (L 0) v
theorem F_cn (x : Nat) (v : A) : Cn late (F v) fun L => f (L x) v := of_lim.re [x]
def d (num_MulDiv_k : num_MulDiv.A → Option num_MulDiv.R) : A → Option R := fun (v0, v1, v2) =>
bnd (num_MulDiv_k (v0, v2, v1)) fun r => some (r.fst, r.snd, v2)
theorem d_cn {ι : Type} {E : Fil ι} {num_MulDiv_k : num_MulDiv.A → Option num_MulDiv.R} {num_MulDiv_k' : ι → num_MulDiv.A → Option num_MulDiv.R} (hnum_MulDiv_k : ∀ v, Cn E (num_MulDiv_k v) fun i => num_MulDiv_k' i v) : ∀ v : A, Cn E (d num_MulDiv_k v) fun i => d (num_MulDiv_k' i) v := fun (v0, v1, v2) => (.bnd (hnum_MulDiv_k _) fun _ => .some)
theorem f_b (k : Nat) : ∀ v : A, f k v = d (num_MulDiv.f k) v := fun (v0, v1, v2) => (held_eq _).trans (by kernel_rfl)
theorem F_of (v : A) {r : R} (h : d num_MulDiv.F v = some r) : F v = some r :=
  join_of (l := fun L => f (L 0) v) (d := fun L => d (num_MulDiv.f (L 0)) v) (fun L => f_b (L 0) v) (d_cn (num_MulDiv.F_cn 0) v) h
noncomputable def spec (k : Nat) (args : List AV) (ss : List Slot) : Option Ans :=
  match args, ss with
  | [(.c (.int .i64 v0)), (.c (.int .i64 v1)), (.c (.ptr 128000000 0))], [(.box [(.int .i64 v2)])] => some ⟨R, f k (v0, v1, v2), enc⟩
  | _, _ => none
theorem spec_ok (k : Nat) : SpecOk Tryz.prog 74 (spec k) := by
  intro args ss ans x h hx X σ w vals hp
  unfold spec at h
  split at h
  · cases h
    exact spec_of cs_ok Tryz.func74 rfl rfl dec_ok (held_eq _).symm hx hp
  · cases h
end bound_Div_FixS1
noncomputable def t_bound_Div_FixS1 (k : Nat) := tcons 74 (bound_Div_FixS1.spec k) (t_bound_Neg_Fix k)
theorem t_bound_Div_FixS1_ok (n g : Nat) : SpecOk Tryz.prog g (t_bound_Div_FixS1 n g) := tcons_ok (bound_Div_FixS1.spec_ok n) (fun g => t_bound_Neg_Fix_ok n g) g
namespace bound_Div_FixS2
abbrev R : Type := Int × Int × Int
abbrev A : Type := Int × Int × Int
def lv : List (Nat × List Nat) := [(2000000, [5, 6])]
noncomputable def cs : Nat → Ctx := ctxOf tis modes t_bound_Div_FixS1 lv
theorem cs_ok (n : Nat) : CtxOk Tryz.prog (cs n) := ctxOf_ok rfl tis_ok t_bound_Div_FixS1_ok n
def enc (r : R) : Out := ((.tup [(.c (.int .i64 r.1)), (.c (.int .i64 r.2.1))]), [(.box [(.int .i64 r.2.2)])])
def dec : Out → Option R
  | ((.tup [(.c (.int .i64 v0)), (.c (.int .i64 v1))]), [(.box [(.int .i64 v2)])]) => some (v0, v1, v2)
  | _ => none
theorem dec_ok : ∀ u y, dec u = some y → u = enc y := by
  intro u y h
  unfold dec at h
  split at h
  · cases h; rfl
  · cases h
noncomputable def b0 : Code := subF [] Tryz.f75
noncomputable def K0 (k : Nat) : Kt R := kTop (cs k) Tryz.f75 dec
noncomputable def f (k : Nat) : A → Option R := fun (v0, v1, v2) => held (runFn cs k Tryz.f75 [(.c (.int .i64 v0)), (.c (.int .i64 v1)), (.c (.ptr 128000000 0))] [(.box [(.int .i64 v2)])] dec)
noncomputable def F (v : A) : Option R := lim fun L => f (L 0) v
theorem F_cn (x : Nat) (v : A) : Cn late (F v) fun L => f (L x) v := of_lim.re [x]
def d (num_MulDivUp_k : num_MulDivUp.A → Option num_MulDivUp.R) : A → Option R := fun (v0, v1, v2) =>
bnd (num_MulDivUp_k (v0, v2, v1)) fun r => some (r.fst, r.snd, v2)
theorem d_cn {ι : Type} {E : Fil ι} {num_MulDivUp_k : num_MulDivUp.A → Option num_MulDivUp.R} {num_MulDivUp_k' : ι → num_MulDivUp.A → Option num_MulDivUp.R} (hnum_MulDivUp_k : ∀ v, Cn E (num_MulDivUp_k v) fun i => num_MulDivUp_k' i v) : ∀ v : A, Cn E (d num_MulDivUp_k v) fun i => d (num_MulDivUp_k' i) v := fun (v0, v1, v2) => (.bnd (hnum_MulDivUp_k _) fun _ => .some)
theorem f_b (k : Nat) : ∀ v : A, f k v = d (num_MulDivUp.f k) v := fun (v0, v1, v2) => (held_eq _).trans (by kernel_rfl)
theorem F_of (v : A) {r : R} (h : d num_MulDivUp.F v = some r) : F v = some r :=
  join_of (l := fun L => f (L 0) v) (d := fun L => d (num_MulDivUp.f (L 0)) v) (fun L => f_b (L 0) v) (d_cn (num_MulDivUp.F_cn 0) v) h
noncomputable def spec (k : Nat) (args : List AV) (ss : List Slot) : Option Ans :=
  match args, ss with
  | [(.c (.int .i64 v0)), (.c (.int .i64 v1)), (.c (.ptr 128000000 0))], [(.box [(.int .i64 v2)])] => some ⟨R, f k (v0, v1, v2), enc⟩
  | _, _ => none
theorem spec_ok (k : Nat) : SpecOk Tryz.prog 75 (spec k) := by
  intro args ss ans x h hx X σ w vals hp
  unfold spec at h
  split at h
  · cases h
    exact spec_of cs_ok Tryz.func75 rfl rfl dec_ok (held_eq _).symm hx hp
  · cases h
end bound_Div_FixS2
noncomputable def t_bound_Div_FixS2 (k : Nat) := tcons 75 (bound_Div_FixS2.spec k) (t_bound_Div_FixS1 k)
theorem t_bound_Div_FixS2_ok (n g : Nat) : SpecOk Tryz.prog g (t_bound_Div_FixS2 n g) := tcons_ok (bound_Div_FixS2.spec_ok n) (fun g => t_bound_Div_FixS1_ok n g) g
namespace bound_corners_Fix_1
abbrev R : Type := Int × Int × Bool × Int
abbrev A : Type := Int × Int × Bool × Int × Int × Bool × Int
def lv : List (Nat × List Nat) := [(2000000, [8]), (3, [2, 3, 5, 8, 9, 22, 23, 24]), (6, [2, 3, 5, 8, 9, 11, 22, 23, 24, 32, 33, 34])]
noncomputable def cs : Nat → Ctx := ctxOf tis modes t_bound_Div_FixS2 lv
theorem cs_ok (n : Nat) : CtxOk Tryz.prog (cs n) := ctxOf_ok rfl tis_ok t_bound_Div_FixS2_ok n
def enc (r : R) : Out := ((.agg [(.int .i64 r.1), (.int .i64 r.2.1), (.bool r.2.2.1)]), [(.box [(.int .i64 r.2.2.2)])])
def dec : Out → Option R
  | ((.agg [(.int .i64 v0), (.int .i64 v1), (.bool v2)]), [(.box [(.int .i64 v3)])]) => some (v0, v1, v2, v3)
  | _ => none
theorem dec_ok : ∀ u y, dec u = some y → u = enc y := by
  intro u y h
  unfold dec at h
  split at h
  · cases h; rfl
  · cases h
noncomputable def b0 : Code := subF [] Tryz.f68
noncomputable def K0 (k : Nat) : Kt R := kTop (cs k) Tryz.f68 dec
noncomputable def b3 : Code := sub [1, 1, 0, 1, 0, 0] b0
noncomputable def K3 ( k : Nat) : Kt R := kAt (cs k) (loopN cs k) [1, 1, 0, 1, 0] b0 (K0 k)
noncomputable def b6 : Code := sub [1, 1, 0, 0, 1, 1, 0, 0] b3
noncomputable def K6 ( k m1 : Nat) : Kt R := kAt (cs m1) (loopN cs m1) [1, 1, 0, 0, 1, 1, 0] b3 (kLoop cs m1 b3 (K3 k))
abbrev T0 : Type := Int × Int × Int × Int × Int × Bool × Int × Int × Bool × List Int × List Int
def s0 : T0 → St := fun (v0, v1, v2, v3, v4, v5, v6, v7, v8, v9, v10) => ⟨71, 1, [(2, (.c (.func 74 [(128000000, 0)]))), (3, (.c (.func 75 [(128000000, 0)]))), (5, (.c (.ptr 64000000 0))), (8, (.c (.ptr 64000001 0))), (9, (.c (.sl 64000002))), (22, (.c (.sl 64000003))), (23, (.c (.int .i64 v0))), (24, (.c (.int .i64 v1)))], [], [(128000000, (.box [(.int .i64 v2)])), (256000000, .gone), (64000000, (.box [(.int .i64 v3), (.int .i64 v4), (.bool v5)])), (64000001, (.box [(.int .i64 v6), (.int .i64 v7), (.bool v8)])), (64000002, (.row (.int .i64) v9)), (64000003, (.row (.int .i64) v10))]⟩
noncomputable def l0 ( k n : Nat) (v : T0) : Option R := held (loopN cs n b3 (K3 k) (s0 v))
noncomputable def D0 (v : T0) : Option R := lim fun L => l0 (L 0) (L 1) v
theorem D0_cn (v : T0) : Cn late (D0 v) fun L => l0 (L 0) (L 1) v := of_lim
abbrev T1 : Type := Int × Int × Int × Int × Int × Int × Int × Int × Bool × Int × Int × Bool × List Int × List Int × List Int
def s1 : T1 → St := fun (v0, v1, v2, v3, v4, v5, v6, v7, v8, v9, v10, v11, v12, v13, v14) => ⟨71, 1, [(2, (.c (.func 74 [(128000000, 0)]))), (3, (.c (.func 75 [(128000000, 0)]))), (5, (.c (.ptr 64000000 0))), (8, (.c (.ptr 64000001 0))), (9, (.c (.sl 64000002))), (11, (.c (.int .i64 v0))), (22, (.c (.sl 64000003))), (23, (.c (.int .i64 v1))), (24, (.c (.int .i64 v2))), (32, (.c (.sl 64000004))), (33, (.c (.int .i64 v3))), (34, (.c (.int .i64 v4)))], [], [(128000000, (.box [(.int .i64 v5)])), (256000000, .gone), (64000000, (.box [(.int .i64 v6), (.int .i64 v7), (.bool v8)])), (64000001, (.box [(.int .i64 v9), (.int .i64 v10), (.bool v11)])), (64000002, (.row (.int .i64) v12)), (64000003, (.row (.int .i64) v13)), (64000004, (.row (.int .i64) v14))]⟩
noncomputable def l1 ( k m1 n : Nat) (v : T1) : Option R := held (loopN cs n b6 (K6 k m1) (s1 v))
noncomputable def D1 (v : T1) : Option R := lim fun L => l1 (L 0) (L 1) (L 2) v
theorem D1_cn (v : T1) : Cn late (D1 v) fun L => l1 (L 0) (L 1) (L 2) v := of_lim
def d0 (L1m1 : T1 → Option R) (slices_Min_Fix_k : slices_Min_Fix.A → Option slices_Min_Fix.R) (slices_Max_Fix_k : slices_Max_Fix.A → Option slices_Max_Fix.R) (bound_Of_Fix_k : bound_Of_Fix.A → Option bound_Of_Fix.R) : T0 → Option R := fun (v0, v1, v2, v3, v4, v5, v6, v7, v8, v9, v10) =>
br (decide (v1 < v0)) (br (decide (0 ≤ v1 ∧ v1 < (↑v10.length : Int))) (L1m1 (rd (Ty.int IntKind.i64) v10 v1, v0, v1, (↑[v3, v4].length : Int), 0, v2, v3, v4, v5, v6, v7, v8, v9, v10, [v3, v4])) none)
  (bnd (slices_Min_Fix_k v9) fun r => bnd (slices_Max_Fix_k v9) fun r_1 => bnd (bound_Of_Fix_k (r, r_1)) fun r => some (r.fst, r.snd.fst, r.snd.snd, v2))
theorem d0_cn {ι : Type} {E : Fil ι} {L1m1 : T1 → Option R} {L1m1' : ι → T1 → Option R} (hL1m1 : ∀ v, Cn E (L1m1 v) fun i => L1m1' i v) {slices_Min_Fix_k : slices_Min_Fix.A → Option slices_Min_Fix.R} {slices_Min_Fix_k' : ι → slices_Min_Fix.A → Option slices_Min_Fix.R} (hslices_Min_Fix_k : ∀ v, Cn E (slices_Min_Fix_k v) fun i => slices_Min_Fix_k' i v) {slices_Max_Fix_k : slices_Max_Fix.A → Option slices_Max_Fix.R} {slices_Max_Fix_k' : ι → slices_Max_Fix.A → Option slices_Max_Fix.R} (hslices_Max_Fix_k : ∀ v, Cn E (slices_Max_Fix_k v) fun i => slices_Max_Fix_k' i v) {bound_Of_Fix_k : bound_Of_Fix.A → Option bound_Of_Fix.R} {bound_Of_Fix_k' : ι → bound_Of_Fix.A → Option bound_Of_Fix.R} (hbound_Of_Fix_k : ∀ v, Cn E (bound_Of_Fix_k v) fun i => bound_Of_Fix_k' i v) : ∀ v : T0, Cn E (d0 L1m1 slices_Min_Fix_k slices_Max_Fix_k bound_Of_Fix_k v) fun i => d0 (L1m1' i) (slices_Min_Fix_k' i) (slices_Max_Fix_k' i) (bound_Of_Fix_k' i) v := fun (v0, v1, v2, v3, v4, v5, v6, v7, v8, v9, v10) => (.br (.br (hL1m1 _) .none) (.bnd (hslices_Min_Fix_k _) fun _ => (.bnd (hslices_Max_Fix_k _) fun _ => (.bnd (hbound_Of_Fix_k _) fun _ => .some))))
theorem l0_b ( k m1 : Nat) : ∀ v : T0, run (cs m1) (loopN cs m1) b3 (kLoop cs m1 b3 (K3 k)) (s0 v) = d0 (l1 k m1 m1) (slices_Min_Fix.f k) (slices_Max_Fix.f k) (bound_Of_Fix.f k) v := fun (v0, v1, v2, v3, v4, v5, v6, v7, v8, v9, v10) => by kernel_rfl
theorem D0_of (v : T0) {r : R} (h : d0 D1 slices_Min_Fix.F slices_Max_Fix.F bound_Of_Fix.F v = some r) : D0 v = some r :=
  loop_of 1 (l := fun L => l0 (L 0) (L 1) v) (d := fun L => d0 (l1 (L 0) (L 1) (L 1)) (slices_Min_Fix.f (L 0)) (slices_Max_Fix.f (L 0)) (bound_Of_Fix.f (L 0)) v) (fun L n hn => by show l0 (L 0) (L 1) v = _; rw [hn]; exact (held_eq _).trans ((loopN_succ _ _ _ _ _).trans (l0_b (L 0) n v))) (d0_cn (fun v => (D1_cn v).re [0, 1, 1]) (slices_Min_Fix.F_cn 0) (slices_Max_Fix.F_cn 0) (bound_Of_Fix.F_cn 0) v) h
def d1 (bound_Div_FixS1_m2 : bound_Div_FixS1.A → Option bound_Div_FixS1.R) (bound_Div_FixS2_m2 : bound_Div_FixS2.A → Option bound_Div_FixS2.R) (bound_None_Fix_m2 : bound_None_Fix.A → Option bound_None_Fix.R) (L1m2 : T1 → Option R) (L0m1 : T0 → Option R) : T1 → Option R := fun (v0, v1, v2, v3, v4, v5, v6, v7, v8, v9, v10, v11, v12, v13, v14) =>
br (decide (v4 < v3))
  (br (decide (0 ≤ v4 ∧ v4 < (↑v14.length : Int)))
    (bnd (bound_Div_FixS1_m2 (v0, rd (Ty.int IntKind.i64) v14 v4, v5)) fun r =>
      bnd (bound_Div_FixS2_m2 (v0, rd (Ty.int IntKind.i64) v14 v4, r.snd.snd)) fun r_1 =>
        br (!decide (r.snd.fst = 0) || !decide (r_1.snd.fst = 0)) (bnd (bound_None_Fix_m2 ()) fun r => some (r.fst, r.snd.fst, r.snd.snd, r_1.snd.snd))
          (br (decide (v12.length + [r.fst, r_1.fst].length ≤ 140737488355328 / 8)) (L1m2 (v0, v1, v2, v3, wrap IntKind.i64 (v4 + 1), r_1.snd.snd, v6, v7, v8, v9, v10, v11, v12 ++ [r.fst, r_1.fst], v13, v14)) none))
    none)
  (L0m1 (v1, wrap IntKind.i64 (v2 + 1), v5, v6, v7, v8, v9, v10, v11, v12, v13))
theorem d1_cn {ι : Type} {E : Fil ι} {bound_Div_FixS1_m2 : bound_Div_FixS1.A → Option bound_Div_FixS1.R} {bound_Div_FixS1_m2' : ι → bound_Div_FixS1.A → Option bound_Div_FixS1.R} (hbound_Div_FixS1_m2 : ∀ v, Cn E (bound_Div_FixS1_m2 v) fun i => bound_Div_FixS1_m2' i v) {bound_Div_FixS2_m2 : bound_Div_FixS2.A → Option bound_Div_FixS2.R} {bound_Div_FixS2_m2' : ι → bound_Div_FixS2.A → Option bound_Div_FixS2.R} (hbound_Div_FixS2_m2 : ∀ v, Cn E (bound_Div_FixS2_m2 v) fun i => bound_Div_FixS2_m2' i v) {bound_None_Fix_m2 : bound_None_Fix.A → Option bound_None_Fix.R} {bound_None_Fix_m2' : ι → bound_None_Fix.A → Option bound_None_Fix.R} (hbound_None_Fix_m2 : ∀ v, Cn E (bound_None_Fix_m2 v) fun i => bound_None_Fix_m2' i v) {L1m2 : T1 → Option R} {L1m2' : ι → T1 → Option R} (hL1m2 : ∀ v, Cn E (L1m2 v) fun i => L1m2' i v) {L0m1 : T0 → Option R} {L0m1' : ι → T0 → Option R} (hL0m1 : ∀ v, Cn E (L0m1 v) fun i => L0m1' i v) : ∀ v : T1, Cn E (d1 bound_Div_FixS1_m2 bound_Div_FixS2_m2 bound_None_Fix_m2 L1m2 L0m1 v) fun i => d1 (bound_Div_FixS1_m2' i) (bound_Div_FixS2_m2' i) (bound_None_Fix_m2' i) (L1m2' i) (L0m1' i) v := fun (v0, v1, v2, v3, v4, v5, v6, v7, v8, v9, v10, v11, v12, v13, v14) => (.br (.br (.bnd (hbound_Div_FixS1_m2 _) fun _ => (.bnd (hbound_Div_FixS2_m2 _) fun _ => (.br (.bnd (hbound_None_Fix_m2 _) fun _ => .some) (.br (hL1m2 _) .none)))) .none) (hL0m1 _))
theorem l1_b ( k m1 m2 : Nat) : ∀ v : T1, run (cs m2) (loopN cs m2) b6 (kLoop cs m2 b6 (K6 k m1)) (s1 v) = d1 (bound_Div_FixS1.f m2) (bound_Div_FixS2.f m2) (bound_None_Fix.f m2) (l1 k m1 m2) (l0 k m1) v := fun (v0, v1, v2, v3, v4, v5, v6, v7, v8, v9, v10, v11, v12, v13, v14) => by kernel_rfl
theorem D1_of (v : T1) {r : R} (h : d1 bound_Div_FixS1.F bound_Div_FixS2.F bound_None_Fix.F D1 D0 v = some r) : D1 v = some r :=
  loop_of 2 (l := fun L => l1 (L 0) (L 1) (L 2) v) (d := fun L => d1 (bound_Div_FixS1.f (L 2)) (bound_Div_FixS2.f (L 2)) (bound_None_Fix.f (L 2)) (l1 (L 0) (L 1) (L 2)) (l0 (L 0) (L 1)) v) (fun L n hn => by show l1 (L 0) (L 1) (L 2) v = _; rw [hn]; exact (held_eq _).trans ((loopN_succ _ _ _ _ _).trans (l1_b (L 0) (L 1) n v))) (d1_cn (bound_Div_FixS1.F_cn 2) (bound_Div_FixS2.F_cn 2) (bound_None_Fix.F_cn 2) (fun v => (D1_cn v).re [0, 1, 2]) (fun v => (D0_cn v).re [0, 1]) v) h
noncomputable def f (k : Nat) : A → Option R := fun (v0, v1, v2, v3, v4, v5, v6) => held (runFn cs k Tryz.f68 [(.agg [(.int .i64 v0), (.int .i64 v1), (.bool v2)]), (.agg [(.int .i64 v3), (.int .i64 v4), (.bool v5)]), (.c (.func 74 [(128000000, 0)])), (.c (.func 75 [(128000000, 0)]))] [(.box [(.int .i64 v6)])] dec)
noncomputable def F (v : A) : Option R := lim fun L => f (L 0) v
theorem F_cn (x : Nat) (v : A) : Cn late (F v) fun L => f (L x) v := of_lim.re [x]
def d (L0k : T0 → Option R) : A → Option R := fun (v0, v1, v2, v3, v4, v5, v6) =>
L0k ((↑[v0, v1].length : Int), 0, v6, v3, v4, v5, 0, 0, false, [], [v0, v1])
theorem d_cn {ι : Type} {E : Fil ι} {L0k : T0 → Option R} {L0k' : ι → T0 → Option R} (hL0k : ∀ v, Cn E (L0k v) fun i => L0k' i v) : ∀ v : A, Cn E (d L0k v) fun i => d (L0k' i) v := fun (v0, v1, v2, v3, v4, v5, v6) => (hL0k _)
theorem f_b (k : Nat) : ∀ v : A, f k v = d (l0 k k) v := fun (v0, v1, v2, v3, v4, v5, v6) => (held_eq _).trans (by kernel_rfl)
theorem F_of (v : A) {r : R} (h : d D0 v = some r) : F v = some r :=
  join_of (l := fun L => f (L 0) v) (d := fun L => d (l0 (L 0) (L 0)) v) (fun L => f_b (L 0) v) (d_cn (fun v => (D0_cn v).re [0, 0]) v) h
noncomputable def spec (k : Nat) (args : List AV) (ss : List Slot) : Option Ans :=
  match args, ss with
  | [(.agg [(.int .i64 v0), (.int .i64 v1), (.bool v2)]), (.agg [(.int .i64 v3), (.int .i64 v4), (.bool v5)]), (.c (.func 74 [(128000000, 0)])), (.c (.func 75 [(128000000, 0)]))], [(.box [(.int .i64 v6)])] => some ⟨R, f k (v0, v1, v2, v3, v4, v5, v6), enc⟩
  | _, _ => none
theorem spec_ok (k : Nat) : SpecOk Tryz.prog 68 (spec k) := by
  intro args ss ans x h hx X σ w vals hp
  unfold spec at h
  split at h
  · cases h
    exact spec_of cs_ok Tryz.func68 rfl rfl dec_ok (held_eq _).symm hx hp
  · cases h
end bound_corners_Fix_1
noncomputable def t_bound_corners_Fix_1 (k : Nat) := tcons 68 (bound_corners_Fix_1.spec k) (t_bound_Div_FixS2 k)
theorem t_bound_corners_Fix_1_ok (n g : Nat) : SpecOk Tryz.prog g (t_bound_corners_Fix_1 n g) := tcons_ok (bound_corners_Fix_1.spec_ok n) (fun g => t_bound_Div_FixS2_ok n g) g
namespace bound_Div_Fix
abbrev R : Type := Int × Int × Bool
abbrev A : Type := Int × Int × Bool × Int × Int × Bool × Int
def lv : List (Nat × List Nat) := [(2000000, [6]), (1000005, [3, 4, 5, 6])]
noncomputable def cs : Nat → Ctx := ctxOf tis modes t_bound_corners_Fix_1 lv
theorem cs_ok (n : Nat) : CtxOk Tryz.prog (cs n) := ctxOf_ok rfl tis_ok t_bound_corners_Fix_1_ok n
def enc (r : R) : Out := ((.agg [(.int .i64 r.1), (.int .i64 r.2.1), (.bool r.2.2)]), [])
def dec : Out → Option R
  | ((.agg [(.int .i64 v0), (.int .i64 v1), (.bool v2)]), []) => some (v0, v1, v2)
  | _ => none
theorem dec_ok : ∀ u y, dec u = some y → u = enc y := by
  intro u y h
  unfold dec at h
  split at h
  · cases h; rfl
  · cases h
noncomputable def b0 : Code := subF [] Tryz.f44
noncomputable def K0 (k : Nat) : Kt R := kTop (cs k) Tryz.f44 dec
noncomputable def c1000005 : Code := sub [1, 1, 1] b0
noncomputable def J1000005 ( k : Nat) : Kt R := kAt (cs k) (loopN cs k) [1, 1, 1] b0 (K0 k)
abbrev T0 : Type := Int × Int × Bool × Int × Int × Bool × Int × Int × Int × Bool
def s0 : T0 → St := fun (v0, v1, v2, v3, v4, v5, v6, v7, v8, v9) => ⟨37, 0, [(3, (.c (.ptr 64000000 0))), (4, (.c (.ptr 64000001 0))), (5, (.c (.ptr 64000002 0))), (6, (.c (.ptr 64000003 0)))], [], [(256000000, .gone), (64000000, (.box [(.int .i64 v0), (.int .i64 v1), (.bool v2)])), (64000001, (.box [(.int .i64 v3), (.int .i64 v4), (.bool v5)])), (64000002, (.box [(.int .i64 v6)])), (64000003, (.box [(.int .i64 v7), (.int .i64 v8), (.bool v9)]))]⟩
noncomputable def l0 ( k : Nat) (v : T0) : Option R := held (run (cs k) (loopN cs k) c1000005 (J1000005 k) (s0 v))
noncomputable def D0 (v : T0) : Option R := lim fun L => l0 (L 0) v
theorem D0_cn (v : T0) : Cn late (D0 v) fun L => l0 (L 0) v := of_lim
def d0 (bound_corners_Fix_1_k : bound_corners_Fix_1.A → Option bound_corners_Fix_1.R) : T0 → Option R := fun (v0, v1, v2, v3, v4, v5, v6, v7, v8, v9) =>
bnd (bound_corners_Fix_1_k (v0, v1, v2, v3, v4, v5, v6)) fun r => some (r.fst, r.snd.fst, r.snd.snd.fst)
theorem d0_cn {ι : Type} {E : Fil ι} {bound_corners_Fix_1_k : bound_corners_Fix_1.A → Option bound_corners_Fix_1.R} {bound_corners_Fix_1_k' : ι → bound_corners_Fix_1.A → Option bound_corners_Fix_1.R} (hbound_corners_Fix_1_k : ∀ v, Cn E (bound_corners_Fix_1_k v) fun i => bound_corners_Fix_1_k' i v) : ∀ v : T0, Cn E (d0 bound_corners_Fix_1_k v) fun i => d0 (bound_corners_Fix_1_k' i) v := fun (v0, v1, v2, v3, v4, v5, v6, v7, v8, v9) => (.bnd (hbound_corners_Fix_1_k _) fun _ => .some)
theorem l0_b ( k : Nat) : ∀ v : T0, run (cs k) (loopN cs k) c1000005 (J1000005 k) (s0 v) = d0 (bound_corners_Fix_1.f k) v := fun (v0, v1, v2, v3, v4, v5, v6, v7, v8, v9) => by kernel_rfl
theorem D0_of (v : T0) {r : R} (h : d0 bound_corners_Fix_1.F v = some r) : D0 v = some r :=
  join_of (l := fun L => l0 (L 0) v) (d := fun L => d0 (bound_corners_Fix_1.f (L 0)) v) (fun L => (held_eq _).trans (l0_b (L 0) v)) (d0_cn (bound_corners_Fix_1.F_cn 0) v) h
noncomputable def f (k : Nat) : A → Option R := fun (v0, v1, v2, v3, v4, v5, v6) => held (runFn cs k Tryz.f44 [(.agg [(.int .i64 v0), (.int .i64 v1), (.bool v2)]), (.agg [(.int .i64 v3), (.int .i64 v4), (.bool v5)]), (.c (.int .i64 v6))] [] dec)
noncomputable def F (v : A) : Option R := lim fun L => f (L 0) v
theorem F_cn (x : Nat) (v : A) : Cn late (F v) fun L => f (L x) v := of_lim.re [x]
def d (bound_vague_Fix_k : bound_vague_Fix.A → Option bound_vague_Fix.R) (bound_None_Fix_k : bound_None_Fix.A → Option bound_None_Fix.R) (bound_Neg_Fix_k : bound_Neg_Fix.A → Option bound_Neg_Fix.R) (L0k : T0 → Option R) : A → Option R := fun (v0, v1, v2, v3, v4, v5, v6) =>
bnd (bound_vague_Fix_k (v0, v1, v2, v3, v4, v5)) fun r =>
  br (r || decide (v6 < 1) || decide (v3 ≤ 0) && decide (0 ≤ v4)) (bnd (bound_None_Fix_k ()) fun r => some (r.fst, r.snd.fst, r.snd.snd))
    (br (decide (v4 < 0)) (bnd (bound_Neg_Fix_k (v0, v1, v2)) fun r => bnd (bound_Neg_Fix_k (v3, v4, v5)) fun r_1 => L0k (r.fst, r.snd.fst, r.snd.snd, r_1.fst, r_1.snd.fst, r_1.snd.snd, v6, 0, 0, false))
      (L0k (v0, v1, v2, v3, v4, v5, v6, 0, 0, false)))
theorem d_cn {ι : Type} {E : Fil ι} {bound_vague_Fix_k : bound_vague_Fix.A → Option bound_vague_Fix.R} {bound_vague_Fix_k' : ι → bound_vague_Fix.A → Option bound_vague_Fix.R} (hbound_vague_Fix_k : ∀ v, Cn E (bound_vague_Fix_k v) fun i => bound_vague_Fix_k' i v) {bound_None_Fix_k : bound_None_Fix.A → Option bound_None_Fix.R} {bound_None_Fix_k' : ι → bound_None_Fix.A → Option bound_None_Fix.R} (hbound_None_Fix_k : ∀ v, Cn E (bound_None_Fix_k v) fun i => bound_None_Fix_k' i v) {bound_Neg_Fix_k : bound_Neg_Fix.A → Option bound_Neg_Fix.R} {bound_Neg_Fix_k' : ι → bound_Neg_Fix.A → Option bound_Neg_Fix.R} (hbound_Neg_Fix_k : ∀ v, Cn E (bound_Neg_Fix_k v) fun i => bound_Neg_Fix_k' i v) {L0k : T0 → Option R} {L0k' : ι → T0 → Option R} (hL0k : ∀ v, Cn E (L0k v) fun i => L0k' i v) : ∀ v : A, Cn E (d bound_vague_Fix_k bound_None_Fix_k bound_Neg_Fix_k L0k v) fun i => d (bound_vague_Fix_k' i) (bound_None_Fix_k' i) (bound_Neg_Fix_k' i) (L0k' i) v := fun (v0, v1, v2, v3, v4, v5, v6) => (.bnd (hbound_vague_Fix_k _) fun _ => (.br (.bnd (hbound_None_Fix_k _) fun _ => .some) (.br (.bnd (hbound_Neg_Fix_k _) fun _ => (.bnd (hbound_Neg_Fix_k _) fun _ => (hL0k _))) (hL0k _))))
theorem f_b (k : Nat) : ∀ v : A, f k v = d (bound_vague_Fix.f k) (bound_None_Fix.f k) (bound_Neg_Fix.f k) (l0 k) v := fun (v0, v1, v2, v3, v4, v5, v6) => (held_eq _).trans (by kernel_rfl)
theorem F_of (v : A) {r : R} (h : d bound_vague_Fix.F bound_None_Fix.F bound_Neg_Fix.F D0 v = some r) : F v = some r :=
  join_of (l := fun L => f (L 0) v) (d := fun L => d (bound_vague_Fix.f (L 0)) (bound_None_Fix.f (L 0)) (bound_Neg_Fix.f (L 0)) (l0 (L 0)) v) (fun L => f_b (L 0) v) (d_cn (bound_vague_Fix.F_cn 0) (bound_None_Fix.F_cn 0) (bound_Neg_Fix.F_cn 0) (fun v => (D0_cn v).re [0]) v) h
noncomputable def spec (k : Nat) (args : List AV) (ss : List Slot) : Option Ans :=
  match args, ss with
  | [(.agg [(.int .i64 v0), (.int .i64 v1), (.bool v2)]), (.agg [(.int .i64 v3), (.int .i64 v4), (.bool v5)]), (.c (.int .i64 v6))], [] => some ⟨R, f k (v0, v1, v2, v3, v4, v5, v6), enc⟩
  | _, _ => none
theorem spec_ok (k : Nat) : SpecOk Tryz.prog 44 (spec k) := by
  intro args ss ans x h hx X σ w vals hp
  unfold spec at h
  split at h
  · cases h
    exact spec_of cs_ok Tryz.func44 rfl rfl dec_ok (held_eq _).symm hx hp
  · cases h
end bound_Div_Fix
noncomputable def t_bound_Div_Fix (k : Nat) := tcons 44 (bound_Div_Fix.spec k) (t_bound_corners_Fix_1 k)
theorem t_bound_Div_Fix_ok (n g : Nat) : SpecOk Tryz.prog g (t_bound_Div_Fix n g) := tcons_ok (bound_Div_Fix.spec_ok n) (fun g => t_bound_corners_Fix_1_ok n g) g
namespace bound_Meet_Fix
abbrev R : Type := Int × Int × Bool × Bool
abbrev A : Type := Int × Int × Bool × Int × Int × Bool
def lv : List (Nat × List Nat) := [(2000000, [4, 5])]
noncomputable def cs : Nat → Ctx := ctxOf tis modes t_bound_Div_Fix lv
theorem cs_ok (n : Nat) : CtxOk Tryz.prog (cs n) := ctxOf_ok rfl tis_ok t_bound_Div_Fix_ok n
def enc (r : R) : Out := ((.tup [(.agg [(.int .i64 r.1), (.int .i64 r.2.1), (.bool r.2.2.1)]), (.c (.bool r.2.2.2))]), [])
def dec : Out → Option R
  | ((.tup [(.agg [(.int .i64 v0), (.int .i64 v1), (.bool v2)]), (.c (.bool v3))]), []) => some (v0, v1, v2, v3)
  | _ => none
theorem dec_ok : ∀ u y, dec u = some y → u = enc y := by
  intro u y h
  unfold dec at h
  split at h
  · cases h; rfl
  · cases h
noncomputable def b0 : Code := subF [] Tryz.f45
noncomputable def K0 (k : Nat) : Kt R := kTop (cs k) Tryz.f45 dec
noncomputable def f (k : Nat) : A → Option R := fun (v0, v1, v2, v3, v4, v5) => held (runFn cs k Tryz.f45 [(.agg [(.int .i64 v0), (.int .i64 v1), (.bool v2)]), (.agg [(.int .i64 v3), (.int .i64 v4), (.bool v5)])] [] dec)
noncomputable def F (v : A) : Option R := lim fun L => f (L 0) v
theorem F_cn (x : Nat) (v : A) : Cn late (F v) fun L => f (L x) v := of_lim.re [x]
def d (bound_Norm_Fix_k : bound_Norm_Fix.A → Option bound_Norm_Fix.R) (bound_Of_Fix_k : bound_Of_Fix.A → Option bound_Of_Fix.R) : A → Option R := fun (v0, v1, v2, v3, v4, v5) =>
bnd (bound_Norm_Fix_k (v0, v1, v2)) fun r =>
  bnd (bound_Norm_Fix_k (v3, v4, v5)) fun r_1 =>
    br r.snd.snd (some (r_1.fst, r_1.snd.fst, r_1.snd.snd, true))
      (br r_1.snd.snd (some (r.fst, r.snd.fst, r.snd.snd, true))
        (br (decide (min r.snd.fst r_1.snd.fst < max r.fst r_1.fst)) (some (0, 0, false, false)) (bnd (bound_Of_Fix_k (max r.fst r_1.fst, min r.snd.fst r_1.snd.fst)) fun r => some (r.fst, r.snd.fst, r.snd.snd, true))))
theorem d_cn {ι : Type} {E : Fil ι} {bound_Norm_Fix_k : bound_Norm_Fix.A → Option bound_Norm_Fix.R} {bound_Norm_Fix_k' : ι → bound_Norm_Fix.A → Option bound_Norm_Fix.R} (hbound_Norm_Fix_k : ∀ v, Cn E (bound_Norm_Fix_k v) fun i => bound_Norm_Fix_k' i v) {bound_Of_Fix_k : bound_Of_Fix.A → Option bound_Of_Fix.R} {bound_Of_Fix_k' : ι → bound_Of_Fix.A → Option bound_Of_Fix.R} (hbound_Of_Fix_k : ∀ v, Cn E (bound_Of_Fix_k v) fun i => bound_Of_Fix_k' i v) : ∀ v : A, Cn E (d bound_Norm_Fix_k bound_Of_Fix_k v) fun i => d (bound_Norm_Fix_k' i) (bound_Of_Fix_k' i) v := fun (v0, v1, v2, v3, v4, v5) => (.bnd (hbound_Norm_Fix_k _) fun _ => (.bnd (hbound_Norm_Fix_k _) fun _ => (.br .some (.br .some (.br .some (.bnd (hbound_Of_Fix_k _) fun _ => .some))))))
theorem f_b (k : Nat) : ∀ v : A, f k v = d (bound_Norm_Fix.f k) (bound_Of_Fix.f k) v := fun (v0, v1, v2, v3, v4, v5) => (held_eq _).trans (by kernel_rfl)
theorem F_of (v : A) {r : R} (h : d bound_Norm_Fix.F bound_Of_Fix.F v = some r) : F v = some r :=
  join_of (l := fun L => f (L 0) v) (d := fun L => d (bound_Norm_Fix.f (L 0)) (bound_Of_Fix.f (L 0)) v) (fun L => f_b (L 0) v) (d_cn (bound_Norm_Fix.F_cn 0) (bound_Of_Fix.F_cn 0) v) h
noncomputable def spec (k : Nat) (args : List AV) (ss : List Slot) : Option Ans :=
  match args, ss with
  | [(.agg [(.int .i64 v0), (.int .i64 v1), (.bool v2)]), (.agg [(.int .i64 v3), (.int .i64 v4), (.bool v5)])], [] => some ⟨R, f k (v0, v1, v2, v3, v4, v5), enc⟩
  | _, _ => none
theorem spec_ok (k : Nat) : SpecOk Tryz.prog 45 (spec k) := by
  intro args ss ans x h hx X σ w vals hp
  unfold spec at h
  split at h
  · cases h
    exact spec_of cs_ok Tryz.func45 rfl rfl dec_ok (held_eq _).symm hx hp
  · cases h
end bound_Meet_Fix
noncomputable def t_bound_Meet_Fix (k : Nat) := tcons 45 (bound_Meet_Fix.spec k) (t_bound_Div_Fix k)
theorem t_bound_Meet_Fix_ok (n g : Nat) : SpecOk Tryz.prog g (t_bound_Meet_Fix n g) := tcons_ok (bound_Meet_Fix.spec_ok n) (fun g => t_bound_Div_Fix_ok n g) g
namespace horizon_Height
abbrev R : Type := Int × Int × Bool
abbrev A : Type := Int × Int × Int × Int × Bool × Int × Int × Int
def lv : List (Nat × List Nat) := [(2000000, [6])]
noncomputable def cs : Nat → Ctx := ctxOf tis modes t_bound_Meet_Fix lv
theorem cs_ok (n : Nat) : CtxOk Tryz.prog (cs n) := ctxOf_ok rfl tis_ok t_bound_Meet_Fix_ok n
def enc (r : R) : Out := ((.agg [(.int .i64 r.1), (.int .i64 r.2.1), (.bool r.2.2)]), [])
def dec : Out → Option R
  | ((.agg [(.int .i64 v0), (.int .i64 v1), (.bool v2)]), []) => some (v0, v1, v2)
  | _ => none
theorem dec_ok : ∀ u y, dec u = some y → u = enc y := by
  intro u y h
  unfold dec at h
  split at h
  · cases h; rfl
  · cases h
noncomputable def b0 : Code := subF [] Tryz.f16
noncomputable def K0 (k : Nat) : Kt R := kTop (cs k) Tryz.f16 dec
noncomputable def f (k : Nat) : A → Option R := fun (v0, v1, v2, v3, v4, v5, v6, v7) => held (runFn cs k Tryz.f16 [(.agg [(.int .i64 v0), (.int .i64 v1)]), (.agg [(.int .i64 v2), (.int .i64 v3), (.bool v4)]), (.agg [(.int .i64 v5), (.int .i64 v6), (.int .i64 v7)])] [] dec)
noncomputable def F (v : A) : Option R := lim fun L => f (L 0) v
theorem F_cn (x : Nat) (v : A) : Cn late (F v) fun L => f (L x) v := of_lim.re [x]
def d (horizon_CheckSite_k : horizon_CheckSite.A → Option horizon_CheckSite.R) (sphere_Check_k : sphere_Check.A → Option sphere_Check.R) (cmp_Or_Errno_k : cmp_Or_Errno.A → Option cmp_Or_Errno.R) (bound_None_Fix_k : bound_None_Fix.A → Option bound_None_Fix.R) (sphere_Grow_k : sphere_Grow.A → Option sphere_Grow.R) (bound_Exact_Arc_k : bound_Exact_Arc.A → Option bound_Exact_Arc.R) (bound_Add_Arc_k : bound_Add_Arc.A → Option bound_Add_Arc.R) (trig_CosBound_k : trig_CosBound.A → Option trig_CosBound.R) (bound_Scale_Fix_k : bound_Scale_Fix.A → Option bound_Scale_Fix.R) (trig_SinBound_k : trig_SinBound.A → Option trig_SinBound.R) (bound_Add_Fix_k : bound_Add_Fix.A → Option bound_Add_Fix.R) (bound_Mul_Fix_k : bound_Mul_Fix.A → Option bound_Mul_Fix.R) (bound_Exact_Fix_k : bound_Exact_Fix.A → Option bound_Exact_Fix.R) (bound_Root_Fix_k : bound_Root_Fix.A → Option bound_Root_Fix.R) (bound_Div_Fix_k : bound_Div_Fix.A → Option bound_Div_Fix.R) (bound_Of_Fix_k : bound_Of_Fix.A → Option bound_Of_Fix.R) (bound_Meet_Fix_k : bound_Meet_Fix.A → Option bound_Meet_Fix.R) : A → Option R := fun (v0, v1, v2, v3, v4, v5, v6, v7) =>
bnd (horizon_CheckSite_k (v0, v1)) fun r =>
  bnd (sphere_Check_k (v5, v6, v7)) fun r_1 =>
    bnd (cmp_Or_Errno_k [r, r_1]) fun r =>
      br (!decide (r = 0)) (bnd (bound_None_Fix_k ()) fun r => some (r.fst, r.snd.fst, r.snd.snd))
        (bnd (sphere_Grow_k (v5, v6, v7)) fun r =>
          bnd (bound_Exact_Arc_k v1) fun r_2 =>
            bnd (bound_Add_Arc_k (v2, v3, v4, r_2.fst, r_2.snd.fst, r_2.snd.snd)) fun r_3 =>
              bnd (bound_Exact_Arc_k v0) fun r_4 =>
                bnd (trig_CosBound_k (r_3.fst, r_3.snd.fst, r_3.snd.snd)) fun r_5 =>
                  bnd (bound_Scale_Fix_k (r_5.fst, r_5.snd.fst, r_5.snd.snd, r.fst, 1)) fun r_6 =>
                    bnd (trig_SinBound_k (r_3.fst, r_3.snd.fst, r_3.snd.snd)) fun r_7 =>
                      bnd (bound_Scale_Fix_k (r_7.fst, r_7.snd.fst, r_7.snd.snd, r.snd.fst, 1)) fun r_8 =>
                        bnd (bound_Add_Fix_k (r_6.fst, r_6.snd.fst, r_6.snd.snd, r_8.fst, r_8.snd.fst, r_8.snd.snd)) fun r_9 =>
                          bnd (trig_SinBound_k (r_4.fst, r_4.snd.fst, r_4.snd.snd)) fun r_10 =>
                            bnd (bound_Scale_Fix_k (r_10.fst, r_10.snd.fst, r_10.snd.snd, r.snd.snd, 1)) fun r_11 =>
                              bnd (trig_CosBound_k (r_4.fst, r_4.snd.fst, r_4.snd.snd)) fun r_12 =>
                                bnd (bound_Mul_Fix_k (r_12.fst, r_12.snd.fst, r_12.snd.snd, r_9.fst, r_9.snd.fst, r_9.snd.snd, 1073741824)) fun r_13 =>
                                  bnd (bound_Add_Fix_k (r_11.fst, r_11.snd.fst, r_11.snd.snd, r_13.fst, r_13.snd.fst, r_13.snd.snd)) fun r_14 =>
                                    bnd (bound_Exact_Fix_k (wrap IntKind.i64 (wrap IntKind.i64 (wrap IntKind.i64 (r.fst * r.fst) + wrap IntKind.i64 (r.snd.fst * r.snd.fst)) + wrap IntKind.i64 (r.snd.snd * r.snd.snd))))
                                      fun r =>
                                      bnd (bound_Root_Fix_k (r.fst, r.snd.fst, r.snd.snd, 1099511627776)) fun r =>
                                        bnd (bound_Div_Fix_k (r_14.fst, r_14.snd.fst, r_14.snd.snd, r.fst, r.snd.fst, r.snd.snd, 1048576)) fun r =>
                                          br r.snd.snd (some (r.fst, r.snd.fst, r.snd.snd))
                                            (bnd (bound_Of_Fix_k (-1073741824, 1073741824)) fun r_15 =>
                                              bnd (bound_Meet_Fix_k (r.fst, r.snd.fst, r.snd.snd, r_15.fst, r_15.snd.fst, r_15.snd.snd)) fun r => some (r.fst, r.snd.fst, r.snd.snd.fst)))
theorem d_cn {ι : Type} {E : Fil ι} {horizon_CheckSite_k : horizon_CheckSite.A → Option horizon_CheckSite.R} {horizon_CheckSite_k' : ι → horizon_CheckSite.A → Option horizon_CheckSite.R} (hhorizon_CheckSite_k : ∀ v, Cn E (horizon_CheckSite_k v) fun i => horizon_CheckSite_k' i v) {sphere_Check_k : sphere_Check.A → Option sphere_Check.R} {sphere_Check_k' : ι → sphere_Check.A → Option sphere_Check.R} (hsphere_Check_k : ∀ v, Cn E (sphere_Check_k v) fun i => sphere_Check_k' i v) {cmp_Or_Errno_k : cmp_Or_Errno.A → Option cmp_Or_Errno.R} {cmp_Or_Errno_k' : ι → cmp_Or_Errno.A → Option cmp_Or_Errno.R} (hcmp_Or_Errno_k : ∀ v, Cn E (cmp_Or_Errno_k v) fun i => cmp_Or_Errno_k' i v) {bound_None_Fix_k : bound_None_Fix.A → Option bound_None_Fix.R} {bound_None_Fix_k' : ι → bound_None_Fix.A → Option bound_None_Fix.R} (hbound_None_Fix_k : ∀ v, Cn E (bound_None_Fix_k v) fun i => bound_None_Fix_k' i v) {sphere_Grow_k : sphere_Grow.A → Option sphere_Grow.R} {sphere_Grow_k' : ι → sphere_Grow.A → Option sphere_Grow.R} (hsphere_Grow_k : ∀ v, Cn E (sphere_Grow_k v) fun i => sphere_Grow_k' i v) {bound_Exact_Arc_k : bound_Exact_Arc.A → Option bound_Exact_Arc.R} {bound_Exact_Arc_k' : ι → bound_Exact_Arc.A → Option bound_Exact_Arc.R} (hbound_Exact_Arc_k : ∀ v, Cn E (bound_Exact_Arc_k v) fun i => bound_Exact_Arc_k' i v) {bound_Add_Arc_k : bound_Add_Arc.A → Option bound_Add_Arc.R} {bound_Add_Arc_k' : ι → bound_Add_Arc.A → Option bound_Add_Arc.R} (hbound_Add_Arc_k : ∀ v, Cn E (bound_Add_Arc_k v) fun i => bound_Add_Arc_k' i v) {trig_CosBound_k : trig_CosBound.A → Option trig_CosBound.R} {trig_CosBound_k' : ι → trig_CosBound.A → Option trig_CosBound.R} (htrig_CosBound_k : ∀ v, Cn E (trig_CosBound_k v) fun i => trig_CosBound_k' i v) {bound_Scale_Fix_k : bound_Scale_Fix.A → Option bound_Scale_Fix.R} {bound_Scale_Fix_k' : ι → bound_Scale_Fix.A → Option bound_Scale_Fix.R} (hbound_Scale_Fix_k : ∀ v, Cn E (bound_Scale_Fix_k v) fun i => bound_Scale_Fix_k' i v) {trig_SinBound_k : trig_SinBound.A → Option trig_SinBound.R} {trig_SinBound_k' : ι → trig_SinBound.A → Option trig_SinBound.R} (htrig_SinBound_k : ∀ v, Cn E (trig_SinBound_k v) fun i => trig_SinBound_k' i v) {bound_Add_Fix_k : bound_Add_Fix.A → Option bound_Add_Fix.R} {bound_Add_Fix_k' : ι → bound_Add_Fix.A → Option bound_Add_Fix.R} (hbound_Add_Fix_k : ∀ v, Cn E (bound_Add_Fix_k v) fun i => bound_Add_Fix_k' i v) {bound_Mul_Fix_k : bound_Mul_Fix.A → Option bound_Mul_Fix.R} {bound_Mul_Fix_k' : ι → bound_Mul_Fix.A → Option bound_Mul_Fix.R} (hbound_Mul_Fix_k : ∀ v, Cn E (bound_Mul_Fix_k v) fun i => bound_Mul_Fix_k' i v) {bound_Exact_Fix_k : bound_Exact_Fix.A → Option bound_Exact_Fix.R} {bound_Exact_Fix_k' : ι → bound_Exact_Fix.A → Option bound_Exact_Fix.R} (hbound_Exact_Fix_k : ∀ v, Cn E (bound_Exact_Fix_k v) fun i => bound_Exact_Fix_k' i v) {bound_Root_Fix_k : bound_Root_Fix.A → Option bound_Root_Fix.R} {bound_Root_Fix_k' : ι → bound_Root_Fix.A → Option bound_Root_Fix.R} (hbound_Root_Fix_k : ∀ v, Cn E (bound_Root_Fix_k v) fun i => bound_Root_Fix_k' i v) {bound_Div_Fix_k : bound_Div_Fix.A → Option bound_Div_Fix.R} {bound_Div_Fix_k' : ι → bound_Div_Fix.A → Option bound_Div_Fix.R} (hbound_Div_Fix_k : ∀ v, Cn E (bound_Div_Fix_k v) fun i => bound_Div_Fix_k' i v) {bound_Of_Fix_k : bound_Of_Fix.A → Option bound_Of_Fix.R} {bound_Of_Fix_k' : ι → bound_Of_Fix.A → Option bound_Of_Fix.R} (hbound_Of_Fix_k : ∀ v, Cn E (bound_Of_Fix_k v) fun i => bound_Of_Fix_k' i v) {bound_Meet_Fix_k : bound_Meet_Fix.A → Option bound_Meet_Fix.R} {bound_Meet_Fix_k' : ι → bound_Meet_Fix.A → Option bound_Meet_Fix.R} (hbound_Meet_Fix_k : ∀ v, Cn E (bound_Meet_Fix_k v) fun i => bound_Meet_Fix_k' i v) : ∀ v : A, Cn E (d horizon_CheckSite_k sphere_Check_k cmp_Or_Errno_k bound_None_Fix_k sphere_Grow_k bound_Exact_Arc_k bound_Add_Arc_k trig_CosBound_k bound_Scale_Fix_k trig_SinBound_k bound_Add_Fix_k bound_Mul_Fix_k bound_Exact_Fix_k bound_Root_Fix_k bound_Div_Fix_k bound_Of_Fix_k bound_Meet_Fix_k v) fun i => d (horizon_CheckSite_k' i) (sphere_Check_k' i) (cmp_Or_Errno_k' i) (bound_None_Fix_k' i) (sphere_Grow_k' i) (bound_Exact_Arc_k' i) (bound_Add_Arc_k' i) (trig_CosBound_k' i) (bound_Scale_Fix_k' i) (trig_SinBound_k' i) (bound_Add_Fix_k' i) (bound_Mul_Fix_k' i) (bound_Exact_Fix_k' i) (bound_Root_Fix_k' i) (bound_Div_Fix_k' i) (bound_Of_Fix_k' i) (bound_Meet_Fix_k' i) v := fun (v0, v1, v2, v3, v4, v5, v6, v7) => (.bnd (hhorizon_CheckSite_k _) fun _ => (.bnd (hsphere_Check_k _) fun _ => (.bnd (hcmp_Or_Errno_k _) fun _ => (.br (.bnd (hbound_None_Fix_k _) fun _ => .some) (.bnd (hsphere_Grow_k _) fun _ => (.bnd (hbound_Exact_Arc_k _) fun _ => (.bnd (hbound_Add_Arc_k _) fun _ => (.bnd (hbound_Exact_Arc_k _) fun _ => (.bnd (htrig_CosBound_k _) fun _ => (.bnd (hbound_Scale_Fix_k _) fun _ => (.bnd (htrig_SinBound_k _) fun _ => (.bnd (hbound_Scale_Fix_k _) fun _ => (.bnd (hbound_Add_Fix_k _) fun _ => (.bnd (htrig_SinBound_k _) fun _ => (.bnd (hbound_Scale_Fix_k _) fun _ => (.bnd (htrig_CosBound_k _) fun _ => (.bnd (hbound_Mul_Fix_k _) fun _ => (.bnd (hbound_Add_Fix_k _) fun _ => (.bnd (hbound_Exact_Fix_k _) fun _ => (.bnd (hbound_Root_Fix_k _) fun _ => (.bnd (hbound_Div_Fix_k _) fun _ => (.br .some (.bnd (hbound_Of_Fix_k _) fun _ => (.bnd (hbound_Meet_Fix_k _) fun _ => .some))))))))))))))))))))))))
theorem f_b (k : Nat) : ∀ v : A, f k v = d (horizon_CheckSite.f k) (sphere_Check.f k) (cmp_Or_Errno.f k) (bound_None_Fix.f k) (sphere_Grow.f k) (bound_Exact_Arc.f k) (bound_Add_Arc.f k) (trig_CosBound.f k) (bound_Scale_Fix.f k) (trig_SinBound.f k) (bound_Add_Fix.f k) (bound_Mul_Fix.f k) (bound_Exact_Fix.f k) (bound_Root_Fix.f k) (bound_Div_Fix.f k) (bound_Of_Fix.f k) (bound_Meet_Fix.f k) v := fun (v0, v1, v2, v3, v4, v5, v6, v7) => (held_eq _).trans (by kernel_rfl)
theorem F_of (v : A) {r : R} (h : d horizon_CheckSite.F sphere_Check.F cmp_Or_Errno.F bound_None_Fix.F sphere_Grow.F bound_Exact_Arc.F bound_Add_Arc.F trig_CosBound.F bound_Scale_Fix.F trig_SinBound.F bound_Add_Fix.F bound_Mul_Fix.F bound_Exact_Fix.F bound_Root_Fix.F bound_Div_Fix.F bound_Of_Fix.F bound_Meet_Fix.F v = some r) : F v = some r :=
  join_of (l := fun L => f (L 0) v) (d := fun L => d (horizon_CheckSite.f (L 0)) (sphere_Check.f (L 0)) (cmp_Or_Errno.f (L 0)) (bound_None_Fix.f (L 0)) (sphere_Grow.f (L 0)) (bound_Exact_Arc.f (L 0)) (bound_Add_Arc.f (L 0)) (trig_CosBound.f (L 0)) (bound_Scale_Fix.f (L 0)) (trig_SinBound.f (L 0)) (bound_Add_Fix.f (L 0)) (bound_Mul_Fix.f (L 0)) (bound_Exact_Fix.f (L 0)) (bound_Root_Fix.f (L 0)) (bound_Div_Fix.f (L 0)) (bound_Of_Fix.f (L 0)) (bound_Meet_Fix.f (L 0)) v) (fun L => f_b (L 0) v) (d_cn (horizon_CheckSite.F_cn 0) (sphere_Check.F_cn 0) (cmp_Or_Errno.F_cn 0) (bound_None_Fix.F_cn 0) (sphere_Grow.F_cn 0) (bound_Exact_Arc.F_cn 0) (bound_Add_Arc.F_cn 0) (trig_CosBound.F_cn 0) (bound_Scale_Fix.F_cn 0) (trig_SinBound.F_cn 0) (bound_Add_Fix.F_cn 0) (bound_Mul_Fix.F_cn 0) (bound_Exact_Fix.F_cn 0) (bound_Root_Fix.F_cn 0) (bound_Div_Fix.F_cn 0) (bound_Of_Fix.F_cn 0) (bound_Meet_Fix.F_cn 0) v) h
noncomputable def spec (k : Nat) (args : List AV) (ss : List Slot) : Option Ans :=
  match args, ss with
  | [(.agg [(.int .i64 v0), (.int .i64 v1)]), (.agg [(.int .i64 v2), (.int .i64 v3), (.bool v4)]), (.agg [(.int .i64 v5), (.int .i64 v6), (.int .i64 v7)])], [] => some ⟨R, f k (v0, v1, v2, v3, v4, v5, v6, v7), enc⟩
  | _, _ => none
theorem spec_ok (k : Nat) : SpecOk Tryz.prog 16 (spec k) := by
  intro args ss ans x h hx X σ w vals hp
  unfold spec at h
  split at h
  · cases h
    exact spec_of cs_ok Tryz.func16 rfl rfl dec_ok (held_eq _).symm hx hp
  · cases h
end horizon_Height
noncomputable def t_horizon_Height (k : Nat) := tcons 16 (horizon_Height.spec k) (t_bound_Meet_Fix k)
theorem t_horizon_Height_ok (n g : Nat) : SpecOk Tryz.prog g (t_horizon_Height n g) := tcons_ok (horizon_Height.spec_ok n) (fun g => t_bound_Meet_Fix_ok n g) g
namespace window_height
abbrev R : Type := Int × Int × Bool
abbrev A : Type := Int × Int × Int × Int × Int × Int × Int × Int × Int × Int × Int × Int × Int × Int × Int × Int × List Int × Int × Int × Int × Int
def lv : List (Nat × List Nat) := [(2000000, [6])]
noncomputable def cs : Nat → Ctx := ctxOf tis modes t_horizon_Height lv
theorem cs_ok (n : Nat) : CtxOk Tryz.prog (cs n) := ctxOf_ok rfl tis_ok t_horizon_Height_ok n
def enc (r : R) : Out := ((.agg [(.int .i64 r.1), (.int .i64 r.2.1), (.bool r.2.2)]), [])
def dec : Out → Option R
  | ((.agg [(.int .i64 v0), (.int .i64 v1), (.bool v2)]), []) => some (v0, v1, v2)
  | _ => none
theorem dec_ok : ∀ u y, dec u = some y → u = enc y := by
  intro u y h
  unfold dec at h
  split at h
  · cases h; rfl
  · cases h
noncomputable def b0 : Code := subF [] Tryz.f51
noncomputable def K0 (k : Nat) : Kt R := kTop (cs k) Tryz.f51 dec
noncomputable def f (k : Nat) : A → Option R := fun (v0, v1, v2, v3, v4, v5, v6, v7, v8, v9, v10, v11, v12, v13, v14, v15, v16, v17, v18, v19, v20) => held (runFn cs k Tryz.f51 [(.agg [(.int .i64 v0), (.int .i64 v1), (.int .i64 v2), (.int .i64 v3), (.int .i64 v4), (.int .i64 v5), (.int .i64 v6), (.int .i64 v7), (.int .i64 v8), (.int .i64 v9), (.int .i64 v10), (.int .i64 v11), (.int .i64 v12), (.int .i64 v13), (.int .i64 v14), (.int .i64 v15), (.frz (.int .i64) v16)]), (.agg [(.int .i64 v17), (.int .i64 v18), (.int .i64 v19)]), (.c (.int .i64 v20))] [] dec)
noncomputable def F (v : A) : Option R := lim fun L => f (L 0) v
theorem F_cn (x : Nat) (v : A) : Cn late (F v) fun L => f (L x) v := of_lim.re [x]
def d (window_when_k : window_when.A → Option window_when.R) (scale_Sidereal_k : scale_Sidereal.A → Option scale_Sidereal.R) (horizon_Height_k : horizon_Height.A → Option horizon_Height.R) : A → Option R := fun (v0, v1, v2, v3, v4, v5, v6, v7, v8, v9, v10, v11, v12, v13, v14, v15, v16, v17, v18, v19, v20) =>
bnd (window_when_k (v0, v1, v2, v3, v4, v5, v6, v7, v8, v9, v10, v11, v12, v13, v14, v15, v16, v20, wrap IntKind.i64 (v20 + 1))) fun r =>
  bnd (scale_Sidereal_k (v2, v3, v4, v5, r.fst, r.snd.fst, r.snd.snd)) fun r => bnd (horizon_Height_k (v0, v1, r.fst, r.snd.fst, r.snd.snd, v17, v18, v19)) fun r => some (r.fst, r.snd.fst, r.snd.snd)
theorem d_cn {ι : Type} {E : Fil ι} {window_when_k : window_when.A → Option window_when.R} {window_when_k' : ι → window_when.A → Option window_when.R} (hwindow_when_k : ∀ v, Cn E (window_when_k v) fun i => window_when_k' i v) {scale_Sidereal_k : scale_Sidereal.A → Option scale_Sidereal.R} {scale_Sidereal_k' : ι → scale_Sidereal.A → Option scale_Sidereal.R} (hscale_Sidereal_k : ∀ v, Cn E (scale_Sidereal_k v) fun i => scale_Sidereal_k' i v) {horizon_Height_k : horizon_Height.A → Option horizon_Height.R} {horizon_Height_k' : ι → horizon_Height.A → Option horizon_Height.R} (hhorizon_Height_k : ∀ v, Cn E (horizon_Height_k v) fun i => horizon_Height_k' i v) : ∀ v : A, Cn E (d window_when_k scale_Sidereal_k horizon_Height_k v) fun i => d (window_when_k' i) (scale_Sidereal_k' i) (horizon_Height_k' i) v := fun (v0, v1, v2, v3, v4, v5, v6, v7, v8, v9, v10, v11, v12, v13, v14, v15, v16, v17, v18, v19, v20) => (.bnd (hwindow_when_k _) fun _ => (.bnd (hscale_Sidereal_k _) fun _ => (.bnd (hhorizon_Height_k _) fun _ => .some)))
theorem f_b (k : Nat) : ∀ v : A, f k v = d (window_when.f k) (scale_Sidereal.f k) (horizon_Height.f k) v := fun (v0, v1, v2, v3, v4, v5, v6, v7, v8, v9, v10, v11, v12, v13, v14, v15, v16, v17, v18, v19, v20) => (held_eq _).trans (by kernel_rfl)
theorem F_of (v : A) {r : R} (h : d window_when.F scale_Sidereal.F horizon_Height.F v = some r) : F v = some r :=
  join_of (l := fun L => f (L 0) v) (d := fun L => d (window_when.f (L 0)) (scale_Sidereal.f (L 0)) (horizon_Height.f (L 0)) v) (fun L => f_b (L 0) v) (d_cn (window_when.F_cn 0) (scale_Sidereal.F_cn 0) (horizon_Height.F_cn 0) v) h
noncomputable def spec (k : Nat) (args : List AV) (ss : List Slot) : Option Ans :=
  match args, ss with
  | [(.agg [(.int .i64 v0), (.int .i64 v1), (.int .i64 v2), (.int .i64 v3), (.int .i64 v4), (.int .i64 v5), (.int .i64 v6), (.int .i64 v7), (.int .i64 v8), (.int .i64 v9), (.int .i64 v10), (.int .i64 v11), (.int .i64 v12), (.int .i64 v13), (.int .i64 v14), (.int .i64 v15), (.frz (.int .i64) v16)]), (.agg [(.int .i64 v17), (.int .i64 v18), (.int .i64 v19)]), (.c (.int .i64 v20))], [] => some ⟨R, f k (v0, v1, v2, v3, v4, v5, v6, v7, v8, v9, v10, v11, v12, v13, v14, v15, v16, v17, v18, v19, v20), enc⟩
  | _, _ => none
theorem spec_ok (k : Nat) : SpecOk Tryz.prog 51 (spec k) := by
  intro args ss ans x h hx X σ w vals hp
  unfold spec at h
  split at h
  · cases h
    exact spec_of cs_ok Tryz.func51 rfl rfl dec_ok (held_eq _).symm hx hp
  · cases h
end window_height
noncomputable def t_window_height (k : Nat) := tcons 51 (window_height.spec k) (t_horizon_Height k)
theorem t_window_height_ok (n g : Nat) : SpecOk Tryz.prog g (t_window_height n g) := tcons_ok (window_height.spec_ok n) (fun g => t_horizon_Height_ok n g) g
namespace window_atMost
abbrev R : Type := Bool
abbrev A : Type := Int × Int × Bool × Int
def lv : List (Nat × List Nat) := [(2000000, [4])]
noncomputable def cs : Nat → Ctx := ctxOf tis modes t_window_height lv
theorem cs_ok (n : Nat) : CtxOk Tryz.prog (cs n) := ctxOf_ok rfl tis_ok t_window_height_ok n
def enc (r : R) : Out := ((.c (.bool r)), [])
def dec : Out → Option R
  | ((.c (.bool v0)), []) => some v0
  | _ => none
theorem dec_ok : ∀ u y, dec u = some y → u = enc y := by
  intro u y h
  unfold dec at h
  split at h
  · cases h; rfl
  · cases h
noncomputable def b0 : Code := subF [] Tryz.f52
noncomputable def K0 (k : Nat) : Kt R := kTop (cs k) Tryz.f52 dec
noncomputable def f (k : Nat) : A → Option R := fun (v0, v1, v2, v3) => held (runFn cs k Tryz.f52 [(.agg [(.int .i64 v0), (.int .i64 v1), (.bool v2)]), (.c (.int .i64 v3))] [] dec)
noncomputable def F (v : A) : Option R := lim fun L => f (L 0) v
theorem F_cn (x : Nat) (v : A) : Cn late (F v) fun L => f (L x) v := of_lim.re [x]
def d : A → Option R := fun (v0, v1, v2, v3) =>
some (!v2 && decide (v1 ≤ v3))
theorem d_cn {ι : Type} {E : Fil ι} : ∀ v : A, Cn E (d v) fun i => d v := fun (v0, v1, v2, v3) => .some
theorem f_b (k : Nat) : ∀ v : A, f k v = d v := fun (v0, v1, v2, v3) => (held_eq _).trans (by kernel_rfl)
theorem F_of (v : A) {r : R} (h : d v = some r) : F v = some r :=
  join_of (l := fun L => f (L 0) v) (d := fun L => d v) (fun L => f_b (L 0) v) (d_cn v) h
noncomputable def spec (k : Nat) (args : List AV) (ss : List Slot) : Option Ans :=
  match args, ss with
  | [(.agg [(.int .i64 v0), (.int .i64 v1), (.bool v2)]), (.c (.int .i64 v3))], [] => some ⟨R, f k (v0, v1, v2, v3), enc⟩
  | _, _ => none
theorem spec_ok (k : Nat) : SpecOk Tryz.prog 52 (spec k) := by
  intro args ss ans x h hx X σ w vals hp
  unfold spec at h
  split at h
  · cases h
    exact spec_of cs_ok Tryz.func52 rfl rfl dec_ok (held_eq _).symm hx hp
  · cases h
end window_atMost
noncomputable def t_window_atMost (k : Nat) := tcons 52 (window_atMost.spec k) (t_window_height k)
theorem t_window_atMost_ok (n g : Nat) : SpecOk Tryz.prog g (t_window_atMost n g) := tcons_ok (window_atMost.spec_ok n) (fun g => t_window_height_ok n g) g
namespace window_dark
abbrev R : Type := Bool
abbrev A : Type := Int × Int × Int × Int × Int × Int × Int × Int × Int × Int × Int × Int × Int × Int × Int × Int × List Int × Int
def lv : List (Nat × List Nat) := [(2000000, [4])]
noncomputable def cs : Nat → Ctx := ctxOf tis modes t_window_atMost lv
theorem cs_ok (n : Nat) : CtxOk Tryz.prog (cs n) := ctxOf_ok rfl tis_ok t_window_atMost_ok n
def enc (r : R) : Out := ((.c (.bool r)), [])
def dec : Out → Option R
  | ((.c (.bool v0)), []) => some v0
  | _ => none
theorem dec_ok : ∀ u y, dec u = some y → u = enc y := by
  intro u y h
  unfold dec at h
  split at h
  · cases h; rfl
  · cases h
noncomputable def b0 : Code := subF [] Tryz.f49
noncomputable def K0 (k : Nat) : Kt R := kTop (cs k) Tryz.f49 dec
noncomputable def f (k : Nat) : A → Option R := fun (v0, v1, v2, v3, v4, v5, v6, v7, v8, v9, v10, v11, v12, v13, v14, v15, v16, v17) => held (runFn cs k Tryz.f49 [(.agg [(.int .i64 v0), (.int .i64 v1), (.int .i64 v2), (.int .i64 v3), (.int .i64 v4), (.int .i64 v5), (.int .i64 v6), (.int .i64 v7), (.int .i64 v8), (.int .i64 v9), (.int .i64 v10), (.int .i64 v11), (.int .i64 v12), (.int .i64 v13), (.int .i64 v14), (.int .i64 v15), (.frz (.int .i64) v16)]), (.c (.int .i64 v17))] [] dec)
noncomputable def F (v : A) : Option R := lim fun L => f (L 0) v
theorem F_cn (x : Nat) (v : A) : Cn late (F v) fun L => f (L x) v := of_lim.re [x]
def d (window_height_k : window_height.A → Option window_height.R) (window_atMost_k : window_atMost.A → Option window_atMost.R) : A → Option R := fun (v0, v1, v2, v3, v4, v5, v6, v7, v8, v9, v10, v11, v12, v13, v14, v15, v16, v17) =>
bnd (window_height_k (v0, v1, v2, v3, v4, v5, v6, v7, v8, v9, v10, v11, v12, v13, v14, v15, v16, v9, v10, v11, v17)) fun r => bnd (window_atMost_k (r.fst, r.snd.fst, r.snd.snd, v15)) fun r => some r
theorem d_cn {ι : Type} {E : Fil ι} {window_height_k : window_height.A → Option window_height.R} {window_height_k' : ι → window_height.A → Option window_height.R} (hwindow_height_k : ∀ v, Cn E (window_height_k v) fun i => window_height_k' i v) {window_atMost_k : window_atMost.A → Option window_atMost.R} {window_atMost_k' : ι → window_atMost.A → Option window_atMost.R} (hwindow_atMost_k : ∀ v, Cn E (window_atMost_k v) fun i => window_atMost_k' i v) : ∀ v : A, Cn E (d window_height_k window_atMost_k v) fun i => d (window_height_k' i) (window_atMost_k' i) v := fun (v0, v1, v2, v3, v4, v5, v6, v7, v8, v9, v10, v11, v12, v13, v14, v15, v16, v17) => (.bnd (hwindow_height_k _) fun _ => (.bnd (hwindow_atMost_k _) fun _ => .some))
theorem f_b (k : Nat) : ∀ v : A, f k v = d (window_height.f k) (window_atMost.f k) v := fun (v0, v1, v2, v3, v4, v5, v6, v7, v8, v9, v10, v11, v12, v13, v14, v15, v16, v17) => (held_eq _).trans (by kernel_rfl)
theorem F_of (v : A) {r : R} (h : d window_height.F window_atMost.F v = some r) : F v = some r :=
  join_of (l := fun L => f (L 0) v) (d := fun L => d (window_height.f (L 0)) (window_atMost.f (L 0)) v) (fun L => f_b (L 0) v) (d_cn (window_height.F_cn 0) (window_atMost.F_cn 0) v) h
noncomputable def spec (k : Nat) (args : List AV) (ss : List Slot) : Option Ans :=
  match args, ss with
  | [(.agg [(.int .i64 v0), (.int .i64 v1), (.int .i64 v2), (.int .i64 v3), (.int .i64 v4), (.int .i64 v5), (.int .i64 v6), (.int .i64 v7), (.int .i64 v8), (.int .i64 v9), (.int .i64 v10), (.int .i64 v11), (.int .i64 v12), (.int .i64 v13), (.int .i64 v14), (.int .i64 v15), (.frz (.int .i64) v16)]), (.c (.int .i64 v17))], [] => some ⟨R, f k (v0, v1, v2, v3, v4, v5, v6, v7, v8, v9, v10, v11, v12, v13, v14, v15, v16, v17), enc⟩
  | _, _ => none
theorem spec_ok (k : Nat) : SpecOk Tryz.prog 49 (spec k) := by
  intro args ss ans x h hx X σ w vals hp
  unfold spec at h
  split at h
  · cases h
    exact spec_of cs_ok Tryz.func49 rfl rfl dec_ok (held_eq _).symm hx hp
  · cases h
end window_dark
noncomputable def t_window_dark (k : Nat) := tcons 49 (window_dark.spec k) (t_window_atMost k)
theorem t_window_dark_ok (n g : Nat) : SpecOk Tryz.prog g (t_window_dark n g) := tcons_ok (window_dark.spec_ok n) (fun g => t_window_atMost_ok n g) g
namespace window_atLeast
abbrev R : Type := Bool
abbrev A : Type := Int × Int × Bool × Int
def lv : List (Nat × List Nat) := [(2000000, [4])]
noncomputable def cs : Nat → Ctx := ctxOf tis modes t_window_dark lv
theorem cs_ok (n : Nat) : CtxOk Tryz.prog (cs n) := ctxOf_ok rfl tis_ok t_window_dark_ok n
def enc (r : R) : Out := ((.c (.bool r)), [])
def dec : Out → Option R
  | ((.c (.bool v0)), []) => some v0
  | _ => none
theorem dec_ok : ∀ u y, dec u = some y → u = enc y := by
  intro u y h
  unfold dec at h
  split at h
  · cases h; rfl
  · cases h
noncomputable def b0 : Code := subF [] Tryz.f50
noncomputable def K0 (k : Nat) : Kt R := kTop (cs k) Tryz.f50 dec
noncomputable def f (k : Nat) : A → Option R := fun (v0, v1, v2, v3) => held (runFn cs k Tryz.f50 [(.agg [(.int .i64 v0), (.int .i64 v1), (.bool v2)]), (.c (.int .i64 v3))] [] dec)
noncomputable def F (v : A) : Option R := lim fun L => f (L 0) v
theorem F_cn (x : Nat) (v : A) : Cn late (F v) fun L => f (L x) v := of_lim.re [x]
def d : A → Option R := fun (v0, v1, v2, v3) =>
some (!v2 && decide (v3 ≤ v0))
theorem d_cn {ι : Type} {E : Fil ι} : ∀ v : A, Cn E (d v) fun i => d v := fun (v0, v1, v2, v3) => .some
theorem f_b (k : Nat) : ∀ v : A, f k v = d v := fun (v0, v1, v2, v3) => (held_eq _).trans (by kernel_rfl)
theorem F_of (v : A) {r : R} (h : d v = some r) : F v = some r :=
  join_of (l := fun L => f (L 0) v) (d := fun L => d v) (fun L => f_b (L 0) v) (d_cn v) h
noncomputable def spec (k : Nat) (args : List AV) (ss : List Slot) : Option Ans :=
  match args, ss with
  | [(.agg [(.int .i64 v0), (.int .i64 v1), (.bool v2)]), (.c (.int .i64 v3))], [] => some ⟨R, f k (v0, v1, v2, v3), enc⟩
  | _, _ => none
theorem spec_ok (k : Nat) : SpecOk Tryz.prog 50 (spec k) := by
  intro args ss ans x h hx X σ w vals hp
  unfold spec at h
  split at h
  · cases h
    exact spec_of cs_ok Tryz.func50 rfl rfl dec_ok (held_eq _).symm hx hp
  · cases h
end window_atLeast
noncomputable def t_window_atLeast (k : Nat) := tcons 50 (window_atLeast.spec k) (t_window_dark k)
theorem t_window_atLeast_ok (n g : Nat) : SpecOk Tryz.prog g (t_window_atLeast n g) := tcons_ok (window_atLeast.spec_ok n) (fun g => t_window_dark_ok n g) g
namespace sphere_both
abbrev R : Type := Bool
abbrev A : Type := Int × Int × Int × Int × Int × Int
def lv : List (Nat × List Nat) := [(2000000, [4])]
noncomputable def cs : Nat → Ctx := ctxOf tis modes t_window_atLeast lv
theorem cs_ok (n : Nat) : CtxOk Tryz.prog (cs n) := ctxOf_ok rfl tis_ok t_window_atLeast_ok n
def enc (r : R) : Out := ((.c (.bool r)), [])
def dec : Out → Option R
  | ((.c (.bool v0)), []) => some v0
  | _ => none
theorem dec_ok : ∀ u y, dec u = some y → u = enc y := by
  intro u y h
  unfold dec at h
  split at h
  · cases h; rfl
  · cases h
noncomputable def b0 : Code := subF [] Tryz.f80
noncomputable def K0 (k : Nat) : Kt R := kTop (cs k) Tryz.f80 dec
noncomputable def f (k : Nat) : A → Option R := fun (v0, v1, v2, v3, v4, v5) => held (runFn cs k Tryz.f80 [(.agg [(.int .i64 v0), (.int .i64 v1), (.int .i64 v2)]), (.agg [(.int .i64 v3), (.int .i64 v4), (.int .i64 v5)])] [] dec)
noncomputable def F (v : A) : Option R := lim fun L => f (L 0) v
theorem F_cn (x : Nat) (v : A) : Cn late (F v) fun L => f (L x) v := of_lim.re [x]
def d (sphere_Check_k : sphere_Check.A → Option sphere_Check.R) : A → Option R := fun (v0, v1, v2, v3, v4, v5) =>
bnd (sphere_Check_k (v0, v1, v2)) fun r => br (decide (r = 0) == true) (bnd (sphere_Check_k (v3, v4, v5)) fun r => some (decide (r = 0))) (some false)
theorem d_cn {ι : Type} {E : Fil ι} {sphere_Check_k : sphere_Check.A → Option sphere_Check.R} {sphere_Check_k' : ι → sphere_Check.A → Option sphere_Check.R} (hsphere_Check_k : ∀ v, Cn E (sphere_Check_k v) fun i => sphere_Check_k' i v) : ∀ v : A, Cn E (d sphere_Check_k v) fun i => d (sphere_Check_k' i) v := fun (v0, v1, v2, v3, v4, v5) => (.bnd (hsphere_Check_k _) fun _ => (.br (.bnd (hsphere_Check_k _) fun _ => .some) .some))
theorem f_b (k : Nat) : ∀ v : A, f k v = d (sphere_Check.f k) v := fun (v0, v1, v2, v3, v4, v5) => (held_eq _).trans (by kernel_rfl)
theorem F_of (v : A) {r : R} (h : d sphere_Check.F v = some r) : F v = some r :=
  join_of (l := fun L => f (L 0) v) (d := fun L => d (sphere_Check.f (L 0)) v) (fun L => f_b (L 0) v) (d_cn (sphere_Check.F_cn 0) v) h
noncomputable def spec (k : Nat) (args : List AV) (ss : List Slot) : Option Ans :=
  match args, ss with
  | [(.agg [(.int .i64 v0), (.int .i64 v1), (.int .i64 v2)]), (.agg [(.int .i64 v3), (.int .i64 v4), (.int .i64 v5)])], [] => some ⟨R, f k (v0, v1, v2, v3, v4, v5), enc⟩
  | _, _ => none
theorem spec_ok (k : Nat) : SpecOk Tryz.prog 80 (spec k) := by
  intro args ss ans x h hx X σ w vals hp
  unfold spec at h
  split at h
  · cases h
    exact spec_of cs_ok Tryz.func80 rfl rfl dec_ok (held_eq _).symm hx hp
  · cases h
end sphere_both
noncomputable def t_sphere_both (k : Nat) := tcons 80 (sphere_both.spec k) (t_window_atLeast k)
theorem t_sphere_both_ok (n g : Nat) : SpecOk Tryz.prog g (t_sphere_both n g) := tcons_ok (sphere_both.spec_ok n) (fun g => t_window_atLeast_ok n g) g
namespace sphere_dot
abbrev R : Type := Int
abbrev A : Type := Int × Int × Int × Int × Int × Int
def lv : List (Nat × List Nat) := [(2000000, [4])]
noncomputable def cs : Nat → Ctx := ctxOf tis modes t_sphere_both lv
theorem cs_ok (n : Nat) : CtxOk Tryz.prog (cs n) := ctxOf_ok rfl tis_ok t_sphere_both_ok n
def enc (r : R) : Out := ((.c (.int .i64 r)), [])
def dec : Out → Option R
  | ((.c (.int .i64 v0)), []) => some v0
  | _ => none
theorem dec_ok : ∀ u y, dec u = some y → u = enc y := by
  intro u y h
  unfold dec at h
  split at h
  · cases h; rfl
  · cases h
noncomputable def b0 : Code := subF [] Tryz.f81
noncomputable def K0 (k : Nat) : Kt R := kTop (cs k) Tryz.f81 dec
noncomputable def f (k : Nat) : A → Option R := fun (v0, v1, v2, v3, v4, v5) => held (runFn cs k Tryz.f81 [(.agg [(.int .i64 v0), (.int .i64 v1), (.int .i64 v2)]), (.agg [(.int .i64 v3), (.int .i64 v4), (.int .i64 v5)])] [] dec)
noncomputable def F (v : A) : Option R := lim fun L => f (L 0) v
theorem F_cn (x : Nat) (v : A) : Cn late (F v) fun L => f (L x) v := of_lim.re [x]
def d : A → Option R := fun (v0, v1, v2, v3, v4, v5) =>
some (wrap IntKind.i64 (wrap IntKind.i64 (wrap IntKind.i64 (v0 * v3) + wrap IntKind.i64 (v1 * v4)) + wrap IntKind.i64 (v2 * v5)))
theorem d_cn {ι : Type} {E : Fil ι} : ∀ v : A, Cn E (d v) fun i => d v := fun (v0, v1, v2, v3, v4, v5) => .some
theorem f_b (k : Nat) : ∀ v : A, f k v = d v := fun (v0, v1, v2, v3, v4, v5) => (held_eq _).trans (by kernel_rfl)
theorem F_of (v : A) {r : R} (h : d v = some r) : F v = some r :=
  join_of (l := fun L => f (L 0) v) (d := fun L => d v) (fun L => f_b (L 0) v) (d_cn v) h
noncomputable def spec (k : Nat) (args : List AV) (ss : List Slot) : Option Ans :=
  match args, ss with
  | [(.agg [(.int .i64 v0), (.int .i64 v1), (.int .i64 v2)]), (.agg [(.int .i64 v3), (.int .i64 v4), (.int .i64 v5)])], [] => some ⟨R, f k (v0, v1, v2, v3, v4, v5), enc⟩
  | _, _ => none
theorem spec_ok (k : Nat) : SpecOk Tryz.prog 81 (spec k) := by
  intro args ss ans x h hx X σ w vals hp
  unfold spec at h
  split at h
  · cases h
    exact spec_of cs_ok Tryz.func81 rfl rfl dec_ok (held_eq _).symm hx hp
  · cases h
end sphere_dot
noncomputable def t_sphere_dot (k : Nat) := tcons 81 (sphere_dot.spec k) (t_sphere_both k)
theorem t_sphere_dot_ok (n g : Nat) : SpecOk Tryz.prog g (t_sphere_dot n g) := tcons_ok (sphere_dot.spec_ok n) (fun g => t_sphere_both_ok n g) g
namespace big_trim
abbrev R : Type := List Int
abbrev A : Type := List Int
def lv : List (Nat × List Nat) := [(2000001, [0]), (2000000, [2]), (1, [0])]
noncomputable def cs : Nat → Ctx := ctxOf tis modes t_sphere_dot lv
theorem cs_ok (n : Nat) : CtxOk Tryz.prog (cs n) := ctxOf_ok rfl tis_ok t_sphere_dot_ok n
def enc (r : R) : Out := ((.c (.sl 128000001)), [.gone, (.row (.int .u32) r)])
def dec : Out → Option R
  | ((.c (.sl 128000001)), [.gone, (.row (.int .u32) v0)]) => some v0
  | _ => none
theorem dec_ok : ∀ u y, dec u = some y → u = enc y := by
  intro u y h
  unfold dec at h
  split at h
  · cases h; rfl
  · cases h
noncomputable def b0 : Code := subF [] Tryz.f126
noncomputable def K0 (k : Nat) : Kt R := kTop (cs k) Tryz.f126 dec
noncomputable def b1 : Code := sub [1, 0, 0, 0] b0
noncomputable def K1 ( k : Nat) : Kt R := kAt (cs k) (loopN cs k) [1, 0, 0] b0 (K0 k)
abbrev T0 : Type := List Int
def s0 : T0 → St := fun v0 => ⟨21, 1, [(0, (.c (.sl 128000000)))], [], [(128000000, (.row (.int .u32) v0)), (256000000, .gone)]⟩
noncomputable def l0 ( k n : Nat) (v : T0) : Option R := held (loopN cs n b1 (K1 k) (s0 v))
noncomputable def D0 (v : T0) : Option R := lim fun L => l0 (L 0) (L 1) v
theorem D0_cn (v : T0) : Cn late (D0 v) fun L => l0 (L 0) (L 1) v := of_lim
abbrev T1 : Type := List Int
def s1 : T1 → St := fun v0 => ⟨21, 1, [(0, (.c (.sl 64000000)))], [], [(128000000, .gone), (256000000, .gone), (64000000, (.row (.int .u32) v0))]⟩
noncomputable def l1 ( k n : Nat) (v : T1) : Option R := held (loopN cs n b1 (K1 k) (s1 v))
noncomputable def D1 (v : T1) : Option R := lim fun L => l1 (L 0) (L 1) v
theorem D1_cn (v : T1) : Cn late (D1 v) fun L => l1 (L 0) (L 1) v := of_lim
def d0 (L1m1 : T1 → Option R) : T0 → Option R := fun v0 =>
br (!decide (0 < (↑v0.length : Int)) == true || decide (0 ≤ wrap IntKind.i64 ((↑v0.length : Int) - 1) ∧ wrap IntKind.i64 ((↑v0.length : Int) - 1) < (↑v0.length : Int)))
  (br (decide (0 < (↑v0.length : Int)) && decide (rd (Ty.int IntKind.u32) v0 (wrap IntKind.i64 ((↑v0.length : Int) - 1)) = 0))
    (br (decide (0 ≤ wrap IntKind.i64 ((↑v0.length : Int) - 1) ∧ wrap IntKind.i64 ((↑v0.length : Int) - 1) ≤ (↑v0.length : Int)))
      (L1m1 (List.drop (Int.toNat 0) (List.take (wrap IntKind.i64 ((↑v0.length : Int) - 1)).toNat v0))) none)
    (some v0))
  none
theorem d0_cn {ι : Type} {E : Fil ι} {L1m1 : T1 → Option R} {L1m1' : ι → T1 → Option R} (hL1m1 : ∀ v, Cn E (L1m1 v) fun i => L1m1' i v) : ∀ v : T0, Cn E (d0 L1m1 v) fun i => d0 (L1m1' i) v := fun v0 => (.br (.br (.br (hL1m1 _) .none) .some) .none)
theorem l0_b ( k m1 : Nat) : ∀ v : T0, run (cs m1) (loopN cs m1) b1 (kLoop cs m1 b1 (K1 k)) (s0 v) = d0 (l1 k m1) v := fun v0 => by kernel_rfl
theorem D0_of (v : T0) {r : R} (h : d0 D1 v = some r) : D0 v = some r :=
  loop_of 1 (l := fun L => l0 (L 0) (L 1) v) (d := fun L => d0 (l1 (L 0) (L 1)) v) (fun L n hn => by show l0 (L 0) (L 1) v = _; rw [hn]; exact (held_eq _).trans ((loopN_succ _ _ _ _ _).trans (l0_b (L 0) n v))) (d0_cn (fun v => (D1_cn v).re [0, 1]) v) h
def d1 (L1m1 : T1 → Option R) : T1 → Option R := fun v0 =>
br (!decide (0 < (↑v0.length : Int)) == true || decide (0 ≤ wrap IntKind.i64 ((↑v0.length : Int) - 1) ∧ wrap IntKind.i64 ((↑v0.length : Int) - 1) < (↑v0.length : Int)))
  (br (decide (0 < (↑v0.length : Int)) && decide (rd (Ty.int IntKind.u32) v0 (wrap IntKind.i64 ((↑v0.length : Int) - 1)) = 0))
    (br (decide (0 ≤ wrap IntKind.i64 ((↑v0.length : Int) - 1) ∧ wrap IntKind.i64 ((↑v0.length : Int) - 1) ≤ (↑v0.length : Int)))
      (L1m1 (List.drop (Int.toNat 0) (List.take (wrap IntKind.i64 ((↑v0.length : Int) - 1)).toNat v0))) none)
    (some v0))
  none
theorem d1_cn {ι : Type} {E : Fil ι} {L1m1 : T1 → Option R} {L1m1' : ι → T1 → Option R} (hL1m1 : ∀ v, Cn E (L1m1 v) fun i => L1m1' i v) : ∀ v : T1, Cn E (d1 L1m1 v) fun i => d1 (L1m1' i) v := fun v0 => (.br (.br (.br (hL1m1 _) .none) .some) .none)
theorem l1_b ( k m1 : Nat) : ∀ v : T1, run (cs m1) (loopN cs m1) b1 (kLoop cs m1 b1 (K1 k)) (s1 v) = d1 (l1 k m1) v := fun v0 => by kernel_rfl
theorem D1_of (v : T1) {r : R} (h : d1 D1 v = some r) : D1 v = some r :=
  loop_of 1 (l := fun L => l1 (L 0) (L 1) v) (d := fun L => d1 (l1 (L 0) (L 1)) v) (fun L n hn => by show l1 (L 0) (L 1) v = _; rw [hn]; exact (held_eq _).trans ((loopN_succ _ _ _ _ _).trans (l1_b (L 0) n v))) (d1_cn (fun v => (D1_cn v).re [0, 1]) v) h
noncomputable def f (k : Nat) : A → Option R := fun v0 => held (runFn cs k Tryz.f126 [(.c (.sl 128000000))] [(.row (.int .u32) v0)] dec)
noncomputable def F (v : A) : Option R := lim fun L => f (L 0) v
theorem F_cn (x : Nat) (v : A) : Cn late (F v) fun L => f (L x) v := of_lim.re [x]
def d (L0k : T0 → Option R) : A → Option R := fun v0 =>
L0k v0
theorem d_cn {ι : Type} {E : Fil ι} {L0k : T0 → Option R} {L0k' : ι → T0 → Option R} (hL0k : ∀ v, Cn E (L0k v) fun i => L0k' i v) : ∀ v : A, Cn E (d L0k v) fun i => d (L0k' i) v := fun v0 => (hL0k _)
theorem f_b (k : Nat) : ∀ v : A, f k v = d (l0 k k) v := fun v0 => (held_eq _).trans (by kernel_rfl)
theorem F_of (v : A) {r : R} (h : d D0 v = some r) : F v = some r :=
  join_of (l := fun L => f (L 0) v) (d := fun L => d (l0 (L 0) (L 0)) v) (fun L => f_b (L 0) v) (d_cn (fun v => (D0_cn v).re [0, 0]) v) h
noncomputable def spec (k : Nat) (args : List AV) (ss : List Slot) : Option Ans :=
  match args, ss with
  | [(.c (.sl 128000000))], [(.row (.int .u32) v0)] => some ⟨R, f k v0, enc⟩
  | _, _ => none
theorem spec_ok (k : Nat) : SpecOk Tryz.prog 126 (spec k) := by
  intro args ss ans x h hx X σ w vals hp
  unfold spec at h
  split at h
  · cases h
    exact spec_of cs_ok Tryz.func126 rfl rfl dec_ok (held_eq _).symm hx hp
  · cases h
end big_trim
noncomputable def t_big_trim (k : Nat) := tcons 126 (big_trim.spec k) (t_sphere_dot k)
theorem t_big_trim_ok (n g : Nat) : SpecOk Tryz.prog g (t_big_trim n g) := tcons_ok (big_trim.spec_ok n) (fun g => t_sphere_dot_ok n g) g
namespace big_made
abbrev R : Type := Bool × List Int
abbrev A : Type := Bool × List Int
def lv : List (Nat × List Nat) := [(2000000, [4])]
noncomputable def cs : Nat → Ctx := ctxOf tis modes t_big_trim lv
theorem cs_ok (n : Nat) : CtxOk Tryz.prog (cs n) := ctxOf_ok rfl tis_ok t_big_trim_ok n
def enc (r : R) : Out := ((.agg [(.bool r.1), (.sl 128000001)]), [.gone, (.row (.int .u32) r.2)])
def dec : Out → Option R
  | ((.agg [(.bool v0), (.sl 128000001)]), [.gone, (.row (.int .u32) v1)]) => some (v0, v1)
  | _ => none
theorem dec_ok : ∀ u y, dec u = some y → u = enc y := by
  intro u y h
  unfold dec at h
  split at h
  · cases h; rfl
  · cases h
noncomputable def b0 : Code := subF [] Tryz.f120
noncomputable def K0 (k : Nat) : Kt R := kTop (cs k) Tryz.f120 dec
noncomputable def f (k : Nat) : A → Option R := fun (v0, v1) => held (runFn cs k Tryz.f120 [(.c (.bool v0)), (.c (.sl 128000000))] [(.row (.int .u32) v1)] dec)
noncomputable def F (v : A) : Option R := lim fun L => f (L 0) v
theorem F_cn (x : Nat) (v : A) : Cn late (F v) fun L => f (L x) v := of_lim.re [x]
def d (big_trim_k : big_trim.A → Option big_trim.R) : A → Option R := fun (v0, v1) =>
bnd (big_trim_k v1) fun r => some (v0 && decide (0 < (↑r.length : Int)), r)
theorem d_cn {ι : Type} {E : Fil ι} {big_trim_k : big_trim.A → Option big_trim.R} {big_trim_k' : ι → big_trim.A → Option big_trim.R} (hbig_trim_k : ∀ v, Cn E (big_trim_k v) fun i => big_trim_k' i v) : ∀ v : A, Cn E (d big_trim_k v) fun i => d (big_trim_k' i) v := fun (v0, v1) => (.bnd (hbig_trim_k _) fun _ => .some)
theorem f_b (k : Nat) : ∀ v : A, f k v = d (big_trim.f k) v := fun (v0, v1) => (held_eq _).trans (by kernel_rfl)
theorem F_of (v : A) {r : R} (h : d big_trim.F v = some r) : F v = some r :=
  join_of (l := fun L => f (L 0) v) (d := fun L => d (big_trim.f (L 0)) v) (fun L => f_b (L 0) v) (d_cn (big_trim.F_cn 0) v) h
noncomputable def spec (k : Nat) (args : List AV) (ss : List Slot) : Option Ans :=
  match args, ss with
  | [(.c (.bool v0)), (.c (.sl 128000000))], [(.row (.int .u32) v1)] => some ⟨R, f k (v0, v1), enc⟩
  | _, _ => none
theorem spec_ok (k : Nat) : SpecOk Tryz.prog 120 (spec k) := by
  intro args ss ans x h hx X σ w vals hp
  unfold spec at h
  split at h
  · cases h
    exact spec_of cs_ok Tryz.func120 rfl rfl dec_ok (held_eq _).symm hx hp
  · cases h
end big_made
noncomputable def t_big_made (k : Nat) := tcons 120 (big_made.spec k) (t_big_trim k)
theorem t_big_made_ok (n g : Nat) : SpecOk Tryz.prog g (t_big_made n g) := tcons_ok (big_made.spec_ok n) (fun g => t_big_trim_ok n g) g
namespace big_Of
abbrev R : Type := Bool × List Int
abbrev A : Type := Int
def lv : List (Nat × List Nat) := [(2000000, [2]), (1000004, [0, 2, 3])]
noncomputable def cs : Nat → Ctx := ctxOf tis modes t_big_made lv
theorem cs_ok (n : Nat) : CtxOk Tryz.prog (cs n) := ctxOf_ok rfl tis_ok t_big_made_ok n
def enc (r : R) : Out := ((.agg [(.bool r.1), (.sl 128000000)]), [(.row (.int .u32) r.2)])
def dec : Out → Option R
  | ((.agg [(.bool v0), (.sl 128000000)]), [(.row (.int .u32) v1)]) => some (v0, v1)
  | _ => none
theorem dec_ok : ∀ u y, dec u = some y → u = enc y := by
  intro u y h
  unfold dec at h
  split at h
  · cases h; rfl
  · cases h
noncomputable def b0 : Code := subF [] Tryz.f106
noncomputable def K0 (k : Nat) : Kt R := kTop (cs k) Tryz.f106 dec
noncomputable def c1000004 : Code := sub [1, 1, 1] b0
noncomputable def J1000004 ( k : Nat) : Kt R := kAt (cs k) (loopN cs k) [1, 1, 1] b0 (K0 k)
abbrev T0 : Type := Int × Int × Bool × List Int
def s0 : T0 → St := fun (v0, v1, v2, v3) => ⟨19, 0, [(0, (.c (.int .i64 v0))), (2, (.c (.ptr 64000000 0))), (3, (.c (.int .u64 v1)))], [], [(256000000, .gone), (64000000, (.box [(.bool v2), (.sl 64000001)])), (64000001, (.row (.int .u32) v3))]⟩
noncomputable def l0 ( k : Nat) (v : T0) : Option R := held (run (cs k) (loopN cs k) c1000004 (J1000004 k) (s0 v))
noncomputable def D0 (v : T0) : Option R := lim fun L => l0 (L 0) v
theorem D0_cn (v : T0) : Cn late (D0 v) fun L => l0 (L 0) v := of_lim
def d0 (big_made_k : big_made.A → Option big_made.R) : T0 → Option R := fun (v0, v1, v2, v3) =>
br (decide ((0 : Int) ≤ 32)) (bnd (big_made_k (decide (v0 < 0), [wrap IntKind.u32 v1, wrap IntKind.u32 (shr IntKind.u64 v1 32)])) fun r => some (r.fst, r.snd)) none
theorem d0_cn {ι : Type} {E : Fil ι} {big_made_k : big_made.A → Option big_made.R} {big_made_k' : ι → big_made.A → Option big_made.R} (hbig_made_k : ∀ v, Cn E (big_made_k v) fun i => big_made_k' i v) : ∀ v : T0, Cn E (d0 big_made_k v) fun i => d0 (big_made_k' i) v := fun (v0, v1, v2, v3) => (.br (.bnd (hbig_made_k _) fun _ => .some) .none)
theorem l0_b ( k : Nat) : ∀ v : T0, run (cs k) (loopN cs k) c1000004 (J1000004 k) (s0 v) = d0 (big_made.f k) v := fun (v0, v1, v2, v3) => by kernel_rfl
theorem D0_of (v : T0) {r : R} (h : d0 big_made.F v = some r) : D0 v = some r :=
  join_of (l := fun L => l0 (L 0) v) (d := fun L => d0 (big_made.f (L 0)) v) (fun L => (held_eq _).trans (l0_b (L 0) v)) (d0_cn (big_made.F_cn 0) v) h
noncomputable def f (k : Nat) : A → Option R := fun v0 => held (runFn cs k Tryz.f106 [(.c (.int .i64 v0))] [] dec)
noncomputable def F (v : A) : Option R := lim fun L => f (L 0) v
theorem F_cn (x : Nat) (v : A) : Cn late (F v) fun L => f (L x) v := of_lim.re [x]
def d (L0k : T0 → Option R) : A → Option R := fun v0 =>
br (decide (v0 < 0)) (L0k (v0, wrap IntKind.u64 (0 - wrap IntKind.u64 v0), false, [])) (L0k (v0, wrap IntKind.u64 v0, false, []))
theorem d_cn {ι : Type} {E : Fil ι} {L0k : T0 → Option R} {L0k' : ι → T0 → Option R} (hL0k : ∀ v, Cn E (L0k v) fun i => L0k' i v) : ∀ v : A, Cn E (d L0k v) fun i => d (L0k' i) v := fun v0 => (.br (hL0k _) (hL0k _))
theorem f_b (k : Nat) : ∀ v : A, f k v = d (l0 k) v := fun v0 => (held_eq _).trans (by kernel_rfl)
theorem F_of (v : A) {r : R} (h : d D0 v = some r) : F v = some r :=
  join_of (l := fun L => f (L 0) v) (d := fun L => d (l0 (L 0)) v) (fun L => f_b (L 0) v) (d_cn (fun v => (D0_cn v).re [0]) v) h
noncomputable def spec (k : Nat) (args : List AV) (ss : List Slot) : Option Ans :=
  match args, ss with
  | [(.c (.int .i64 v0))], [] => some ⟨R, f k v0, enc⟩
  | _, _ => none
theorem spec_ok (k : Nat) : SpecOk Tryz.prog 106 (spec k) := by
  intro args ss ans x h hx X σ w vals hp
  unfold spec at h
  split at h
  · cases h
    exact spec_of cs_ok Tryz.func106 rfl rfl dec_ok (held_eq _).symm hx hp
  · cases h
end big_Of
noncomputable def t_big_Of (k : Nat) := tcons 106 (big_Of.spec k) (t_big_made k)
theorem t_big_Of_ok (n g : Nat) : SpecOk Tryz.prog g (t_big_Of n g) := tcons_ok (big_Of.spec_ok n) (fun g => t_big_made_ok n g) g
namespace bits_Len32
abbrev R : Type := Int
abbrev A : Type := Int
def lv : List (Nat × List Nat) := [(2000000, [2]), (1000004, [0, 2]), (1000007, [0, 2])]
noncomputable def cs : Nat → Ctx := ctxOf tis modes t_big_Of lv
theorem cs_ok (n : Nat) : CtxOk Tryz.prog (cs n) := ctxOf_ok rfl tis_ok t_big_Of_ok n
def enc (r : R) : Out := ((.c (.int .i64 r)), [])
def dec : Out → Option R
  | ((.c (.int .i64 v0)), []) => some v0
  | _ => none
theorem dec_ok : ∀ u y, dec u = some y → u = enc y := by
  intro u y h
  unfold dec at h
  split at h
  · cases h; rfl
  · cases h
noncomputable def b0 : Code := subF [] Tryz.f127
noncomputable def K0 (k : Nat) : Kt R := kTop (cs k) Tryz.f127 dec
noncomputable def c1000004 : Code := sub [1, 1] b0
noncomputable def J1000004 ( k : Nat) : Kt R := kAt (cs k) (loopN cs k) [1, 1] b0 (K0 k)
noncomputable def c1000007 : Code := sub [1, 1, 1] b0
noncomputable def J1000007 ( k : Nat) : Kt R := kAt (cs k) (loopN cs k) [1, 1, 1] b0 (K0 k)
abbrev T0 : Type := Int × Int
def s0 : T0 → St := fun (v0, v1) => ⟨19, 0, [(0, (.c (.int .u32 v0))), (2, (.c (.int .i64 v1)))], [], [(256000000, .gone)]⟩
noncomputable def l0 ( k : Nat) (v : T0) : Option R := held (run (cs k) (loopN cs k) c1000004 (J1000004 k) (s0 v))
noncomputable def D0 (v : T0) : Option R := lim fun L => l0 (L 0) v
theorem D0_cn (v : T0) : Cn late (D0 v) fun L => l0 (L 0) v := of_lim
abbrev T1 : Type := Int × Int
def s1 : T1 → St := fun (v0, v1) => ⟨19, 0, [(0, (.c (.int .u32 v0))), (2, (.c (.int .i64 v1)))], [], [(256000000, .gone)]⟩
noncomputable def l1 ( k : Nat) (v : T1) : Option R := held (run (cs k) (loopN cs k) c1000007 (J1000007 k) (s1 v))
noncomputable def D1 (v : T1) : Option R := lim fun L => l1 (L 0) v
theorem D1_cn (v : T1) : Cn late (D1 v) fun L => l1 (L 0) v := of_lim
def d0 (L1k : T1 → Option R) : T0 → Option R := fun (v0, v1) =>
br (decide (256 ≤ v0)) (br (decide ((0 : Int) ≤ 8)) (L1k (shr IntKind.u32 v0 8, wrap IntKind.i64 (v1 + 8))) none) (L1k (v0, v1))
theorem d0_cn {ι : Type} {E : Fil ι} {L1k : T1 → Option R} {L1k' : ι → T1 → Option R} (hL1k : ∀ v, Cn E (L1k v) fun i => L1k' i v) : ∀ v : T0, Cn E (d0 L1k v) fun i => d0 (L1k' i) v := fun (v0, v1) => (.br (.br (hL1k _) .none) (hL1k _))
theorem l0_b ( k : Nat) : ∀ v : T0, run (cs k) (loopN cs k) c1000004 (J1000004 k) (s0 v) = d0 (l1 k) v := fun (v0, v1) => by kernel_rfl
theorem D0_of (v : T0) {r : R} (h : d0 D1 v = some r) : D0 v = some r :=
  join_of (l := fun L => l0 (L 0) v) (d := fun L => d0 (l1 (L 0)) v) (fun L => (held_eq _).trans (l0_b (L 0) v)) (d0_cn (fun v => (D1_cn v).re [0]) v) h
def d1 : T1 → Option R := fun (v0, v1) =>
br
  (decide
    (0 ≤ wrap IntKind.u8 v0 ∧
      wrap IntKind.u8 v0 <
        (↑bs0.size :
          Int)))
  (some
    (wrap IntKind.i64
      (v1 +
        wrap IntKind.i64
          (↑(bs0.data.getD
                  (wrap IntKind.u8 v0).toNat 0).toNat :
            Int))))
  none
theorem d1_cn {ι : Type} {E : Fil ι} : ∀ v : T1, Cn E (d1 v) fun i => d1 v := fun (v0, v1) => (.br .some .none)
theorem l1_b ( k : Nat) : ∀ v : T1, run (cs k) (loopN cs k) c1000007 (J1000007 k) (s1 v) = d1 v := fun (v0, v1) => by kernel_rfl
theorem D1_of (v : T1) {r : R} (h : d1 v = some r) : D1 v = some r :=
  join_of (l := fun L => l1 (L 0) v) (d := fun L => d1 v) (fun L => (held_eq _).trans (l1_b (L 0) v)) (d1_cn v) h
noncomputable def f (k : Nat) : A → Option R := fun v0 => held (runFn cs k Tryz.f127 [(.c (.int .u32 v0))] [] dec)
noncomputable def F (v : A) : Option R := lim fun L => f (L 0) v
theorem F_cn (x : Nat) (v : A) : Cn late (F v) fun L => f (L x) v := of_lim.re [x]
def d (L0k : T0 → Option R) : A → Option R := fun v0 =>
br (decide (65536 ≤ v0)) (br (decide ((0 : Int) ≤ 16)) (L0k (shr IntKind.u32 v0 16, 16)) none) (L0k (v0, 0))
theorem d_cn {ι : Type} {E : Fil ι} {L0k : T0 → Option R} {L0k' : ι → T0 → Option R} (hL0k : ∀ v, Cn E (L0k v) fun i => L0k' i v) : ∀ v : A, Cn E (d L0k v) fun i => d (L0k' i) v := fun v0 => (.br (.br (hL0k _) .none) (hL0k _))
theorem f_b (k : Nat) : ∀ v : A, f k v = d (l0 k) v := fun v0 => (held_eq _).trans (by kernel_rfl)
theorem F_of (v : A) {r : R} (h : d D0 v = some r) : F v = some r :=
  join_of (l := fun L => f (L 0) v) (d := fun L => d (l0 (L 0)) v) (fun L => f_b (L 0) v) (d_cn (fun v => (D0_cn v).re [0]) v) h
noncomputable def spec (k : Nat) (args : List AV) (ss : List Slot) : Option Ans :=
  match args, ss with
  | [(.c (.int .u32 v0))], [] => some ⟨R, f k v0, enc⟩
  | _, _ => none
theorem spec_ok (k : Nat) : SpecOk Tryz.prog 127 (spec k) := by
  intro args ss ans x h hx X σ w vals hp
  unfold spec at h
  split at h
  · cases h
    exact spec_of cs_ok Tryz.func127 rfl rfl dec_ok (held_eq _).symm hx hp
  · cases h
end bits_Len32
noncomputable def t_bits_Len32 (k : Nat) := tcons 127 (bits_Len32.spec k) (t_big_Of k)
theorem t_bits_Len32_ok (n g : Nat) : SpecOk Tryz.prog g (t_bits_Len32 n g) := tcons_ok (bits_Len32.spec_ok n) (fun g => t_big_Of_ok n g) g
namespace big_Bits
abbrev R : Type := Int
abbrev A : Type := Bool × List Int
def lv : List (Nat × List Nat) := [(2000000, [2])]
noncomputable def cs : Nat → Ctx := ctxOf tis modes t_bits_Len32 lv
theorem cs_ok (n : Nat) : CtxOk Tryz.prog (cs n) := ctxOf_ok rfl tis_ok t_bits_Len32_ok n
def enc (r : R) : Out := ((.c (.int .i64 r)), [])
def dec : Out → Option R
  | ((.c (.int .i64 v0)), []) => some v0
  | _ => none
theorem dec_ok : ∀ u y, dec u = some y → u = enc y := by
  intro u y h
  unfold dec at h
  split at h
  · cases h; rfl
  · cases h
noncomputable def b0 : Code := subF [] Tryz.f121
noncomputable def K0 (k : Nat) : Kt R := kTop (cs k) Tryz.f121 dec
noncomputable def f (k : Nat) : A → Option R := fun (v0, v1) => held (runFn cs k Tryz.f121 [(.agg [(.bool v0), (.frz (.int .u32) v1)])] [] dec)
noncomputable def F (v : A) : Option R := lim fun L => f (L 0) v
theorem F_cn (x : Nat) (v : A) : Cn late (F v) fun L => f (L x) v := of_lim.re [x]
def d (bits_Len32_k : bits_Len32.A → Option bits_Len32.R) : A → Option R := fun (v0, v1) =>
br (decide ((↑v1.length : Int) = 0)) (some 0)
  (br (decide (0 ≤ wrap IntKind.i64 ((↑v1.length : Int) - 1) ∧ wrap IntKind.i64 ((↑v1.length : Int) - 1) < (↑v1.length : Int)))
    (bnd (bits_Len32_k (rd (Ty.int IntKind.u32) v1 (wrap IntKind.i64 ((↑v1.length : Int) - 1)))) fun r => some (wrap IntKind.i64 (wrap IntKind.i64 (32 * wrap IntKind.i64 ((↑v1.length : Int) - 1)) + r))) none)
theorem d_cn {ι : Type} {E : Fil ι} {bits_Len32_k : bits_Len32.A → Option bits_Len32.R} {bits_Len32_k' : ι → bits_Len32.A → Option bits_Len32.R} (hbits_Len32_k : ∀ v, Cn E (bits_Len32_k v) fun i => bits_Len32_k' i v) : ∀ v : A, Cn E (d bits_Len32_k v) fun i => d (bits_Len32_k' i) v := fun (v0, v1) => (.br .some (.br (.bnd (hbits_Len32_k _) fun _ => .some) .none))
theorem f_b (k : Nat) : ∀ v : A, f k v = d (bits_Len32.f k) v := fun (v0, v1) => (held_eq _).trans (by kernel_rfl)
theorem F_of (v : A) {r : R} (h : d bits_Len32.F v = some r) : F v = some r :=
  join_of (l := fun L => f (L 0) v) (d := fun L => d (bits_Len32.f (L 0)) v) (fun L => f_b (L 0) v) (d_cn (bits_Len32.F_cn 0) v) h
noncomputable def spec (k : Nat) (args : List AV) (ss : List Slot) : Option Ans :=
  match args, ss with
  | [(.agg [(.bool v0), (.frz (.int .u32) v1)])], [] => some ⟨R, f k (v0, v1), enc⟩
  | _, _ => none
theorem spec_ok (k : Nat) : SpecOk Tryz.prog 121 (spec k) := by
  intro args ss ans x h hx X σ w vals hp
  unfold spec at h
  split at h
  · cases h
    exact spec_of cs_ok Tryz.func121 rfl rfl dec_ok (held_eq _).symm hx hp
  · cases h
end big_Bits
noncomputable def t_big_Bits (k : Nat) := tcons 121 (big_Bits.spec k) (t_bits_Len32 k)
theorem t_big_Bits_ok (n g : Nat) : SpecOk Tryz.prog g (t_big_Bits n g) := tcons_ok (big_Bits.spec_ok n) (fun g => t_bits_Len32_ok n g) g
namespace big_limited
abbrev R : Type := Bool × Int × List Int
abbrev A : Type := Bool × List Int
def lv : List (Nat × List Nat) := [(2000000, [4, 5])]
noncomputable def cs : Nat → Ctx := ctxOf tis modes t_big_Bits lv
theorem cs_ok (n : Nat) : CtxOk Tryz.prog (cs n) := ctxOf_ok rfl tis_ok t_big_Bits_ok n
def enc (r : R) : Out := ((.tup [(.agg [(.bool r.1), (.sl 128000001)]), (.c (.int .i64 r.2.1))]), [.gone, (.row (.int .u32) r.2.2)])
def dec : Out → Option R
  | ((.tup [(.agg [(.bool v0), (.sl 128000001)]), (.c (.int .i64 v1))]), [.gone, (.row (.int .u32) v2)]) => some (v0, v1, v2)
  | _ => none
theorem dec_ok : ∀ u y, dec u = some y → u = enc y := by
  intro u y h
  unfold dec at h
  split at h
  · cases h; rfl
  · cases h
noncomputable def b0 : Code := subF [] Tryz.f122
noncomputable def K0 (k : Nat) : Kt R := kTop (cs k) Tryz.f122 dec
noncomputable def f (k : Nat) : A → Option R := fun (v0, v1) => held (runFn cs k Tryz.f122 [(.c (.bool v0)), (.c (.sl 128000000))] [(.row (.int .u32) v1)] dec)
noncomputable def F (v : A) : Option R := lim fun L => f (L 0) v
theorem F_cn (x : Nat) (v : A) : Cn late (F v) fun L => f (L x) v := of_lim.re [x]
def d (big_made_k : big_made.A → Option big_made.R) (big_Bits_k : big_Bits.A → Option big_Bits.R) : A → Option R := fun (v0, v1) =>
bnd (big_made_k (v0, v1)) fun r => bnd (big_Bits_k (r.fst, r.snd)) fun r_1 => br (decide (131072 < r_1)) (some (false, 2, [])) (some (r.fst, 0, r.snd))
theorem d_cn {ι : Type} {E : Fil ι} {big_made_k : big_made.A → Option big_made.R} {big_made_k' : ι → big_made.A → Option big_made.R} (hbig_made_k : ∀ v, Cn E (big_made_k v) fun i => big_made_k' i v) {big_Bits_k : big_Bits.A → Option big_Bits.R} {big_Bits_k' : ι → big_Bits.A → Option big_Bits.R} (hbig_Bits_k : ∀ v, Cn E (big_Bits_k v) fun i => big_Bits_k' i v) : ∀ v : A, Cn E (d big_made_k big_Bits_k v) fun i => d (big_made_k' i) (big_Bits_k' i) v := fun (v0, v1) => (.bnd (hbig_made_k _) fun _ => (.bnd (hbig_Bits_k _) fun _ => (.br .some .some)))
theorem f_b (k : Nat) : ∀ v : A, f k v = d (big_made.f k) (big_Bits.f k) v := fun (v0, v1) => (held_eq _).trans (by kernel_rfl)
theorem F_of (v : A) {r : R} (h : d big_made.F big_Bits.F v = some r) : F v = some r :=
  join_of (l := fun L => f (L 0) v) (d := fun L => d (big_made.f (L 0)) (big_Bits.f (L 0)) v) (fun L => f_b (L 0) v) (d_cn (big_made.F_cn 0) (big_Bits.F_cn 0) v) h
noncomputable def spec (k : Nat) (args : List AV) (ss : List Slot) : Option Ans :=
  match args, ss with
  | [(.c (.bool v0)), (.c (.sl 128000000))], [(.row (.int .u32) v1)] => some ⟨R, f k (v0, v1), enc⟩
  | _, _ => none
theorem spec_ok (k : Nat) : SpecOk Tryz.prog 122 (spec k) := by
  intro args ss ans x h hx X σ w vals hp
  unfold spec at h
  split at h
  · cases h
    exact spec_of cs_ok Tryz.func122 rfl rfl dec_ok (held_eq _).symm hx hp
  · cases h
end big_limited
noncomputable def t_big_limited (k : Nat) := tcons 122 (big_limited.spec k) (t_big_Bits k)
theorem t_big_limited_ok (n g : Nat) : SpecOk Tryz.prog g (t_big_limited n g) := tcons_ok (big_limited.spec_ok n) (fun g => t_big_Bits_ok n g) g
namespace big_Mul
abbrev R : Type := Bool × Int × List Int
abbrev A : Type := Bool × List Int × Bool × List Int
def lv : List (Nat × List Nat) := [(2000000, [4, 5]), (5, [2, 3, 4, 6, 28, 29, 30]), (9, [2, 3, 4, 6, 7, 8, 9, 28, 29, 30, 36, 37, 38])]
noncomputable def cs : Nat → Ctx := ctxOf tis modes t_big_limited lv
theorem cs_ok (n : Nat) : CtxOk Tryz.prog (cs n) := ctxOf_ok rfl tis_ok t_big_limited_ok n
def enc (r : R) : Out := ((.tup [(.agg [(.bool r.1), (.sl 128000000)]), (.c (.int .i64 r.2.1))]), [(.row (.int .u32) r.2.2)])
def dec : Out → Option R
  | ((.tup [(.agg [(.bool v0), (.sl 128000000)]), (.c (.int .i64 v1))]), [(.row (.int .u32) v2)]) => some (v0, v1, v2)
  | _ => none
theorem dec_ok : ∀ u y, dec u = some y → u = enc y := by
  intro u y h
  unfold dec at h
  split at h
  · cases h; rfl
  · cases h
noncomputable def b0 : Code := subF [] Tryz.f107
noncomputable def K0 (k : Nat) : Kt R := kTop (cs k) Tryz.f107 dec
noncomputable def b5 : Code := sub [1, 1, 1, 0, 1, 0, 0] b0
noncomputable def K5 ( k : Nat) : Kt R := kAt (cs k) (loopN cs k) [1, 1, 1, 0, 1, 0] b0 (K0 k)
noncomputable def b9 : Code := sub [1, 1, 0, 0, 1, 1, 0, 1, 0, 0] b5
noncomputable def K9 ( k m1 : Nat) : Kt R := kAt (cs m1) (loopN cs m1) [1, 1, 0, 0, 1, 1, 0, 1, 0] b5 (kLoop cs m1 b5 (K5 k))
abbrev T0 : Type := List Int × Int × Int × Bool × List Int × Bool × List Int × Bool × List Int × List Int
def s0 : T0 → St := fun (v0, v1, v2, v3, v4, v5, v6, v7, v8, v9) => ⟨87, 0, [(2, (.c (.ptr 64000000 0))), (3, (.c (.ptr 64000001 0))), (4, (.c (.ptr 64000002 0))), (6, (.c (.sl 64000003))), (28, (.c (.frz (.int .u32) v0))), (29, (.c (.int .i64 v1))), (30, (.c (.int .i64 v2)))], [], [(256000000, .gone), (64000000, (.box [(.bool v3), (.frz (.int .u32) v4)])), (64000001, (.box [(.bool v5), (.frz (.int .u32) v6)])), (64000002, (.box [(.bool v7), (.sl 64000004)])), (64000003, (.row (.int .u32) v8)), (64000004, (.row (.int .u32) v9))]⟩
noncomputable def l0 ( k n : Nat) (v : T0) : Option R := held (loopN cs n b5 (K5 k) (s0 v))
noncomputable def D0 (v : T0) : Option R := lim fun L => l0 (L 0) (L 1) v
theorem D0_cn (v : T0) : Cn late (D0 v) fun L => l0 (L 0) (L 1) v := of_lim
abbrev T1 : Type := Int × Int × Int × List Int × Int × Int × List Int × Int × Int × Bool × List Int × Bool × List Int × Bool × List Int × List Int
def s1 : T1 → St := fun (v0, v1, v2, v3, v4, v5, v6, v7, v8, v9, v10, v11, v12, v13, v14, v15) => ⟨87, 0, [(2, (.c (.ptr 64000000 0))), (3, (.c (.ptr 64000001 0))), (4, (.c (.ptr 64000002 0))), (6, (.c (.sl 64000003))), (7, (.c (.int .i64 v0))), (8, (.c (.int .u32 v1))), (9, (.c (.int .u64 v2))), (28, (.c (.frz (.int .u32) v3))), (29, (.c (.int .i64 v4))), (30, (.c (.int .i64 v5))), (36, (.c (.frz (.int .u32) v6))), (37, (.c (.int .i64 v7))), (38, (.c (.int .i64 v8)))], [], [(256000000, .gone), (64000000, (.box [(.bool v9), (.frz (.int .u32) v10)])), (64000001, (.box [(.bool v11), (.frz (.int .u32) v12)])), (64000002, (.box [(.bool v13), (.sl 64000004)])), (64000003, (.row (.int .u32) v14)), (64000004, (.row (.int .u32) v15))]⟩
noncomputable def l1 ( k m1 n : Nat) (v : T1) : Option R := held (loopN cs n b9 (K9 k m1) (s1 v))
noncomputable def D1 (v : T1) : Option R := lim fun L => l1 (L 0) (L 1) (L 2) v
theorem D1_cn (v : T1) : Cn late (D1 v) fun L => l1 (L 0) (L 1) (L 2) v := of_lim
def d0 (L1m1 : T1 → Option R) (big_limited_k : big_limited.A → Option big_limited.R) : T0 → Option R := fun (v0, v1, v2, v3, v4, v5, v6, v7, v8, v9) =>
br (decide (v2 < v1)) (br (decide (0 ≤ v2 ∧ v2 < (↑v0.length : Int))) (L1m1 (v2, rd (Ty.int IntKind.u32) v0 v2, 0, v0, v1, v2, v6, (↑v6.length : Int), 0, v3, v4, v5, v6, v7, v8, v9)) none)
  (bnd (big_limited_k (!v3 == v5, v8)) fun r => some (r.fst, r.snd.fst, r.snd.snd))
theorem d0_cn {ι : Type} {E : Fil ι} {L1m1 : T1 → Option R} {L1m1' : ι → T1 → Option R} (hL1m1 : ∀ v, Cn E (L1m1 v) fun i => L1m1' i v) {big_limited_k : big_limited.A → Option big_limited.R} {big_limited_k' : ι → big_limited.A → Option big_limited.R} (hbig_limited_k : ∀ v, Cn E (big_limited_k v) fun i => big_limited_k' i v) : ∀ v : T0, Cn E (d0 L1m1 big_limited_k v) fun i => d0 (L1m1' i) (big_limited_k' i) v := fun (v0, v1, v2, v3, v4, v5, v6, v7, v8, v9) => (.br (.br (hL1m1 _) .none) (.bnd (hbig_limited_k _) fun _ => .some))
theorem l0_b ( k m1 : Nat) : ∀ v : T0, run (cs m1) (loopN cs m1) b5 (kLoop cs m1 b5 (K5 k)) (s0 v) = d0 (l1 k m1 m1) (big_limited.f k) v := fun (v0, v1, v2, v3, v4, v5, v6, v7, v8, v9) => by kernel_rfl
theorem D0_of (v : T0) {r : R} (h : d0 D1 big_limited.F v = some r) : D0 v = some r :=
  loop_of 1 (l := fun L => l0 (L 0) (L 1) v) (d := fun L => d0 (l1 (L 0) (L 1) (L 1)) (big_limited.f (L 0)) v) (fun L n hn => by show l0 (L 0) (L 1) v = _; rw [hn]; exact (held_eq _).trans ((loopN_succ _ _ _ _ _).trans (l0_b (L 0) n v))) (d0_cn (fun v => (D1_cn v).re [0, 1, 1]) (big_limited.F_cn 0) v) h
def d1 (L1m2 : T1 → Option R) (L0m1 : T0 → Option R) : T1 → Option R := fun (v0, v1, v2, v3, v4, v5, v6, v7, v8, v9, v10, v11, v12, v13, v14, v15) =>
br (decide (v8 < v7))
  (br (decide (0 ≤ v8 ∧ v8 < (↑v6.length : Int)))
    (br (decide (0 ≤ wrap IntKind.i64 (v0 + v8) ∧ wrap IntKind.i64 (v0 + v8) < (↑v14.length : Int)))
      (br (decide (0 ≤ wrap IntKind.i64 (v0 + v8) ∧ wrap IntKind.i64 (v0 + v8) < (↑v14.length : Int)))
        (br (decide ((0 : Int) ≤ 32))
          (L1m2
            (v0, v1,
              shr IntKind.u64
                (wrap IntKind.u64
                  (v2 + wrap IntKind.u64 (wrap IntKind.u64 (wrap IntKind.u64 v1 * wrap IntKind.u64 (rd (Ty.int IntKind.u32) v6 v8)) + wrap IntKind.u64 (rd (Ty.int IntKind.u32) v14 (wrap IntKind.i64 (v0 + v8))))))
                32,
              v3, v4, v5, v6, v7, wrap IntKind.i64 (v8 + 1), v9, v10, v11, v12, v13,
              v14.set (wrap IntKind.i64 (v0 + v8)).toNat
                (wrap IntKind.u32
                  (wrap IntKind.u64
                    (v2 + wrap IntKind.u64 (wrap IntKind.u64 (wrap IntKind.u64 v1 * wrap IntKind.u64 (rd (Ty.int IntKind.u32) v6 v8)) + wrap IntKind.u64 (rd (Ty.int IntKind.u32) v14 (wrap IntKind.i64 (v0 + v8))))))),
              v15))
          none)
        none)
      none)
    none)
  (br (decide (0 ≤ wrap IntKind.i64 (v0 + (↑v12.length : Int)) ∧ wrap IntKind.i64 (v0 + (↑v12.length : Int)) < (↑v14.length : Int)))
    (L0m1 (v3, v4, wrap IntKind.i64 (v5 + 1), v9, v10, v11, v12, v13, v14.set (wrap IntKind.i64 (v0 + (↑v12.length : Int))).toNat (wrap IntKind.u32 v2), v15)) none)
theorem d1_cn {ι : Type} {E : Fil ι} {L1m2 : T1 → Option R} {L1m2' : ι → T1 → Option R} (hL1m2 : ∀ v, Cn E (L1m2 v) fun i => L1m2' i v) {L0m1 : T0 → Option R} {L0m1' : ι → T0 → Option R} (hL0m1 : ∀ v, Cn E (L0m1 v) fun i => L0m1' i v) : ∀ v : T1, Cn E (d1 L1m2 L0m1 v) fun i => d1 (L1m2' i) (L0m1' i) v := fun (v0, v1, v2, v3, v4, v5, v6, v7, v8, v9, v10, v11, v12, v13, v14, v15) => (.br (.br (.br (.br (.br (hL1m2 _) .none) .none) .none) .none) (.br (hL0m1 _) .none))
theorem l1_b ( k m1 m2 : Nat) : ∀ v : T1, run (cs m2) (loopN cs m2) b9 (kLoop cs m2 b9 (K9 k m1)) (s1 v) = d1 (l1 k m1 m2) (l0 k m1) v := fun (v0, v1, v2, v3, v4, v5, v6, v7, v8, v9, v10, v11, v12, v13, v14, v15) => by kernel_rfl
theorem D1_of (v : T1) {r : R} (h : d1 D1 D0 v = some r) : D1 v = some r :=
  loop_of 2 (l := fun L => l1 (L 0) (L 1) (L 2) v) (d := fun L => d1 (l1 (L 0) (L 1) (L 2)) (l0 (L 0) (L 1)) v) (fun L n hn => by show l1 (L 0) (L 1) (L 2) v = _; rw [hn]; exact (held_eq _).trans ((loopN_succ _ _ _ _ _).trans (l1_b (L 0) (L 1) n v))) (d1_cn (fun v => (D1_cn v).re [0, 1, 2]) (fun v => (D0_cn v).re [0, 1]) v) h
noncomputable def f (k : Nat) : A → Option R := fun (v0, v1, v2, v3) => held (runFn cs k Tryz.f107 [(.agg [(.bool v0), (.frz (.int .u32) v1)]), (.agg [(.bool v2), (.frz (.int .u32) v3)])] [] dec)
noncomputable def F (v : A) : Option R := lim fun L => f (L 0) v
theorem F_cn (x : Nat) (v : A) : Cn late (F v) fun L => f (L x) v := of_lim.re [x]
def d (big_Bits_k : big_Bits.A → Option big_Bits.R) (L0k : T0 → Option R) : A → Option R := fun (v0, v1, v2, v3) =>
bnd (big_Bits_k (v0, v1)) fun r =>
  bnd (big_Bits_k (v2, v3)) fun r_1 =>
    br (decide (131073 < wrap IntKind.i64 (r + r_1))) (some (false, 2, []))
      (br
        (decide
          (0 ≤ wrap IntKind.i64 ((↑v1.length : Int) + (↑v3.length : Int)) ∧
            wrap IntKind.i64 ((↑v1.length : Int) + (↑v3.length : Int)) ≤ wrap IntKind.i64 ((↑v1.length : Int) + (↑v3.length : Int)) ∧
              wrap IntKind.i64 ((↑v1.length : Int) + (↑v3.length : Int)) ≤ (↑(140737488355328 / 4) : Int)))
        (L0k (v1, (↑v1.length : Int), 0, v0, v1, v2, v3, false, List.replicate (wrap IntKind.i64 ((↑v1.length : Int) + (↑v3.length : Int))).toNat (Ty.int IntKind.u32).dflt, [])) none)
theorem d_cn {ι : Type} {E : Fil ι} {big_Bits_k : big_Bits.A → Option big_Bits.R} {big_Bits_k' : ι → big_Bits.A → Option big_Bits.R} (hbig_Bits_k : ∀ v, Cn E (big_Bits_k v) fun i => big_Bits_k' i v) {L0k : T0 → Option R} {L0k' : ι → T0 → Option R} (hL0k : ∀ v, Cn E (L0k v) fun i => L0k' i v) : ∀ v : A, Cn E (d big_Bits_k L0k v) fun i => d (big_Bits_k' i) (L0k' i) v := fun (v0, v1, v2, v3) => (.bnd (hbig_Bits_k _) fun _ => (.bnd (hbig_Bits_k _) fun _ => (.br .some (.br (hL0k _) .none))))
theorem f_b (k : Nat) : ∀ v : A, f k v = d (big_Bits.f k) (l0 k k) v := fun (v0, v1, v2, v3) => (held_eq _).trans (by kernel_rfl)
theorem F_of (v : A) {r : R} (h : d big_Bits.F D0 v = some r) : F v = some r :=
  join_of (l := fun L => f (L 0) v) (d := fun L => d (big_Bits.f (L 0)) (l0 (L 0) (L 0)) v) (fun L => f_b (L 0) v) (d_cn (big_Bits.F_cn 0) (fun v => (D0_cn v).re [0, 0]) v) h
noncomputable def spec (k : Nat) (args : List AV) (ss : List Slot) : Option Ans :=
  match args, ss with
  | [(.agg [(.bool v0), (.frz (.int .u32) v1)]), (.agg [(.bool v2), (.frz (.int .u32) v3)])], [] => some ⟨R, f k (v0, v1, v2, v3), enc⟩
  | _, _ => none
theorem spec_ok (k : Nat) : SpecOk Tryz.prog 107 (spec k) := by
  intro args ss ans x h hx X σ w vals hp
  unfold spec at h
  split at h
  · cases h
    exact spec_of cs_ok Tryz.func107 rfl rfl dec_ok (held_eq _).symm hx hp
  · cases h
end big_Mul
noncomputable def t_big_Mul (k : Nat) := tcons 107 (big_Mul.spec k) (t_big_limited k)
theorem t_big_Mul_ok (n g : Nat) : SpecOk Tryz.prog g (t_big_Mul n g) := tcons_ok (big_Mul.spec_ok n) (fun g => t_big_limited_ok n g) g
namespace sphere_mul
abbrev R : Type := Bool × List Int
abbrev A : Type := Bool × List Int × Bool × List Int
def lv : List (Nat × List Nat) := [(2000000, [4])]
noncomputable def cs : Nat → Ctx := ctxOf tis modes t_big_Mul lv
theorem cs_ok (n : Nat) : CtxOk Tryz.prog (cs n) := ctxOf_ok rfl tis_ok t_big_Mul_ok n
def enc (r : R) : Out := ((.agg [(.bool r.1), (.sl 128000000)]), [(.row (.int .u32) r.2)])
def dec : Out → Option R
  | ((.agg [(.bool v0), (.sl 128000000)]), [(.row (.int .u32) v1)]) => some (v0, v1)
  | _ => none
theorem dec_ok : ∀ u y, dec u = some y → u = enc y := by
  intro u y h
  unfold dec at h
  split at h
  · cases h; rfl
  · cases h
noncomputable def b0 : Code := subF [] Tryz.f83
noncomputable def K0 (k : Nat) : Kt R := kTop (cs k) Tryz.f83 dec
noncomputable def f (k : Nat) : A → Option R := fun (v0, v1, v2, v3) => held (runFn cs k Tryz.f83 [(.agg [(.bool v0), (.frz (.int .u32) v1)]), (.agg [(.bool v2), (.frz (.int .u32) v3)])] [] dec)
noncomputable def F (v : A) : Option R := lim fun L => f (L 0) v
theorem F_cn (x : Nat) (v : A) : Cn late (F v) fun L => f (L x) v := of_lim.re [x]
def d (big_Mul_k : big_Mul.A → Option big_Mul.R) : A → Option R := fun (v0, v1, v2, v3) =>
bnd (big_Mul_k (v0, v1, v2, v3)) fun r => some (r.fst, r.snd.snd)
theorem d_cn {ι : Type} {E : Fil ι} {big_Mul_k : big_Mul.A → Option big_Mul.R} {big_Mul_k' : ι → big_Mul.A → Option big_Mul.R} (hbig_Mul_k : ∀ v, Cn E (big_Mul_k v) fun i => big_Mul_k' i v) : ∀ v : A, Cn E (d big_Mul_k v) fun i => d (big_Mul_k' i) v := fun (v0, v1, v2, v3) => (.bnd (hbig_Mul_k _) fun _ => .some)
theorem f_b (k : Nat) : ∀ v : A, f k v = d (big_Mul.f k) v := fun (v0, v1, v2, v3) => (held_eq _).trans (by kernel_rfl)
theorem F_of (v : A) {r : R} (h : d big_Mul.F v = some r) : F v = some r :=
  join_of (l := fun L => f (L 0) v) (d := fun L => d (big_Mul.f (L 0)) v) (fun L => f_b (L 0) v) (d_cn (big_Mul.F_cn 0) v) h
noncomputable def spec (k : Nat) (args : List AV) (ss : List Slot) : Option Ans :=
  match args, ss with
  | [(.agg [(.bool v0), (.frz (.int .u32) v1)]), (.agg [(.bool v2), (.frz (.int .u32) v3)])], [] => some ⟨R, f k (v0, v1, v2, v3), enc⟩
  | _, _ => none
theorem spec_ok (k : Nat) : SpecOk Tryz.prog 83 (spec k) := by
  intro args ss ans x h hx X σ w vals hp
  unfold spec at h
  split at h
  · cases h
    exact spec_of cs_ok Tryz.func83 rfl rfl dec_ok (held_eq _).symm hx hp
  · cases h
end sphere_mul
noncomputable def t_sphere_mul (k : Nat) := tcons 83 (sphere_mul.spec k) (t_big_Mul k)
theorem t_sphere_mul_ok (n g : Nat) : SpecOk Tryz.prog g (t_sphere_mul n g) := tcons_ok (sphere_mul.spec_ok n) (fun g => t_big_Mul_ok n g) g
namespace sphere_norms
abbrev R : Type := Bool × List Int
abbrev A : Type := Int × Int × Int × Int × Int × Int
def lv : List (Nat × List Nat) := [(2000000, [4])]
noncomputable def cs : Nat → Ctx := ctxOf tis modes t_sphere_mul lv
theorem cs_ok (n : Nat) : CtxOk Tryz.prog (cs n) := ctxOf_ok rfl tis_ok t_sphere_mul_ok n
def enc (r : R) : Out := ((.agg [(.bool r.1), (.sl 128000000)]), [(.row (.int .u32) r.2)])
def dec : Out → Option R
  | ((.agg [(.bool v0), (.sl 128000000)]), [(.row (.int .u32) v1)]) => some (v0, v1)
  | _ => none
theorem dec_ok : ∀ u y, dec u = some y → u = enc y := by
  intro u y h
  unfold dec at h
  split at h
  · cases h; rfl
  · cases h
noncomputable def b0 : Code := subF [] Tryz.f82
noncomputable def K0 (k : Nat) : Kt R := kTop (cs k) Tryz.f82 dec
noncomputable def f (k : Nat) : A → Option R := fun (v0, v1, v2, v3, v4, v5) => held (runFn cs k Tryz.f82 [(.agg [(.int .i64 v0), (.int .i64 v1), (.int .i64 v2)]), (.agg [(.int .i64 v3), (.int .i64 v4), (.int .i64 v5)])] [] dec)
noncomputable def F (v : A) : Option R := lim fun L => f (L 0) v
theorem F_cn (x : Nat) (v : A) : Cn late (F v) fun L => f (L x) v := of_lim.re [x]
def d (sphere_dot_k : sphere_dot.A → Option sphere_dot.R) (big_Of_k : big_Of.A → Option big_Of.R) (sphere_mul_k : sphere_mul.A → Option sphere_mul.R) : A → Option R := fun (v0, v1, v2, v3, v4, v5) =>
bnd (sphere_dot_k (v0, v1, v2, v0, v1, v2)) fun r =>
  bnd (big_Of_k r) fun r => bnd (sphere_dot_k (v3, v4, v5, v3, v4, v5)) fun r_1 => bnd (big_Of_k r_1) fun r_2 => bnd (sphere_mul_k (r.fst, r.snd, r_2.fst, r_2.snd)) fun r => some (r.fst, r.snd)
theorem d_cn {ι : Type} {E : Fil ι} {sphere_dot_k : sphere_dot.A → Option sphere_dot.R} {sphere_dot_k' : ι → sphere_dot.A → Option sphere_dot.R} (hsphere_dot_k : ∀ v, Cn E (sphere_dot_k v) fun i => sphere_dot_k' i v) {big_Of_k : big_Of.A → Option big_Of.R} {big_Of_k' : ι → big_Of.A → Option big_Of.R} (hbig_Of_k : ∀ v, Cn E (big_Of_k v) fun i => big_Of_k' i v) {sphere_mul_k : sphere_mul.A → Option sphere_mul.R} {sphere_mul_k' : ι → sphere_mul.A → Option sphere_mul.R} (hsphere_mul_k : ∀ v, Cn E (sphere_mul_k v) fun i => sphere_mul_k' i v) : ∀ v : A, Cn E (d sphere_dot_k big_Of_k sphere_mul_k v) fun i => d (sphere_dot_k' i) (big_Of_k' i) (sphere_mul_k' i) v := fun (v0, v1, v2, v3, v4, v5) => (.bnd (hsphere_dot_k _) fun _ => (.bnd (hbig_Of_k _) fun _ => (.bnd (hsphere_dot_k _) fun _ => (.bnd (hbig_Of_k _) fun _ => (.bnd (hsphere_mul_k _) fun _ => .some)))))
theorem f_b (k : Nat) : ∀ v : A, f k v = d (sphere_dot.f k) (big_Of.f k) (sphere_mul.f k) v := fun (v0, v1, v2, v3, v4, v5) => (held_eq _).trans (by kernel_rfl)
theorem F_of (v : A) {r : R} (h : d sphere_dot.F big_Of.F sphere_mul.F v = some r) : F v = some r :=
  join_of (l := fun L => f (L 0) v) (d := fun L => d (sphere_dot.f (L 0)) (big_Of.f (L 0)) (sphere_mul.f (L 0)) v) (fun L => f_b (L 0) v) (d_cn (sphere_dot.F_cn 0) (big_Of.F_cn 0) (sphere_mul.F_cn 0) v) h
noncomputable def spec (k : Nat) (args : List AV) (ss : List Slot) : Option Ans :=
  match args, ss with
  | [(.agg [(.int .i64 v0), (.int .i64 v1), (.int .i64 v2)]), (.agg [(.int .i64 v3), (.int .i64 v4), (.int .i64 v5)])], [] => some ⟨R, f k (v0, v1, v2, v3, v4, v5), enc⟩
  | _, _ => none
theorem spec_ok (k : Nat) : SpecOk Tryz.prog 82 (spec k) := by
  intro args ss ans x h hx X σ w vals hp
  unfold spec at h
  split at h
  · cases h
    exact spec_of cs_ok Tryz.func82 rfl rfl dec_ok (held_eq _).symm hx hp
  · cases h
end sphere_norms
noncomputable def t_sphere_norms (k : Nat) := tcons 82 (sphere_norms.spec k) (t_sphere_mul k)
theorem t_sphere_norms_ok (n g : Nat) : SpecOk Tryz.prog g (t_sphere_norms n g) := tcons_ok (sphere_norms.spec_ok n) (fun g => t_sphere_mul_ok n g) g
namespace sphere_square
abbrev R : Type := Bool × List Int
abbrev A : Type := Int
def lv : List (Nat × List Nat) := [(2000000, [2])]
noncomputable def cs : Nat → Ctx := ctxOf tis modes t_sphere_norms lv
theorem cs_ok (n : Nat) : CtxOk Tryz.prog (cs n) := ctxOf_ok rfl tis_ok t_sphere_norms_ok n
def enc (r : R) : Out := ((.agg [(.bool r.1), (.sl 128000000)]), [(.row (.int .u32) r.2)])
def dec : Out → Option R
  | ((.agg [(.bool v0), (.sl 128000000)]), [(.row (.int .u32) v1)]) => some (v0, v1)
  | _ => none
theorem dec_ok : ∀ u y, dec u = some y → u = enc y := by
  intro u y h
  unfold dec at h
  split at h
  · cases h; rfl
  · cases h
noncomputable def b0 : Code := subF [] Tryz.f84
noncomputable def K0 (k : Nat) : Kt R := kTop (cs k) Tryz.f84 dec
noncomputable def f (k : Nat) : A → Option R := fun v0 => held (runFn cs k Tryz.f84 [(.c (.int .i64 v0))] [] dec)
noncomputable def F (v : A) : Option R := lim fun L => f (L 0) v
theorem F_cn (x : Nat) (v : A) : Cn late (F v) fun L => f (L x) v := of_lim.re [x]
def d (big_Of_k : big_Of.A → Option big_Of.R) (sphere_mul_k : sphere_mul.A → Option sphere_mul.R) : A → Option R := fun v0 =>
bnd (big_Of_k v0) fun r => bnd (big_Of_k v0) fun r_1 => bnd (sphere_mul_k (r.fst, r.snd, r_1.fst, r_1.snd)) fun r => some (r.fst, r.snd)
theorem d_cn {ι : Type} {E : Fil ι} {big_Of_k : big_Of.A → Option big_Of.R} {big_Of_k' : ι → big_Of.A → Option big_Of.R} (hbig_Of_k : ∀ v, Cn E (big_Of_k v) fun i => big_Of_k' i v) {sphere_mul_k : sphere_mul.A → Option sphere_mul.R} {sphere_mul_k' : ι → sphere_mul.A → Option sphere_mul.R} (hsphere_mul_k : ∀ v, Cn E (sphere_mul_k v) fun i => sphere_mul_k' i v) : ∀ v : A, Cn E (d big_Of_k sphere_mul_k v) fun i => d (big_Of_k' i) (sphere_mul_k' i) v := fun v0 => (.bnd (hbig_Of_k _) fun _ => (.bnd (hbig_Of_k _) fun _ => (.bnd (hsphere_mul_k _) fun _ => .some)))
theorem f_b (k : Nat) : ∀ v : A, f k v = d (big_Of.f k) (sphere_mul.f k) v := fun v0 => (held_eq _).trans (by kernel_rfl)
theorem F_of (v : A) {r : R} (h : d big_Of.F sphere_mul.F v = some r) : F v = some r :=
  join_of (l := fun L => f (L 0) v) (d := fun L => d (big_Of.f (L 0)) (sphere_mul.f (L 0)) v) (fun L => f_b (L 0) v) (d_cn (big_Of.F_cn 0) (sphere_mul.F_cn 0) v) h
noncomputable def spec (k : Nat) (args : List AV) (ss : List Slot) : Option Ans :=
  match args, ss with
  | [(.c (.int .i64 v0))], [] => some ⟨R, f k v0, enc⟩
  | _, _ => none
theorem spec_ok (k : Nat) : SpecOk Tryz.prog 84 (spec k) := by
  intro args ss ans x h hx X σ w vals hp
  unfold spec at h
  split at h
  · cases h
    exact spec_of cs_ok Tryz.func84 rfl rfl dec_ok (held_eq _).symm hx hp
  · cases h
end sphere_square
noncomputable def t_sphere_square (k : Nat) := tcons 84 (sphere_square.spec k) (t_sphere_norms k)
theorem t_sphere_square_ok (n g : Nat) : SpecOk Tryz.prog g (t_sphere_square n g) := tcons_ok (sphere_square.spec_ok n) (fun g => t_sphere_norms_ok n g) g
namespace big_Sign
abbrev R : Type := Int
abbrev A : Type := Bool × List Int
def lv : List (Nat × List Nat) := [(2000000, [2])]
noncomputable def cs : Nat → Ctx := ctxOf tis modes t_sphere_square lv
theorem cs_ok (n : Nat) : CtxOk Tryz.prog (cs n) := ctxOf_ok rfl tis_ok t_sphere_square_ok n
def enc (r : R) : Out := ((.c (.int .i64 r)), [])
def dec : Out → Option R
  | ((.c (.int .i64 v0)), []) => some v0
  | _ => none
theorem dec_ok : ∀ u y, dec u = some y → u = enc y := by
  intro u y h
  unfold dec at h
  split at h
  · cases h; rfl
  · cases h
noncomputable def b0 : Code := subF [] Tryz.f109
noncomputable def K0 (k : Nat) : Kt R := kTop (cs k) Tryz.f109 dec
noncomputable def f (k : Nat) : A → Option R := fun (v0, v1) => held (runFn cs k Tryz.f109 [(.agg [(.bool v0), (.frz (.int .u32) v1)])] [] dec)
noncomputable def F (v : A) : Option R := lim fun L => f (L 0) v
theorem F_cn (x : Nat) (v : A) : Cn late (F v) fun L => f (L x) v := of_lim.re [x]
def d : A → Option R := fun (v0, v1) =>
br v0 (some (-1)) (br (decide (0 < (↑v1.length : Int))) (some 1) (some 0))
theorem d_cn {ι : Type} {E : Fil ι} : ∀ v : A, Cn E (d v) fun i => d v := fun (v0, v1) => (.br .some (.br .some .some))
theorem f_b (k : Nat) : ∀ v : A, f k v = d v := fun (v0, v1) => (held_eq _).trans (by kernel_rfl)
theorem F_of (v : A) {r : R} (h : d v = some r) : F v = some r :=
  join_of (l := fun L => f (L 0) v) (d := fun L => d v) (fun L => f_b (L 0) v) (d_cn v) h
noncomputable def spec (k : Nat) (args : List AV) (ss : List Slot) : Option Ans :=
  match args, ss with
  | [(.agg [(.bool v0), (.frz (.int .u32) v1)])], [] => some ⟨R, f k (v0, v1), enc⟩
  | _, _ => none
theorem spec_ok (k : Nat) : SpecOk Tryz.prog 109 (spec k) := by
  intro args ss ans x h hx X σ w vals hp
  unfold spec at h
  split at h
  · cases h
    exact spec_of cs_ok Tryz.func109 rfl rfl dec_ok (held_eq _).symm hx hp
  · cases h
end big_Sign
noncomputable def t_big_Sign (k : Nat) := tcons 109 (big_Sign.spec k) (t_sphere_square k)
theorem t_big_Sign_ok (n g : Nat) : SpecOk Tryz.prog g (t_big_Sign n g) := tcons_ok (big_Sign.spec_ok n) (fun g => t_sphere_square_ok n g) g
namespace cmp_isNaN_int
abbrev R : Type := Bool
abbrev A : Type := Int
def lv : List (Nat × List Nat) := [(2000000, [2])]
noncomputable def cs : Nat → Ctx := ctxOf tis modes t_big_Sign lv
theorem cs_ok (n : Nat) : CtxOk Tryz.prog (cs n) := ctxOf_ok rfl tis_ok t_big_Sign_ok n
def enc (r : R) : Out := ((.c (.bool r)), [])
def dec : Out → Option R
  | ((.c (.bool v0)), []) => some v0
  | _ => none
theorem dec_ok : ∀ u y, dec u = some y → u = enc y := by
  intro u y h
  unfold dec at h
  split at h
  · cases h; rfl
  · cases h
noncomputable def b0 : Code := subF [] Tryz.f123
noncomputable def K0 (k : Nat) : Kt R := kTop (cs k) Tryz.f123 dec
noncomputable def f (k : Nat) : A → Option R := fun v0 => held (runFn cs k Tryz.f123 [(.c (.int .i64 v0))] [] dec)
noncomputable def F (v : A) : Option R := lim fun L => f (L 0) v
theorem F_cn (x : Nat) (v : A) : Cn late (F v) fun L => f (L x) v := of_lim.re [x]
def d : A → Option R := fun v0 =>
some !decide (v0 = v0)
theorem d_cn {ι : Type} {E : Fil ι} : ∀ v : A, Cn E (d v) fun i => d v := fun v0 => .some
theorem f_b (k : Nat) : ∀ v : A, f k v = d v := fun v0 => (held_eq _).trans (by kernel_rfl)
theorem F_of (v : A) {r : R} (h : d v = some r) : F v = some r :=
  join_of (l := fun L => f (L 0) v) (d := fun L => d v) (fun L => f_b (L 0) v) (d_cn v) h
noncomputable def spec (k : Nat) (args : List AV) (ss : List Slot) : Option Ans :=
  match args, ss with
  | [(.c (.int .i64 v0))], [] => some ⟨R, f k v0, enc⟩
  | _, _ => none
theorem spec_ok (k : Nat) : SpecOk Tryz.prog 123 (spec k) := by
  intro args ss ans x h hx X σ w vals hp
  unfold spec at h
  split at h
  · cases h
    exact spec_of cs_ok Tryz.func123 rfl rfl dec_ok (held_eq _).symm hx hp
  · cases h
end cmp_isNaN_int
noncomputable def t_cmp_isNaN_int (k : Nat) := tcons 123 (cmp_isNaN_int.spec k) (t_big_Sign k)
theorem t_cmp_isNaN_int_ok (n g : Nat) : SpecOk Tryz.prog g (t_cmp_isNaN_int n g) := tcons_ok (cmp_isNaN_int.spec_ok n) (fun g => t_big_Sign_ok n g) g
namespace cmp_Compare_int
abbrev R : Type := Int
abbrev A : Type := Int × Int
def lv : List (Nat × List Nat) := [(2000000, [4])]
noncomputable def cs : Nat → Ctx := ctxOf tis modes t_cmp_isNaN_int lv
theorem cs_ok (n : Nat) : CtxOk Tryz.prog (cs n) := ctxOf_ok rfl tis_ok t_cmp_isNaN_int_ok n
def enc (r : R) : Out := ((.c (.int .i64 r)), [])
def dec : Out → Option R
  | ((.c (.int .i64 v0)), []) => some v0
  | _ => none
theorem dec_ok : ∀ u y, dec u = some y → u = enc y := by
  intro u y h
  unfold dec at h
  split at h
  · cases h; rfl
  · cases h
noncomputable def b0 : Code := subF [] Tryz.f108
noncomputable def K0 (k : Nat) : Kt R := kTop (cs k) Tryz.f108 dec
noncomputable def f (k : Nat) : A → Option R := fun (v0, v1) => held (runFn cs k Tryz.f108 [(.c (.int .i64 v0)), (.c (.int .i64 v1))] [] dec)
noncomputable def F (v : A) : Option R := lim fun L => f (L 0) v
theorem F_cn (x : Nat) (v : A) : Cn late (F v) fun L => f (L x) v := of_lim.re [x]
def d (cmp_isNaN_int_k : cmp_isNaN_int.A → Option cmp_isNaN_int.R) : A → Option R := fun (v0, v1) =>
bnd (cmp_isNaN_int_k v0) fun r => bnd (cmp_isNaN_int_k v1) fun r_1 => br r (br r_1 (some 0) (some (-1))) (br r_1 (some 1) (br (decide (v0 < v1)) (some (-1)) (br (decide (v1 < v0)) (some 1) (some 0))))
theorem d_cn {ι : Type} {E : Fil ι} {cmp_isNaN_int_k : cmp_isNaN_int.A → Option cmp_isNaN_int.R} {cmp_isNaN_int_k' : ι → cmp_isNaN_int.A → Option cmp_isNaN_int.R} (hcmp_isNaN_int_k : ∀ v, Cn E (cmp_isNaN_int_k v) fun i => cmp_isNaN_int_k' i v) : ∀ v : A, Cn E (d cmp_isNaN_int_k v) fun i => d (cmp_isNaN_int_k' i) v := fun (v0, v1) => (.bnd (hcmp_isNaN_int_k _) fun _ => (.bnd (hcmp_isNaN_int_k _) fun _ => (.br (.br .some .some) (.br .some (.br .some (.br .some .some))))))
theorem f_b (k : Nat) : ∀ v : A, f k v = d (cmp_isNaN_int.f k) v := fun (v0, v1) => (held_eq _).trans (by kernel_rfl)
theorem F_of (v : A) {r : R} (h : d cmp_isNaN_int.F v = some r) : F v = some r :=
  join_of (l := fun L => f (L 0) v) (d := fun L => d (cmp_isNaN_int.f (L 0)) v) (fun L => f_b (L 0) v) (d_cn (cmp_isNaN_int.F_cn 0) v) h
noncomputable def spec (k : Nat) (args : List AV) (ss : List Slot) : Option Ans :=
  match args, ss with
  | [(.c (.int .i64 v0)), (.c (.int .i64 v1))], [] => some ⟨R, f k (v0, v1), enc⟩
  | _, _ => none
theorem spec_ok (k : Nat) : SpecOk Tryz.prog 108 (spec k) := by
  intro args ss ans x h hx X σ w vals hp
  unfold spec at h
  split at h
  · cases h
    exact spec_of cs_ok Tryz.func108 rfl rfl dec_ok (held_eq _).symm hx hp
  · cases h
end cmp_Compare_int
noncomputable def t_cmp_Compare_int (k : Nat) := tcons 108 (cmp_Compare_int.spec k) (t_cmp_isNaN_int k)
theorem t_cmp_Compare_int_ok (n g : Nat) : SpecOk Tryz.prog g (t_cmp_Compare_int n g) := tcons_ok (cmp_Compare_int.spec_ok n) (fun g => t_cmp_isNaN_int_ok n g) g
namespace cmp_isNaN_uint32
abbrev R : Type := Bool
abbrev A : Type := Int
def lv : List (Nat × List Nat) := [(2000000, [2])]
noncomputable def cs : Nat → Ctx := ctxOf tis modes t_cmp_Compare_int lv
theorem cs_ok (n : Nat) : CtxOk Tryz.prog (cs n) := ctxOf_ok rfl tis_ok t_cmp_Compare_int_ok n
def enc (r : R) : Out := ((.c (.bool r)), [])
def dec : Out → Option R
  | ((.c (.bool v0)), []) => some v0
  | _ => none
theorem dec_ok : ∀ u y, dec u = some y → u = enc y := by
  intro u y h
  unfold dec at h
  split at h
  · cases h; rfl
  · cases h
noncomputable def b0 : Code := subF [] Tryz.f128
noncomputable def K0 (k : Nat) : Kt R := kTop (cs k) Tryz.f128 dec
noncomputable def f (k : Nat) : A → Option R := fun v0 => held (runFn cs k Tryz.f128 [(.c (.int .u32 v0))] [] dec)
noncomputable def F (v : A) : Option R := lim fun L => f (L 0) v
theorem F_cn (x : Nat) (v : A) : Cn late (F v) fun L => f (L x) v := of_lim.re [x]
def d : A → Option R := fun v0 =>
some !decide (v0 = v0)
theorem d_cn {ι : Type} {E : Fil ι} : ∀ v : A, Cn E (d v) fun i => d v := fun v0 => .some
theorem f_b (k : Nat) : ∀ v : A, f k v = d v := fun v0 => (held_eq _).trans (by kernel_rfl)
theorem F_of (v : A) {r : R} (h : d v = some r) : F v = some r :=
  join_of (l := fun L => f (L 0) v) (d := fun L => d v) (fun L => f_b (L 0) v) (d_cn v) h
noncomputable def spec (k : Nat) (args : List AV) (ss : List Slot) : Option Ans :=
  match args, ss with
  | [(.c (.int .u32 v0))], [] => some ⟨R, f k v0, enc⟩
  | _, _ => none
theorem spec_ok (k : Nat) : SpecOk Tryz.prog 128 (spec k) := by
  intro args ss ans x h hx X σ w vals hp
  unfold spec at h
  split at h
  · cases h
    exact spec_of cs_ok Tryz.func128 rfl rfl dec_ok (held_eq _).symm hx hp
  · cases h
end cmp_isNaN_uint32
noncomputable def t_cmp_isNaN_uint32 (k : Nat) := tcons 128 (cmp_isNaN_uint32.spec k) (t_cmp_Compare_int k)
theorem t_cmp_isNaN_uint32_ok (n g : Nat) : SpecOk Tryz.prog g (t_cmp_isNaN_uint32 n g) := tcons_ok (cmp_isNaN_uint32.spec_ok n) (fun g => t_cmp_Compare_int_ok n g) g
namespace cmp_Compare_uint32
abbrev R : Type := Int
abbrev A : Type := Int × Int
def lv : List (Nat × List Nat) := [(2000000, [4])]
noncomputable def cs : Nat → Ctx := ctxOf tis modes t_cmp_isNaN_uint32 lv
theorem cs_ok (n : Nat) : CtxOk Tryz.prog (cs n) := ctxOf_ok rfl tis_ok t_cmp_isNaN_uint32_ok n
def enc (r : R) : Out := ((.c (.int .i64 r)), [])
def dec : Out → Option R
  | ((.c (.int .i64 v0)), []) => some v0
  | _ => none
theorem dec_ok : ∀ u y, dec u = some y → u = enc y := by
  intro u y h
  unfold dec at h
  split at h
  · cases h; rfl
  · cases h
noncomputable def b0 : Code := subF [] Tryz.f124
noncomputable def K0 (k : Nat) : Kt R := kTop (cs k) Tryz.f124 dec
noncomputable def f (k : Nat) : A → Option R := fun (v0, v1) => held (runFn cs k Tryz.f124 [(.c (.int .u32 v0)), (.c (.int .u32 v1))] [] dec)
noncomputable def F (v : A) : Option R := lim fun L => f (L 0) v
theorem F_cn (x : Nat) (v : A) : Cn late (F v) fun L => f (L x) v := of_lim.re [x]
def d (cmp_isNaN_uint32_k : cmp_isNaN_uint32.A → Option cmp_isNaN_uint32.R) : A → Option R := fun (v0, v1) =>
bnd (cmp_isNaN_uint32_k v0) fun r => bnd (cmp_isNaN_uint32_k v1) fun r_1 => br r (br r_1 (some 0) (some (-1))) (br r_1 (some 1) (br (decide (v0 < v1)) (some (-1)) (br (decide (v1 < v0)) (some 1) (some 0))))
theorem d_cn {ι : Type} {E : Fil ι} {cmp_isNaN_uint32_k : cmp_isNaN_uint32.A → Option cmp_isNaN_uint32.R} {cmp_isNaN_uint32_k' : ι → cmp_isNaN_uint32.A → Option cmp_isNaN_uint32.R} (hcmp_isNaN_uint32_k : ∀ v, Cn E (cmp_isNaN_uint32_k v) fun i => cmp_isNaN_uint32_k' i v) : ∀ v : A, Cn E (d cmp_isNaN_uint32_k v) fun i => d (cmp_isNaN_uint32_k' i) v := fun (v0, v1) => (.bnd (hcmp_isNaN_uint32_k _) fun _ => (.bnd (hcmp_isNaN_uint32_k _) fun _ => (.br (.br .some .some) (.br .some (.br .some (.br .some .some))))))
theorem f_b (k : Nat) : ∀ v : A, f k v = d (cmp_isNaN_uint32.f k) v := fun (v0, v1) => (held_eq _).trans (by kernel_rfl)
theorem F_of (v : A) {r : R} (h : d cmp_isNaN_uint32.F v = some r) : F v = some r :=
  join_of (l := fun L => f (L 0) v) (d := fun L => d (cmp_isNaN_uint32.f (L 0)) v) (fun L => f_b (L 0) v) (d_cn (cmp_isNaN_uint32.F_cn 0) v) h
noncomputable def spec (k : Nat) (args : List AV) (ss : List Slot) : Option Ans :=
  match args, ss with
  | [(.c (.int .u32 v0)), (.c (.int .u32 v1))], [] => some ⟨R, f k (v0, v1), enc⟩
  | _, _ => none
theorem spec_ok (k : Nat) : SpecOk Tryz.prog 124 (spec k) := by
  intro args ss ans x h hx X σ w vals hp
  unfold spec at h
  split at h
  · cases h
    exact spec_of cs_ok Tryz.func124 rfl rfl dec_ok (held_eq _).symm hx hp
  · cases h
end cmp_Compare_uint32
noncomputable def t_cmp_Compare_uint32 (k : Nat) := tcons 124 (cmp_Compare_uint32.spec k) (t_cmp_isNaN_uint32 k)
theorem t_cmp_Compare_uint32_ok (n g : Nat) : SpecOk Tryz.prog g (t_cmp_Compare_uint32 n g) := tcons_ok (cmp_Compare_uint32.spec_ok n) (fun g => t_cmp_isNaN_uint32_ok n g) g
namespace big_cmpMag
abbrev R : Type := Int
abbrev A : Type := List Int × List Int
def lv : List (Nat × List Nat) := [(2000000, [4]), (4, [0, 1, 5])]
noncomputable def cs : Nat → Ctx := ctxOf tis modes t_cmp_Compare_uint32 lv
theorem cs_ok (n : Nat) : CtxOk Tryz.prog (cs n) := ctxOf_ok rfl tis_ok t_cmp_Compare_uint32_ok n
def enc (r : R) : Out := ((.c (.int .i64 r)), [])
def dec : Out → Option R
  | ((.c (.int .i64 v0)), []) => some v0
  | _ => none
theorem dec_ok : ∀ u y, dec u = some y → u = enc y := by
  intro u y h
  unfold dec at h
  split at h
  · cases h; rfl
  · cases h
noncomputable def b0 : Code := subF [] Tryz.f110
noncomputable def K0 (k : Nat) : Kt R := kTop (cs k) Tryz.f110 dec
noncomputable def b4 : Code := sub [1, 1, 0, 1, 0, 0] b0
noncomputable def K4 ( k : Nat) : Kt R := kAt (cs k) (loopN cs k) [1, 1, 0, 1, 0] b0 (K0 k)
abbrev T0 : Type := List Int × List Int × Int
def s0 : T0 → St := fun (v0, v1, v2) => ⟨41, 0, [(0, (.c (.frz (.int .u32) v0))), (1, (.c (.frz (.int .u32) v1))), (5, (.c (.int .i64 v2)))], [], [(256000000, .gone)]⟩
noncomputable def l0 ( k n : Nat) (v : T0) : Option R := held (loopN cs n b4 (K4 k) (s0 v))
noncomputable def D0 (v : T0) : Option R := lim fun L => l0 (L 0) (L 1) v
theorem D0_cn (v : T0) : Cn late (D0 v) fun L => l0 (L 0) (L 1) v := of_lim
def d0 (cmp_Compare_uint32_m1 : cmp_Compare_uint32.A → Option cmp_Compare_uint32.R) (L0m1 : T0 → Option R) : T0 → Option R := fun (v0, v1, v2) =>
br (decide (0 ≤ v2))
  (br (decide (0 ≤ v2 ∧ v2 < (↑v0.length : Int)))
    (br (decide (0 ≤ v2 ∧ v2 < (↑v1.length : Int)))
      (br (!decide (rd (Ty.int IntKind.u32) v0 v2 = rd (Ty.int IntKind.u32) v1 v2))
        (br (decide (0 ≤ v2 ∧ v2 < (↑v0.length : Int))) (br (decide (0 ≤ v2 ∧ v2 < (↑v1.length : Int))) (bnd (cmp_Compare_uint32_m1 (rd (Ty.int IntKind.u32) v0 v2, rd (Ty.int IntKind.u32) v1 v2)) fun r => some r) none)
          none)
        (L0m1 (v0, v1, wrap IntKind.i64 (v2 - 1))))
      none)
    none)
  (some 0)
theorem d0_cn {ι : Type} {E : Fil ι} {cmp_Compare_uint32_m1 : cmp_Compare_uint32.A → Option cmp_Compare_uint32.R} {cmp_Compare_uint32_m1' : ι → cmp_Compare_uint32.A → Option cmp_Compare_uint32.R} (hcmp_Compare_uint32_m1 : ∀ v, Cn E (cmp_Compare_uint32_m1 v) fun i => cmp_Compare_uint32_m1' i v) {L0m1 : T0 → Option R} {L0m1' : ι → T0 → Option R} (hL0m1 : ∀ v, Cn E (L0m1 v) fun i => L0m1' i v) : ∀ v : T0, Cn E (d0 cmp_Compare_uint32_m1 L0m1 v) fun i => d0 (cmp_Compare_uint32_m1' i) (L0m1' i) v := fun (v0, v1, v2) => (.br (.br (.br (.br (.br (.br (.bnd (hcmp_Compare_uint32_m1 _) fun _ => .some) .none) .none) (hL0m1 _)) .none) .none) .some)
theorem l0_b ( k m1 : Nat) : ∀ v : T0, run (cs m1) (loopN cs m1) b4 (kLoop cs m1 b4 (K4 k)) (s0 v) = d0 (cmp_Compare_uint32.f m1) (l0 k m1) v := fun (v0, v1, v2) => by kernel_rfl
theorem D0_of (v : T0) {r : R} (h : d0 cmp_Compare_uint32.F D0 v = some r) : D0 v = some r :=
  loop_of 1 (l := fun L => l0 (L 0) (L 1) v) (d := fun L => d0 (cmp_Compare_uint32.f (L 1)) (l0 (L 0) (L 1)) v) (fun L n hn => by show l0 (L 0) (L 1) v = _; rw [hn]; exact (held_eq _).trans ((loopN_succ _ _ _ _ _).trans (l0_b (L 0) n v))) (d0_cn (cmp_Compare_uint32.F_cn 1) (fun v => (D0_cn v).re [0, 1]) v) h
noncomputable def f (k : Nat) : A → Option R := fun (v0, v1) => held (runFn cs k Tryz.f110 [(.c (.frz (.int .u32) v0)), (.c (.frz (.int .u32) v1))] [] dec)
noncomputable def F (v : A) : Option R := lim fun L => f (L 0) v
theorem F_cn (x : Nat) (v : A) : Cn late (F v) fun L => f (L x) v := of_lim.re [x]
def d (cmp_Compare_int_k : cmp_Compare_int.A → Option cmp_Compare_int.R) (L0k : T0 → Option R) : A → Option R := fun (v0, v1) =>
br (!decide ((↑v0.length : Int) = (↑v1.length : Int))) (bnd (cmp_Compare_int_k ((↑v0.length : Int), (↑v1.length : Int))) fun r => some r) (L0k (v0, v1, wrap IntKind.i64 ((↑v0.length : Int) - 1)))
theorem d_cn {ι : Type} {E : Fil ι} {cmp_Compare_int_k : cmp_Compare_int.A → Option cmp_Compare_int.R} {cmp_Compare_int_k' : ι → cmp_Compare_int.A → Option cmp_Compare_int.R} (hcmp_Compare_int_k : ∀ v, Cn E (cmp_Compare_int_k v) fun i => cmp_Compare_int_k' i v) {L0k : T0 → Option R} {L0k' : ι → T0 → Option R} (hL0k : ∀ v, Cn E (L0k v) fun i => L0k' i v) : ∀ v : A, Cn E (d cmp_Compare_int_k L0k v) fun i => d (cmp_Compare_int_k' i) (L0k' i) v := fun (v0, v1) => (.br (.bnd (hcmp_Compare_int_k _) fun _ => .some) (hL0k _))
theorem f_b (k : Nat) : ∀ v : A, f k v = d (cmp_Compare_int.f k) (l0 k k) v := fun (v0, v1) => (held_eq _).trans (by kernel_rfl)
theorem F_of (v : A) {r : R} (h : d cmp_Compare_int.F D0 v = some r) : F v = some r :=
  join_of (l := fun L => f (L 0) v) (d := fun L => d (cmp_Compare_int.f (L 0)) (l0 (L 0) (L 0)) v) (fun L => f_b (L 0) v) (d_cn (cmp_Compare_int.F_cn 0) (fun v => (D0_cn v).re [0, 0]) v) h
noncomputable def spec (k : Nat) (args : List AV) (ss : List Slot) : Option Ans :=
  match args, ss with
  | [(.c (.frz (.int .u32) v0)), (.c (.frz (.int .u32) v1))], [] => some ⟨R, f k (v0, v1), enc⟩
  | _, _ => none
theorem spec_ok (k : Nat) : SpecOk Tryz.prog 110 (spec k) := by
  intro args ss ans x h hx X σ w vals hp
  unfold spec at h
  split at h
  · cases h
    exact spec_of cs_ok Tryz.func110 rfl rfl dec_ok (held_eq _).symm hx hp
  · cases h
end big_cmpMag
noncomputable def t_big_cmpMag (k : Nat) := tcons 110 (big_cmpMag.spec k) (t_cmp_Compare_uint32 k)
theorem t_big_cmpMag_ok (n g : Nat) : SpecOk Tryz.prog g (t_big_cmpMag n g) := tcons_ok (big_cmpMag.spec_ok n) (fun g => t_cmp_Compare_uint32_ok n g) g
namespace big_Cmp
abbrev R : Type := Int
abbrev A : Type := Bool × List Int × Bool × List Int
def lv : List (Nat × List Nat) := [(2000000, [4])]
noncomputable def cs : Nat → Ctx := ctxOf tis modes t_big_cmpMag lv
theorem cs_ok (n : Nat) : CtxOk Tryz.prog (cs n) := ctxOf_ok rfl tis_ok t_big_cmpMag_ok n
def enc (r : R) : Out := ((.c (.int .i64 r)), [])
def dec : Out → Option R
  | ((.c (.int .i64 v0)), []) => some v0
  | _ => none
theorem dec_ok : ∀ u y, dec u = some y → u = enc y := by
  intro u y h
  unfold dec at h
  split at h
  · cases h; rfl
  · cases h
noncomputable def b0 : Code := subF [] Tryz.f85
noncomputable def K0 (k : Nat) : Kt R := kTop (cs k) Tryz.f85 dec
noncomputable def f (k : Nat) : A → Option R := fun (v0, v1, v2, v3) => held (runFn cs k Tryz.f85 [(.agg [(.bool v0), (.frz (.int .u32) v1)]), (.agg [(.bool v2), (.frz (.int .u32) v3)])] [] dec)
noncomputable def F (v : A) : Option R := lim fun L => f (L 0) v
theorem F_cn (x : Nat) (v : A) : Cn late (F v) fun L => f (L x) v := of_lim.re [x]
def d (big_Sign_k : big_Sign.A → Option big_Sign.R) (cmp_Compare_int_k : cmp_Compare_int.A → Option cmp_Compare_int.R) (big_cmpMag_k : big_cmpMag.A → Option big_cmpMag.R) : A → Option R := fun (v0, v1, v2, v3) =>
br (!v0 == v2) (bnd (big_Sign_k (v0, v1)) fun r => bnd (big_Sign_k (v2, v3)) fun r_1 => bnd (cmp_Compare_int_k (r, r_1)) fun r => some r)
  (br v0 (bnd (big_cmpMag_k (v3, v1)) fun r => some r) (bnd (big_cmpMag_k (v1, v3)) fun r => some r))
theorem d_cn {ι : Type} {E : Fil ι} {big_Sign_k : big_Sign.A → Option big_Sign.R} {big_Sign_k' : ι → big_Sign.A → Option big_Sign.R} (hbig_Sign_k : ∀ v, Cn E (big_Sign_k v) fun i => big_Sign_k' i v) {cmp_Compare_int_k : cmp_Compare_int.A → Option cmp_Compare_int.R} {cmp_Compare_int_k' : ι → cmp_Compare_int.A → Option cmp_Compare_int.R} (hcmp_Compare_int_k : ∀ v, Cn E (cmp_Compare_int_k v) fun i => cmp_Compare_int_k' i v) {big_cmpMag_k : big_cmpMag.A → Option big_cmpMag.R} {big_cmpMag_k' : ι → big_cmpMag.A → Option big_cmpMag.R} (hbig_cmpMag_k : ∀ v, Cn E (big_cmpMag_k v) fun i => big_cmpMag_k' i v) : ∀ v : A, Cn E (d big_Sign_k cmp_Compare_int_k big_cmpMag_k v) fun i => d (big_Sign_k' i) (cmp_Compare_int_k' i) (big_cmpMag_k' i) v := fun (v0, v1, v2, v3) => (.br (.bnd (hbig_Sign_k _) fun _ => (.bnd (hbig_Sign_k _) fun _ => (.bnd (hcmp_Compare_int_k _) fun _ => .some))) (.br (.bnd (hbig_cmpMag_k _) fun _ => .some) (.bnd (hbig_cmpMag_k _) fun _ => .some)))
theorem f_b (k : Nat) : ∀ v : A, f k v = d (big_Sign.f k) (cmp_Compare_int.f k) (big_cmpMag.f k) v := fun (v0, v1, v2, v3) => (held_eq _).trans (by kernel_rfl)
theorem F_of (v : A) {r : R} (h : d big_Sign.F cmp_Compare_int.F big_cmpMag.F v = some r) : F v = some r :=
  join_of (l := fun L => f (L 0) v) (d := fun L => d (big_Sign.f (L 0)) (cmp_Compare_int.f (L 0)) (big_cmpMag.f (L 0)) v) (fun L => f_b (L 0) v) (d_cn (big_Sign.F_cn 0) (cmp_Compare_int.F_cn 0) (big_cmpMag.F_cn 0) v) h
noncomputable def spec (k : Nat) (args : List AV) (ss : List Slot) : Option Ans :=
  match args, ss with
  | [(.agg [(.bool v0), (.frz (.int .u32) v1)]), (.agg [(.bool v2), (.frz (.int .u32) v3)])], [] => some ⟨R, f k (v0, v1, v2, v3), enc⟩
  | _, _ => none
theorem spec_ok (k : Nat) : SpecOk Tryz.prog 85 (spec k) := by
  intro args ss ans x h hx X σ w vals hp
  unfold spec at h
  split at h
  · cases h
    exact spec_of cs_ok Tryz.func85 rfl rfl dec_ok (held_eq _).symm hx hp
  · cases h
end big_Cmp
noncomputable def t_big_Cmp (k : Nat) := tcons 85 (big_Cmp.spec k) (t_big_cmpMag k)
theorem t_big_Cmp_ok (n g : Nat) : SpecOk Tryz.prog g (t_big_Cmp n g) := tcons_ok (big_Cmp.spec_ok n) (fun g => t_big_cmpMag_ok n g) g
namespace sphere_Cosine
abbrev R : Type := Int × Int × Bool
abbrev A : Type := Int × Int × Int × Int × Int × Int
def lv : List (Nat × List Nat) := [(2000000, [4]), (6, [4, 5, 6, 7, 8, 9]), (1000013, [4, 5, 8, 9]), (1000015, [4, 8, 9])]
noncomputable def cs : Nat → Ctx := ctxOf tis modes t_big_Cmp lv
theorem cs_ok (n : Nat) : CtxOk Tryz.prog (cs n) := ctxOf_ok rfl tis_ok t_big_Cmp_ok n
def enc (r : R) : Out := ((.agg [(.int .i64 r.1), (.int .i64 r.2.1), (.bool r.2.2)]), [])
def dec : Out → Option R
  | ((.agg [(.int .i64 v0), (.int .i64 v1), (.bool v2)]), []) => some (v0, v1, v2)
  | _ => none
theorem dec_ok : ∀ u y, dec u = some y → u = enc y := by
  intro u y h
  unfold dec at h
  split at h
  · cases h; rfl
  · cases h
noncomputable def b0 : Code := subF [] Tryz.f53
noncomputable def K0 (k : Nat) : Kt R := kTop (cs k) Tryz.f53 dec
noncomputable def b6 : Code := sub [1, 1, 1, 1, 1, 0, 0, 0] b0
noncomputable def K6 ( k : Nat) : Kt R := kAt (cs k) (loopN cs k) [1, 1, 1, 1, 1, 0, 0] b0 (K0 k)
noncomputable def c1000013 : Code := sub [1, 1, 1, 1, 1, 1, 1] b0
noncomputable def J1000013 ( k : Nat) : Kt R := kAt (cs k) (loopN cs k) [1, 1, 1, 1, 1, 1, 1] b0 (K0 k)
noncomputable def c1000015 : Code := sub [1, 1, 1, 1, 1, 1, 1, 1] b0
noncomputable def J1000015 ( k : Nat) : Kt R := kAt (cs k) (loopN cs k) [1, 1, 1, 1, 1, 1, 1, 1] b0 (K0 k)
abbrev T0 : Type := Int × Int × Int × Int × Int × Bool × Bool × Bool × List Int × List Int
def s0 : T0 → St := fun (v0, v1, v2, v3, v4, v5, v6, v7, v8, v9) => ⟨60, 0, [(4, (.c (.ptr 64000000 0))), (5, (.c (.int .i64 v0))), (6, (.c (.ptr 64000001 0))), (7, (.c (.ptr 64000002 0))), (8, (.c (.int .i64 v1))), (9, (.c (.int .i64 v2)))], [], [(256000000, .gone), (64000000, (.box [(.int .i64 v3), (.int .i64 v4), (.bool v5)])), (64000001, (.box [(.bool v6), (.sl 64000003)])), (64000002, (.box [(.bool v7), (.sl 64000004)])), (64000003, (.row (.int .u32) v8)), (64000004, (.row (.int .u32) v9))]⟩
noncomputable def l0 ( k n : Nat) (v : T0) : Option R := held (loopN cs n b6 (K6 k) (s0 v))
noncomputable def D0 (v : T0) : Option R := lim fun L => l0 (L 0) (L 1) v
theorem D0_cn (v : T0) : Cn late (D0 v) fun L => l0 (L 0) (L 1) v := of_lim
abbrev T1 : Type := Int × Int × Int × Int × Int × Bool
def s1 : T1 → St := fun (v0, v1, v2, v3, v4, v5) => ⟨60, 0, [(4, (.c (.ptr 64000000 0))), (5, (.c (.int .i64 v0))), (8, (.c (.int .i64 v1))), (9, (.c (.int .i64 v2)))], [], [(256000000, .gone), (64000000, (.box [(.int .i64 v3), (.int .i64 v4), (.bool v5)]))]⟩
noncomputable def l1 ( k : Nat) (v : T1) : Option R := held (run (cs k) (loopN cs k) c1000013 (J1000013 k) (s1 v))
noncomputable def D1 (v : T1) : Option R := lim fun L => l1 (L 0) v
theorem D1_cn (v : T1) : Cn late (D1 v) fun L => l1 (L 0) v := of_lim
abbrev T2 : Type := Int × Int × Int × Int × Bool
def s2 : T2 → St := fun (v0, v1, v2, v3, v4) => ⟨60, 0, [(4, (.c (.ptr 64000000 0))), (8, (.c (.int .i64 v0))), (9, (.c (.int .i64 v1)))], [], [(256000000, .gone), (64000000, (.box [(.int .i64 v2), (.int .i64 v3), (.bool v4)]))]⟩
noncomputable def l2 ( k : Nat) (v : T2) : Option R := held (run (cs k) (loopN cs k) c1000015 (J1000015 k) (s2 v))
noncomputable def D2 (v : T2) : Option R := lim fun L => l2 (L 0) v
theorem D2_cn (v : T2) : Cn late (D2 v) fun L => l2 (L 0) v := of_lim
def d0 (sphere_square_m1 : sphere_square.A → Option sphere_square.R) (sphere_mul_m1 : sphere_mul.A → Option sphere_mul.R) (big_Cmp_m1 : big_Cmp.A → Option big_Cmp.R) (L0m1 : T0 → Option R) (sphere_square_k : sphere_square.A → Option sphere_square.R) (sphere_mul_k : sphere_mul.A → Option sphere_mul.R) (big_Cmp_k : big_Cmp.A → Option big_Cmp.R) (L1k : T1 → Option R) : T0 → Option R := fun (v0, v1, v2, v3, v4, v5, v6, v7, v8, v9) =>
br (decide (1 < wrap IntKind.i64 (v2 - v1)))
  (br (!decide (2 = 0))
    (bnd (sphere_square_m1 (wrap IntKind.i64 ((wrap IntKind.i64 (v1 + v2)).tdiv 2))) fun r =>
      bnd (sphere_mul_m1 (r.fst, r.snd, v6, v8)) fun r =>
        bnd (big_Cmp_m1 (r.fst, r.snd, v7, v9)) fun r =>
          br (decide (r ≤ 0)) (L0m1 (v0, wrap IntKind.i64 ((wrap IntKind.i64 (v1 + v2)).tdiv 2), v2, v3, v4, v5, v6, v7, v8, v9))
            (L0m1 (v0, v1, wrap IntKind.i64 ((wrap IntKind.i64 (v1 + v2)).tdiv 2), v3, v4, v5, v6, v7, v8, v9)))
    none)
  (bnd (sphere_square_k v1) fun r => bnd (sphere_mul_k (r.fst, r.snd, v6, v8)) fun r => bnd (big_Cmp_k (r.fst, r.snd, v7, v9)) fun r => br (decide (r = 0)) (L1k (v0, v1, v1, v3, v4, v5)) (L1k (v0, v1, v2, v3, v4, v5)))
theorem d0_cn {ι : Type} {E : Fil ι} {sphere_square_m1 : sphere_square.A → Option sphere_square.R} {sphere_square_m1' : ι → sphere_square.A → Option sphere_square.R} (hsphere_square_m1 : ∀ v, Cn E (sphere_square_m1 v) fun i => sphere_square_m1' i v) {sphere_mul_m1 : sphere_mul.A → Option sphere_mul.R} {sphere_mul_m1' : ι → sphere_mul.A → Option sphere_mul.R} (hsphere_mul_m1 : ∀ v, Cn E (sphere_mul_m1 v) fun i => sphere_mul_m1' i v) {big_Cmp_m1 : big_Cmp.A → Option big_Cmp.R} {big_Cmp_m1' : ι → big_Cmp.A → Option big_Cmp.R} (hbig_Cmp_m1 : ∀ v, Cn E (big_Cmp_m1 v) fun i => big_Cmp_m1' i v) {L0m1 : T0 → Option R} {L0m1' : ι → T0 → Option R} (hL0m1 : ∀ v, Cn E (L0m1 v) fun i => L0m1' i v) {sphere_square_k : sphere_square.A → Option sphere_square.R} {sphere_square_k' : ι → sphere_square.A → Option sphere_square.R} (hsphere_square_k : ∀ v, Cn E (sphere_square_k v) fun i => sphere_square_k' i v) {sphere_mul_k : sphere_mul.A → Option sphere_mul.R} {sphere_mul_k' : ι → sphere_mul.A → Option sphere_mul.R} (hsphere_mul_k : ∀ v, Cn E (sphere_mul_k v) fun i => sphere_mul_k' i v) {big_Cmp_k : big_Cmp.A → Option big_Cmp.R} {big_Cmp_k' : ι → big_Cmp.A → Option big_Cmp.R} (hbig_Cmp_k : ∀ v, Cn E (big_Cmp_k v) fun i => big_Cmp_k' i v) {L1k : T1 → Option R} {L1k' : ι → T1 → Option R} (hL1k : ∀ v, Cn E (L1k v) fun i => L1k' i v) : ∀ v : T0, Cn E (d0 sphere_square_m1 sphere_mul_m1 big_Cmp_m1 L0m1 sphere_square_k sphere_mul_k big_Cmp_k L1k v) fun i => d0 (sphere_square_m1' i) (sphere_mul_m1' i) (big_Cmp_m1' i) (L0m1' i) (sphere_square_k' i) (sphere_mul_k' i) (big_Cmp_k' i) (L1k' i) v := fun (v0, v1, v2, v3, v4, v5, v6, v7, v8, v9) => (.br (.br (.bnd (hsphere_square_m1 _) fun _ => (.bnd (hsphere_mul_m1 _) fun _ => (.bnd (hbig_Cmp_m1 _) fun _ => (.br (hL0m1 _) (hL0m1 _))))) .none) (.bnd (hsphere_square_k _) fun _ => (.bnd (hsphere_mul_k _) fun _ => (.bnd (hbig_Cmp_k _) fun _ => (.br (hL1k _) (hL1k _))))))
theorem l0_b ( k m1 : Nat) : ∀ v : T0, run (cs m1) (loopN cs m1) b6 (kLoop cs m1 b6 (K6 k)) (s0 v) = d0 (sphere_square.f m1) (sphere_mul.f m1) (big_Cmp.f m1) (l0 k m1) (sphere_square.f k) (sphere_mul.f k) (big_Cmp.f k) (l1 k) v := fun (v0, v1, v2, v3, v4, v5, v6, v7, v8, v9) => by kernel_rfl
theorem D0_of (v : T0) {r : R} (h : d0 sphere_square.F sphere_mul.F big_Cmp.F D0 sphere_square.F sphere_mul.F big_Cmp.F D1 v = some r) : D0 v = some r :=
  loop_of 1 (l := fun L => l0 (L 0) (L 1) v) (d := fun L => d0 (sphere_square.f (L 1)) (sphere_mul.f (L 1)) (big_Cmp.f (L 1)) (l0 (L 0) (L 1)) (sphere_square.f (L 0)) (sphere_mul.f (L 0)) (big_Cmp.f (L 0)) (l1 (L 0)) v) (fun L n hn => by show l0 (L 0) (L 1) v = _; rw [hn]; exact (held_eq _).trans ((loopN_succ _ _ _ _ _).trans (l0_b (L 0) n v))) (d0_cn (sphere_square.F_cn 1) (sphere_mul.F_cn 1) (big_Cmp.F_cn 1) (fun v => (D0_cn v).re [0, 1]) (sphere_square.F_cn 0) (sphere_mul.F_cn 0) (big_Cmp.F_cn 0) (fun v => (D1_cn v).re [0]) v) h
def d1 (L2k : T2 → Option R) : T1 → Option R := fun (v0, v1, v2, v3, v4, v5) =>
br (decide (v0 < 0)) (L2k (wrap IntKind.i64 (0 - v2), wrap IntKind.i64 (0 - v1), v3, v4, v5)) (L2k (v1, v2, v3, v4, v5))
theorem d1_cn {ι : Type} {E : Fil ι} {L2k : T2 → Option R} {L2k' : ι → T2 → Option R} (hL2k : ∀ v, Cn E (L2k v) fun i => L2k' i v) : ∀ v : T1, Cn E (d1 L2k v) fun i => d1 (L2k' i) v := fun (v0, v1, v2, v3, v4, v5) => (.br (hL2k _) (hL2k _))
theorem l1_b ( k : Nat) : ∀ v : T1, run (cs k) (loopN cs k) c1000013 (J1000013 k) (s1 v) = d1 (l2 k) v := fun (v0, v1, v2, v3, v4, v5) => by kernel_rfl
theorem D1_of (v : T1) {r : R} (h : d1 D2 v = some r) : D1 v = some r :=
  join_of (l := fun L => l1 (L 0) v) (d := fun L => d1 (l2 (L 0)) v) (fun L => (held_eq _).trans (l1_b (L 0) v)) (d1_cn (fun v => (D2_cn v).re [0]) v) h
def d2 : T2 → Option R := fun (v0, v1, v2, v3, v4) =>
some (v0, v1, false)
theorem d2_cn {ι : Type} {E : Fil ι} : ∀ v : T2, Cn E (d2 v) fun i => d2 v := fun (v0, v1, v2, v3, v4) => .some
theorem l2_b ( k : Nat) : ∀ v : T2, run (cs k) (loopN cs k) c1000015 (J1000015 k) (s2 v) = d2 v := fun (v0, v1, v2, v3, v4) => by kernel_rfl
theorem D2_of (v : T2) {r : R} (h : d2 v = some r) : D2 v = some r :=
  join_of (l := fun L => l2 (L 0) v) (d := fun L => d2 v) (fun L => (held_eq _).trans (l2_b (L 0) v)) (d2_cn v) h
noncomputable def f (k : Nat) : A → Option R := fun (v0, v1, v2, v3, v4, v5) => held (runFn cs k Tryz.f53 [(.agg [(.int .i64 v0), (.int .i64 v1), (.int .i64 v2)]), (.agg [(.int .i64 v3), (.int .i64 v4), (.int .i64 v5)])] [] dec)
noncomputable def F (v : A) : Option R := lim fun L => f (L 0) v
theorem F_cn (x : Nat) (v : A) : Cn late (F v) fun L => f (L x) v := of_lim.re [x]
def d (sphere_both_k : sphere_both.A → Option sphere_both.R) (sphere_dot_k : sphere_dot.A → Option sphere_dot.R) (sphere_norms_k : sphere_norms.A → Option sphere_norms.R) (sphere_square_k : sphere_square.A → Option sphere_square.R) (sphere_mul_k : sphere_mul.A → Option sphere_mul.R) (L0k : T0 → Option R) : A → Option R := fun (v0, v1, v2, v3, v4, v5) =>
bnd (sphere_both_k (v0, v1, v2, v3, v4, v5)) fun r =>
  br (!r) (some (0, 0, true))
    (bnd (sphere_dot_k (v0, v1, v2, v3, v4, v5)) fun r =>
      bnd (sphere_norms_k (v0, v1, v2, v3, v4, v5)) fun r_1 =>
        bnd (sphere_square_k r) fun r_2 =>
          bnd (sphere_square_k 1073741824) fun r_3 => bnd (sphere_mul_k (r_2.fst, r_2.snd, r_3.fst, r_3.snd)) fun r_4 => L0k (r, 0, 1073741825, 0, 0, false, r_1.fst, r_4.fst, r_1.snd, r_4.snd))
theorem d_cn {ι : Type} {E : Fil ι} {sphere_both_k : sphere_both.A → Option sphere_both.R} {sphere_both_k' : ι → sphere_both.A → Option sphere_both.R} (hsphere_both_k : ∀ v, Cn E (sphere_both_k v) fun i => sphere_both_k' i v) {sphere_dot_k : sphere_dot.A → Option sphere_dot.R} {sphere_dot_k' : ι → sphere_dot.A → Option sphere_dot.R} (hsphere_dot_k : ∀ v, Cn E (sphere_dot_k v) fun i => sphere_dot_k' i v) {sphere_norms_k : sphere_norms.A → Option sphere_norms.R} {sphere_norms_k' : ι → sphere_norms.A → Option sphere_norms.R} (hsphere_norms_k : ∀ v, Cn E (sphere_norms_k v) fun i => sphere_norms_k' i v) {sphere_square_k : sphere_square.A → Option sphere_square.R} {sphere_square_k' : ι → sphere_square.A → Option sphere_square.R} (hsphere_square_k : ∀ v, Cn E (sphere_square_k v) fun i => sphere_square_k' i v) {sphere_mul_k : sphere_mul.A → Option sphere_mul.R} {sphere_mul_k' : ι → sphere_mul.A → Option sphere_mul.R} (hsphere_mul_k : ∀ v, Cn E (sphere_mul_k v) fun i => sphere_mul_k' i v) {L0k : T0 → Option R} {L0k' : ι → T0 → Option R} (hL0k : ∀ v, Cn E (L0k v) fun i => L0k' i v) : ∀ v : A, Cn E (d sphere_both_k sphere_dot_k sphere_norms_k sphere_square_k sphere_mul_k L0k v) fun i => d (sphere_both_k' i) (sphere_dot_k' i) (sphere_norms_k' i) (sphere_square_k' i) (sphere_mul_k' i) (L0k' i) v := fun (v0, v1, v2, v3, v4, v5) => (.bnd (hsphere_both_k _) fun _ => (.br .some (.bnd (hsphere_dot_k _) fun _ => (.bnd (hsphere_norms_k _) fun _ => (.bnd (hsphere_square_k _) fun _ => (.bnd (hsphere_square_k _) fun _ => (.bnd (hsphere_mul_k _) fun _ => (hL0k _))))))))
theorem f_b (k : Nat) : ∀ v : A, f k v = d (sphere_both.f k) (sphere_dot.f k) (sphere_norms.f k) (sphere_square.f k) (sphere_mul.f k) (l0 k k) v := fun (v0, v1, v2, v3, v4, v5) => (held_eq _).trans (by kernel_rfl)
theorem F_of (v : A) {r : R} (h : d sphere_both.F sphere_dot.F sphere_norms.F sphere_square.F sphere_mul.F D0 v = some r) : F v = some r :=
  join_of (l := fun L => f (L 0) v) (d := fun L => d (sphere_both.f (L 0)) (sphere_dot.f (L 0)) (sphere_norms.f (L 0)) (sphere_square.f (L 0)) (sphere_mul.f (L 0)) (l0 (L 0) (L 0)) v) (fun L => f_b (L 0) v) (d_cn (sphere_both.F_cn 0) (sphere_dot.F_cn 0) (sphere_norms.F_cn 0) (sphere_square.F_cn 0) (sphere_mul.F_cn 0) (fun v => (D0_cn v).re [0, 0]) v) h
noncomputable def spec (k : Nat) (args : List AV) (ss : List Slot) : Option Ans :=
  match args, ss with
  | [(.agg [(.int .i64 v0), (.int .i64 v1), (.int .i64 v2)]), (.agg [(.int .i64 v3), (.int .i64 v4), (.int .i64 v5)])], [] => some ⟨R, f k (v0, v1, v2, v3, v4, v5), enc⟩
  | _, _ => none
theorem spec_ok (k : Nat) : SpecOk Tryz.prog 53 (spec k) := by
  intro args ss ans x h hx X σ w vals hp
  unfold spec at h
  split at h
  · cases h
    exact spec_of cs_ok Tryz.func53 rfl rfl dec_ok (held_eq _).symm hx hp
  · cases h
end sphere_Cosine
noncomputable def t_sphere_Cosine (k : Nat) := tcons 53 (sphere_Cosine.spec k) (t_big_Cmp k)
theorem t_sphere_Cosine_ok (n g : Nat) : SpecOk Tryz.prog g (t_sphere_Cosine n g) := tcons_ok (sphere_Cosine.spec_ok n) (fun g => t_big_Cmp_ok n g) g
namespace window_why
abbrev R : Type := Int
abbrev A : Type := Int × Int × Int × Int × Int × Int × Int × Int × Int × Int × Int × Int × Int × Int × Int × Int × List Int × Int × Int × Int × Int × Int × Int × Int × Int × Int × Int × Int × Int × Int × Int
def lv : List (Nat × List Nat) := [(2000000, [6])]
noncomputable def cs : Nat → Ctx := ctxOf tis modes t_sphere_Cosine lv
theorem cs_ok (n : Nat) : CtxOk Tryz.prog (cs n) := ctxOf_ok rfl tis_ok t_sphere_Cosine_ok n
def enc (r : R) : Out := ((.c (.int .i64 r)), [])
def dec : Out → Option R
  | ((.c (.int .i64 v0)), []) => some v0
  | _ => none
theorem dec_ok : ∀ u y, dec u = some y → u = enc y := by
  intro u y h
  unfold dec at h
  split at h
  · cases h; rfl
  · cases h
noncomputable def b0 : Code := subF [] Tryz.f22
noncomputable def K0 (k : Nat) : Kt R := kTop (cs k) Tryz.f22 dec
noncomputable def f (k : Nat) : A → Option R := fun (v0, v1, v2, v3, v4, v5, v6, v7, v8, v9, v10, v11, v12, v13, v14, v15, v16, v17, v18, v19, v20, v21, v22, v23, v24, v25, v26, v27, v28, v29, v30) => held (runFn cs k Tryz.f22 [(.agg [(.int .i64 v0), (.int .i64 v1), (.int .i64 v2), (.int .i64 v3), (.int .i64 v4), (.int .i64 v5), (.int .i64 v6), (.int .i64 v7), (.int .i64 v8), (.int .i64 v9), (.int .i64 v10), (.int .i64 v11), (.int .i64 v12), (.int .i64 v13), (.int .i64 v14), (.int .i64 v15), (.frz (.int .i64) v16)]), (.agg [(.int .i64 v17), (.int .i64 v18), (.int .i64 v19), (.int .i64 v20), (.int .i64 v21), (.int .i64 v22), (.int .i64 v23), (.int .i64 v24), (.int .i64 v25), (.int .i64 v26), (.int .i64 v27), (.int .i64 v28), (.int .i64 v29)]), (.c (.int .i64 v30))] [] dec)
noncomputable def F (v : A) : Option R := lim fun L => f (L 0) v
theorem F_cn (x : Nat) (v : A) : Cn late (F v) fun L => f (L x) v := of_lim.re [x]
def d (window_dark_k : window_dark.A → Option window_dark.R) (window_height_k : window_height.A → Option window_height.R) (window_atLeast_k : window_atLeast.A → Option window_atLeast.R) (sphere_Cosine_k : sphere_Cosine.A → Option sphere_Cosine.R) (window_atMost_k : window_atMost.A → Option window_atMost.R) : A → Option R := fun (v0, v1, v2, v3, v4, v5, v6, v7, v8, v9, v10, v11, v12, v13, v14, v15, v16, v17, v18, v19, v20, v21, v22, v23, v24, v25, v26, v27, v28, v29, v30) =>
bnd (window_dark_k (v0, v1, v2, v3, v4, v5, v6, v7, v8, v9, v10, v11, v12, v13, v14, v15, v16, v30)) fun r =>
  br (!r) (some 1)
    (br (decide (0 ≤ v30 ∧ v30 < (↑v16.length : Int)))
      (br (decide (v28 < rd (Ty.int IntKind.i64) v16 v30)) (some 2)
        (bnd (window_height_k (v0, v1, v2, v3, v4, v5, v6, v7, v8, v9, v10, v11, v12, v13, v14, v15, v16, v19, v20, v21, v30)) fun r =>
          bnd (window_atLeast_k (r.fst, r.snd.fst, r.snd.snd, v26)) fun r =>
            br (!r) (some 3)
              (bnd (sphere_Cosine_k (v19, v20, v21, v12, v13, v14)) fun r =>
                bnd (window_atMost_k (r.fst, r.snd.fst, r.snd.snd, v27)) fun r =>
                  br ((!r) == true)
                    (br ((!r) == true)
                      (br ((!r) == true)
                        (bnd (window_height_k (v0, v1, v2, v3, v4, v5, v6, v7, v8, v9, v10, v11, v12, v13, v14, v15, v16, v12, v13, v14, v30)) fun r_1 =>
                          br ((!r) == true) (bnd (window_atMost_k (r_1.fst, r_1.snd.fst, r_1.snd.snd, -1)) fun r_2 => br (!r && !r_2) (some 4) (some 0)) (br (!(!r) == true) (br (!!r) (some 0) none) none))
                        (br ((!r) == true) none (br (!(!r) == true) (br (!!r) (some 0) none) none)))
                      (br ((!r) == true) none (br ((!r) == true) none (br (!(!r) == true) (br (!!r) (some 0) none) none))))
                    (br ((!r) == true) (br ((!r) == true) none (br ((!r) == true) none (br (!(!r) == true) (br (!!r) (some 0) none) none)))
                      (br ((!r) == true) none (br ((!r) == true) none (br (!(!r) == true) (br (!!r) (some 0) none) none)))))))
      none)
theorem d_cn {ι : Type} {E : Fil ι} {window_dark_k : window_dark.A → Option window_dark.R} {window_dark_k' : ι → window_dark.A → Option window_dark.R} (hwindow_dark_k : ∀ v, Cn E (window_dark_k v) fun i => window_dark_k' i v) {window_height_k : window_height.A → Option window_height.R} {window_height_k' : ι → window_height.A → Option window_height.R} (hwindow_height_k : ∀ v, Cn E (window_height_k v) fun i => window_height_k' i v) {window_atLeast_k : window_atLeast.A → Option window_atLeast.R} {window_atLeast_k' : ι → window_atLeast.A → Option window_atLeast.R} (hwindow_atLeast_k : ∀ v, Cn E (window_atLeast_k v) fun i => window_atLeast_k' i v) {sphere_Cosine_k : sphere_Cosine.A → Option sphere_Cosine.R} {sphere_Cosine_k' : ι → sphere_Cosine.A → Option sphere_Cosine.R} (hsphere_Cosine_k : ∀ v, Cn E (sphere_Cosine_k v) fun i => sphere_Cosine_k' i v) {window_atMost_k : window_atMost.A → Option window_atMost.R} {window_atMost_k' : ι → window_atMost.A → Option window_atMost.R} (hwindow_atMost_k : ∀ v, Cn E (window_atMost_k v) fun i => window_atMost_k' i v) : ∀ v : A, Cn E (d window_dark_k window_height_k window_atLeast_k sphere_Cosine_k window_atMost_k v) fun i => d (window_dark_k' i) (window_height_k' i) (window_atLeast_k' i) (sphere_Cosine_k' i) (window_atMost_k' i) v := fun (v0, v1, v2, v3, v4, v5, v6, v7, v8, v9, v10, v11, v12, v13, v14, v15, v16, v17, v18, v19, v20, v21, v22, v23, v24, v25, v26, v27, v28, v29, v30) => (.bnd (hwindow_dark_k _) fun _ => (.br .some (.br (.br .some (.bnd (hwindow_height_k _) fun _ => (.bnd (hwindow_atLeast_k _) fun _ => (.br .some (.bnd (hsphere_Cosine_k _) fun _ => (.bnd (hwindow_atMost_k _) fun _ => (.br (.br (.br (.bnd (hwindow_height_k _) fun _ => (.br (.bnd (hwindow_atMost_k _) fun _ => (.br .some .some)) (.br (.br .some .none) .none))) (.br .none (.br (.br .some .none) .none))) (.br .none (.br .none (.br (.br .some .none) .none)))) (.br (.br .none (.br .none (.br (.br .some .none) .none))) (.br .none (.br .none (.br (.br .some .none) .none))))))))))) .none)))
theorem f_b (k : Nat) : ∀ v : A, f k v = d (window_dark.f k) (window_height.f k) (window_atLeast.f k) (sphere_Cosine.f k) (window_atMost.f k) v := fun (v0, v1, v2, v3, v4, v5, v6, v7, v8, v9, v10, v11, v12, v13, v14, v15, v16, v17, v18, v19, v20, v21, v22, v23, v24, v25, v26, v27, v28, v29, v30) => (held_eq _).trans (by kernel_rfl)
theorem F_of (v : A) {r : R} (h : d window_dark.F window_height.F window_atLeast.F sphere_Cosine.F window_atMost.F v = some r) : F v = some r :=
  join_of (l := fun L => f (L 0) v) (d := fun L => d (window_dark.f (L 0)) (window_height.f (L 0)) (window_atLeast.f (L 0)) (sphere_Cosine.f (L 0)) (window_atMost.f (L 0)) v) (fun L => f_b (L 0) v) (d_cn (window_dark.F_cn 0) (window_height.F_cn 0) (window_atLeast.F_cn 0) (sphere_Cosine.F_cn 0) (window_atMost.F_cn 0) v) h
noncomputable def spec (k : Nat) (args : List AV) (ss : List Slot) : Option Ans :=
  match args, ss with
  | [(.agg [(.int .i64 v0), (.int .i64 v1), (.int .i64 v2), (.int .i64 v3), (.int .i64 v4), (.int .i64 v5), (.int .i64 v6), (.int .i64 v7), (.int .i64 v8), (.int .i64 v9), (.int .i64 v10), (.int .i64 v11), (.int .i64 v12), (.int .i64 v13), (.int .i64 v14), (.int .i64 v15), (.frz (.int .i64) v16)]), (.agg [(.int .i64 v17), (.int .i64 v18), (.int .i64 v19), (.int .i64 v20), (.int .i64 v21), (.int .i64 v22), (.int .i64 v23), (.int .i64 v24), (.int .i64 v25), (.int .i64 v26), (.int .i64 v27), (.int .i64 v28), (.int .i64 v29)]), (.c (.int .i64 v30))], [] => some ⟨R, f k (v0, v1, v2, v3, v4, v5, v6, v7, v8, v9, v10, v11, v12, v13, v14, v15, v16, v17, v18, v19, v20, v21, v22, v23, v24, v25, v26, v27, v28, v29, v30), enc⟩
  | _, _ => none
theorem spec_ok (k : Nat) : SpecOk Tryz.prog 22 (spec k) := by
  intro args ss ans x h hx X σ w vals hp
  unfold spec at h
  split at h
  · cases h
    exact spec_of cs_ok Tryz.func22 rfl rfl dec_ok (held_eq _).symm hx hp
  · cases h
end window_why
noncomputable def t_window_why (k : Nat) := tcons 22 (window_why.spec k) (t_sphere_Cosine k)
theorem t_window_why_ok (n g : Nat) : SpecOk Tryz.prog g (t_window_why n g) := tcons_ok (window_why.spec_ok n) (fun g => t_sphere_Cosine_ok n g) g
namespace window_Slots
abbrev R : Type := Int × List Int
abbrev A : Type := Int × Int × Int × Int × Int × Int × Int × Int × Int × Int × Int × Int × Int × Int × Int × Int × List Int × Int × Int × Int × Int × Int × Int × Int × Int × Int × Int × Int × Int × Int
def lv : List (Nat × List Nat) := [(2000000, [4, 5]), (6, [2, 3, 7, 19, 20])]
noncomputable def cs : Nat → Ctx := ctxOf tis modes t_window_why lv
theorem cs_ok (n : Nat) : CtxOk Tryz.prog (cs n) := ctxOf_ok rfl tis_ok t_window_why_ok n
def enc (r : R) : Out := ((.tup [(.c (.sl 128000000)), (.c (.int .i64 r.1))]), [(.row (.int .i64) r.2)])
def dec : Out → Option R
  | ((.tup [(.c (.sl 128000000)), (.c (.int .i64 v0))]), [(.row (.int .i64) v1)]) => some (v0, v1)
  | _ => none
theorem dec_ok : ∀ u y, dec u = some y → u = enc y := by
  intro u y h
  unfold dec at h
  split at h
  · cases h; rfl
  · cases h
noncomputable def b0 : Code := subF [] Tryz.f11
noncomputable def K0 (k : Nat) : Kt R := kTop (cs k) Tryz.f11 dec
noncomputable def b6 : Code := sub [1, 1, 1, 0, 1, 0, 0] b0
noncomputable def K6 ( k : Nat) : Kt R := kAt (cs k) (loopN cs k) [1, 1, 1, 0, 1, 0] b0 (K0 k)
abbrev T0 : Type := Int × Int × Int × Int × Int × Int × Int × Int × Int × Int × Int × Int × Int × Int × Int × Int × Int × Int × List Int × Int × Int × Int × Int × Int × Int × Int × Int × Int × Int × Int × Int × Int × List Int
def s0 : T0 → St := fun (v0, v1, v2, v3, v4, v5, v6, v7, v8, v9, v10, v11, v12, v13, v14, v15, v16, v17, v18, v19, v20, v21, v22, v23, v24, v25, v26, v27, v28, v29, v30, v31, v32) => ⟨32, 0, [(2, (.c (.ptr 64000000 0))), (3, (.c (.ptr 64000001 0))), (7, (.c (.sl 64000002))), (19, (.c (.int .i64 v0))), (20, (.c (.int .i64 v1)))], [], [(256000000, .gone), (64000000, (.box [(.int .i64 v2), (.int .i64 v3), (.int .i64 v4), (.int .i64 v5), (.int .i64 v6), (.int .i64 v7), (.int .i64 v8), (.int .i64 v9), (.int .i64 v10), (.int .i64 v11), (.int .i64 v12), (.int .i64 v13), (.int .i64 v14), (.int .i64 v15), (.int .i64 v16), (.int .i64 v17), (.frz (.int .i64) v18)])), (64000001, (.box [(.int .i64 v19), (.int .i64 v20), (.int .i64 v21), (.int .i64 v22), (.int .i64 v23), (.int .i64 v24), (.int .i64 v25), (.int .i64 v26), (.int .i64 v27), (.int .i64 v28), (.int .i64 v29), (.int .i64 v30), (.int .i64 v31)])), (64000002, (.row (.int .i64) v32))]⟩
noncomputable def l0 ( k n : Nat) (v : T0) : Option R := held (loopN cs n b6 (K6 k) (s0 v))
noncomputable def D0 (v : T0) : Option R := lim fun L => l0 (L 0) (L 1) v
theorem D0_cn (v : T0) : Cn late (D0 v) fun L => l0 (L 0) (L 1) v := of_lim
def d0 (window_why_m1 : window_why.A → Option window_why.R) (L0m1 : T0 → Option R) : T0 → Option R := fun (v0, v1, v2, v3, v4, v5, v6, v7, v8, v9, v10, v11, v12, v13, v14, v15, v16, v17, v18, v19, v20, v21, v22, v23, v24, v25, v26, v27, v28, v29, v30, v31, v32) =>
br (decide (v1 < v0))
  (bnd (window_why_m1 (v2, v3, v4, v5, v6, v7, v8, v9, v10, v11, v12, v13, v14, v15, v16, v17, v18, v19, v20, v21, v22, v23, v24, v25, v26, v27, v28, v29, v30, v31, v1)) fun r =>
    br (decide (0 ≤ v1 ∧ v1 < (↑v32.length : Int)))
      (L0m1 (v0, wrap IntKind.i64 (v1 + 1), v2, v3, v4, v5, v6, v7, v8, v9, v10, v11, v12, v13, v14, v15, v16, v17, v18, v19, v20, v21, v22, v23, v24, v25, v26, v27, v28, v29, v30, v31, v32.set v1.toNat r)) none)
  (some (0, v32))
theorem d0_cn {ι : Type} {E : Fil ι} {window_why_m1 : window_why.A → Option window_why.R} {window_why_m1' : ι → window_why.A → Option window_why.R} (hwindow_why_m1 : ∀ v, Cn E (window_why_m1 v) fun i => window_why_m1' i v) {L0m1 : T0 → Option R} {L0m1' : ι → T0 → Option R} (hL0m1 : ∀ v, Cn E (L0m1 v) fun i => L0m1' i v) : ∀ v : T0, Cn E (d0 window_why_m1 L0m1 v) fun i => d0 (window_why_m1' i) (L0m1' i) v := fun (v0, v1, v2, v3, v4, v5, v6, v7, v8, v9, v10, v11, v12, v13, v14, v15, v16, v17, v18, v19, v20, v21, v22, v23, v24, v25, v26, v27, v28, v29, v30, v31, v32) => (.br (.bnd (hwindow_why_m1 _) fun _ => (.br (hL0m1 _) .none)) .some)
theorem l0_b ( k m1 : Nat) : ∀ v : T0, run (cs m1) (loopN cs m1) b6 (kLoop cs m1 b6 (K6 k)) (s0 v) = d0 (window_why.f m1) (l0 k m1) v := fun (v0, v1, v2, v3, v4, v5, v6, v7, v8, v9, v10, v11, v12, v13, v14, v15, v16, v17, v18, v19, v20, v21, v22, v23, v24, v25, v26, v27, v28, v29, v30, v31, v32) => by kernel_rfl
theorem D0_of (v : T0) {r : R} (h : d0 window_why.F D0 v = some r) : D0 v = some r :=
  loop_of 1 (l := fun L => l0 (L 0) (L 1) v) (d := fun L => d0 (window_why.f (L 1)) (l0 (L 0) (L 1)) v) (fun L n hn => by show l0 (L 0) (L 1) v = _; rw [hn]; exact (held_eq _).trans ((loopN_succ _ _ _ _ _).trans (l0_b (L 0) n v))) (d0_cn (window_why.F_cn 1) (fun v => (D0_cn v).re [0, 1]) v) h
noncomputable def f (k : Nat) : A → Option R := fun (v0, v1, v2, v3, v4, v5, v6, v7, v8, v9, v10, v11, v12, v13, v14, v15, v16, v17, v18, v19, v20, v21, v22, v23, v24, v25, v26, v27, v28, v29) => held (runFn cs k Tryz.f11 [(.agg [(.int .i64 v0), (.int .i64 v1), (.int .i64 v2), (.int .i64 v3), (.int .i64 v4), (.int .i64 v5), (.int .i64 v6), (.int .i64 v7), (.int .i64 v8), (.int .i64 v9), (.int .i64 v10), (.int .i64 v11), (.int .i64 v12), (.int .i64 v13), (.int .i64 v14), (.int .i64 v15), (.frz (.int .i64) v16)]), (.agg [(.int .i64 v17), (.int .i64 v18), (.int .i64 v19), (.int .i64 v20), (.int .i64 v21), (.int .i64 v22), (.int .i64 v23), (.int .i64 v24), (.int .i64 v25), (.int .i64 v26), (.int .i64 v27), (.int .i64 v28), (.int .i64 v29)])] [] dec)
noncomputable def F (v : A) : Option R := lim fun L => f (L 0) v
theorem F_cn (x : Nat) (v : A) : Cn late (F v) fun L => f (L x) v := of_lim.re [x]
def d (window_both_k : window_both.A → Option window_both.R) (L0k : T0 → Option R) : A → Option R := fun (v0, v1, v2, v3, v4, v5, v6, v7, v8, v9, v10, v11, v12, v13, v14, v15, v16, v17, v18, v19, v20, v21, v22, v23, v24, v25, v26, v27, v28, v29) =>
bnd (window_both_k (v0, v1, v2, v3, v4, v5, v6, v7, v8, v9, v10, v11, v12, v13, v14, v15, v16, v17, v18, v19, v20, v21, v22, v23, v24, v25, v26, v27, v28, v29)) fun r =>
  br (!decide (r = 0)) (some (r, []))
    (br (decide (0 ≤ v8 ∧ v8 ≤ v8 ∧ v8 ≤ (↑(140737488355328 / 8) : Int)))
      (L0k
        ((↑(List.replicate v8.toNat (Ty.int IntKind.i64).dflt).length : Int), 0, v0, v1, v2, v3, v4, v5, v6, v7, v8, v9, v10, v11, v12, v13, v14, v15, v16, v17, v18, v19, v20, v21, v22, v23, v24, v25, v26, v27, v28, v29,
          List.replicate v8.toNat (Ty.int IntKind.i64).dflt))
      none)
theorem d_cn {ι : Type} {E : Fil ι} {window_both_k : window_both.A → Option window_both.R} {window_both_k' : ι → window_both.A → Option window_both.R} (hwindow_both_k : ∀ v, Cn E (window_both_k v) fun i => window_both_k' i v) {L0k : T0 → Option R} {L0k' : ι → T0 → Option R} (hL0k : ∀ v, Cn E (L0k v) fun i => L0k' i v) : ∀ v : A, Cn E (d window_both_k L0k v) fun i => d (window_both_k' i) (L0k' i) v := fun (v0, v1, v2, v3, v4, v5, v6, v7, v8, v9, v10, v11, v12, v13, v14, v15, v16, v17, v18, v19, v20, v21, v22, v23, v24, v25, v26, v27, v28, v29) => (.bnd (hwindow_both_k _) fun _ => (.br .some (.br (hL0k _) .none)))
theorem f_b (k : Nat) : ∀ v : A, f k v = d (window_both.f k) (l0 k k) v := fun (v0, v1, v2, v3, v4, v5, v6, v7, v8, v9, v10, v11, v12, v13, v14, v15, v16, v17, v18, v19, v20, v21, v22, v23, v24, v25, v26, v27, v28, v29) => (held_eq _).trans (by kernel_rfl)
theorem F_of (v : A) {r : R} (h : d window_both.F D0 v = some r) : F v = some r :=
  join_of (l := fun L => f (L 0) v) (d := fun L => d (window_both.f (L 0)) (l0 (L 0) (L 0)) v) (fun L => f_b (L 0) v) (d_cn (window_both.F_cn 0) (fun v => (D0_cn v).re [0, 0]) v) h
noncomputable def spec (k : Nat) (args : List AV) (ss : List Slot) : Option Ans :=
  match args, ss with
  | [(.agg [(.int .i64 v0), (.int .i64 v1), (.int .i64 v2), (.int .i64 v3), (.int .i64 v4), (.int .i64 v5), (.int .i64 v6), (.int .i64 v7), (.int .i64 v8), (.int .i64 v9), (.int .i64 v10), (.int .i64 v11), (.int .i64 v12), (.int .i64 v13), (.int .i64 v14), (.int .i64 v15), (.frz (.int .i64) v16)]), (.agg [(.int .i64 v17), (.int .i64 v18), (.int .i64 v19), (.int .i64 v20), (.int .i64 v21), (.int .i64 v22), (.int .i64 v23), (.int .i64 v24), (.int .i64 v25), (.int .i64 v26), (.int .i64 v27), (.int .i64 v28), (.int .i64 v29)])], [] => some ⟨R, f k (v0, v1, v2, v3, v4, v5, v6, v7, v8, v9, v10, v11, v12, v13, v14, v15, v16, v17, v18, v19, v20, v21, v22, v23, v24, v25, v26, v27, v28, v29), enc⟩
  | _, _ => none
theorem spec_ok (k : Nat) : SpecOk Tryz.prog 11 (spec k) := by
  intro args ss ans x h hx X σ w vals hp
  unfold spec at h
  split at h
  · cases h
    exact spec_of cs_ok Tryz.func11 rfl rfl dec_ok (held_eq _).symm hx hp
  · cases h
end window_Slots
noncomputable def t_window_Slots (k : Nat) := tcons 11 (window_Slots.spec k) (t_window_why k)
theorem t_window_Slots_ok (n g : Nat) : SpecOk Tryz.prog g (t_window_Slots n g) := tcons_ok (window_Slots.spec_ok n) (fun g => t_window_why_ok n g) g
namespace slices_Equal_int
abbrev R : Type := Bool
abbrev A : Type := List Int × List Int
def lv : List (Nat × List Nat) := [(2000000, [4]), (4, [0, 1, 12, 13])]
noncomputable def cs : Nat → Ctx := ctxOf tis modes t_window_Slots lv
theorem cs_ok (n : Nat) : CtxOk Tryz.prog (cs n) := ctxOf_ok rfl tis_ok t_window_Slots_ok n
def enc (r : R) : Out := ((.c (.bool r)), [])
def dec : Out → Option R
  | ((.c (.bool v0)), []) => some v0
  | _ => none
theorem dec_ok : ∀ u y, dec u = some y → u = enc y := by
  intro u y h
  unfold dec at h
  split at h
  · cases h; rfl
  · cases h
noncomputable def b0 : Code := subF [] Tryz.f18
noncomputable def K0 (k : Nat) : Kt R := kTop (cs k) Tryz.f18 dec
noncomputable def b4 : Code := sub [1, 1, 0, 1, 0, 0] b0
noncomputable def K4 ( k : Nat) : Kt R := kAt (cs k) (loopN cs k) [1, 1, 0, 1, 0] b0 (K0 k)
abbrev T0 : Type := List Int × List Int × Int × Int
def s0 : T0 → St := fun (v0, v1, v2, v3) => ⟨26, 0, [(0, (.c (.frz (.int .i64) v0))), (1, (.c (.frz (.int .i64) v1))), (12, (.c (.int .i64 v2))), (13, (.c (.int .i64 v3)))], [], [(256000000, .gone)]⟩
noncomputable def l0 ( k n : Nat) (v : T0) : Option R := held (loopN cs n b4 (K4 k) (s0 v))
noncomputable def D0 (v : T0) : Option R := lim fun L => l0 (L 0) (L 1) v
theorem D0_cn (v : T0) : Cn late (D0 v) fun L => l0 (L 0) (L 1) v := of_lim
def d0 (L0m1 : T0 → Option R) : T0 → Option R := fun (v0, v1, v2, v3) =>
br (decide (v3 < v2))
  (br (decide (0 ≤ v3 ∧ v3 < (↑v0.length : Int)))
    (br (decide (0 ≤ v3 ∧ v3 < (↑v1.length : Int))) (br (!decide (rd (Ty.int IntKind.i64) v0 v3 = rd (Ty.int IntKind.i64) v1 v3)) (some false) (L0m1 (v0, v1, v2, wrap IntKind.i64 (v3 + 1)))) none) none)
  (some true)
theorem d0_cn {ι : Type} {E : Fil ι} {L0m1 : T0 → Option R} {L0m1' : ι → T0 → Option R} (hL0m1 : ∀ v, Cn E (L0m1 v) fun i => L0m1' i v) : ∀ v : T0, Cn E (d0 L0m1 v) fun i => d0 (L0m1' i) v := fun (v0, v1, v2, v3) => (.br (.br (.br (.br .some (hL0m1 _)) .none) .none) .some)
theorem l0_b ( k m1 : Nat) : ∀ v : T0, run (cs m1) (loopN cs m1) b4 (kLoop cs m1 b4 (K4 k)) (s0 v) = d0 (l0 k m1) v := fun (v0, v1, v2, v3) => by kernel_rfl
theorem D0_of (v : T0) {r : R} (h : d0 D0 v = some r) : D0 v = some r :=
  loop_of 1 (l := fun L => l0 (L 0) (L 1) v) (d := fun L => d0 (l0 (L 0) (L 1)) v) (fun L n hn => by show l0 (L 0) (L 1) v = _; rw [hn]; exact (held_eq _).trans ((loopN_succ _ _ _ _ _).trans (l0_b (L 0) n v))) (d0_cn (fun v => (D0_cn v).re [0, 1]) v) h
noncomputable def f (k : Nat) : A → Option R := fun (v0, v1) => held (runFn cs k Tryz.f18 [(.c (.frz (.int .i64) v0)), (.c (.frz (.int .i64) v1))] [] dec)
noncomputable def F (v : A) : Option R := lim fun L => f (L 0) v
theorem F_cn (x : Nat) (v : A) : Cn late (F v) fun L => f (L x) v := of_lim.re [x]
def d (L0k : T0 → Option R) : A → Option R := fun (v0, v1) =>
br (!decide ((↑v0.length : Int) = (↑v1.length : Int))) (some false) (L0k (v0, v1, (↑v0.length : Int), 0))
theorem d_cn {ι : Type} {E : Fil ι} {L0k : T0 → Option R} {L0k' : ι → T0 → Option R} (hL0k : ∀ v, Cn E (L0k v) fun i => L0k' i v) : ∀ v : A, Cn E (d L0k v) fun i => d (L0k' i) v := fun (v0, v1) => (.br .some (hL0k _))
theorem f_b (k : Nat) : ∀ v : A, f k v = d (l0 k k) v := fun (v0, v1) => (held_eq _).trans (by kernel_rfl)
theorem F_of (v : A) {r : R} (h : d D0 v = some r) : F v = some r :=
  join_of (l := fun L => f (L 0) v) (d := fun L => d (l0 (L 0) (L 0)) v) (fun L => f_b (L 0) v) (d_cn (fun v => (D0_cn v).re [0, 0]) v) h
noncomputable def spec (k : Nat) (args : List AV) (ss : List Slot) : Option Ans :=
  match args, ss with
  | [(.c (.frz (.int .i64) v0)), (.c (.frz (.int .i64) v1))], [] => some ⟨R, f k (v0, v1), enc⟩
  | _, _ => none
theorem spec_ok (k : Nat) : SpecOk Tryz.prog 18 (spec k) := by
  intro args ss ans x h hx X σ w vals hp
  unfold spec at h
  split at h
  · cases h
    exact spec_of cs_ok Tryz.func18 rfl rfl dec_ok (held_eq _).symm hx hp
  · cases h
end slices_Equal_int
noncomputable def t_slices_Equal_int (k : Nat) := tcons 18 (slices_Equal_int.spec k) (t_window_Slots k)
theorem t_slices_Equal_int_ok (n g : Nat) : SpecOk Tryz.prog g (t_slices_Equal_int n g) := tcons_ok (slices_Equal_int.spec_ok n) (fun g => t_window_Slots_ok n g) g
namespace spykeep2_opens
abbrev R : Type := Bool
abbrev A : Type := Unit
def lv : List (Nat × List Nat) := [(2000000, [0])]
noncomputable def cs : Nat → Ctx := ctxOf tis modes t_slices_Equal_int lv
theorem cs_ok (n : Nat) : CtxOk Tryz.prog (cs n) := ctxOf_ok rfl tis_ok t_slices_Equal_int_ok n
def enc (r : R) : Out := ((.c (.bool r)), [])
def dec : Out → Option R
  | ((.c (.bool v0)), []) => some v0
  | _ => none
theorem dec_ok : ∀ u y, dec u = some y → u = enc y := by
  intro u y h
  unfold dec at h
  split at h
  · cases h; rfl
  · cases h
noncomputable def b0 : Code := subF [] Tryz.f7
noncomputable def K0 (k : Nat) : Kt R := kTop (cs k) Tryz.f7 dec
noncomputable def f (k : Nat) : A → Option R := fun _ => held (runFn cs k Tryz.f7 [] [] dec)
noncomputable def F (v : A) : Option R := lim fun L => f (L 0) v
theorem F_cn (x : Nat) (v : A) : Cn late (F v) fun L => f (L x) v := of_lim.re [x]
def d (window_Slots_k : window_Slots.A → Option window_Slots.R) (slices_Equal_int_k : slices_Equal_int.A → Option slices_Equal_int.R) : A → Option R := fun _ =>
bnd (window_Slots_k (536870912, 0, 0, 0, 50, 1, 0, 600000, 2, 1, 0, -40, 1, 0, -40, 0, [0, 2], 1, 0, 1, 0, 40, 1, 1, 0, 0, 0, 1073741824, 1, 1)) fun r =>
  br (decide (r.fst = 0) == true) (bnd (slices_Equal_int_k (r.snd, [0, 2])) fun r => some r) (some false)
theorem d_cn {ι : Type} {E : Fil ι} {window_Slots_k : window_Slots.A → Option window_Slots.R} {window_Slots_k' : ι → window_Slots.A → Option window_Slots.R} (hwindow_Slots_k : ∀ v, Cn E (window_Slots_k v) fun i => window_Slots_k' i v) {slices_Equal_int_k : slices_Equal_int.A → Option slices_Equal_int.R} {slices_Equal_int_k' : ι → slices_Equal_int.A → Option slices_Equal_int.R} (hslices_Equal_int_k : ∀ v, Cn E (slices_Equal_int_k v) fun i => slices_Equal_int_k' i v) : ∀ v : A, Cn E (d window_Slots_k slices_Equal_int_k v) fun i => d (window_Slots_k' i) (slices_Equal_int_k' i) v := fun _ => (.bnd (hwindow_Slots_k _) fun _ => (.br (.bnd (hslices_Equal_int_k _) fun _ => .some) .some))
theorem f_b (k : Nat) : ∀ v : A, f k v = d (window_Slots.f k) (slices_Equal_int.f k) v := fun _ => (held_eq _).trans (by kernel_rfl)
theorem F_of (v : A) {r : R} (h : d window_Slots.F slices_Equal_int.F v = some r) : F v = some r :=
  join_of (l := fun L => f (L 0) v) (d := fun L => d (window_Slots.f (L 0)) (slices_Equal_int.f (L 0)) v) (fun L => f_b (L 0) v) (d_cn (window_Slots.F_cn 0) (slices_Equal_int.F_cn 0) v) h
noncomputable def spec (k : Nat) (args : List AV) (ss : List Slot) : Option Ans :=
  match args, ss with
  | [], [] => some ⟨R, f k (), enc⟩
  | _, _ => none
theorem spec_ok (k : Nat) : SpecOk Tryz.prog 7 (spec k) := by
  intro args ss ans x h hx X σ w vals hp
  unfold spec at h
  split at h
  · cases h
    exact spec_of cs_ok Tryz.func7 rfl rfl dec_ok (held_eq _).symm hx hp
  · cases h
end spykeep2_opens
noncomputable def t_spykeep2_opens (k : Nat) := tcons 7 (spykeep2_opens.spec k) (t_slices_Equal_int k)
theorem t_spykeep2_opens_ok (n g : Nat) : SpecOk Tryz.prog g (t_spykeep2_opens n g) := tcons_ok (spykeep2_opens.spec_ok n) (fun g => t_slices_Equal_int_ok n g) g
namespace spymake_Below
abbrev R : Type := Int
abbrev A : Type := Int × Int
def lv : List (Nat × List Nat) := [(2000000, [4]), (1000006, [0])]
noncomputable def cs : Nat → Ctx := ctxOf tis modes t_spykeep2_opens lv
theorem cs_ok (n : Nat) : CtxOk Tryz.prog (cs n) := ctxOf_ok rfl tis_ok t_spykeep2_opens_ok n
def enc (r : R) : Out := ((.c (.int .i64 r)), [])
def dec : Out → Option R
  | ((.c (.int .i64 v0)), []) => some v0
  | _ => none
theorem dec_ok : ∀ u y, dec u = some y → u = enc y := by
  intro u y h
  unfold dec at h
  split at h
  · cases h; rfl
  · cases h
noncomputable def b0 : Code := subF [] Tryz.f12
noncomputable def K0 (k : Nat) : Kt R := kTop (cs k) Tryz.f12 dec
noncomputable def c1000006 : Code := sub [1, 1, 1, 1] b0
noncomputable def J1000006 ( k : Nat) : Kt R := kAt (cs k) (loopN cs k) [1, 1, 1, 1] b0 (K0 k)
abbrev T0 : Type := Int
def s0 : T0 → St := fun v0 => ⟨16, 0, [(0, (.c (.int .i64 v0)))], [], [(256000000, .gone)]⟩
noncomputable def l0 ( k : Nat) (v : T0) : Option R := held (run (cs k) (loopN cs k) c1000006 (J1000006 k) (s0 v))
noncomputable def D0 (v : T0) : Option R := lim fun L => l0 (L 0) v
theorem D0_cn (v : T0) : Cn late (D0 v) fun L => l0 (L 0) v := of_lim
def d0 : T0 → Option R := fun v0 =>
some v0
theorem d0_cn {ι : Type} {E : Fil ι} : ∀ v : T0, Cn E (d0 v) fun i => d0 v := fun v0 => .some
theorem l0_b ( k : Nat) : ∀ v : T0, run (cs k) (loopN cs k) c1000006 (J1000006 k) (s0 v) = d0 v := fun v0 => by kernel_rfl
theorem D0_of (v : T0) {r : R} (h : d0 v = some r) : D0 v = some r :=
  join_of (l := fun L => l0 (L 0) v) (d := fun L => d0 v) (fun L => (held_eq _).trans (l0_b (L 0) v)) (d0_cn v) h
noncomputable def f (k : Nat) : A → Option R := fun (v0, v1) => held (runFn cs k Tryz.f12 [(.c (.int .i64 v0)), (.c (.int .i64 v1))] [] dec)
noncomputable def F (v : A) : Option R := lim fun L => f (L 0) v
theorem F_cn (x : Nat) (v : A) : Cn late (F v) fun L => f (L x) v := of_lim.re [x]
def d (L0k : T0 → Option R) : A → Option R := fun (v0, v1) =>
br (decide (v1 < 1)) (some 0) (br (!decide (v1 = 0)) (br (decide (v0.tmod v1 < 0)) (L0k (wrap IntKind.i64 (v0.tmod v1 + v1))) (L0k (v0.tmod v1))) none)
theorem d_cn {ι : Type} {E : Fil ι} {L0k : T0 → Option R} {L0k' : ι → T0 → Option R} (hL0k : ∀ v, Cn E (L0k v) fun i => L0k' i v) : ∀ v : A, Cn E (d L0k v) fun i => d (L0k' i) v := fun (v0, v1) => (.br .some (.br (.br (hL0k _) (hL0k _)) .none))
theorem f_b (k : Nat) : ∀ v : A, f k v = d (l0 k) v := fun (v0, v1) => (held_eq _).trans (by kernel_rfl)
theorem F_of (v : A) {r : R} (h : d D0 v = some r) : F v = some r :=
  join_of (l := fun L => f (L 0) v) (d := fun L => d (l0 (L 0)) v) (fun L => f_b (L 0) v) (d_cn (fun v => (D0_cn v).re [0]) v) h
noncomputable def spec (k : Nat) (args : List AV) (ss : List Slot) : Option Ans :=
  match args, ss with
  | [(.c (.int .i64 v0)), (.c (.int .i64 v1))], [] => some ⟨R, f k (v0, v1), enc⟩
  | _, _ => none
theorem spec_ok (k : Nat) : SpecOk Tryz.prog 12 (spec k) := by
  intro args ss ans x h hx X σ w vals hp
  unfold spec at h
  split at h
  · cases h
    exact spec_of cs_ok Tryz.func12 rfl rfl dec_ok (held_eq _).symm hx hp
  · cases h
end spymake_Below
noncomputable def t_spymake_Below (k : Nat) := tcons 12 (spymake_Below.spec k) (t_spykeep2_opens k)
theorem t_spymake_Below_ok (n g : Nat) : SpecOk Tryz.prog g (t_spymake_Below n g) := tcons_ok (spymake_Below.spec_ok n) (fun g => t_spykeep2_opens_ok n g) g
namespace spymake_Stream_Next
abbrev R : Type := Int × List Int × Int
abbrev A : Type := Int × List Int × Int
def lv : List (Nat × List Nat) := [(2000000, [4])]
noncomputable def cs : Nat → Ctx := ctxOf tis modes t_spymake_Below lv
theorem cs_ok (n : Nat) : CtxOk Tryz.prog (cs n) := ctxOf_ok rfl tis_ok t_spymake_Below_ok n
def enc (r : R) : Out := ((.c (.int .i64 r.1)), [(.box [(.frz (.int .i64) r.2.1), (.int .i64 r.2.2)])])
def dec : Out → Option R
  | ((.c (.int .i64 v0)), [(.box [(.frz (.int .i64) v1), (.int .i64 v2)])]) => some (v0, v1, v2)
  | _ => none
theorem dec_ok : ∀ u y, dec u = some y → u = enc y := by
  intro u y h
  unfold dec at h
  split at h
  · cases h; rfl
  · cases h
noncomputable def b0 : Code := subF [] Tryz.f10
noncomputable def K0 (k : Nat) : Kt R := kTop (cs k) Tryz.f10 dec
noncomputable def f (k : Nat) : A → Option R := fun (v0, v1, v2) => held (runFn cs k Tryz.f10 [(.c (.ptr 128000000 0)), (.c (.int .i64 v0))] [(.box [(.frz (.int .i64) v1), (.int .i64 v2)])] dec)
noncomputable def F (v : A) : Option R := lim fun L => f (L 0) v
theorem F_cn (x : Nat) (v : A) : Cn late (F v) fun L => f (L x) v := of_lim.re [x]
def d (spymake_Below_k : spymake_Below.A → Option spymake_Below.R) : A → Option R := fun (v0, v1, v2) =>
br (decide ((↑v1.length : Int) = 0)) (bnd (spymake_Below_k (wrap IntKind.i64 (wrap IntKind.i64 (v2 + 1) * 7919), v0)) fun r => some (r, v1, wrap IntKind.i64 (v2 + 1)))
  (br (!decide ((↑v1.length : Int) = 0))
    (br (!decide ((↑v1.length : Int) = 0))
      (br (decide (0 ≤ (wrap IntKind.i64 (wrap IntKind.i64 (v2 + 1) - 1)).tmod (↑v1.length : Int) ∧ (wrap IntKind.i64 (wrap IntKind.i64 (v2 + 1) - 1)).tmod (↑v1.length : Int) < (↑v1.length : Int)))
        (bnd (spymake_Below_k (rd (Ty.int IntKind.i64) v1 ((wrap IntKind.i64 (wrap IntKind.i64 (v2 + 1) - 1)).tmod (↑v1.length : Int)), 1073741824)) fun r =>
          bnd
            (spymake_Below_k
              (wrap IntKind.i64
                  (r +
                    wrap IntKind.i64
                      (wrap IntKind.i64 ((wrap IntKind.i64 (wrap IntKind.i64 (v2 + 1) - 1)).tdiv (↑v1.length : Int)) *
                        wrap IntKind.i64 (7919 + (wrap IntKind.i64 (wrap IntKind.i64 (v2 + 1) - 1)).tmod (↑v1.length : Int)))),
                v0))
            fun r => some (r, v1, wrap IntKind.i64 (v2 + 1)))
        none)
      none)
    none)
theorem d_cn {ι : Type} {E : Fil ι} {spymake_Below_k : spymake_Below.A → Option spymake_Below.R} {spymake_Below_k' : ι → spymake_Below.A → Option spymake_Below.R} (hspymake_Below_k : ∀ v, Cn E (spymake_Below_k v) fun i => spymake_Below_k' i v) : ∀ v : A, Cn E (d spymake_Below_k v) fun i => d (spymake_Below_k' i) v := fun (v0, v1, v2) => (.br (.bnd (hspymake_Below_k _) fun _ => .some) (.br (.br (.br (.bnd (hspymake_Below_k _) fun _ => (.bnd (hspymake_Below_k _) fun _ => .some)) .none) .none) .none))
theorem f_b (k : Nat) : ∀ v : A, f k v = d (spymake_Below.f k) v := fun (v0, v1, v2) => (held_eq _).trans (by kernel_rfl)
theorem F_of (v : A) {r : R} (h : d spymake_Below.F v = some r) : F v = some r :=
  join_of (l := fun L => f (L 0) v) (d := fun L => d (spymake_Below.f (L 0)) v) (fun L => f_b (L 0) v) (d_cn (spymake_Below.F_cn 0) v) h
noncomputable def spec (k : Nat) (args : List AV) (ss : List Slot) : Option Ans :=
  match args, ss with
  | [(.c (.ptr 128000000 0)), (.c (.int .i64 v0))], [(.box [(.frz (.int .i64) v1), (.int .i64 v2)])] => some ⟨R, f k (v0, v1, v2), enc⟩
  | _, _ => none
theorem spec_ok (k : Nat) : SpecOk Tryz.prog 10 (spec k) := by
  intro args ss ans x h hx X σ w vals hp
  unfold spec at h
  split at h
  · cases h
    exact spec_of cs_ok Tryz.func10 rfl rfl dec_ok (held_eq _).symm hx hp
  · cases h
end spymake_Stream_Next
noncomputable def t_spymake_Stream_Next (k : Nat) := tcons 10 (spymake_Stream_Next.spec k) (t_spymake_Below k)
theorem t_spymake_Stream_Next_ok (n g : Nat) : SpecOk Tryz.prog g (t_spymake_Stream_Next n g) := tcons_ok (spymake_Stream_Next.spec_ok n) (fun g => t_spymake_Below_ok n g) g
namespace spymake_Stream_Range
abbrev R : Type := Int × List Int × Int
abbrev A : Type := Int × Int × List Int × Int
def lv : List (Nat × List Nat) := [(2000000, [6])]
noncomputable def cs : Nat → Ctx := ctxOf tis modes t_spymake_Stream_Next lv
theorem cs_ok (n : Nat) : CtxOk Tryz.prog (cs n) := ctxOf_ok rfl tis_ok t_spymake_Stream_Next_ok n
def enc (r : R) : Out := ((.c (.int .i64 r.1)), [(.box [(.frz (.int .i64) r.2.1), (.int .i64 r.2.2)])])
def dec : Out → Option R
  | ((.c (.int .i64 v0)), [(.box [(.frz (.int .i64) v1), (.int .i64 v2)])]) => some (v0, v1, v2)
  | _ => none
theorem dec_ok : ∀ u y, dec u = some y → u = enc y := by
  intro u y h
  unfold dec at h
  split at h
  · cases h; rfl
  · cases h
noncomputable def b0 : Code := subF [] Tryz.f19
noncomputable def K0 (k : Nat) : Kt R := kTop (cs k) Tryz.f19 dec
noncomputable def f (k : Nat) : A → Option R := fun (v0, v1, v2, v3) => held (runFn cs k Tryz.f19 [(.c (.ptr 128000000 0)), (.c (.int .i64 v0)), (.c (.int .i64 v1))] [(.box [(.frz (.int .i64) v2), (.int .i64 v3)])] dec)
noncomputable def F (v : A) : Option R := lim fun L => f (L 0) v
theorem F_cn (x : Nat) (v : A) : Cn late (F v) fun L => f (L x) v := of_lim.re [x]
def d (spymake_Stream_Next_k : spymake_Stream_Next.A → Option spymake_Stream_Next.R) : A → Option R := fun (v0, v1, v2, v3) =>
br (decide (v1 < v0)) (some (v0, v2, v3)) (bnd (spymake_Stream_Next_k (wrap IntKind.i64 (wrap IntKind.i64 (v1 - v0) + 1), v2, v3)) fun r => some (wrap IntKind.i64 (v0 + r.fst), r.snd.fst, r.snd.snd))
theorem d_cn {ι : Type} {E : Fil ι} {spymake_Stream_Next_k : spymake_Stream_Next.A → Option spymake_Stream_Next.R} {spymake_Stream_Next_k' : ι → spymake_Stream_Next.A → Option spymake_Stream_Next.R} (hspymake_Stream_Next_k : ∀ v, Cn E (spymake_Stream_Next_k v) fun i => spymake_Stream_Next_k' i v) : ∀ v : A, Cn E (d spymake_Stream_Next_k v) fun i => d (spymake_Stream_Next_k' i) v := fun (v0, v1, v2, v3) => (.br .some (.bnd (hspymake_Stream_Next_k _) fun _ => .some))
theorem f_b (k : Nat) : ∀ v : A, f k v = d (spymake_Stream_Next.f k) v := fun (v0, v1, v2, v3) => (held_eq _).trans (by kernel_rfl)
theorem F_of (v : A) {r : R} (h : d spymake_Stream_Next.F v = some r) : F v = some r :=
  join_of (l := fun L => f (L 0) v) (d := fun L => d (spymake_Stream_Next.f (L 0)) v) (fun L => f_b (L 0) v) (d_cn (spymake_Stream_Next.F_cn 0) v) h
noncomputable def spec (k : Nat) (args : List AV) (ss : List Slot) : Option Ans :=
  match args, ss with
  | [(.c (.ptr 128000000 0)), (.c (.int .i64 v0)), (.c (.int .i64 v1))], [(.box [(.frz (.int .i64) v2), (.int .i64 v3)])] => some ⟨R, f k (v0, v1, v2, v3), enc⟩
  | _, _ => none
theorem spec_ok (k : Nat) : SpecOk Tryz.prog 19 (spec k) := by
  intro args ss ans x h hx X σ w vals hp
  unfold spec at h
  split at h
  · cases h
    exact spec_of cs_ok Tryz.func19 rfl rfl dec_ok (held_eq _).symm hx hp
  · cases h
end spymake_Stream_Range
noncomputable def t_spymake_Stream_Range (k : Nat) := tcons 19 (spymake_Stream_Range.spec k) (t_spymake_Stream_Next k)
theorem t_spymake_Stream_Range_ok (n g : Nat) : SpecOk Tryz.prog g (t_spymake_Stream_Range n g) := tcons_ok (spymake_Stream_Range.spec_ok n) (fun g => t_spymake_Stream_Next_ok n g) g
namespace spymake_Stream_Vec
abbrev R : Type := Int × Int × Int × List Int × Int
abbrev A : Type := List Int × Int
def lv : List (Nat × List Nat) := [(2000000, [2]), (1000005, [2, 4])]
noncomputable def cs : Nat → Ctx := ctxOf tis modes t_spymake_Stream_Range lv
theorem cs_ok (n : Nat) : CtxOk Tryz.prog (cs n) := ctxOf_ok rfl tis_ok t_spymake_Stream_Range_ok n
def enc (r : R) : Out := ((.agg [(.int .i64 r.1), (.int .i64 r.2.1), (.int .i64 r.2.2.1)]), [(.box [(.frz (.int .i64) r.2.2.2.1), (.int .i64 r.2.2.2.2)])])
def dec : Out → Option R
  | ((.agg [(.int .i64 v0), (.int .i64 v1), (.int .i64 v2)]), [(.box [(.frz (.int .i64) v3), (.int .i64 v4)])]) => some (v0, v1, v2, v3, v4)
  | _ => none
theorem dec_ok : ∀ u y, dec u = some y → u = enc y := by
  intro u y h
  unfold dec at h
  split at h
  · cases h; rfl
  · cases h
noncomputable def b0 : Code := subF [] Tryz.f20
noncomputable def K0 (k : Nat) : Kt R := kTop (cs k) Tryz.f20 dec
noncomputable def c1000005 : Code := sub [1, 1, 1, 1] b0
noncomputable def J1000005 ( k : Nat) : Kt R := kAt (cs k) (loopN cs k) [1, 1, 1, 1] b0 (K0 k)
abbrev T0 : Type := List Int × Int × Int × Int × Int × Int × Int × Int
def s0 : T0 → St := fun (v0, v1, v2, v3, v4, v5, v6, v7) => ⟨31, 1, [(2, (.c (.ptr 64000000 0))), (4, (.c (.ptr 64000001 0)))], [], [(128000000, (.box [(.frz (.int .i64) v0), (.int .i64 v1)])), (256000000, .gone), (64000000, (.box [(.int .i64 v2), (.int .i64 v3), (.int .i64 v4)])), (64000001, (.box [(.int .i64 v5), (.int .i64 v6), (.int .i64 v7)]))]⟩
noncomputable def l0 ( k : Nat) (v : T0) : Option R := held (run (cs k) (loopN cs k) c1000005 (J1000005 k) (s0 v))
noncomputable def D0 (v : T0) : Option R := lim fun L => l0 (L 0) v
theorem D0_cn (v : T0) : Cn late (D0 v) fun L => l0 (L 0) v := of_lim
def d0 : T0 → Option R := fun (v0, v1, v2, v3, v4, v5, v6, v7) =>
some (v5, v6, v7, v0, v1)
theorem d0_cn {ι : Type} {E : Fil ι} : ∀ v : T0, Cn E (d0 v) fun i => d0 v := fun (v0, v1, v2, v3, v4, v5, v6, v7) => .some
theorem l0_b ( k : Nat) : ∀ v : T0, run (cs k) (loopN cs k) c1000005 (J1000005 k) (s0 v) = d0 v := fun (v0, v1, v2, v3, v4, v5, v6, v7) => by kernel_rfl
theorem D0_of (v : T0) {r : R} (h : d0 v = some r) : D0 v = some r :=
  join_of (l := fun L => l0 (L 0) v) (d := fun L => d0 v) (fun L => (held_eq _).trans (l0_b (L 0) v)) (d0_cn v) h
noncomputable def f (k : Nat) : A → Option R := fun (v0, v1) => held (runFn cs k Tryz.f20 [(.c (.ptr 128000000 0))] [(.box [(.frz (.int .i64) v0), (.int .i64 v1)])] dec)
noncomputable def F (v : A) : Option R := lim fun L => f (L 0) v
theorem F_cn (x : Nat) (v : A) : Cn late (F v) fun L => f (L x) v := of_lim.re [x]
def d (spymake_Stream_Next_k : spymake_Stream_Next.A → Option spymake_Stream_Next.R) (spymake_Stream_Range_k : spymake_Stream_Range.A → Option spymake_Stream_Range.R) (L0k : T0 → Option R) : A → Option R := fun (v0, v1) =>
bnd (spymake_Stream_Next_k (4, v0, v1)) fun r =>
  br (decide (0 ≤ r.fst ∧ r.fst < (↑[3, 100, 5000, 1048576].length : Int)))
    (bnd (spymake_Stream_Range_k (wrap IntKind.i64 (0 - rd (Ty.int IntKind.i64) [3, 100, 5000, 1048576] r.fst), rd (Ty.int IntKind.i64) [3, 100, 5000, 1048576] r.fst, r.snd.fst, r.snd.snd)) fun r_1 =>
      bnd (spymake_Stream_Range_k (wrap IntKind.i64 (0 - rd (Ty.int IntKind.i64) [3, 100, 5000, 1048576] r.fst), rd (Ty.int IntKind.i64) [3, 100, 5000, 1048576] r.fst, r_1.snd.fst, r_1.snd.snd)) fun r_2 =>
        bnd (spymake_Stream_Range_k (wrap IntKind.i64 (0 - rd (Ty.int IntKind.i64) [3, 100, 5000, 1048576] r.fst), rd (Ty.int IntKind.i64) [3, 100, 5000, 1048576] r.fst, r_2.snd.fst, r_2.snd.snd)) fun r =>
          br (decide (r_1.fst = 0) && (decide (r_2.fst = 0) && (decide (r.fst = 0) && true))) (L0k (r.snd.fst, r.snd.snd, 0, 0, 0, 1, r_2.fst, r.fst)) (L0k (r.snd.fst, r.snd.snd, 0, 0, 0, r_1.fst, r_2.fst, r.fst)))
    none
theorem d_cn {ι : Type} {E : Fil ι} {spymake_Stream_Next_k : spymake_Stream_Next.A → Option spymake_Stream_Next.R} {spymake_Stream_Next_k' : ι → spymake_Stream_Next.A → Option spymake_Stream_Next.R} (hspymake_Stream_Next_k : ∀ v, Cn E (spymake_Stream_Next_k v) fun i => spymake_Stream_Next_k' i v) {spymake_Stream_Range_k : spymake_Stream_Range.A → Option spymake_Stream_Range.R} {spymake_Stream_Range_k' : ι → spymake_Stream_Range.A → Option spymake_Stream_Range.R} (hspymake_Stream_Range_k : ∀ v, Cn E (spymake_Stream_Range_k v) fun i => spymake_Stream_Range_k' i v) {L0k : T0 → Option R} {L0k' : ι → T0 → Option R} (hL0k : ∀ v, Cn E (L0k v) fun i => L0k' i v) : ∀ v : A, Cn E (d spymake_Stream_Next_k spymake_Stream_Range_k L0k v) fun i => d (spymake_Stream_Next_k' i) (spymake_Stream_Range_k' i) (L0k' i) v := fun (v0, v1) => (.bnd (hspymake_Stream_Next_k _) fun _ => (.br (.bnd (hspymake_Stream_Range_k _) fun _ => (.bnd (hspymake_Stream_Range_k _) fun _ => (.bnd (hspymake_Stream_Range_k _) fun _ => (.br (hL0k _) (hL0k _))))) .none))
theorem f_b (k : Nat) : ∀ v : A, f k v = d (spymake_Stream_Next.f k) (spymake_Stream_Range.f k) (l0 k) v := fun (v0, v1) => (held_eq _).trans (by kernel_rfl)
theorem F_of (v : A) {r : R} (h : d spymake_Stream_Next.F spymake_Stream_Range.F D0 v = some r) : F v = some r :=
  join_of (l := fun L => f (L 0) v) (d := fun L => d (spymake_Stream_Next.f (L 0)) (spymake_Stream_Range.f (L 0)) (l0 (L 0)) v) (fun L => f_b (L 0) v) (d_cn (spymake_Stream_Next.F_cn 0) (spymake_Stream_Range.F_cn 0) (fun v => (D0_cn v).re [0]) v) h
noncomputable def spec (k : Nat) (args : List AV) (ss : List Slot) : Option Ans :=
  match args, ss with
  | [(.c (.ptr 128000000 0))], [(.box [(.frz (.int .i64) v0), (.int .i64 v1)])] => some ⟨R, f k (v0, v1), enc⟩
  | _, _ => none
theorem spec_ok (k : Nat) : SpecOk Tryz.prog 20 (spec k) := by
  intro args ss ans x h hx X σ w vals hp
  unfold spec at h
  split at h
  · cases h
    exact spec_of cs_ok Tryz.func20 rfl rfl dec_ok (held_eq _).symm hx hp
  · cases h
end spymake_Stream_Vec
noncomputable def t_spymake_Stream_Vec (k : Nat) := tcons 20 (spymake_Stream_Vec.spec k) (t_spymake_Stream_Range k)
theorem t_spymake_Stream_Vec_ok (n g : Nat) : SpecOk Tryz.prog g (t_spymake_Stream_Vec n g) := tcons_ok (spymake_Stream_Vec.spec_ok n) (fun g => t_spymake_Stream_Range_ok n g) g
namespace spymake_Stream_Night
abbrev R : Type := Int × Int × Int × Int × Int × Int × Int × Int × Int × Int × Int × Int × Int × Int × Int × Int × List Int × Int × List Int
abbrev A : Type := Int × List Int × Int
def lv : List (Nat × List Nat) := [(2000000, [4]), (1000012, [0, 4, 5]), (13, [0, 4, 5, 71, 72]), (1000017, [0, 4, 5, 7, 71, 72]), (1000018, [0, 4, 5, 71, 72])]
noncomputable def cs : Nat → Ctx := ctxOf tis modes t_spymake_Stream_Vec lv
theorem cs_ok (n : Nat) : CtxOk Tryz.prog (cs n) := ctxOf_ok rfl tis_ok t_spymake_Stream_Vec_ok n
def enc (r : R) : Out := ((.agg [(.int .i64 r.1), (.int .i64 r.2.1), (.int .i64 r.2.2.1), (.int .i64 r.2.2.2.1), (.int .i64 r.2.2.2.2.1), (.int .i64 r.2.2.2.2.2.1), (.int .i64 r.2.2.2.2.2.2.1), (.int .i64 r.2.2.2.2.2.2.2.1), (.int .i64 r.2.2.2.2.2.2.2.2.1), (.int .i64 r.2.2.2.2.2.2.2.2.2.1), (.int .i64 r.2.2.2.2.2.2.2.2.2.2.1), (.int .i64 r.2.2.2.2.2.2.2.2.2.2.2.1), (.int .i64 r.2.2.2.2.2.2.2.2.2.2.2.2.1), (.int .i64 r.2.2.2.2.2.2.2.2.2.2.2.2.2.1), (.int .i64 r.2.2.2.2.2.2.2.2.2.2.2.2.2.2.1), (.int .i64 r.2.2.2.2.2.2.2.2.2.2.2.2.2.2.2.1), (.sl 128000001)]), [(.box [(.frz (.int .i64) r.2.2.2.2.2.2.2.2.2.2.2.2.2.2.2.2.1), (.int .i64 r.2.2.2.2.2.2.2.2.2.2.2.2.2.2.2.2.2.1)]), (.row (.int .i64) r.2.2.2.2.2.2.2.2.2.2.2.2.2.2.2.2.2.2)])
def dec : Out → Option R
  | ((.agg [(.int .i64 v0), (.int .i64 v1), (.int .i64 v2), (.int .i64 v3), (.int .i64 v4), (.int .i64 v5), (.int .i64 v6), (.int .i64 v7), (.int .i64 v8), (.int .i64 v9), (.int .i64 v10), (.int .i64 v11), (.int .i64 v12), (.int .i64 v13), (.int .i64 v14), (.int .i64 v15), (.sl 128000001)]), [(.box [(.frz (.int .i64) v16), (.int .i64 v17)]), (.row (.int .i64) v18)]) => some (v0, v1, v2, v3, v4, v5, v6, v7, v8, v9, v10, v11, v12, v13, v14, v15, v16, v17, v18)
  | _ => none
theorem dec_ok : ∀ u y, dec u = some y → u = enc y := by
  intro u y h
  unfold dec at h
  split at h
  · cases h; rfl
  · cases h
noncomputable def b0 : Code := subF [] Tryz.f8
noncomputable def K0 (k : Nat) : Kt R := kTop (cs k) Tryz.f8 dec
noncomputable def c1000012 : Code := sub [1, 1, 1, 1, 1, 1, 1, 1] b0
noncomputable def J1000012 ( k : Nat) : Kt R := kAt (cs k) (loopN cs k) [1, 1, 1, 1, 1, 1, 1, 1] b0 (K0 k)
noncomputable def b13 : Code := sub [1, 1, 1, 1, 1, 1, 1, 1, 0, 1, 0, 0] b0
noncomputable def K13 ( k : Nat) : Kt R := kAt (cs k) (loopN cs k) [1, 1, 1, 1, 1, 1, 1, 1, 0, 1, 0] b0 (K0 k)
noncomputable def c1000018 : Code := sub [1, 1, 1] b13
noncomputable def J1000018 ( k m1 : Nat) : Kt R := kAt (cs m1) (loopN cs m1) [1, 1, 1] b13 (kLoop cs m1 b13 (K13 k))
noncomputable def c1000017 : Code := sub [1, 1, 0, 0, 1, 1] b13
noncomputable def J1000017 ( k m1 : Nat) : Kt R := kAt (cs m1) (loopN cs m1) [1, 1, 0, 0, 1, 1] b13 (kLoop cs m1 b13 (K13 k))
abbrev T0 : Type := List Int × Int × Int × Int × Int × Int × Int × Int × Int × Int × Int × Int × Int × Int × Int × Int × Int × Int × Int × Int × Int × Int × Int × Int × Int × Int × Int × Int × Int × Int × Int × Int × Int × Int × List Int × List Int
def s0 : T0 → St := fun (v0, v1, v2, v3, v4, v5, v6, v7, v8, v9, v10, v11, v12, v13, v14, v15, v16, v17, v18, v19, v20, v21, v22, v23, v24, v25, v26, v27, v28, v29, v30, v31, v32, v33, v34, v35) => ⟨87, 1, [(0, (.c (.ptr 128000000 0))), (4, (.c (.ptr 64000000 0))), (5, (.c (.ptr 64000001 0)))], [], [(128000000, (.box [(.frz (.int .i64) v0), (.int .i64 v1)])), (256000000, .gone), (64000000, (.box [(.int .i64 v2), (.int .i64 v3), (.int .i64 v4), (.int .i64 v5), (.int .i64 v6), (.int .i64 v7), (.int .i64 v8), (.int .i64 v9), (.int .i64 v10), (.int .i64 v11), (.int .i64 v12), (.int .i64 v13), (.int .i64 v14), (.int .i64 v15), (.int .i64 v16), (.int .i64 v17), (.sl 64000002)])), (64000001, (.box [(.int .i64 v18), (.int .i64 v19), (.int .i64 v20), (.int .i64 v21), (.int .i64 v22), (.int .i64 v23), (.int .i64 v24), (.int .i64 v25), (.int .i64 v26), (.int .i64 v27), (.int .i64 v28), (.int .i64 v29), (.int .i64 v30), (.int .i64 v31), (.int .i64 v32), (.int .i64 v33), (.sl 64000003)])), (64000002, (.row (.int .i64) v34)), (64000003, (.row (.int .i64) v35))]⟩
noncomputable def l0 ( k : Nat) (v : T0) : Option R := held (run (cs k) (loopN cs k) c1000012 (J1000012 k) (s0 v))
noncomputable def D0 (v : T0) : Option R := lim fun L => l0 (L 0) v
theorem D0_cn (v : T0) : Cn late (D0 v) fun L => l0 (L 0) v := of_lim
abbrev T1 : Type := Int × Int × List Int × Int × Int × Int × Int × Int × Int × Int × Int × Int × Int × Int × Int × Int × Int × Int × Int × Int × Int × Int × Int × Int × Int × Int × Int × Int × Int × Int × Int × Int × Int × Int × Int × Int × List Int × List Int
def s1 : T1 → St := fun (v0, v1, v2, v3, v4, v5, v6, v7, v8, v9, v10, v11, v12, v13, v14, v15, v16, v17, v18, v19, v20, v21, v22, v23, v24, v25, v26, v27, v28, v29, v30, v31, v32, v33, v34, v35, v36, v37) => ⟨87, 1, [(0, (.c (.ptr 128000000 0))), (4, (.c (.ptr 64000000 0))), (5, (.c (.ptr 64000001 0))), (71, (.c (.int .i64 v0))), (72, (.c (.int .i64 v1)))], [], [(128000000, (.box [(.frz (.int .i64) v2), (.int .i64 v3)])), (256000000, .gone), (64000000, (.box [(.int .i64 v4), (.int .i64 v5), (.int .i64 v6), (.int .i64 v7), (.int .i64 v8), (.int .i64 v9), (.int .i64 v10), (.int .i64 v11), (.int .i64 v12), (.int .i64 v13), (.int .i64 v14), (.int .i64 v15), (.int .i64 v16), (.int .i64 v17), (.int .i64 v18), (.int .i64 v19), (.sl 64000002)])), (64000001, (.box [(.int .i64 v20), (.int .i64 v21), (.int .i64 v22), (.int .i64 v23), (.int .i64 v24), (.int .i64 v25), (.int .i64 v26), (.int .i64 v27), (.int .i64 v28), (.int .i64 v29), (.int .i64 v30), (.int .i64 v31), (.int .i64 v32), (.int .i64 v33), (.int .i64 v34), (.int .i64 v35), (.sl 64000003)])), (64000002, (.row (.int .i64) v36)), (64000003, (.row (.int .i64) v37))]⟩
noncomputable def l1 ( k n : Nat) (v : T1) : Option R := held (loopN cs n b13 (K13 k) (s1 v))
noncomputable def D1 (v : T1) : Option R := lim fun L => l1 (L 0) (L 1) v
theorem D1_cn (v : T1) : Cn late (D1 v) fun L => l1 (L 0) (L 1) v := of_lim
abbrev T2 : Type := Int × Int × Int × List Int × Int × Int × Int × Int × Int × Int × Int × Int × Int × Int × Int × Int × Int × Int × Int × Int × Int × Int × Int × Int × Int × Int × Int × Int × Int × Int × Int × Int × Int × Int × Int × Int × Int × List Int × List Int
def s2 : T2 → St := fun (v0, v1, v2, v3, v4, v5, v6, v7, v8, v9, v10, v11, v12, v13, v14, v15, v16, v17, v18, v19, v20, v21, v22, v23, v24, v25, v26, v27, v28, v29, v30, v31, v32, v33, v34, v35, v36, v37, v38) => ⟨87, 1, [(0, (.c (.ptr 128000000 0))), (4, (.c (.ptr 64000000 0))), (5, (.c (.ptr 64000001 0))), (7, (.c (.int .i64 v0))), (71, (.c (.int .i64 v1))), (72, (.c (.int .i64 v2)))], [], [(128000000, (.box [(.frz (.int .i64) v3), (.int .i64 v4)])), (256000000, .gone), (64000000, (.box [(.int .i64 v5), (.int .i64 v6), (.int .i64 v7), (.int .i64 v8), (.int .i64 v9), (.int .i64 v10), (.int .i64 v11), (.int .i64 v12), (.int .i64 v13), (.int .i64 v14), (.int .i64 v15), (.int .i64 v16), (.int .i64 v17), (.int .i64 v18), (.int .i64 v19), (.int .i64 v20), (.sl 64000002)])), (64000001, (.box [(.int .i64 v21), (.int .i64 v22), (.int .i64 v23), (.int .i64 v24), (.int .i64 v25), (.int .i64 v26), (.int .i64 v27), (.int .i64 v28), (.int .i64 v29), (.int .i64 v30), (.int .i64 v31), (.int .i64 v32), (.int .i64 v33), (.int .i64 v34), (.int .i64 v35), (.int .i64 v36), (.sl 64000003)])), (64000002, (.row (.int .i64) v37)), (64000003, (.row (.int .i64) v38))]⟩
noncomputable def l2 ( k m1 : Nat) (v : T2) : Option R := held (run (cs m1) (loopN cs m1) c1000017 (J1000017 k m1) (s2 v))
noncomputable def D2 (v : T2) : Option R := lim fun L => l2 (L 0) (L 1) v
theorem D2_cn (v : T2) : Cn late (D2 v) fun L => l2 (L 0) (L 1) v := of_lim
abbrev T3 : Type := Int × Int × List Int × Int × Int × Int × Int × Int × Int × Int × Int × Int × Int × Int × Int × Int × Int × Int × Int × Int × Int × Int × Int × Int × Int × Int × Int × Int × Int × Int × Int × Int × Int × Int × Int × Int × List Int × List Int
def s3 : T3 → St := fun (v0, v1, v2, v3, v4, v5, v6, v7, v8, v9, v10, v11, v12, v13, v14, v15, v16, v17, v18, v19, v20, v21, v22, v23, v24, v25, v26, v27, v28, v29, v30, v31, v32, v33, v34, v35, v36, v37) => ⟨87, 1, [(0, (.c (.ptr 128000000 0))), (4, (.c (.ptr 64000000 0))), (5, (.c (.ptr 64000001 0))), (71, (.c (.int .i64 v0))), (72, (.c (.int .i64 v1)))], [], [(128000000, (.box [(.frz (.int .i64) v2), (.int .i64 v3)])), (256000000, .gone), (64000000, (.box [(.int .i64 v4), (.int .i64 v5), (.int .i64 v6), (.int .i64 v7), (.int .i64 v8), (.int .i64 v9), (.int .i64 v10), (.int .i64 v11), (.int .i64 v12), (.int .i64 v13), (.int .i64 v14), (.int .i64 v15), (.int .i64 v16), (.int .i64 v17), (.int .i64 v18), (.int .i64 v19), (.sl 64000002)])), (64000001, (.box [(.int .i64 v20), (.int .i64 v21), (.int .i64 v22), (.int .i64 v23), (.int .i64 v24), (.int .i64 v25), (.int .i64 v26), (.int .i64 v27), (.int .i64 v28), (.int .i64 v29), (.int .i64 v30), (.int .i64 v31), (.int .i64 v32), (.int .i64 v33), (.int .i64 v34), (.int .i64 v35), (.sl 64000003)])), (64000002, (.row (.int .i64) v36)), (64000003, (.row (.int .i64) v37))]⟩
noncomputable def l3 ( k m1 : Nat) (v : T3) : Option R := held (run (cs m1) (loopN cs m1) c1000018 (J1000018 k m1) (s3 v))
noncomputable def D3 (v : T3) : Option R := lim fun L => l3 (L 0) (L 1) v
theorem D3_cn (v : T3) : Cn late (D3 v) fun L => l3 (L 0) (L 1) v := of_lim
def d0 (L1k : T1 → Option R) : T0 → Option R := fun (v0, v1, v2, v3, v4, v5, v6, v7, v8, v9, v10, v11, v12, v13, v14, v15, v16, v17, v18, v19, v20, v21, v22, v23, v24, v25, v26, v27, v28, v29, v30, v31, v32, v33, v34, v35) =>
L1k (v26, 0, v0, v1, v2, v3, v4, v5, v6, v7, v8, v9, v10, v11, v12, v13, v14, v15, v16, v17, v18, v19, v20, v21, v22, v23, v24, v25, v26, v27, v28, v29, v30, v31, v32, v33, v34, v35)
theorem d0_cn {ι : Type} {E : Fil ι} {L1k : T1 → Option R} {L1k' : ι → T1 → Option R} (hL1k : ∀ v, Cn E (L1k v) fun i => L1k' i v) : ∀ v : T0, Cn E (d0 L1k v) fun i => d0 (L1k' i) v := fun (v0, v1, v2, v3, v4, v5, v6, v7, v8, v9, v10, v11, v12, v13, v14, v15, v16, v17, v18, v19, v20, v21, v22, v23, v24, v25, v26, v27, v28, v29, v30, v31, v32, v33, v34, v35) => (hL1k _)
theorem l0_b ( k : Nat) : ∀ v : T0, run (cs k) (loopN cs k) c1000012 (J1000012 k) (s0 v) = d0 (l1 k k) v := fun (v0, v1, v2, v3, v4, v5, v6, v7, v8, v9, v10, v11, v12, v13, v14, v15, v16, v17, v18, v19, v20, v21, v22, v23, v24, v25, v26, v27, v28, v29, v30, v31, v32, v33, v34, v35) => by kernel_rfl
theorem D0_of (v : T0) {r : R} (h : d0 D1 v = some r) : D0 v = some r :=
  join_of (l := fun L => l0 (L 0) v) (d := fun L => d0 (l1 (L 0) (L 0)) v) (fun L => (held_eq _).trans (l0_b (L 0) v)) (d0_cn (fun v => (D1_cn v).re [0, 0]) v) h
def d1 (spymake_Stream_Next_m1 : spymake_Stream_Next.A → Option spymake_Stream_Next.R) (L2m1 : T2 → Option R) : T1 → Option R := fun (v0, v1, v2, v3, v4, v5, v6, v7, v8, v9, v10, v11, v12, v13, v14, v15, v16, v17, v18, v19, v20, v21, v22, v23, v24, v25, v26, v27, v28, v29, v30, v31, v32, v33, v34, v35, v36, v37) =>
br (decide (v1 < v0))
  (bnd (spymake_Stream_Next_m1 (5, v2, v3)) fun r =>
    br (decide (r.fst = 0))
      (bnd (spymake_Stream_Next_m1 (5, r.snd.fst, r.snd.snd)) fun r =>
        L2m1 (r.fst, v0, v1, r.snd.fst, r.snd.snd, v4, v5, v6, v7, v8, v9, v10, v11, v12, v13, v14, v15, v16, v17, v18, v19, v20, v21, v22, v23, v24, v25, v26, v27, v28, v29, v30, v31, v32, v33, v34, v35, v36, v37))
      (L2m1 (0, v0, v1, r.snd.fst, r.snd.snd, v4, v5, v6, v7, v8, v9, v10, v11, v12, v13, v14, v15, v16, v17, v18, v19, v20, v21, v22, v23, v24, v25, v26, v27, v28, v29, v30, v31, v32, v33, v34, v35, v36, v37)))
  (some (v20, v21, v22, v23, v24, v25, v26, v27, v28, v29, v30, v31, v32, v33, v34, v35, v2, v3, v37))
theorem d1_cn {ι : Type} {E : Fil ι} {spymake_Stream_Next_m1 : spymake_Stream_Next.A → Option spymake_Stream_Next.R} {spymake_Stream_Next_m1' : ι → spymake_Stream_Next.A → Option spymake_Stream_Next.R} (hspymake_Stream_Next_m1 : ∀ v, Cn E (spymake_Stream_Next_m1 v) fun i => spymake_Stream_Next_m1' i v) {L2m1 : T2 → Option R} {L2m1' : ι → T2 → Option R} (hL2m1 : ∀ v, Cn E (L2m1 v) fun i => L2m1' i v) : ∀ v : T1, Cn E (d1 spymake_Stream_Next_m1 L2m1 v) fun i => d1 (spymake_Stream_Next_m1' i) (L2m1' i) v := fun (v0, v1, v2, v3, v4, v5, v6, v7, v8, v9, v10, v11, v12, v13, v14, v15, v16, v17, v18, v19, v20, v21, v22, v23, v24, v25, v26, v27, v28, v29, v30, v31, v32, v33, v34, v35, v36, v37) => (.br (.bnd (hspymake_Stream_Next_m1 _) fun _ => (.br (.bnd (hspymake_Stream_Next_m1 _) fun _ => (hL2m1 _)) (hL2m1 _))) .some)
theorem l1_b ( k m1 : Nat) : ∀ v : T1, run (cs m1) (loopN cs m1) b13 (kLoop cs m1 b13 (K13 k)) (s1 v) = d1 (spymake_Stream_Next.f m1) (l2 k m1) v := fun (v0, v1, v2, v3, v4, v5, v6, v7, v8, v9, v10, v11, v12, v13, v14, v15, v16, v17, v18, v19, v20, v21, v22, v23, v24, v25, v26, v27, v28, v29, v30, v31, v32, v33, v34, v35, v36, v37) => by kernel_rfl
theorem D1_of (v : T1) {r : R} (h : d1 spymake_Stream_Next.F D2 v = some r) : D1 v = some r :=
  loop_of 1 (l := fun L => l1 (L 0) (L 1) v) (d := fun L => d1 (spymake_Stream_Next.f (L 1)) (l2 (L 0) (L 1)) v) (fun L n hn => by show l1 (L 0) (L 1) v = _; rw [hn]; exact (held_eq _).trans ((loopN_succ _ _ _ _ _).trans (l1_b (L 0) n v))) (d1_cn (spymake_Stream_Next.F_cn 1) (fun v => (D2_cn v).re [0, 1]) v) h
def d2 (L3m1 : T3 → Option R) : T2 → Option R := fun (v0, v1, v2, v3, v4, v5, v6, v7, v8, v9, v10, v11, v12, v13, v14, v15, v16, v17, v18, v19, v20, v21, v22, v23, v24, v25, v26, v27, v28, v29, v30, v31, v32, v33, v34, v35, v36, v37, v38) =>
br (decide (v38.length + [v0].length ≤ 140737488355328 / 8))
  (L3m1 (v1, v2, v3, v4, v5, v6, v7, v8, v9, v10, v11, v12, v13, v14, v15, v16, v17, v18, v19, v20, v21, v22, v23, v24, v25, v26, v27, v28, v29, v30, v31, v32, v33, v34, v35, v36, v37, v38 ++ [v0])) none
theorem d2_cn {ι : Type} {E : Fil ι} {L3m1 : T3 → Option R} {L3m1' : ι → T3 → Option R} (hL3m1 : ∀ v, Cn E (L3m1 v) fun i => L3m1' i v) : ∀ v : T2, Cn E (d2 L3m1 v) fun i => d2 (L3m1' i) v := fun (v0, v1, v2, v3, v4, v5, v6, v7, v8, v9, v10, v11, v12, v13, v14, v15, v16, v17, v18, v19, v20, v21, v22, v23, v24, v25, v26, v27, v28, v29, v30, v31, v32, v33, v34, v35, v36, v37, v38) => (.br (hL3m1 _) .none)
theorem l2_b ( k m1 : Nat) : ∀ v : T2, run (cs m1) (loopN cs m1) c1000017 (J1000017 k m1) (s2 v) = d2 (l3 k m1) v := fun (v0, v1, v2, v3, v4, v5, v6, v7, v8, v9, v10, v11, v12, v13, v14, v15, v16, v17, v18, v19, v20, v21, v22, v23, v24, v25, v26, v27, v28, v29, v30, v31, v32, v33, v34, v35, v36, v37, v38) => by kernel_rfl
theorem D2_of (v : T2) {r : R} (h : d2 D3 v = some r) : D2 v = some r :=
  join_of (l := fun L => l2 (L 0) (L 1) v) (d := fun L => d2 (l3 (L 0) (L 1)) v) (fun L => (held_eq _).trans (l2_b (L 0) (L 1) v)) (d2_cn (fun v => (D3_cn v).re [0, 1]) v) h
def d3 (L1m1 : T1 → Option R) : T3 → Option R := fun (v0, v1, v2, v3, v4, v5, v6, v7, v8, v9, v10, v11, v12, v13, v14, v15, v16, v17, v18, v19, v20, v21, v22, v23, v24, v25, v26, v27, v28, v29, v30, v31, v32, v33, v34, v35, v36, v37) =>
L1m1 (v0, wrap IntKind.i64 (v1 + 1), v2, v3, v4, v5, v6, v7, v8, v9, v10, v11, v12, v13, v14, v15, v16, v17, v18, v19, v20, v21, v22, v23, v24, v25, v26, v27, v28, v29, v30, v31, v32, v33, v34, v35, v36, v37)
theorem d3_cn {ι : Type} {E : Fil ι} {L1m1 : T1 → Option R} {L1m1' : ι → T1 → Option R} (hL1m1 : ∀ v, Cn E (L1m1 v) fun i => L1m1' i v) : ∀ v : T3, Cn E (d3 L1m1 v) fun i => d3 (L1m1' i) v := fun (v0, v1, v2, v3, v4, v5, v6, v7, v8, v9, v10, v11, v12, v13, v14, v15, v16, v17, v18, v19, v20, v21, v22, v23, v24, v25, v26, v27, v28, v29, v30, v31, v32, v33, v34, v35, v36, v37) => (hL1m1 _)
theorem l3_b ( k m1 : Nat) : ∀ v : T3, run (cs m1) (loopN cs m1) c1000018 (J1000018 k m1) (s3 v) = d3 (l1 k m1) v := fun (v0, v1, v2, v3, v4, v5, v6, v7, v8, v9, v10, v11, v12, v13, v14, v15, v16, v17, v18, v19, v20, v21, v22, v23, v24, v25, v26, v27, v28, v29, v30, v31, v32, v33, v34, v35, v36, v37) => by kernel_rfl
theorem D3_of (v : T3) {r : R} (h : d3 D1 v = some r) : D3 v = some r :=
  join_of (l := fun L => l3 (L 0) (L 1) v) (d := fun L => d3 (l1 (L 0) (L 1)) v) (fun L => (held_eq _).trans (l3_b (L 0) (L 1) v)) (d3_cn (fun v => (D1_cn v).re [0, 1]) v) h
noncomputable def f (k : Nat) : A → Option R := fun (v0, v1, v2) => held (runFn cs k Tryz.f8 [(.c (.ptr 128000000 0)), (.c (.int .i64 v0))] [(.box [(.frz (.int .i64) v1), (.int .i64 v2)])] dec)
noncomputable def F (v : A) : Option R := lim fun L => f (L 0) v
theorem F_cn (x : Nat) (v : A) : Cn late (F v) fun L => f (L x) v := of_lim.re [x]
def d (spymake_Stream_Range_k : spymake_Stream_Range.A → Option spymake_Stream_Range.R) (spymake_Stream_Next_k : spymake_Stream_Next.A → Option spymake_Stream_Next.R) (spymake_Stream_Vec_k : spymake_Stream_Vec.A → Option spymake_Stream_Vec.R) (L0k : T0 → Option R) : A → Option R := fun (v0, v1, v2) =>
bnd (spymake_Stream_Range_k (1, v0, v1, v2)) fun r =>
  bnd (spymake_Stream_Range_k (60, 1800, r.snd.fst, r.snd.snd)) fun r_1 =>
    bnd (spymake_Stream_Range_k (-1000, 1000, r_1.snd.fst, r_1.snd.snd)) fun r_2 =>
      bnd (spymake_Stream_Range_k (-16, 16, r_2.snd.fst, r_2.snd.snd)) fun r_3 =>
        bnd (spymake_Stream_Next_k (64, r_3.snd.fst, r_3.snd.snd)) fun r_4 =>
          bnd (spymake_Stream_Range_k (-1000, 1000, r_4.snd.fst, r_4.snd.snd)) fun r_5 =>
            bnd (spymake_Stream_Next_k (1073741824, r_5.snd.fst, r_5.snd.snd)) fun r_6 =>
              bnd (spymake_Stream_Next_k (4, r_6.snd.fst, r_6.snd.snd)) fun r_7 =>
                br (decide (0 ≤ r_7.fst ∧ r_7.fst < (↑[(99429, 1994), (50, 1), (1, 1), (100, 1)].length : Int)))
                  (bnd (spymake_Stream_Vec_k (r_7.snd.fst, r_7.snd.snd)) fun r_8 =>
                    bnd (spymake_Stream_Vec_k (r_8.snd.snd.snd.fst, r_8.snd.snd.snd.snd)) fun r_9 =>
                      bnd (spymake_Stream_Next_k (3, r_9.snd.snd.snd.fst, r_9.snd.snd.snd.snd)) fun r_10 =>
                        bnd (spymake_Stream_Next_k (4, r_10.snd.fst, r_10.snd.snd)) fun r_11 =>
                          br (decide (0 < r_11.fst))
                            (br (decide (wrap IntKind.i64 (r_3.fst * 67108864) < 0))
                              (L0k
                                (r_11.snd.fst, r_11.snd.snd, 0, 0, 0, 0, 0, 0, 0, 0, 0, 0, 0, 0, 0, 0, 0, 0, -536870912, wrap IntKind.i64 (r_4.fst * 67108864), r_5.fst, r_6.fst,
                                  (rd ((Ty.int IntKind.i64).pair (Ty.int IntKind.i64)) [(99429, 1994), (50, 1), (1, 1), (100, 1)] r_7.fst).fst,
                                  (rd ((Ty.int IntKind.i64).pair (Ty.int IntKind.i64)) [(99429, 1994), (50, 1), (1, 1), (100, 1)] r_7.fst).snd, wrap IntKind.i64 (r_2.fst * 997000), wrap IntKind.i64 (r_1.fst * 1000),
                                  r.fst, 1, 0, 40, r_9.fst, r_9.snd.fst, r_9.snd.snd.fst, 0, [], []))
                              (L0k
                                (r_11.snd.fst, r_11.snd.snd, 0, 0, 0, 0, 0, 0, 0, 0, 0, 0, 0, 0, 0, 0, 0, 0, 536870912, wrap IntKind.i64 (r_4.fst * 67108864), r_5.fst, r_6.fst,
                                  (rd ((Ty.int IntKind.i64).pair (Ty.int IntKind.i64)) [(99429, 1994), (50, 1), (1, 1), (100, 1)] r_7.fst).fst,
                                  (rd ((Ty.int IntKind.i64).pair (Ty.int IntKind.i64)) [(99429, 1994), (50, 1), (1, 1), (100, 1)] r_7.fst).snd, wrap IntKind.i64 (r_2.fst * 997000), wrap IntKind.i64 (r_1.fst * 1000),
                                  r.fst, 1, 0, -40, r_9.fst, r_9.snd.fst, r_9.snd.snd.fst, 0, [], [])))
                            (L0k
                              (r_11.snd.fst, r_11.snd.snd, 0, 0, 0, 0, 0, 0, 0, 0, 0, 0, 0, 0, 0, 0, 0, 0, wrap IntKind.i64 (r_3.fst * 67108864), wrap IntKind.i64 (r_4.fst * 67108864), r_5.fst, r_6.fst,
                                (rd ((Ty.int IntKind.i64).pair (Ty.int IntKind.i64)) [(99429, 1994), (50, 1), (1, 1), (100, 1)] r_7.fst).fst,
                                (rd ((Ty.int IntKind.i64).pair (Ty.int IntKind.i64)) [(99429, 1994), (50, 1), (1, 1), (100, 1)] r_7.fst).snd, wrap IntKind.i64 (r_2.fst * 997000), wrap IntKind.i64 (r_1.fst * 1000), r.fst,
                                r_8.fst, r_8.snd.fst, r_8.snd.snd.fst, r_9.fst, r_9.snd.fst, r_9.snd.snd.fst, wrap IntKind.i64 (wrap IntKind.i64 (0 - r_10.fst) * 134217728), [], [])))
                  none
theorem d_cn {ι : Type} {E : Fil ι} {spymake_Stream_Range_k : spymake_Stream_Range.A → Option spymake_Stream_Range.R} {spymake_Stream_Range_k' : ι → spymake_Stream_Range.A → Option spymake_Stream_Range.R} (hspymake_Stream_Range_k : ∀ v, Cn E (spymake_Stream_Range_k v) fun i => spymake_Stream_Range_k' i v) {spymake_Stream_Next_k : spymake_Stream_Next.A → Option spymake_Stream_Next.R} {spymake_Stream_Next_k' : ι → spymake_Stream_Next.A → Option spymake_Stream_Next.R} (hspymake_Stream_Next_k : ∀ v, Cn E (spymake_Stream_Next_k v) fun i => spymake_Stream_Next_k' i v) {spymake_Stream_Vec_k : spymake_Stream_Vec.A → Option spymake_Stream_Vec.R} {spymake_Stream_Vec_k' : ι → spymake_Stream_Vec.A → Option spymake_Stream_Vec.R} (hspymake_Stream_Vec_k : ∀ v, Cn E (spymake_Stream_Vec_k v) fun i => spymake_Stream_Vec_k' i v) {L0k : T0 → Option R} {L0k' : ι → T0 → Option R} (hL0k : ∀ v, Cn E (L0k v) fun i => L0k' i v) : ∀ v : A, Cn E (d spymake_Stream_Range_k spymake_Stream_Next_k spymake_Stream_Vec_k L0k v) fun i => d (spymake_Stream_Range_k' i) (spymake_Stream_Next_k' i) (spymake_Stream_Vec_k' i) (L0k' i) v := fun (v0, v1, v2) => (.bnd (hspymake_Stream_Range_k _) fun _ => (.bnd (hspymake_Stream_Range_k _) fun _ => (.bnd (hspymake_Stream_Range_k _) fun _ => (.bnd (hspymake_Stream_Range_k _) fun _ => (.bnd (hspymake_Stream_Next_k _) fun _ => (.bnd (hspymake_Stream_Range_k _) fun _ => (.bnd (hspymake_Stream_Next_k _) fun _ => (.bnd (hspymake_Stream_Next_k _) fun _ => (.br (.bnd (hspymake_Stream_Vec_k _) fun _ => (.bnd (hspymake_Stream_Vec_k _) fun _ => (.bnd (hspymake_Stream_Next_k _) fun _ => (.bnd (hspymake_Stream_Next_k _) fun _ => (.br (.br (hL0k _) (hL0k _)) (hL0k _)))))) .none)))))))))
theorem f_b (k : Nat) : ∀ v : A, f k v = d (spymake_Stream_Range.f k) (spymake_Stream_Next.f k) (spymake_Stream_Vec.f k) (l0 k) v := fun (v0, v1, v2) => (held_eq _).trans (by kernel_rfl)
theorem F_of (v : A) {r : R} (h : d spymake_Stream_Range.F spymake_Stream_Next.F spymake_Stream_Vec.F D0 v = some r) : F v = some r :=
  join_of (l := fun L => f (L 0) v) (d := fun L => d (spymake_Stream_Range.f (L 0)) (spymake_Stream_Next.f (L 0)) (spymake_Stream_Vec.f (L 0)) (l0 (L 0)) v) (fun L => f_b (L 0) v) (d_cn (spymake_Stream_Range.F_cn 0) (spymake_Stream_Next.F_cn 0) (spymake_Stream_Vec.F_cn 0) (fun v => (D0_cn v).re [0]) v) h
noncomputable def spec (k : Nat) (args : List AV) (ss : List Slot) : Option Ans :=
  match args, ss with
  | [(.c (.ptr 128000000 0)), (.c (.int .i64 v0))], [(.box [(.frz (.int .i64) v1), (.int .i64 v2)])] => some ⟨R, f k (v0, v1, v2), enc⟩
  | _, _ => none
theorem spec_ok (k : Nat) : SpecOk Tryz.prog 8 (spec k) := by
  intro args ss ans x h hx X σ w vals hp
  unfold spec at h
  split at h
  · cases h
    exact spec_of cs_ok Tryz.func8 rfl rfl dec_ok (held_eq _).symm hx hp
  · cases h
end spymake_Stream_Night
noncomputable def t_spymake_Stream_Night (k : Nat) := tcons 8 (spymake_Stream_Night.spec k) (t_spymake_Stream_Vec k)
theorem t_spymake_Stream_Night_ok (n g : Nat) : SpecOk Tryz.prog g (t_spymake_Stream_Night n g) := tcons_ok (spymake_Stream_Night.spec_ok n) (fun g => t_spymake_Stream_Vec_ok n g) g
end Go.Proofs.RWin
