import Derived.Test.YtpcijpghkeaimaaRGuard1
import Derived.Test.YtpcijpghkeaimaaProg
namespace Go.Proofs.RGuard
open Go Go.Eng Go.Proofs
set_option maxRecDepth 100000
set_option linter.unusedVariables false
namespace slices_Concat_Input
abbrev R : Type := List (List (Int × Int) × Bool × Bool × Bool × Bool × Bool)
abbrev A : Type := List (List (List (Int × Int) × Bool × Bool × Bool × Bool × Bool))
def lv : List (Nat × List Nat) := [(2000000, [2]), (3, [0, 3, 9, 10, 11]), (11, [6, 25, 26, 27])]
noncomputable def cs : Nat → Ctx := ctxOf tis modes t_slices_Grow_Input lv
theorem cs_ok (n : Nat) : CtxOk Try.prog (cs n) := ctxOf_ok rfl tis_ok t_slices_Grow_Input_ok n
def enc (r : R) : Out := ((.c (.sl 128000000)), [(.row (.pair (.slice (.pair (.int .i64) (.int .i64))) (.pair .bool (.pair .bool (.pair .bool (.pair .bool .bool))))) r)])
def dec : Out → Option R
  | ((.c (.sl 128000000)), [(.row (.pair (.slice (.pair (.int .i64) (.int .i64))) (.pair .bool (.pair .bool (.pair .bool (.pair .bool .bool))))) v0)]) => some v0
  | _ => none
theorem dec_ok : ∀ u y, dec u = some y → u = enc y := by
  intro u y h
  unfold dec at h
  split at h
  · cases h; rfl
  · cases h
noncomputable def b0 : Code := subF [] Try.f28
noncomputable def K0 (k : Nat) : Kt R := kTop (cs k) Try.f28 dec
noncomputable def b3 : Code := sub [1, 1, 0, 1, 0, 0] b0
noncomputable def K3 ( k : Nat) : Kt R := kAt (cs k) (loopN cs k) [1, 1, 0, 1, 0] b0 (K0 k)
noncomputable def b11 : Code := sub [1, 1, 1, 1, 0, 1, 0, 0] b0
noncomputable def K11 ( k : Nat) : Kt R := kAt (cs k) (loopN cs k) [1, 1, 1, 1, 0, 1, 0] b0 (K0 k)
abbrev T0 : Type := List (List (List (Int × Int) × Bool × Bool × Bool × Bool × Bool)) × Int × List (List (List (Int × Int) × Bool × Bool × Bool × Bool × Bool)) × Int × Int
def s0 : T0 → St := fun (v0, v1, v2, v3, v4) => ⟨36, 0, [(0, (.c (.frz (.slice (.pair (.slice (.pair (.int .i64) (.int .i64))) (.pair .bool (.pair .bool (.pair .bool (.pair .bool .bool)))))) v0))), (3, (.c (.int .i64 v1))), (9, (.c (.frz (.slice (.pair (.slice (.pair (.int .i64) (.int .i64))) (.pair .bool (.pair .bool (.pair .bool (.pair .bool .bool)))))) v2))), (10, (.c (.int .i64 v3))), (11, (.c (.int .i64 v4)))], [], [(256000000, .gone)]⟩
noncomputable def l0 ( k n : Nat) (v : T0) : Option R := held (loopN cs n b3 (K3 k) (s0 v))
noncomputable def D0 (v : T0) : Option R := lim fun L => l0 (L 0) (L 1) v
theorem D0_cn (v : T0) : Cn late (D0 v) fun L => l0 (L 0) (L 1) v := of_lim
abbrev T1 : Type := List (List (List (Int × Int) × Bool × Bool × Bool × Bool × Bool)) × Int × Int × List (List (Int × Int) × Bool × Bool × Bool × Bool × Bool)
def s1 : T1 → St := fun (v0, v1, v2, v3) => ⟨36, 0, [(6, (.c (.sl 64000000))), (25, (.c (.frz (.slice (.pair (.slice (.pair (.int .i64) (.int .i64))) (.pair .bool (.pair .bool (.pair .bool (.pair .bool .bool)))))) v0))), (26, (.c (.int .i64 v1))), (27, (.c (.int .i64 v2)))], [], [(256000000, .gone), (64000000, (.row (.pair (.slice (.pair (.int .i64) (.int .i64))) (.pair .bool (.pair .bool (.pair .bool (.pair .bool .bool))))) v3))]⟩
noncomputable def l1 ( k n : Nat) (v : T1) : Option R := held (loopN cs n b11 (K11 k) (s1 v))
noncomputable def D1 (v : T1) : Option R := lim fun L => l1 (L 0) (L 1) v
theorem D1_cn (v : T1) : Cn late (D1 v) fun L => l1 (L 0) (L 1) v := of_lim
def d0 (L0m1 : T0 → Option R) (slices_Grow_Input_k : slices_Grow_Input.A → Option slices_Grow_Input.R) (L1k : T1 → Option R) : T0 → Option R := fun (v0, v1, v2, v3, v4) =>
br (decide (v4 < v3))
  (br (decide (0 ≤ v4 ∧ v4 < (↑v2.length : Int)))
    (br (decide (wrap IntKind.i64 (v1 + (↑(List.length (rd (((Ty.int IntKind.i64).pair (Ty.int IntKind.i64)).slice.pair ty2).slice v2 v4)) : Int)) < 0))
      none
      (L0m1
        (v0, wrap IntKind.i64 (v1 + (↑(List.length (rd (((Ty.int IntKind.i64).pair (Ty.int IntKind.i64)).slice.pair ty2).slice v2 v4)) : Int)), v2, v3,
          wrap IntKind.i64 (v4 + 1))))
    none)
  (bnd (slices_Grow_Input_k v1) fun r => L1k (v0, (↑v0.length : Int), 0, r))
theorem d0_cn {ι : Type} {E : Fil ι} {L0m1 : T0 → Option R} {L0m1' : ι → T0 → Option R} (hL0m1 : ∀ v, Cn E (L0m1 v) fun i => L0m1' i v) {slices_Grow_Input_k : slices_Grow_Input.A → Option slices_Grow_Input.R} {slices_Grow_Input_k' : ι → slices_Grow_Input.A → Option slices_Grow_Input.R} (hslices_Grow_Input_k : ∀ v, Cn E (slices_Grow_Input_k v) fun i => slices_Grow_Input_k' i v) {L1k : T1 → Option R} {L1k' : ι → T1 → Option R} (hL1k : ∀ v, Cn E (L1k v) fun i => L1k' i v) : ∀ v : T0, Cn E (d0 L0m1 slices_Grow_Input_k L1k v) fun i => d0 (L0m1' i) (slices_Grow_Input_k' i) (L1k' i) v := fun (v0, v1, v2, v3, v4) => (.br (.br (.br .none (hL0m1 _)) .none) (.bnd (hslices_Grow_Input_k _) fun _ => (hL1k _)))
theorem l0_b ( k m1 : Nat) : ∀ v : T0, run (cs m1) (loopN cs m1) b3 (kLoop cs m1 b3 (K3 k)) (s0 v) = d0 (l0 k m1) (slices_Grow_Input.f k) (l1 k k) v := fun (v0, v1, v2, v3, v4) => by kernel_rfl
theorem D0_of (v : T0) {r : R} (h : d0 D0 slices_Grow_Input.F D1 v = some r) : D0 v = some r :=
  loop_of 1 (l := fun L => l0 (L 0) (L 1) v) (d := fun L => d0 (l0 (L 0) (L 1)) (slices_Grow_Input.f (L 0)) (l1 (L 0) (L 0)) v) (fun L n hn => by show l0 (L 0) (L 1) v = _; rw [hn]; exact (held_eq _).trans ((loopN_succ _ _ _ _ _).trans (l0_b (L 0) n v))) (d0_cn (fun v => (D0_cn v).re [0, 1]) (slices_Grow_Input.F_cn 0) (fun v => (D1_cn v).re [0, 0]) v) h
def d1 (L1m1 : T1 → Option R) : T1 → Option R := fun (v0, v1, v2, v3) =>
br (decide (v2 < v1))
  (br (decide (0 ≤ v2 ∧ v2 < (↑v0.length : Int)))
    (br (decide (v3.length + List.length (rd (((Ty.int IntKind.i64).pair (Ty.int IntKind.i64)).slice.pair ty2).slice v0 v2) ≤ 140737488355328 / 32))
      (L1m1 (v0, v1, wrap IntKind.i64 (v2 + 1), v3 ++ rd (((Ty.int IntKind.i64).pair (Ty.int IntKind.i64)).slice.pair ty2).slice v0 v2)) none)
    none)
  (some v3)
theorem d1_cn {ι : Type} {E : Fil ι} {L1m1 : T1 → Option R} {L1m1' : ι → T1 → Option R} (hL1m1 : ∀ v, Cn E (L1m1 v) fun i => L1m1' i v) : ∀ v : T1, Cn E (d1 L1m1 v) fun i => d1 (L1m1' i) v := fun (v0, v1, v2, v3) => (.br (.br (.br (hL1m1 _) .none) .none) .some)
theorem l1_b ( k m1 : Nat) : ∀ v : T1, run (cs m1) (loopN cs m1) b11 (kLoop cs m1 b11 (K11 k)) (s1 v) = d1 (l1 k m1) v := fun (v0, v1, v2, v3) => by kernel_rfl
theorem D1_of (v : T1) {r : R} (h : d1 D1 v = some r) : D1 v = some r :=
  loop_of 1 (l := fun L => l1 (L 0) (L 1) v) (d := fun L => d1 (l1 (L 0) (L 1)) v) (fun L n hn => by show l1 (L 0) (L 1) v = _; rw [hn]; exact (held_eq _).trans ((loopN_succ _ _ _ _ _).trans (l1_b (L 0) n v))) (d1_cn (fun v => (D1_cn v).re [0, 1]) v) h
noncomputable def f (k : Nat) : A → Option R := fun v0 => held (runFn cs k Try.f28 [(.c (.frz (.slice (.pair (.slice (.pair (.int .i64) (.int .i64))) (.pair .bool (.pair .bool (.pair .bool (.pair .bool .bool)))))) v0))] [] dec)
noncomputable def F (v : A) : Option R := lim fun L => f (L 0) v
theorem F_cn (x : Nat) (v : A) : Cn late (F v) fun L => f (L x) v := of_lim.re [x]
def d (L0k : T0 → Option R) : A → Option R := fun v0 =>
L0k (v0, 0, v0, (↑v0.length : Int), 0)
theorem d_cn {ι : Type} {E : Fil ι} {L0k : T0 → Option R} {L0k' : ι → T0 → Option R} (hL0k : ∀ v, Cn E (L0k v) fun i => L0k' i v) : ∀ v : A, Cn E (d L0k v) fun i => d (L0k' i) v := fun v0 => (hL0k _)
theorem f_b (k : Nat) : ∀ v : A, f k v = d (l0 k k) v := fun v0 => (held_eq _).trans (by kernel_rfl)
theorem F_of (v : A) {r : R} (h : d D0 v = some r) : F v = some r :=
  join_of (l := fun L => f (L 0) v) (d := fun L => d (l0 (L 0) (L 0)) v) (fun L => f_b (L 0) v) (d_cn (fun v => (D0_cn v).re [0, 0]) v) h
noncomputable def spec (k : Nat) (args : List AV) (ss : List Slot) : Option Ans :=
  match args, ss with
  | [(.c (.frz (.slice (.pair (.slice (.pair (.int .i64) (.int .i64))) (.pair .bool (.pair .bool (.pair .bool (.pair .bool .bool)))))) v0))], [] => some ⟨R, f k v0, enc⟩
  | _, _ => none
theorem spec_ok (k : Nat) : SpecOk Try.prog 28 (spec k) := by
  intro args ss ans x h hx X σ w vals hp
  unfold spec at h
  split at h
  · cases h
    exact spec_of cs_ok Try.func28 rfl rfl dec_ok (held_eq _).symm hx hp
  · cases h
end slices_Concat_Input
noncomputable def t_slices_Concat_Input (k : Nat) := tcons 28 (slices_Concat_Input.spec k) (t_slices_Grow_Input k)
theorem t_slices_Concat_Input_ok (n g : Nat) : SpecOk Try.prog g (t_slices_Concat_Input n g) := tcons_ok (slices_Concat_Input.spec_ok n) (fun g => t_slices_Grow_Input_ok n g) g
namespace spykeep2_GuardKey
abbrev R : Type := Bool
abbrev A : Type := List Int × Int
def lv : List (Nat × List Nat) := [(2000000, [4]), (8, [6, 7, 8, 31, 32])]
noncomputable def cs : Nat → Ctx := ctxOf tis modes t_slices_Concat_Input lv
theorem cs_ok (n : Nat) : CtxOk Try.prog (cs n) := ctxOf_ok rfl tis_ok t_slices_Concat_Input_ok n
def enc (r : R) : Out := ((.c (.bool r)), [])
def dec : Out → Option R
  | ((.c (.bool v0)), []) => some v0
  | _ => none
theorem dec_ok : ∀ u y, dec u = some y → u = enc y := by
  intro u y h
  unfold dec at h
  split at h
  · cases h; rfl
  · cases h
noncomputable def b0 : Code := subF [] Try.f7
noncomputable def K0 (k : Nat) : Kt R := kTop (cs k) Try.f7 dec
noncomputable def b8 : Code := sub [1, 1, 1, 1, 1, 1, 0, 1, 0, 0] b0
noncomputable def K8 ( k : Nat) : Kt R := kAt (cs k) (loopN cs k) [1, 1, 1, 1, 1, 1, 0, 1, 0] b0 (K0 k)
abbrev T0 : Type := Int × Int × Int × Int × Int × Int × Int × Int × Int × Int × Int × Int × List (List (Int × Int) × Bool × Bool × Bool × Bool × Bool) × List (List (Int × Int) × Bool × Bool × Bool × Bool × Bool)
def s0 : T0 → St := fun (v0, v1, v2, v3, v4, v5, v6, v7, v8, v9, v10, v11, v12, v13) => ⟨94, 0, [(6, (.c (.ptr 64000000 0))), (7, (.c (.sl 64000001))), (8, (.c (.sl 64000002))), (31, (.c (.int .i64 v0))), (32, (.c (.int .i64 v1)))], [], [(256000000, .gone), (64000000, (.box [(.int .i64 v2), (.int .i64 v3), (.int .i64 v4), (.int .i64 v5), (.int .i64 v6), (.int .i64 v7), (.int .i64 v8), (.int .i64 v9), (.int .i64 v10), (.int .i64 v11)])), (64000001, (.row (.pair (.slice (.pair (.int .i64) (.int .i64))) (.pair .bool (.pair .bool (.pair .bool (.pair .bool .bool))))) v12)), (64000002, (.row (.pair (.slice (.pair (.int .i64) (.int .i64))) (.pair .bool (.pair .bool (.pair .bool (.pair .bool .bool))))) v13))]⟩
noncomputable def l0 ( k n : Nat) (v : T0) : Option R := held (loopN cs n b8 (K8 k) (s0 v))
noncomputable def D0 (v : T0) : Option R := lim fun L => l0 (L 0) (L 1) v
theorem D0_cn (v : T0) : Cn late (D0 v) fun L => l0 (L 0) (L 1) v := of_lim
def d0 (L0m1 : T0 → Option R) (guard_Start_k : guard_Start.A → Option guard_Start.R) (slices_Concat_Input_k : slices_Concat_Input.A → Option slices_Concat_Input.R) (guard_Run_k : guard_Run.A → Option guard_Run.R) (mount_Moving_k : mount_Moving.A → Option mount_Moving.R) : T0 → Option R := fun (v0, v1, v2, v3, v4, v5, v6, v7, v8, v9, v10, v11, v12, v13) =>
br (decide (v1 < v0))
  (br (decide (0 ≤ v1 ∧ v1 < (↑v13.length : Int)))
    (L0m1
      (v0, wrap IntKind.i64 (v1 + 1), v2, v3, v4, v5, v6, v7, v8, v9, v10, v11, v12,
        v13.set v1.toNat
          ((rd ty0 v13 v1).fst,
            (rd ty0 v13 v1).snd.fst,
            (rd ty0 v13 v1).snd.snd.fst,
            (rd ty0 v13 v1).snd.snd.snd.fst,
            (rd ty0 v13 v1).snd.snd.snd.snd.fst, true)))
    none)
  (bnd (guard_Start_k (v2, v3, v4, v5, v6, v7, v8, v9, v10, v11)) fun r =>
    bnd (slices_Concat_Input_k [v12, v13]) fun r_1 =>
      bnd
        (guard_Run_k
          (v2, v3, v4, v5, v6, v7, v8, v9, v10, v11, r.fst, r.snd.fst, r.snd.snd.fst, r.snd.snd.snd.fst, r.snd.snd.snd.snd.fst, r.snd.snd.snd.snd.snd.fst, r.snd.snd.snd.snd.snd.snd.fst, r.snd.snd.snd.snd.snd.snd.snd.fst,
            r.snd.snd.snd.snd.snd.snd.snd.snd.fst, r.snd.snd.snd.snd.snd.snd.snd.snd.snd.fst, r.snd.snd.snd.snd.snd.snd.snd.snd.snd.snd.fst, r.snd.snd.snd.snd.snd.snd.snd.snd.snd.snd.snd.fst,
            r.snd.snd.snd.snd.snd.snd.snd.snd.snd.snd.snd.snd.fst, r.snd.snd.snd.snd.snd.snd.snd.snd.snd.snd.snd.snd.snd.fst, r.snd.snd.snd.snd.snd.snd.snd.snd.snd.snd.snd.snd.snd.snd.fst,
            r.snd.snd.snd.snd.snd.snd.snd.snd.snd.snd.snd.snd.snd.snd.snd.fst, r.snd.snd.snd.snd.snd.snd.snd.snd.snd.snd.snd.snd.snd.snd.snd.snd.fst,
            r.snd.snd.snd.snd.snd.snd.snd.snd.snd.snd.snd.snd.snd.snd.snd.snd.snd.fst, r.snd.snd.snd.snd.snd.snd.snd.snd.snd.snd.snd.snd.snd.snd.snd.snd.snd.snd.fst,
            r.snd.snd.snd.snd.snd.snd.snd.snd.snd.snd.snd.snd.snd.snd.snd.snd.snd.snd.snd.fst, r.snd.snd.snd.snd.snd.snd.snd.snd.snd.snd.snd.snd.snd.snd.snd.snd.snd.snd.snd.snd.fst,
            r.snd.snd.snd.snd.snd.snd.snd.snd.snd.snd.snd.snd.snd.snd.snd.snd.snd.snd.snd.snd.snd.fst, r.snd.snd.snd.snd.snd.snd.snd.snd.snd.snd.snd.snd.snd.snd.snd.snd.snd.snd.snd.snd.snd.snd.fst,
            r.snd.snd.snd.snd.snd.snd.snd.snd.snd.snd.snd.snd.snd.snd.snd.snd.snd.snd.snd.snd.snd.snd.snd.fst, r.snd.snd.snd.snd.snd.snd.snd.snd.snd.snd.snd.snd.snd.snd.snd.snd.snd.snd.snd.snd.snd.snd.snd.snd.fst,
            r.snd.snd.snd.snd.snd.snd.snd.snd.snd.snd.snd.snd.snd.snd.snd.snd.snd.snd.snd.snd.snd.snd.snd.snd.snd.fst,
            r.snd.snd.snd.snd.snd.snd.snd.snd.snd.snd.snd.snd.snd.snd.snd.snd.snd.snd.snd.snd.snd.snd.snd.snd.snd.snd.fst,
            r.snd.snd.snd.snd.snd.snd.snd.snd.snd.snd.snd.snd.snd.snd.snd.snd.snd.snd.snd.snd.snd.snd.snd.snd.snd.snd.snd.fst,
            r.snd.snd.snd.snd.snd.snd.snd.snd.snd.snd.snd.snd.snd.snd.snd.snd.snd.snd.snd.snd.snd.snd.snd.snd.snd.snd.snd.snd.fst,
            r.snd.snd.snd.snd.snd.snd.snd.snd.snd.snd.snd.snd.snd.snd.snd.snd.snd.snd.snd.snd.snd.snd.snd.snd.snd.snd.snd.snd.snd.fst,
            r.snd.snd.snd.snd.snd.snd.snd.snd.snd.snd.snd.snd.snd.snd.snd.snd.snd.snd.snd.snd.snd.snd.snd.snd.snd.snd.snd.snd.snd.snd, r_1))
        fun r =>
        br (!decide (r.fst = 0) || !decide ((↑r.snd.fst.length : Int) = wrap IntKind.i64 ((↑v12.length : Int) + (↑v13.length : Int)))) (some false)
          (br (decide (0 ≤ wrap IntKind.i64 ((↑r.snd.fst.length : Int) - 1) ∧ wrap IntKind.i64 ((↑r.snd.fst.length : Int) - 1) < (↑r.snd.fst.length : Int)))
            (br
              (decide
                  ((↑v13.length : Int) ≤
                    (rd
                                    ty1
                                    r.snd.fst (wrap IntKind.i64 ((↑r.snd.fst.length : Int) - 1))).snd.snd.snd.snd.snd.snd.snd) ==
                true)
              (bnd
                (mount_Moving_k
                  ((rd
                            ty1
                            r.snd.fst (wrap IntKind.i64 ((↑r.snd.fst.length : Int) - 1))).fst.fst.fst,
                    (rd
                              ty1
                              r.snd.fst (wrap IntKind.i64 ((↑r.snd.fst.length : Int) - 1))).fst.fst.snd.fst,
                    (rd
                                ty1
                                r.snd.fst (wrap IntKind.i64 ((↑r.snd.fst.length : Int) - 1))).fst.fst.snd.snd.fst,
                    (rd
                                ty1
                                r.snd.fst (wrap IntKind.i64 ((↑r.snd.fst.length : Int) - 1))).fst.fst.snd.snd.snd,
                    (rd
                              ty1
                              r.snd.fst (wrap IntKind.i64 ((↑r.snd.fst.length : Int) - 1))).fst.snd.fst.fst,
                    (rd
                                ty1
                                r.snd.fst (wrap IntKind.i64 ((↑r.snd.fst.length : Int) - 1))).fst.snd.fst.snd.fst,
                    (rd
                                  ty1
                                  r.snd.fst (wrap IntKind.i64 ((↑r.snd.fst.length : Int) - 1))).fst.snd.fst.snd.snd.fst,
                    (rd
                                  ty1
                                  r.snd.fst (wrap IntKind.i64 ((↑r.snd.fst.length : Int) - 1))).fst.snd.fst.snd.snd.snd,
                    (rd
                            ty1
                            r.snd.fst (wrap IntKind.i64 ((↑r.snd.fst.length : Int) - 1))).fst.snd.snd))
                fun r_2 =>
                some
                  (!r_2 &&
                      !decide
                          ((rd
                                    ty1
                                    r.snd.fst (wrap IntKind.i64 ((↑r.snd.fst.length : Int) - 1))).fst.snd.snd =
                            2) &&
                    !decide
                        ((rd
                                    ty1
                                    r.snd.fst (wrap IntKind.i64 ((↑r.snd.fst.length : Int) - 1))).snd.snd.fst.fst =
                          1)))
              (some false))
            none))
theorem d0_cn {ι : Type} {E : Fil ι} {L0m1 : T0 → Option R} {L0m1' : ι → T0 → Option R} (hL0m1 : ∀ v, Cn E (L0m1 v) fun i => L0m1' i v) {guard_Start_k : guard_Start.A → Option guard_Start.R} {guard_Start_k' : ι → guard_Start.A → Option guard_Start.R} (hguard_Start_k : ∀ v, Cn E (guard_Start_k v) fun i => guard_Start_k' i v) {slices_Concat_Input_k : slices_Concat_Input.A → Option slices_Concat_Input.R} {slices_Concat_Input_k' : ι → slices_Concat_Input.A → Option slices_Concat_Input.R} (hslices_Concat_Input_k : ∀ v, Cn E (slices_Concat_Input_k v) fun i => slices_Concat_Input_k' i v) {guard_Run_k : guard_Run.A → Option guard_Run.R} {guard_Run_k' : ι → guard_Run.A → Option guard_Run.R} (hguard_Run_k : ∀ v, Cn E (guard_Run_k v) fun i => guard_Run_k' i v) {mount_Moving_k : mount_Moving.A → Option mount_Moving.R} {mount_Moving_k' : ι → mount_Moving.A → Option mount_Moving.R} (hmount_Moving_k : ∀ v, Cn E (mount_Moving_k v) fun i => mount_Moving_k' i v) : ∀ v : T0, Cn E (d0 L0m1 guard_Start_k slices_Concat_Input_k guard_Run_k mount_Moving_k v) fun i => d0 (L0m1' i) (guard_Start_k' i) (slices_Concat_Input_k' i) (guard_Run_k' i) (mount_Moving_k' i) v := fun (v0, v1, v2, v3, v4, v5, v6, v7, v8, v9, v10, v11, v12, v13) => (.br (.br (hL0m1 _) .none) (.bnd (hguard_Start_k _) fun _ => (.bnd (hslices_Concat_Input_k _) fun _ => (.bnd (hguard_Run_k _) fun _ => (.br .some (.br (.br (.bnd (hmount_Moving_k _) fun _ => .some) .some) .none))))))
theorem l0_b ( k m1 : Nat) : ∀ v : T0, run (cs m1) (loopN cs m1) b8 (kLoop cs m1 b8 (K8 k)) (s0 v) = d0 (l0 k m1) (guard_Start.f k) (slices_Concat_Input.f k) (guard_Run.f k) (mount_Moving.f k) v := fun (v0, v1, v2, v3, v4, v5, v6, v7, v8, v9, v10, v11, v12, v13) => by kernel_rfl
theorem D0_of (v : T0) {r : R} (h : d0 D0 guard_Start.F slices_Concat_Input.F guard_Run.F mount_Moving.F v = some r) : D0 v = some r :=
  loop_of 1 (l := fun L => l0 (L 0) (L 1) v) (d := fun L => d0 (l0 (L 0) (L 1)) (guard_Start.f (L 0)) (slices_Concat_Input.f (L 0)) (guard_Run.f (L 0)) (mount_Moving.f (L 0)) v) (fun L n hn => by show l0 (L 0) (L 1) v = _; rw [hn]; exact (held_eq _).trans ((loopN_succ _ _ _ _ _).trans (l0_b (L 0) n v))) (d0_cn (fun v => (D0_cn v).re [0, 1]) (guard_Start.F_cn 0) (slices_Concat_Input.F_cn 0) (guard_Run.F_cn 0) (mount_Moving.F_cn 0) v) h
noncomputable def f (k : Nat) : A → Option R := fun (v0, v1) => held (runFn cs k Try.f7 [(.c (.frz (.int .i64) v0)), (.c (.int .i64 v1))] [] dec)
noncomputable def F (v : A) : Option R := lim fun L => f (L 0) v
theorem F_cn (x : Nat) (v : A) : Cn late (F v) fun L => f (L x) v := of_lim.re [x]
def d (spykeep2_guarded_k : spykeep2_guarded.A → Option spykeep2_guarded.R) (spymake_Stream_Mount_k : spymake_Stream_Mount.A → Option spymake_Stream_Mount.R) (spymake_Below_k : spymake_Below.A → Option spymake_Below.R) (spykeep2_script_k : spykeep2_script.A → Option spykeep2_script.R) (L0k : T0 → Option R) : A → Option R := fun (v0, v1) =>
bnd (spykeep2_guarded_k ()) fun r =>
  br (!r) (some false)
    (bnd (spymake_Stream_Mount_k (v0, 0)) fun r =>
      bnd (spymake_Below_k (v1, 100)) fun r_1 =>
        bnd
          (spykeep2_script_k
            (r.fst, r.snd.fst, r.snd.snd.fst, r.snd.snd.snd.fst, r.snd.snd.snd.snd.fst, r.snd.snd.snd.snd.snd.fst, r.snd.snd.snd.snd.snd.snd.fst, r.snd.snd.snd.snd.snd.snd.snd.fst, r.snd.snd.snd.snd.snd.snd.snd.snd.fst,
              r.snd.snd.snd.snd.snd.snd.snd.snd.snd.fst, wrap IntKind.i64 (r_1 + 1), r.snd.snd.snd.snd.snd.snd.snd.snd.snd.snd.fst, r.snd.snd.snd.snd.snd.snd.snd.snd.snd.snd.snd))
          fun r_2 =>
          bnd
            (spykeep2_script_k
              (r.fst, r.snd.fst, r.snd.snd.fst, r.snd.snd.snd.fst, r.snd.snd.snd.snd.fst, r.snd.snd.snd.snd.snd.fst, r.snd.snd.snd.snd.snd.snd.fst, r.snd.snd.snd.snd.snd.snd.snd.fst,
                r.snd.snd.snd.snd.snd.snd.snd.snd.fst, r.snd.snd.snd.snd.snd.snd.snd.snd.snd.fst, 68, r_2.fst, r_2.snd.fst))
            fun r_3 =>
            L0k
              ((↑r_3.snd.snd.length : Int), 0, r.fst, r.snd.fst, r.snd.snd.fst, r.snd.snd.snd.fst, r.snd.snd.snd.snd.fst, r.snd.snd.snd.snd.snd.fst, r.snd.snd.snd.snd.snd.snd.fst, r.snd.snd.snd.snd.snd.snd.snd.fst,
                r.snd.snd.snd.snd.snd.snd.snd.snd.fst, r.snd.snd.snd.snd.snd.snd.snd.snd.snd.fst, r_2.snd.snd, r_3.snd.snd))
theorem d_cn {ι : Type} {E : Fil ι} {spykeep2_guarded_k : spykeep2_guarded.A → Option spykeep2_guarded.R} {spykeep2_guarded_k' : ι → spykeep2_guarded.A → Option spykeep2_guarded.R} (hspykeep2_guarded_k : ∀ v, Cn E (spykeep2_guarded_k v) fun i => spykeep2_guarded_k' i v) {spymake_Stream_Mount_k : spymake_Stream_Mount.A → Option spymake_Stream_Mount.R} {spymake_Stream_Mount_k' : ι → spymake_Stream_Mount.A → Option spymake_Stream_Mount.R} (hspymake_Stream_Mount_k : ∀ v, Cn E (spymake_Stream_Mount_k v) fun i => spymake_Stream_Mount_k' i v) {spymake_Below_k : spymake_Below.A → Option spymake_Below.R} {spymake_Below_k' : ι → spymake_Below.A → Option spymake_Below.R} (hspymake_Below_k : ∀ v, Cn E (spymake_Below_k v) fun i => spymake_Below_k' i v) {spykeep2_script_k : spykeep2_script.A → Option spykeep2_script.R} {spykeep2_script_k' : ι → spykeep2_script.A → Option spykeep2_script.R} (hspykeep2_script_k : ∀ v, Cn E (spykeep2_script_k v) fun i => spykeep2_script_k' i v) {L0k : T0 → Option R} {L0k' : ι → T0 → Option R} (hL0k : ∀ v, Cn E (L0k v) fun i => L0k' i v) : ∀ v : A, Cn E (d spykeep2_guarded_k spymake_Stream_Mount_k spymake_Below_k spykeep2_script_k L0k v) fun i => d (spykeep2_guarded_k' i) (spymake_Stream_Mount_k' i) (spymake_Below_k' i) (spykeep2_script_k' i) (L0k' i) v := fun (v0, v1) => (.bnd (hspykeep2_guarded_k _) fun _ => (.br .some (.bnd (hspymake_Stream_Mount_k _) fun _ => (.bnd (hspymake_Below_k _) fun _ => (.bnd (hspykeep2_script_k _) fun _ => (.bnd (hspykeep2_script_k _) fun _ => (hL0k _)))))))
theorem f_b (k : Nat) : ∀ v : A, f k v = d (spykeep2_guarded.f k) (spymake_Stream_Mount.f k) (spymake_Below.f k) (spykeep2_script.f k) (l0 k k) v := fun (v0, v1) => (held_eq _).trans (by kernel_rfl)
theorem F_of (v : A) {r : R} (h : d spykeep2_guarded.F spymake_Stream_Mount.F spymake_Below.F spykeep2_script.F D0 v = some r) : F v = some r :=
  join_of (l := fun L => f (L 0) v) (d := fun L => d (spykeep2_guarded.f (L 0)) (spymake_Stream_Mount.f (L 0)) (spymake_Below.f (L 0)) (spykeep2_script.f (L 0)) (l0 (L 0) (L 0)) v) (fun L => f_b (L 0) v) (d_cn (spykeep2_guarded.F_cn 0) (spymake_Stream_Mount.F_cn 0) (spymake_Below.F_cn 0) (spykeep2_script.F_cn 0) (fun v => (D0_cn v).re [0, 0]) v) h
noncomputable def spec (k : Nat) (args : List AV) (ss : List Slot) : Option Ans :=
  match args, ss with
  | [(.c (.frz (.int .i64) v0)), (.c (.int .i64 v1))], [] => some ⟨R, f k (v0, v1), enc⟩
  | _, _ => none
theorem spec_ok (k : Nat) : SpecOk Try.prog 7 (spec k) := by
  intro args ss ans x h hx X σ w vals hp
  unfold spec at h
  split at h
  · cases h
    exact spec_of cs_ok Try.func7 rfl rfl dec_ok (held_eq _).symm hx hp
  · cases h
end spykeep2_GuardKey
noncomputable def t_spykeep2_GuardKey (k : Nat) := tcons 7 (spykeep2_GuardKey.spec k) (t_slices_Concat_Input k)
theorem t_spykeep2_GuardKey_ok (n g : Nat) : SpecOk Try.prog g (t_spykeep2_GuardKey n g) := tcons_ok (spykeep2_GuardKey.spec_ok n) (fun g => t_slices_Concat_Input_ok n g) g

end Go.Proofs.RGuard
