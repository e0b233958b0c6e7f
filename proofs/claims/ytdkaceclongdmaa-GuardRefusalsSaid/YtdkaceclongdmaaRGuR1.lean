import Derived.Test.YtdkaceclongdmaaRGuR0
import Derived.Test.YtdkaceclongdmaaProg
namespace Go.Proofs.RGuR
open Go Go.Eng Go.Proofs
set_option maxRecDepth 100000
set_option linter.unusedVariables false
namespace guard_begin
abbrev R : Type := Int × Int × Int × Bool × Int × Int × Int × Bool × Int × Int × Int × Bool × Bool × Int × Int × Int × Bool × Int × Int × Int × Int × Bool × Bool × Bool × Bool × Bool × Int × Int × Int × Int × Int
abbrev A : Type := Int × Int × Int × Int × Int × Int × Int × Int × Int × Int × Int × Int × Int × Bool × Int × Int × Int × Bool × Int × Int × Int × Bool × Bool × Int × Int × Int × Bool × Int × Int × Int × Int × Bool × Bool × Bool × Bool × Bool × Int × Int × Int × Int × Int
def lv : List (Nat × List Nat) := [(2000000, [4]), (1000004, [2, 3, 4])]
noncomputable def cs : Nat → Ctx := ctxOf tis modes t_camera_Fetch lv
theorem cs_ok (n : Nat) : CtxOk Try.prog (cs n) := ctxOf_ok rfl tis_ok t_camera_Fetch_ok n
def enc (r : R) : Out := ((.agg [(.int .i64 r.1), (.int .i64 r.2.1), (.int .i64 r.2.2.1), (.bool r.2.2.2.1), (.int .i64 r.2.2.2.2.1), (.int .i64 r.2.2.2.2.2.1), (.int .i64 r.2.2.2.2.2.2.1), (.bool r.2.2.2.2.2.2.2.1), (.int .i64 r.2.2.2.2.2.2.2.2.1), (.int .i64 r.2.2.2.2.2.2.2.2.2.1), (.int .i64 r.2.2.2.2.2.2.2.2.2.2.1), (.bool r.2.2.2.2.2.2.2.2.2.2.2.1), (.bool r.2.2.2.2.2.2.2.2.2.2.2.2.1), (.int .i64 r.2.2.2.2.2.2.2.2.2.2.2.2.2.1), (.int .i64 r.2.2.2.2.2.2.2.2.2.2.2.2.2.2.1), (.int .i64 r.2.2.2.2.2.2.2.2.2.2.2.2.2.2.2.1), (.bool r.2.2.2.2.2.2.2.2.2.2.2.2.2.2.2.2.1), (.int .i64 r.2.2.2.2.2.2.2.2.2.2.2.2.2.2.2.2.2.1), (.int .i64 r.2.2.2.2.2.2.2.2.2.2.2.2.2.2.2.2.2.2.1), (.int .i64 r.2.2.2.2.2.2.2.2.2.2.2.2.2.2.2.2.2.2.2.1), (.int .i64 r.2.2.2.2.2.2.2.2.2.2.2.2.2.2.2.2.2.2.2.2.1), (.bool r.2.2.2.2.2.2.2.2.2.2.2.2.2.2.2.2.2.2.2.2.2.1), (.bool r.2.2.2.2.2.2.2.2.2.2.2.2.2.2.2.2.2.2.2.2.2.2.1), (.bool r.2.2.2.2.2.2.2.2.2.2.2.2.2.2.2.2.2.2.2.2.2.2.2.1), (.bool r.2.2.2.2.2.2.2.2.2.2.2.2.2.2.2.2.2.2.2.2.2.2.2.2.1), (.bool r.2.2.2.2.2.2.2.2.2.2.2.2.2.2.2.2.2.2.2.2.2.2.2.2.2.1), (.int .i64 r.2.2.2.2.2.2.2.2.2.2.2.2.2.2.2.2.2.2.2.2.2.2.2.2.2.2.1), (.int .i64 r.2.2.2.2.2.2.2.2.2.2.2.2.2.2.2.2.2.2.2.2.2.2.2.2.2.2.2.1), (.int .i64 r.2.2.2.2.2.2.2.2.2.2.2.2.2.2.2.2.2.2.2.2.2.2.2.2.2.2.2.2.1), (.int .i64 r.2.2.2.2.2.2.2.2.2.2.2.2.2.2.2.2.2.2.2.2.2.2.2.2.2.2.2.2.2.1), (.int .i64 r.2.2.2.2.2.2.2.2.2.2.2.2.2.2.2.2.2.2.2.2.2.2.2.2.2.2.2.2.2.2)]), [])
def dec : Out → Option R
  | ((.agg [(.int .i64 v0), (.int .i64 v1), (.int .i64 v2), (.bool v3), (.int .i64 v4), (.int .i64 v5), (.int .i64 v6), (.bool v7), (.int .i64 v8), (.int .i64 v9), (.int .i64 v10), (.bool v11), (.bool v12), (.int .i64 v13), (.int .i64 v14), (.int .i64 v15), (.bool v16), (.int .i64 v17), (.int .i64 v18), (.int .i64 v19), (.int .i64 v20), (.bool v21), (.bool v22), (.bool v23), (.bool v24), (.bool v25), (.int .i64 v26), (.int .i64 v27), (.int .i64 v28), (.int .i64 v29), (.int .i64 v30)]), []) => some (v0, v1, v2, v3, v4, v5, v6, v7, v8, v9, v10, v11, v12, v13, v14, v15, v16, v17, v18, v19, v20, v21, v22, v23, v24, v25, v26, v27, v28, v29, v30)
  | _ => none
theorem dec_ok : ∀ u y, dec u = some y → u = enc y := by
  intro u y h
  unfold dec at h
  split at h
  · cases h; rfl
  · cases h
noncomputable def b0 : Code := subF [] Try.f39
noncomputable def K0 (k : Nat) : Kt R := kTop (cs k) Try.f39 dec
noncomputable def c1000004 : Code := sub [1, 1, 1] b0
noncomputable def J1000004 ( k : Nat) : Kt R := kAt (cs k) (loopN cs k) [1, 1, 1] b0 (K0 k)
abbrev T0 : Type := Int × Int × Int × Int × Int × Int × Int × Int × Int × Int × Int × Int × Int × Bool × Int × Int × Int × Bool × Int × Int × Int × Bool × Bool × Int × Int × Int × Bool × Int × Int × Int × Int × Bool × Bool × Bool × Bool × Bool × Int × Int × Int × Int × Int × Int × Int × Int × Bool × Int × Int × Int × Bool × Int × Int × Int × Bool × Bool × Int × Int × Int × Bool × Int × Int × Int × Int × Bool × Bool × Bool × Bool × Bool × Int × Int × Int × Int × Int
def s0 : T0 → St := fun (v0, v1, v2, v3, v4, v5, v6, v7, v8, v9, v10, v11, v12, v13, v14, v15, v16, v17, v18, v19, v20, v21, v22, v23, v24, v25, v26, v27, v28, v29, v30, v31, v32, v33, v34, v35, v36, v37, v38, v39, v40, v41, v42, v43, v44, v45, v46, v47, v48, v49, v50, v51, v52, v53, v54, v55, v56, v57, v58, v59, v60, v61, v62, v63, v64, v65, v66, v67, v68, v69, v70, v71) => ⟨40, 0, [(2, (.c (.ptr 64000000 0))), (3, (.c (.ptr 64000001 0))), (4, (.c (.ptr 64000002 0)))], [], [(256000000, .gone), (64000000, (.box [(.int .i64 v0), (.int .i64 v1), (.int .i64 v2), (.int .i64 v3), (.int .i64 v4), (.int .i64 v5), (.int .i64 v6), (.int .i64 v7), (.int .i64 v8), (.int .i64 v9)])), (64000001, (.box [(.int .i64 v10), (.int .i64 v11), (.int .i64 v12), (.bool v13), (.int .i64 v14), (.int .i64 v15), (.int .i64 v16), (.bool v17), (.int .i64 v18), (.int .i64 v19), (.int .i64 v20), (.bool v21), (.bool v22), (.int .i64 v23), (.int .i64 v24), (.int .i64 v25), (.bool v26), (.int .i64 v27), (.int .i64 v28), (.int .i64 v29), (.int .i64 v30), (.bool v31), (.bool v32), (.bool v33), (.bool v34), (.bool v35), (.int .i64 v36), (.int .i64 v37), (.int .i64 v38), (.int .i64 v39), (.int .i64 v40)])), (64000002, (.box [(.int .i64 v41), (.int .i64 v42), (.int .i64 v43), (.bool v44), (.int .i64 v45), (.int .i64 v46), (.int .i64 v47), (.bool v48), (.int .i64 v49), (.int .i64 v50), (.int .i64 v51), (.bool v52), (.bool v53), (.int .i64 v54), (.int .i64 v55), (.int .i64 v56), (.bool v57), (.int .i64 v58), (.int .i64 v59), (.int .i64 v60), (.int .i64 v61), (.bool v62), (.bool v63), (.bool v64), (.bool v65), (.bool v66), (.int .i64 v67), (.int .i64 v68), (.int .i64 v69), (.int .i64 v70), (.int .i64 v71)]))]⟩
noncomputable def l0 ( k : Nat) (v : T0) : Option R := held (run (cs k) (loopN cs k) c1000004 (J1000004 k) (s0 v))
noncomputable def D0 (v : T0) : Option R := lim fun L => l0 (L 0) v
theorem D0_cn (v : T0) : Cn late (D0 v) fun L => l0 (L 0) v := of_lim
def d0 (mount_Stop_k : mount_Stop.A → Option mount_Stop.R) (dome_Set_k : dome_Set.A → Option dome_Set.R) (dome_Brake_k : dome_Brake.A → Option dome_Brake.R) : T0 → Option R := fun (v0, v1, v2, v3, v4, v5, v6, v7, v8, v9, v10, v11, v12, v13, v14, v15, v16, v17, v18, v19, v20, v21, v22, v23, v24, v25, v26, v27, v28, v29, v30, v31, v32, v33, v34, v35, v36, v37, v38, v39, v40, v41, v42, v43, v44, v45, v46, v47, v48, v49, v50, v51, v52, v53, v54, v55, v56, v57, v58, v59, v60, v61, v62, v63, v64, v65, v66, v67, v68, v69, v70, v71) =>
bnd (mount_Stop_k (v0, v1, v2, v3, v4, v5, v6, v7, v8, v9, v10, v11, v12, v13, v14, v15, v16, v17, v18)) fun r =>
  bnd (dome_Set_k (v19, v20, v21, v22, v23, v24, v25, v26, false, false)) fun r_1 =>
    bnd (dome_Brake_k (r_1.fst, r_1.snd.fst, r_1.snd.snd.fst, r_1.snd.snd.snd.fst, r_1.snd.snd.snd.snd.fst, r_1.snd.snd.snd.snd.snd.fst, r_1.snd.snd.snd.snd.snd.snd.fst, r_1.snd.snd.snd.snd.snd.snd.snd.fst)) fun r_2 =>
      some
        (r.fst, r.snd.fst, r.snd.snd.fst, r.snd.snd.snd.fst, r.snd.snd.snd.snd.fst, r.snd.snd.snd.snd.snd.fst, r.snd.snd.snd.snd.snd.snd.fst, r.snd.snd.snd.snd.snd.snd.snd.fst, r.snd.snd.snd.snd.snd.snd.snd.snd.fst,
          r_2.fst, r_2.snd.fst, r_2.snd.snd.fst, r_2.snd.snd.snd.fst, r_2.snd.snd.snd.snd.fst, r_2.snd.snd.snd.snd.snd.fst, r_2.snd.snd.snd.snd.snd.snd.fst, r_2.snd.snd.snd.snd.snd.snd.snd.fst, v27, v28, v29, v30, v31,
          v32, v33, v34, v35, v36, v37, v38, v39, v40)
theorem d0_cn {ι : Type} {E : Fil ι} {mount_Stop_k : mount_Stop.A → Option mount_Stop.R} {mount_Stop_k' : ι → mount_Stop.A → Option mount_Stop.R} (hmount_Stop_k : ∀ v, Cn E (mount_Stop_k v) fun i => mount_Stop_k' i v) {dome_Set_k : dome_Set.A → Option dome_Set.R} {dome_Set_k' : ι → dome_Set.A → Option dome_Set.R} (hdome_Set_k : ∀ v, Cn E (dome_Set_k v) fun i => dome_Set_k' i v) {dome_Brake_k : dome_Brake.A → Option dome_Brake.R} {dome_Brake_k' : ι → dome_Brake.A → Option dome_Brake.R} (hdome_Brake_k : ∀ v, Cn E (dome_Brake_k v) fun i => dome_Brake_k' i v) : ∀ v : T0, Cn E (d0 mount_Stop_k dome_Set_k dome_Brake_k v) fun i => d0 (mount_Stop_k' i) (dome_Set_k' i) (dome_Brake_k' i) v := fun (v0, v1, v2, v3, v4, v5, v6, v7, v8, v9, v10, v11, v12, v13, v14, v15, v16, v17, v18, v19, v20, v21, v22, v23, v24, v25, v26, v27, v28, v29, v30, v31, v32, v33, v34, v35, v36, v37, v38, v39, v40, v41, v42, v43, v44, v45, v46, v47, v48, v49, v50, v51, v52, v53, v54, v55, v56, v57, v58, v59, v60, v61, v62, v63, v64, v65, v66, v67, v68, v69, v70, v71) => (.bnd (hmount_Stop_k _) fun _ => (.bnd (hdome_Set_k _) fun _ => (.bnd (hdome_Brake_k _) fun _ => .some)))
theorem l0_b ( k : Nat) : ∀ v : T0, run (cs k) (loopN cs k) c1000004 (J1000004 k) (s0 v) = d0 (mount_Stop.f k) (dome_Set.f k) (dome_Brake.f k) v := fun (v0, v1, v2, v3, v4, v5, v6, v7, v8, v9, v10, v11, v12, v13, v14, v15, v16, v17, v18, v19, v20, v21, v22, v23, v24, v25, v26, v27, v28, v29, v30, v31, v32, v33, v34, v35, v36, v37, v38, v39, v40, v41, v42, v43, v44, v45, v46, v47, v48, v49, v50, v51, v52, v53, v54, v55, v56, v57, v58, v59, v60, v61, v62, v63, v64, v65, v66, v67, v68, v69, v70, v71) => by kernel_rfl
theorem D0_of (v : T0) {r : R} (h : d0 mount_Stop.F dome_Set.F dome_Brake.F v = some r) : D0 v = some r :=
  join_of (l := fun L => l0 (L 0) v) (d := fun L => d0 (mount_Stop.f (L 0)) (dome_Set.f (L 0)) (dome_Brake.f (L 0)) v) (fun L => (held_eq _).trans (l0_b (L 0) v)) (d0_cn (mount_Stop.F_cn 0) (dome_Set.F_cn 0) (dome_Brake.F_cn 0) v) h
noncomputable def f (k : Nat) : A → Option R := fun (v0, v1, v2, v3, v4, v5, v6, v7, v8, v9, v10, v11, v12, v13, v14, v15, v16, v17, v18, v19, v20, v21, v22, v23, v24, v25, v26, v27, v28, v29, v30, v31, v32, v33, v34, v35, v36, v37, v38, v39, v40) => held (runFn cs k Try.f39 [(.agg [(.int .i64 v0), (.int .i64 v1), (.int .i64 v2), (.int .i64 v3), (.int .i64 v4), (.int .i64 v5), (.int .i64 v6), (.int .i64 v7), (.int .i64 v8), (.int .i64 v9)]), (.agg [(.int .i64 v10), (.int .i64 v11), (.int .i64 v12), (.bool v13), (.int .i64 v14), (.int .i64 v15), (.int .i64 v16), (.bool v17), (.int .i64 v18), (.int .i64 v19), (.int .i64 v20), (.bool v21), (.bool v22), (.int .i64 v23), (.int .i64 v24), (.int .i64 v25), (.bool v26), (.int .i64 v27), (.int .i64 v28), (.int .i64 v29), (.int .i64 v30), (.bool v31), (.bool v32), (.bool v33), (.bool v34), (.bool v35), (.int .i64 v36), (.int .i64 v37), (.int .i64 v38), (.int .i64 v39), (.int .i64 v40)])] [] dec)
noncomputable def F (v : A) : Option R := lim fun L => f (L 0) v
theorem F_cn (x : Nat) (v : A) : Cn late (F v) fun L => f (L x) v := of_lim.re [x]
def d (camera_Abort_k : camera_Abort.A → Option camera_Abort.R) (L0k : T0 → Option R) : A → Option R := fun (v0, v1, v2, v3, v4, v5, v6, v7, v8, v9, v10, v11, v12, v13, v14, v15, v16, v17, v18, v19, v20, v21, v22, v23, v24, v25, v26, v27, v28, v29, v30, v31, v32, v33, v34, v35, v36, v37, v38, v39, v40) =>
br (decide (v27 = 1))
  (bnd (camera_Abort_k (v27, v28, v29, v30)) fun r =>
    L0k
      (v0, v1, v2, v3, v4, v5, v6, v7, v8, v9, v10, v11, v12, v13, v14, v15, v16, v17, v18, v19, v20, v21, v22, v23, v24, v25, v26, r.fst, r.snd.fst, r.snd.snd.fst, r.snd.snd.snd.fst, v31, v32, v33, v34, v35, v36, v37,
        1, v39, v40, 0, 0, 0, false, 0, 0, 0, false, 0, 0, 0, false, false, 0, 0, 0, false, 0, 0, 0, 0, false, false, false, false, false, 0, 0, 0, 0, 0))
  (L0k
    (v0, v1, v2, v3, v4, v5, v6, v7, v8, v9, v10, v11, v12, v13, v14, v15, v16, v17, v18, v19, v20, v21, v22, v23, v24, v25, v26, v27, v28, v29, v30, v31, v32, v33, v34, v35, v36, v37, 1, v39, v40, 0, 0, 0, false, 0, 0,
      0, false, 0, 0, 0, false, false, 0, 0, 0, false, 0, 0, 0, 0, false, false, false, false, false, 0, 0, 0, 0, 0))
theorem d_cn {ι : Type} {E : Fil ι} {camera_Abort_k : camera_Abort.A → Option camera_Abort.R} {camera_Abort_k' : ι → camera_Abort.A → Option camera_Abort.R} (hcamera_Abort_k : ∀ v, Cn E (camera_Abort_k v) fun i => camera_Abort_k' i v) {L0k : T0 → Option R} {L0k' : ι → T0 → Option R} (hL0k : ∀ v, Cn E (L0k v) fun i => L0k' i v) : ∀ v : A, Cn E (d camera_Abort_k L0k v) fun i => d (camera_Abort_k' i) (L0k' i) v := fun (v0, v1, v2, v3, v4, v5, v6, v7, v8, v9, v10, v11, v12, v13, v14, v15, v16, v17, v18, v19, v20, v21, v22, v23, v24, v25, v26, v27, v28, v29, v30, v31, v32, v33, v34, v35, v36, v37, v38, v39, v40) => (.br (.bnd (hcamera_Abort_k _) fun _ => (hL0k _)) (hL0k _))
theorem f_b (k : Nat) : ∀ v : A, f k v = d (camera_Abort.f k) (l0 k) v := fun (v0, v1, v2, v3, v4, v5, v6, v7, v8, v9, v10, v11, v12, v13, v14, v15, v16, v17, v18, v19, v20, v21, v22, v23, v24, v25, v26, v27, v28, v29, v30, v31, v32, v33, v34, v35, v36, v37, v38, v39, v40) => (held_eq _).trans (by kernel_rfl)
theorem F_of (v : A) {r : R} (h : d camera_Abort.F D0 v = some r) : F v = some r :=
  join_of (l := fun L => f (L 0) v) (d := fun L => d (camera_Abort.f (L 0)) (l0 (L 0)) v) (fun L => f_b (L 0) v) (d_cn (camera_Abort.F_cn 0) (fun v => (D0_cn v).re [0]) v) h
noncomputable def spec (k : Nat) (args : List AV) (ss : List Slot) : Option Ans :=
  match args, ss with
  | [(.agg [(.int .i64 v0), (.int .i64 v1), (.int .i64 v2), (.int .i64 v3), (.int .i64 v4), (.int .i64 v5), (.int .i64 v6), (.int .i64 v7), (.int .i64 v8), (.int .i64 v9)]), (.agg [(.int .i64 v10), (.int .i64 v11), (.int .i64 v12), (.bool v13), (.int .i64 v14), (.int .i64 v15), (.int .i64 v16), (.bool v17), (.int .i64 v18), (.int .i64 v19), (.int .i64 v20), (.bool v21), (.bool v22), (.int .i64 v23), (.int .i64 v24), (.int .i64 v25), (.bool v26), (.int .i64 v27), (.int .i64 v28), (.int .i64 v29), (.int .i64 v30), (.bool v31), (.bool v32), (.bool v33), (.bool v34), (.bool v35), (.int .i64 v36), (.int .i64 v37), (.int .i64 v38), (.int .i64 v39), (.int .i64 v40)])], [] => some ⟨R, f k (v0, v1, v2, v3, v4, v5, v6, v7, v8, v9, v10, v11, v12, v13, v14, v15, v16, v17, v18, v19, v20, v21, v22, v23, v24, v25, v26, v27, v28, v29, v30, v31, v32, v33, v34, v35, v36, v37, v38, v39, v40), enc⟩
  | _, _ => none
theorem spec_ok (k : Nat) : SpecOk Try.prog 39 (spec k) := by
  intro args ss ans x h hx X σ w vals hp
  unfold spec at h
  split at h
  · cases h
    exact spec_of cs_ok Try.func39 rfl rfl dec_ok (held_eq _).symm hx hp
  · cases h
end guard_begin
noncomputable def t_guard_begin (k : Nat) := tcons 39 (guard_begin.spec k) (t_camera_Fetch k)
theorem t_guard_begin_ok (n g : Nat) : SpecOk Try.prog g (t_guard_begin n g) := tcons_ok (guard_begin.spec_ok n) (fun g => t_camera_Fetch_ok n g) g
namespace guard_carry
abbrev R : Type := Int × Int × Int × Bool × Int × Int × Int × Bool × Int × Int × Int × Bool × Bool × Int × Int × Int × Bool × Int × Int × Int × Int × Bool × Bool × Bool × Bool × Bool × Int × Int × Int × Int × Int × Int
abbrev A : Type := Int × Int × Int × Int × Int × Int × Int × Int × Int × Int × Int × Int × Int × Bool × Int × Int × Int × Bool × Int × Int × Int × Bool × Bool × Int × Int × Int × Bool × Int × Int × Int × Int × Bool × Bool × Bool × Bool × Bool × Int × Int × Int × Int × Int × Int × Int
def lv : List (Nat × List Nat) := [(2000000, [6, 7]), (1000005, [3, 4, 5, 6, 8, 10, 11]), (1000021, [3, 4, 5, 6, 8, 10, 85]), (1000035, [4, 6, 8])]
noncomputable def cs : Nat → Ctx := ctxOf tis modes t_guard_begin lv
theorem cs_ok (n : Nat) : CtxOk Try.prog (cs n) := ctxOf_ok rfl tis_ok t_guard_begin_ok n
def enc (r : R) : Out := ((.tup [(.agg [(.int .i64 r.1), (.int .i64 r.2.1), (.int .i64 r.2.2.1), (.bool r.2.2.2.1), (.int .i64 r.2.2.2.2.1), (.int .i64 r.2.2.2.2.2.1), (.int .i64 r.2.2.2.2.2.2.1), (.bool r.2.2.2.2.2.2.2.1), (.int .i64 r.2.2.2.2.2.2.2.2.1), (.int .i64 r.2.2.2.2.2.2.2.2.2.1), (.int .i64 r.2.2.2.2.2.2.2.2.2.2.1), (.bool r.2.2.2.2.2.2.2.2.2.2.2.1), (.bool r.2.2.2.2.2.2.2.2.2.2.2.2.1), (.int .i64 r.2.2.2.2.2.2.2.2.2.2.2.2.2.1), (.int .i64 r.2.2.2.2.2.2.2.2.2.2.2.2.2.2.1), (.int .i64 r.2.2.2.2.2.2.2.2.2.2.2.2.2.2.2.1), (.bool r.2.2.2.2.2.2.2.2.2.2.2.2.2.2.2.2.1), (.int .i64 r.2.2.2.2.2.2.2.2.2.2.2.2.2.2.2.2.2.1), (.int .i64 r.2.2.2.2.2.2.2.2.2.2.2.2.2.2.2.2.2.2.1), (.int .i64 r.2.2.2.2.2.2.2.2.2.2.2.2.2.2.2.2.2.2.2.1), (.int .i64 r.2.2.2.2.2.2.2.2.2.2.2.2.2.2.2.2.2.2.2.2.1), (.bool r.2.2.2.2.2.2.2.2.2.2.2.2.2.2.2.2.2.2.2.2.2.1), (.bool r.2.2.2.2.2.2.2.2.2.2.2.2.2.2.2.2.2.2.2.2.2.2.1), (.bool r.2.2.2.2.2.2.2.2.2.2.2.2.2.2.2.2.2.2.2.2.2.2.2.1), (.bool r.2.2.2.2.2.2.2.2.2.2.2.2.2.2.2.2.2.2.2.2.2.2.2.2.1), (.bool r.2.2.2.2.2.2.2.2.2.2.2.2.2.2.2.2.2.2.2.2.2.2.2.2.2.1), (.int .i64 r.2.2.2.2.2.2.2.2.2.2.2.2.2.2.2.2.2.2.2.2.2.2.2.2.2.2.1), (.int .i64 r.2.2.2.2.2.2.2.2.2.2.2.2.2.2.2.2.2.2.2.2.2.2.2.2.2.2.2.1), (.int .i64 r.2.2.2.2.2.2.2.2.2.2.2.2.2.2.2.2.2.2.2.2.2.2.2.2.2.2.2.2.1), (.int .i64 r.2.2.2.2.2.2.2.2.2.2.2.2.2.2.2.2.2.2.2.2.2.2.2.2.2.2.2.2.2.1), (.int .i64 r.2.2.2.2.2.2.2.2.2.2.2.2.2.2.2.2.2.2.2.2.2.2.2.2.2.2.2.2.2.2.1)]), (.c (.int .i64 r.2.2.2.2.2.2.2.2.2.2.2.2.2.2.2.2.2.2.2.2.2.2.2.2.2.2.2.2.2.2.2))]), [])
def dec : Out → Option R
  | ((.tup [(.agg [(.int .i64 v0), (.int .i64 v1), (.int .i64 v2), (.bool v3), (.int .i64 v4), (.int .i64 v5), (.int .i64 v6), (.bool v7), (.int .i64 v8), (.int .i64 v9), (.int .i64 v10), (.bool v11), (.bool v12), (.int .i64 v13), (.int .i64 v14), (.int .i64 v15), (.bool v16), (.int .i64 v17), (.int .i64 v18), (.int .i64 v19), (.int .i64 v20), (.bool v21), (.bool v22), (.bool v23), (.bool v24), (.bool v25), (.int .i64 v26), (.int .i64 v27), (.int .i64 v28), (.int .i64 v29), (.int .i64 v30)]), (.c (.int .i64 v31))]), []) => some (v0, v1, v2, v3, v4, v5, v6, v7, v8, v9, v10, v11, v12, v13, v14, v15, v16, v17, v18, v19, v20, v21, v22, v23, v24, v25, v26, v27, v28, v29, v30, v31)
  | _ => none
theorem dec_ok : ∀ u y, dec u = some y → u = enc y := by
  intro u y h
  unfold dec at h
  split at h
  · cases h; rfl
  · cases h
noncomputable def b0 : Code := subF [] Try.f30
noncomputable def K0 (k : Nat) : Kt R := kTop (cs k) Try.f30 dec
noncomputable def c1000035 : Code := sub [1, 1, 1] b0
noncomputable def J1000035 ( k : Nat) : Kt R := kAt (cs k) (loopN cs k) [1, 1, 1] b0 (K0 k)
noncomputable def c1000005 : Code := sub [1, 1, 0, 1, 0, 1] b0
noncomputable def J1000005 ( k : Nat) : Kt R := kAt (cs k) (loopN cs k) [1, 1, 0, 1, 0, 1] b0 (K0 k)
noncomputable def c1000021 : Code := sub [1, 1, 0, 1, 0, 1, 1, 1, 1, 1, 1, 1, 1, 1, 1, 1] b0
noncomputable def J1000021 ( k : Nat) : Kt R := kAt (cs k) (loopN cs k) [1, 1, 0, 1, 0, 1, 1, 1, 1, 1, 1, 1, 1, 1, 1, 1] b0 (K0 k)
abbrev T0 : Type := Int × Int × Bool × Int × Int × Int × Int × Int × Int × Int × Int × Int × Int × Int × Int × Int × Bool × Int × Int × Int × Bool × Int × Int × Int × Bool × Bool × Int × Int × Int × Bool × Int × Int × Int × Int × Bool × Bool × Bool × Bool × Bool × Int × Int × Int × Int × Int × Int × Int × Int × Int × Int × Bool × Int × Int × Int × Bool × Int × Int × Int × Bool × Bool × Int × Int × Int × Bool × Int × Int × Int × Int × Bool × Bool × Bool × Bool × Bool × Int × Int × Int × Int × Int
def s0 : T0 → St := fun (v0, v1, v2, v3, v4, v5, v6, v7, v8, v9, v10, v11, v12, v13, v14, v15, v16, v17, v18, v19, v20, v21, v22, v23, v24, v25, v26, v27, v28, v29, v30, v31, v32, v33, v34, v35, v36, v37, v38, v39, v40, v41, v42, v43, v44, v45, v46, v47, v48, v49, v50, v51, v52, v53, v54, v55, v56, v57, v58, v59, v60, v61, v62, v63, v64, v65, v66, v67, v68, v69, v70, v71, v72, v73, v74, v75, v76) => ⟨153, 0, [(3, (.c (.ptr 64000000 0))), (4, (.c (.ptr 64000001 0))), (5, (.c (.ptr 64000002 0))), (6, (.c (.ptr 64000003 0))), (8, (.c (.int .i64 v0))), (10, (.c (.int .i64 v1))), (11, (.c (.bool v2)))], [], [(256000000, .gone), (64000000, (.box [(.int .i64 v3), (.int .i64 v4), (.int .i64 v5), (.int .i64 v6), (.int .i64 v7), (.int .i64 v8), (.int .i64 v9), (.int .i64 v10), (.int .i64 v11), (.int .i64 v12)])), (64000001, (.box [(.int .i64 v13), (.int .i64 v14), (.int .i64 v15), (.bool v16), (.int .i64 v17), (.int .i64 v18), (.int .i64 v19), (.bool v20), (.int .i64 v21), (.int .i64 v22), (.int .i64 v23), (.bool v24), (.bool v25), (.int .i64 v26), (.int .i64 v27), (.int .i64 v28), (.bool v29), (.int .i64 v30), (.int .i64 v31), (.int .i64 v32), (.int .i64 v33), (.bool v34), (.bool v35), (.bool v36), (.bool v37), (.bool v38), (.int .i64 v39), (.int .i64 v40), (.int .i64 v41), (.int .i64 v42), (.int .i64 v43)])), (64000002, (.box [(.int .i64 v44), (.int .i64 v45)])), (64000003, (.box [(.int .i64 v46), (.int .i64 v47), (.int .i64 v48), (.bool v49), (.int .i64 v50), (.int .i64 v51), (.int .i64 v52), (.bool v53), (.int .i64 v54), (.int .i64 v55), (.int .i64 v56), (.bool v57), (.bool v58), (.int .i64 v59), (.int .i64 v60), (.int .i64 v61), (.bool v62), (.int .i64 v63), (.int .i64 v64), (.int .i64 v65), (.int .i64 v66), (.bool v67), (.bool v68), (.bool v69), (.bool v70), (.bool v71), (.int .i64 v72), (.int .i64 v73), (.int .i64 v74), (.int .i64 v75), (.int .i64 v76)]))]⟩
noncomputable def l0 ( k : Nat) (v : T0) : Option R := held (run (cs k) (loopN cs k) c1000005 (J1000005 k) (s0 v))
noncomputable def D0 (v : T0) : Option R := lim fun L => l0 (L 0) v
theorem D0_cn (v : T0) : Cn late (D0 v) fun L => l0 (L 0) v := of_lim
abbrev T1 : Type := Int × Int × Int × Int × Bool × Int × Int × Int × Bool × Int × Int × Int × Bool × Bool × Int × Int × Int × Bool × Int × Int × Int × Int × Bool × Bool × Bool × Bool × Bool × Int × Int × Int × Int × Int × Int × Int × Int × Bool × Int × Int × Int × Bool × Int × Int × Int × Bool × Bool × Int × Int × Int × Bool × Int × Int × Int × Int × Bool × Bool × Bool × Bool × Bool × Int × Int × Int × Int × Int
def s1 : T1 → St := fun (v0, v1, v2, v3, v4, v5, v6, v7, v8, v9, v10, v11, v12, v13, v14, v15, v16, v17, v18, v19, v20, v21, v22, v23, v24, v25, v26, v27, v28, v29, v30, v31, v32, v33, v34, v35, v36, v37, v38, v39, v40, v41, v42, v43, v44, v45, v46, v47, v48, v49, v50, v51, v52, v53, v54, v55, v56, v57, v58, v59, v60, v61, v62) => ⟨153, 0, [(4, (.c (.ptr 64000000 0))), (6, (.c (.ptr 64000001 0))), (8, (.c (.int .i64 v0)))], [], [(256000000, .gone), (64000000, (.box [(.int .i64 v1), (.int .i64 v2), (.int .i64 v3), (.bool v4), (.int .i64 v5), (.int .i64 v6), (.int .i64 v7), (.bool v8), (.int .i64 v9), (.int .i64 v10), (.int .i64 v11), (.bool v12), (.bool v13), (.int .i64 v14), (.int .i64 v15), (.int .i64 v16), (.bool v17), (.int .i64 v18), (.int .i64 v19), (.int .i64 v20), (.int .i64 v21), (.bool v22), (.bool v23), (.bool v24), (.bool v25), (.bool v26), (.int .i64 v27), (.int .i64 v28), (.int .i64 v29), (.int .i64 v30), (.int .i64 v31)])), (64000001, (.box [(.int .i64 v32), (.int .i64 v33), (.int .i64 v34), (.bool v35), (.int .i64 v36), (.int .i64 v37), (.int .i64 v38), (.bool v39), (.int .i64 v40), (.int .i64 v41), (.int .i64 v42), (.bool v43), (.bool v44), (.int .i64 v45), (.int .i64 v46), (.int .i64 v47), (.bool v48), (.int .i64 v49), (.int .i64 v50), (.int .i64 v51), (.int .i64 v52), (.bool v53), (.bool v54), (.bool v55), (.bool v56), (.bool v57), (.int .i64 v58), (.int .i64 v59), (.int .i64 v60), (.int .i64 v61), (.int .i64 v62)]))]⟩
noncomputable def l1 ( k : Nat) (v : T1) : Option R := held (run (cs k) (loopN cs k) c1000035 (J1000035 k) (s1 v))
noncomputable def D1 (v : T1) : Option R := lim fun L => l1 (L 0) v
theorem D1_cn (v : T1) : Cn late (D1 v) fun L => l1 (L 0) v := of_lim
abbrev T2 : Type := Int × Int × Bool × Int × Int × Int × Int × Int × Int × Int × Int × Int × Int × Int × Int × Int × Bool × Int × Int × Int × Bool × Int × Int × Int × Bool × Bool × Int × Int × Int × Bool × Int × Int × Int × Int × Bool × Bool × Bool × Bool × Bool × Int × Int × Int × Int × Int × Int × Int × Int × Int × Int × Bool × Int × Int × Int × Bool × Int × Int × Int × Bool × Bool × Int × Int × Int × Bool × Int × Int × Int × Int × Bool × Bool × Bool × Bool × Bool × Int × Int × Int × Int × Int
def s2 : T2 → St := fun (v0, v1, v2, v3, v4, v5, v6, v7, v8, v9, v10, v11, v12, v13, v14, v15, v16, v17, v18, v19, v20, v21, v22, v23, v24, v25, v26, v27, v28, v29, v30, v31, v32, v33, v34, v35, v36, v37, v38, v39, v40, v41, v42, v43, v44, v45, v46, v47, v48, v49, v50, v51, v52, v53, v54, v55, v56, v57, v58, v59, v60, v61, v62, v63, v64, v65, v66, v67, v68, v69, v70, v71, v72, v73, v74, v75, v76) => ⟨153, 0, [(3, (.c (.ptr 64000000 0))), (4, (.c (.ptr 64000001 0))), (5, (.c (.ptr 64000002 0))), (6, (.c (.ptr 64000003 0))), (8, (.c (.int .i64 v0))), (10, (.c (.int .i64 v1))), (85, (.c (.bool v2)))], [], [(256000000, .gone), (64000000, (.box [(.int .i64 v3), (.int .i64 v4), (.int .i64 v5), (.int .i64 v6), (.int .i64 v7), (.int .i64 v8), (.int .i64 v9), (.int .i64 v10), (.int .i64 v11), (.int .i64 v12)])), (64000001, (.box [(.int .i64 v13), (.int .i64 v14), (.int .i64 v15), (.bool v16), (.int .i64 v17), (.int .i64 v18), (.int .i64 v19), (.bool v20), (.int .i64 v21), (.int .i64 v22), (.int .i64 v23), (.bool v24), (.bool v25), (.int .i64 v26), (.int .i64 v27), (.int .i64 v28), (.bool v29), (.int .i64 v30), (.int .i64 v31), (.int .i64 v32), (.int .i64 v33), (.bool v34), (.bool v35), (.bool v36), (.bool v37), (.bool v38), (.int .i64 v39), (.int .i64 v40), (.int .i64 v41), (.int .i64 v42), (.int .i64 v43)])), (64000002, (.box [(.int .i64 v44), (.int .i64 v45)])), (64000003, (.box [(.int .i64 v46), (.int .i64 v47), (.int .i64 v48), (.bool v49), (.int .i64 v50), (.int .i64 v51), (.int .i64 v52), (.bool v53), (.int .i64 v54), (.int .i64 v55), (.int .i64 v56), (.bool v57), (.bool v58), (.int .i64 v59), (.int .i64 v60), (.int .i64 v61), (.bool v62), (.int .i64 v63), (.int .i64 v64), (.int .i64 v65), (.int .i64 v66), (.bool v67), (.bool v68), (.bool v69), (.bool v70), (.bool v71), (.int .i64 v72), (.int .i64 v73), (.int .i64 v74), (.int .i64 v75), (.int .i64 v76)]))]⟩
noncomputable def l2 ( k : Nat) (v : T2) : Option R := held (run (cs k) (loopN cs k) c1000021 (J1000021 k) (s2 v))
noncomputable def D2 (v : T2) : Option R := lim fun L => l2 (L 0) v
theorem D2_cn (v : T2) : Cn late (D2 v) fun L => l2 (L 0) v := of_lim
def d0 (L1k : T1 → Option R) (mount_Goto_k : mount_Goto.A → Option mount_Goto.R) (mount_Follow_k : mount_Follow.A → Option mount_Follow.R) (mount_Park_k : mount_Park.A → Option mount_Park.R) (mount_Stop_k : mount_Stop.A → Option mount_Stop.R) (dome_Brake_k : dome_Brake.A → Option dome_Brake.R) (L2k : T2 → Option R) : T0 → Option R := fun (v0, v1, v2, v3, v4, v5, v6, v7, v8, v9, v10, v11, v12, v13, v14, v15, v16, v17, v18, v19, v20, v21, v22, v23, v24, v25, v26, v27, v28, v29, v30, v31, v32, v33, v34, v35, v36, v37, v38, v39, v40, v41, v42, v43, v44, v45, v46, v47, v48, v49, v50, v51, v52, v53, v54, v55, v56, v57, v58, v59, v60, v61, v62, v63, v64, v65, v66, v67, v68, v69, v70, v71, v72, v73, v74, v75, v76) =>
br v2
  (br (decide (v45 < -17179869184) || decide (17179869184 < v45)) (some (0, 0, 0, false, 0, 0, 0, false, 0, 0, 0, false, false, 0, 0, 0, false, 0, 0, 0, 0, false, false, false, false, false, 0, 0, 0, 0, 0, 4))
    (br (decide (v44 = 0))
      (L1k
        (v0, v13, v14, v15, v16, v17, v18, v19, v20, v21, v22, v23, v24, v25, v26, v27, v28, v29, v30, v31, v32, v33, v34, v35, v36, v37, v38, v45, v40, v41, v42, v43, v46, v47, v48, v49, v50, v51, v52, v53, v54, v55,
          v56, v57, v58, v59, v60, v61, v62, v63, v64, v65, v66, v67, v68, v69, v70, v71, v72, v73, v74, v75, v76))
      (L1k
        (v0, v13, v14, v15, v16, v17, v18, v19, v20, v21, v22, v23, v24, v25, v26, v27, v28, v29, v30, v31, v32, v33, v34, v35, v36, v37, v38, v39, v45, v41, v42, v43, v46, v47, v48, v49, v50, v51, v52, v53, v54, v55,
          v56, v57, v58, v59, v60, v61, v62, v63, v64, v65, v66, v67, v68, v69, v70, v71, v72, v73, v74, v75, v76))))
  (br (decide (v1 = 2))
    (bnd (mount_Goto_k (v3, v4, v5, v6, v7, v8, v9, v10, v11, v12, v13, v14, v15, v16, v17, v18, v19, v20, v21, v39, v40)) fun r =>
      L1k
        (r.snd.snd.snd.snd.snd.snd.snd.snd.snd, r.fst, r.snd.fst, r.snd.snd.fst, r.snd.snd.snd.fst, r.snd.snd.snd.snd.fst, r.snd.snd.snd.snd.snd.fst, r.snd.snd.snd.snd.snd.snd.fst, r.snd.snd.snd.snd.snd.snd.snd.fst,
          r.snd.snd.snd.snd.snd.snd.snd.snd.fst, v22, v23, v24, v25, v26, v27, v28, v29, v30, v31, v32, v33, v34, v35, v36, v37, v38, v39, v40, v41, v42, v43, v46, v47, v48, v49, v50, v51, v52, v53, v54, v55, v56, v57,
          v58, v59, v60, v61, v62, v63, v64, v65, v66, v67, v68, v69, v70, v71, v72, v73, v74, v75, v76))
    (br (decide (v1 = 3))
      (bnd (mount_Follow_k (v3, v4, v5, v6, v7, v8, v9, v10, v11, v12, v13, v14, v15, v16, v17, v18, v19, v20, v21, v39, v40)) fun r =>
        L1k
          (r.snd.snd.snd.snd.snd.snd.snd.snd.snd, r.fst, r.snd.fst, r.snd.snd.fst, r.snd.snd.snd.fst, r.snd.snd.snd.snd.fst, r.snd.snd.snd.snd.snd.fst, r.snd.snd.snd.snd.snd.snd.fst, r.snd.snd.snd.snd.snd.snd.snd.fst,
            r.snd.snd.snd.snd.snd.snd.snd.snd.fst, v22, v23, v24, v25, v26, v27, v28, v29, v30, v31, v32, v33, v34, v35, v36, v37, v38, v39, v40, v41, v42, v43, v46, v47, v48, v49, v50, v51, v52, v53, v54, v55, v56, v57,
            v58, v59, v60, v61, v62, v63, v64, v65, v66, v67, v68, v69, v70, v71, v72, v73, v74, v75, v76))
      (br (decide (v1 = 4))
        (bnd (mount_Park_k (v3, v4, v5, v6, v7, v8, v9, v10, v11, v12, v13, v14, v15, v16, v17, v18, v19, v20, v21)) fun r =>
          L1k
            (r.snd.snd.snd.snd.snd.snd.snd.snd.snd, r.fst, r.snd.fst, r.snd.snd.fst, r.snd.snd.snd.fst, r.snd.snd.snd.snd.fst, r.snd.snd.snd.snd.snd.fst, r.snd.snd.snd.snd.snd.snd.fst, r.snd.snd.snd.snd.snd.snd.snd.fst,
              r.snd.snd.snd.snd.snd.snd.snd.snd.fst, v22, v23, v24, v25, v26, v27, v28, v29, v30, v31, v32, v33, v34, v35, v36, v37, v38, v39, v40, v41, v42, v43, v46, v47, v48, v49, v50, v51, v52, v53, v54, v55, v56,
              v57, v58, v59, v60, v61, v62, v63, v64, v65, v66, v67, v68, v69, v70, v71, v72, v73, v74, v75, v76))
        (br (decide (v1 = 5))
          (bnd (mount_Stop_k (v3, v4, v5, v6, v7, v8, v9, v10, v11, v12, v13, v14, v15, v16, v17, v18, v19, v20, v21)) fun r =>
            bnd (dome_Brake_k (v22, v23, v24, v25, v26, v27, v28, v29)) fun r_1 =>
              L1k
                (v0, r.fst, r.snd.fst, r.snd.snd.fst, r.snd.snd.snd.fst, r.snd.snd.snd.snd.fst, r.snd.snd.snd.snd.snd.fst, r.snd.snd.snd.snd.snd.snd.fst, r.snd.snd.snd.snd.snd.snd.snd.fst,
                  r.snd.snd.snd.snd.snd.snd.snd.snd.fst, r_1.fst, r_1.snd.fst, r_1.snd.snd.fst, r_1.snd.snd.snd.fst, r_1.snd.snd.snd.snd.fst, r_1.snd.snd.snd.snd.snd.fst, r_1.snd.snd.snd.snd.snd.snd.fst,
                  r_1.snd.snd.snd.snd.snd.snd.snd.fst, v30, v31, v32, v33, v34, v35, v36, v37, v38, v39, v40, v41, v42, v43, v46, v47, v48, v49, v50, v51, v52, v53, v54, v55, v56, v57, v58, v59, v60, v61, v62, v63, v64,
                  v65, v66, v67, v68, v69, v70, v71, v72, v73, v74, v75, v76))
          (br (decide (v1 = 6))
            (L2k
              (v0, v1, decide (v1 = 6), v3, v4, v5, v6, v7, v8, v9, v10, v11, v12, v13, v14, v15, v16, v17, v18, v19, v20, v21, v22, v23, v24, v25, v26, v27, v28, v29, v30, v31, v32, v33, v34, v35, v36, v37, v38, v39,
                v40, v41, v42, v43, v44, v45, v46, v47, v48, v49, v50, v51, v52, v53, v54, v55, v56, v57, v58, v59, v60, v61, v62, v63, v64, v65, v66, v67, v68, v69, v70, v71, v72, v73, v74, v75, v76))
            (L2k
              (v0, v1, decide (v1 = 7), v3, v4, v5, v6, v7, v8, v9, v10, v11, v12, v13, v14, v15, v16, v17, v18, v19, v20, v21, v22, v23, v24, v25, v26, v27, v28, v29, v30, v31, v32, v33, v34, v35, v36, v37, v38, v39,
                v40, v41, v42, v43, v44, v45, v46, v47, v48, v49, v50, v51, v52, v53, v54, v55, v56, v57, v58, v59, v60, v61, v62, v63, v64, v65, v66, v67, v68, v69, v70, v71, v72, v73, v74, v75, v76)))))))
theorem d0_cn {ι : Type} {E : Fil ι} {L1k : T1 → Option R} {L1k' : ι → T1 → Option R} (hL1k : ∀ v, Cn E (L1k v) fun i => L1k' i v) {mount_Goto_k : mount_Goto.A → Option mount_Goto.R} {mount_Goto_k' : ι → mount_Goto.A → Option mount_Goto.R} (hmount_Goto_k : ∀ v, Cn E (mount_Goto_k v) fun i => mount_Goto_k' i v) {mount_Follow_k : mount_Follow.A → Option mount_Follow.R} {mount_Follow_k' : ι → mount_Follow.A → Option mount_Follow.R} (hmount_Follow_k : ∀ v, Cn E (mount_Follow_k v) fun i => mount_Follow_k' i v) {mount_Park_k : mount_Park.A → Option mount_Park.R} {mount_Park_k' : ι → mount_Park.A → Option mount_Park.R} (hmount_Park_k : ∀ v, Cn E (mount_Park_k v) fun i => mount_Park_k' i v) {mount_Stop_k : mount_Stop.A → Option mount_Stop.R} {mount_Stop_k' : ι → mount_Stop.A → Option mount_Stop.R} (hmount_Stop_k : ∀ v, Cn E (mount_Stop_k v) fun i => mount_Stop_k' i v) {dome_Brake_k : dome_Brake.A → Option dome_Brake.R} {dome_Brake_k' : ι → dome_Brake.A → Option dome_Brake.R} (hdome_Brake_k : ∀ v, Cn E (dome_Brake_k v) fun i => dome_Brake_k' i v) {L2k : T2 → Option R} {L2k' : ι → T2 → Option R} (hL2k : ∀ v, Cn E (L2k v) fun i => L2k' i v) : ∀ v : T0, Cn E (d0 L1k mount_Goto_k mount_Follow_k mount_Park_k mount_Stop_k dome_Brake_k L2k v) fun i => d0 (L1k' i) (mount_Goto_k' i) (mount_Follow_k' i) (mount_Park_k' i) (mount_Stop_k' i) (dome_Brake_k' i) (L2k' i) v := fun (v0, v1, v2, v3, v4, v5, v6, v7, v8, v9, v10, v11, v12, v13, v14, v15, v16, v17, v18, v19, v20, v21, v22, v23, v24, v25, v26, v27, v28, v29, v30, v31, v32, v33, v34, v35, v36, v37, v38, v39, v40, v41, v42, v43, v44, v45, v46, v47, v48, v49, v50, v51, v52, v53, v54, v55, v56, v57, v58, v59, v60, v61, v62, v63, v64, v65, v66, v67, v68, v69, v70, v71, v72, v73, v74, v75, v76) => (.br (.br .some (.br (hL1k _) (hL1k _))) (.br (.bnd (hmount_Goto_k _) fun _ => (hL1k _)) (.br (.bnd (hmount_Follow_k _) fun _ => (hL1k _)) (.br (.bnd (hmount_Park_k _) fun _ => (hL1k _)) (.br (.bnd (hmount_Stop_k _) fun _ => (.bnd (hdome_Brake_k _) fun _ => (hL1k _))) (.br (hL2k _) (hL2k _)))))))
theorem l0_b ( k : Nat) : ∀ v : T0, run (cs k) (loopN cs k) c1000005 (J1000005 k) (s0 v) = d0 (l1 k) (mount_Goto.f k) (mount_Follow.f k) (mount_Park.f k) (mount_Stop.f k) (dome_Brake.f k) (l2 k) v := fun (v0, v1, v2, v3, v4, v5, v6, v7, v8, v9, v10, v11, v12, v13, v14, v15, v16, v17, v18, v19, v20, v21, v22, v23, v24, v25, v26, v27, v28, v29, v30, v31, v32, v33, v34, v35, v36, v37, v38, v39, v40, v41, v42, v43, v44, v45, v46, v47, v48, v49, v50, v51, v52, v53, v54, v55, v56, v57, v58, v59, v60, v61, v62, v63, v64, v65, v66, v67, v68, v69, v70, v71, v72, v73, v74, v75, v76) => by kernel_rfl
theorem D0_of (v : T0) {r : R} (h : d0 D1 mount_Goto.F mount_Follow.F mount_Park.F mount_Stop.F dome_Brake.F D2 v = some r) : D0 v = some r :=
  join_of (l := fun L => l0 (L 0) v) (d := fun L => d0 (l1 (L 0)) (mount_Goto.f (L 0)) (mount_Follow.f (L 0)) (mount_Park.f (L 0)) (mount_Stop.f (L 0)) (dome_Brake.f (L 0)) (l2 (L 0)) v) (fun L => (held_eq _).trans (l0_b (L 0) v)) (d0_cn (fun v => (D1_cn v).re [0]) (mount_Goto.F_cn 0) (mount_Follow.F_cn 0) (mount_Park.F_cn 0) (mount_Stop.F_cn 0) (dome_Brake.F_cn 0) (fun v => (D2_cn v).re [0]) v) h
def d1 : T1 → Option R := fun (v0, v1, v2, v3, v4, v5, v6, v7, v8, v9, v10, v11, v12, v13, v14, v15, v16, v17, v18, v19, v20, v21, v22, v23, v24, v25, v26, v27, v28, v29, v30, v31, v32, v33, v34, v35, v36, v37, v38, v39, v40, v41, v42, v43, v44, v45, v46, v47, v48, v49, v50, v51, v52, v53, v54, v55, v56, v57, v58, v59, v60, v61, v62) =>
some (v1, v2, v3, v4, v5, v6, v7, v8, v9, v10, v11, v12, v13, v14, v15, v16, v17, v18, v19, v20, v21, v22, v23, v24, v25, v26, v27, v28, v29, v30, v31, v0)
theorem d1_cn {ι : Type} {E : Fil ι} : ∀ v : T1, Cn E (d1 v) fun i => d1 v := fun (v0, v1, v2, v3, v4, v5, v6, v7, v8, v9, v10, v11, v12, v13, v14, v15, v16, v17, v18, v19, v20, v21, v22, v23, v24, v25, v26, v27, v28, v29, v30, v31, v32, v33, v34, v35, v36, v37, v38, v39, v40, v41, v42, v43, v44, v45, v46, v47, v48, v49, v50, v51, v52, v53, v54, v55, v56, v57, v58, v59, v60, v61, v62) => .some
theorem l1_b ( k : Nat) : ∀ v : T1, run (cs k) (loopN cs k) c1000035 (J1000035 k) (s1 v) = d1 v := fun (v0, v1, v2, v3, v4, v5, v6, v7, v8, v9, v10, v11, v12, v13, v14, v15, v16, v17, v18, v19, v20, v21, v22, v23, v24, v25, v26, v27, v28, v29, v30, v31, v32, v33, v34, v35, v36, v37, v38, v39, v40, v41, v42, v43, v44, v45, v46, v47, v48, v49, v50, v51, v52, v53, v54, v55, v56, v57, v58, v59, v60, v61, v62) => by kernel_rfl
theorem D1_of (v : T1) {r : R} (h : d1 v = some r) : D1 v = some r :=
  join_of (l := fun L => l1 (L 0) v) (d := fun L => d1 v) (fun L => (held_eq _).trans (l1_b (L 0) v)) (d1_cn v) h
def d2 (dome_Set_k : dome_Set.A → Option dome_Set.R) (L1k : T1 → Option R) (dome_Rotate_k : dome_Rotate.A → Option dome_Rotate.R) (guard_expose_k : guard_expose.A → Option guard_expose.R) (camera_Abort_k : camera_Abort.A → Option camera_Abort.R) (camera_Fetch_k : camera_Fetch.A → Option camera_Fetch.R) (guard_begin_k : guard_begin.A → Option guard_begin.R) : T2 → Option R := fun (v0, v1, v2, v3, v4, v5, v6, v7, v8, v9, v10, v11, v12, v13, v14, v15, v16, v17, v18, v19, v20, v21, v22, v23, v24, v25, v26, v27, v28, v29, v30, v31, v32, v33, v34, v35, v36, v37, v38, v39, v40, v41, v42, v43, v44, v45, v46, v47, v48, v49, v50, v51, v52, v53, v54, v55, v56, v57, v58, v59, v60, v61, v62, v63, v64, v65, v66, v67, v68, v69, v70, v71, v72, v73, v74, v75, v76) =>
br v2
  (bnd (dome_Set_k (v22, v23, v24, v25, v26, v27, v28, v29, decide (v44 = 6), decide (v44 = 6))) fun r =>
    L1k
      (r.snd.snd.snd.snd.snd.snd.snd.snd, v13, v14, v15, v16, v17, v18, v19, v20, v21, r.fst, r.snd.fst, r.snd.snd.fst, r.snd.snd.snd.fst, r.snd.snd.snd.snd.fst, r.snd.snd.snd.snd.snd.fst, r.snd.snd.snd.snd.snd.snd.fst,
        r.snd.snd.snd.snd.snd.snd.snd.fst, v30, v31, v32, v33, v34, v35, v36, v37, v38, v39, v40, v41, v42, v43, v46, v47, v48, v49, v50, v51, v52, v53, v54, v55, v56, v57, v58, v59, v60, v61, v62, v63, v64, v65, v66,
        v67, v68, v69, v70, v71, v72, v73, v74, v75, v76))
  (br (decide (v1 = 8))
    (bnd (dome_Rotate_k (v22, v23, v24, v25, v26, v27, v28, v29, v45)) fun r =>
      L1k
        (r.snd.snd.snd.snd.snd.snd.snd.snd, v13, v14, v15, v16, v17, v18, v19, v20, v21, r.fst, r.snd.fst, r.snd.snd.fst, r.snd.snd.snd.fst, r.snd.snd.snd.snd.fst, r.snd.snd.snd.snd.snd.fst,
          r.snd.snd.snd.snd.snd.snd.fst, r.snd.snd.snd.snd.snd.snd.snd.fst, v30, v31, v32, v33, v34, v35, v36, v37, v38, v39, v40, v41, v42, v43, v46, v47, v48, v49, v50, v51, v52, v53, v54, v55, v56, v57, v58, v59, v60,
          v61, v62, v63, v64, v65, v66, v67, v68, v69, v70, v71, v72, v73, v74, v75, v76))
    (br (decide (v1 = 9))
      (bnd (guard_expose_k (v13, v14, v15, v16, v17, v18, v19, v20, v21, v22, v23, v24, v25, v26, v27, v28, v29, v30, v31, v32, v33, v34, v35, v36, v37, v38, v39, v40, v41, v42, v43, v45)) fun r =>
        some
          (r.fst, r.snd.fst, r.snd.snd.fst, r.snd.snd.snd.fst, r.snd.snd.snd.snd.fst, r.snd.snd.snd.snd.snd.fst, r.snd.snd.snd.snd.snd.snd.fst, r.snd.snd.snd.snd.snd.snd.snd.fst, r.snd.snd.snd.snd.snd.snd.snd.snd.fst,
            r.snd.snd.snd.snd.snd.snd.snd.snd.snd.fst, r.snd.snd.snd.snd.snd.snd.snd.snd.snd.snd.fst, r.snd.snd.snd.snd.snd.snd.snd.snd.snd.snd.snd.fst, r.snd.snd.snd.snd.snd.snd.snd.snd.snd.snd.snd.snd.fst,
            r.snd.snd.snd.snd.snd.snd.snd.snd.snd.snd.snd.snd.snd.fst, r.snd.snd.snd.snd.snd.snd.snd.snd.snd.snd.snd.snd.snd.snd.fst, r.snd.snd.snd.snd.snd.snd.snd.snd.snd.snd.snd.snd.snd.snd.snd.fst,
            r.snd.snd.snd.snd.snd.snd.snd.snd.snd.snd.snd.snd.snd.snd.snd.snd.fst, r.snd.snd.snd.snd.snd.snd.snd.snd.snd.snd.snd.snd.snd.snd.snd.snd.snd.fst,
            r.snd.snd.snd.snd.snd.snd.snd.snd.snd.snd.snd.snd.snd.snd.snd.snd.snd.snd.fst, r.snd.snd.snd.snd.snd.snd.snd.snd.snd.snd.snd.snd.snd.snd.snd.snd.snd.snd.snd.fst,
            r.snd.snd.snd.snd.snd.snd.snd.snd.snd.snd.snd.snd.snd.snd.snd.snd.snd.snd.snd.snd.fst, r.snd.snd.snd.snd.snd.snd.snd.snd.snd.snd.snd.snd.snd.snd.snd.snd.snd.snd.snd.snd.snd.fst,
            r.snd.snd.snd.snd.snd.snd.snd.snd.snd.snd.snd.snd.snd.snd.snd.snd.snd.snd.snd.snd.snd.snd.fst, r.snd.snd.snd.snd.snd.snd.snd.snd.snd.snd.snd.snd.snd.snd.snd.snd.snd.snd.snd.snd.snd.snd.snd.fst,
            r.snd.snd.snd.snd.snd.snd.snd.snd.snd.snd.snd.snd.snd.snd.snd.snd.snd.snd.snd.snd.snd.snd.snd.snd.fst,
            r.snd.snd.snd.snd.snd.snd.snd.snd.snd.snd.snd.snd.snd.snd.snd.snd.snd.snd.snd.snd.snd.snd.snd.snd.snd.fst,
            r.snd.snd.snd.snd.snd.snd.snd.snd.snd.snd.snd.snd.snd.snd.snd.snd.snd.snd.snd.snd.snd.snd.snd.snd.snd.snd.fst,
            r.snd.snd.snd.snd.snd.snd.snd.snd.snd.snd.snd.snd.snd.snd.snd.snd.snd.snd.snd.snd.snd.snd.snd.snd.snd.snd.snd.fst,
            r.snd.snd.snd.snd.snd.snd.snd.snd.snd.snd.snd.snd.snd.snd.snd.snd.snd.snd.snd.snd.snd.snd.snd.snd.snd.snd.snd.snd.fst,
            r.snd.snd.snd.snd.snd.snd.snd.snd.snd.snd.snd.snd.snd.snd.snd.snd.snd.snd.snd.snd.snd.snd.snd.snd.snd.snd.snd.snd.snd.fst,
            r.snd.snd.snd.snd.snd.snd.snd.snd.snd.snd.snd.snd.snd.snd.snd.snd.snd.snd.snd.snd.snd.snd.snd.snd.snd.snd.snd.snd.snd.snd.fst,
            r.snd.snd.snd.snd.snd.snd.snd.snd.snd.snd.snd.snd.snd.snd.snd.snd.snd.snd.snd.snd.snd.snd.snd.snd.snd.snd.snd.snd.snd.snd.snd))
      (br (decide (v1 = 10))
        (bnd (camera_Abort_k (v30, v31, v32, v33)) fun r =>
          L1k
            (r.snd.snd.snd.snd, v13, v14, v15, v16, v17, v18, v19, v20, v21, v22, v23, v24, v25, v26, v27, v28, v29, r.fst, r.snd.fst, r.snd.snd.fst, r.snd.snd.snd.fst, v34, v35, v36, v37, v38, v39, v40, v41, v42, v43,
              v46, v47, v48, v49, v50, v51, v52, v53, v54, v55, v56, v57, v58, v59, v60, v61, v62, v63, v64, v65, v66, v67, v68, v69, v70, v71, v72, v73, v74, v75, v76))
        (br (decide (v1 = 11))
          (bnd (camera_Fetch_k (v30, v31, v32, v33)) fun r =>
            L1k
              (r.snd.snd.snd.snd.snd.snd, v13, v14, v15, v16, v17, v18, v19, v20, v21, v22, v23, v24, v25, v26, v27, v28, v29, r.fst, r.snd.fst, r.snd.snd.fst, r.snd.snd.snd.fst, v34, v35, v36, v37, v38, v39, v40, v41,
                v42, v43, v46, v47, v48, v49, v50, v51, v52, v53, v54, v55, v56, v57, v58, v59, v60, v61, v62, v63, v64, v65, v66, v67, v68, v69, v70, v71, v72, v73, v74, v75, v76))
          (br (decide (v1 = 12))
            (br (decide (v41 = 0))
              (bnd
                (guard_begin_k
                  (v3, v4, v5, v6, v7, v8, v9, v10, v11, v12, v13, v14, v15, v16, v17, v18, v19, v20, v21, v22, v23, v24, v25, v26, v27, v28, v29, v30, v31, v32, v33, v34, v35, v36, v37, v38, v39, v40, v41, v42, v43))
                fun r =>
                L1k
                  (v0, r.fst, r.snd.fst, r.snd.snd.fst, r.snd.snd.snd.fst, r.snd.snd.snd.snd.fst, r.snd.snd.snd.snd.snd.fst, r.snd.snd.snd.snd.snd.snd.fst, r.snd.snd.snd.snd.snd.snd.snd.fst,
                    r.snd.snd.snd.snd.snd.snd.snd.snd.fst, r.snd.snd.snd.snd.snd.snd.snd.snd.snd.fst, r.snd.snd.snd.snd.snd.snd.snd.snd.snd.snd.fst, r.snd.snd.snd.snd.snd.snd.snd.snd.snd.snd.snd.fst,
                    r.snd.snd.snd.snd.snd.snd.snd.snd.snd.snd.snd.snd.fst, r.snd.snd.snd.snd.snd.snd.snd.snd.snd.snd.snd.snd.snd.fst, r.snd.snd.snd.snd.snd.snd.snd.snd.snd.snd.snd.snd.snd.snd.fst,
                    r.snd.snd.snd.snd.snd.snd.snd.snd.snd.snd.snd.snd.snd.snd.snd.fst, r.snd.snd.snd.snd.snd.snd.snd.snd.snd.snd.snd.snd.snd.snd.snd.snd.fst,
                    r.snd.snd.snd.snd.snd.snd.snd.snd.snd.snd.snd.snd.snd.snd.snd.snd.snd.fst, r.snd.snd.snd.snd.snd.snd.snd.snd.snd.snd.snd.snd.snd.snd.snd.snd.snd.snd.fst,
                    r.snd.snd.snd.snd.snd.snd.snd.snd.snd.snd.snd.snd.snd.snd.snd.snd.snd.snd.snd.fst, r.snd.snd.snd.snd.snd.snd.snd.snd.snd.snd.snd.snd.snd.snd.snd.snd.snd.snd.snd.snd.fst,
                    r.snd.snd.snd.snd.snd.snd.snd.snd.snd.snd.snd.snd.snd.snd.snd.snd.snd.snd.snd.snd.snd.fst, r.snd.snd.snd.snd.snd.snd.snd.snd.snd.snd.snd.snd.snd.snd.snd.snd.snd.snd.snd.snd.snd.snd.fst,
                    r.snd.snd.snd.snd.snd.snd.snd.snd.snd.snd.snd.snd.snd.snd.snd.snd.snd.snd.snd.snd.snd.snd.snd.fst,
                    r.snd.snd.snd.snd.snd.snd.snd.snd.snd.snd.snd.snd.snd.snd.snd.snd.snd.snd.snd.snd.snd.snd.snd.snd.fst,
                    r.snd.snd.snd.snd.snd.snd.snd.snd.snd.snd.snd.snd.snd.snd.snd.snd.snd.snd.snd.snd.snd.snd.snd.snd.snd.fst,
                    r.snd.snd.snd.snd.snd.snd.snd.snd.snd.snd.snd.snd.snd.snd.snd.snd.snd.snd.snd.snd.snd.snd.snd.snd.snd.snd.fst,
                    r.snd.snd.snd.snd.snd.snd.snd.snd.snd.snd.snd.snd.snd.snd.snd.snd.snd.snd.snd.snd.snd.snd.snd.snd.snd.snd.snd.fst,
                    r.snd.snd.snd.snd.snd.snd.snd.snd.snd.snd.snd.snd.snd.snd.snd.snd.snd.snd.snd.snd.snd.snd.snd.snd.snd.snd.snd.snd.fst,
                    r.snd.snd.snd.snd.snd.snd.snd.snd.snd.snd.snd.snd.snd.snd.snd.snd.snd.snd.snd.snd.snd.snd.snd.snd.snd.snd.snd.snd.snd.fst,
                    r.snd.snd.snd.snd.snd.snd.snd.snd.snd.snd.snd.snd.snd.snd.snd.snd.snd.snd.snd.snd.snd.snd.snd.snd.snd.snd.snd.snd.snd.snd, v46, v47, v48, v49, v50, v51, v52, v53, v54, v55, v56, v57, v58, v59, v60,
                    v61, v62, v63, v64, v65, v66, v67, v68, v69, v70, v71, v72, v73, v74, v75, v76))
              (L1k
                (v0, v13, v14, v15, v16, v17, v18, v19, v20, v21, v22, v23, v24, v25, v26, v27, v28, v29, v30, v31, v32, v33, v34, v35, v36, v37, v38, v39, v40, v41, v42, v43, v46, v47, v48, v49, v50, v51, v52, v53, v54,
                  v55, v56, v57, v58, v59, v60, v61, v62, v63, v64, v65, v66, v67, v68, v69, v70, v71, v72, v73, v74, v75, v76)))
            (br (decide (v1 = 13))
              (L1k
                (v0, v13, v14, v15, v16, v17, v18, v19, v20, v21, v22, v23, v24, v25, v26, v27, v28, v29, v30, v31, v32, v33, v34, v35, v36, v37, v38, v39, v40, 0, v42, v43, v46, v47, v48, v49, v50, v51, v52, v53, v54,
                  v55, v56, v57, v58, v59, v60, v61, v62, v63, v64, v65, v66, v67, v68, v69, v70, v71, v72, v73, v74, v75, v76))
              (L1k
                (v0, v13, v14, v15, v16, v17, v18, v19, v20, v21, v22, v23, v24, v25, v26, v27, v28, v29, v30, v31, v32, v33, v34, v35, v36, v37, v38, v39, v40, v41, v42, v43, v46, v47, v48, v49, v50, v51, v52, v53, v54,
                  v55, v56, v57, v58, v59, v60, v61, v62, v63, v64, v65, v66, v67, v68, v69, v70, v71, v72, v73, v74, v75, v76))))))))
theorem d2_cn {ι : Type} {E : Fil ι} {dome_Set_k : dome_Set.A → Option dome_Set.R} {dome_Set_k' : ι → dome_Set.A → Option dome_Set.R} (hdome_Set_k : ∀ v, Cn E (dome_Set_k v) fun i => dome_Set_k' i v) {L1k : T1 → Option R} {L1k' : ι → T1 → Option R} (hL1k : ∀ v, Cn E (L1k v) fun i => L1k' i v) {dome_Rotate_k : dome_Rotate.A → Option dome_Rotate.R} {dome_Rotate_k' : ι → dome_Rotate.A → Option dome_Rotate.R} (hdome_Rotate_k : ∀ v, Cn E (dome_Rotate_k v) fun i => dome_Rotate_k' i v) {guard_expose_k : guard_expose.A → Option guard_expose.R} {guard_expose_k' : ι → guard_expose.A → Option guard_expose.R} (hguard_expose_k : ∀ v, Cn E (guard_expose_k v) fun i => guard_expose_k' i v) {camera_Abort_k : camera_Abort.A → Option camera_Abort.R} {camera_Abort_k' : ι → camera_Abort.A → Option camera_Abort.R} (hcamera_Abort_k : ∀ v, Cn E (camera_Abort_k v) fun i => camera_Abort_k' i v) {camera_Fetch_k : camera_Fetch.A → Option camera_Fetch.R} {camera_Fetch_k' : ι → camera_Fetch.A → Option camera_Fetch.R} (hcamera_Fetch_k : ∀ v, Cn E (camera_Fetch_k v) fun i => camera_Fetch_k' i v) {guard_begin_k : guard_begin.A → Option guard_begin.R} {guard_begin_k' : ι → guard_begin.A → Option guard_begin.R} (hguard_begin_k : ∀ v, Cn E (guard_begin_k v) fun i => guard_begin_k' i v) : ∀ v : T2, Cn E (d2 dome_Set_k L1k dome_Rotate_k guard_expose_k camera_Abort_k camera_Fetch_k guard_begin_k v) fun i => d2 (dome_Set_k' i) (L1k' i) (dome_Rotate_k' i) (guard_expose_k' i) (camera_Abort_k' i) (camera_Fetch_k' i) (guard_begin_k' i) v := fun (v0, v1, v2, v3, v4, v5, v6, v7, v8, v9, v10, v11, v12, v13, v14, v15, v16, v17, v18, v19, v20, v21, v22, v23, v24, v25, v26, v27, v28, v29, v30, v31, v32, v33, v34, v35, v36, v37, v38, v39, v40, v41, v42, v43, v44, v45, v46, v47, v48, v49, v50, v51, v52, v53, v54, v55, v56, v57, v58, v59, v60, v61, v62, v63, v64, v65, v66, v67, v68, v69, v70, v71, v72, v73, v74, v75, v76) => (.br (.bnd (hdome_Set_k _) fun _ => (hL1k _)) (.br (.bnd (hdome_Rotate_k _) fun _ => (hL1k _)) (.br (.bnd (hguard_expose_k _) fun _ => .some) (.br (.bnd (hcamera_Abort_k _) fun _ => (hL1k _)) (.br (.bnd (hcamera_Fetch_k _) fun _ => (hL1k _)) (.br (.br (.bnd (hguard_begin_k _) fun _ => (hL1k _)) (hL1k _)) (.br (hL1k _) (hL1k _))))))))
theorem l2_b ( k : Nat) : ∀ v : T2, run (cs k) (loopN cs k) c1000021 (J1000021 k) (s2 v) = d2 (dome_Set.f k) (l1 k) (dome_Rotate.f k) (guard_expose.f k) (camera_Abort.f k) (camera_Fetch.f k) (guard_begin.f k) v := fun (v0, v1, v2, v3, v4, v5, v6, v7, v8, v9, v10, v11, v12, v13, v14, v15, v16, v17, v18, v19, v20, v21, v22, v23, v24, v25, v26, v27, v28, v29, v30, v31, v32, v33, v34, v35, v36, v37, v38, v39, v40, v41, v42, v43, v44, v45, v46, v47, v48, v49, v50, v51, v52, v53, v54, v55, v56, v57, v58, v59, v60, v61, v62, v63, v64, v65, v66, v67, v68, v69, v70, v71, v72, v73, v74, v75, v76) => by kernel_rfl
theorem D2_of (v : T2) {r : R} (h : d2 dome_Set.F D1 dome_Rotate.F guard_expose.F camera_Abort.F camera_Fetch.F guard_begin.F v = some r) : D2 v = some r :=
  join_of (l := fun L => l2 (L 0) v) (d := fun L => d2 (dome_Set.f (L 0)) (l1 (L 0)) (dome_Rotate.f (L 0)) (guard_expose.f (L 0)) (camera_Abort.f (L 0)) (camera_Fetch.f (L 0)) (guard_begin.f (L 0)) v) (fun L => (held_eq _).trans (l2_b (L 0) v)) (d2_cn (dome_Set.F_cn 0) (fun v => (D1_cn v).re [0]) (dome_Rotate.F_cn 0) (guard_expose.F_cn 0) (camera_Abort.F_cn 0) (camera_Fetch.F_cn 0) (guard_begin.F_cn 0) v) h
noncomputable def f (k : Nat) : A → Option R := fun (v0, v1, v2, v3, v4, v5, v6, v7, v8, v9, v10, v11, v12, v13, v14, v15, v16, v17, v18, v19, v20, v21, v22, v23, v24, v25, v26, v27, v28, v29, v30, v31, v32, v33, v34, v35, v36, v37, v38, v39, v40, v41, v42) => held (runFn cs k Try.f30 [(.agg [(.int .i64 v0), (.int .i64 v1), (.int .i64 v2), (.int .i64 v3), (.int .i64 v4), (.int .i64 v5), (.int .i64 v6), (.int .i64 v7), (.int .i64 v8), (.int .i64 v9)]), (.agg [(.int .i64 v10), (.int .i64 v11), (.int .i64 v12), (.bool v13), (.int .i64 v14), (.int .i64 v15), (.int .i64 v16), (.bool v17), (.int .i64 v18), (.int .i64 v19), (.int .i64 v20), (.bool v21), (.bool v22), (.int .i64 v23), (.int .i64 v24), (.int .i64 v25), (.bool v26), (.int .i64 v27), (.int .i64 v28), (.int .i64 v29), (.int .i64 v30), (.bool v31), (.bool v32), (.bool v33), (.bool v34), (.bool v35), (.int .i64 v36), (.int .i64 v37), (.int .i64 v38), (.int .i64 v39), (.int .i64 v40)]), (.agg [(.int .i64 v41), (.int .i64 v42)])] [] dec)
noncomputable def F (v : A) : Option R := lim fun L => f (L 0) v
theorem F_cn (x : Nat) (v : A) : Cn late (F v) fun L => f (L x) v := of_lim.re [x]
def d (L0k : T0 → Option R) : A → Option R := fun (v0, v1, v2, v3, v4, v5, v6, v7, v8, v9, v10, v11, v12, v13, v14, v15, v16, v17, v18, v19, v20, v21, v22, v23, v24, v25, v26, v27, v28, v29, v30, v31, v32, v33, v34, v35, v36, v37, v38, v39, v40, v41, v42) =>
br (decide (v41 = 0))
  (L0k
    (0, v41, decide (v41 = 0), v0, v1, v2, v3, v4, v5, v6, v7, v8, v9, v10, v11, v12, v13, v14, v15, v16, v17, v18, v19, v20, v21, v22, v23, v24, v25, v26, v27, v28, v29, v30, v31, v32, v33, v34, v35, v36, v37, v38, v39,
      v40, v41, v42, 0, 0, 0, false, 0, 0, 0, false, 0, 0, 0, false, false, 0, 0, 0, false, 0, 0, 0, 0, false, false, false, false, false, 0, 0, 0, 0, 0))
  (L0k
    (0, v41, decide (v41 = 1), v0, v1, v2, v3, v4, v5, v6, v7, v8, v9, v10, v11, v12, v13, v14, v15, v16, v17, v18, v19, v20, v21, v22, v23, v24, v25, v26, v27, v28, v29, v30, v31, v32, v33, v34, v35, v36, v37, v38, v39,
      v40, v41, v42, 0, 0, 0, false, 0, 0, 0, false, 0, 0, 0, false, false, 0, 0, 0, false, 0, 0, 0, 0, false, false, false, false, false, 0, 0, 0, 0, 0))
theorem d_cn {ι : Type} {E : Fil ι} {L0k : T0 → Option R} {L0k' : ι → T0 → Option R} (hL0k : ∀ v, Cn E (L0k v) fun i => L0k' i v) : ∀ v : A, Cn E (d L0k v) fun i => d (L0k' i) v := fun (v0, v1, v2, v3, v4, v5, v6, v7, v8, v9, v10, v11, v12, v13, v14, v15, v16, v17, v18, v19, v20, v21, v22, v23, v24, v25, v26, v27, v28, v29, v30, v31, v32, v33, v34, v35, v36, v37, v38, v39, v40, v41, v42) => (.br (hL0k _) (hL0k _))
theorem f_b (k : Nat) : ∀ v : A, f k v = d (l0 k) v := fun (v0, v1, v2, v3, v4, v5, v6, v7, v8, v9, v10, v11, v12, v13, v14, v15, v16, v17, v18, v19, v20, v21, v22, v23, v24, v25, v26, v27, v28, v29, v30, v31, v32, v33, v34, v35, v36, v37, v38, v39, v40, v41, v42) => (held_eq _).trans (by kernel_rfl)
theorem F_of (v : A) {r : R} (h : d D0 v = some r) : F v = some r :=
  join_of (l := fun L => f (L 0) v) (d := fun L => d (l0 (L 0)) v) (fun L => f_b (L 0) v) (d_cn (fun v => (D0_cn v).re [0]) v) h
noncomputable def spec (k : Nat) (args : List AV) (ss : List Slot) : Option Ans :=
  match args, ss with
  | [(.agg [(.int .i64 v0), (.int .i64 v1), (.int .i64 v2), (.int .i64 v3), (.int .i64 v4), (.int .i64 v5), (.int .i64 v6), (.int .i64 v7), (.int .i64 v8), (.int .i64 v9)]), (.agg [(.int .i64 v10), (.int .i64 v11), (.int .i64 v12), (.bool v13), (.int .i64 v14), (.int .i64 v15), (.int .i64 v16), (.bool v17), (.int .i64 v18), (.int .i64 v19), (.int .i64 v20), (.bool v21), (.bool v22), (.int .i64 v23), (.int .i64 v24), (.int .i64 v25), (.bool v26), (.int .i64 v27), (.int .i64 v28), (.int .i64 v29), (.int .i64 v30), (.bool v31), (.bool v32), (.bool v33), (.bool v34), (.bool v35), (.int .i64 v36), (.int .i64 v37), (.int .i64 v38), (.int .i64 v39), (.int .i64 v40)]), (.agg [(.int .i64 v41), (.int .i64 v42)])], [] => some ⟨R, f k (v0, v1, v2, v3, v4, v5, v6, v7, v8, v9, v10, v11, v12, v13, v14, v15, v16, v17, v18, v19, v20, v21, v22, v23, v24, v25, v26, v27, v28, v29, v30, v31, v32, v33, v34, v35, v36, v37, v38, v39, v40, v41, v42), enc⟩
  | _, _ => none
theorem spec_ok (k : Nat) : SpecOk Try.prog 30 (spec k) := by
  intro args ss ans x h hx X σ w vals hp
  unfold spec at h
  split at h
  · cases h
    exact spec_of cs_ok Try.func30 rfl rfl dec_ok (held_eq _).symm hx hp
  · cases h
end guard_carry
noncomputable def t_guard_carry (k : Nat) := tcons 30 (guard_carry.spec k) (t_guard_begin k)
theorem t_guard_carry_ok (n g : Nat) : SpecOk Try.prog g (t_guard_carry n g) := tcons_ok (guard_carry.spec_ok n) (fun g => t_guard_begin_ok n g) g
namespace guard_Give
abbrev R : Type := Int × Int × Int × Bool × Int × Int × Int × Bool × Int × Int × Int × Bool × Bool × Int × Int × Int × Bool × Int × Int × Int × Int × Bool × Bool × Bool × Bool × Bool × Int × Int × Int × Int × Int × Int
abbrev A : Type := Int × Int × Int × Int × Int × Int × Int × Int × Int × Int × Int × Int × Int × Bool × Int × Int × Int × Bool × Int × Int × Int × Bool × Bool × Int × Int × Int × Bool × Int × Int × Int × Int × Bool × Bool × Bool × Bool × Bool × Int × Int × Int × Int × Int × Int × Int
def lv : List (Nat × List Nat) := [(2000000, [6, 7])]
noncomputable def cs : Nat → Ctx := ctxOf tis modes t_guard_carry lv
theorem cs_ok (n : Nat) : CtxOk Try.prog (cs n) := ctxOf_ok rfl tis_ok t_guard_carry_ok n
def enc (r : R) : Out := ((.tup [(.agg [(.int .i64 r.1), (.int .i64 r.2.1), (.int .i64 r.2.2.1), (.bool r.2.2.2.1), (.int .i64 r.2.2.2.2.1), (.int .i64 r.2.2.2.2.2.1), (.int .i64 r.2.2.2.2.2.2.1), (.bool r.2.2.2.2.2.2.2.1), (.int .i64 r.2.2.2.2.2.2.2.2.1), (.int .i64 r.2.2.2.2.2.2.2.2.2.1), (.int .i64 r.2.2.2.2.2.2.2.2.2.2.1), (.bool r.2.2.2.2.2.2.2.2.2.2.2.1), (.bool r.2.2.2.2.2.2.2.2.2.2.2.2.1), (.int .i64 r.2.2.2.2.2.2.2.2.2.2.2.2.2.1), (.int .i64 r.2.2.2.2.2.2.2.2.2.2.2.2.2.2.1), (.int .i64 r.2.2.2.2.2.2.2.2.2.2.2.2.2.2.2.1), (.bool r.2.2.2.2.2.2.2.2.2.2.2.2.2.2.2.2.1), (.int .i64 r.2.2.2.2.2.2.2.2.2.2.2.2.2.2.2.2.2.1), (.int .i64 r.2.2.2.2.2.2.2.2.2.2.2.2.2.2.2.2.2.2.1), (.int .i64 r.2.2.2.2.2.2.2.2.2.2.2.2.2.2.2.2.2.2.2.1), (.int .i64 r.2.2.2.2.2.2.2.2.2.2.2.2.2.2.2.2.2.2.2.2.1), (.bool r.2.2.2.2.2.2.2.2.2.2.2.2.2.2.2.2.2.2.2.2.2.1), (.bool r.2.2.2.2.2.2.2.2.2.2.2.2.2.2.2.2.2.2.2.2.2.2.1), (.bool r.2.2.2.2.2.2.2.2.2.2.2.2.2.2.2.2.2.2.2.2.2.2.2.1), (.bool r.2.2.2.2.2.2.2.2.2.2.2.2.2.2.2.2.2.2.2.2.2.2.2.2.1), (.bool r.2.2.2.2.2.2.2.2.2.2.2.2.2.2.2.2.2.2.2.2.2.2.2.2.2.1), (.int .i64 r.2.2.2.2.2.2.2.2.2.2.2.2.2.2.2.2.2.2.2.2.2.2.2.2.2.2.1), (.int .i64 r.2.2.2.2.2.2.2.2.2.2.2.2.2.2.2.2.2.2.2.2.2.2.2.2.2.2.2.1), (.int .i64 r.2.2.2.2.2.2.2.2.2.2.2.2.2.2.2.2.2.2.2.2.2.2.2.2.2.2.2.2.1), (.int .i64 r.2.2.2.2.2.2.2.2.2.2.2.2.2.2.2.2.2.2.2.2.2.2.2.2.2.2.2.2.2.1), (.int .i64 r.2.2.2.2.2.2.2.2.2.2.2.2.2.2.2.2.2.2.2.2.2.2.2.2.2.2.2.2.2.2.1)]), (.c (.int .i64 r.2.2.2.2.2.2.2.2.2.2.2.2.2.2.2.2.2.2.2.2.2.2.2.2.2.2.2.2.2.2.2))]), [])
def dec : Out → Option R
  | ((.tup [(.agg [(.int .i64 v0), (.int .i64 v1), (.int .i64 v2), (.bool v3), (.int .i64 v4), (.int .i64 v5), (.int .i64 v6), (.bool v7), (.int .i64 v8), (.int .i64 v9), (.int .i64 v10), (.bool v11), (.bool v12), (.int .i64 v13), (.int .i64 v14), (.int .i64 v15), (.bool v16), (.int .i64 v17), (.int .i64 v18), (.int .i64 v19), (.int .i64 v20), (.bool v21), (.bool v22), (.bool v23), (.bool v24), (.bool v25), (.int .i64 v26), (.int .i64 v27), (.int .i64 v28), (.int .i64 v29), (.int .i64 v30)]), (.c (.int .i64 v31))]), []) => some (v0, v1, v2, v3, v4, v5, v6, v7, v8, v9, v10, v11, v12, v13, v14, v15, v16, v17, v18, v19, v20, v21, v22, v23, v24, v25, v26, v27, v28, v29, v30, v31)
  | _ => none
theorem dec_ok : ∀ u y, dec u = some y → u = enc y := by
  intro u y h
  unfold dec at h
  split at h
  · cases h; rfl
  · cases h
noncomputable def b0 : Code := subF [] Try.f14
noncomputable def K0 (k : Nat) : Kt R := kTop (cs k) Try.f14 dec
noncomputable def f (k : Nat) : A → Option R := fun (v0, v1, v2, v3, v4, v5, v6, v7, v8, v9, v10, v11, v12, v13, v14, v15, v16, v17, v18, v19, v20, v21, v22, v23, v24, v25, v26, v27, v28, v29, v30, v31, v32, v33, v34, v35, v36, v37, v38, v39, v40, v41, v42) => held (runFn cs k Try.f14 [(.agg [(.int .i64 v0), (.int .i64 v1), (.int .i64 v2), (.int .i64 v3), (.int .i64 v4), (.int .i64 v5), (.int .i64 v6), (.int .i64 v7), (.int .i64 v8), (.int .i64 v9)]), (.agg [(.int .i64 v10), (.int .i64 v11), (.int .i64 v12), (.bool v13), (.int .i64 v14), (.int .i64 v15), (.int .i64 v16), (.bool v17), (.int .i64 v18), (.int .i64 v19), (.int .i64 v20), (.bool v21), (.bool v22), (.int .i64 v23), (.int .i64 v24), (.int .i64 v25), (.bool v26), (.int .i64 v27), (.int .i64 v28), (.int .i64 v29), (.int .i64 v30), (.bool v31), (.bool v32), (.bool v33), (.bool v34), (.bool v35), (.int .i64 v36), (.int .i64 v37), (.int .i64 v38), (.int .i64 v39), (.int .i64 v40)]), (.agg [(.int .i64 v41), (.int .i64 v42)])] [] dec)
noncomputable def F (v : A) : Option R := lim fun L => f (L 0) v
theorem F_cn (x : Nat) (v : A) : Cn late (F v) fun L => f (L x) v := of_lim.re [x]
def d (guard_Check_k : guard_Check.A → Option guard_Check.R) (guard_uses_k : guard_uses.A → Option guard_uses.R) (guard_permitted_k : guard_permitted.A → Option guard_permitted.R) (guard_carry_k : guard_carry.A → Option guard_carry.R) : A → Option R := fun (v0, v1, v2, v3, v4, v5, v6, v7, v8, v9, v10, v11, v12, v13, v14, v15, v16, v17, v18, v19, v20, v21, v22, v23, v24, v25, v26, v27, v28, v29, v30, v31, v32, v33, v34, v35, v36, v37, v38, v39, v40, v41, v42) =>
bnd (guard_Check_k (v0, v1, v2, v3, v4, v5, v6, v7, v8, v9, v10, v11, v12, v13, v14, v15, v16, v17, v18, v19, v20, v21, v22, v23, v24, v25, v26, v27, v28, v29, v30, v31, v32, v33, v34, v35, v36, v37, v38, v39, v40))
  fun r =>
  br (!decide (r = 0)) (some (0, 0, 0, false, 0, 0, 0, false, 0, 0, 0, false, false, 0, 0, 0, false, 0, 0, 0, 0, false, false, false, false, false, 0, 0, 0, 0, 0, r))
    (br ((decide (v41 < 0) || decide (14 ≤ v41)) == false)
      (bnd (guard_uses_k v41) fun r =>
        br (!r && !decide (v42 = 0)) (some (0, 0, 0, false, 0, 0, 0, false, 0, 0, 0, false, false, 0, 0, 0, false, 0, 0, 0, 0, false, false, false, false, false, 0, 0, 0, 0, 0, 3))
          (bnd (guard_permitted_k (v10, v11, v12, v13, v14, v15, v16, v17, v18, v19, v20, v21, v22, v23, v24, v25, v26, v27, v28, v29, v30, v31, v32, v33, v34, v35, v36, v37, v38, v39, v40, v41)) fun r =>
            br (!r) (some (0, 0, 0, false, 0, 0, 0, false, 0, 0, 0, false, false, 0, 0, 0, false, 0, 0, 0, 0, false, false, false, false, false, 0, 0, 0, 0, 0, 16))
              (br (decide (v27 = 1) && (decide (v41 = 2) || decide (v41 = 4) || decide (v41 = 5) || decide (v41 = 7) || decide (v41 = 8)))
                (some (0, 0, 0, false, 0, 0, 0, false, 0, 0, 0, false, false, 0, 0, 0, false, 0, 0, 0, 0, false, false, false, false, false, 0, 0, 0, 0, 0, 16))
                (bnd
                  (guard_carry_k
                    (v0, v1, v2, v3, v4, v5, v6, v7, v8, v9, v10, v11, v12, v13, v14, v15, v16, v17, v18, v19, v20, v21, v22, v23, v24, v25, v26, v27, v28, v29, v30, v31, v32, v33, v34, v35, v36, v37, v38, v39, v40, v41,
                      v42))
                  fun r =>
                  br (!decide (r.snd.snd.snd.snd.snd.snd.snd.snd.snd.snd.snd.snd.snd.snd.snd.snd.snd.snd.snd.snd.snd.snd.snd.snd.snd.snd.snd.snd.snd.snd.snd = 0))
                    (some
                      (0, 0, 0, false, 0, 0, 0, false, 0, 0, 0, false, false, 0, 0, 0, false, 0, 0, 0, 0, false, false, false, false, false, 0, 0, 0, 0, 0,
                        r.snd.snd.snd.snd.snd.snd.snd.snd.snd.snd.snd.snd.snd.snd.snd.snd.snd.snd.snd.snd.snd.snd.snd.snd.snd.snd.snd.snd.snd.snd.snd))
                    (some
                      (r.fst, r.snd.fst, r.snd.snd.fst, r.snd.snd.snd.fst, r.snd.snd.snd.snd.fst, r.snd.snd.snd.snd.snd.fst, r.snd.snd.snd.snd.snd.snd.fst, r.snd.snd.snd.snd.snd.snd.snd.fst,
                        r.snd.snd.snd.snd.snd.snd.snd.snd.fst, r.snd.snd.snd.snd.snd.snd.snd.snd.snd.fst, r.snd.snd.snd.snd.snd.snd.snd.snd.snd.snd.fst, r.snd.snd.snd.snd.snd.snd.snd.snd.snd.snd.snd.fst,
                        r.snd.snd.snd.snd.snd.snd.snd.snd.snd.snd.snd.snd.fst, r.snd.snd.snd.snd.snd.snd.snd.snd.snd.snd.snd.snd.snd.fst, r.snd.snd.snd.snd.snd.snd.snd.snd.snd.snd.snd.snd.snd.snd.fst,
                        r.snd.snd.snd.snd.snd.snd.snd.snd.snd.snd.snd.snd.snd.snd.snd.fst, r.snd.snd.snd.snd.snd.snd.snd.snd.snd.snd.snd.snd.snd.snd.snd.snd.fst,
                        r.snd.snd.snd.snd.snd.snd.snd.snd.snd.snd.snd.snd.snd.snd.snd.snd.snd.fst, r.snd.snd.snd.snd.snd.snd.snd.snd.snd.snd.snd.snd.snd.snd.snd.snd.snd.snd.fst,
                        r.snd.snd.snd.snd.snd.snd.snd.snd.snd.snd.snd.snd.snd.snd.snd.snd.snd.snd.snd.fst, r.snd.snd.snd.snd.snd.snd.snd.snd.snd.snd.snd.snd.snd.snd.snd.snd.snd.snd.snd.snd.fst,
                        r.snd.snd.snd.snd.snd.snd.snd.snd.snd.snd.snd.snd.snd.snd.snd.snd.snd.snd.snd.snd.snd.fst, r.snd.snd.snd.snd.snd.snd.snd.snd.snd.snd.snd.snd.snd.snd.snd.snd.snd.snd.snd.snd.snd.snd.fst,
                        r.snd.snd.snd.snd.snd.snd.snd.snd.snd.snd.snd.snd.snd.snd.snd.snd.snd.snd.snd.snd.snd.snd.snd.fst,
                        r.snd.snd.snd.snd.snd.snd.snd.snd.snd.snd.snd.snd.snd.snd.snd.snd.snd.snd.snd.snd.snd.snd.snd.snd.fst,
                        r.snd.snd.snd.snd.snd.snd.snd.snd.snd.snd.snd.snd.snd.snd.snd.snd.snd.snd.snd.snd.snd.snd.snd.snd.snd.fst,
                        r.snd.snd.snd.snd.snd.snd.snd.snd.snd.snd.snd.snd.snd.snd.snd.snd.snd.snd.snd.snd.snd.snd.snd.snd.snd.snd.fst,
                        r.snd.snd.snd.snd.snd.snd.snd.snd.snd.snd.snd.snd.snd.snd.snd.snd.snd.snd.snd.snd.snd.snd.snd.snd.snd.snd.snd.fst,
                        r.snd.snd.snd.snd.snd.snd.snd.snd.snd.snd.snd.snd.snd.snd.snd.snd.snd.snd.snd.snd.snd.snd.snd.snd.snd.snd.snd.snd.fst,
                        r.snd.snd.snd.snd.snd.snd.snd.snd.snd.snd.snd.snd.snd.snd.snd.snd.snd.snd.snd.snd.snd.snd.snd.snd.snd.snd.snd.snd.snd.fst,
                        r.snd.snd.snd.snd.snd.snd.snd.snd.snd.snd.snd.snd.snd.snd.snd.snd.snd.snd.snd.snd.snd.snd.snd.snd.snd.snd.snd.snd.snd.snd.fst, 0))))))
      (some (0, 0, 0, false, 0, 0, 0, false, 0, 0, 0, false, false, 0, 0, 0, false, 0, 0, 0, 0, false, false, false, false, false, 0, 0, 0, 0, 0, 3)))
theorem d_cn {ι : Type} {E : Fil ι} {guard_Check_k : guard_Check.A → Option guard_Check.R} {guard_Check_k' : ι → guard_Check.A → Option guard_Check.R} (hguard_Check_k : ∀ v, Cn E (guard_Check_k v) fun i => guard_Check_k' i v) {guard_uses_k : guard_uses.A → Option guard_uses.R} {guard_uses_k' : ι → guard_uses.A → Option guard_uses.R} (hguard_uses_k : ∀ v, Cn E (guard_uses_k v) fun i => guard_uses_k' i v) {guard_permitted_k : guard_permitted.A → Option guard_permitted.R} {guard_permitted_k' : ι → guard_permitted.A → Option guard_permitted.R} (hguard_permitted_k : ∀ v, Cn E (guard_permitted_k v) fun i => guard_permitted_k' i v) {guard_carry_k : guard_carry.A → Option guard_carry.R} {guard_carry_k' : ι → guard_carry.A → Option guard_carry.R} (hguard_carry_k : ∀ v, Cn E (guard_carry_k v) fun i => guard_carry_k' i v) : ∀ v : A, Cn E (d guard_Check_k guard_uses_k guard_permitted_k guard_carry_k v) fun i => d (guard_Check_k' i) (guard_uses_k' i) (guard_permitted_k' i) (guard_carry_k' i) v := fun (v0, v1, v2, v3, v4, v5, v6, v7, v8, v9, v10, v11, v12, v13, v14, v15, v16, v17, v18, v19, v20, v21, v22, v23, v24, v25, v26, v27, v28, v29, v30, v31, v32, v33, v34, v35, v36, v37, v38, v39, v40, v41, v42) => (.bnd (hguard_Check_k _) fun _ => (.br .some (.br (.bnd (hguard_uses_k _) fun _ => (.br .some (.bnd (hguard_permitted_k _) fun _ => (.br .some (.br .some (.bnd (hguard_carry_k _) fun _ => (.br .some .some))))))) .some)))
theorem f_b (k : Nat) : ∀ v : A, f k v = d (guard_Check.f k) (guard_uses.f k) (guard_permitted.f k) (guard_carry.f k) v := fun (v0, v1, v2, v3, v4, v5, v6, v7, v8, v9, v10, v11, v12, v13, v14, v15, v16, v17, v18, v19, v20, v21, v22, v23, v24, v25, v26, v27, v28, v29, v30, v31, v32, v33, v34, v35, v36, v37, v38, v39, v40, v41, v42) => (held_eq _).trans (by kernel_rfl)
theorem F_of (v : A) {r : R} (h : d guard_Check.F guard_uses.F guard_permitted.F guard_carry.F v = some r) : F v = some r :=
  join_of (l := fun L => f (L 0) v) (d := fun L => d (guard_Check.f (L 0)) (guard_uses.f (L 0)) (guard_permitted.f (L 0)) (guard_carry.f (L 0)) v) (fun L => f_b (L 0) v) (d_cn (guard_Check.F_cn 0) (guard_uses.F_cn 0) (guard_permitted.F_cn 0) (guard_carry.F_cn 0) v) h
noncomputable def spec (k : Nat) (args : List AV) (ss : List Slot) : Option Ans :=
  match args, ss with
  | [(.agg [(.int .i64 v0), (.int .i64 v1), (.int .i64 v2), (.int .i64 v3), (.int .i64 v4), (.int .i64 v5), (.int .i64 v6), (.int .i64 v7), (.int .i64 v8), (.int .i64 v9)]), (.agg [(.int .i64 v10), (.int .i64 v11), (.int .i64 v12), (.bool v13), (.int .i64 v14), (.int .i64 v15), (.int .i64 v16), (.bool v17), (.int .i64 v18), (.int .i64 v19), (.int .i64 v20), (.bool v21), (.bool v22), (.int .i64 v23), (.int .i64 v24), (.int .i64 v25), (.bool v26), (.int .i64 v27), (.int .i64 v28), (.int .i64 v29), (.int .i64 v30), (.bool v31), (.bool v32), (.bool v33), (.bool v34), (.bool v35), (.int .i64 v36), (.int .i64 v37), (.int .i64 v38), (.int .i64 v39), (.int .i64 v40)]), (.agg [(.int .i64 v41), (.int .i64 v42)])], [] => some ⟨R, f k (v0, v1, v2, v3, v4, v5, v6, v7, v8, v9, v10, v11, v12, v13, v14, v15, v16, v17, v18, v19, v20, v21, v22, v23, v24, v25, v26, v27, v28, v29, v30, v31, v32, v33, v34, v35, v36, v37, v38, v39, v40, v41, v42), enc⟩
  | _, _ => none
theorem spec_ok (k : Nat) : SpecOk Try.prog 14 (spec k) := by
  intro args ss ans x h hx X σ w vals hp
  unfold spec at h
  split at h
  · cases h
    exact spec_of cs_ok Try.func14 rfl rfl dec_ok (held_eq _).symm hx hp
  · cases h
end guard_Give
noncomputable def t_guard_Give (k : Nat) := tcons 14 (guard_Give.spec k) (t_guard_carry k)
theorem t_guard_Give_ok (n g : Nat) : SpecOk Try.prog g (t_guard_Give n g) := tcons_ok (guard_Give.spec_ok n) (fun g => t_guard_carry_ok n g) g
namespace guard_count
abbrev R : Type := Int
abbrev A : Type := Int × Bool
def lv : List (Nat × List Nat) := [(2000000, [4])]
noncomputable def cs : Nat → Ctx := ctxOf tis modes t_guard_Give lv
theorem cs_ok (n : Nat) : CtxOk Try.prog (cs n) := ctxOf_ok rfl tis_ok t_guard_Give_ok n
def enc (r : R) : Out := ((.c (.int .i64 r)), [])
def dec : Out → Option R
  | ((.c (.int .i64 v0)), []) => some v0
  | _ => none
theorem dec_ok : ∀ u y, dec u = some y → u = enc y := by
  intro u y h
  unfold dec at h
  split at h
  · cases h; rfl
  · cases h
noncomputable def b0 : Code := subF [] Try.f38
noncomputable def K0 (k : Nat) : Kt R := kTop (cs k) Try.f38 dec
noncomputable def f (k : Nat) : A → Option R := fun (v0, v1) => held (runFn cs k Try.f38 [(.c (.int .i64 v0)), (.c (.bool v1))] [] dec)
noncomputable def F (v : A) : Option R := lim fun L => f (L 0) v
theorem F_cn (x : Nat) (v : A) : Cn late (F v) fun L => f (L x) v := of_lim.re [x]
def d : A → Option R := fun (v0, v1) =>
br (!v1) (some 0) (some (min (wrap IntKind.i64 (v0 + 1)) 17592186044416))
theorem d_cn {ι : Type} {E : Fil ι} : ∀ v : A, Cn E (d v) fun i => d v := fun (v0, v1) => (.br .some .some)
theorem f_b (k : Nat) : ∀ v : A, f k v = d v := fun (v0, v1) => (held_eq _).trans (by kernel_rfl)
theorem F_of (v : A) {r : R} (h : d v = some r) : F v = some r :=
  join_of (l := fun L => f (L 0) v) (d := fun L => d v) (fun L => f_b (L 0) v) (d_cn v) h
noncomputable def spec (k : Nat) (args : List AV) (ss : List Slot) : Option Ans :=
  match args, ss with
  | [(.c (.int .i64 v0)), (.c (.bool v1))], [] => some ⟨R, f k (v0, v1), enc⟩
  | _, _ => none
theorem spec_ok (k : Nat) : SpecOk Try.prog 38 (spec k) := by
  intro args ss ans x h hx X σ w vals hp
  unfold spec at h
  split at h
  · cases h
    exact spec_of cs_ok Try.func38 rfl rfl dec_ok (held_eq _).symm hx hp
  · cases h
end guard_count
noncomputable def t_guard_count (k : Nat) := tcons 38 (guard_count.spec k) (t_guard_Give k)
theorem t_guard_count_ok (n g : Nat) : SpecOk Try.prog g (t_guard_count n g) := tcons_ok (guard_count.spec_ok n) (fun g => t_guard_Give_ok n g) g
namespace guard_lock
abbrev R : Type := Int × Int × Int × Bool × Int × Int × Int × Bool × Int × Int × Int × Bool × Bool × Int × Int × Int × Bool × Int × Int × Int × Int × Bool × Bool × Bool × Bool × Bool × Int × Int × Int × Int × Int
abbrev A : Type := Int × Int × Int × Int × Int × Int × Int × Int × Int × Int × Int × Int × Int × Bool × Int × Int × Int × Bool × Int × Int × Int × Bool × Bool × Int × Int × Int × Bool × Int × Int × Int × Int × Bool × Bool × Bool × Bool × Bool × Int × Int × Int × Int × Int
def lv : List (Nat × List Nat) := [(2000000, [4]), (1000003, [2, 3, 4])]
noncomputable def cs : Nat → Ctx := ctxOf tis modes t_guard_count lv
theorem cs_ok (n : Nat) : CtxOk Try.prog (cs n) := ctxOf_ok rfl tis_ok t_guard_count_ok n
def enc (r : R) : Out := ((.agg [(.int .i64 r.1), (.int .i64 r.2.1), (.int .i64 r.2.2.1), (.bool r.2.2.2.1), (.int .i64 r.2.2.2.2.1), (.int .i64 r.2.2.2.2.2.1), (.int .i64 r.2.2.2.2.2.2.1), (.bool r.2.2.2.2.2.2.2.1), (.int .i64 r.2.2.2.2.2.2.2.2.1), (.int .i64 r.2.2.2.2.2.2.2.2.2.1), (.int .i64 r.2.2.2.2.2.2.2.2.2.2.1), (.bool r.2.2.2.2.2.2.2.2.2.2.2.1), (.bool r.2.2.2.2.2.2.2.2.2.2.2.2.1), (.int .i64 r.2.2.2.2.2.2.2.2.2.2.2.2.2.1), (.int .i64 r.2.2.2.2.2.2.2.2.2.2.2.2.2.2.1), (.int .i64 r.2.2.2.2.2.2.2.2.2.2.2.2.2.2.2.1), (.bool r.2.2.2.2.2.2.2.2.2.2.2.2.2.2.2.2.1), (.int .i64 r.2.2.2.2.2.2.2.2.2.2.2.2.2.2.2.2.2.1), (.int .i64 r.2.2.2.2.2.2.2.2.2.2.2.2.2.2.2.2.2.2.1), (.int .i64 r.2.2.2.2.2.2.2.2.2.2.2.2.2.2.2.2.2.2.2.1), (.int .i64 r.2.2.2.2.2.2.2.2.2.2.2.2.2.2.2.2.2.2.2.2.1), (.bool r.2.2.2.2.2.2.2.2.2.2.2.2.2.2.2.2.2.2.2.2.2.1), (.bool r.2.2.2.2.2.2.2.2.2.2.2.2.2.2.2.2.2.2.2.2.2.2.1), (.bool r.2.2.2.2.2.2.2.2.2.2.2.2.2.2.2.2.2.2.2.2.2.2.2.1), (.bool r.2.2.2.2.2.2.2.2.2.2.2.2.2.2.2.2.2.2.2.2.2.2.2.2.1), (.bool r.2.2.2.2.2.2.2.2.2.2.2.2.2.2.2.2.2.2.2.2.2.2.2.2.2.1), (.int .i64 r.2.2.2.2.2.2.2.2.2.2.2.2.2.2.2.2.2.2.2.2.2.2.2.2.2.2.1), (.int .i64 r.2.2.2.2.2.2.2.2.2.2.2.2.2.2.2.2.2.2.2.2.2.2.2.2.2.2.2.1), (.int .i64 r.2.2.2.2.2.2.2.2.2.2.2.2.2.2.2.2.2.2.2.2.2.2.2.2.2.2.2.2.1), (.int .i64 r.2.2.2.2.2.2.2.2.2.2.2.2.2.2.2.2.2.2.2.2.2.2.2.2.2.2.2.2.2.1), (.int .i64 r.2.2.2.2.2.2.2.2.2.2.2.2.2.2.2.2.2.2.2.2.2.2.2.2.2.2.2.2.2.2)]), [])
def dec : Out → Option R
  | ((.agg [(.int .i64 v0), (.int .i64 v1), (.int .i64 v2), (.bool v3), (.int .i64 v4), (.int .i64 v5), (.int .i64 v6), (.bool v7), (.int .i64 v8), (.int .i64 v9), (.int .i64 v10), (.bool v11), (.bool v12), (.int .i64 v13), (.int .i64 v14), (.int .i64 v15), (.bool v16), (.int .i64 v17), (.int .i64 v18), (.int .i64 v19), (.int .i64 v20), (.bool v21), (.bool v22), (.bool v23), (.bool v24), (.bool v25), (.int .i64 v26), (.int .i64 v27), (.int .i64 v28), (.int .i64 v29), (.int .i64 v30)]), []) => some (v0, v1, v2, v3, v4, v5, v6, v7, v8, v9, v10, v11, v12, v13, v14, v15, v16, v17, v18, v19, v20, v21, v22, v23, v24, v25, v26, v27, v28, v29, v30)
  | _ => none
theorem dec_ok : ∀ u y, dec u = some y → u = enc y := by
  intro u y h
  unfold dec at h
  split at h
  · cases h; rfl
  · cases h
noncomputable def b0 : Code := subF [] Try.f40
noncomputable def K0 (k : Nat) : Kt R := kTop (cs k) Try.f40 dec
noncomputable def c1000003 : Code := sub [1, 1] b0
noncomputable def J1000003 ( k : Nat) : Kt R := kAt (cs k) (loopN cs k) [1, 1] b0 (K0 k)
abbrev T0 : Type := Int × Int × Int × Int × Int × Int × Int × Int × Int × Int × Int × Int × Int × Bool × Int × Int × Int × Bool × Int × Int × Int × Bool × Bool × Int × Int × Int × Bool × Int × Int × Int × Int × Bool × Bool × Bool × Bool × Bool × Int × Int × Int × Int × Int × Int × Int × Int × Bool × Int × Int × Int × Bool × Int × Int × Int × Bool × Bool × Int × Int × Int × Bool × Int × Int × Int × Int × Bool × Bool × Bool × Bool × Bool × Int × Int × Int × Int × Int
def s0 : T0 → St := fun (v0, v1, v2, v3, v4, v5, v6, v7, v8, v9, v10, v11, v12, v13, v14, v15, v16, v17, v18, v19, v20, v21, v22, v23, v24, v25, v26, v27, v28, v29, v30, v31, v32, v33, v34, v35, v36, v37, v38, v39, v40, v41, v42, v43, v44, v45, v46, v47, v48, v49, v50, v51, v52, v53, v54, v55, v56, v57, v58, v59, v60, v61, v62, v63, v64, v65, v66, v67, v68, v69, v70, v71) => ⟨32, 0, [(2, (.c (.ptr 64000000 0))), (3, (.c (.ptr 64000001 0))), (4, (.c (.ptr 64000002 0)))], [], [(256000000, .gone), (64000000, (.box [(.int .i64 v0), (.int .i64 v1), (.int .i64 v2), (.int .i64 v3), (.int .i64 v4), (.int .i64 v5), (.int .i64 v6), (.int .i64 v7), (.int .i64 v8), (.int .i64 v9)])), (64000001, (.box [(.int .i64 v10), (.int .i64 v11), (.int .i64 v12), (.bool v13), (.int .i64 v14), (.int .i64 v15), (.int .i64 v16), (.bool v17), (.int .i64 v18), (.int .i64 v19), (.int .i64 v20), (.bool v21), (.bool v22), (.int .i64 v23), (.int .i64 v24), (.int .i64 v25), (.bool v26), (.int .i64 v27), (.int .i64 v28), (.int .i64 v29), (.int .i64 v30), (.bool v31), (.bool v32), (.bool v33), (.bool v34), (.bool v35), (.int .i64 v36), (.int .i64 v37), (.int .i64 v38), (.int .i64 v39), (.int .i64 v40)])), (64000002, (.box [(.int .i64 v41), (.int .i64 v42), (.int .i64 v43), (.bool v44), (.int .i64 v45), (.int .i64 v46), (.int .i64 v47), (.bool v48), (.int .i64 v49), (.int .i64 v50), (.int .i64 v51), (.bool v52), (.bool v53), (.int .i64 v54), (.int .i64 v55), (.int .i64 v56), (.bool v57), (.int .i64 v58), (.int .i64 v59), (.int .i64 v60), (.int .i64 v61), (.bool v62), (.bool v63), (.bool v64), (.bool v65), (.bool v66), (.int .i64 v67), (.int .i64 v68), (.int .i64 v69), (.int .i64 v70), (.int .i64 v71)]))]⟩
noncomputable def l0 ( k : Nat) (v : T0) : Option R := held (run (cs k) (loopN cs k) c1000003 (J1000003 k) (s0 v))
noncomputable def D0 (v : T0) : Option R := lim fun L => l0 (L 0) v
theorem D0_cn (v : T0) : Cn late (D0 v) fun L => l0 (L 0) v := of_lim
def d0 (mount_Stop_k : mount_Stop.A → Option mount_Stop.R) (dome_Brake_k : dome_Brake.A → Option dome_Brake.R) : T0 → Option R := fun (v0, v1, v2, v3, v4, v5, v6, v7, v8, v9, v10, v11, v12, v13, v14, v15, v16, v17, v18, v19, v20, v21, v22, v23, v24, v25, v26, v27, v28, v29, v30, v31, v32, v33, v34, v35, v36, v37, v38, v39, v40, v41, v42, v43, v44, v45, v46, v47, v48, v49, v50, v51, v52, v53, v54, v55, v56, v57, v58, v59, v60, v61, v62, v63, v64, v65, v66, v67, v68, v69, v70, v71) =>
bnd (mount_Stop_k (v0, v1, v2, v3, v4, v5, v6, v7, v8, v9, v10, v11, v12, v13, v14, v15, v16, v17, v18)) fun r =>
  bnd (dome_Brake_k (v19, v20, v21, v22, v23, v24, v25, v26)) fun r_1 =>
    some
      (r.fst, r.snd.fst, r.snd.snd.fst, r.snd.snd.snd.fst, r.snd.snd.snd.snd.fst, r.snd.snd.snd.snd.snd.fst, r.snd.snd.snd.snd.snd.snd.fst, r.snd.snd.snd.snd.snd.snd.snd.fst, r.snd.snd.snd.snd.snd.snd.snd.snd.fst,
        r_1.fst, r_1.snd.fst, r_1.snd.snd.fst, r_1.snd.snd.snd.fst, r_1.snd.snd.snd.snd.fst, r_1.snd.snd.snd.snd.snd.fst, r_1.snd.snd.snd.snd.snd.snd.fst, r_1.snd.snd.snd.snd.snd.snd.snd.fst, v27, v28, v29, v30, v31,
        v32, v33, v34, v35, v36, v37, v38, v39, v40)
theorem d0_cn {ι : Type} {E : Fil ι} {mount_Stop_k : mount_Stop.A → Option mount_Stop.R} {mount_Stop_k' : ι → mount_Stop.A → Option mount_Stop.R} (hmount_Stop_k : ∀ v, Cn E (mount_Stop_k v) fun i => mount_Stop_k' i v) {dome_Brake_k : dome_Brake.A → Option dome_Brake.R} {dome_Brake_k' : ι → dome_Brake.A → Option dome_Brake.R} (hdome_Brake_k : ∀ v, Cn E (dome_Brake_k v) fun i => dome_Brake_k' i v) : ∀ v : T0, Cn E (d0 mount_Stop_k dome_Brake_k v) fun i => d0 (mount_Stop_k' i) (dome_Brake_k' i) v := fun (v0, v1, v2, v3, v4, v5, v6, v7, v8, v9, v10, v11, v12, v13, v14, v15, v16, v17, v18, v19, v20, v21, v22, v23, v24, v25, v26, v27, v28, v29, v30, v31, v32, v33, v34, v35, v36, v37, v38, v39, v40, v41, v42, v43, v44, v45, v46, v47, v48, v49, v50, v51, v52, v53, v54, v55, v56, v57, v58, v59, v60, v61, v62, v63, v64, v65, v66, v67, v68, v69, v70, v71) => (.bnd (hmount_Stop_k _) fun _ => (.bnd (hdome_Brake_k _) fun _ => .some))
theorem l0_b ( k : Nat) : ∀ v : T0, run (cs k) (loopN cs k) c1000003 (J1000003 k) (s0 v) = d0 (mount_Stop.f k) (dome_Brake.f k) v := fun (v0, v1, v2, v3, v4, v5, v6, v7, v8, v9, v10, v11, v12, v13, v14, v15, v16, v17, v18, v19, v20, v21, v22, v23, v24, v25, v26, v27, v28, v29, v30, v31, v32, v33, v34, v35, v36, v37, v38, v39, v40, v41, v42, v43, v44, v45, v46, v47, v48, v49, v50, v51, v52, v53, v54, v55, v56, v57, v58, v59, v60, v61, v62, v63, v64, v65, v66, v67, v68, v69, v70, v71) => by kernel_rfl
theorem D0_of (v : T0) {r : R} (h : d0 mount_Stop.F dome_Brake.F v = some r) : D0 v = some r :=
  join_of (l := fun L => l0 (L 0) v) (d := fun L => d0 (mount_Stop.f (L 0)) (dome_Brake.f (L 0)) v) (fun L => (held_eq _).trans (l0_b (L 0) v)) (d0_cn (mount_Stop.F_cn 0) (dome_Brake.F_cn 0) v) h
noncomputable def f (k : Nat) : A → Option R := fun (v0, v1, v2, v3, v4, v5, v6, v7, v8, v9, v10, v11, v12, v13, v14, v15, v16, v17, v18, v19, v20, v21, v22, v23, v24, v25, v26, v27, v28, v29, v30, v31, v32, v33, v34, v35, v36, v37, v38, v39, v40) => held (runFn cs k Try.f40 [(.agg [(.int .i64 v0), (.int .i64 v1), (.int .i64 v2), (.int .i64 v3), (.int .i64 v4), (.int .i64 v5), (.int .i64 v6), (.int .i64 v7), (.int .i64 v8), (.int .i64 v9)]), (.agg [(.int .i64 v10), (.int .i64 v11), (.int .i64 v12), (.bool v13), (.int .i64 v14), (.int .i64 v15), (.int .i64 v16), (.bool v17), (.int .i64 v18), (.int .i64 v19), (.int .i64 v20), (.bool v21), (.bool v22), (.int .i64 v23), (.int .i64 v24), (.int .i64 v25), (.bool v26), (.int .i64 v27), (.int .i64 v28), (.int .i64 v29), (.int .i64 v30), (.bool v31), (.bool v32), (.bool v33), (.bool v34), (.bool v35), (.int .i64 v36), (.int .i64 v37), (.int .i64 v38), (.int .i64 v39), (.int .i64 v40)])] [] dec)
noncomputable def F (v : A) : Option R := lim fun L => f (L 0) v
theorem F_cn (x : Nat) (v : A) : Cn late (F v) fun L => f (L x) v := of_lim.re [x]
def d (camera_Abort_k : camera_Abort.A → Option camera_Abort.R) (L0k : T0 → Option R) : A → Option R := fun (v0, v1, v2, v3, v4, v5, v6, v7, v8, v9, v10, v11, v12, v13, v14, v15, v16, v17, v18, v19, v20, v21, v22, v23, v24, v25, v26, v27, v28, v29, v30, v31, v32, v33, v34, v35, v36, v37, v38, v39, v40) =>
br (decide (v27 = 1))
  (bnd (camera_Abort_k (v27, v28, v29, v30)) fun r =>
    L0k
      (v0, v1, v2, v3, v4, v5, v6, v7, v8, v9, v10, v11, v12, v13, v14, v15, v16, v17, v18, v19, v20, v21, v22, v23, v24, v25, v26, r.fst, r.snd.fst, r.snd.snd.fst, r.snd.snd.snd.fst, v31, v32, v33, v34, v35, v36, v37,
        v38, v39, v40, 0, 0, 0, false, 0, 0, 0, false, 0, 0, 0, false, false, 0, 0, 0, false, 0, 0, 0, 0, false, false, false, false, false, 0, 0, 0, 0, 0))
  (L0k
    (v0, v1, v2, v3, v4, v5, v6, v7, v8, v9, v10, v11, v12, v13, v14, v15, v16, v17, v18, v19, v20, v21, v22, v23, v24, v25, v26, v27, v28, v29, v30, v31, v32, v33, v34, v35, v36, v37, v38, v39, v40, 0, 0, 0, false, 0,
      0, 0, false, 0, 0, 0, false, false, 0, 0, 0, false, 0, 0, 0, 0, false, false, false, false, false, 0, 0, 0, 0, 0))
theorem d_cn {ι : Type} {E : Fil ι} {camera_Abort_k : camera_Abort.A → Option camera_Abort.R} {camera_Abort_k' : ι → camera_Abort.A → Option camera_Abort.R} (hcamera_Abort_k : ∀ v, Cn E (camera_Abort_k v) fun i => camera_Abort_k' i v) {L0k : T0 → Option R} {L0k' : ι → T0 → Option R} (hL0k : ∀ v, Cn E (L0k v) fun i => L0k' i v) : ∀ v : A, Cn E (d camera_Abort_k L0k v) fun i => d (camera_Abort_k' i) (L0k' i) v := fun (v0, v1, v2, v3, v4, v5, v6, v7, v8, v9, v10, v11, v12, v13, v14, v15, v16, v17, v18, v19, v20, v21, v22, v23, v24, v25, v26, v27, v28, v29, v30, v31, v32, v33, v34, v35, v36, v37, v38, v39, v40) => (.br (.bnd (hcamera_Abort_k _) fun _ => (hL0k _)) (hL0k _))
theorem f_b (k : Nat) : ∀ v : A, f k v = d (camera_Abort.f k) (l0 k) v := fun (v0, v1, v2, v3, v4, v5, v6, v7, v8, v9, v10, v11, v12, v13, v14, v15, v16, v17, v18, v19, v20, v21, v22, v23, v24, v25, v26, v27, v28, v29, v30, v31, v32, v33, v34, v35, v36, v37, v38, v39, v40) => (held_eq _).trans (by kernel_rfl)
theorem F_of (v : A) {r : R} (h : d camera_Abort.F D0 v = some r) : F v = some r :=
  join_of (l := fun L => f (L 0) v) (d := fun L => d (camera_Abort.f (L 0)) (l0 (L 0)) v) (fun L => f_b (L 0) v) (d_cn (camera_Abort.F_cn 0) (fun v => (D0_cn v).re [0]) v) h
noncomputable def spec (k : Nat) (args : List AV) (ss : List Slot) : Option Ans :=
  match args, ss with
  | [(.agg [(.int .i64 v0), (.int .i64 v1), (.int .i64 v2), (.int .i64 v3), (.int .i64 v4), (.int .i64 v5), (.int .i64 v6), (.int .i64 v7), (.int .i64 v8), (.int .i64 v9)]), (.agg [(.int .i64 v10), (.int .i64 v11), (.int .i64 v12), (.bool v13), (.int .i64 v14), (.int .i64 v15), (.int .i64 v16), (.bool v17), (.int .i64 v18), (.int .i64 v19), (.int .i64 v20), (.bool v21), (.bool v22), (.int .i64 v23), (.int .i64 v24), (.int .i64 v25), (.bool v26), (.int .i64 v27), (.int .i64 v28), (.int .i64 v29), (.int .i64 v30), (.bool v31), (.bool v32), (.bool v33), (.bool v34), (.bool v35), (.int .i64 v36), (.int .i64 v37), (.int .i64 v38), (.int .i64 v39), (.int .i64 v40)])], [] => some ⟨R, f k (v0, v1, v2, v3, v4, v5, v6, v7, v8, v9, v10, v11, v12, v13, v14, v15, v16, v17, v18, v19, v20, v21, v22, v23, v24, v25, v26, v27, v28, v29, v30, v31, v32, v33, v34, v35, v36, v37, v38, v39, v40), enc⟩
  | _, _ => none
theorem spec_ok (k : Nat) : SpecOk Try.prog 40 (spec k) := by
  intro args ss ans x h hx X σ w vals hp
  unfold spec at h
  split at h
  · cases h
    exact spec_of cs_ok Try.func40 rfl rfl dec_ok (held_eq _).symm hx hp
  · cases h
end guard_lock
noncomputable def t_guard_lock (k : Nat) := tcons 40 (guard_lock.spec k) (t_guard_count k)
theorem t_guard_lock_ok (n g : Nat) : SpecOk Try.prog g (t_guard_lock n g) := tcons_ok (guard_lock.spec_ok n) (fun g => t_guard_count_ok n g) g
namespace slew_fastest
abbrev R : Type := Int
abbrev A : Type := Int × Int × Int × Int × Int
def lv : List (Nat × List Nat) := [(2000000, [4]), (2, [1, 2, 5])]
noncomputable def cs : Nat → Ctx := ctxOf tis modes t_guard_lock lv
theorem cs_ok (n : Nat) : CtxOk Try.prog (cs n) := ctxOf_ok rfl tis_ok t_guard_lock_ok n
def enc (r : R) : Out := ((.c (.int .i64 r)), [])
def dec : Out → Option R
  | ((.c (.int .i64 v0)), []) => some v0
  | _ => none
theorem dec_ok : ∀ u y, dec u = some y → u = enc y := by
  intro u y h
  unfold dec at h
  split at h
  · cases h; rfl
  · cases h
noncomputable def b0 : Code := subF [] Try.f75
noncomputable def K0 (k : Nat) : Kt R := kTop (cs k) Try.f75 dec
noncomputable def b2 : Code := sub [1, 0, 1, 0, 0] b0
noncomputable def K2 ( k : Nat) : Kt R := kAt (cs k) (loopN cs k) [1, 0, 1, 0] b0 (K0 k)
abbrev T0 : Type := Int × Int × Int × Int × Int × Int
def s0 : T0 → St := fun (v0, v1, v2, v3, v4, v5) => ⟨37, 0, [(1, (.c (.int .i64 v0))), (2, (.c (.ptr 64000000 0))), (5, (.c (.int .i64 v1)))], [], [(256000000, .gone), (64000000, (.box [(.int .i64 v2), (.int .i64 v3), (.int .i64 v4), (.int .i64 v5)]))]⟩
noncomputable def l0 ( k n : Nat) (v : T0) : Option R := held (loopN cs n b2 (K2 k) (s0 v))
noncomputable def D0 (v : T0) : Option R := lim fun L => l0 (L 0) (L 1) v
theorem D0_cn (v : T0) : Cn late (D0 v) fun L => l0 (L 0) (L 1) v := of_lim
def d0 (L0m1 : T0 → Option R) : T0 → Option R := fun (v0, v1, v2, v3, v4, v5) =>
br (decide (v1 ≤ 64))
  (br (!decide (2 = 0))
    (br (decide (v0 ≤ wrap IntKind.i64 (v5 * wrap IntKind.i64 ((wrap IntKind.i64 (v1 * wrap IntKind.i64 (v1 + 1))).tdiv 2))))
      (br (!decide (2 = 0))
        (br (!decide (v1 = 0)) (some (min v4 (wrap IntKind.i64 ((wrap IntKind.i64 (v0 + wrap IntKind.i64 (v5 * wrap IntKind.i64 ((wrap IntKind.i64 (v1 * wrap IntKind.i64 (v1 - 1))).tdiv 2)))).tdiv v1)))) none) none)
      (L0m1 (v0, wrap IntKind.i64 (v1 + 1), v2, v3, v4, v5)))
    none)
  (some v4)
theorem d0_cn {ι : Type} {E : Fil ι} {L0m1 : T0 → Option R} {L0m1' : ι → T0 → Option R} (hL0m1 : ∀ v, Cn E (L0m1 v) fun i => L0m1' i v) : ∀ v : T0, Cn E (d0 L0m1 v) fun i => d0 (L0m1' i) v := fun (v0, v1, v2, v3, v4, v5) => (.br (.br (.br (.br (.br .some .none) .none) (hL0m1 _)) .none) .some)
theorem l0_b ( k m1 : Nat) : ∀ v : T0, run (cs m1) (loopN cs m1) b2 (kLoop cs m1 b2 (K2 k)) (s0 v) = d0 (l0 k m1) v := fun (v0, v1, v2, v3, v4, v5) => by kernel_rfl
theorem D0_of (v : T0) {r : R} (h : d0 D0 v = some r) : D0 v = some r :=
  loop_of 1 (l := fun L => l0 (L 0) (L 1) v) (d := fun L => d0 (l0 (L 0) (L 1)) v) (fun L n hn => by show l0 (L 0) (L 1) v = _; rw [hn]; exact (held_eq _).trans ((loopN_succ _ _ _ _ _).trans (l0_b (L 0) n v))) (d0_cn (fun v => (D0_cn v).re [0, 1]) v) h
noncomputable def f (k : Nat) : A → Option R := fun (v0, v1, v2, v3, v4) => held (runFn cs k Try.f75 [(.agg [(.int .i64 v0), (.int .i64 v1), (.int .i64 v2), (.int .i64 v3)]), (.c (.int .i64 v4))] [] dec)
noncomputable def F (v : A) : Option R := lim fun L => f (L 0) v
theorem F_cn (x : Nat) (v : A) : Cn late (F v) fun L => f (L x) v := of_lim.re [x]
def d (L0k : T0 → Option R) : A → Option R := fun (v0, v1, v2, v3, v4) =>
L0k (v4, 1, v0, v1, v2, v3)
theorem d_cn {ι : Type} {E : Fil ι} {L0k : T0 → Option R} {L0k' : ι → T0 → Option R} (hL0k : ∀ v, Cn E (L0k v) fun i => L0k' i v) : ∀ v : A, Cn E (d L0k v) fun i => d (L0k' i) v := fun (v0, v1, v2, v3, v4) => (hL0k _)
theorem f_b (k : Nat) : ∀ v : A, f k v = d (l0 k k) v := fun (v0, v1, v2, v3, v4) => (held_eq _).trans (by kernel_rfl)
theorem F_of (v : A) {r : R} (h : d D0 v = some r) : F v = some r :=
  join_of (l := fun L => f (L 0) v) (d := fun L => d (l0 (L 0) (L 0)) v) (fun L => f_b (L 0) v) (d_cn (fun v => (D0_cn v).re [0, 0]) v) h
noncomputable def spec (k : Nat) (args : List AV) (ss : List Slot) : Option Ans :=
  match args, ss with
  | [(.agg [(.int .i64 v0), (.int .i64 v1), (.int .i64 v2), (.int .i64 v3)]), (.c (.int .i64 v4))], [] => some ⟨R, f k (v0, v1, v2, v3, v4), enc⟩
  | _, _ => none
theorem spec_ok (k : Nat) : SpecOk Try.prog 75 (spec k) := by
  intro args ss ans x h hx X σ w vals hp
  unfold spec at h
  split at h
  · cases h
    exact spec_of cs_ok Try.func75 rfl rfl dec_ok (held_eq _).symm hx hp
  · cases h
end slew_fastest
noncomputable def t_slew_fastest (k : Nat) := tcons 75 (slew_fastest.spec k) (t_guard_lock k)
theorem t_slew_fastest_ok (n g : Nat) : SpecOk Try.prog g (t_slew_fastest n g) := tcons_ok (slew_fastest.spec_ok n) (fun g => t_guard_lock_ok n g) g
namespace slew_Fastest
abbrev R : Type := Int
abbrev A : Type := Int × Int × Int × Int × Int
def lv : List (Nat × List Nat) := [(2000000, [4])]
noncomputable def cs : Nat → Ctx := ctxOf tis modes t_slew_fastest lv
theorem cs_ok (n : Nat) : CtxOk Try.prog (cs n) := ctxOf_ok rfl tis_ok t_slew_fastest_ok n
def enc (r : R) : Out := ((.c (.int .i64 r)), [])
def dec : Out → Option R
  | ((.c (.int .i64 v0)), []) => some v0
  | _ => none
theorem dec_ok : ∀ u y, dec u = some y → u = enc y := by
  intro u y h
  unfold dec at h
  split at h
  · cases h; rfl
  · cases h
noncomputable def b0 : Code := subF [] Try.f74
noncomputable def K0 (k : Nat) : Kt R := kTop (cs k) Try.f74 dec
noncomputable def f (k : Nat) : A → Option R := fun (v0, v1, v2, v3, v4) => held (runFn cs k Try.f74 [(.agg [(.int .i64 v0), (.int .i64 v1), (.int .i64 v2), (.int .i64 v3)]), (.c (.int .i64 v4))] [] dec)
noncomputable def F (v : A) : Option R := lim fun L => f (L 0) v
theorem F_cn (x : Nat) (v : A) : Cn late (F v) fun L => f (L x) v := of_lim.re [x]
def d (slew_CheckAxis_k : slew_CheckAxis.A → Option slew_CheckAxis.R) (slew_fastest_k : slew_fastest.A → Option slew_fastest.R) : A → Option R := fun (v0, v1, v2, v3, v4) =>
bnd (slew_CheckAxis_k (v0, v1, v2, v3)) fun r => br (!decide (r = 0) || decide (v4 < 0)) (some 0) (bnd (slew_fastest_k (v0, v1, v2, v3, v4)) fun r => some r)
theorem d_cn {ι : Type} {E : Fil ι} {slew_CheckAxis_k : slew_CheckAxis.A → Option slew_CheckAxis.R} {slew_CheckAxis_k' : ι → slew_CheckAxis.A → Option slew_CheckAxis.R} (hslew_CheckAxis_k : ∀ v, Cn E (slew_CheckAxis_k v) fun i => slew_CheckAxis_k' i v) {slew_fastest_k : slew_fastest.A → Option slew_fastest.R} {slew_fastest_k' : ι → slew_fastest.A → Option slew_fastest.R} (hslew_fastest_k : ∀ v, Cn E (slew_fastest_k v) fun i => slew_fastest_k' i v) : ∀ v : A, Cn E (d slew_CheckAxis_k slew_fastest_k v) fun i => d (slew_CheckAxis_k' i) (slew_fastest_k' i) v := fun (v0, v1, v2, v3, v4) => (.bnd (hslew_CheckAxis_k _) fun _ => (.br .some (.bnd (hslew_fastest_k _) fun _ => .some)))
theorem f_b (k : Nat) : ∀ v : A, f k v = d (slew_CheckAxis.f k) (slew_fastest.f k) v := fun (v0, v1, v2, v3, v4) => (held_eq _).trans (by kernel_rfl)
theorem F_of (v : A) {r : R} (h : d slew_CheckAxis.F slew_fastest.F v = some r) : F v = some r :=
  join_of (l := fun L => f (L 0) v) (d := fun L => d (slew_CheckAxis.f (L 0)) (slew_fastest.f (L 0)) v) (fun L => f_b (L 0) v) (d_cn (slew_CheckAxis.F_cn 0) (slew_fastest.F_cn 0) v) h
noncomputable def spec (k : Nat) (args : List AV) (ss : List Slot) : Option Ans :=
  match args, ss with
  | [(.agg [(.int .i64 v0), (.int .i64 v1), (.int .i64 v2), (.int .i64 v3)]), (.c (.int .i64 v4))], [] => some ⟨R, f k (v0, v1, v2, v3, v4), enc⟩
  | _, _ => none
theorem spec_ok (k : Nat) : SpecOk Try.prog 74 (spec k) := by
  intro args ss ans x h hx X σ w vals hp
  unfold spec at h
  split at h
  · cases h
    exact spec_of cs_ok Try.func74 rfl rfl dec_ok (held_eq _).symm hx hp
  · cases h
end slew_Fastest
noncomputable def t_slew_Fastest (k : Nat) := tcons 74 (slew_Fastest.spec k) (t_slew_fastest k)
theorem t_slew_Fastest_ok (n g : Nat) : SpecOk Try.prog g (t_slew_Fastest n g) := tcons_ok (slew_Fastest.spec_ok n) (fun g => t_slew_fastest_ok n g) g
namespace axis_next
abbrev R : Type := Int
abbrev A : Type := Int × Int × Int × Int × Int × Int
def lv : List (Nat × List Nat) := [(2000000, [6])]
noncomputable def cs : Nat → Ctx := ctxOf tis modes t_slew_Fastest lv
theorem cs_ok (n : Nat) : CtxOk Try.prog (cs n) := ctxOf_ok rfl tis_ok t_slew_Fastest_ok n
def enc (r : R) : Out := ((.c (.int .i64 r)), [])
def dec : Out → Option R
  | ((.c (.int .i64 v0)), []) => some v0
  | _ => none
theorem dec_ok : ∀ u y, dec u = some y → u = enc y := by
  intro u y h
  unfold dec at h
  split at h
  · cases h; rfl
  · cases h
noncomputable def b0 : Code := subF [] Try.f71
noncomputable def K0 (k : Nat) : Kt R := kTop (cs k) Try.f71 dec
noncomputable def f (k : Nat) : A → Option R := fun (v0, v1, v2, v3, v4, v5) => held (runFn cs k Try.f71 [(.agg [(.int .i64 v0), (.int .i64 v1), (.int .i64 v2), (.int .i64 v3)]), (.c (.int .i64 v4)), (.c (.int .i64 v5))] [] dec)
noncomputable def F (v : A) : Option R := lim fun L => f (L 0) v
theorem F_cn (x : Nat) (v : A) : Cn late (F v) fun L => f (L x) v := of_lim.re [x]
def d (slew_Fastest_k : slew_Fastest.A → Option slew_Fastest.R) : A → Option R := fun (v0, v1, v2, v3, v4, v5) =>
br (decide (v5 < 0)) (some (min (wrap IntKind.i64 (v5 + v3)) 0)) (bnd (slew_Fastest_k (v0, v1, v2, v3, v4)) fun r => some (max (max (wrap IntKind.i64 (v5 - v3)) 0) (min (wrap IntKind.i64 (v5 + v3)) r)))
theorem d_cn {ι : Type} {E : Fil ι} {slew_Fastest_k : slew_Fastest.A → Option slew_Fastest.R} {slew_Fastest_k' : ι → slew_Fastest.A → Option slew_Fastest.R} (hslew_Fastest_k : ∀ v, Cn E (slew_Fastest_k v) fun i => slew_Fastest_k' i v) : ∀ v : A, Cn E (d slew_Fastest_k v) fun i => d (slew_Fastest_k' i) v := fun (v0, v1, v2, v3, v4, v5) => (.br .some (.bnd (hslew_Fastest_k _) fun _ => .some))
theorem f_b (k : Nat) : ∀ v : A, f k v = d (slew_Fastest.f k) v := fun (v0, v1, v2, v3, v4, v5) => (held_eq _).trans (by kernel_rfl)
theorem F_of (v : A) {r : R} (h : d slew_Fastest.F v = some r) : F v = some r :=
  join_of (l := fun L => f (L 0) v) (d := fun L => d (slew_Fastest.f (L 0)) v) (fun L => f_b (L 0) v) (d_cn (slew_Fastest.F_cn 0) v) h
noncomputable def spec (k : Nat) (args : List AV) (ss : List Slot) : Option Ans :=
  match args, ss with
  | [(.agg [(.int .i64 v0), (.int .i64 v1), (.int .i64 v2), (.int .i64 v3)]), (.c (.int .i64 v4)), (.c (.int .i64 v5))], [] => some ⟨R, f k (v0, v1, v2, v3, v4, v5), enc⟩
  | _, _ => none
theorem spec_ok (k : Nat) : SpecOk Try.prog 71 (spec k) := by
  intro args ss ans x h hx X σ w vals hp
  unfold spec at h
  split at h
  · cases h
    exact spec_of cs_ok Try.func71 rfl rfl dec_ok (held_eq _).symm hx hp
  · cases h
end axis_next
noncomputable def t_axis_next (k : Nat) := tcons 71 (axis_next.spec k) (t_slew_Fastest k)
theorem t_axis_next_ok (n g : Nat) : SpecOk Try.prog g (t_axis_next n g) := tcons_ok (axis_next.spec_ok n) (fun g => t_slew_Fastest_ok n g) g
namespace axis_Step
abbrev R : Type := Int × Int × Int × Bool
abbrev A : Type := Int × Int × Int × Int × Int × Int × Int × Bool
def lv : List (Nat × List Nat) := [(2000000, [4]), (1000010, [3, 4]), (1000013, [3, 4])]
noncomputable def cs : Nat → Ctx := ctxOf tis modes t_axis_next lv
theorem cs_ok (n : Nat) : CtxOk Try.prog (cs n) := ctxOf_ok rfl tis_ok t_axis_next_ok n
def enc (r : R) : Out := ((.agg [(.int .i64 r.1), (.int .i64 r.2.1), (.int .i64 r.2.2.1), (.bool r.2.2.2)]), [])
def dec : Out → Option R
  | ((.agg [(.int .i64 v0), (.int .i64 v1), (.int .i64 v2), (.bool v3)]), []) => some (v0, v1, v2, v3)
  | _ => none
theorem dec_ok : ∀ u y, dec u = some y → u = enc y := by
  intro u y h
  unfold dec at h
  split at h
  · cases h; rfl
  · cases h
noncomputable def b0 : Code := subF [] Try.f59
noncomputable def K0 (k : Nat) : Kt R := kTop (cs k) Try.f59 dec
noncomputable def c1000010 : Code := sub [1, 1, 1] b0
noncomputable def J1000010 ( k : Nat) : Kt R := kAt (cs k) (loopN cs k) [1, 1, 1] b0 (K0 k)
noncomputable def c1000013 : Code := sub [1, 1, 1, 1, 1] b0
noncomputable def J1000013 ( k : Nat) : Kt R := kAt (cs k) (loopN cs k) [1, 1, 1, 1, 1] b0 (K0 k)
abbrev T0 : Type := Int × Int × Int × Bool × Int × Int × Int × Bool
def s0 : T0 → St := fun (v0, v1, v2, v3, v4, v5, v6, v7) => ⟨81, 0, [(3, (.c (.ptr 64000000 0))), (4, (.c (.ptr 64000001 0)))], [], [(256000000, .gone), (64000000, (.box [(.int .i64 v0), (.int .i64 v1), (.int .i64 v2), (.bool v3)])), (64000001, (.box [(.int .i64 v4), (.int .i64 v5), (.int .i64 v6), (.bool v7)]))]⟩
noncomputable def l0 ( k : Nat) (v : T0) : Option R := held (run (cs k) (loopN cs k) c1000010 (J1000010 k) (s0 v))
noncomputable def D0 (v : T0) : Option R := lim fun L => l0 (L 0) v
theorem D0_cn (v : T0) : Cn late (D0 v) fun L => l0 (L 0) v := of_lim
abbrev T1 : Type := Int × Int × Int × Bool × Int × Int × Int × Bool
def s1 : T1 → St := fun (v0, v1, v2, v3, v4, v5, v6, v7) => ⟨81, 0, [(3, (.c (.ptr 64000000 0))), (4, (.c (.ptr 64000001 0)))], [], [(256000000, .gone), (64000000, (.box [(.int .i64 v0), (.int .i64 v1), (.int .i64 v2), (.bool v3)])), (64000001, (.box [(.int .i64 v4), (.int .i64 v5), (.int .i64 v6), (.bool v7)]))]⟩
noncomputable def l1 ( k : Nat) (v : T1) : Option R := held (run (cs k) (loopN cs k) c1000013 (J1000013 k) (s1 v))
noncomputable def D1 (v : T1) : Option R := lim fun L => l1 (L 0) v
theorem D1_cn (v : T1) : Cn late (D1 v) fun L => l1 (L 0) v := of_lim
def d0 (L1k : T1 → Option R) : T0 → Option R := fun (v0, v1, v2, v3, v4, v5, v6, v7) =>
br (v3 && decide (v1 = 0)) (L1k (wrap IntKind.i64 (v0 + v1), v1, wrap IntKind.i64 (v0 + v1), false, v4, v5, v6, v7)) (L1k (wrap IntKind.i64 (v0 + v1), v1, v2, v3, v4, v5, v6, v7))
theorem d0_cn {ι : Type} {E : Fil ι} {L1k : T1 → Option R} {L1k' : ι → T1 → Option R} (hL1k : ∀ v, Cn E (L1k v) fun i => L1k' i v) : ∀ v : T0, Cn E (d0 L1k v) fun i => d0 (L1k' i) v := fun (v0, v1, v2, v3, v4, v5, v6, v7) => (.br (hL1k _) (hL1k _))
theorem l0_b ( k : Nat) : ∀ v : T0, run (cs k) (loopN cs k) c1000010 (J1000010 k) (s0 v) = d0 (l1 k) v := fun (v0, v1, v2, v3, v4, v5, v6, v7) => by kernel_rfl
theorem D0_of (v : T0) {r : R} (h : d0 D1 v = some r) : D0 v = some r :=
  join_of (l := fun L => l0 (L 0) v) (d := fun L => d0 (l1 (L 0)) v) (fun L => (held_eq _).trans (l0_b (L 0) v)) (d0_cn (fun v => (D1_cn v).re [0]) v) h
def d1 : T1 → Option R := fun (v0, v1, v2, v3, v4, v5, v6, v7) =>
some (v0, v1, v2, v3)
theorem d1_cn {ι : Type} {E : Fil ι} : ∀ v : T1, Cn E (d1 v) fun i => d1 v := fun (v0, v1, v2, v3, v4, v5, v6, v7) => .some
theorem l1_b ( k : Nat) : ∀ v : T1, run (cs k) (loopN cs k) c1000013 (J1000013 k) (s1 v) = d1 v := fun (v0, v1, v2, v3, v4, v5, v6, v7) => by kernel_rfl
theorem D1_of (v : T1) {r : R} (h : d1 v = some r) : D1 v = some r :=
  join_of (l := fun L => l1 (L 0) v) (d := fun L => d1 v) (fun L => (held_eq _).trans (l1_b (L 0) v)) (d1_cn v) h
noncomputable def f (k : Nat) : A → Option R := fun (v0, v1, v2, v3, v4, v5, v6, v7) => held (runFn cs k Try.f59 [(.agg [(.int .i64 v0), (.int .i64 v1), (.int .i64 v2), (.int .i64 v3)]), (.agg [(.int .i64 v4), (.int .i64 v5), (.int .i64 v6), (.bool v7)])] [] dec)
noncomputable def F (v : A) : Option R := lim fun L => f (L 0) v
theorem F_cn (x : Nat) (v : A) : Cn late (F v) fun L => f (L x) v := of_lim.re [x]
def d (axis_Check_k : axis_Check.A → Option axis_Check.R) (L0k : T0 → Option R) (axis_next_k : axis_next.A → Option axis_next.R) : A → Option R := fun (v0, v1, v2, v3, v4, v5, v6, v7) =>
bnd (axis_Check_k (v0, v1, v2, v3, v4, v5, v6, v7)) fun r =>
  br (!decide (r = 0)) (some (v4, v5, v6, v7))
    (br (v7 && decide (0 < v5)) (L0k (v4, max (wrap IntKind.i64 (v5 - v3)) 0, v6, v7, 0, 0, 0, false))
      (br v7 (L0k (v4, min (wrap IntKind.i64 (v5 + v3)) 0, v6, v7, 0, 0, 0, false))
        (br (decide (v4 ≤ v6)) (bnd (axis_next_k (v0, v1, v2, v3, wrap IntKind.i64 (v6 - v4), v5)) fun r => L0k (v4, r, v6, v7, 0, 0, 0, false))
          (bnd (axis_next_k (v0, v1, v2, v3, wrap IntKind.i64 (v4 - v6), wrap IntKind.i64 (0 - v5))) fun r => L0k (v4, wrap IntKind.i64 (0 - r), v6, v7, 0, 0, 0, false)))))
theorem d_cn {ι : Type} {E : Fil ι} {axis_Check_k : axis_Check.A → Option axis_Check.R} {axis_Check_k' : ι → axis_Check.A → Option axis_Check.R} (haxis_Check_k : ∀ v, Cn E (axis_Check_k v) fun i => axis_Check_k' i v) {L0k : T0 → Option R} {L0k' : ι → T0 → Option R} (hL0k : ∀ v, Cn E (L0k v) fun i => L0k' i v) {axis_next_k : axis_next.A → Option axis_next.R} {axis_next_k' : ι → axis_next.A → Option axis_next.R} (haxis_next_k : ∀ v, Cn E (axis_next_k v) fun i => axis_next_k' i v) : ∀ v : A, Cn E (d axis_Check_k L0k axis_next_k v) fun i => d (axis_Check_k' i) (L0k' i) (axis_next_k' i) v := fun (v0, v1, v2, v3, v4, v5, v6, v7) => (.bnd (haxis_Check_k _) fun _ => (.br .some (.br (hL0k _) (.br (hL0k _) (.br (.bnd (haxis_next_k _) fun _ => (hL0k _)) (.bnd (haxis_next_k _) fun _ => (hL0k _)))))))
theorem f_b (k : Nat) : ∀ v : A, f k v = d (axis_Check.f k) (l0 k) (axis_next.f k) v := fun (v0, v1, v2, v3, v4, v5, v6, v7) => (held_eq _).trans (by kernel_rfl)
theorem F_of (v : A) {r : R} (h : d axis_Check.F D0 axis_next.F v = some r) : F v = some r :=
  join_of (l := fun L => f (L 0) v) (d := fun L => d (axis_Check.f (L 0)) (l0 (L 0)) (axis_next.f (L 0)) v) (fun L => f_b (L 0) v) (d_cn (axis_Check.F_cn 0) (fun v => (D0_cn v).re [0]) (axis_next.F_cn 0) v) h
noncomputable def spec (k : Nat) (args : List AV) (ss : List Slot) : Option Ans :=
  match args, ss with
  | [(.agg [(.int .i64 v0), (.int .i64 v1), (.int .i64 v2), (.int .i64 v3)]), (.agg [(.int .i64 v4), (.int .i64 v5), (.int .i64 v6), (.bool v7)])], [] => some ⟨R, f k (v0, v1, v2, v3, v4, v5, v6, v7), enc⟩
  | _, _ => none
theorem spec_ok (k : Nat) : SpecOk Try.prog 59 (spec k) := by
  intro args ss ans x h hx X σ w vals hp
  unfold spec at h
  split at h
  · cases h
    exact spec_of cs_ok Try.func59 rfl rfl dec_ok (held_eq _).symm hx hp
  · cases h
end axis_Step
noncomputable def t_axis_Step (k : Nat) := tcons 59 (axis_Step.spec k) (t_axis_next k)
theorem t_axis_Step_ok (n g : Nat) : SpecOk Try.prog g (t_axis_Step n g) := tcons_ok (axis_Step.spec_ok n) (fun g => t_axis_next_ok n g) g
namespace mount_Step
abbrev R : Type := Int × Int × Int × Bool × Int × Int × Int × Bool × Int
abbrev A : Type := Int × Int × Int × Int × Int × Int × Int × Int × Int × Int × Int × Int × Int × Bool × Int × Int × Int × Bool × Int
def lv : List (Nat × List Nat) := [(2000000, [4]), (1000013, [3, 4])]
noncomputable def cs : Nat → Ctx := ctxOf tis modes t_axis_Step lv
theorem cs_ok (n : Nat) : CtxOk Try.prog (cs n) := ctxOf_ok rfl tis_ok t_axis_Step_ok n
def enc (r : R) : Out := ((.agg [(.int .i64 r.1), (.int .i64 r.2.1), (.int .i64 r.2.2.1), (.bool r.2.2.2.1), (.int .i64 r.2.2.2.2.1), (.int .i64 r.2.2.2.2.2.1), (.int .i64 r.2.2.2.2.2.2.1), (.bool r.2.2.2.2.2.2.2.1), (.int .i64 r.2.2.2.2.2.2.2.2)]), [])
def dec : Out → Option R
  | ((.agg [(.int .i64 v0), (.int .i64 v1), (.int .i64 v2), (.bool v3), (.int .i64 v4), (.int .i64 v5), (.int .i64 v6), (.bool v7), (.int .i64 v8)]), []) => some (v0, v1, v2, v3, v4, v5, v6, v7, v8)
  | _ => none
theorem dec_ok : ∀ u y, dec u = some y → u = enc y := by
  intro u y h
  unfold dec at h
  split at h
  · cases h; rfl
  · cases h
noncomputable def b0 : Code := subF [] Try.f41
noncomputable def K0 (k : Nat) : Kt R := kTop (cs k) Try.f41 dec
noncomputable def c1000013 : Code := sub [1, 1, 1, 1, 1] b0
noncomputable def J1000013 ( k : Nat) : Kt R := kAt (cs k) (loopN cs k) [1, 1, 1, 1, 1] b0 (K0 k)
abbrev T0 : Type := Int × Int × Int × Bool × Int × Int × Int × Bool × Int × Int × Int × Int × Bool × Int × Int × Int × Bool × Int
def s0 : T0 → St := fun (v0, v1, v2, v3, v4, v5, v6, v7, v8, v9, v10, v11, v12, v13, v14, v15, v16, v17) => ⟨45, 0, [(3, (.c (.ptr 64000000 0))), (4, (.c (.ptr 64000001 0)))], [], [(256000000, .gone), (64000000, (.box [(.int .i64 v0), (.int .i64 v1), (.int .i64 v2), (.bool v3), (.int .i64 v4), (.int .i64 v5), (.int .i64 v6), (.bool v7), (.int .i64 v8)])), (64000001, (.box [(.int .i64 v9), (.int .i64 v10), (.int .i64 v11), (.bool v12), (.int .i64 v13), (.int .i64 v14), (.int .i64 v15), (.bool v16), (.int .i64 v17)]))]⟩
noncomputable def l0 ( k : Nat) (v : T0) : Option R := held (run (cs k) (loopN cs k) c1000013 (J1000013 k) (s0 v))
noncomputable def D0 (v : T0) : Option R := lim fun L => l0 (L 0) v
theorem D0_cn (v : T0) : Cn late (D0 v) fun L => l0 (L 0) v := of_lim
def d0 : T0 → Option R := fun (v0, v1, v2, v3, v4, v5, v6, v7, v8, v9, v10, v11, v12, v13, v14, v15, v16, v17) =>
some (v0, v1, v2, v3, v4, v5, v6, v7, v8)
theorem d0_cn {ι : Type} {E : Fil ι} : ∀ v : T0, Cn E (d0 v) fun i => d0 v := fun (v0, v1, v2, v3, v4, v5, v6, v7, v8, v9, v10, v11, v12, v13, v14, v15, v16, v17) => .some
theorem l0_b ( k : Nat) : ∀ v : T0, run (cs k) (loopN cs k) c1000013 (J1000013 k) (s0 v) = d0 v := fun (v0, v1, v2, v3, v4, v5, v6, v7, v8, v9, v10, v11, v12, v13, v14, v15, v16, v17) => by kernel_rfl
theorem D0_of (v : T0) {r : R} (h : d0 v = some r) : D0 v = some r :=
  join_of (l := fun L => l0 (L 0) v) (d := fun L => d0 v) (fun L => (held_eq _).trans (l0_b (L 0) v)) (d0_cn v) h
noncomputable def f (k : Nat) : A → Option R := fun (v0, v1, v2, v3, v4, v5, v6, v7, v8, v9, v10, v11, v12, v13, v14, v15, v16, v17, v18) => held (runFn cs k Try.f41 [(.agg [(.int .i64 v0), (.int .i64 v1), (.int .i64 v2), (.int .i64 v3), (.int .i64 v4), (.int .i64 v5), (.int .i64 v6), (.int .i64 v7), (.int .i64 v8), (.int .i64 v9)]), (.agg [(.int .i64 v10), (.int .i64 v11), (.int .i64 v12), (.bool v13), (.int .i64 v14), (.int .i64 v15), (.int .i64 v16), (.bool v17), (.int .i64 v18)])] [] dec)
noncomputable def F (v : A) : Option R := lim fun L => f (L 0) v
theorem F_cn (x : Nat) (v : A) : Cn late (F v) fun L => f (L x) v := of_lim.re [x]
def d (mount_Check_k : mount_Check.A → Option mount_Check.R) (axis_Step_k : axis_Step.A → Option axis_Step.R) (axis_Resting_k : axis_Resting.A → Option axis_Resting.R) (L0k : T0 → Option R) : A → Option R := fun (v0, v1, v2, v3, v4, v5, v6, v7, v8, v9, v10, v11, v12, v13, v14, v15, v16, v17, v18) =>
bnd (mount_Check_k (v0, v1, v2, v3, v4, v5, v6, v7, v8, v9, v10, v11, v12, v13, v14, v15, v16, v17, v18)) fun r =>
  br (!decide (r = 0)) (some (v10, v11, v12, v13, v14, v15, v16, v17, v18))
    (bnd (axis_Step_k (v0, v1, v2, v3, v10, v11, v12, v13)) fun r =>
      bnd (axis_Step_k (v4, v5, v6, v7, v14, v15, v16, v17)) fun r_1 =>
        bnd (axis_Resting_k (r.fst, r.snd.fst, r.snd.snd.fst, r.snd.snd.snd)) fun r_2 =>
          br ((!r_2) == false)
            (bnd (axis_Resting_k (r_1.fst, r_1.snd.fst, r_1.snd.snd.fst, r_1.snd.snd.snd)) fun r_3 =>
              br (!r_3) (some (r.fst, r.snd.fst, r.snd.snd.fst, r.snd.snd.snd, r_1.fst, r_1.snd.fst, r_1.snd.snd.fst, r_1.snd.snd.snd, v18))
                (br (decide (v18 = 2)) (L0k (r.fst, r.snd.fst, r.snd.snd.fst, r.snd.snd.snd, r_1.fst, r_1.snd.fst, r_1.snd.snd.fst, r_1.snd.snd.snd, 3, 0, 0, 0, false, 0, 0, 0, false, 0))
                  (br (decide (v18 = 4)) (L0k (r.fst, r.snd.fst, r.snd.snd.fst, r.snd.snd.snd, r_1.fst, r_1.snd.fst, r_1.snd.snd.fst, r_1.snd.snd.snd, 0, 0, 0, 0, false, 0, 0, 0, false, 0))
                    (br (decide (v18 = 5)) (L0k (r.fst, r.snd.fst, r.snd.snd.fst, r.snd.snd.snd, r_1.fst, r_1.snd.fst, r_1.snd.snd.fst, r_1.snd.snd.snd, 1, 0, 0, 0, false, 0, 0, 0, false, 0))
                      (L0k (r.fst, r.snd.fst, r.snd.snd.fst, r.snd.snd.snd, r_1.fst, r_1.snd.fst, r_1.snd.snd.fst, r_1.snd.snd.snd, v18, 0, 0, 0, false, 0, 0, 0, false, 0))))))
            (some (r.fst, r.snd.fst, r.snd.snd.fst, r.snd.snd.snd, r_1.fst, r_1.snd.fst, r_1.snd.snd.fst, r_1.snd.snd.snd, v18)))
theorem d_cn {ι : Type} {E : Fil ι} {mount_Check_k : mount_Check.A → Option mount_Check.R} {mount_Check_k' : ι → mount_Check.A → Option mount_Check.R} (hmount_Check_k : ∀ v, Cn E (mount_Check_k v) fun i => mount_Check_k' i v) {axis_Step_k : axis_Step.A → Option axis_Step.R} {axis_Step_k' : ι → axis_Step.A → Option axis_Step.R} (haxis_Step_k : ∀ v, Cn E (axis_Step_k v) fun i => axis_Step_k' i v) {axis_Resting_k : axis_Resting.A → Option axis_Resting.R} {axis_Resting_k' : ι → axis_Resting.A → Option axis_Resting.R} (haxis_Resting_k : ∀ v, Cn E (axis_Resting_k v) fun i => axis_Resting_k' i v) {L0k : T0 → Option R} {L0k' : ι → T0 → Option R} (hL0k : ∀ v, Cn E (L0k v) fun i => L0k' i v) : ∀ v : A, Cn E (d mount_Check_k axis_Step_k axis_Resting_k L0k v) fun i => d (mount_Check_k' i) (axis_Step_k' i) (axis_Resting_k' i) (L0k' i) v := fun (v0, v1, v2, v3, v4, v5, v6, v7, v8, v9, v10, v11, v12, v13, v14, v15, v16, v17, v18) => (.bnd (hmount_Check_k _) fun _ => (.br .some (.bnd (haxis_Step_k _) fun _ => (.bnd (haxis_Step_k _) fun _ => (.bnd (haxis_Resting_k _) fun _ => (.br (.bnd (haxis_Resting_k _) fun _ => (.br .some (.br (hL0k _) (.br (hL0k _) (.br (hL0k _) (hL0k _)))))) .some))))))
theorem f_b (k : Nat) : ∀ v : A, f k v = d (mount_Check.f k) (axis_Step.f k) (axis_Resting.f k) (l0 k) v := fun (v0, v1, v2, v3, v4, v5, v6, v7, v8, v9, v10, v11, v12, v13, v14, v15, v16, v17, v18) => (held_eq _).trans (by kernel_rfl)
theorem F_of (v : A) {r : R} (h : d mount_Check.F axis_Step.F axis_Resting.F D0 v = some r) : F v = some r :=
  join_of (l := fun L => f (L 0) v) (d := fun L => d (mount_Check.f (L 0)) (axis_Step.f (L 0)) (axis_Resting.f (L 0)) (l0 (L 0)) v) (fun L => f_b (L 0) v) (d_cn (mount_Check.F_cn 0) (axis_Step.F_cn 0) (axis_Resting.F_cn 0) (fun v => (D0_cn v).re [0]) v) h
noncomputable def spec (k : Nat) (args : List AV) (ss : List Slot) : Option Ans :=
  match args, ss with
  | [(.agg [(.int .i64 v0), (.int .i64 v1), (.int .i64 v2), (.int .i64 v3), (.int .i64 v4), (.int .i64 v5), (.int .i64 v6), (.int .i64 v7), (.int .i64 v8), (.int .i64 v9)]), (.agg [(.int .i64 v10), (.int .i64 v11), (.int .i64 v12), (.bool v13), (.int .i64 v14), (.int .i64 v15), (.int .i64 v16), (.bool v17), (.int .i64 v18)])], [] => some ⟨R, f k (v0, v1, v2, v3, v4, v5, v6, v7, v8, v9, v10, v11, v12, v13, v14, v15, v16, v17, v18), enc⟩
  | _, _ => none
theorem spec_ok (k : Nat) : SpecOk Try.prog 41 (spec k) := by
  intro args ss ans x h hx X σ w vals hp
  unfold spec at h
  split at h
  · cases h
    exact spec_of cs_ok Try.func41 rfl rfl dec_ok (held_eq _).symm hx hp
  · cases h
end mount_Step
noncomputable def t_mount_Step (k : Nat) := tcons 41 (mount_Step.spec k) (t_axis_Step k)
theorem t_mount_Step_ok (n g : Nat) : SpecOk Try.prog g (t_mount_Step n g) := tcons_ok (mount_Step.spec_ok n) (fun g => t_axis_Step_ok n g) g
namespace dome_Step
abbrev R : Type := Int × Int × Bool × Bool × Int × Int × Int × Bool
abbrev A : Type := Int × Int × Bool × Bool × Int × Int × Int × Bool
def lv : List (Nat × List Nat) := [(2000000, [2]), (1000007, [1, 2]), (1000011, [1, 2])]
noncomputable def cs : Nat → Ctx := ctxOf tis modes t_mount_Step lv
theorem cs_ok (n : Nat) : CtxOk Try.prog (cs n) := ctxOf_ok rfl tis_ok t_mount_Step_ok n
def enc (r : R) : Out := ((.agg [(.int .i64 r.1), (.int .i64 r.2.1), (.bool r.2.2.1), (.bool r.2.2.2.1), (.int .i64 r.2.2.2.2.1), (.int .i64 r.2.2.2.2.2.1), (.int .i64 r.2.2.2.2.2.2.1), (.bool r.2.2.2.2.2.2.2)]), [])
def dec : Out → Option R
  | ((.agg [(.int .i64 v0), (.int .i64 v1), (.bool v2), (.bool v3), (.int .i64 v4), (.int .i64 v5), (.int .i64 v6), (.bool v7)]), []) => some (v0, v1, v2, v3, v4, v5, v6, v7)
  | _ => none
theorem dec_ok : ∀ u y, dec u = some y → u = enc y := by
  intro u y h
  unfold dec at h
  split at h
  · cases h; rfl
  · cases h
noncomputable def b0 : Code := subF [] Try.f42
noncomputable def K0 (k : Nat) : Kt R := kTop (cs k) Try.f42 dec
noncomputable def c1000007 : Code := sub [1, 1, 1] b0
noncomputable def J1000007 ( k : Nat) : Kt R := kAt (cs k) (loopN cs k) [1, 1, 1] b0 (K0 k)
noncomputable def c1000011 : Code := sub [1, 1, 1, 1] b0
noncomputable def J1000011 ( k : Nat) : Kt R := kAt (cs k) (loopN cs k) [1, 1, 1, 1] b0 (K0 k)
abbrev T0 : Type := Int × Int × Bool × Bool × Int × Int × Int × Bool × Int × Int × Bool × Bool × Int × Int × Int × Bool
def s0 : T0 → St := fun (v0, v1, v2, v3, v4, v5, v6, v7, v8, v9, v10, v11, v12, v13, v14, v15) => ⟨49, 0, [(1, (.c (.ptr 64000000 0))), (2, (.c (.ptr 64000001 0)))], [], [(256000000, .gone), (64000000, (.box [(.int .i64 v0), (.int .i64 v1), (.bool v2), (.bool v3), (.int .i64 v4), (.int .i64 v5), (.int .i64 v6), (.bool v7)])), (64000001, (.box [(.int .i64 v8), (.int .i64 v9), (.bool v10), (.bool v11), (.int .i64 v12), (.int .i64 v13), (.int .i64 v14), (.bool v15)]))]⟩
noncomputable def l0 ( k : Nat) (v : T0) : Option R := held (run (cs k) (loopN cs k) c1000007 (J1000007 k) (s0 v))
noncomputable def D0 (v : T0) : Option R := lim fun L => l0 (L 0) v
theorem D0_cn (v : T0) : Cn late (D0 v) fun L => l0 (L 0) v := of_lim
abbrev T1 : Type := Int × Int × Bool × Bool × Int × Int × Int × Bool × Int × Int × Bool × Bool × Int × Int × Int × Bool
def s1 : T1 → St := fun (v0, v1, v2, v3, v4, v5, v6, v7, v8, v9, v10, v11, v12, v13, v14, v15) => ⟨49, 0, [(1, (.c (.ptr 64000000 0))), (2, (.c (.ptr 64000001 0)))], [], [(256000000, .gone), (64000000, (.box [(.int .i64 v0), (.int .i64 v1), (.bool v2), (.bool v3), (.int .i64 v4), (.int .i64 v5), (.int .i64 v6), (.bool v7)])), (64000001, (.box [(.int .i64 v8), (.int .i64 v9), (.bool v10), (.bool v11), (.int .i64 v12), (.int .i64 v13), (.int .i64 v14), (.bool v15)]))]⟩
noncomputable def l1 ( k : Nat) (v : T1) : Option R := held (run (cs k) (loopN cs k) c1000011 (J1000011 k) (s1 v))
noncomputable def D1 (v : T1) : Option R := lim fun L => l1 (L 0) v
theorem D1_cn (v : T1) : Cn late (D1 v) fun L => l1 (L 0) v := of_lim
def d0 (L1k : T1 → Option R) : T0 → Option R := fun (v0, v1, v2, v3, v4, v5, v6, v7, v8, v9, v10, v11, v12, v13, v14, v15) =>
br v2 (L1k (min (wrap IntKind.i64 (v0 + 4)) 100, v1, v2, v3, v4, v5, v6, v7, v8, v9, v10, v11, v12, v13, v14, v15))
  (br (decide (v1 = 0)) (L1k (max (wrap IntKind.i64 (v0 - 5)) 0, v1, v2, v3, v4, v5, v6, v7, v8, v9, v10, v11, v12, v13, v14, v15)) (L1k (v0, v1, v2, v3, v4, v5, v6, v7, v8, v9, v10, v11, v12, v13, v14, v15)))
theorem d0_cn {ι : Type} {E : Fil ι} {L1k : T1 → Option R} {L1k' : ι → T1 → Option R} (hL1k : ∀ v, Cn E (L1k v) fun i => L1k' i v) : ∀ v : T0, Cn E (d0 L1k v) fun i => d0 (L1k' i) v := fun (v0, v1, v2, v3, v4, v5, v6, v7, v8, v9, v10, v11, v12, v13, v14, v15) => (.br (hL1k _) (.br (hL1k _) (hL1k _)))
theorem l0_b ( k : Nat) : ∀ v : T0, run (cs k) (loopN cs k) c1000007 (J1000007 k) (s0 v) = d0 (l1 k) v := fun (v0, v1, v2, v3, v4, v5, v6, v7, v8, v9, v10, v11, v12, v13, v14, v15) => by kernel_rfl
theorem D0_of (v : T0) {r : R} (h : d0 D1 v = some r) : D0 v = some r :=
  join_of (l := fun L => l0 (L 0) v) (d := fun L => d0 (l1 (L 0)) v) (fun L => (held_eq _).trans (l0_b (L 0) v)) (d0_cn (fun v => (D1_cn v).re [0]) v) h
def d1 (dome_Axis_k : dome_Axis.A → Option dome_Axis.R) (axis_Step_k : axis_Step.A → Option axis_Step.R) : T1 → Option R := fun (v0, v1, v2, v3, v4, v5, v6, v7, v8, v9, v10, v11, v12, v13, v14, v15) =>
bnd (dome_Axis_k ()) fun r => bnd (axis_Step_k (r.fst, r.snd.fst, r.snd.snd.fst, r.snd.snd.snd, v4, v5, v6, v7)) fun r => some (v0, v1, v2, v3, r.fst, r.snd.fst, r.snd.snd.fst, r.snd.snd.snd)
theorem d1_cn {ι : Type} {E : Fil ι} {dome_Axis_k : dome_Axis.A → Option dome_Axis.R} {dome_Axis_k' : ι → dome_Axis.A → Option dome_Axis.R} (hdome_Axis_k : ∀ v, Cn E (dome_Axis_k v) fun i => dome_Axis_k' i v) {axis_Step_k : axis_Step.A → Option axis_Step.R} {axis_Step_k' : ι → axis_Step.A → Option axis_Step.R} (haxis_Step_k : ∀ v, Cn E (axis_Step_k v) fun i => axis_Step_k' i v) : ∀ v : T1, Cn E (d1 dome_Axis_k axis_Step_k v) fun i => d1 (dome_Axis_k' i) (axis_Step_k' i) v := fun (v0, v1, v2, v3, v4, v5, v6, v7, v8, v9, v10, v11, v12, v13, v14, v15) => (.bnd (hdome_Axis_k _) fun _ => (.bnd (haxis_Step_k _) fun _ => .some))
theorem l1_b ( k : Nat) : ∀ v : T1, run (cs k) (loopN cs k) c1000011 (J1000011 k) (s1 v) = d1 (dome_Axis.f k) (axis_Step.f k) v := fun (v0, v1, v2, v3, v4, v5, v6, v7, v8, v9, v10, v11, v12, v13, v14, v15) => by kernel_rfl
theorem D1_of (v : T1) {r : R} (h : d1 dome_Axis.F axis_Step.F v = some r) : D1 v = some r :=
  join_of (l := fun L => l1 (L 0) v) (d := fun L => d1 (dome_Axis.f (L 0)) (axis_Step.f (L 0)) v) (fun L => (held_eq _).trans (l1_b (L 0) v)) (d1_cn (dome_Axis.F_cn 0) (axis_Step.F_cn 0) v) h
noncomputable def f (k : Nat) : A → Option R := fun (v0, v1, v2, v3, v4, v5, v6, v7) => held (runFn cs k Try.f42 [(.agg [(.int .i64 v0), (.int .i64 v1), (.bool v2), (.bool v3), (.int .i64 v4), (.int .i64 v5), (.int .i64 v6), (.bool v7)])] [] dec)
noncomputable def F (v : A) : Option R := lim fun L => f (L 0) v
theorem F_cn (x : Nat) (v : A) : Cn late (F v) fun L => f (L x) v := of_lim.re [x]
def d (dome_Check_k : dome_Check.A → Option dome_Check.R) (L0k : T0 → Option R) : A → Option R := fun (v0, v1, v2, v3, v4, v5, v6, v7) =>
bnd (dome_Check_k (v0, v1, v2, v3, v4, v5, v6, v7)) fun r =>
  br (!decide (r = 0)) (some (v0, v1, v2, v3, v4, v5, v6, v7))
    (br (v3 && v2)
      (br (decide (v0 = 100)) (L0k (v0, min (wrap IntKind.i64 (v1 + 1)) 20, v2, v3, v4, v5, v6, v7, 0, 0, false, false, 0, 0, 0, false)) (L0k (v0, v1, v2, v3, v4, v5, v6, v7, 0, 0, false, false, 0, 0, 0, false)))
      (L0k (v0, max (wrap IntKind.i64 (v1 - 2)) 0, v2, v3, v4, v5, v6, v7, 0, 0, false, false, 0, 0, 0, false)))
theorem d_cn {ι : Type} {E : Fil ι} {dome_Check_k : dome_Check.A → Option dome_Check.R} {dome_Check_k' : ι → dome_Check.A → Option dome_Check.R} (hdome_Check_k : ∀ v, Cn E (dome_Check_k v) fun i => dome_Check_k' i v) {L0k : T0 → Option R} {L0k' : ι → T0 → Option R} (hL0k : ∀ v, Cn E (L0k v) fun i => L0k' i v) : ∀ v : A, Cn E (d dome_Check_k L0k v) fun i => d (dome_Check_k' i) (L0k' i) v := fun (v0, v1, v2, v3, v4, v5, v6, v7) => (.bnd (hdome_Check_k _) fun _ => (.br .some (.br (.br (hL0k _) (hL0k _)) (hL0k _))))
theorem f_b (k : Nat) : ∀ v : A, f k v = d (dome_Check.f k) (l0 k) v := fun (v0, v1, v2, v3, v4, v5, v6, v7) => (held_eq _).trans (by kernel_rfl)
theorem F_of (v : A) {r : R} (h : d dome_Check.F D0 v = some r) : F v = some r :=
  join_of (l := fun L => f (L 0) v) (d := fun L => d (dome_Check.f (L 0)) (l0 (L 0)) v) (fun L => f_b (L 0) v) (d_cn (dome_Check.F_cn 0) (fun v => (D0_cn v).re [0]) v) h
noncomputable def spec (k : Nat) (args : List AV) (ss : List Slot) : Option Ans :=
  match args, ss with
  | [(.agg [(.int .i64 v0), (.int .i64 v1), (.bool v2), (.bool v3), (.int .i64 v4), (.int .i64 v5), (.int .i64 v6), (.bool v7)])], [] => some ⟨R, f k (v0, v1, v2, v3, v4, v5, v6, v7), enc⟩
  | _, _ => none
theorem spec_ok (k : Nat) : SpecOk Try.prog 42 (spec k) := by
  intro args ss ans x h hx X σ w vals hp
  unfold spec at h
  split at h
  · cases h
    exact spec_of cs_ok Try.func42 rfl rfl dec_ok (held_eq _).symm hx hp
  · cases h
end dome_Step
noncomputable def t_dome_Step (k : Nat) := tcons 42 (dome_Step.spec k) (t_mount_Step k)
theorem t_dome_Step_ok (n g : Nat) : SpecOk Try.prog g (t_dome_Step n g) := tcons_ok (dome_Step.spec_ok n) (fun g => t_mount_Step_ok n g) g
namespace camera_Step
abbrev R : Type := Int × Int × Int × Int
abbrev A : Type := Int × Int × Int × Int
def lv : List (Nat × List Nat) := [(2000000, [2]), (1000012, [1, 2])]
noncomputable def cs : Nat → Ctx := ctxOf tis modes t_dome_Step lv
theorem cs_ok (n : Nat) : CtxOk Try.prog (cs n) := ctxOf_ok rfl tis_ok t_dome_Step_ok n
def enc (r : R) : Out := ((.agg [(.int .i64 r.1), (.int .i64 r.2.1), (.int .i64 r.2.2.1), (.int .i64 r.2.2.2)]), [])
def dec : Out → Option R
  | ((.agg [(.int .i64 v0), (.int .i64 v1), (.int .i64 v2), (.int .i64 v3)]), []) => some (v0, v1, v2, v3)
  | _ => none
theorem dec_ok : ∀ u y, dec u = some y → u = enc y := by
  intro u y h
  unfold dec at h
  split at h
  · cases h; rfl
  · cases h
noncomputable def b0 : Code := subF [] Try.f43
noncomputable def K0 (k : Nat) : Kt R := kTop (cs k) Try.f43 dec
noncomputable def c1000012 : Code := sub [1, 1, 1] b0
noncomputable def J1000012 ( k : Nat) : Kt R := kAt (cs k) (loopN cs k) [1, 1, 1] b0 (K0 k)
abbrev T0 : Type := Int × Int × Int × Int × Int × Int × Int × Int
def s0 : T0 → St := fun (v0, v1, v2, v3, v4, v5, v6, v7) => ⟨31, 0, [(1, (.c (.ptr 64000000 0))), (2, (.c (.ptr 64000001 0)))], [], [(256000000, .gone), (64000000, (.box [(.int .i64 v0), (.int .i64 v1), (.int .i64 v2), (.int .i64 v3)])), (64000001, (.box [(.int .i64 v4), (.int .i64 v5), (.int .i64 v6), (.int .i64 v7)]))]⟩
noncomputable def l0 ( k : Nat) (v : T0) : Option R := held (run (cs k) (loopN cs k) c1000012 (J1000012 k) (s0 v))
noncomputable def D0 (v : T0) : Option R := lim fun L => l0 (L 0) v
theorem D0_cn (v : T0) : Cn late (D0 v) fun L => l0 (L 0) v := of_lim
def d0 : T0 → Option R := fun (v0, v1, v2, v3, v4, v5, v6, v7) =>
some (v0, v1, v2, v3)
theorem d0_cn {ι : Type} {E : Fil ι} : ∀ v : T0, Cn E (d0 v) fun i => d0 v := fun (v0, v1, v2, v3, v4, v5, v6, v7) => .some
theorem l0_b ( k : Nat) : ∀ v : T0, run (cs k) (loopN cs k) c1000012 (J1000012 k) (s0 v) = d0 v := fun (v0, v1, v2, v3, v4, v5, v6, v7) => by kernel_rfl
theorem D0_of (v : T0) {r : R} (h : d0 v = some r) : D0 v = some r :=
  join_of (l := fun L => l0 (L 0) v) (d := fun L => d0 v) (fun L => (held_eq _).trans (l0_b (L 0) v)) (d0_cn v) h
noncomputable def f (k : Nat) : A → Option R := fun (v0, v1, v2, v3) => held (runFn cs k Try.f43 [(.agg [(.int .i64 v0), (.int .i64 v1), (.int .i64 v2), (.int .i64 v3)])] [] dec)
noncomputable def F (v : A) : Option R := lim fun L => f (L 0) v
theorem F_cn (x : Nat) (v : A) : Cn late (F v) fun L => f (L x) v := of_lim.re [x]
def d (camera_Check_k : camera_Check.A → Option camera_Check.R) (L0k : T0 → Option R) : A → Option R := fun (v0, v1, v2, v3) =>
bnd (camera_Check_k (v0, v1, v2, v3)) fun r =>
  br (!decide (r = 0)) (some (v0, v1, v2, v3))
    (br (decide (v0 = 1)) (br (decide (wrap IntKind.i64 (v1 - 1) = 0)) (L0k (2, 3, v2, v3, 0, 0, 0, 0)) (L0k (v0, wrap IntKind.i64 (v1 - 1), v2, v3, 0, 0, 0, 0)))
      (br (decide (v0 = 2)) (br (decide (wrap IntKind.i64 (v1 - 1) = 0)) (L0k (3, wrap IntKind.i64 (v1 - 1), v2, v3, 0, 0, 0, 0)) (L0k (v0, wrap IntKind.i64 (v1 - 1), v2, v3, 0, 0, 0, 0)))
        (L0k (v0, v1, v2, v3, 0, 0, 0, 0))))
theorem d_cn {ι : Type} {E : Fil ι} {camera_Check_k : camera_Check.A → Option camera_Check.R} {camera_Check_k' : ι → camera_Check.A → Option camera_Check.R} (hcamera_Check_k : ∀ v, Cn E (camera_Check_k v) fun i => camera_Check_k' i v) {L0k : T0 → Option R} {L0k' : ι → T0 → Option R} (hL0k : ∀ v, Cn E (L0k v) fun i => L0k' i v) : ∀ v : A, Cn E (d camera_Check_k L0k v) fun i => d (camera_Check_k' i) (L0k' i) v := fun (v0, v1, v2, v3) => (.bnd (hcamera_Check_k _) fun _ => (.br .some (.br (.br (hL0k _) (hL0k _)) (.br (.br (hL0k _) (hL0k _)) (hL0k _)))))
theorem f_b (k : Nat) : ∀ v : A, f k v = d (camera_Check.f k) (l0 k) v := fun (v0, v1, v2, v3) => (held_eq _).trans (by kernel_rfl)
theorem F_of (v : A) {r : R} (h : d camera_Check.F D0 v = some r) : F v = some r :=
  join_of (l := fun L => f (L 0) v) (d := fun L => d (camera_Check.f (L 0)) (l0 (L 0)) v) (fun L => f_b (L 0) v) (d_cn (camera_Check.F_cn 0) (fun v => (D0_cn v).re [0]) v) h
noncomputable def spec (k : Nat) (args : List AV) (ss : List Slot) : Option Ans :=
  match args, ss with
  | [(.agg [(.int .i64 v0), (.int .i64 v1), (.int .i64 v2), (.int .i64 v3)])], [] => some ⟨R, f k (v0, v1, v2, v3), enc⟩
  | _, _ => none
theorem spec_ok (k : Nat) : SpecOk Try.prog 43 (spec k) := by
  intro args ss ans x h hx X σ w vals hp
  unfold spec at h
  split at h
  · cases h
    exact spec_of cs_ok Try.func43 rfl rfl dec_ok (held_eq _).symm hx hp
  · cases h
end camera_Step
noncomputable def t_camera_Step (k : Nat) := tcons 43 (camera_Step.spec k) (t_dome_Step k)
theorem t_camera_Step_ok (n g : Nat) : SpecOk Try.prog g (t_camera_Step n g) := tcons_ok (camera_Step.spec_ok n) (fun g => t_dome_Step_ok n g) g
namespace guard_Step
abbrev R : Type := Int × Int × Int × Bool × Int × Int × Int × Bool × Int × Int × Int × Bool × Bool × Int × Int × Int × Bool × Int × Int × Int × Int × Bool × Bool × Bool × Bool × Bool × Int × Int × Int × Int × Int
abbrev A : Type := Int × Int × Int × Int × Int × Int × Int × Int × Int × Int × Int × Int × Int × Bool × Int × Int × Int × Bool × Int × Int × Int × Bool × Bool × Int × Int × Int × Bool × Int × Int × Int × Int × Bool × Bool × Bool × Bool × Bool × Int × Int × Int × Int × Int × Bool × Bool × Bool × Bool × Bool
def lv : List (Nat × List Nat) := [(2000000, [6]), (1000006, [3, 4, 5, 6]), (1000008, [3, 4, 6]), (1000011, [4, 6])]
noncomputable def cs : Nat → Ctx := ctxOf tis modes t_camera_Step lv
theorem cs_ok (n : Nat) : CtxOk Try.prog (cs n) := ctxOf_ok rfl tis_ok t_camera_Step_ok n
def enc (r : R) : Out := ((.agg [(.int .i64 r.1), (.int .i64 r.2.1), (.int .i64 r.2.2.1), (.bool r.2.2.2.1), (.int .i64 r.2.2.2.2.1), (.int .i64 r.2.2.2.2.2.1), (.int .i64 r.2.2.2.2.2.2.1), (.bool r.2.2.2.2.2.2.2.1), (.int .i64 r.2.2.2.2.2.2.2.2.1), (.int .i64 r.2.2.2.2.2.2.2.2.2.1), (.int .i64 r.2.2.2.2.2.2.2.2.2.2.1), (.bool r.2.2.2.2.2.2.2.2.2.2.2.1), (.bool r.2.2.2.2.2.2.2.2.2.2.2.2.1), (.int .i64 r.2.2.2.2.2.2.2.2.2.2.2.2.2.1), (.int .i64 r.2.2.2.2.2.2.2.2.2.2.2.2.2.2.1), (.int .i64 r.2.2.2.2.2.2.2.2.2.2.2.2.2.2.2.1), (.bool r.2.2.2.2.2.2.2.2.2.2.2.2.2.2.2.2.1), (.int .i64 r.2.2.2.2.2.2.2.2.2.2.2.2.2.2.2.2.2.1), (.int .i64 r.2.2.2.2.2.2.2.2.2.2.2.2.2.2.2.2.2.2.1), (.int .i64 r.2.2.2.2.2.2.2.2.2.2.2.2.2.2.2.2.2.2.2.1), (.int .i64 r.2.2.2.2.2.2.2.2.2.2.2.2.2.2.2.2.2.2.2.2.1), (.bool r.2.2.2.2.2.2.2.2.2.2.2.2.2.2.2.2.2.2.2.2.2.1), (.bool r.2.2.2.2.2.2.2.2.2.2.2.2.2.2.2.2.2.2.2.2.2.2.1), (.bool r.2.2.2.2.2.2.2.2.2.2.2.2.2.2.2.2.2.2.2.2.2.2.2.1), (.bool r.2.2.2.2.2.2.2.2.2.2.2.2.2.2.2.2.2.2.2.2.2.2.2.2.1), (.bool r.2.2.2.2.2.2.2.2.2.2.2.2.2.2.2.2.2.2.2.2.2.2.2.2.2.1), (.int .i64 r.2.2.2.2.2.2.2.2.2.2.2.2.2.2.2.2.2.2.2.2.2.2.2.2.2.2.1), (.int .i64 r.2.2.2.2.2.2.2.2.2.2.2.2.2.2.2.2.2.2.2.2.2.2.2.2.2.2.2.1), (.int .i64 r.2.2.2.2.2.2.2.2.2.2.2.2.2.2.2.2.2.2.2.2.2.2.2.2.2.2.2.2.1), (.int .i64 r.2.2.2.2.2.2.2.2.2.2.2.2.2.2.2.2.2.2.2.2.2.2.2.2.2.2.2.2.2.1), (.int .i64 r.2.2.2.2.2.2.2.2.2.2.2.2.2.2.2.2.2.2.2.2.2.2.2.2.2.2.2.2.2.2)]), [])
def dec : Out → Option R
  | ((.agg [(.int .i64 v0), (.int .i64 v1), (.int .i64 v2), (.bool v3), (.int .i64 v4), (.int .i64 v5), (.int .i64 v6), (.bool v7), (.int .i64 v8), (.int .i64 v9), (.int .i64 v10), (.bool v11), (.bool v12), (.int .i64 v13), (.int .i64 v14), (.int .i64 v15), (.bool v16), (.int .i64 v17), (.int .i64 v18), (.int .i64 v19), (.int .i64 v20), (.bool v21), (.bool v22), (.bool v23), (.bool v24), (.bool v25), (.int .i64 v26), (.int .i64 v27), (.int .i64 v28), (.int .i64 v29), (.int .i64 v30)]), []) => some (v0, v1, v2, v3, v4, v5, v6, v7, v8, v9, v10, v11, v12, v13, v14, v15, v16, v17, v18, v19, v20, v21, v22, v23, v24, v25, v26, v27, v28, v29, v30)
  | _ => none
theorem dec_ok : ∀ u y, dec u = some y → u = enc y := by
  intro u y h
  unfold dec at h
  split at h
  · cases h; rfl
  · cases h
noncomputable def b0 : Code := subF [] Try.f25
noncomputable def K0 (k : Nat) : Kt R := kTop (cs k) Try.f25 dec
noncomputable def c1000006 : Code := sub [1, 1, 1, 1] b0
noncomputable def J1000006 ( k : Nat) : Kt R := kAt (cs k) (loopN cs k) [1, 1, 1, 1] b0 (K0 k)
noncomputable def c1000008 : Code := sub [1, 1, 1, 1, 1] b0
noncomputable def J1000008 ( k : Nat) : Kt R := kAt (cs k) (loopN cs k) [1, 1, 1, 1, 1] b0 (K0 k)
noncomputable def c1000011 : Code := sub [1, 1, 1, 1, 1, 1, 1] b0
noncomputable def J1000011 ( k : Nat) : Kt R := kAt (cs k) (loopN cs k) [1, 1, 1, 1, 1, 1, 1] b0 (K0 k)
abbrev T0 : Type := Int × Int × Int × Int × Int × Int × Int × Int × Int × Int × Int × Int × Int × Bool × Int × Int × Int × Bool × Int × Int × Int × Bool × Bool × Int × Int × Int × Bool × Int × Int × Int × Int × Bool × Bool × Bool × Bool × Bool × Int × Int × Int × Int × Int × Bool × Bool × Bool × Bool × Bool × Int × Int × Int × Bool × Int × Int × Int × Bool × Int × Int × Int × Bool × Bool × Int × Int × Int × Bool × Int × Int × Int × Int × Bool × Bool × Bool × Bool × Bool × Int × Int × Int × Int × Int
def s0 : T0 → St := fun (v0, v1, v2, v3, v4, v5, v6, v7, v8, v9, v10, v11, v12, v13, v14, v15, v16, v17, v18, v19, v20, v21, v22, v23, v24, v25, v26, v27, v28, v29, v30, v31, v32, v33, v34, v35, v36, v37, v38, v39, v40, v41, v42, v43, v44, v45, v46, v47, v48, v49, v50, v51, v52, v53, v54, v55, v56, v57, v58, v59, v60, v61, v62, v63, v64, v65, v66, v67, v68, v69, v70, v71, v72, v73, v74, v75, v76) => ⟨63, 0, [(3, (.c (.ptr 64000000 0))), (4, (.c (.ptr 64000001 0))), (5, (.c (.ptr 64000002 0))), (6, (.c (.ptr 64000003 0)))], [], [(256000000, .gone), (64000000, (.box [(.int .i64 v0), (.int .i64 v1), (.int .i64 v2), (.int .i64 v3), (.int .i64 v4), (.int .i64 v5), (.int .i64 v6), (.int .i64 v7), (.int .i64 v8), (.int .i64 v9)])), (64000001, (.box [(.int .i64 v10), (.int .i64 v11), (.int .i64 v12), (.bool v13), (.int .i64 v14), (.int .i64 v15), (.int .i64 v16), (.bool v17), (.int .i64 v18), (.int .i64 v19), (.int .i64 v20), (.bool v21), (.bool v22), (.int .i64 v23), (.int .i64 v24), (.int .i64 v25), (.bool v26), (.int .i64 v27), (.int .i64 v28), (.int .i64 v29), (.int .i64 v30), (.bool v31), (.bool v32), (.bool v33), (.bool v34), (.bool v35), (.int .i64 v36), (.int .i64 v37), (.int .i64 v38), (.int .i64 v39), (.int .i64 v40)])), (64000002, (.box [(.bool v41), (.bool v42), (.bool v43), (.bool v44), (.bool v45)])), (64000003, (.box [(.int .i64 v46), (.int .i64 v47), (.int .i64 v48), (.bool v49), (.int .i64 v50), (.int .i64 v51), (.int .i64 v52), (.bool v53), (.int .i64 v54), (.int .i64 v55), (.int .i64 v56), (.bool v57), (.bool v58), (.int .i64 v59), (.int .i64 v60), (.int .i64 v61), (.bool v62), (.int .i64 v63), (.int .i64 v64), (.int .i64 v65), (.int .i64 v66), (.bool v67), (.bool v68), (.bool v69), (.bool v70), (.bool v71), (.int .i64 v72), (.int .i64 v73), (.int .i64 v74), (.int .i64 v75), (.int .i64 v76)]))]⟩
noncomputable def l0 ( k : Nat) (v : T0) : Option R := held (run (cs k) (loopN cs k) c1000006 (J1000006 k) (s0 v))
noncomputable def D0 (v : T0) : Option R := lim fun L => l0 (L 0) v
theorem D0_cn (v : T0) : Cn late (D0 v) fun L => l0 (L 0) v := of_lim
abbrev T1 : Type := Int × Int × Int × Int × Int × Int × Int × Int × Int × Int × Int × Int × Int × Bool × Int × Int × Int × Bool × Int × Int × Int × Bool × Bool × Int × Int × Int × Bool × Int × Int × Int × Int × Bool × Bool × Bool × Bool × Bool × Int × Int × Int × Int × Int × Int × Int × Int × Bool × Int × Int × Int × Bool × Int × Int × Int × Bool × Bool × Int × Int × Int × Bool × Int × Int × Int × Int × Bool × Bool × Bool × Bool × Bool × Int × Int × Int × Int × Int
def s1 : T1 → St := fun (v0, v1, v2, v3, v4, v5, v6, v7, v8, v9, v10, v11, v12, v13, v14, v15, v16, v17, v18, v19, v20, v21, v22, v23, v24, v25, v26, v27, v28, v29, v30, v31, v32, v33, v34, v35, v36, v37, v38, v39, v40, v41, v42, v43, v44, v45, v46, v47, v48, v49, v50, v51, v52, v53, v54, v55, v56, v57, v58, v59, v60, v61, v62, v63, v64, v65, v66, v67, v68, v69, v70, v71) => ⟨63, 0, [(3, (.c (.ptr 64000000 0))), (4, (.c (.ptr 64000001 0))), (6, (.c (.ptr 64000002 0)))], [], [(256000000, .gone), (64000000, (.box [(.int .i64 v0), (.int .i64 v1), (.int .i64 v2), (.int .i64 v3), (.int .i64 v4), (.int .i64 v5), (.int .i64 v6), (.int .i64 v7), (.int .i64 v8), (.int .i64 v9)])), (64000001, (.box [(.int .i64 v10), (.int .i64 v11), (.int .i64 v12), (.bool v13), (.int .i64 v14), (.int .i64 v15), (.int .i64 v16), (.bool v17), (.int .i64 v18), (.int .i64 v19), (.int .i64 v20), (.bool v21), (.bool v22), (.int .i64 v23), (.int .i64 v24), (.int .i64 v25), (.bool v26), (.int .i64 v27), (.int .i64 v28), (.int .i64 v29), (.int .i64 v30), (.bool v31), (.bool v32), (.bool v33), (.bool v34), (.bool v35), (.int .i64 v36), (.int .i64 v37), (.int .i64 v38), (.int .i64 v39), (.int .i64 v40)])), (64000002, (.box [(.int .i64 v41), (.int .i64 v42), (.int .i64 v43), (.bool v44), (.int .i64 v45), (.int .i64 v46), (.int .i64 v47), (.bool v48), (.int .i64 v49), (.int .i64 v50), (.int .i64 v51), (.bool v52), (.bool v53), (.int .i64 v54), (.int .i64 v55), (.int .i64 v56), (.bool v57), (.int .i64 v58), (.int .i64 v59), (.int .i64 v60), (.int .i64 v61), (.bool v62), (.bool v63), (.bool v64), (.bool v65), (.bool v66), (.int .i64 v67), (.int .i64 v68), (.int .i64 v69), (.int .i64 v70), (.int .i64 v71)]))]⟩
noncomputable def l1 ( k : Nat) (v : T1) : Option R := held (run (cs k) (loopN cs k) c1000008 (J1000008 k) (s1 v))
noncomputable def D1 (v : T1) : Option R := lim fun L => l1 (L 0) v
theorem D1_cn (v : T1) : Cn late (D1 v) fun L => l1 (L 0) v := of_lim
abbrev T2 : Type := Int × Int × Int × Bool × Int × Int × Int × Bool × Int × Int × Int × Bool × Bool × Int × Int × Int × Bool × Int × Int × Int × Int × Bool × Bool × Bool × Bool × Bool × Int × Int × Int × Int × Int × Int × Int × Int × Bool × Int × Int × Int × Bool × Int × Int × Int × Bool × Bool × Int × Int × Int × Bool × Int × Int × Int × Int × Bool × Bool × Bool × Bool × Bool × Int × Int × Int × Int × Int
def s2 : T2 → St := fun (v0, v1, v2, v3, v4, v5, v6, v7, v8, v9, v10, v11, v12, v13, v14, v15, v16, v17, v18, v19, v20, v21, v22, v23, v24, v25, v26, v27, v28, v29, v30, v31, v32, v33, v34, v35, v36, v37, v38, v39, v40, v41, v42, v43, v44, v45, v46, v47, v48, v49, v50, v51, v52, v53, v54, v55, v56, v57, v58, v59, v60, v61) => ⟨63, 0, [(4, (.c (.ptr 64000000 0))), (6, (.c (.ptr 64000001 0)))], [], [(256000000, .gone), (64000000, (.box [(.int .i64 v0), (.int .i64 v1), (.int .i64 v2), (.bool v3), (.int .i64 v4), (.int .i64 v5), (.int .i64 v6), (.bool v7), (.int .i64 v8), (.int .i64 v9), (.int .i64 v10), (.bool v11), (.bool v12), (.int .i64 v13), (.int .i64 v14), (.int .i64 v15), (.bool v16), (.int .i64 v17), (.int .i64 v18), (.int .i64 v19), (.int .i64 v20), (.bool v21), (.bool v22), (.bool v23), (.bool v24), (.bool v25), (.int .i64 v26), (.int .i64 v27), (.int .i64 v28), (.int .i64 v29), (.int .i64 v30)])), (64000001, (.box [(.int .i64 v31), (.int .i64 v32), (.int .i64 v33), (.bool v34), (.int .i64 v35), (.int .i64 v36), (.int .i64 v37), (.bool v38), (.int .i64 v39), (.int .i64 v40), (.int .i64 v41), (.bool v42), (.bool v43), (.int .i64 v44), (.int .i64 v45), (.int .i64 v46), (.bool v47), (.int .i64 v48), (.int .i64 v49), (.int .i64 v50), (.int .i64 v51), (.bool v52), (.bool v53), (.bool v54), (.bool v55), (.bool v56), (.int .i64 v57), (.int .i64 v58), (.int .i64 v59), (.int .i64 v60), (.int .i64 v61)]))]⟩
noncomputable def l2 ( k : Nat) (v : T2) : Option R := held (run (cs k) (loopN cs k) c1000011 (J1000011 k) (s2 v))
noncomputable def D2 (v : T2) : Option R := lim fun L => l2 (L 0) v
theorem D2_cn (v : T2) : Cn late (D2 v) fun L => l2 (L 0) v := of_lim
def d0 (guard_lock_k : guard_lock.A → Option guard_lock.R) (L1k : T1 → Option R) : T0 → Option R := fun (v0, v1, v2, v3, v4, v5, v6, v7, v8, v9, v10, v11, v12, v13, v14, v15, v16, v17, v18, v19, v20, v21, v22, v23, v24, v25, v26, v27, v28, v29, v30, v31, v32, v33, v34, v35, v36, v37, v38, v39, v40, v41, v42, v43, v44, v45, v46, v47, v48, v49, v50, v51, v52, v53, v54, v55, v56, v57, v58, v59, v60, v61, v62, v63, v64, v65, v66, v67, v68, v69, v70, v71, v72, v73, v74, v75, v76) =>
br v45
  (bnd (guard_lock_k (v0, v1, v2, v3, v4, v5, v6, v7, v8, v9, v10, v11, v12, v13, v14, v15, v16, v17, v18, v19, v20, v21, v22, v23, v24, v25, v26, v27, v28, v29, v30, v31, v32, v33, v34, v35, v36, v37, v38, v39, v40))
    fun r =>
    L1k
      (v0, v1, v2, v3, v4, v5, v6, v7, v8, v9, r.fst, r.snd.fst, r.snd.snd.fst, r.snd.snd.snd.fst, r.snd.snd.snd.snd.fst, r.snd.snd.snd.snd.snd.fst, r.snd.snd.snd.snd.snd.snd.fst, r.snd.snd.snd.snd.snd.snd.snd.fst,
        r.snd.snd.snd.snd.snd.snd.snd.snd.fst, r.snd.snd.snd.snd.snd.snd.snd.snd.snd.fst, r.snd.snd.snd.snd.snd.snd.snd.snd.snd.snd.fst, r.snd.snd.snd.snd.snd.snd.snd.snd.snd.snd.snd.fst,
        r.snd.snd.snd.snd.snd.snd.snd.snd.snd.snd.snd.snd.fst, r.snd.snd.snd.snd.snd.snd.snd.snd.snd.snd.snd.snd.snd.fst, r.snd.snd.snd.snd.snd.snd.snd.snd.snd.snd.snd.snd.snd.snd.fst,
        r.snd.snd.snd.snd.snd.snd.snd.snd.snd.snd.snd.snd.snd.snd.snd.fst, r.snd.snd.snd.snd.snd.snd.snd.snd.snd.snd.snd.snd.snd.snd.snd.snd.fst, r.snd.snd.snd.snd.snd.snd.snd.snd.snd.snd.snd.snd.snd.snd.snd.snd.snd.fst,
        r.snd.snd.snd.snd.snd.snd.snd.snd.snd.snd.snd.snd.snd.snd.snd.snd.snd.snd.fst, r.snd.snd.snd.snd.snd.snd.snd.snd.snd.snd.snd.snd.snd.snd.snd.snd.snd.snd.snd.fst,
        r.snd.snd.snd.snd.snd.snd.snd.snd.snd.snd.snd.snd.snd.snd.snd.snd.snd.snd.snd.snd.fst, r.snd.snd.snd.snd.snd.snd.snd.snd.snd.snd.snd.snd.snd.snd.snd.snd.snd.snd.snd.snd.snd.fst,
        r.snd.snd.snd.snd.snd.snd.snd.snd.snd.snd.snd.snd.snd.snd.snd.snd.snd.snd.snd.snd.snd.snd.fst, r.snd.snd.snd.snd.snd.snd.snd.snd.snd.snd.snd.snd.snd.snd.snd.snd.snd.snd.snd.snd.snd.snd.snd.fst,
        r.snd.snd.snd.snd.snd.snd.snd.snd.snd.snd.snd.snd.snd.snd.snd.snd.snd.snd.snd.snd.snd.snd.snd.snd.fst, r.snd.snd.snd.snd.snd.snd.snd.snd.snd.snd.snd.snd.snd.snd.snd.snd.snd.snd.snd.snd.snd.snd.snd.snd.snd.fst,
        r.snd.snd.snd.snd.snd.snd.snd.snd.snd.snd.snd.snd.snd.snd.snd.snd.snd.snd.snd.snd.snd.snd.snd.snd.snd.snd.fst,
        r.snd.snd.snd.snd.snd.snd.snd.snd.snd.snd.snd.snd.snd.snd.snd.snd.snd.snd.snd.snd.snd.snd.snd.snd.snd.snd.snd.fst,
        r.snd.snd.snd.snd.snd.snd.snd.snd.snd.snd.snd.snd.snd.snd.snd.snd.snd.snd.snd.snd.snd.snd.snd.snd.snd.snd.snd.snd.fst,
        r.snd.snd.snd.snd.snd.snd.snd.snd.snd.snd.snd.snd.snd.snd.snd.snd.snd.snd.snd.snd.snd.snd.snd.snd.snd.snd.snd.snd.snd.fst,
        r.snd.snd.snd.snd.snd.snd.snd.snd.snd.snd.snd.snd.snd.snd.snd.snd.snd.snd.snd.snd.snd.snd.snd.snd.snd.snd.snd.snd.snd.snd, v46, v47, v48, v49, v50, v51, v52, v53, v54, v55, v56, v57, v58, v59, v60, v61, v62, v63,
        v64, v65, v66, v67, v68, v69, v70, v71, v72, v73, v74, v75, v76))
  (L1k
    (v0, v1, v2, v3, v4, v5, v6, v7, v8, v9, v10, v11, v12, v13, v14, v15, v16, v17, v18, v19, v20, v21, v22, v23, v24, v25, v26, v27, v28, v29, v30, v31, v32, v33, v34, v35, v36, v37, v38, v39, v40, v46, v47, v48, v49,
      v50, v51, v52, v53, v54, v55, v56, v57, v58, v59, v60, v61, v62, v63, v64, v65, v66, v67, v68, v69, v70, v71, v72, v73, v74, v75, v76))
theorem d0_cn {ι : Type} {E : Fil ι} {guard_lock_k : guard_lock.A → Option guard_lock.R} {guard_lock_k' : ι → guard_lock.A → Option guard_lock.R} (hguard_lock_k : ∀ v, Cn E (guard_lock_k v) fun i => guard_lock_k' i v) {L1k : T1 → Option R} {L1k' : ι → T1 → Option R} (hL1k : ∀ v, Cn E (L1k v) fun i => L1k' i v) : ∀ v : T0, Cn E (d0 guard_lock_k L1k v) fun i => d0 (guard_lock_k' i) (L1k' i) v := fun (v0, v1, v2, v3, v4, v5, v6, v7, v8, v9, v10, v11, v12, v13, v14, v15, v16, v17, v18, v19, v20, v21, v22, v23, v24, v25, v26, v27, v28, v29, v30, v31, v32, v33, v34, v35, v36, v37, v38, v39, v40, v41, v42, v43, v44, v45, v46, v47, v48, v49, v50, v51, v52, v53, v54, v55, v56, v57, v58, v59, v60, v61, v62, v63, v64, v65, v66, v67, v68, v69, v70, v71, v72, v73, v74, v75, v76) => (.br (.bnd (hguard_lock_k _) fun _ => (hL1k _)) (hL1k _))
theorem l0_b ( k : Nat) : ∀ v : T0, run (cs k) (loopN cs k) c1000006 (J1000006 k) (s0 v) = d0 (guard_lock.f k) (l1 k) v := fun (v0, v1, v2, v3, v4, v5, v6, v7, v8, v9, v10, v11, v12, v13, v14, v15, v16, v17, v18, v19, v20, v21, v22, v23, v24, v25, v26, v27, v28, v29, v30, v31, v32, v33, v34, v35, v36, v37, v38, v39, v40, v41, v42, v43, v44, v45, v46, v47, v48, v49, v50, v51, v52, v53, v54, v55, v56, v57, v58, v59, v60, v61, v62, v63, v64, v65, v66, v67, v68, v69, v70, v71, v72, v73, v74, v75, v76) => by kernel_rfl
theorem D0_of (v : T0) {r : R} (h : d0 guard_lock.F D1 v = some r) : D0 v = some r :=
  join_of (l := fun L => l0 (L 0) v) (d := fun L => d0 (guard_lock.f (L 0)) (l1 (L 0)) v) (fun L => (held_eq _).trans (l0_b (L 0) v)) (d0_cn (guard_lock.F_cn 0) (fun v => (D1_cn v).re [0]) v) h
def d1 (mount_Step_k : mount_Step.A → Option mount_Step.R) (dome_Step_k : dome_Step.A → Option dome_Step.R) (camera_Step_k : camera_Step.A → Option camera_Step.R) (guard_AtRest_k : guard_AtRest.A → Option guard_AtRest.R) (L2k : T2 → Option R) : T1 → Option R := fun (v0, v1, v2, v3, v4, v5, v6, v7, v8, v9, v10, v11, v12, v13, v14, v15, v16, v17, v18, v19, v20, v21, v22, v23, v24, v25, v26, v27, v28, v29, v30, v31, v32, v33, v34, v35, v36, v37, v38, v39, v40, v41, v42, v43, v44, v45, v46, v47, v48, v49, v50, v51, v52, v53, v54, v55, v56, v57, v58, v59, v60, v61, v62, v63, v64, v65, v66, v67, v68, v69, v70, v71) =>
bnd (mount_Step_k (v0, v1, v2, v3, v4, v5, v6, v7, v8, v9, v10, v11, v12, v13, v14, v15, v16, v17, v18)) fun r =>
  bnd (dome_Step_k (v19, v20, v21, v22, v23, v24, v25, v26)) fun r_1 =>
    bnd (camera_Step_k (v27, v28, v29, v30)) fun r_2 =>
      br (decide (v38 = 1) == true)
        (bnd
          (guard_AtRest_k
            (r.fst, r.snd.fst, r.snd.snd.fst, r.snd.snd.snd.fst, r.snd.snd.snd.snd.fst, r.snd.snd.snd.snd.snd.fst, r.snd.snd.snd.snd.snd.snd.fst, r.snd.snd.snd.snd.snd.snd.snd.fst, r.snd.snd.snd.snd.snd.snd.snd.snd,
              r_1.fst, r_1.snd.fst, r_1.snd.snd.fst, r_1.snd.snd.snd.fst, r_1.snd.snd.snd.snd.fst, r_1.snd.snd.snd.snd.snd.fst, r_1.snd.snd.snd.snd.snd.snd.fst, r_1.snd.snd.snd.snd.snd.snd.snd, r_2.fst, r_2.snd.fst,
              r_2.snd.snd.fst, r_2.snd.snd.snd, v31, v32, v33, v34, v35, v36, v37, v38, v39, v40))
          fun r_3 =>
          br r_3
            (L2k
              (r.fst, r.snd.fst, r.snd.snd.fst, r.snd.snd.snd.fst, r.snd.snd.snd.snd.fst, r.snd.snd.snd.snd.snd.fst, r.snd.snd.snd.snd.snd.snd.fst, r.snd.snd.snd.snd.snd.snd.snd.fst, r.snd.snd.snd.snd.snd.snd.snd.snd,
                r_1.fst, r_1.snd.fst, r_1.snd.snd.fst, r_1.snd.snd.snd.fst, r_1.snd.snd.snd.snd.fst, r_1.snd.snd.snd.snd.snd.fst, r_1.snd.snd.snd.snd.snd.snd.fst, r_1.snd.snd.snd.snd.snd.snd.snd, r_2.fst, r_2.snd.fst,
                r_2.snd.snd.fst, r_2.snd.snd.snd, v31, v32, v33, v34, v35, v36, v37, 2, v39, v40, v41, v42, v43, v44, v45, v46, v47, v48, v49, v50, v51, v52, v53, v54, v55, v56, v57, v58, v59, v60, v61, v62, v63, v64,
                v65, v66, v67, v68, v69, v70, v71))
            (L2k
              (r.fst, r.snd.fst, r.snd.snd.fst, r.snd.snd.snd.fst, r.snd.snd.snd.snd.fst, r.snd.snd.snd.snd.snd.fst, r.snd.snd.snd.snd.snd.snd.fst, r.snd.snd.snd.snd.snd.snd.snd.fst, r.snd.snd.snd.snd.snd.snd.snd.snd,
                r_1.fst, r_1.snd.fst, r_1.snd.snd.fst, r_1.snd.snd.snd.fst, r_1.snd.snd.snd.snd.fst, r_1.snd.snd.snd.snd.snd.fst, r_1.snd.snd.snd.snd.snd.snd.fst, r_1.snd.snd.snd.snd.snd.snd.snd, r_2.fst, r_2.snd.fst,
                r_2.snd.snd.fst, r_2.snd.snd.snd, v31, v32, v33, v34, v35, v36, v37, v38, v39, v40, v41, v42, v43, v44, v45, v46, v47, v48, v49, v50, v51, v52, v53, v54, v55, v56, v57, v58, v59, v60, v61, v62, v63, v64,
                v65, v66, v67, v68, v69, v70, v71)))
        (L2k
          (r.fst, r.snd.fst, r.snd.snd.fst, r.snd.snd.snd.fst, r.snd.snd.snd.snd.fst, r.snd.snd.snd.snd.snd.fst, r.snd.snd.snd.snd.snd.snd.fst, r.snd.snd.snd.snd.snd.snd.snd.fst, r.snd.snd.snd.snd.snd.snd.snd.snd,
            r_1.fst, r_1.snd.fst, r_1.snd.snd.fst, r_1.snd.snd.snd.fst, r_1.snd.snd.snd.snd.fst, r_1.snd.snd.snd.snd.snd.fst, r_1.snd.snd.snd.snd.snd.snd.fst, r_1.snd.snd.snd.snd.snd.snd.snd, r_2.fst, r_2.snd.fst,
            r_2.snd.snd.fst, r_2.snd.snd.snd, v31, v32, v33, v34, v35, v36, v37, v38, v39, v40, v41, v42, v43, v44, v45, v46, v47, v48, v49, v50, v51, v52, v53, v54, v55, v56, v57, v58, v59, v60, v61, v62, v63, v64, v65,
            v66, v67, v68, v69, v70, v71))
theorem d1_cn {ι : Type} {E : Fil ι} {mount_Step_k : mount_Step.A → Option mount_Step.R} {mount_Step_k' : ι → mount_Step.A → Option mount_Step.R} (hmount_Step_k : ∀ v, Cn E (mount_Step_k v) fun i => mount_Step_k' i v) {dome_Step_k : dome_Step.A → Option dome_Step.R} {dome_Step_k' : ι → dome_Step.A → Option dome_Step.R} (hdome_Step_k : ∀ v, Cn E (dome_Step_k v) fun i => dome_Step_k' i v) {camera_Step_k : camera_Step.A → Option camera_Step.R} {camera_Step_k' : ι → camera_Step.A → Option camera_Step.R} (hcamera_Step_k : ∀ v, Cn E (camera_Step_k v) fun i => camera_Step_k' i v) {guard_AtRest_k : guard_AtRest.A → Option guard_AtRest.R} {guard_AtRest_k' : ι → guard_AtRest.A → Option guard_AtRest.R} (hguard_AtRest_k : ∀ v, Cn E (guard_AtRest_k v) fun i => guard_AtRest_k' i v) {L2k : T2 → Option R} {L2k' : ι → T2 → Option R} (hL2k : ∀ v, Cn E (L2k v) fun i => L2k' i v) : ∀ v : T1, Cn E (d1 mount_Step_k dome_Step_k camera_Step_k guard_AtRest_k L2k v) fun i => d1 (mount_Step_k' i) (dome_Step_k' i) (camera_Step_k' i) (guard_AtRest_k' i) (L2k' i) v := fun (v0, v1, v2, v3, v4, v5, v6, v7, v8, v9, v10, v11, v12, v13, v14, v15, v16, v17, v18, v19, v20, v21, v22, v23, v24, v25, v26, v27, v28, v29, v30, v31, v32, v33, v34, v35, v36, v37, v38, v39, v40, v41, v42, v43, v44, v45, v46, v47, v48, v49, v50, v51, v52, v53, v54, v55, v56, v57, v58, v59, v60, v61, v62, v63, v64, v65, v66, v67, v68, v69, v70, v71) => (.bnd (hmount_Step_k _) fun _ => (.bnd (hdome_Step_k _) fun _ => (.bnd (hcamera_Step_k _) fun _ => (.br (.bnd (hguard_AtRest_k _) fun _ => (.br (hL2k _) (hL2k _))) (hL2k _)))))
theorem l1_b ( k : Nat) : ∀ v : T1, run (cs k) (loopN cs k) c1000008 (J1000008 k) (s1 v) = d1 (mount_Step.f k) (dome_Step.f k) (camera_Step.f k) (guard_AtRest.f k) (l2 k) v := fun (v0, v1, v2, v3, v4, v5, v6, v7, v8, v9, v10, v11, v12, v13, v14, v15, v16, v17, v18, v19, v20, v21, v22, v23, v24, v25, v26, v27, v28, v29, v30, v31, v32, v33, v34, v35, v36, v37, v38, v39, v40, v41, v42, v43, v44, v45, v46, v47, v48, v49, v50, v51, v52, v53, v54, v55, v56, v57, v58, v59, v60, v61, v62, v63, v64, v65, v66, v67, v68, v69, v70, v71) => by kernel_rfl
theorem D1_of (v : T1) {r : R} (h : d1 mount_Step.F dome_Step.F camera_Step.F guard_AtRest.F D2 v = some r) : D1 v = some r :=
  join_of (l := fun L => l1 (L 0) v) (d := fun L => d1 (mount_Step.f (L 0)) (dome_Step.f (L 0)) (camera_Step.f (L 0)) (guard_AtRest.f (L 0)) (l2 (L 0)) v) (fun L => (held_eq _).trans (l1_b (L 0) v)) (d1_cn (mount_Step.F_cn 0) (dome_Step.F_cn 0) (camera_Step.F_cn 0) (guard_AtRest.F_cn 0) (fun v => (D2_cn v).re [0]) v) h
def d2 : T2 → Option R := fun (v0, v1, v2, v3, v4, v5, v6, v7, v8, v9, v10, v11, v12, v13, v14, v15, v16, v17, v18, v19, v20, v21, v22, v23, v24, v25, v26, v27, v28, v29, v30, v31, v32, v33, v34, v35, v36, v37, v38, v39, v40, v41, v42, v43, v44, v45, v46, v47, v48, v49, v50, v51, v52, v53, v54, v55, v56, v57, v58, v59, v60, v61) =>
some (v0, v1, v2, v3, v4, v5, v6, v7, v8, v9, v10, v11, v12, v13, v14, v15, v16, v17, v18, v19, v20, v21, v22, v23, v24, v25, v26, v27, v28, v29, v30)
theorem d2_cn {ι : Type} {E : Fil ι} : ∀ v : T2, Cn E (d2 v) fun i => d2 v := fun (v0, v1, v2, v3, v4, v5, v6, v7, v8, v9, v10, v11, v12, v13, v14, v15, v16, v17, v18, v19, v20, v21, v22, v23, v24, v25, v26, v27, v28, v29, v30, v31, v32, v33, v34, v35, v36, v37, v38, v39, v40, v41, v42, v43, v44, v45, v46, v47, v48, v49, v50, v51, v52, v53, v54, v55, v56, v57, v58, v59, v60, v61) => .some
theorem l2_b ( k : Nat) : ∀ v : T2, run (cs k) (loopN cs k) c1000011 (J1000011 k) (s2 v) = d2 v := fun (v0, v1, v2, v3, v4, v5, v6, v7, v8, v9, v10, v11, v12, v13, v14, v15, v16, v17, v18, v19, v20, v21, v22, v23, v24, v25, v26, v27, v28, v29, v30, v31, v32, v33, v34, v35, v36, v37, v38, v39, v40, v41, v42, v43, v44, v45, v46, v47, v48, v49, v50, v51, v52, v53, v54, v55, v56, v57, v58, v59, v60, v61) => by kernel_rfl
theorem D2_of (v : T2) {r : R} (h : d2 v = some r) : D2 v = some r :=
  join_of (l := fun L => l2 (L 0) v) (d := fun L => d2 v) (fun L => (held_eq _).trans (l2_b (L 0) v)) (d2_cn v) h
noncomputable def f (k : Nat) : A → Option R := fun (v0, v1, v2, v3, v4, v5, v6, v7, v8, v9, v10, v11, v12, v13, v14, v15, v16, v17, v18, v19, v20, v21, v22, v23, v24, v25, v26, v27, v28, v29, v30, v31, v32, v33, v34, v35, v36, v37, v38, v39, v40, v41, v42, v43, v44, v45) => held (runFn cs k Try.f25 [(.agg [(.int .i64 v0), (.int .i64 v1), (.int .i64 v2), (.int .i64 v3), (.int .i64 v4), (.int .i64 v5), (.int .i64 v6), (.int .i64 v7), (.int .i64 v8), (.int .i64 v9)]), (.agg [(.int .i64 v10), (.int .i64 v11), (.int .i64 v12), (.bool v13), (.int .i64 v14), (.int .i64 v15), (.int .i64 v16), (.bool v17), (.int .i64 v18), (.int .i64 v19), (.int .i64 v20), (.bool v21), (.bool v22), (.int .i64 v23), (.int .i64 v24), (.int .i64 v25), (.bool v26), (.int .i64 v27), (.int .i64 v28), (.int .i64 v29), (.int .i64 v30), (.bool v31), (.bool v32), (.bool v33), (.bool v34), (.bool v35), (.int .i64 v36), (.int .i64 v37), (.int .i64 v38), (.int .i64 v39), (.int .i64 v40)]), (.agg [(.bool v41), (.bool v42), (.bool v43), (.bool v44), (.bool v45)])] [] dec)
noncomputable def F (v : A) : Option R := lim fun L => f (L 0) v
theorem F_cn (x : Nat) (v : A) : Cn late (F v) fun L => f (L x) v := of_lim.re [x]
def d (guard_Check_k : guard_Check.A → Option guard_Check.R) (guard_Sensors_Hazard_k : guard_Sensors_Hazard.A → Option guard_Sensors_Hazard.R) (guard_count_k : guard_count.A → Option guard_count.R) (guard_begin_k : guard_begin.A → Option guard_begin.R) (L0k : T0 → Option R) : A → Option R := fun (v0, v1, v2, v3, v4, v5, v6, v7, v8, v9, v10, v11, v12, v13, v14, v15, v16, v17, v18, v19, v20, v21, v22, v23, v24, v25, v26, v27, v28, v29, v30, v31, v32, v33, v34, v35, v36, v37, v38, v39, v40, v41, v42, v43, v44, v45) =>
bnd (guard_Check_k (v0, v1, v2, v3, v4, v5, v6, v7, v8, v9, v10, v11, v12, v13, v14, v15, v16, v17, v18, v19, v20, v21, v22, v23, v24, v25, v26, v27, v28, v29, v30, v31, v32, v33, v34, v35, v36, v37, v38, v39, v40))
  fun r =>
  br (!decide (r = 0)) (some (v10, v11, v12, v13, v14, v15, v16, v17, v18, v19, v20, v21, v22, v23, v24, v25, v26, v27, v28, v29, v30, v31, v32, v33, v34, v35, v36, v37, v38, v39, v40))
    (bnd (guard_Sensors_Hazard_k (v41, v42, v43, v44, v45)) fun r =>
      bnd (guard_count_k (v39, r)) fun r =>
        bnd (guard_count_k (v40, v45)) fun r_1 =>
          br (decide (v38 = 0) == true)
            (bnd (guard_Sensors_Hazard_k (v41, v42, v43, v44, v45)) fun r_2 =>
              br r_2
                (bnd
                  (guard_begin_k
                    (v0, v1, v2, v3, v4, v5, v6, v7, v8, v9, v10, v11, v12, v13, v14, v15, v16, v17, v18, v19, v20, v21, v22, v23, v24, v25, v26, v27, v28, v29, v30, v41, v42, v43, v44, v45, v36, v37, v38, r, r_1))
                  fun r =>
                  L0k
                    (v0, v1, v2, v3, v4, v5, v6, v7, v8, v9, r.fst, r.snd.fst, r.snd.snd.fst, r.snd.snd.snd.fst, r.snd.snd.snd.snd.fst, r.snd.snd.snd.snd.snd.fst, r.snd.snd.snd.snd.snd.snd.fst,
                      r.snd.snd.snd.snd.snd.snd.snd.fst, r.snd.snd.snd.snd.snd.snd.snd.snd.fst, r.snd.snd.snd.snd.snd.snd.snd.snd.snd.fst, r.snd.snd.snd.snd.snd.snd.snd.snd.snd.snd.fst,
                      r.snd.snd.snd.snd.snd.snd.snd.snd.snd.snd.snd.fst, r.snd.snd.snd.snd.snd.snd.snd.snd.snd.snd.snd.snd.fst, r.snd.snd.snd.snd.snd.snd.snd.snd.snd.snd.snd.snd.snd.fst,
                      r.snd.snd.snd.snd.snd.snd.snd.snd.snd.snd.snd.snd.snd.snd.fst, r.snd.snd.snd.snd.snd.snd.snd.snd.snd.snd.snd.snd.snd.snd.snd.fst,
                      r.snd.snd.snd.snd.snd.snd.snd.snd.snd.snd.snd.snd.snd.snd.snd.snd.fst, r.snd.snd.snd.snd.snd.snd.snd.snd.snd.snd.snd.snd.snd.snd.snd.snd.snd.fst,
                      r.snd.snd.snd.snd.snd.snd.snd.snd.snd.snd.snd.snd.snd.snd.snd.snd.snd.snd.fst, r.snd.snd.snd.snd.snd.snd.snd.snd.snd.snd.snd.snd.snd.snd.snd.snd.snd.snd.snd.fst,
                      r.snd.snd.snd.snd.snd.snd.snd.snd.snd.snd.snd.snd.snd.snd.snd.snd.snd.snd.snd.snd.fst, r.snd.snd.snd.snd.snd.snd.snd.snd.snd.snd.snd.snd.snd.snd.snd.snd.snd.snd.snd.snd.snd.fst,
                      r.snd.snd.snd.snd.snd.snd.snd.snd.snd.snd.snd.snd.snd.snd.snd.snd.snd.snd.snd.snd.snd.snd.fst, r.snd.snd.snd.snd.snd.snd.snd.snd.snd.snd.snd.snd.snd.snd.snd.snd.snd.snd.snd.snd.snd.snd.snd.fst,
                      r.snd.snd.snd.snd.snd.snd.snd.snd.snd.snd.snd.snd.snd.snd.snd.snd.snd.snd.snd.snd.snd.snd.snd.snd.fst,
                      r.snd.snd.snd.snd.snd.snd.snd.snd.snd.snd.snd.snd.snd.snd.snd.snd.snd.snd.snd.snd.snd.snd.snd.snd.snd.fst,
                      r.snd.snd.snd.snd.snd.snd.snd.snd.snd.snd.snd.snd.snd.snd.snd.snd.snd.snd.snd.snd.snd.snd.snd.snd.snd.snd.fst,
                      r.snd.snd.snd.snd.snd.snd.snd.snd.snd.snd.snd.snd.snd.snd.snd.snd.snd.snd.snd.snd.snd.snd.snd.snd.snd.snd.snd.fst,
                      r.snd.snd.snd.snd.snd.snd.snd.snd.snd.snd.snd.snd.snd.snd.snd.snd.snd.snd.snd.snd.snd.snd.snd.snd.snd.snd.snd.snd.fst,
                      r.snd.snd.snd.snd.snd.snd.snd.snd.snd.snd.snd.snd.snd.snd.snd.snd.snd.snd.snd.snd.snd.snd.snd.snd.snd.snd.snd.snd.snd.fst,
                      r.snd.snd.snd.snd.snd.snd.snd.snd.snd.snd.snd.snd.snd.snd.snd.snd.snd.snd.snd.snd.snd.snd.snd.snd.snd.snd.snd.snd.snd.snd, v41, v42, v43, v44, v45, 0, 0, 0, false, 0, 0, 0, false, 0, 0, 0, false,
                      false, 0, 0, 0, false, 0, 0, 0, 0, false, false, false, false, false, 0, 0, 0, 0, 0))
                (L0k
                  (v0, v1, v2, v3, v4, v5, v6, v7, v8, v9, v10, v11, v12, v13, v14, v15, v16, v17, v18, v19, v20, v21, v22, v23, v24, v25, v26, v27, v28, v29, v30, v41, v42, v43, v44, v45, v36, v37, v38, r, r_1, v41,
                    v42, v43, v44, v45, 0, 0, 0, false, 0, 0, 0, false, 0, 0, 0, false, false, 0, 0, 0, false, 0, 0, 0, 0, false, false, false, false, false, 0, 0, 0, 0, 0)))
            (L0k
              (v0, v1, v2, v3, v4, v5, v6, v7, v8, v9, v10, v11, v12, v13, v14, v15, v16, v17, v18, v19, v20, v21, v22, v23, v24, v25, v26, v27, v28, v29, v30, v41, v42, v43, v44, v45, v36, v37, v38, r, r_1, v41, v42,
                v43, v44, v45, 0, 0, 0, false, 0, 0, 0, false, 0, 0, 0, false, false, 0, 0, 0, false, 0, 0, 0, 0, false, false, false, false, false, 0, 0, 0, 0, 0)))
theorem d_cn {ι : Type} {E : Fil ι} {guard_Check_k : guard_Check.A → Option guard_Check.R} {guard_Check_k' : ι → guard_Check.A → Option guard_Check.R} (hguard_Check_k : ∀ v, Cn E (guard_Check_k v) fun i => guard_Check_k' i v) {guard_Sensors_Hazard_k : guard_Sensors_Hazard.A → Option guard_Sensors_Hazard.R} {guard_Sensors_Hazard_k' : ι → guard_Sensors_Hazard.A → Option guard_Sensors_Hazard.R} (hguard_Sensors_Hazard_k : ∀ v, Cn E (guard_Sensors_Hazard_k v) fun i => guard_Sensors_Hazard_k' i v) {guard_count_k : guard_count.A → Option guard_count.R} {guard_count_k' : ι → guard_count.A → Option guard_count.R} (hguard_count_k : ∀ v, Cn E (guard_count_k v) fun i => guard_count_k' i v) {guard_begin_k : guard_begin.A → Option guard_begin.R} {guard_begin_k' : ι → guard_begin.A → Option guard_begin.R} (hguard_begin_k : ∀ v, Cn E (guard_begin_k v) fun i => guard_begin_k' i v) {L0k : T0 → Option R} {L0k' : ι → T0 → Option R} (hL0k : ∀ v, Cn E (L0k v) fun i => L0k' i v) : ∀ v : A, Cn E (d guard_Check_k guard_Sensors_Hazard_k guard_count_k guard_begin_k L0k v) fun i => d (guard_Check_k' i) (guard_Sensors_Hazard_k' i) (guard_count_k' i) (guard_begin_k' i) (L0k' i) v := fun (v0, v1, v2, v3, v4, v5, v6, v7, v8, v9, v10, v11, v12, v13, v14, v15, v16, v17, v18, v19, v20, v21, v22, v23, v24, v25, v26, v27, v28, v29, v30, v31, v32, v33, v34, v35, v36, v37, v38, v39, v40, v41, v42, v43, v44, v45) => (.bnd (hguard_Check_k _) fun _ => (.br .some (.bnd (hguard_Sensors_Hazard_k _) fun _ => (.bnd (hguard_count_k _) fun _ => (.bnd (hguard_count_k _) fun _ => (.br (.bnd (hguard_Sensors_Hazard_k _) fun _ => (.br (.bnd (hguard_begin_k _) fun _ => (hL0k _)) (hL0k _))) (hL0k _)))))))
theorem f_b (k : Nat) : ∀ v : A, f k v = d (guard_Check.f k) (guard_Sensors_Hazard.f k) (guard_count.f k) (guard_begin.f k) (l0 k) v := fun (v0, v1, v2, v3, v4, v5, v6, v7, v8, v9, v10, v11, v12, v13, v14, v15, v16, v17, v18, v19, v20, v21, v22, v23, v24, v25, v26, v27, v28, v29, v30, v31, v32, v33, v34, v35, v36, v37, v38, v39, v40, v41, v42, v43, v44, v45) => (held_eq _).trans (by kernel_rfl)
theorem F_of (v : A) {r : R} (h : d guard_Check.F guard_Sensors_Hazard.F guard_count.F guard_begin.F D0 v = some r) : F v = some r :=
  join_of (l := fun L => f (L 0) v) (d := fun L => d (guard_Check.f (L 0)) (guard_Sensors_Hazard.f (L 0)) (guard_count.f (L 0)) (guard_begin.f (L 0)) (l0 (L 0)) v) (fun L => f_b (L 0) v) (d_cn (guard_Check.F_cn 0) (guard_Sensors_Hazard.F_cn 0) (guard_count.F_cn 0) (guard_begin.F_cn 0) (fun v => (D0_cn v).re [0]) v) h
noncomputable def spec (k : Nat) (args : List AV) (ss : List Slot) : Option Ans :=
  match args, ss with
  | [(.agg [(.int .i64 v0), (.int .i64 v1), (.int .i64 v2), (.int .i64 v3), (.int .i64 v4), (.int .i64 v5), (.int .i64 v6), (.int .i64 v7), (.int .i64 v8), (.int .i64 v9)]), (.agg [(.int .i64 v10), (.int .i64 v11), (.int .i64 v12), (.bool v13), (.int .i64 v14), (.int .i64 v15), (.int .i64 v16), (.bool v17), (.int .i64 v18), (.int .i64 v19), (.int .i64 v20), (.bool v21), (.bool v22), (.int .i64 v23), (.int .i64 v24), (.int .i64 v25), (.bool v26), (.int .i64 v27), (.int .i64 v28), (.int .i64 v29), (.int .i64 v30), (.bool v31), (.bool v32), (.bool v33), (.bool v34), (.bool v35), (.int .i64 v36), (.int .i64 v37), (.int .i64 v38), (.int .i64 v39), (.int .i64 v40)]), (.agg [(.bool v41), (.bool v42), (.bool v43), (.bool v44), (.bool v45)])], [] => some ⟨R, f k (v0, v1, v2, v3, v4, v5, v6, v7, v8, v9, v10, v11, v12, v13, v14, v15, v16, v17, v18, v19, v20, v21, v22, v23, v24, v25, v26, v27, v28, v29, v30, v31, v32, v33, v34, v35, v36, v37, v38, v39, v40, v41, v42, v43, v44, v45), enc⟩
  | _, _ => none
theorem spec_ok (k : Nat) : SpecOk Try.prog 25 (spec k) := by
  intro args ss ans x h hx X σ w vals hp
  unfold spec at h
  split at h
  · cases h
    exact spec_of cs_ok Try.func25 rfl rfl dec_ok (held_eq _).symm hx hp
  · cases h
end guard_Step
noncomputable def t_guard_Step (k : Nat) := tcons 25 (guard_Step.spec k) (t_camera_Step k)
theorem t_guard_Step_ok (n g : Nat) : SpecOk Try.prog g (t_guard_Step n g) := tcons_ok (guard_Step.spec_ok n) (fun g => t_camera_Step_ok n g) g
namespace guard_Run
abbrev R : Type := Int × List (((Int × Int × Int × Bool) × (Int × Int × Int × Bool) × Int) × (Int × Int × Bool × Bool × Int × Int × Int × Bool) × (Int × Int × Int × Int) × (Bool × Bool × Bool × Bool × Bool) × (Int × Int) × Int × Int × Int) × List Int
abbrev A : Type := Int × Int × Int × Int × Int × Int × Int × Int × Int × Int × Int × Int × Int × Bool × Int × Int × Int × Bool × Int × Int × Int × Bool × Bool × Int × Int × Int × Bool × Int × Int × Int × Int × Bool × Bool × Bool × Bool × Bool × Int × Int × Int × Int × Int × List (List (Int × Int) × Bool × Bool × Bool × Bool × Bool)
def lv : List (Nat × List Nat) := [(2000000, [6, 7, 8]), (9, [3, 4, 10, 11, 27, 28, 29]), (12, [3, 4, 10, 11, 13, 27, 28, 29, 34, 35, 36]), (1000017, [3, 4, 10, 11, 13, 17, 27, 28, 29, 34, 35, 36]), (1000018, [3, 4, 10, 11, 13, 27, 28, 29, 34, 35, 36])]
noncomputable def cs : Nat → Ctx := ctxOf tis modes t_guard_Step lv
theorem cs_ok (n : Nat) : CtxOk Try.prog (cs n) := ctxOf_ok rfl tis_ok t_guard_Step_ok n
def enc (r : R) : Out := ((.tup [(.c (.sl 128000000)), (.c (.sl 128000001)), (.c (.int .i64 r.1))]), [(.row (.pair (.pair (.pair (.int .i64) (.pair (.int .i64) (.pair (.int .i64) .bool))) (.pair (.pair (.int .i64) (.pair (.int .i64) (.pair (.int .i64) .bool))) (.int .i64))) (.pair (.pair (.int .i64) (.pair (.int .i64) (.pair .bool (.pair .bool (.pair (.int .i64) (.pair (.int .i64) (.pair (.int .i64) .bool))))))) (.pair (.pair (.int .i64) (.pair (.int .i64) (.pair (.int .i64) (.int .i64)))) (.pair (.pair .bool (.pair .bool (.pair .bool (.pair .bool .bool)))) (.pair (.pair (.int .i64) (.int .i64)) (.pair (.int .i64) (.pair (.int .i64) (.int .i64)))))))) r.2.1), (.row (.int .i64) r.2.2)])
def dec : Out → Option R
  | ((.tup [(.c (.sl 128000000)), (.c (.sl 128000001)), (.c (.int .i64 v0))]), [(.row (.pair (.pair (.pair (.int .i64) (.pair (.int .i64) (.pair (.int .i64) .bool))) (.pair (.pair (.int .i64) (.pair (.int .i64) (.pair (.int .i64) .bool))) (.int .i64))) (.pair (.pair (.int .i64) (.pair (.int .i64) (.pair .bool (.pair .bool (.pair (.int .i64) (.pair (.int .i64) (.pair (.int .i64) .bool))))))) (.pair (.pair (.int .i64) (.pair (.int .i64) (.pair (.int .i64) (.int .i64)))) (.pair (.pair .bool (.pair .bool (.pair .bool (.pair .bool .bool)))) (.pair (.pair (.int .i64) (.int .i64)) (.pair (.int .i64) (.pair (.int .i64) (.int .i64)))))))) v1), (.row (.int .i64) v2)]) => some (v0, v1, v2)
  | _ => none
theorem dec_ok : ∀ u y, dec u = some y → u = enc y := by
  intro u y h
  unfold dec at h
  split at h
  · cases h; rfl
  · cases h
noncomputable def b0 : Code := subF [] Try.f8
noncomputable def K0 (k : Nat) : Kt R := kTop (cs k) Try.f8 dec
noncomputable def b9 : Code := sub [1, 1, 1, 1, 1, 0, 1, 0, 0] b0
noncomputable def K9 ( k : Nat) : Kt R := kAt (cs k) (loopN cs k) [1, 1, 1, 1, 1, 0, 1, 0] b0 (K0 k)
noncomputable def b12 : Code := sub [1, 1, 0, 0, 1, 0, 1, 0, 0] b9
noncomputable def K12 ( k m1 : Nat) : Kt R := kAt (cs m1) (loopN cs m1) [1, 1, 0, 0, 1, 0, 1, 0] b9 (kLoop cs m1 b9 (K9 k))
noncomputable def c1000018 : Code := sub [1, 1, 1] b12
noncomputable def J1000018 ( k m1 m2 : Nat) : Kt R := kAt (cs m2) (loopN cs m2) [1, 1, 1] b12 (kLoop cs m2 b12 (K12 k m1))
noncomputable def c1000017 : Code := sub [1, 1, 0, 0, 1, 1, 1] b12
noncomputable def J1000017 ( k m1 m2 : Nat) : Kt R := kAt (cs m2) (loopN cs m2) [1, 1, 0, 0, 1, 1, 1] b12 (kLoop cs m2 b12 (K12 k m1))
abbrev T0 : Type := List (List (Int × Int) × Bool × Bool × Bool × Bool × Bool) × Int × Int × Int × Int × Int × Int × Int × Int × Int × Int × Int × Int × Int × Int × Int × Bool × Int × Int × Int × Bool × Int × Int × Int × Bool × Bool × Int × Int × Int × Bool × Int × Int × Int × Int × Bool × Bool × Bool × Bool × Bool × Int × Int × Int × Int × Int × List (((Int × Int × Int × Bool) × (Int × Int × Int × Bool) × Int) × (Int × Int × Bool × Bool × Int × Int × Int × Bool) × (Int × Int × Int × Int) × (Bool × Bool × Bool × Bool × Bool) × (Int × Int) × Int × Int × Int) × List Int
def s0 : T0 → St := fun (v0, v1, v2, v3, v4, v5, v6, v7, v8, v9, v10, v11, v12, v13, v14, v15, v16, v17, v18, v19, v20, v21, v22, v23, v24, v25, v26, v27, v28, v29, v30, v31, v32, v33, v34, v35, v36, v37, v38, v39, v40, v41, v42, v43, v44, v45) => ⟨67, 0, [(3, (.c (.ptr 64000000 0))), (4, (.c (.ptr 64000001 0))), (10, (.c (.sl 64000002))), (11, (.c (.sl 64000003))), (27, (.c (.frz (.pair (.slice (.pair (.int .i64) (.int .i64))) (.pair .bool (.pair .bool (.pair .bool (.pair .bool .bool))))) v0))), (28, (.c (.int .i64 v1))), (29, (.c (.int .i64 v2)))], [], [(256000000, .gone), (64000000, (.box [(.int .i64 v3), (.int .i64 v4), (.int .i64 v5), (.int .i64 v6), (.int .i64 v7), (.int .i64 v8), (.int .i64 v9), (.int .i64 v10), (.int .i64 v11), (.int .i64 v12)])), (64000001, (.box [(.int .i64 v13), (.int .i64 v14), (.int .i64 v15), (.bool v16), (.int .i64 v17), (.int .i64 v18), (.int .i64 v19), (.bool v20), (.int .i64 v21), (.int .i64 v22), (.int .i64 v23), (.bool v24), (.bool v25), (.int .i64 v26), (.int .i64 v27), (.int .i64 v28), (.bool v29), (.int .i64 v30), (.int .i64 v31), (.int .i64 v32), (.int .i64 v33), (.bool v34), (.bool v35), (.bool v36), (.bool v37), (.bool v38), (.int .i64 v39), (.int .i64 v40), (.int .i64 v41), (.int .i64 v42), (.int .i64 v43)])), (64000002, (.row (.pair (.pair (.pair (.int .i64) (.pair (.int .i64) (.pair (.int .i64) .bool))) (.pair (.pair (.int .i64) (.pair (.int .i64) (.pair (.int .i64) .bool))) (.int .i64))) (.pair (.pair (.int .i64) (.pair (.int .i64) (.pair .bool (.pair .bool (.pair (.int .i64) (.pair (.int .i64) (.pair (.int .i64) .bool))))))) (.pair (.pair (.int .i64) (.pair (.int .i64) (.pair (.int .i64) (.int .i64)))) (.pair (.pair .bool (.pair .bool (.pair .bool (.pair .bool .bool)))) (.pair (.pair (.int .i64) (.int .i64)) (.pair (.int .i64) (.pair (.int .i64) (.int .i64)))))))) v44)), (64000003, (.row (.int .i64) v45))]⟩
noncomputable def l0 ( k n : Nat) (v : T0) : Option R := held (loopN cs n b9 (K9 k) (s0 v))
noncomputable def D0 (v : T0) : Option R := lim fun L => l0 (L 0) (L 1) v
theorem D0_cn (v : T0) : Cn late (D0 v) fun L => l0 (L 0) (L 1) v := of_lim
abbrev T1 : Type := List (List (Int × Int) × Bool × Bool × Bool × Bool × Bool) × Int × Int × List (Int × Int) × Int × Int × Int × Int × Int × Int × Int × Int × Int × Int × Int × Int × Int × Int × Int × Bool × Int × Int × Int × Bool × Int × Int × Int × Bool × Bool × Int × Int × Int × Bool × Int × Int × Int × Int × Bool × Bool × Bool × Bool × Bool × Int × Int × Int × Int × Int × List (((Int × Int × Int × Bool) × (Int × Int × Int × Bool) × Int) × (Int × Int × Bool × Bool × Int × Int × Int × Bool) × (Int × Int × Int × Int) × (Bool × Bool × Bool × Bool × Bool) × (Int × Int) × Int × Int × Int) × List Int × List (Int × Int) × Bool × Bool × Bool × Bool × Bool
def s1 : T1 → St := fun (v0, v1, v2, v3, v4, v5, v6, v7, v8, v9, v10, v11, v12, v13, v14, v15, v16, v17, v18, v19, v20, v21, v22, v23, v24, v25, v26, v27, v28, v29, v30, v31, v32, v33, v34, v35, v36, v37, v38, v39, v40, v41, v42, v43, v44, v45, v46, v47, v48, v49, v50, v51, v52, v53, v54) => ⟨67, 0, [(3, (.c (.ptr 64000000 0))), (4, (.c (.ptr 64000001 0))), (10, (.c (.sl 64000002))), (11, (.c (.sl 64000003))), (13, (.c (.ptr 64000004 0))), (27, (.c (.frz (.pair (.slice (.pair (.int .i64) (.int .i64))) (.pair .bool (.pair .bool (.pair .bool (.pair .bool .bool))))) v0))), (28, (.c (.int .i64 v1))), (29, (.c (.int .i64 v2))), (34, (.c (.frz (.pair (.int .i64) (.int .i64)) v3))), (35, (.c (.int .i64 v4))), (36, (.c (.int .i64 v5)))], [], [(256000000, .gone), (64000000, (.box [(.int .i64 v6), (.int .i64 v7), (.int .i64 v8), (.int .i64 v9), (.int .i64 v10), (.int .i64 v11), (.int .i64 v12), (.int .i64 v13), (.int .i64 v14), (.int .i64 v15)])), (64000001, (.box [(.int .i64 v16), (.int .i64 v17), (.int .i64 v18), (.bool v19), (.int .i64 v20), (.int .i64 v21), (.int .i64 v22), (.bool v23), (.int .i64 v24), (.int .i64 v25), (.int .i64 v26), (.bool v27), (.bool v28), (.int .i64 v29), (.int .i64 v30), (.int .i64 v31), (.bool v32), (.int .i64 v33), (.int .i64 v34), (.int .i64 v35), (.int .i64 v36), (.bool v37), (.bool v38), (.bool v39), (.bool v40), (.bool v41), (.int .i64 v42), (.int .i64 v43), (.int .i64 v44), (.int .i64 v45), (.int .i64 v46)])), (64000002, (.row (.pair (.pair (.pair (.int .i64) (.pair (.int .i64) (.pair (.int .i64) .bool))) (.pair (.pair (.int .i64) (.pair (.int .i64) (.pair (.int .i64) .bool))) (.int .i64))) (.pair (.pair (.int .i64) (.pair (.int .i64) (.pair .bool (.pair .bool (.pair (.int .i64) (.pair (.int .i64) (.pair (.int .i64) .bool))))))) (.pair (.pair (.int .i64) (.pair (.int .i64) (.pair (.int .i64) (.int .i64)))) (.pair (.pair .bool (.pair .bool (.pair .bool (.pair .bool .bool)))) (.pair (.pair (.int .i64) (.int .i64)) (.pair (.int .i64) (.pair (.int .i64) (.int .i64)))))))) v47)), (64000003, (.row (.int .i64) v48)), (64000004, (.box [(.frz (.pair (.int .i64) (.int .i64)) v49), (.bool v50), (.bool v51), (.bool v52), (.bool v53), (.bool v54)]))]⟩
noncomputable def l1 ( k m1 n : Nat) (v : T1) : Option R := held (loopN cs n b12 (K12 k m1) (s1 v))
noncomputable def D1 (v : T1) : Option R := lim fun L => l1 (L 0) (L 1) (L 2) v
theorem D1_cn (v : T1) : Cn late (D1 v) fun L => l1 (L 0) (L 1) (L 2) v := of_lim
abbrev T2 : Type := Int × List (List (Int × Int) × Bool × Bool × Bool × Bool × Bool) × Int × Int × List (Int × Int) × Int × Int × Int × Int × Int × Int × Int × Int × Int × Int × Int × Int × Int × Int × Int × Bool × Int × Int × Int × Bool × Int × Int × Int × Bool × Bool × Int × Int × Int × Bool × Int × Int × Int × Int × Bool × Bool × Bool × Bool × Bool × Int × Int × Int × Int × Int × List (((Int × Int × Int × Bool) × (Int × Int × Int × Bool) × Int) × (Int × Int × Bool × Bool × Int × Int × Int × Bool) × (Int × Int × Int × Int) × (Bool × Bool × Bool × Bool × Bool) × (Int × Int) × Int × Int × Int) × List Int × List (Int × Int) × Bool × Bool × Bool × Bool × Bool
def s2 : T2 → St := fun (v0, v1, v2, v3, v4, v5, v6, v7, v8, v9, v10, v11, v12, v13, v14, v15, v16, v17, v18, v19, v20, v21, v22, v23, v24, v25, v26, v27, v28, v29, v30, v31, v32, v33, v34, v35, v36, v37, v38, v39, v40, v41, v42, v43, v44, v45, v46, v47, v48, v49, v50, v51, v52, v53, v54, v55) => ⟨67, 0, [(3, (.c (.ptr 64000000 0))), (4, (.c (.ptr 64000001 0))), (10, (.c (.sl 64000002))), (11, (.c (.sl 64000003))), (13, (.c (.ptr 64000004 0))), (17, (.c (.int .i64 v0))), (27, (.c (.frz (.pair (.slice (.pair (.int .i64) (.int .i64))) (.pair .bool (.pair .bool (.pair .bool (.pair .bool .bool))))) v1))), (28, (.c (.int .i64 v2))), (29, (.c (.int .i64 v3))), (34, (.c (.frz (.pair (.int .i64) (.int .i64)) v4))), (35, (.c (.int .i64 v5))), (36, (.c (.int .i64 v6)))], [], [(256000000, .gone), (64000000, (.box [(.int .i64 v7), (.int .i64 v8), (.int .i64 v9), (.int .i64 v10), (.int .i64 v11), (.int .i64 v12), (.int .i64 v13), (.int .i64 v14), (.int .i64 v15), (.int .i64 v16)])), (64000001, (.box [(.int .i64 v17), (.int .i64 v18), (.int .i64 v19), (.bool v20), (.int .i64 v21), (.int .i64 v22), (.int .i64 v23), (.bool v24), (.int .i64 v25), (.int .i64 v26), (.int .i64 v27), (.bool v28), (.bool v29), (.int .i64 v30), (.int .i64 v31), (.int .i64 v32), (.bool v33), (.int .i64 v34), (.int .i64 v35), (.int .i64 v36), (.int .i64 v37), (.bool v38), (.bool v39), (.bool v40), (.bool v41), (.bool v42), (.int .i64 v43), (.int .i64 v44), (.int .i64 v45), (.int .i64 v46), (.int .i64 v47)])), (64000002, (.row (.pair (.pair (.pair (.int .i64) (.pair (.int .i64) (.pair (.int .i64) .bool))) (.pair (.pair (.int .i64) (.pair (.int .i64) (.pair (.int .i64) .bool))) (.int .i64))) (.pair (.pair (.int .i64) (.pair (.int .i64) (.pair .bool (.pair .bool (.pair (.int .i64) (.pair (.int .i64) (.pair (.int .i64) .bool))))))) (.pair (.pair (.int .i64) (.pair (.int .i64) (.pair (.int .i64) (.int .i64)))) (.pair (.pair .bool (.pair .bool (.pair .bool (.pair .bool .bool)))) (.pair (.pair (.int .i64) (.int .i64)) (.pair (.int .i64) (.pair (.int .i64) (.int .i64)))))))) v48)), (64000003, (.row (.int .i64) v49)), (64000004, (.box [(.frz (.pair (.int .i64) (.int .i64)) v50), (.bool v51), (.bool v52), (.bool v53), (.bool v54), (.bool v55)]))]⟩
noncomputable def l2 ( k m1 m2 : Nat) (v : T2) : Option R := held (run (cs m2) (loopN cs m2) c1000017 (J1000017 k m1 m2) (s2 v))
noncomputable def D2 (v : T2) : Option R := lim fun L => l2 (L 0) (L 1) (L 2) v
theorem D2_cn (v : T2) : Cn late (D2 v) fun L => l2 (L 0) (L 1) (L 2) v := of_lim
abbrev T3 : Type := List (List (Int × Int) × Bool × Bool × Bool × Bool × Bool) × Int × Int × List (Int × Int) × Int × Int × Int × Int × Int × Int × Int × Int × Int × Int × Int × Int × Int × Int × Int × Bool × Int × Int × Int × Bool × Int × Int × Int × Bool × Bool × Int × Int × Int × Bool × Int × Int × Int × Int × Bool × Bool × Bool × Bool × Bool × Int × Int × Int × Int × Int × List (((Int × Int × Int × Bool) × (Int × Int × Int × Bool) × Int) × (Int × Int × Bool × Bool × Int × Int × Int × Bool) × (Int × Int × Int × Int) × (Bool × Bool × Bool × Bool × Bool) × (Int × Int) × Int × Int × Int) × List Int × List (Int × Int) × Bool × Bool × Bool × Bool × Bool
def s3 : T3 → St := fun (v0, v1, v2, v3, v4, v5, v6, v7, v8, v9, v10, v11, v12, v13, v14, v15, v16, v17, v18, v19, v20, v21, v22, v23, v24, v25, v26, v27, v28, v29, v30, v31, v32, v33, v34, v35, v36, v37, v38, v39, v40, v41, v42, v43, v44, v45, v46, v47, v48, v49, v50, v51, v52, v53, v54) => ⟨67, 0, [(3, (.c (.ptr 64000000 0))), (4, (.c (.ptr 64000001 0))), (10, (.c (.sl 64000002))), (11, (.c (.sl 64000003))), (13, (.c (.ptr 64000004 0))), (27, (.c (.frz (.pair (.slice (.pair (.int .i64) (.int .i64))) (.pair .bool (.pair .bool (.pair .bool (.pair .bool .bool))))) v0))), (28, (.c (.int .i64 v1))), (29, (.c (.int .i64 v2))), (34, (.c (.frz (.pair (.int .i64) (.int .i64)) v3))), (35, (.c (.int .i64 v4))), (36, (.c (.int .i64 v5)))], [], [(256000000, .gone), (64000000, (.box [(.int .i64 v6), (.int .i64 v7), (.int .i64 v8), (.int .i64 v9), (.int .i64 v10), (.int .i64 v11), (.int .i64 v12), (.int .i64 v13), (.int .i64 v14), (.int .i64 v15)])), (64000001, (.box [(.int .i64 v16), (.int .i64 v17), (.int .i64 v18), (.bool v19), (.int .i64 v20), (.int .i64 v21), (.int .i64 v22), (.bool v23), (.int .i64 v24), (.int .i64 v25), (.int .i64 v26), (.bool v27), (.bool v28), (.int .i64 v29), (.int .i64 v30), (.int .i64 v31), (.bool v32), (.int .i64 v33), (.int .i64 v34), (.int .i64 v35), (.int .i64 v36), (.bool v37), (.bool v38), (.bool v39), (.bool v40), (.bool v41), (.int .i64 v42), (.int .i64 v43), (.int .i64 v44), (.int .i64 v45), (.int .i64 v46)])), (64000002, (.row (.pair (.pair (.pair (.int .i64) (.pair (.int .i64) (.pair (.int .i64) .bool))) (.pair (.pair (.int .i64) (.pair (.int .i64) (.pair (.int .i64) .bool))) (.int .i64))) (.pair (.pair (.int .i64) (.pair (.int .i64) (.pair .bool (.pair .bool (.pair (.int .i64) (.pair (.int .i64) (.pair (.int .i64) .bool))))))) (.pair (.pair (.int .i64) (.pair (.int .i64) (.pair (.int .i64) (.int .i64)))) (.pair (.pair .bool (.pair .bool (.pair .bool (.pair .bool .bool)))) (.pair (.pair (.int .i64) (.int .i64)) (.pair (.int .i64) (.pair (.int .i64) (.int .i64)))))))) v47)), (64000003, (.row (.int .i64) v48)), (64000004, (.box [(.frz (.pair (.int .i64) (.int .i64)) v49), (.bool v50), (.bool v51), (.bool v52), (.bool v53), (.bool v54)]))]⟩
noncomputable def l3 ( k m1 m2 : Nat) (v : T3) : Option R := held (run (cs m2) (loopN cs m2) c1000018 (J1000018 k m1 m2) (s3 v))
noncomputable def D3 (v : T3) : Option R := lim fun L => l3 (L 0) (L 1) (L 2) v
theorem D3_cn (v : T3) : Cn late (D3 v) fun L => l3 (L 0) (L 1) (L 2) v := of_lim
def d0 (L1m1 : T1 → Option R) : T0 → Option R := fun (v0, v1, v2, v3, v4, v5, v6, v7, v8, v9, v10, v11, v12, v13, v14, v15, v16, v17, v18, v19, v20, v21, v22, v23, v24, v25, v26, v27, v28, v29, v30, v31, v32, v33, v34, v35, v36, v37, v38, v39, v40, v41, v42, v43, v44, v45) =>
br (decide (v2 < v1))
  (br (decide (0 ≤ v2 ∧ v2 < (↑v0.length : Int)))
    (L1m1
      (v0, v1, v2, (rd ty0 v0 v2).fst,
        (↑(List.length (rd ty0 v0 v2).fst) : Int), 0, v3, v4, v5, v6, v7, v8, v9, v10, v11,
        v12, v13, v14, v15, v16, v17, v18, v19, v20, v21, v22, v23, v24, v25, v26, v27, v28, v29, v30, v31, v32, v33, v34, v35, v36, v37, v38, v39, v40, v41, v42, v43, v44, v45,
        (rd ty0 v0 v2).fst,
        (rd ty0 v0 v2).snd.fst,
        (rd ty0 v0 v2).snd.snd.fst,
        (rd ty0 v0 v2).snd.snd.snd.fst,
        (rd ty0 v0 v2).snd.snd.snd.snd.fst,
        (rd ty0 v0 v2).snd.snd.snd.snd.snd))
    none)
  (some (0, v44, v45))
theorem d0_cn {ι : Type} {E : Fil ι} {L1m1 : T1 → Option R} {L1m1' : ι → T1 → Option R} (hL1m1 : ∀ v, Cn E (L1m1 v) fun i => L1m1' i v) : ∀ v : T0, Cn E (d0 L1m1 v) fun i => d0 (L1m1' i) v := fun (v0, v1, v2, v3, v4, v5, v6, v7, v8, v9, v10, v11, v12, v13, v14, v15, v16, v17, v18, v19, v20, v21, v22, v23, v24, v25, v26, v27, v28, v29, v30, v31, v32, v33, v34, v35, v36, v37, v38, v39, v40, v41, v42, v43, v44, v45) => (.br (.br (hL1m1 _) .none) .some)
theorem l0_b ( k m1 : Nat) : ∀ v : T0, run (cs m1) (loopN cs m1) b9 (kLoop cs m1 b9 (K9 k)) (s0 v) = d0 (l1 k m1 m1) v := fun (v0, v1, v2, v3, v4, v5, v6, v7, v8, v9, v10, v11, v12, v13, v14, v15, v16, v17, v18, v19, v20, v21, v22, v23, v24, v25, v26, v27, v28, v29, v30, v31, v32, v33, v34, v35, v36, v37, v38, v39, v40, v41, v42, v43, v44, v45) => by kernel_rfl
theorem D0_of (v : T0) {r : R} (h : d0 D1 v = some r) : D0 v = some r :=
  loop_of 1 (l := fun L => l0 (L 0) (L 1) v) (d := fun L => d0 (l1 (L 0) (L 1) (L 1)) v) (fun L n hn => by show l0 (L 0) (L 1) v = _; rw [hn]; exact (held_eq _).trans ((loopN_succ _ _ _ _ _).trans (l0_b (L 0) n v))) (d0_cn (fun v => (D1_cn v).re [0, 1, 1]) v) h
def d1 (guard_Give_m2 : guard_Give.A → Option guard_Give.R) (L2m2 : T2 → Option R) (guard_Step_m1 : guard_Step.A → Option guard_Step.R) (L0m1 : T0 → Option R) : T1 → Option R := fun (v0, v1, v2, v3, v4, v5, v6, v7, v8, v9, v10, v11, v12, v13, v14, v15, v16, v17, v18, v19, v20, v21, v22, v23, v24, v25, v26, v27, v28, v29, v30, v31, v32, v33, v34, v35, v36, v37, v38, v39, v40, v41, v42, v43, v44, v45, v46, v47, v48, v49, v50, v51, v52, v53, v54) =>
br (decide (v5 < v4))
  (br (decide (0 ≤ v5 ∧ v5 < (↑v3.length : Int)))
    (bnd
      (guard_Give_m2
        (v6, v7, v8, v9, v10, v11, v12, v13, v14, v15, v16, v17, v18, v19, v20, v21, v22, v23, v24, v25, v26, v27, v28, v29, v30, v31, v32, v33, v34, v35, v36, v37, v38, v39, v40, v41, v42, v43, v44, v45, v46,
          (rd ((Ty.int IntKind.i64).pair (Ty.int IntKind.i64)) v3 v5).fst, (rd ((Ty.int IntKind.i64).pair (Ty.int IntKind.i64)) v3 v5).snd))
      fun r =>
      br (decide (r.snd.snd.snd.snd.snd.snd.snd.snd.snd.snd.snd.snd.snd.snd.snd.snd.snd.snd.snd.snd.snd.snd.snd.snd.snd.snd.snd.snd.snd.snd.snd = 0))
        (L2m2
          (r.snd.snd.snd.snd.snd.snd.snd.snd.snd.snd.snd.snd.snd.snd.snd.snd.snd.snd.snd.snd.snd.snd.snd.snd.snd.snd.snd.snd.snd.snd.snd, v0, v1, v2, v3, v4, v5, v6, v7, v8, v9, v10, v11, v12, v13, v14, v15, r.fst,
            r.snd.fst, r.snd.snd.fst, r.snd.snd.snd.fst, r.snd.snd.snd.snd.fst, r.snd.snd.snd.snd.snd.fst, r.snd.snd.snd.snd.snd.snd.fst, r.snd.snd.snd.snd.snd.snd.snd.fst, r.snd.snd.snd.snd.snd.snd.snd.snd.fst,
            r.snd.snd.snd.snd.snd.snd.snd.snd.snd.fst, r.snd.snd.snd.snd.snd.snd.snd.snd.snd.snd.fst, r.snd.snd.snd.snd.snd.snd.snd.snd.snd.snd.snd.fst, r.snd.snd.snd.snd.snd.snd.snd.snd.snd.snd.snd.snd.fst,
            r.snd.snd.snd.snd.snd.snd.snd.snd.snd.snd.snd.snd.snd.fst, r.snd.snd.snd.snd.snd.snd.snd.snd.snd.snd.snd.snd.snd.snd.fst, r.snd.snd.snd.snd.snd.snd.snd.snd.snd.snd.snd.snd.snd.snd.snd.fst,
            r.snd.snd.snd.snd.snd.snd.snd.snd.snd.snd.snd.snd.snd.snd.snd.snd.fst, r.snd.snd.snd.snd.snd.snd.snd.snd.snd.snd.snd.snd.snd.snd.snd.snd.snd.fst,
            r.snd.snd.snd.snd.snd.snd.snd.snd.snd.snd.snd.snd.snd.snd.snd.snd.snd.snd.fst, r.snd.snd.snd.snd.snd.snd.snd.snd.snd.snd.snd.snd.snd.snd.snd.snd.snd.snd.snd.fst,
            r.snd.snd.snd.snd.snd.snd.snd.snd.snd.snd.snd.snd.snd.snd.snd.snd.snd.snd.snd.snd.fst, r.snd.snd.snd.snd.snd.snd.snd.snd.snd.snd.snd.snd.snd.snd.snd.snd.snd.snd.snd.snd.snd.fst,
            r.snd.snd.snd.snd.snd.snd.snd.snd.snd.snd.snd.snd.snd.snd.snd.snd.snd.snd.snd.snd.snd.snd.fst, r.snd.snd.snd.snd.snd.snd.snd.snd.snd.snd.snd.snd.snd.snd.snd.snd.snd.snd.snd.snd.snd.snd.snd.fst,
            r.snd.snd.snd.snd.snd.snd.snd.snd.snd.snd.snd.snd.snd.snd.snd.snd.snd.snd.snd.snd.snd.snd.snd.snd.fst,
            r.snd.snd.snd.snd.snd.snd.snd.snd.snd.snd.snd.snd.snd.snd.snd.snd.snd.snd.snd.snd.snd.snd.snd.snd.snd.fst,
            r.snd.snd.snd.snd.snd.snd.snd.snd.snd.snd.snd.snd.snd.snd.snd.snd.snd.snd.snd.snd.snd.snd.snd.snd.snd.snd.fst,
            r.snd.snd.snd.snd.snd.snd.snd.snd.snd.snd.snd.snd.snd.snd.snd.snd.snd.snd.snd.snd.snd.snd.snd.snd.snd.snd.snd.fst,
            r.snd.snd.snd.snd.snd.snd.snd.snd.snd.snd.snd.snd.snd.snd.snd.snd.snd.snd.snd.snd.snd.snd.snd.snd.snd.snd.snd.snd.fst,
            r.snd.snd.snd.snd.snd.snd.snd.snd.snd.snd.snd.snd.snd.snd.snd.snd.snd.snd.snd.snd.snd.snd.snd.snd.snd.snd.snd.snd.snd.fst,
            r.snd.snd.snd.snd.snd.snd.snd.snd.snd.snd.snd.snd.snd.snd.snd.snd.snd.snd.snd.snd.snd.snd.snd.snd.snd.snd.snd.snd.snd.snd.fst, v47, v48, v49, v50, v51, v52, v53, v54))
        (L2m2
          (r.snd.snd.snd.snd.snd.snd.snd.snd.snd.snd.snd.snd.snd.snd.snd.snd.snd.snd.snd.snd.snd.snd.snd.snd.snd.snd.snd.snd.snd.snd.snd, v0, v1, v2, v3, v4, v5, v6, v7, v8, v9, v10, v11, v12, v13, v14, v15, v16, v17,
            v18, v19, v20, v21, v22, v23, v24, v25, v26, v27, v28, v29, v30, v31, v32, v33, v34, v35, v36, v37, v38, v39, v40, v41, v42, v43, v44, v45, v46, v47, v48, v49, v50, v51, v52, v53, v54)))
    none)
  (bnd
    (guard_Step_m1
      (v6, v7, v8, v9, v10, v11, v12, v13, v14, v15, v16, v17, v18, v19, v20, v21, v22, v23, v24, v25, v26, v27, v28, v29, v30, v31, v32, v33, v34, v35, v36, v37, v38, v39, v40, v41, v42, v43, v44, v45, v46, v50, v51,
        v52, v53, v54))
    fun r =>
    br
      (decide
        (v47.length +
            [(((r.fst, r.snd.fst, r.snd.snd.fst, r.snd.snd.snd.fst), (r.snd.snd.snd.snd.fst, r.snd.snd.snd.snd.snd.fst, r.snd.snd.snd.snd.snd.snd.fst, r.snd.snd.snd.snd.snd.snd.snd.fst),
                    r.snd.snd.snd.snd.snd.snd.snd.snd.fst),
                  (r.snd.snd.snd.snd.snd.snd.snd.snd.snd.fst, r.snd.snd.snd.snd.snd.snd.snd.snd.snd.snd.fst, r.snd.snd.snd.snd.snd.snd.snd.snd.snd.snd.snd.fst, r.snd.snd.snd.snd.snd.snd.snd.snd.snd.snd.snd.snd.fst,
                    r.snd.snd.snd.snd.snd.snd.snd.snd.snd.snd.snd.snd.snd.fst, r.snd.snd.snd.snd.snd.snd.snd.snd.snd.snd.snd.snd.snd.snd.fst, r.snd.snd.snd.snd.snd.snd.snd.snd.snd.snd.snd.snd.snd.snd.snd.fst,
                    r.snd.snd.snd.snd.snd.snd.snd.snd.snd.snd.snd.snd.snd.snd.snd.snd.fst),
                  (r.snd.snd.snd.snd.snd.snd.snd.snd.snd.snd.snd.snd.snd.snd.snd.snd.snd.fst, r.snd.snd.snd.snd.snd.snd.snd.snd.snd.snd.snd.snd.snd.snd.snd.snd.snd.snd.fst,
                    r.snd.snd.snd.snd.snd.snd.snd.snd.snd.snd.snd.snd.snd.snd.snd.snd.snd.snd.snd.fst, r.snd.snd.snd.snd.snd.snd.snd.snd.snd.snd.snd.snd.snd.snd.snd.snd.snd.snd.snd.snd.fst),
                  (r.snd.snd.snd.snd.snd.snd.snd.snd.snd.snd.snd.snd.snd.snd.snd.snd.snd.snd.snd.snd.snd.fst, r.snd.snd.snd.snd.snd.snd.snd.snd.snd.snd.snd.snd.snd.snd.snd.snd.snd.snd.snd.snd.snd.snd.fst,
                    r.snd.snd.snd.snd.snd.snd.snd.snd.snd.snd.snd.snd.snd.snd.snd.snd.snd.snd.snd.snd.snd.snd.snd.fst,
                    r.snd.snd.snd.snd.snd.snd.snd.snd.snd.snd.snd.snd.snd.snd.snd.snd.snd.snd.snd.snd.snd.snd.snd.snd.fst,
                    r.snd.snd.snd.snd.snd.snd.snd.snd.snd.snd.snd.snd.snd.snd.snd.snd.snd.snd.snd.snd.snd.snd.snd.snd.snd.fst),
                  (r.snd.snd.snd.snd.snd.snd.snd.snd.snd.snd.snd.snd.snd.snd.snd.snd.snd.snd.snd.snd.snd.snd.snd.snd.snd.snd.fst,
                    r.snd.snd.snd.snd.snd.snd.snd.snd.snd.snd.snd.snd.snd.snd.snd.snd.snd.snd.snd.snd.snd.snd.snd.snd.snd.snd.snd.fst),
                  r.snd.snd.snd.snd.snd.snd.snd.snd.snd.snd.snd.snd.snd.snd.snd.snd.snd.snd.snd.snd.snd.snd.snd.snd.snd.snd.snd.snd.fst,
                  r.snd.snd.snd.snd.snd.snd.snd.snd.snd.snd.snd.snd.snd.snd.snd.snd.snd.snd.snd.snd.snd.snd.snd.snd.snd.snd.snd.snd.snd.fst,
                  r.snd.snd.snd.snd.snd.snd.snd.snd.snd.snd.snd.snd.snd.snd.snd.snd.snd.snd.snd.snd.snd.snd.snd.snd.snd.snd.snd.snd.snd.snd)].length ≤
          140737488355328 / 208))
      (L0m1
        (v0, v1, wrap IntKind.i64 (v2 + 1), v6, v7, v8, v9, v10, v11, v12, v13, v14, v15, r.fst, r.snd.fst, r.snd.snd.fst, r.snd.snd.snd.fst, r.snd.snd.snd.snd.fst, r.snd.snd.snd.snd.snd.fst,
          r.snd.snd.snd.snd.snd.snd.fst, r.snd.snd.snd.snd.snd.snd.snd.fst, r.snd.snd.snd.snd.snd.snd.snd.snd.fst, r.snd.snd.snd.snd.snd.snd.snd.snd.snd.fst, r.snd.snd.snd.snd.snd.snd.snd.snd.snd.snd.fst,
          r.snd.snd.snd.snd.snd.snd.snd.snd.snd.snd.snd.fst, r.snd.snd.snd.snd.snd.snd.snd.snd.snd.snd.snd.snd.fst, r.snd.snd.snd.snd.snd.snd.snd.snd.snd.snd.snd.snd.snd.fst,
          r.snd.snd.snd.snd.snd.snd.snd.snd.snd.snd.snd.snd.snd.snd.fst, r.snd.snd.snd.snd.snd.snd.snd.snd.snd.snd.snd.snd.snd.snd.snd.fst, r.snd.snd.snd.snd.snd.snd.snd.snd.snd.snd.snd.snd.snd.snd.snd.snd.fst,
          r.snd.snd.snd.snd.snd.snd.snd.snd.snd.snd.snd.snd.snd.snd.snd.snd.snd.fst, r.snd.snd.snd.snd.snd.snd.snd.snd.snd.snd.snd.snd.snd.snd.snd.snd.snd.snd.fst,
          r.snd.snd.snd.snd.snd.snd.snd.snd.snd.snd.snd.snd.snd.snd.snd.snd.snd.snd.snd.fst, r.snd.snd.snd.snd.snd.snd.snd.snd.snd.snd.snd.snd.snd.snd.snd.snd.snd.snd.snd.snd.fst,
          r.snd.snd.snd.snd.snd.snd.snd.snd.snd.snd.snd.snd.snd.snd.snd.snd.snd.snd.snd.snd.snd.fst, r.snd.snd.snd.snd.snd.snd.snd.snd.snd.snd.snd.snd.snd.snd.snd.snd.snd.snd.snd.snd.snd.snd.fst,
          r.snd.snd.snd.snd.snd.snd.snd.snd.snd.snd.snd.snd.snd.snd.snd.snd.snd.snd.snd.snd.snd.snd.snd.fst, r.snd.snd.snd.snd.snd.snd.snd.snd.snd.snd.snd.snd.snd.snd.snd.snd.snd.snd.snd.snd.snd.snd.snd.snd.fst,
          r.snd.snd.snd.snd.snd.snd.snd.snd.snd.snd.snd.snd.snd.snd.snd.snd.snd.snd.snd.snd.snd.snd.snd.snd.snd.fst,
          r.snd.snd.snd.snd.snd.snd.snd.snd.snd.snd.snd.snd.snd.snd.snd.snd.snd.snd.snd.snd.snd.snd.snd.snd.snd.snd.fst,
          r.snd.snd.snd.snd.snd.snd.snd.snd.snd.snd.snd.snd.snd.snd.snd.snd.snd.snd.snd.snd.snd.snd.snd.snd.snd.snd.snd.fst,
          r.snd.snd.snd.snd.snd.snd.snd.snd.snd.snd.snd.snd.snd.snd.snd.snd.snd.snd.snd.snd.snd.snd.snd.snd.snd.snd.snd.snd.fst,
          r.snd.snd.snd.snd.snd.snd.snd.snd.snd.snd.snd.snd.snd.snd.snd.snd.snd.snd.snd.snd.snd.snd.snd.snd.snd.snd.snd.snd.snd.fst,
          r.snd.snd.snd.snd.snd.snd.snd.snd.snd.snd.snd.snd.snd.snd.snd.snd.snd.snd.snd.snd.snd.snd.snd.snd.snd.snd.snd.snd.snd.snd,
          v47 ++
            [(((r.fst, r.snd.fst, r.snd.snd.fst, r.snd.snd.snd.fst), (r.snd.snd.snd.snd.fst, r.snd.snd.snd.snd.snd.fst, r.snd.snd.snd.snd.snd.snd.fst, r.snd.snd.snd.snd.snd.snd.snd.fst),
                  r.snd.snd.snd.snd.snd.snd.snd.snd.fst),
                (r.snd.snd.snd.snd.snd.snd.snd.snd.snd.fst, r.snd.snd.snd.snd.snd.snd.snd.snd.snd.snd.fst, r.snd.snd.snd.snd.snd.snd.snd.snd.snd.snd.snd.fst, r.snd.snd.snd.snd.snd.snd.snd.snd.snd.snd.snd.snd.fst,
                  r.snd.snd.snd.snd.snd.snd.snd.snd.snd.snd.snd.snd.snd.fst, r.snd.snd.snd.snd.snd.snd.snd.snd.snd.snd.snd.snd.snd.snd.fst, r.snd.snd.snd.snd.snd.snd.snd.snd.snd.snd.snd.snd.snd.snd.snd.fst,
                  r.snd.snd.snd.snd.snd.snd.snd.snd.snd.snd.snd.snd.snd.snd.snd.snd.fst),
                (r.snd.snd.snd.snd.snd.snd.snd.snd.snd.snd.snd.snd.snd.snd.snd.snd.snd.fst, r.snd.snd.snd.snd.snd.snd.snd.snd.snd.snd.snd.snd.snd.snd.snd.snd.snd.snd.fst,
                  r.snd.snd.snd.snd.snd.snd.snd.snd.snd.snd.snd.snd.snd.snd.snd.snd.snd.snd.snd.fst, r.snd.snd.snd.snd.snd.snd.snd.snd.snd.snd.snd.snd.snd.snd.snd.snd.snd.snd.snd.snd.fst),
                (r.snd.snd.snd.snd.snd.snd.snd.snd.snd.snd.snd.snd.snd.snd.snd.snd.snd.snd.snd.snd.snd.fst, r.snd.snd.snd.snd.snd.snd.snd.snd.snd.snd.snd.snd.snd.snd.snd.snd.snd.snd.snd.snd.snd.snd.fst,
                  r.snd.snd.snd.snd.snd.snd.snd.snd.snd.snd.snd.snd.snd.snd.snd.snd.snd.snd.snd.snd.snd.snd.snd.fst, r.snd.snd.snd.snd.snd.snd.snd.snd.snd.snd.snd.snd.snd.snd.snd.snd.snd.snd.snd.snd.snd.snd.snd.snd.fst,
                  r.snd.snd.snd.snd.snd.snd.snd.snd.snd.snd.snd.snd.snd.snd.snd.snd.snd.snd.snd.snd.snd.snd.snd.snd.snd.fst),
                (r.snd.snd.snd.snd.snd.snd.snd.snd.snd.snd.snd.snd.snd.snd.snd.snd.snd.snd.snd.snd.snd.snd.snd.snd.snd.snd.fst,
                  r.snd.snd.snd.snd.snd.snd.snd.snd.snd.snd.snd.snd.snd.snd.snd.snd.snd.snd.snd.snd.snd.snd.snd.snd.snd.snd.snd.fst),
                r.snd.snd.snd.snd.snd.snd.snd.snd.snd.snd.snd.snd.snd.snd.snd.snd.snd.snd.snd.snd.snd.snd.snd.snd.snd.snd.snd.snd.fst,
                r.snd.snd.snd.snd.snd.snd.snd.snd.snd.snd.snd.snd.snd.snd.snd.snd.snd.snd.snd.snd.snd.snd.snd.snd.snd.snd.snd.snd.snd.fst,
                r.snd.snd.snd.snd.snd.snd.snd.snd.snd.snd.snd.snd.snd.snd.snd.snd.snd.snd.snd.snd.snd.snd.snd.snd.snd.snd.snd.snd.snd.snd)],
          v48))
      none)
theorem d1_cn {ι : Type} {E : Fil ι} {guard_Give_m2 : guard_Give.A → Option guard_Give.R} {guard_Give_m2' : ι → guard_Give.A → Option guard_Give.R} (hguard_Give_m2 : ∀ v, Cn E (guard_Give_m2 v) fun i => guard_Give_m2' i v) {L2m2 : T2 → Option R} {L2m2' : ι → T2 → Option R} (hL2m2 : ∀ v, Cn E (L2m2 v) fun i => L2m2' i v) {guard_Step_m1 : guard_Step.A → Option guard_Step.R} {guard_Step_m1' : ι → guard_Step.A → Option guard_Step.R} (hguard_Step_m1 : ∀ v, Cn E (guard_Step_m1 v) fun i => guard_Step_m1' i v) {L0m1 : T0 → Option R} {L0m1' : ι → T0 → Option R} (hL0m1 : ∀ v, Cn E (L0m1 v) fun i => L0m1' i v) : ∀ v : T1, Cn E (d1 guard_Give_m2 L2m2 guard_Step_m1 L0m1 v) fun i => d1 (guard_Give_m2' i) (L2m2' i) (guard_Step_m1' i) (L0m1' i) v := fun (v0, v1, v2, v3, v4, v5, v6, v7, v8, v9, v10, v11, v12, v13, v14, v15, v16, v17, v18, v19, v20, v21, v22, v23, v24, v25, v26, v27, v28, v29, v30, v31, v32, v33, v34, v35, v36, v37, v38, v39, v40, v41, v42, v43, v44, v45, v46, v47, v48, v49, v50, v51, v52, v53, v54) => (.br (.br (.bnd (hguard_Give_m2 _) fun _ => (.br (hL2m2 _) (hL2m2 _))) .none) (.bnd (hguard_Step_m1 _) fun _ => (.br (hL0m1 _) .none)))
theorem l1_b ( k m1 m2 : Nat) : ∀ v : T1, run (cs m2) (loopN cs m2) b12 (kLoop cs m2 b12 (K12 k m1)) (s1 v) = d1 (guard_Give.f m2) (l2 k m1 m2) (guard_Step.f m1) (l0 k m1) v := fun (v0, v1, v2, v3, v4, v5, v6, v7, v8, v9, v10, v11, v12, v13, v14, v15, v16, v17, v18, v19, v20, v21, v22, v23, v24, v25, v26, v27, v28, v29, v30, v31, v32, v33, v34, v35, v36, v37, v38, v39, v40, v41, v42, v43, v44, v45, v46, v47, v48, v49, v50, v51, v52, v53, v54) => by kernel_rfl
theorem D1_of (v : T1) {r : R} (h : d1 guard_Give.F D2 guard_Step.F D0 v = some r) : D1 v = some r :=
  loop_of 2 (l := fun L => l1 (L 0) (L 1) (L 2) v) (d := fun L => d1 (guard_Give.f (L 2)) (l2 (L 0) (L 1) (L 2)) (guard_Step.f (L 1)) (l0 (L 0) (L 1)) v) (fun L n hn => by show l1 (L 0) (L 1) (L 2) v = _; rw [hn]; exact (held_eq _).trans ((loopN_succ _ _ _ _ _).trans (l1_b (L 0) (L 1) n v))) (d1_cn (guard_Give.F_cn 2) (fun v => (D2_cn v).re [0, 1, 2]) (guard_Step.F_cn 1) (fun v => (D0_cn v).re [0, 1]) v) h
def d2 (L3m2 : T3 → Option R) : T2 → Option R := fun (v0, v1, v2, v3, v4, v5, v6, v7, v8, v9, v10, v11, v12, v13, v14, v15, v16, v17, v18, v19, v20, v21, v22, v23, v24, v25, v26, v27, v28, v29, v30, v31, v32, v33, v34, v35, v36, v37, v38, v39, v40, v41, v42, v43, v44, v45, v46, v47, v48, v49, v50, v51, v52, v53, v54, v55) =>
br (decide (v49.length + [v0].length ≤ 140737488355328 / 8))
  (L3m2
    (v1, v2, v3, v4, v5, v6, v7, v8, v9, v10, v11, v12, v13, v14, v15, v16, v17, v18, v19, v20, v21, v22, v23, v24, v25, v26, v27, v28, v29, v30, v31, v32, v33, v34, v35, v36, v37, v38, v39, v40, v41, v42, v43, v44, v45,
      v46, v47, v48, v49 ++ [v0], v50, v51, v52, v53, v54, v55))
  none
theorem d2_cn {ι : Type} {E : Fil ι} {L3m2 : T3 → Option R} {L3m2' : ι → T3 → Option R} (hL3m2 : ∀ v, Cn E (L3m2 v) fun i => L3m2' i v) : ∀ v : T2, Cn E (d2 L3m2 v) fun i => d2 (L3m2' i) v := fun (v0, v1, v2, v3, v4, v5, v6, v7, v8, v9, v10, v11, v12, v13, v14, v15, v16, v17, v18, v19, v20, v21, v22, v23, v24, v25, v26, v27, v28, v29, v30, v31, v32, v33, v34, v35, v36, v37, v38, v39, v40, v41, v42, v43, v44, v45, v46, v47, v48, v49, v50, v51, v52, v53, v54, v55) => (.br (hL3m2 _) .none)
theorem l2_b ( k m1 m2 : Nat) : ∀ v : T2, run (cs m2) (loopN cs m2) c1000017 (J1000017 k m1 m2) (s2 v) = d2 (l3 k m1 m2) v := fun (v0, v1, v2, v3, v4, v5, v6, v7, v8, v9, v10, v11, v12, v13, v14, v15, v16, v17, v18, v19, v20, v21, v22, v23, v24, v25, v26, v27, v28, v29, v30, v31, v32, v33, v34, v35, v36, v37, v38, v39, v40, v41, v42, v43, v44, v45, v46, v47, v48, v49, v50, v51, v52, v53, v54, v55) => by kernel_rfl
theorem D2_of (v : T2) {r : R} (h : d2 D3 v = some r) : D2 v = some r :=
  join_of (l := fun L => l2 (L 0) (L 1) (L 2) v) (d := fun L => d2 (l3 (L 0) (L 1) (L 2)) v) (fun L => (held_eq _).trans (l2_b (L 0) (L 1) (L 2) v)) (d2_cn (fun v => (D3_cn v).re [0, 1, 2]) v) h
def d3 (L1m2 : T1 → Option R) : T3 → Option R := fun (v0, v1, v2, v3, v4, v5, v6, v7, v8, v9, v10, v11, v12, v13, v14, v15, v16, v17, v18, v19, v20, v21, v22, v23, v24, v25, v26, v27, v28, v29, v30, v31, v32, v33, v34, v35, v36, v37, v38, v39, v40, v41, v42, v43, v44, v45, v46, v47, v48, v49, v50, v51, v52, v53, v54) =>
L1m2
  (v0, v1, v2, v3, v4, wrap IntKind.i64 (v5 + 1), v6, v7, v8, v9, v10, v11, v12, v13, v14, v15, v16, v17, v18, v19, v20, v21, v22, v23, v24, v25, v26, v27, v28, v29, v30, v31, v32, v33, v34, v35, v36, v37, v38, v39, v40,
    v41, v42, v43, v44, v45, v46, v47, v48, v49, v50, v51, v52, v53, v54)
theorem d3_cn {ι : Type} {E : Fil ι} {L1m2 : T1 → Option R} {L1m2' : ι → T1 → Option R} (hL1m2 : ∀ v, Cn E (L1m2 v) fun i => L1m2' i v) : ∀ v : T3, Cn E (d3 L1m2 v) fun i => d3 (L1m2' i) v := fun (v0, v1, v2, v3, v4, v5, v6, v7, v8, v9, v10, v11, v12, v13, v14, v15, v16, v17, v18, v19, v20, v21, v22, v23, v24, v25, v26, v27, v28, v29, v30, v31, v32, v33, v34, v35, v36, v37, v38, v39, v40, v41, v42, v43, v44, v45, v46, v47, v48, v49, v50, v51, v52, v53, v54) => (hL1m2 _)
theorem l3_b ( k m1 m2 : Nat) : ∀ v : T3, run (cs m2) (loopN cs m2) c1000018 (J1000018 k m1 m2) (s3 v) = d3 (l1 k m1 m2) v := fun (v0, v1, v2, v3, v4, v5, v6, v7, v8, v9, v10, v11, v12, v13, v14, v15, v16, v17, v18, v19, v20, v21, v22, v23, v24, v25, v26, v27, v28, v29, v30, v31, v32, v33, v34, v35, v36, v37, v38, v39, v40, v41, v42, v43, v44, v45, v46, v47, v48, v49, v50, v51, v52, v53, v54) => by kernel_rfl
theorem D3_of (v : T3) {r : R} (h : d3 D1 v = some r) : D3 v = some r :=
  join_of (l := fun L => l3 (L 0) (L 1) (L 2) v) (d := fun L => d3 (l1 (L 0) (L 1) (L 2)) v) (fun L => (held_eq _).trans (l3_b (L 0) (L 1) (L 2) v)) (d3_cn (fun v => (D1_cn v).re [0, 1, 2]) v) h
noncomputable def f (k : Nat) : A → Option R := fun (v0, v1, v2, v3, v4, v5, v6, v7, v8, v9, v10, v11, v12, v13, v14, v15, v16, v17, v18, v19, v20, v21, v22, v23, v24, v25, v26, v27, v28, v29, v30, v31, v32, v33, v34, v35, v36, v37, v38, v39, v40, v41) => held (runFn cs k Try.f8 [(.agg [(.int .i64 v0), (.int .i64 v1), (.int .i64 v2), (.int .i64 v3), (.int .i64 v4), (.int .i64 v5), (.int .i64 v6), (.int .i64 v7), (.int .i64 v8), (.int .i64 v9)]), (.agg [(.int .i64 v10), (.int .i64 v11), (.int .i64 v12), (.bool v13), (.int .i64 v14), (.int .i64 v15), (.int .i64 v16), (.bool v17), (.int .i64 v18), (.int .i64 v19), (.int .i64 v20), (.bool v21), (.bool v22), (.int .i64 v23), (.int .i64 v24), (.int .i64 v25), (.bool v26), (.int .i64 v27), (.int .i64 v28), (.int .i64 v29), (.int .i64 v30), (.bool v31), (.bool v32), (.bool v33), (.bool v34), (.bool v35), (.int .i64 v36), (.int .i64 v37), (.int .i64 v38), (.int .i64 v39), (.int .i64 v40)]), (.c (.frz (.pair (.slice (.pair (.int .i64) (.int .i64))) (.pair .bool (.pair .bool (.pair .bool (.pair .bool .bool))))) v41))] [] dec)
noncomputable def F (v : A) : Option R := lim fun L => f (L 0) v
theorem F_cn (x : Nat) (v : A) : Cn late (F v) fun L => f (L x) v := of_lim.re [x]
def d (guard_Check_k : guard_Check.A → Option guard_Check.R) (L0k : T0 → Option R) : A → Option R := fun (v0, v1, v2, v3, v4, v5, v6, v7, v8, v9, v10, v11, v12, v13, v14, v15, v16, v17, v18, v19, v20, v21, v22, v23, v24, v25, v26, v27, v28, v29, v30, v31, v32, v33, v34, v35, v36, v37, v38, v39, v40, v41) =>
bnd (guard_Check_k (v0, v1, v2, v3, v4, v5, v6, v7, v8, v9, v10, v11, v12, v13, v14, v15, v16, v17, v18, v19, v20, v21, v22, v23, v24, v25, v26, v27, v28, v29, v30, v31, v32, v33, v34, v35, v36, v37, v38, v39, v40))
  fun r =>
  br (!decide (r = 0)) (some (r, [], []))
    (br (decide (2000 < (↑v41.length : Int))) (some (2, [], []))
      (L0k
        (v41, (↑v41.length : Int), 0, v0, v1, v2, v3, v4, v5, v6, v7, v8, v9, v10, v11, v12, v13, v14, v15, v16, v17, v18, v19, v20, v21, v22, v23, v24, v25, v26, v27, v28, v29, v30, v31, v32, v33, v34, v35, v36, v37,
          v38, v39, v40, [], [])))
theorem d_cn {ι : Type} {E : Fil ι} {guard_Check_k : guard_Check.A → Option guard_Check.R} {guard_Check_k' : ι → guard_Check.A → Option guard_Check.R} (hguard_Check_k : ∀ v, Cn E (guard_Check_k v) fun i => guard_Check_k' i v) {L0k : T0 → Option R} {L0k' : ι → T0 → Option R} (hL0k : ∀ v, Cn E (L0k v) fun i => L0k' i v) : ∀ v : A, Cn E (d guard_Check_k L0k v) fun i => d (guard_Check_k' i) (L0k' i) v := fun (v0, v1, v2, v3, v4, v5, v6, v7, v8, v9, v10, v11, v12, v13, v14, v15, v16, v17, v18, v19, v20, v21, v22, v23, v24, v25, v26, v27, v28, v29, v30, v31, v32, v33, v34, v35, v36, v37, v38, v39, v40, v41) => (.bnd (hguard_Check_k _) fun _ => (.br .some (.br .some (hL0k _))))
theorem f_b (k : Nat) : ∀ v : A, f k v = d (guard_Check.f k) (l0 k k) v := fun (v0, v1, v2, v3, v4, v5, v6, v7, v8, v9, v10, v11, v12, v13, v14, v15, v16, v17, v18, v19, v20, v21, v22, v23, v24, v25, v26, v27, v28, v29, v30, v31, v32, v33, v34, v35, v36, v37, v38, v39, v40, v41) => (held_eq _).trans (by kernel_rfl)
theorem F_of (v : A) {r : R} (h : d guard_Check.F D0 v = some r) : F v = some r :=
  join_of (l := fun L => f (L 0) v) (d := fun L => d (guard_Check.f (L 0)) (l0 (L 0) (L 0)) v) (fun L => f_b (L 0) v) (d_cn (guard_Check.F_cn 0) (fun v => (D0_cn v).re [0, 0]) v) h
noncomputable def spec (k : Nat) (args : List AV) (ss : List Slot) : Option Ans :=
  match args, ss with
  | [(.agg [(.int .i64 v0), (.int .i64 v1), (.int .i64 v2), (.int .i64 v3), (.int .i64 v4), (.int .i64 v5), (.int .i64 v6), (.int .i64 v7), (.int .i64 v8), (.int .i64 v9)]), (.agg [(.int .i64 v10), (.int .i64 v11), (.int .i64 v12), (.bool v13), (.int .i64 v14), (.int .i64 v15), (.int .i64 v16), (.bool v17), (.int .i64 v18), (.int .i64 v19), (.int .i64 v20), (.bool v21), (.bool v22), (.int .i64 v23), (.int .i64 v24), (.int .i64 v25), (.bool v26), (.int .i64 v27), (.int .i64 v28), (.int .i64 v29), (.int .i64 v30), (.bool v31), (.bool v32), (.bool v33), (.bool v34), (.bool v35), (.int .i64 v36), (.int .i64 v37), (.int .i64 v38), (.int .i64 v39), (.int .i64 v40)]), (.c (.frz (.pair (.slice (.pair (.int .i64) (.int .i64))) (.pair .bool (.pair .bool (.pair .bool (.pair .bool .bool))))) v41))], [] => some ⟨R, f k (v0, v1, v2, v3, v4, v5, v6, v7, v8, v9, v10, v11, v12, v13, v14, v15, v16, v17, v18, v19, v20, v21, v22, v23, v24, v25, v26, v27, v28, v29, v30, v31, v32, v33, v34, v35, v36, v37, v38, v39, v40, v41), enc⟩
  | _, _ => none
theorem spec_ok (k : Nat) : SpecOk Try.prog 8 (spec k) := by
  intro args ss ans x h hx X σ w vals hp
  unfold spec at h
  split at h
  · cases h
    exact spec_of cs_ok Try.func8 rfl rfl dec_ok (held_eq _).symm hx hp
  · cases h
end guard_Run
noncomputable def t_guard_Run (k : Nat) := tcons 8 (guard_Run.spec k) (t_guard_Step k)
theorem t_guard_Run_ok (n g : Nat) : SpecOk Try.prog g (t_guard_Run n g) := tcons_ok (guard_Run.spec_ok n) (fun g => t_guard_Step_ok n g) g
namespace slices_Equal_World
abbrev R : Type := Bool
abbrev A : Type := List (((Int × Int × Int × Bool) × (Int × Int × Int × Bool) × Int) × (Int × Int × Bool × Bool × Int × Int × Int × Bool) × (Int × Int × Int × Int) × (Bool × Bool × Bool × Bool × Bool) × (Int × Int) × Int × Int × Int) × List (((Int × Int × Int × Bool) × (Int × Int × Int × Bool) × Int) × (Int × Int × Bool × Bool × Int × Int × Int × Bool) × (Int × Int × Int × Int) × (Bool × Bool × Bool × Bool × Bool) × (Int × Int) × Int × Int × Int)
def lv : List (Nat × List Nat) := [(2000000, [4]), (4, [0, 1, 12, 13])]
noncomputable def cs : Nat → Ctx := ctxOf tis modes t_guard_Run lv
theorem cs_ok (n : Nat) : CtxOk Try.prog (cs n) := ctxOf_ok rfl tis_ok t_guard_Run_ok n
def enc (r : R) : Out := ((.c (.bool r)), [])
def dec : Out → Option R
  | ((.c (.bool v0)), []) => some v0
  | _ => none
theorem dec_ok : ∀ u y, dec u = some y → u = enc y := by
  intro u y h
  unfold dec at h
  split at h
  · cases h; rfl
  · cases h
noncomputable def b0 : Code := subF [] Try.f10
noncomputable def K0 (k : Nat) : Kt R := kTop (cs k) Try.f10 dec
noncomputable def b4 : Code := sub [1, 1, 0, 1, 0, 0] b0
noncomputable def K4 ( k : Nat) : Kt R := kAt (cs k) (loopN cs k) [1, 1, 0, 1, 0] b0 (K0 k)
abbrev T0 : Type := List (((Int × Int × Int × Bool) × (Int × Int × Int × Bool) × Int) × (Int × Int × Bool × Bool × Int × Int × Int × Bool) × (Int × Int × Int × Int) × (Bool × Bool × Bool × Bool × Bool) × (Int × Int) × Int × Int × Int) × List (((Int × Int × Int × Bool) × (Int × Int × Int × Bool) × Int) × (Int × Int × Bool × Bool × Int × Int × Int × Bool) × (Int × Int × Int × Int) × (Bool × Bool × Bool × Bool × Bool) × (Int × Int) × Int × Int × Int) × Int × Int
def s0 : T0 → St := fun (v0, v1, v2, v3) => ⟨26, 0, [(0, (.c (.frz (.pair (.pair (.pair (.int .i64) (.pair (.int .i64) (.pair (.int .i64) .bool))) (.pair (.pair (.int .i64) (.pair (.int .i64) (.pair (.int .i64) .bool))) (.int .i64))) (.pair (.pair (.int .i64) (.pair (.int .i64) (.pair .bool (.pair .bool (.pair (.int .i64) (.pair (.int .i64) (.pair (.int .i64) .bool))))))) (.pair (.pair (.int .i64) (.pair (.int .i64) (.pair (.int .i64) (.int .i64)))) (.pair (.pair .bool (.pair .bool (.pair .bool (.pair .bool .bool)))) (.pair (.pair (.int .i64) (.int .i64)) (.pair (.int .i64) (.pair (.int .i64) (.int .i64)))))))) v0))), (1, (.c (.frz (.pair (.pair (.pair (.int .i64) (.pair (.int .i64) (.pair (.int .i64) .bool))) (.pair (.pair (.int .i64) (.pair (.int .i64) (.pair (.int .i64) .bool))) (.int .i64))) (.pair (.pair (.int .i64) (.pair (.int .i64) (.pair .bool (.pair .bool (.pair (.int .i64) (.pair (.int .i64) (.pair (.int .i64) .bool))))))) (.pair (.pair (.int .i64) (.pair (.int .i64) (.pair (.int .i64) (.int .i64)))) (.pair (.pair .bool (.pair .bool (.pair .bool (.pair .bool .bool)))) (.pair (.pair (.int .i64) (.int .i64)) (.pair (.int .i64) (.pair (.int .i64) (.int .i64)))))))) v1))), (12, (.c (.int .i64 v2))), (13, (.c (.int .i64 v3)))], [], [(256000000, .gone)]⟩
noncomputable def l0 ( k n : Nat) (v : T0) : Option R := held (loopN cs n b4 (K4 k) (s0 v))
noncomputable def D0 (v : T0) : Option R := lim fun L => l0 (L 0) (L 1) v
theorem D0_cn (v : T0) : Cn late (D0 v) fun L => l0 (L 0) (L 1) v := of_lim
def d0 (L0m1 : T0 → Option R) : T0 → Option R := fun (v0, v1, v2, v3) =>
br (decide (v3 < v2))
  (br (decide (0 ≤ v3 ∧ v3 < (↑v0.length : Int)))
    (br (decide (0 ≤ v3 ∧ v3 < (↑v1.length : Int)))
      (br
        (!(decide
              ((rd
                        ty1
                        v0 v3).fst.fst.fst =
                (rd
                        ty1
                        v1 v3).fst.fst.fst) &&
            (decide
                ((rd
                            ty1
                            v0 v3).fst.fst.snd.fst =
                  (rd
                            ty1
                            v1 v3).fst.fst.snd.fst) &&
              (decide
                  ((rd
                                ty1
                                v0 v3).fst.fst.snd.snd.fst =
                    (rd
                                ty1
                                v1 v3).fst.fst.snd.snd.fst) &&
                ((rd
                                ty1
                                v0 v3).fst.fst.snd.snd.snd ==
                    (rd
                                ty1
                                v1 v3).fst.fst.snd.snd.snd &&
                  (decide
                      ((rd
                                  ty1
                                  v0 v3).fst.snd.fst.fst =
                        (rd
                                  ty1
                                  v1 v3).fst.snd.fst.fst) &&
                    (decide
                        ((rd
                                      ty1
                                      v0 v3).fst.snd.fst.snd.fst =
                          (rd
                                      ty1
                                      v1 v3).fst.snd.fst.snd.fst) &&
                      (decide
                          ((rd
                                          ty1
                                          v0 v3).fst.snd.fst.snd.snd.fst =
                            (rd
                                          ty1
                                          v1 v3).fst.snd.fst.snd.snd.fst) &&
                        ((rd
                                          ty1
                                          v0 v3).fst.snd.fst.snd.snd.snd ==
                            (rd
                                          ty1
                                          v1 v3).fst.snd.fst.snd.snd.snd &&
                          (decide
                              ((rd
                                        ty1
                                        v0 v3).fst.snd.snd =
                                (rd
                                        ty1
                                        v1 v3).fst.snd.snd) &&
                            (decide
                                ((rd
                                          ty1
                                          v0 v3).snd.fst.fst =
                                  (rd
                                          ty1
                                          v1 v3).snd.fst.fst) &&
                              (decide
                                  ((rd
                                              ty1
                                              v0 v3).snd.fst.snd.fst =
                                    (rd
                                              ty1
                                              v1 v3).snd.fst.snd.fst) &&
                                ((rd
                                                ty1
                                                v0 v3).snd.fst.snd.snd.fst ==
                                    (rd
                                                ty1
                                                v1 v3).snd.fst.snd.snd.fst &&
                                  ((rd
                                                    ty1
                                                    v0 v3).snd.fst.snd.snd.snd.fst ==
                                      (rd
                                                    ty1
                                                    v1 v3).snd.fst.snd.snd.snd.fst &&
                                    (decide
                                        ((rd
                                                          ty1
                                                          v0 v3).snd.fst.snd.snd.snd.snd.fst =
                                          (rd
                                                          ty1
                                                          v1 v3).snd.fst.snd.snd.snd.snd.fst) &&
                                      (decide
                                          ((rd
                                                              ty1
                                                              v0 v3).snd.fst.snd.snd.snd.snd.snd.fst =
                                            (rd
                                                              ty1
                                                              v1 v3).snd.fst.snd.snd.snd.snd.snd.fst) &&
                                        (decide
                                            ((rd
                                                                  ty1
                                                                  v0 v3).snd.fst.snd.snd.snd.snd.snd.snd.fst =
                                              (rd
                                                                  ty1
                                                                  v1 v3).snd.fst.snd.snd.snd.snd.snd.snd.fst) &&
                                          ((rd
                                                                  ty1
                                                                  v0 v3).snd.fst.snd.snd.snd.snd.snd.snd.snd ==
                                              (rd
                                                                  ty1
                                                                  v1 v3).snd.fst.snd.snd.snd.snd.snd.snd.snd &&
                                            (decide
                                                ((rd
                                                            ty1
                                                            v0 v3).snd.snd.fst.fst =
                                                  (rd
                                                            ty1
                                                            v1 v3).snd.snd.fst.fst) &&
                                              (decide
                                                  ((rd
                                                                ty1
                                                                v0 v3).snd.snd.fst.snd.fst =
                                                    (rd
                                                                ty1
                                                                v1 v3).snd.snd.fst.snd.fst) &&
                                                (decide
                                                    ((rd
                                                                    ty1
                                                                    v0 v3).snd.snd.fst.snd.snd.fst =
                                                      (rd
                                                                    ty1
                                                                    v1 v3).snd.snd.fst.snd.snd.fst) &&
                                                  (decide
                                                      ((rd
                                                                      ty1
                                                                      v0 v3).snd.snd.fst.snd.snd.snd =
                                                        (rd
                                                                      ty1
                                                                      v1 v3).snd.snd.fst.snd.snd.snd) &&
                                                    ((rd
                                                                    ty1
                                                                    v0 v3).snd.snd.snd.fst.fst ==
                                                        (rd
                                                                    ty1
                                                                    v1 v3).snd.snd.snd.fst.fst &&
                                                      ((rd
                                                                        ty1
                                                                        v0 v3).snd.snd.snd.fst.snd.fst ==
                                                          (rd
                                                                        ty1
                                                                        v1 v3).snd.snd.snd.fst.snd.fst &&
                                                        ((rd
                                                                            ty1
                                                                            v0 v3).snd.snd.snd.fst.snd.snd.fst ==
                                                            (rd
                                                                            ty1
                                                                            v1 v3).snd.snd.snd.fst.snd.snd.fst &&
                                                          ((rd
                                                                                ty1
                                                                                v0 v3).snd.snd.snd.fst.snd.snd.snd.fst ==
                                                              (rd
                                                                                ty1
                                                                                v1 v3).snd.snd.snd.fst.snd.snd.snd.fst &&
                                                            ((rd
                                                                                  ty1
                                                                                  v0 v3).snd.snd.snd.fst.snd.snd.snd.snd ==
                                                                (rd
                                                                                  ty1
                                                                                  v1 v3).snd.snd.snd.fst.snd.snd.snd.snd &&
                                                              (decide
                                                                  ((rd
                                                                                  ty1
                                                                                  v0 v3).snd.snd.snd.snd.fst.fst =
                                                                    (rd
                                                                                  ty1
                                                                                  v1 v3).snd.snd.snd.snd.fst.fst) &&
                                                                (decide
                                                                    ((rd
                                                                                    ty1
                                                                                    v0 v3).snd.snd.snd.snd.fst.snd =
                                                                      (rd
                                                                                    ty1
                                                                                    v1 v3).snd.snd.snd.snd.fst.snd) &&
                                                                  (decide
                                                                      ((rd
                                                                                      ty1
                                                                                      v0 v3).snd.snd.snd.snd.snd.fst =
                                                                        (rd
                                                                                      ty1
                                                                                      v1 v3).snd.snd.snd.snd.snd.fst) &&
                                                                    (decide
                                                                        ((rd
                                                                                          ty1
                                                                                          v0 v3).snd.snd.snd.snd.snd.snd.fst =
                                                                          (rd
                                                                                          ty1
                                                                                          v1 v3).snd.snd.snd.snd.snd.snd.fst) &&
                                                                      (decide
                                                                          ((rd
                                                                                            ty1
                                                                                            v0 v3).snd.snd.snd.snd.snd.snd.snd =
                                                                            (rd
                                                                                            ty1
                                                                                            v1 v3).snd.snd.snd.snd.snd.snd.snd) &&
                                                                        true))))))))))))))))))))))))))))))))
        (some false) (L0m1 (v0, v1, v2, wrap IntKind.i64 (v3 + 1))))
      none)
    none)
  (some true)
theorem d0_cn {ι : Type} {E : Fil ι} {L0m1 : T0 → Option R} {L0m1' : ι → T0 → Option R} (hL0m1 : ∀ v, Cn E (L0m1 v) fun i => L0m1' i v) : ∀ v : T0, Cn E (d0 L0m1 v) fun i => d0 (L0m1' i) v := fun (v0, v1, v2, v3) => (.br (.br (.br (.br .some (hL0m1 _)) .none) .none) .some)
theorem l0_b ( k m1 : Nat) : ∀ v : T0, run (cs m1) (loopN cs m1) b4 (kLoop cs m1 b4 (K4 k)) (s0 v) = d0 (l0 k m1) v := fun (v0, v1, v2, v3) => by kernel_rfl
theorem D0_of (v : T0) {r : R} (h : d0 D0 v = some r) : D0 v = some r :=
  loop_of 1 (l := fun L => l0 (L 0) (L 1) v) (d := fun L => d0 (l0 (L 0) (L 1)) v) (fun L n hn => by show l0 (L 0) (L 1) v = _; rw [hn]; exact (held_eq _).trans ((loopN_succ _ _ _ _ _).trans (l0_b (L 0) n v))) (d0_cn (fun v => (D0_cn v).re [0, 1]) v) h
noncomputable def f (k : Nat) : A → Option R := fun (v0, v1) => held (runFn cs k Try.f10 [(.c (.frz (.pair (.pair (.pair (.int .i64) (.pair (.int .i64) (.pair (.int .i64) .bool))) (.pair (.pair (.int .i64) (.pair (.int .i64) (.pair (.int .i64) .bool))) (.int .i64))) (.pair (.pair (.int .i64) (.pair (.int .i64) (.pair .bool (.pair .bool (.pair (.int .i64) (.pair (.int .i64) (.pair (.int .i64) .bool))))))) (.pair (.pair (.int .i64) (.pair (.int .i64) (.pair (.int .i64) (.int .i64)))) (.pair (.pair .bool (.pair .bool (.pair .bool (.pair .bool .bool)))) (.pair (.pair (.int .i64) (.int .i64)) (.pair (.int .i64) (.pair (.int .i64) (.int .i64)))))))) v0)), (.c (.frz (.pair (.pair (.pair (.int .i64) (.pair (.int .i64) (.pair (.int .i64) .bool))) (.pair (.pair (.int .i64) (.pair (.int .i64) (.pair (.int .i64) .bool))) (.int .i64))) (.pair (.pair (.int .i64) (.pair (.int .i64) (.pair .bool (.pair .bool (.pair (.int .i64) (.pair (.int .i64) (.pair (.int .i64) .bool))))))) (.pair (.pair (.int .i64) (.pair (.int .i64) (.pair (.int .i64) (.int .i64)))) (.pair (.pair .bool (.pair .bool (.pair .bool (.pair .bool .bool)))) (.pair (.pair (.int .i64) (.int .i64)) (.pair (.int .i64) (.pair (.int .i64) (.int .i64)))))))) v1))] [] dec)
noncomputable def F (v : A) : Option R := lim fun L => f (L 0) v
theorem F_cn (x : Nat) (v : A) : Cn late (F v) fun L => f (L x) v := of_lim.re [x]
def d (L0k : T0 → Option R) : A → Option R := fun (v0, v1) =>
br (!decide ((↑v0.length : Int) = (↑v1.length : Int))) (some false) (L0k (v0, v1, (↑v0.length : Int), 0))
theorem d_cn {ι : Type} {E : Fil ι} {L0k : T0 → Option R} {L0k' : ι → T0 → Option R} (hL0k : ∀ v, Cn E (L0k v) fun i => L0k' i v) : ∀ v : A, Cn E (d L0k v) fun i => d (L0k' i) v := fun (v0, v1) => (.br .some (hL0k _))
theorem f_b (k : Nat) : ∀ v : A, f k v = d (l0 k k) v := fun (v0, v1) => (held_eq _).trans (by kernel_rfl)
theorem F_of (v : A) {r : R} (h : d D0 v = some r) : F v = some r :=
  join_of (l := fun L => f (L 0) v) (d := fun L => d (l0 (L 0) (L 0)) v) (fun L => f_b (L 0) v) (d_cn (fun v => (D0_cn v).re [0, 0]) v) h
noncomputable def spec (k : Nat) (args : List AV) (ss : List Slot) : Option Ans :=
  match args, ss with
  | [(.c (.frz (.pair (.pair (.pair (.int .i64) (.pair (.int .i64) (.pair (.int .i64) .bool))) (.pair (.pair (.int .i64) (.pair (.int .i64) (.pair (.int .i64) .bool))) (.int .i64))) (.pair (.pair (.int .i64) (.pair (.int .i64) (.pair .bool (.pair .bool (.pair (.int .i64) (.pair (.int .i64) (.pair (.int .i64) .bool))))))) (.pair (.pair (.int .i64) (.pair (.int .i64) (.pair (.int .i64) (.int .i64)))) (.pair (.pair .bool (.pair .bool (.pair .bool (.pair .bool .bool)))) (.pair (.pair (.int .i64) (.int .i64)) (.pair (.int .i64) (.pair (.int .i64) (.int .i64)))))))) v0)), (.c (.frz (.pair (.pair (.pair (.int .i64) (.pair (.int .i64) (.pair (.int .i64) .bool))) (.pair (.pair (.int .i64) (.pair (.int .i64) (.pair (.int .i64) .bool))) (.int .i64))) (.pair (.pair (.int .i64) (.pair (.int .i64) (.pair .bool (.pair .bool (.pair (.int .i64) (.pair (.int .i64) (.pair (.int .i64) .bool))))))) (.pair (.pair (.int .i64) (.pair (.int .i64) (.pair (.int .i64) (.int .i64)))) (.pair (.pair .bool (.pair .bool (.pair .bool (.pair .bool .bool)))) (.pair (.pair (.int .i64) (.int .i64)) (.pair (.int .i64) (.pair (.int .i64) (.int .i64)))))))) v1))], [] => some ⟨R, f k (v0, v1), enc⟩
  | _, _ => none
theorem spec_ok (k : Nat) : SpecOk Try.prog 10 (spec k) := by
  intro args ss ans x h hx X σ w vals hp
  unfold spec at h
  split at h
  · cases h
    exact spec_of cs_ok Try.func10 rfl rfl dec_ok (held_eq _).symm hx hp
  · cases h
end slices_Equal_World
noncomputable def t_slices_Equal_World (k : Nat) := tcons 10 (slices_Equal_World.spec k) (t_guard_Run k)
theorem t_slices_Equal_World_ok (n g : Nat) : SpecOk Try.prog g (t_slices_Equal_World n g) := tcons_ok (slices_Equal_World.spec_ok n) (fun g => t_guard_Run_ok n g) g
namespace spykeep2_GuardRefusalsS1
abbrev R : Type := Bool
abbrev A : Type := Int
def lv : List (Nat × List Nat) := [(2000000, [2])]
noncomputable def cs : Nat → Ctx := ctxOf tis modes t_slices_Equal_World lv
theorem cs_ok (n : Nat) : CtxOk Try.prog (cs n) := ctxOf_ok rfl tis_ok t_slices_Equal_World_ok n
def enc (r : R) : Out := ((.c (.bool r)), [])
def dec : Out → Option R
  | ((.c (.bool v0)), []) => some v0
  | _ => none
theorem dec_ok : ∀ u y, dec u = some y → u = enc y := by
  intro u y h
  unfold dec at h
  split at h
  · cases h; rfl
  · cases h
noncomputable def b0 : Code := subF [] Try.f12
noncomputable def K0 (k : Nat) : Kt R := kTop (cs k) Try.f12 dec
noncomputable def f (k : Nat) : A → Option R := fun v0 => held (runFn cs k Try.f12 [(.c (.int .i64 v0))] [] dec)
noncomputable def F (v : A) : Option R := lim fun L => f (L 0) v
theorem F_cn (x : Nat) (v : A) : Cn late (F v) fun L => f (L x) v := of_lim.re [x]
def d : A → Option R := fun v0 =>
some !decide (v0 = 0)
theorem d_cn {ι : Type} {E : Fil ι} : ∀ v : A, Cn E (d v) fun i => d v := fun v0 => .some
theorem f_b (k : Nat) : ∀ v : A, f k v = d v := fun v0 => (held_eq _).trans (by kernel_rfl)
theorem F_of (v : A) {r : R} (h : d v = some r) : F v = some r :=
  join_of (l := fun L => f (L 0) v) (d := fun L => d v) (fun L => f_b (L 0) v) (d_cn v) h
noncomputable def spec (k : Nat) (args : List AV) (ss : List Slot) : Option Ans :=
  match args, ss with
  | [(.c (.int .i64 v0))], [] => some ⟨R, f k v0, enc⟩
  | _, _ => none
theorem spec_ok (k : Nat) : SpecOk Try.prog 12 (spec k) := by
  intro args ss ans x h hx X σ w vals hp
  unfold spec at h
  split at h
  · cases h
    exact spec_of cs_ok Try.func12 rfl rfl dec_ok (held_eq _).symm hx hp
  · cases h
end spykeep2_GuardRefusalsS1
noncomputable def t_spykeep2_GuardRefusalsS1 (k : Nat) := tcons 12 (spykeep2_GuardRefusalsS1.spec k) (t_slices_Equal_World k)
theorem t_spykeep2_GuardRefusalsS1_ok (n g : Nat) : SpecOk Try.prog g (t_spykeep2_GuardRefusalsS1 n g) := tcons_ok (spykeep2_GuardRefusalsS1.spec_ok n) (fun g => t_slices_Equal_World_ok n g) g
namespace slices_IndexFunc_Errno
abbrev R : Type := Int
abbrev A : Type := List Int
def lv : List (Nat × List Nat) := [(2000000, [4]), (2, [0, 1, 7, 8])]
noncomputable def cs : Nat → Ctx := ctxOf tis modes t_spykeep2_GuardRefusalsS1 lv
theorem cs_ok (n : Nat) : CtxOk Try.prog (cs n) := ctxOf_ok rfl tis_ok t_spykeep2_GuardRefusalsS1_ok n
def enc (r : R) : Out := ((.c (.int .i64 r)), [])
def dec : Out → Option R
  | ((.c (.int .i64 v0)), []) => some v0
  | _ => none
theorem dec_ok : ∀ u y, dec u = some y → u = enc y := by
  intro u y h
  unfold dec at h
  split at h
  · cases h; rfl
  · cases h
noncomputable def b0 : Code := subF [] Try.f27
noncomputable def K0 (k : Nat) : Kt R := kTop (cs k) Try.f27 dec
noncomputable def b2 : Code := sub [1, 0, 1, 0, 0] b0
noncomputable def K2 ( k : Nat) : Kt R := kAt (cs k) (loopN cs k) [1, 0, 1, 0] b0 (K0 k)
abbrev T0 : Type := List Int × Int × Int
def s0 : T0 → St := fun (v0, v1, v2) => ⟨19, 0, [(0, (.c (.frz (.int .i64) v0))), (1, (.c (.func 12 []))), (7, (.c (.int .i64 v1))), (8, (.c (.int .i64 v2)))], [], [(256000000, .gone)]⟩
noncomputable def l0 ( k n : Nat) (v : T0) : Option R := held (loopN cs n b2 (K2 k) (s0 v))
noncomputable def D0 (v : T0) : Option R := lim fun L => l0 (L 0) (L 1) v
theorem D0_cn (v : T0) : Cn late (D0 v) fun L => l0 (L 0) (L 1) v := of_lim
def d0 (spykeep2_GuardRefusalsS1_m1 : spykeep2_GuardRefusalsS1.A → Option spykeep2_GuardRefusalsS1.R) (L0m1 : T0 → Option R) : T0 → Option R := fun (v0, v1, v2) =>
br (decide (v2 < v1)) (br (decide (0 ≤ v2 ∧ v2 < (↑v0.length : Int))) (bnd (spykeep2_GuardRefusalsS1_m1 (rd (Ty.int IntKind.i64) v0 v2)) fun r => br r (some v2) (L0m1 (v0, v1, wrap IntKind.i64 (v2 + 1)))) none)
  (some (-1))
theorem d0_cn {ι : Type} {E : Fil ι} {spykeep2_GuardRefusalsS1_m1 : spykeep2_GuardRefusalsS1.A → Option spykeep2_GuardRefusalsS1.R} {spykeep2_GuardRefusalsS1_m1' : ι → spykeep2_GuardRefusalsS1.A → Option spykeep2_GuardRefusalsS1.R} (hspykeep2_GuardRefusalsS1_m1 : ∀ v, Cn E (spykeep2_GuardRefusalsS1_m1 v) fun i => spykeep2_GuardRefusalsS1_m1' i v) {L0m1 : T0 → Option R} {L0m1' : ι → T0 → Option R} (hL0m1 : ∀ v, Cn E (L0m1 v) fun i => L0m1' i v) : ∀ v : T0, Cn E (d0 spykeep2_GuardRefusalsS1_m1 L0m1 v) fun i => d0 (spykeep2_GuardRefusalsS1_m1' i) (L0m1' i) v := fun (v0, v1, v2) => (.br (.br (.bnd (hspykeep2_GuardRefusalsS1_m1 _) fun _ => (.br .some (hL0m1 _))) .none) .some)
theorem l0_b ( k m1 : Nat) : ∀ v : T0, run (cs m1) (loopN cs m1) b2 (kLoop cs m1 b2 (K2 k)) (s0 v) = d0 (spykeep2_GuardRefusalsS1.f m1) (l0 k m1) v := fun (v0, v1, v2) => by kernel_rfl
theorem D0_of (v : T0) {r : R} (h : d0 spykeep2_GuardRefusalsS1.F D0 v = some r) : D0 v = some r :=
  loop_of 1 (l := fun L => l0 (L 0) (L 1) v) (d := fun L => d0 (spykeep2_GuardRefusalsS1.f (L 1)) (l0 (L 0) (L 1)) v) (fun L n hn => by show l0 (L 0) (L 1) v = _; rw [hn]; exact (held_eq _).trans ((loopN_succ _ _ _ _ _).trans (l0_b (L 0) n v))) (d0_cn (spykeep2_GuardRefusalsS1.F_cn 1) (fun v => (D0_cn v).re [0, 1]) v) h
noncomputable def f (k : Nat) : A → Option R := fun v0 => held (runFn cs k Try.f27 [(.c (.frz (.int .i64) v0)), (.c (.func 12 []))] [] dec)
noncomputable def F (v : A) : Option R := lim fun L => f (L 0) v
theorem F_cn (x : Nat) (v : A) : Cn late (F v) fun L => f (L x) v := of_lim.re [x]
def d (L0k : T0 → Option R) : A → Option R := fun v0 =>
L0k (v0, (↑v0.length : Int), 0)
theorem d_cn {ι : Type} {E : Fil ι} {L0k : T0 → Option R} {L0k' : ι → T0 → Option R} (hL0k : ∀ v, Cn E (L0k v) fun i => L0k' i v) : ∀ v : A, Cn E (d L0k v) fun i => d (L0k' i) v := fun v0 => (hL0k _)
theorem f_b (k : Nat) : ∀ v : A, f k v = d (l0 k k) v := fun v0 => (held_eq _).trans (by kernel_rfl)
theorem F_of (v : A) {r : R} (h : d D0 v = some r) : F v = some r :=
  join_of (l := fun L => f (L 0) v) (d := fun L => d (l0 (L 0) (L 0)) v) (fun L => f_b (L 0) v) (d_cn (fun v => (D0_cn v).re [0, 0]) v) h
noncomputable def spec (k : Nat) (args : List AV) (ss : List Slot) : Option Ans :=
  match args, ss with
  | [(.c (.frz (.int .i64) v0)), (.c (.func 12 []))], [] => some ⟨R, f k v0, enc⟩
  | _, _ => none
theorem spec_ok (k : Nat) : SpecOk Try.prog 27 (spec k) := by
  intro args ss ans x h hx X σ w vals hp
  unfold spec at h
  split at h
  · cases h
    exact spec_of cs_ok Try.func27 rfl rfl dec_ok (held_eq _).symm hx hp
  · cases h
end slices_IndexFunc_Errno
noncomputable def t_slices_IndexFunc_Errno (k : Nat) := tcons 27 (slices_IndexFunc_Errno.spec k) (t_spykeep2_GuardRefusalsS1 k)
theorem t_slices_IndexFunc_Errno_ok (n g : Nat) : SpecOk Try.prog g (t_slices_IndexFunc_Errno n g) := tcons_ok (slices_IndexFunc_Errno.spec_ok n) (fun g => t_spykeep2_GuardRefusalsS1_ok n g) g
namespace slices_ContainsFunc_Errno
abbrev R : Type := Bool
abbrev A : Type := List Int
def lv : List (Nat × List Nat) := [(2000000, [4])]
noncomputable def cs : Nat → Ctx := ctxOf tis modes t_slices_IndexFunc_Errno lv
theorem cs_ok (n : Nat) : CtxOk Try.prog (cs n) := ctxOf_ok rfl tis_ok t_slices_IndexFunc_Errno_ok n
def enc (r : R) : Out := ((.c (.bool r)), [])
def dec : Out → Option R
  | ((.c (.bool v0)), []) => some v0
  | _ => none
theorem dec_ok : ∀ u y, dec u = some y → u = enc y := by
  intro u y h
  unfold dec at h
  split at h
  · cases h; rfl
  · cases h
noncomputable def b0 : Code := subF [] Try.f11
noncomputable def K0 (k : Nat) : Kt R := kTop (cs k) Try.f11 dec
noncomputable def f (k : Nat) : A → Option R := fun v0 => held (runFn cs k Try.f11 [(.c (.frz (.int .i64) v0)), (.c (.func 12 []))] [] dec)
noncomputable def F (v : A) : Option R := lim fun L => f (L 0) v
theorem F_cn (x : Nat) (v : A) : Cn late (F v) fun L => f (L x) v := of_lim.re [x]
def d (slices_IndexFunc_Errno_k : slices_IndexFunc_Errno.A → Option slices_IndexFunc_Errno.R) : A → Option R := fun v0 =>
bnd (slices_IndexFunc_Errno_k v0) fun r => some (decide (0 ≤ r))
theorem d_cn {ι : Type} {E : Fil ι} {slices_IndexFunc_Errno_k : slices_IndexFunc_Errno.A → Option slices_IndexFunc_Errno.R} {slices_IndexFunc_Errno_k' : ι → slices_IndexFunc_Errno.A → Option slices_IndexFunc_Errno.R} (hslices_IndexFunc_Errno_k : ∀ v, Cn E (slices_IndexFunc_Errno_k v) fun i => slices_IndexFunc_Errno_k' i v) : ∀ v : A, Cn E (d slices_IndexFunc_Errno_k v) fun i => d (slices_IndexFunc_Errno_k' i) v := fun v0 => (.bnd (hslices_IndexFunc_Errno_k _) fun _ => .some)
theorem f_b (k : Nat) : ∀ v : A, f k v = d (slices_IndexFunc_Errno.f k) v := fun v0 => (held_eq _).trans (by kernel_rfl)
theorem F_of (v : A) {r : R} (h : d slices_IndexFunc_Errno.F v = some r) : F v = some r :=
  join_of (l := fun L => f (L 0) v) (d := fun L => d (slices_IndexFunc_Errno.f (L 0)) v) (fun L => f_b (L 0) v) (d_cn (slices_IndexFunc_Errno.F_cn 0) v) h
noncomputable def spec (k : Nat) (args : List AV) (ss : List Slot) : Option Ans :=
  match args, ss with
  | [(.c (.frz (.int .i64) v0)), (.c (.func 12 []))], [] => some ⟨R, f k v0, enc⟩
  | _, _ => none
theorem spec_ok (k : Nat) : SpecOk Try.prog 11 (spec k) := by
  intro args ss ans x h hx X σ w vals hp
  unfold spec at h
  split at h
  · cases h
    exact spec_of cs_ok Try.func11 rfl rfl dec_ok (held_eq _).symm hx hp
  · cases h
end slices_ContainsFunc_Errno
noncomputable def t_slices_ContainsFunc_Errno (k : Nat) := tcons 11 (slices_ContainsFunc_Errno.spec k) (t_slices_IndexFunc_Errno k)
theorem t_slices_ContainsFunc_Errno_ok (n g : Nat) : SpecOk Try.prog g (t_slices_ContainsFunc_Errno n g) := tcons_ok (slices_ContainsFunc_Errno.spec_ok n) (fun g => t_slices_IndexFunc_Errno_ok n g) g
namespace spykeep2_GuardRefusals
abbrev R : Type := Bool
abbrev A : Type := List Int
def lv : List (Nat × List Nat) := [(3000000, [45]), (2000000, [2]), (11, [4, 6, 7, 9, 46, 47, 48]), (15, [4, 6, 7, 9, 10, 46, 47, 48, 60, 61, 62]), (1000021, [4, 6, 7, 9, 10, 46, 47, 48, 60, 61, 62]), (1000022, [4, 6, 7, 9, 10, 46, 47, 48, 60, 61, 62])]
noncomputable def cs : Nat → Ctx := ctxOf tis modes t_slices_ContainsFunc_Errno lv
theorem cs_ok (n : Nat) : CtxOk Try.prog (cs n) := ctxOf_ok rfl tis_ok t_slices_ContainsFunc_Errno_ok n
def enc (r : R) : Out := ((.c (.bool r)), [])
def dec : Out → Option R
  | ((.c (.bool v0)), []) => some v0
  | _ => none
theorem dec_ok : ∀ u y, dec u = some y → u = enc y := by
  intro u y h
  unfold dec at h
  split at h
  · cases h; rfl
  · cases h
noncomputable def b0 : Code := subF [] Try.f3
noncomputable def K0 (k : Nat) : Kt R := kTop (cs k) Try.f3 dec
noncomputable def b11 : Code := sub [1, 1, 1, 1, 1, 1, 1, 1, 0, 1, 0, 0] b0
noncomputable def K11 ( k : Nat) : Kt R := kAt (cs k) (loopN cs k) [1, 1, 1, 1, 1, 1, 1, 1, 0, 1, 0] b0 (K0 k)
noncomputable def b15 : Code := sub [1, 1, 0, 0, 1, 1, 1, 0, 0] b11
noncomputable def K15 ( k m1 : Nat) : Kt R := kAt (cs m1) (loopN cs m1) [1, 1, 0, 0, 1, 1, 1, 0] b11 (kLoop cs m1 b11 (K11 k))
noncomputable def c1000022 : Code := sub [1, 1, 1] b15
noncomputable def J1000022 ( k m1 m2 : Nat) : Kt R := kAt (cs m2) (loopN cs m2) [1, 1, 1] b15 (kLoop cs m2 b15 (K15 k m1))
noncomputable def c1000021 : Code := sub [1, 1, 0, 0, 1, 1, 1] b15
noncomputable def J1000021 ( k m1 m2 : Nat) : Kt R := kAt (cs m2) (loopN cs m2) [1, 1, 0, 0, 1, 1, 1] b15 (kLoop cs m2 b15 (K15 k m1))
abbrev T0 : Type := Int × Int × Int × Int × Int × Int × Int × Int × Int × Int × Int × Int × List (((Int × Int × Int × Bool) × (Int × Int × Int × Bool) × Int) × (Int × Int × Bool × Bool × Int × Int × Int × Bool) × (Int × Int × Int × Int) × (Bool × Bool × Bool × Bool × Bool) × (Int × Int) × Int × Int × Int) × List Int × List (List (Int × Int) × Bool × Bool × Bool × Bool × Bool) × List (List (Int × Int) × Bool × Bool × Bool × Bool × Bool)
def s0 : T0 → St := fun (v0, v1, v2, v3, v4, v5, v6, v7, v8, v9, v10, v11, v12, v13, v14, v15) => ⟨110, 0, [(4, (.c (.ptr 64000000 0))), (6, (.c (.sl 64000001))), (7, (.c (.sl 64000002))), (9, (.c (.sl 64000003))), (46, (.c (.sl 64000004))), (47, (.c (.int .i64 v0))), (48, (.c (.int .i64 v1)))], [], [(256000000, .gone), (64000000, (.box [(.int .i64 v2), (.int .i64 v3), (.int .i64 v4), (.int .i64 v5), (.int .i64 v6), (.int .i64 v7), (.int .i64 v8), (.int .i64 v9), (.int .i64 v10), (.int .i64 v11)])), (64000001, (.row (.pair (.pair (.pair (.int .i64) (.pair (.int .i64) (.pair (.int .i64) .bool))) (.pair (.pair (.int .i64) (.pair (.int .i64) (.pair (.int .i64) .bool))) (.int .i64))) (.pair (.pair (.int .i64) (.pair (.int .i64) (.pair .bool (.pair .bool (.pair (.int .i64) (.pair (.int .i64) (.pair (.int .i64) .bool))))))) (.pair (.pair (.int .i64) (.pair (.int .i64) (.pair (.int .i64) (.int .i64)))) (.pair (.pair .bool (.pair .bool (.pair .bool (.pair .bool .bool)))) (.pair (.pair (.int .i64) (.int .i64)) (.pair (.int .i64) (.pair (.int .i64) (.int .i64)))))))) v12)), (64000002, (.row (.int .i64) v13)), (64000003, (.nest (.pair (.slice (.pair (.int .i64) (.int .i64))) (.pair .bool (.pair .bool (.pair .bool (.pair .bool .bool))))) v14 .none)), (64000004, (.row (.pair (.slice (.pair (.int .i64) (.int .i64))) (.pair .bool (.pair .bool (.pair .bool (.pair .bool .bool))))) v15))]⟩
noncomputable def l0 ( k n : Nat) (v : T0) : Option R := held (loopN cs n b11 (K11 k) (s0 v))
noncomputable def D0 (v : T0) : Option R := lim fun L => l0 (L 0) (L 1) v
theorem D0_cn (v : T0) : Cn late (D0 v) fun L => l0 (L 0) (L 1) v := of_lim
abbrev T1 : Type := Int × Int × Int × List (Int × Int) × Int × Int × Int × Int × Int × Int × Int × Int × Int × Int × Int × Int × List (((Int × Int × Int × Bool) × (Int × Int × Int × Bool) × Int) × (Int × Int × Bool × Bool × Int × Int × Int × Bool) × (Int × Int × Int × Int) × (Bool × Bool × Bool × Bool × Bool) × (Int × Int) × Int × Int × Int) × List Int × List (List (Int × Int) × Bool × Bool × Bool × Bool × Bool) × List (List (Int × Int) × Bool × Bool × Bool × Bool × Bool)
def s1 : T1 → St := fun (v0, v1, v2, v3, v4, v5, v6, v7, v8, v9, v10, v11, v12, v13, v14, v15, v16, v17, v18, v19) => ⟨110, 0, [(4, (.c (.ptr 64000000 0))), (6, (.c (.sl 64000001))), (7, (.c (.sl 64000002))), (9, (.c (.sl 64000003))), (10, (.c (.int .i64 v0))), (46, (.c (.sl 64000004))), (47, (.c (.int .i64 v1))), (48, (.c (.int .i64 v2))), (60, (.c (.frz (.pair (.int .i64) (.int .i64)) v3))), (61, (.c (.int .i64 v4))), (62, (.c (.int .i64 v5)))], [], [(256000000, .gone), (64000000, (.box [(.int .i64 v6), (.int .i64 v7), (.int .i64 v8), (.int .i64 v9), (.int .i64 v10), (.int .i64 v11), (.int .i64 v12), (.int .i64 v13), (.int .i64 v14), (.int .i64 v15)])), (64000001, (.row (.pair (.pair (.pair (.int .i64) (.pair (.int .i64) (.pair (.int .i64) .bool))) (.pair (.pair (.int .i64) (.pair (.int .i64) (.pair (.int .i64) .bool))) (.int .i64))) (.pair (.pair (.int .i64) (.pair (.int .i64) (.pair .bool (.pair .bool (.pair (.int .i64) (.pair (.int .i64) (.pair (.int .i64) .bool))))))) (.pair (.pair (.int .i64) (.pair (.int .i64) (.pair (.int .i64) (.int .i64)))) (.pair (.pair .bool (.pair .bool (.pair .bool (.pair .bool .bool)))) (.pair (.pair (.int .i64) (.int .i64)) (.pair (.int .i64) (.pair (.int .i64) (.int .i64)))))))) v16)), (64000002, (.row (.int .i64) v17)), (64000003, (.nest (.pair (.slice (.pair (.int .i64) (.int .i64))) (.pair .bool (.pair .bool (.pair .bool (.pair .bool .bool))))) v18 .none)), (64000004, (.row (.pair (.slice (.pair (.int .i64) (.int .i64))) (.pair .bool (.pair .bool (.pair .bool (.pair .bool .bool))))) v19))]⟩
noncomputable def l1 ( k m1 n : Nat) (v : T1) : Option R := held (loopN cs n b15 (K15 k m1) (s1 v))
noncomputable def D1 (v : T1) : Option R := lim fun L => l1 (L 0) (L 1) (L 2) v
theorem D1_cn (v : T1) : Cn late (D1 v) fun L => l1 (L 0) (L 1) (L 2) v := of_lim
abbrev T2 : Type := Int × Int × Int × List (Int × Int) × Int × Int × Int × Int × Int × Int × Int × Int × Int × Int × Int × Int × List (((Int × Int × Int × Bool) × (Int × Int × Int × Bool) × Int) × (Int × Int × Bool × Bool × Int × Int × Int × Bool) × (Int × Int × Int × Int) × (Bool × Bool × Bool × Bool × Bool) × (Int × Int) × Int × Int × Int) × List Int × List (List (Int × Int) × Bool × Bool × Bool × Bool × Bool) × List (List (Int × Int) × Bool × Bool × Bool × Bool × Bool)
def s2 : T2 → St := fun (v0, v1, v2, v3, v4, v5, v6, v7, v8, v9, v10, v11, v12, v13, v14, v15, v16, v17, v18, v19) => ⟨110, 0, [(4, (.c (.ptr 64000000 0))), (6, (.c (.sl 64000001))), (7, (.c (.sl 64000002))), (9, (.c (.sl 64000003))), (10, (.c (.int .i64 v0))), (46, (.c (.sl 64000004))), (47, (.c (.int .i64 v1))), (48, (.c (.int .i64 v2))), (60, (.c (.frz (.pair (.int .i64) (.int .i64)) v3))), (61, (.c (.int .i64 v4))), (62, (.c (.int .i64 v5)))], [], [(256000000, .gone), (64000000, (.box [(.int .i64 v6), (.int .i64 v7), (.int .i64 v8), (.int .i64 v9), (.int .i64 v10), (.int .i64 v11), (.int .i64 v12), (.int .i64 v13), (.int .i64 v14), (.int .i64 v15)])), (64000001, (.row (.pair (.pair (.pair (.int .i64) (.pair (.int .i64) (.pair (.int .i64) .bool))) (.pair (.pair (.int .i64) (.pair (.int .i64) (.pair (.int .i64) .bool))) (.int .i64))) (.pair (.pair (.int .i64) (.pair (.int .i64) (.pair .bool (.pair .bool (.pair (.int .i64) (.pair (.int .i64) (.pair (.int .i64) .bool))))))) (.pair (.pair (.int .i64) (.pair (.int .i64) (.pair (.int .i64) (.int .i64)))) (.pair (.pair .bool (.pair .bool (.pair .bool (.pair .bool .bool)))) (.pair (.pair (.int .i64) (.int .i64)) (.pair (.int .i64) (.pair (.int .i64) (.int .i64)))))))) v16)), (64000002, (.row (.int .i64) v17)), (64000003, (.nest (.pair (.slice (.pair (.int .i64) (.int .i64))) (.pair .bool (.pair .bool (.pair .bool (.pair .bool .bool))))) v18 .none)), (64000004, (.row (.pair (.slice (.pair (.int .i64) (.int .i64))) (.pair .bool (.pair .bool (.pair .bool (.pair .bool .bool))))) v19))]⟩
noncomputable def l2 ( k m1 m2 : Nat) (v : T2) : Option R := held (run (cs m2) (loopN cs m2) c1000021 (J1000021 k m1 m2) (s2 v))
noncomputable def D2 (v : T2) : Option R := lim fun L => l2 (L 0) (L 1) (L 2) v
theorem D2_cn (v : T2) : Cn late (D2 v) fun L => l2 (L 0) (L 1) (L 2) v := of_lim
abbrev T3 : Type := Int × Int × Int × List (Int × Int) × Int × Int × Int × Int × Int × Int × Int × Int × Int × Int × Int × Int × List (((Int × Int × Int × Bool) × (Int × Int × Int × Bool) × Int) × (Int × Int × Bool × Bool × Int × Int × Int × Bool) × (Int × Int × Int × Int) × (Bool × Bool × Bool × Bool × Bool) × (Int × Int) × Int × Int × Int) × List Int × List (List (Int × Int) × Bool × Bool × Bool × Bool × Bool) × List (List (Int × Int) × Bool × Bool × Bool × Bool × Bool)
def s3 : T3 → St := fun (v0, v1, v2, v3, v4, v5, v6, v7, v8, v9, v10, v11, v12, v13, v14, v15, v16, v17, v18, v19) => ⟨110, 0, [(4, (.c (.ptr 64000000 0))), (6, (.c (.sl 64000001))), (7, (.c (.sl 64000002))), (9, (.c (.sl 64000003))), (10, (.c (.int .i64 v0))), (46, (.c (.sl 64000004))), (47, (.c (.int .i64 v1))), (48, (.c (.int .i64 v2))), (60, (.c (.frz (.pair (.int .i64) (.int .i64)) v3))), (61, (.c (.int .i64 v4))), (62, (.c (.int .i64 v5)))], [], [(256000000, .gone), (64000000, (.box [(.int .i64 v6), (.int .i64 v7), (.int .i64 v8), (.int .i64 v9), (.int .i64 v10), (.int .i64 v11), (.int .i64 v12), (.int .i64 v13), (.int .i64 v14), (.int .i64 v15)])), (64000001, (.row (.pair (.pair (.pair (.int .i64) (.pair (.int .i64) (.pair (.int .i64) .bool))) (.pair (.pair (.int .i64) (.pair (.int .i64) (.pair (.int .i64) .bool))) (.int .i64))) (.pair (.pair (.int .i64) (.pair (.int .i64) (.pair .bool (.pair .bool (.pair (.int .i64) (.pair (.int .i64) (.pair (.int .i64) .bool))))))) (.pair (.pair (.int .i64) (.pair (.int .i64) (.pair (.int .i64) (.int .i64)))) (.pair (.pair .bool (.pair .bool (.pair .bool (.pair .bool .bool)))) (.pair (.pair (.int .i64) (.int .i64)) (.pair (.int .i64) (.pair (.int .i64) (.int .i64)))))))) v16)), (64000002, (.row (.int .i64) v17)), (64000003, (.nest (.pair (.slice (.pair (.int .i64) (.int .i64))) (.pair .bool (.pair .bool (.pair .bool (.pair .bool .bool))))) v18 .none)), (64000004, (.row (.pair (.slice (.pair (.int .i64) (.int .i64))) (.pair .bool (.pair .bool (.pair .bool (.pair .bool .bool))))) v19))]⟩
noncomputable def l3 ( k m1 m2 : Nat) (v : T3) : Option R := held (run (cs m2) (loopN cs m2) c1000022 (J1000022 k m1 m2) (s3 v))
noncomputable def D3 (v : T3) : Option R := lim fun L => l3 (L 0) (L 1) (L 2) v
theorem D3_cn (v : T3) : Cn late (D3 v) fun L => l3 (L 0) (L 1) (L 2) v := of_lim
def d0 (L1m1 : T1 → Option R) (guard_Start_k : guard_Start.A → Option guard_Start.R) (guard_Run_k : guard_Run.A → Option guard_Run.R) (slices_Equal_World_k : slices_Equal_World.A → Option slices_Equal_World.R) (slices_ContainsFunc_Errno_k : slices_ContainsFunc_Errno.A → Option slices_ContainsFunc_Errno.R) : T0 → Option R := fun (v0, v1, v2, v3, v4, v5, v6, v7, v8, v9, v10, v11, v12, v13, v14, v15) =>
br (decide (v1 < v0))
  (br (decide (0 ≤ v1 ∧ v1 < (↑v15.length : Int)))
    (br (decide (0 ≤ v1 ∧ v1 < (↑v14.length : Int)))
      (L1m1
        (v1, v0, v1, (rd ty0 v15 v1).fst,
          (↑(List.length (rd ty0 v15 v1).fst) : Int), 0, v2, v3, v4, v5, v6, v7, v8, v9, v10,
          v11, v12, v13,
          v14.set v1.toNat
            ((rd ty0 v14 v1).fst,
              (rd ty0 v15 v1).snd.fst,
              (rd ty0 v15 v1).snd.snd.fst,
              (rd ty0 v15 v1).snd.snd.snd.fst,
              (rd ty0 v15 v1).snd.snd.snd.snd.fst,
              (rd ty0 v15 v1).snd.snd.snd.snd.snd),
          v15))
      none)
    none)
  (bnd (guard_Start_k (v2, v3, v4, v5, v6, v7, v8, v9, v10, v11)) fun r =>
    bnd
      (guard_Run_k
        (v2, v3, v4, v5, v6, v7, v8, v9, v10, v11, r.fst, r.snd.fst, r.snd.snd.fst, r.snd.snd.snd.fst, r.snd.snd.snd.snd.fst, r.snd.snd.snd.snd.snd.fst, r.snd.snd.snd.snd.snd.snd.fst, r.snd.snd.snd.snd.snd.snd.snd.fst,
          r.snd.snd.snd.snd.snd.snd.snd.snd.fst, r.snd.snd.snd.snd.snd.snd.snd.snd.snd.fst, r.snd.snd.snd.snd.snd.snd.snd.snd.snd.snd.fst, r.snd.snd.snd.snd.snd.snd.snd.snd.snd.snd.snd.fst,
          r.snd.snd.snd.snd.snd.snd.snd.snd.snd.snd.snd.snd.fst, r.snd.snd.snd.snd.snd.snd.snd.snd.snd.snd.snd.snd.snd.fst, r.snd.snd.snd.snd.snd.snd.snd.snd.snd.snd.snd.snd.snd.snd.fst,
          r.snd.snd.snd.snd.snd.snd.snd.snd.snd.snd.snd.snd.snd.snd.snd.fst, r.snd.snd.snd.snd.snd.snd.snd.snd.snd.snd.snd.snd.snd.snd.snd.snd.fst,
          r.snd.snd.snd.snd.snd.snd.snd.snd.snd.snd.snd.snd.snd.snd.snd.snd.snd.fst, r.snd.snd.snd.snd.snd.snd.snd.snd.snd.snd.snd.snd.snd.snd.snd.snd.snd.snd.fst,
          r.snd.snd.snd.snd.snd.snd.snd.snd.snd.snd.snd.snd.snd.snd.snd.snd.snd.snd.snd.fst, r.snd.snd.snd.snd.snd.snd.snd.snd.snd.snd.snd.snd.snd.snd.snd.snd.snd.snd.snd.snd.fst,
          r.snd.snd.snd.snd.snd.snd.snd.snd.snd.snd.snd.snd.snd.snd.snd.snd.snd.snd.snd.snd.snd.fst, r.snd.snd.snd.snd.snd.snd.snd.snd.snd.snd.snd.snd.snd.snd.snd.snd.snd.snd.snd.snd.snd.snd.fst,
          r.snd.snd.snd.snd.snd.snd.snd.snd.snd.snd.snd.snd.snd.snd.snd.snd.snd.snd.snd.snd.snd.snd.snd.fst, r.snd.snd.snd.snd.snd.snd.snd.snd.snd.snd.snd.snd.snd.snd.snd.snd.snd.snd.snd.snd.snd.snd.snd.snd.fst,
          r.snd.snd.snd.snd.snd.snd.snd.snd.snd.snd.snd.snd.snd.snd.snd.snd.snd.snd.snd.snd.snd.snd.snd.snd.snd.fst,
          r.snd.snd.snd.snd.snd.snd.snd.snd.snd.snd.snd.snd.snd.snd.snd.snd.snd.snd.snd.snd.snd.snd.snd.snd.snd.snd.fst,
          r.snd.snd.snd.snd.snd.snd.snd.snd.snd.snd.snd.snd.snd.snd.snd.snd.snd.snd.snd.snd.snd.snd.snd.snd.snd.snd.snd.fst,
          r.snd.snd.snd.snd.snd.snd.snd.snd.snd.snd.snd.snd.snd.snd.snd.snd.snd.snd.snd.snd.snd.snd.snd.snd.snd.snd.snd.snd.fst,
          r.snd.snd.snd.snd.snd.snd.snd.snd.snd.snd.snd.snd.snd.snd.snd.snd.snd.snd.snd.snd.snd.snd.snd.snd.snd.snd.snd.snd.snd.fst,
          r.snd.snd.snd.snd.snd.snd.snd.snd.snd.snd.snd.snd.snd.snd.snd.snd.snd.snd.snd.snd.snd.snd.snd.snd.snd.snd.snd.snd.snd.snd, v14))
      fun r => br (decide (r.fst = 0) == true) (bnd (slices_Equal_World_k (r.snd.fst, v12)) fun r_1 => br (r_1 == true) (bnd (slices_ContainsFunc_Errno_k r.snd.snd) fun r => some !r) (some false)) (some false))
theorem d0_cn {ι : Type} {E : Fil ι} {L1m1 : T1 → Option R} {L1m1' : ι → T1 → Option R} (hL1m1 : ∀ v, Cn E (L1m1 v) fun i => L1m1' i v) {guard_Start_k : guard_Start.A → Option guard_Start.R} {guard_Start_k' : ι → guard_Start.A → Option guard_Start.R} (hguard_Start_k : ∀ v, Cn E (guard_Start_k v) fun i => guard_Start_k' i v) {guard_Run_k : guard_Run.A → Option guard_Run.R} {guard_Run_k' : ι → guard_Run.A → Option guard_Run.R} (hguard_Run_k : ∀ v, Cn E (guard_Run_k v) fun i => guard_Run_k' i v) {slices_Equal_World_k : slices_Equal_World.A → Option slices_Equal_World.R} {slices_Equal_World_k' : ι → slices_Equal_World.A → Option slices_Equal_World.R} (hslices_Equal_World_k : ∀ v, Cn E (slices_Equal_World_k v) fun i => slices_Equal_World_k' i v) {slices_ContainsFunc_Errno_k : slices_ContainsFunc_Errno.A → Option slices_ContainsFunc_Errno.R} {slices_ContainsFunc_Errno_k' : ι → slices_ContainsFunc_Errno.A → Option slices_ContainsFunc_Errno.R} (hslices_ContainsFunc_Errno_k : ∀ v, Cn E (slices_ContainsFunc_Errno_k v) fun i => slices_ContainsFunc_Errno_k' i v) : ∀ v : T0, Cn E (d0 L1m1 guard_Start_k guard_Run_k slices_Equal_World_k slices_ContainsFunc_Errno_k v) fun i => d0 (L1m1' i) (guard_Start_k' i) (guard_Run_k' i) (slices_Equal_World_k' i) (slices_ContainsFunc_Errno_k' i) v := fun (v0, v1, v2, v3, v4, v5, v6, v7, v8, v9, v10, v11, v12, v13, v14, v15) => (.br (.br (.br (hL1m1 _) .none) .none) (.bnd (hguard_Start_k _) fun _ => (.bnd (hguard_Run_k _) fun _ => (.br (.bnd (hslices_Equal_World_k _) fun _ => (.br (.bnd (hslices_ContainsFunc_Errno_k _) fun _ => .some) .some)) .some))))
theorem l0_b ( k m1 : Nat) : ∀ v : T0, run (cs m1) (loopN cs m1) b11 (kLoop cs m1 b11 (K11 k)) (s0 v) = d0 (l1 k m1 m1) (guard_Start.f k) (guard_Run.f k) (slices_Equal_World.f k) (slices_ContainsFunc_Errno.f k) v := fun (v0, v1, v2, v3, v4, v5, v6, v7, v8, v9, v10, v11, v12, v13, v14, v15) => by kernel_rfl
theorem D0_of (v : T0) {r : R} (h : d0 D1 guard_Start.F guard_Run.F slices_Equal_World.F slices_ContainsFunc_Errno.F v = some r) : D0 v = some r :=
  loop_of 1 (l := fun L => l0 (L 0) (L 1) v) (d := fun L => d0 (l1 (L 0) (L 1) (L 1)) (guard_Start.f (L 0)) (guard_Run.f (L 0)) (slices_Equal_World.f (L 0)) (slices_ContainsFunc_Errno.f (L 0)) v) (fun L n hn => by show l0 (L 0) (L 1) v = _; rw [hn]; exact (held_eq _).trans ((loopN_succ _ _ _ _ _).trans (l0_b (L 0) n v))) (d0_cn (fun v => (D1_cn v).re [0, 1, 1]) (guard_Start.F_cn 0) (guard_Run.F_cn 0) (slices_Equal_World.F_cn 0) (slices_ContainsFunc_Errno.F_cn 0) v) h
def d1 (L2m2 : T2 → Option R) (L0m1 : T0 → Option R) : T1 → Option R := fun (v0, v1, v2, v3, v4, v5, v6, v7, v8, v9, v10, v11, v12, v13, v14, v15, v16, v17, v18, v19) =>
br (decide (v5 < v4))
  (br (decide (0 ≤ v5 ∧ v5 < (↑v3.length : Int)))
    (br (decide ((↑v17.length : Int) = 0)) (some false)
      (br (decide ((0 : Int) ≤ 0 ∧ 0 < (↑v17.length : Int)))
        (br (decide (rd (Ty.int IntKind.i64) v17 0 = 0))
          (br (decide (0 ≤ v0 ∧ v0 < (↑v18.length : Int)))
            (br
              (decide
                (List.length (rd ty0 v18 v0).fst +
                    [((rd ((Ty.int IntKind.i64).pair (Ty.int IntKind.i64)) v3 v5).fst, (rd ((Ty.int IntKind.i64).pair (Ty.int IntKind.i64)) v3 v5).snd)].length ≤
                  140737488355328 / 16))
              (br (decide (0 ≤ v0 ∧ v0 < (↑v18.length : Int)))
                (br (decide (v0 = v0))
                  (L2m2
                    (v0, v1, v2, v3, v4, v5, v6, v7, v8, v9, v10, v11, v12, v13, v14, v15, v16, v17,
                      v18.set v0.toNat
                        ((rd ty0 v18 v0).fst ++
                            [((rd ((Ty.int IntKind.i64).pair (Ty.int IntKind.i64)) v3 v5).fst, (rd ((Ty.int IntKind.i64).pair (Ty.int IntKind.i64)) v3 v5).snd)],
                          (rd ty0 v18 v0).snd),
                      v19))
                  none)
                none)
              none)
            none)
          (L2m2 (v0, v1, v2, v3, v4, v5, v6, v7, v8, v9, v10, v11, v12, v13, v14, v15, v16, v17, v18, v19)))
        none))
    none)
  (L0m1 (v1, wrap IntKind.i64 (v2 + 1), v6, v7, v8, v9, v10, v11, v12, v13, v14, v15, v16, v17, v18, v19))
theorem d1_cn {ι : Type} {E : Fil ι} {L2m2 : T2 → Option R} {L2m2' : ι → T2 → Option R} (hL2m2 : ∀ v, Cn E (L2m2 v) fun i => L2m2' i v) {L0m1 : T0 → Option R} {L0m1' : ι → T0 → Option R} (hL0m1 : ∀ v, Cn E (L0m1 v) fun i => L0m1' i v) : ∀ v : T1, Cn E (d1 L2m2 L0m1 v) fun i => d1 (L2m2' i) (L0m1' i) v := fun (v0, v1, v2, v3, v4, v5, v6, v7, v8, v9, v10, v11, v12, v13, v14, v15, v16, v17, v18, v19) => (.br (.br (.br .some (.br (.br (.br (.br (.br (.br (hL2m2 _) .none) .none) .none) .none) (hL2m2 _)) .none)) .none) (hL0m1 _))
theorem l1_b ( k m1 m2 : Nat) : ∀ v : T1, run (cs m2) (loopN cs m2) b15 (kLoop cs m2 b15 (K15 k m1)) (s1 v) = d1 (l2 k m1 m2) (l0 k m1) v := fun (v0, v1, v2, v3, v4, v5, v6, v7, v8, v9, v10, v11, v12, v13, v14, v15, v16, v17, v18, v19) => by kernel_rfl
theorem D1_of (v : T1) {r : R} (h : d1 D2 D0 v = some r) : D1 v = some r :=
  loop_of 2 (l := fun L => l1 (L 0) (L 1) (L 2) v) (d := fun L => d1 (l2 (L 0) (L 1) (L 2)) (l0 (L 0) (L 1)) v) (fun L n hn => by show l1 (L 0) (L 1) (L 2) v = _; rw [hn]; exact (held_eq _).trans ((loopN_succ _ _ _ _ _).trans (l1_b (L 0) (L 1) n v))) (d1_cn (fun v => (D2_cn v).re [0, 1, 2]) (fun v => (D0_cn v).re [0, 1]) v) h
def d2 (L3m2 : T3 → Option R) : T2 → Option R := fun (v0, v1, v2, v3, v4, v5, v6, v7, v8, v9, v10, v11, v12, v13, v14, v15, v16, v17, v18, v19) =>
br (decide ((0 : Int) ≤ 1 ∧ 1 ≤ (↑v17.length : Int))) (L3m2 (v0, v1, v2, v3, v4, v5, v6, v7, v8, v9, v10, v11, v12, v13, v14, v15, v16, List.drop (Int.toNat 1) (List.take (↑v17.length : Int).toNat v17), v18, v19)) none
theorem d2_cn {ι : Type} {E : Fil ι} {L3m2 : T3 → Option R} {L3m2' : ι → T3 → Option R} (hL3m2 : ∀ v, Cn E (L3m2 v) fun i => L3m2' i v) : ∀ v : T2, Cn E (d2 L3m2 v) fun i => d2 (L3m2' i) v := fun (v0, v1, v2, v3, v4, v5, v6, v7, v8, v9, v10, v11, v12, v13, v14, v15, v16, v17, v18, v19) => (.br (hL3m2 _) .none)
theorem l2_b ( k m1 m2 : Nat) : ∀ v : T2, run (cs m2) (loopN cs m2) c1000021 (J1000021 k m1 m2) (s2 v) = d2 (l3 k m1 m2) v := fun (v0, v1, v2, v3, v4, v5, v6, v7, v8, v9, v10, v11, v12, v13, v14, v15, v16, v17, v18, v19) => by kernel_rfl
theorem D2_of (v : T2) {r : R} (h : d2 D3 v = some r) : D2 v = some r :=
  join_of (l := fun L => l2 (L 0) (L 1) (L 2) v) (d := fun L => d2 (l3 (L 0) (L 1) (L 2)) v) (fun L => (held_eq _).trans (l2_b (L 0) (L 1) (L 2) v)) (d2_cn (fun v => (D3_cn v).re [0, 1, 2]) v) h
def d3 (L1m2 : T1 → Option R) : T3 → Option R := fun (v0, v1, v2, v3, v4, v5, v6, v7, v8, v9, v10, v11, v12, v13, v14, v15, v16, v17, v18, v19) =>
L1m2 (v0, v1, v2, v3, v4, wrap IntKind.i64 (v5 + 1), v6, v7, v8, v9, v10, v11, v12, v13, v14, v15, v16, v17, v18, v19)
theorem d3_cn {ι : Type} {E : Fil ι} {L1m2 : T1 → Option R} {L1m2' : ι → T1 → Option R} (hL1m2 : ∀ v, Cn E (L1m2 v) fun i => L1m2' i v) : ∀ v : T3, Cn E (d3 L1m2 v) fun i => d3 (L1m2' i) v := fun (v0, v1, v2, v3, v4, v5, v6, v7, v8, v9, v10, v11, v12, v13, v14, v15, v16, v17, v18, v19) => (hL1m2 _)
theorem l3_b ( k m1 m2 : Nat) : ∀ v : T3, run (cs m2) (loopN cs m2) c1000022 (J1000022 k m1 m2) (s3 v) = d3 (l1 k m1 m2) v := fun (v0, v1, v2, v3, v4, v5, v6, v7, v8, v9, v10, v11, v12, v13, v14, v15, v16, v17, v18, v19) => by kernel_rfl
theorem D3_of (v : T3) {r : R} (h : d3 D1 v = some r) : D3 v = some r :=
  join_of (l := fun L => l3 (L 0) (L 1) (L 2) v) (d := fun L => d3 (l1 (L 0) (L 1) (L 2)) v) (fun L => (held_eq _).trans (l3_b (L 0) (L 1) (L 2) v)) (d3_cn (fun v => (D1_cn v).re [0, 1, 2]) v) h
noncomputable def f (k : Nat) : A → Option R := fun v0 => held (runFn cs k Try.f3 [(.c (.frz (.int .i64) v0))] [] dec)
noncomputable def F (v : A) : Option R := lim fun L => f (L 0) v
theorem F_cn (x : Nat) (v : A) : Cn late (F v) fun L => f (L x) v := of_lim.re [x]
def d (spykeep2_guarded_k : spykeep2_guarded.A → Option spykeep2_guarded.R) (spymake_Stream_Mount_k : spymake_Stream_Mount.A → Option spymake_Stream_Mount.R) (spykeep2_script_k : spykeep2_script.A → Option spykeep2_script.R) (guard_Start_k : guard_Start.A → Option guard_Start.R) (guard_Run_k : guard_Run.A → Option guard_Run.R) (L0k : T0 → Option R) : A → Option R := fun v0 =>
bnd (spykeep2_guarded_k ()) fun r =>
  br (!r) (some false)
    (bnd (spymake_Stream_Mount_k (v0, 0)) fun r =>
      bnd
        (spykeep2_script_k
          (r.fst, r.snd.fst, r.snd.snd.fst, r.snd.snd.snd.fst, r.snd.snd.snd.snd.fst, r.snd.snd.snd.snd.snd.fst, r.snd.snd.snd.snd.snd.snd.fst, r.snd.snd.snd.snd.snd.snd.snd.fst, r.snd.snd.snd.snd.snd.snd.snd.snd.fst,
            r.snd.snd.snd.snd.snd.snd.snd.snd.snd.fst, 80, r.snd.snd.snd.snd.snd.snd.snd.snd.snd.snd.fst, r.snd.snd.snd.snd.snd.snd.snd.snd.snd.snd.snd))
        fun r_1 =>
        bnd
          (guard_Start_k
            (r.fst, r.snd.fst, r.snd.snd.fst, r.snd.snd.snd.fst, r.snd.snd.snd.snd.fst, r.snd.snd.snd.snd.snd.fst, r.snd.snd.snd.snd.snd.snd.fst, r.snd.snd.snd.snd.snd.snd.snd.fst, r.snd.snd.snd.snd.snd.snd.snd.snd.fst,
              r.snd.snd.snd.snd.snd.snd.snd.snd.snd.fst))
          fun r_2 =>
          bnd
            (guard_Run_k
              (r.fst, r.snd.fst, r.snd.snd.fst, r.snd.snd.snd.fst, r.snd.snd.snd.snd.fst, r.snd.snd.snd.snd.snd.fst, r.snd.snd.snd.snd.snd.snd.fst, r.snd.snd.snd.snd.snd.snd.snd.fst,
                r.snd.snd.snd.snd.snd.snd.snd.snd.fst, r.snd.snd.snd.snd.snd.snd.snd.snd.snd.fst, r_2.fst, r_2.snd.fst, r_2.snd.snd.fst, r_2.snd.snd.snd.fst, r_2.snd.snd.snd.snd.fst, r_2.snd.snd.snd.snd.snd.fst,
                r_2.snd.snd.snd.snd.snd.snd.fst, r_2.snd.snd.snd.snd.snd.snd.snd.fst, r_2.snd.snd.snd.snd.snd.snd.snd.snd.fst, r_2.snd.snd.snd.snd.snd.snd.snd.snd.snd.fst, r_2.snd.snd.snd.snd.snd.snd.snd.snd.snd.snd.fst,
                r_2.snd.snd.snd.snd.snd.snd.snd.snd.snd.snd.snd.fst, r_2.snd.snd.snd.snd.snd.snd.snd.snd.snd.snd.snd.snd.fst, r_2.snd.snd.snd.snd.snd.snd.snd.snd.snd.snd.snd.snd.snd.fst,
                r_2.snd.snd.snd.snd.snd.snd.snd.snd.snd.snd.snd.snd.snd.snd.fst, r_2.snd.snd.snd.snd.snd.snd.snd.snd.snd.snd.snd.snd.snd.snd.snd.fst,
                r_2.snd.snd.snd.snd.snd.snd.snd.snd.snd.snd.snd.snd.snd.snd.snd.snd.fst, r_2.snd.snd.snd.snd.snd.snd.snd.snd.snd.snd.snd.snd.snd.snd.snd.snd.snd.fst,
                r_2.snd.snd.snd.snd.snd.snd.snd.snd.snd.snd.snd.snd.snd.snd.snd.snd.snd.snd.fst, r_2.snd.snd.snd.snd.snd.snd.snd.snd.snd.snd.snd.snd.snd.snd.snd.snd.snd.snd.snd.fst,
                r_2.snd.snd.snd.snd.snd.snd.snd.snd.snd.snd.snd.snd.snd.snd.snd.snd.snd.snd.snd.snd.fst, r_2.snd.snd.snd.snd.snd.snd.snd.snd.snd.snd.snd.snd.snd.snd.snd.snd.snd.snd.snd.snd.snd.fst,
                r_2.snd.snd.snd.snd.snd.snd.snd.snd.snd.snd.snd.snd.snd.snd.snd.snd.snd.snd.snd.snd.snd.snd.fst, r_2.snd.snd.snd.snd.snd.snd.snd.snd.snd.snd.snd.snd.snd.snd.snd.snd.snd.snd.snd.snd.snd.snd.snd.fst,
                r_2.snd.snd.snd.snd.snd.snd.snd.snd.snd.snd.snd.snd.snd.snd.snd.snd.snd.snd.snd.snd.snd.snd.snd.snd.fst,
                r_2.snd.snd.snd.snd.snd.snd.snd.snd.snd.snd.snd.snd.snd.snd.snd.snd.snd.snd.snd.snd.snd.snd.snd.snd.snd.fst,
                r_2.snd.snd.snd.snd.snd.snd.snd.snd.snd.snd.snd.snd.snd.snd.snd.snd.snd.snd.snd.snd.snd.snd.snd.snd.snd.snd.fst,
                r_2.snd.snd.snd.snd.snd.snd.snd.snd.snd.snd.snd.snd.snd.snd.snd.snd.snd.snd.snd.snd.snd.snd.snd.snd.snd.snd.snd.fst,
                r_2.snd.snd.snd.snd.snd.snd.snd.snd.snd.snd.snd.snd.snd.snd.snd.snd.snd.snd.snd.snd.snd.snd.snd.snd.snd.snd.snd.snd.fst,
                r_2.snd.snd.snd.snd.snd.snd.snd.snd.snd.snd.snd.snd.snd.snd.snd.snd.snd.snd.snd.snd.snd.snd.snd.snd.snd.snd.snd.snd.snd.fst,
                r_2.snd.snd.snd.snd.snd.snd.snd.snd.snd.snd.snd.snd.snd.snd.snd.snd.snd.snd.snd.snd.snd.snd.snd.snd.snd.snd.snd.snd.snd.snd, r_1.snd.snd))
            fun r_3 =>
            br (!decide (r_3.fst = 0) || !decide ((↑r_3.snd.fst.length : Int) = (↑r_1.snd.snd.length : Int))) (some false)
              (br (decide (0 ≤ (↑r_1.snd.snd.length : Int) ∧ (↑r_1.snd.snd.length : Int) ≤ (↑r_1.snd.snd.length : Int) ∧ (↑r_1.snd.snd.length : Int) ≤ (↑(140737488355328 / 32) : Int)))
                (L0k
                  ((↑r_1.snd.snd.length : Int), 0, r.fst, r.snd.fst, r.snd.snd.fst, r.snd.snd.snd.fst, r.snd.snd.snd.snd.fst, r.snd.snd.snd.snd.snd.fst, r.snd.snd.snd.snd.snd.snd.fst, r.snd.snd.snd.snd.snd.snd.snd.fst,
                    r.snd.snd.snd.snd.snd.snd.snd.snd.fst, r.snd.snd.snd.snd.snd.snd.snd.snd.snd.fst, r_3.snd.fst, r_3.snd.snd,
                    List.replicate (↑r_1.snd.snd.length : Int).toNat ty0.dflt, r_1.snd.snd))
                none))
theorem d_cn {ι : Type} {E : Fil ι} {spykeep2_guarded_k : spykeep2_guarded.A → Option spykeep2_guarded.R} {spykeep2_guarded_k' : ι → spykeep2_guarded.A → Option spykeep2_guarded.R} (hspykeep2_guarded_k : ∀ v, Cn E (spykeep2_guarded_k v) fun i => spykeep2_guarded_k' i v) {spymake_Stream_Mount_k : spymake_Stream_Mount.A → Option spymake_Stream_Mount.R} {spymake_Stream_Mount_k' : ι → spymake_Stream_Mount.A → Option spymake_Stream_Mount.R} (hspymake_Stream_Mount_k : ∀ v, Cn E (spymake_Stream_Mount_k v) fun i => spymake_Stream_Mount_k' i v) {spykeep2_script_k : spykeep2_script.A → Option spykeep2_script.R} {spykeep2_script_k' : ι → spykeep2_script.A → Option spykeep2_script.R} (hspykeep2_script_k : ∀ v, Cn E (spykeep2_script_k v) fun i => spykeep2_script_k' i v) {guard_Start_k : guard_Start.A → Option guard_Start.R} {guard_Start_k' : ι → guard_Start.A → Option guard_Start.R} (hguard_Start_k : ∀ v, Cn E (guard_Start_k v) fun i => guard_Start_k' i v) {guard_Run_k : guard_Run.A → Option guard_Run.R} {guard_Run_k' : ι → guard_Run.A → Option guard_Run.R} (hguard_Run_k : ∀ v, Cn E (guard_Run_k v) fun i => guard_Run_k' i v) {L0k : T0 → Option R} {L0k' : ι → T0 → Option R} (hL0k : ∀ v, Cn E (L0k v) fun i => L0k' i v) : ∀ v : A, Cn E (d spykeep2_guarded_k spymake_Stream_Mount_k spykeep2_script_k guard_Start_k guard_Run_k L0k v) fun i => d (spykeep2_guarded_k' i) (spymake_Stream_Mount_k' i) (spykeep2_script_k' i) (guard_Start_k' i) (guard_Run_k' i) (L0k' i) v := fun v0 => (.bnd (hspykeep2_guarded_k _) fun _ => (.br .some (.bnd (hspymake_Stream_Mount_k _) fun _ => (.bnd (hspykeep2_script_k _) fun _ => (.bnd (hguard_Start_k _) fun _ => (.bnd (hguard_Run_k _) fun _ => (.br .some (.br (hL0k _) .none))))))))
theorem f_b (k : Nat) : ∀ v : A, f k v = d (spykeep2_guarded.f k) (spymake_Stream_Mount.f k) (spykeep2_script.f k) (guard_Start.f k) (guard_Run.f k) (l0 k k) v := fun v0 => (held_eq _).trans (by kernel_rfl)
theorem F_of (v : A) {r : R} (h : d spykeep2_guarded.F spymake_Stream_Mount.F spykeep2_script.F guard_Start.F guard_Run.F D0 v = some r) : F v = some r :=
  join_of (l := fun L => f (L 0) v) (d := fun L => d (spykeep2_guarded.f (L 0)) (spymake_Stream_Mount.f (L 0)) (spykeep2_script.f (L 0)) (guard_Start.f (L 0)) (guard_Run.f (L 0)) (l0 (L 0) (L 0)) v) (fun L => f_b (L 0) v) (d_cn (spykeep2_guarded.F_cn 0) (spymake_Stream_Mount.F_cn 0) (spykeep2_script.F_cn 0) (guard_Start.F_cn 0) (guard_Run.F_cn 0) (fun v => (D0_cn v).re [0, 0]) v) h
noncomputable def spec (k : Nat) (args : List AV) (ss : List Slot) : Option Ans :=
  match args, ss with
  | [(.c (.frz (.int .i64) v0))], [] => some ⟨R, f k v0, enc⟩
  | _, _ => none
theorem spec_ok (k : Nat) : SpecOk Try.prog 3 (spec k) := by
  intro args ss ans x h hx X σ w vals hp
  unfold spec at h
  split at h
  · cases h
    exact spec_of cs_ok Try.func3 rfl rfl dec_ok (held_eq _).symm hx hp
  · cases h
end spykeep2_GuardRefusals
noncomputable def t_spykeep2_GuardRefusals (k : Nat) := tcons 3 (spykeep2_GuardRefusals.spec k) (t_slices_ContainsFunc_Errno k)
theorem t_spykeep2_GuardRefusals_ok (n g : Nat) : SpecOk Try.prog g (t_spykeep2_GuardRefusals n g) := tcons_ok (spykeep2_GuardRefusals.spec_ok n) (fun g => t_slices_ContainsFunc_Errno_ok n g) g

end Go.Proofs.RGuR
