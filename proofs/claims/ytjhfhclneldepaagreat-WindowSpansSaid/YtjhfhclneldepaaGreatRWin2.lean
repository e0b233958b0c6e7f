import Derived.Test.YtjhfhclneldepaaGreatRWin1
import Derived.Test.YtjhfhclneldepaaGreatProg
namespace Go.Proofs.RWin
open Go Go.Eng Go.Proofs
set_option maxRecDepth 100000
set_option linter.unusedVariables false
namespace spymake_Stream_Request
abbrev R : Type := Int × Int × Int × Int × Int × Int × Int × Int × Int × Int × Int × Int × Int × List Int × Int
abbrev A : Type := Int × Int × Int × Int × Int × Int × Int × Int × Int × Int × Int × Int × Int × Int × Int × Int × Int × Int × List Int × Int
def lv : List (Nat × List Nat) := [(2000000, [8]), (1000006, [0, 8, 9]), (1000007, [0, 8, 9]), (1000010, [0, 8, 9]), (1000012, [0, 8, 9]), (1000014, [0, 8, 9]), (1000016, [8, 9])]
noncomputable def cs : Nat → Ctx := ctxOf tis modes t_spymake_Stream_Night lv
theorem cs_ok (n : Nat) : CtxOk Tryz.prog (cs n) := ctxOf_ok rfl tis_ok t_spymake_Stream_Night_ok n
def enc (r : R) : Out := ((.agg [(.int .i64 r.1), (.int .i64 r.2.1), (.int .i64 r.2.2.1), (.int .i64 r.2.2.2.1), (.int .i64 r.2.2.2.2.1), (.int .i64 r.2.2.2.2.2.1), (.int .i64 r.2.2.2.2.2.2.1), (.int .i64 r.2.2.2.2.2.2.2.1), (.int .i64 r.2.2.2.2.2.2.2.2.1), (.int .i64 r.2.2.2.2.2.2.2.2.2.1), (.int .i64 r.2.2.2.2.2.2.2.2.2.2.1), (.int .i64 r.2.2.2.2.2.2.2.2.2.2.2.1), (.int .i64 r.2.2.2.2.2.2.2.2.2.2.2.2.1)]), [(.box [(.frz (.int .i64) r.2.2.2.2.2.2.2.2.2.2.2.2.2.1), (.int .i64 r.2.2.2.2.2.2.2.2.2.2.2.2.2.2)])])
def dec : Out → Option R
  | ((.agg [(.int .i64 v0), (.int .i64 v1), (.int .i64 v2), (.int .i64 v3), (.int .i64 v4), (.int .i64 v5), (.int .i64 v6), (.int .i64 v7), (.int .i64 v8), (.int .i64 v9), (.int .i64 v10), (.int .i64 v11), (.int .i64 v12)]), [(.box [(.frz (.int .i64) v13), (.int .i64 v14)])]) => some (v0, v1, v2, v3, v4, v5, v6, v7, v8, v9, v10, v11, v12, v13, v14)
  | _ => none
theorem dec_ok : ∀ u y, dec u = some y → u = enc y := by
  intro u y h
  unfold dec at h
  split at h
  · cases h; rfl
  · cases h
noncomputable def b0 : Code := subF [] Tryz.f9
noncomputable def K0 (k : Nat) : Kt R := kTop (cs k) Tryz.f9 dec
noncomputable def c1000007 : Code := sub [1, 1, 1] b0
noncomputable def J1000007 ( k : Nat) : Kt R := kAt (cs k) (loopN cs k) [1, 1, 1] b0 (K0 k)
noncomputable def c1000006 : Code := sub [1, 1, 0, 1, 0, 1, 1] b0
noncomputable def J1000006 ( k : Nat) : Kt R := kAt (cs k) (loopN cs k) [1, 1, 0, 1, 0, 1, 1] b0 (K0 k)
noncomputable def c1000010 : Code := sub [1, 1, 1, 1] b0
noncomputable def J1000010 ( k : Nat) : Kt R := kAt (cs k) (loopN cs k) [1, 1, 1, 1] b0 (K0 k)
noncomputable def c1000012 : Code := sub [1, 1, 1, 1, 1] b0
noncomputable def J1000012 ( k : Nat) : Kt R := kAt (cs k) (loopN cs k) [1, 1, 1, 1, 1] b0 (K0 k)
noncomputable def c1000014 : Code := sub [1, 1, 1, 1, 1, 1] b0
noncomputable def J1000014 ( k : Nat) : Kt R := kAt (cs k) (loopN cs k) [1, 1, 1, 1, 1, 1] b0 (K0 k)
noncomputable def c1000016 : Code := sub [1, 1, 1, 1, 1, 1, 1] b0
noncomputable def J1000016 ( k : Nat) : Kt R := kAt (cs k) (loopN cs k) [1, 1, 1, 1, 1, 1, 1] b0 (K0 k)
abbrev T0 : Type := List Int × Int × Int × Int × Int × Int × Int × Int × Int × Int × Int × Int × Int × Int × Int × Int × Int × Int × Int × Int × Int × Int × Int × Int × Int × Int × Int × Int
def s0 : T0 → St := fun (v0, v1, v2, v3, v4, v5, v6, v7, v8, v9, v10, v11, v12, v13, v14, v15, v16, v17, v18, v19, v20, v21, v22, v23, v24, v25, v26, v27) => ⟨76, 1, [(0, (.c (.ptr 128000000 0))), (8, (.c (.ptr 64000000 0))), (9, (.c (.ptr 64000001 0)))], [], [(128000000, (.box [(.frz (.int .i64) v0), (.int .i64 v1)])), (256000000, .gone), (64000000, (.box [(.int .i64 v2), (.int .i64 v3), (.int .i64 v4), (.int .i64 v5), (.int .i64 v6), (.int .i64 v7), (.int .i64 v8), (.int .i64 v9), (.int .i64 v10), (.int .i64 v11), (.int .i64 v12), (.int .i64 v13), (.int .i64 v14)])), (64000001, (.box [(.int .i64 v15), (.int .i64 v16), (.int .i64 v17), (.int .i64 v18), (.int .i64 v19), (.int .i64 v20), (.int .i64 v21), (.int .i64 v22), (.int .i64 v23), (.int .i64 v24), (.int .i64 v25), (.int .i64 v26), (.int .i64 v27)]))]⟩
noncomputable def l0 ( k : Nat) (v : T0) : Option R := held (run (cs k) (loopN cs k) c1000006 (J1000006 k) (s0 v))
noncomputable def D0 (v : T0) : Option R := lim fun L => l0 (L 0) v
theorem D0_cn (v : T0) : Cn late (D0 v) fun L => l0 (L 0) v := of_lim
abbrev T1 : Type := List Int × Int × Int × Int × Int × Int × Int × Int × Int × Int × Int × Int × Int × Int × Int × Int × Int × Int × Int × Int × Int × Int × Int × Int × Int × Int × Int × Int
def s1 : T1 → St := fun (v0, v1, v2, v3, v4, v5, v6, v7, v8, v9, v10, v11, v12, v13, v14, v15, v16, v17, v18, v19, v20, v21, v22, v23, v24, v25, v26, v27) => ⟨76, 1, [(0, (.c (.ptr 128000000 0))), (8, (.c (.ptr 64000000 0))), (9, (.c (.ptr 64000001 0)))], [], [(128000000, (.box [(.frz (.int .i64) v0), (.int .i64 v1)])), (256000000, .gone), (64000000, (.box [(.int .i64 v2), (.int .i64 v3), (.int .i64 v4), (.int .i64 v5), (.int .i64 v6), (.int .i64 v7), (.int .i64 v8), (.int .i64 v9), (.int .i64 v10), (.int .i64 v11), (.int .i64 v12), (.int .i64 v13), (.int .i64 v14)])), (64000001, (.box [(.int .i64 v15), (.int .i64 v16), (.int .i64 v17), (.int .i64 v18), (.int .i64 v19), (.int .i64 v20), (.int .i64 v21), (.int .i64 v22), (.int .i64 v23), (.int .i64 v24), (.int .i64 v25), (.int .i64 v26), (.int .i64 v27)]))]⟩
noncomputable def l1 ( k : Nat) (v : T1) : Option R := held (run (cs k) (loopN cs k) c1000007 (J1000007 k) (s1 v))
noncomputable def D1 (v : T1) : Option R := lim fun L => l1 (L 0) v
theorem D1_cn (v : T1) : Cn late (D1 v) fun L => l1 (L 0) v := of_lim
abbrev T2 : Type := List Int × Int × Int × Int × Int × Int × Int × Int × Int × Int × Int × Int × Int × Int × Int × Int × Int × Int × Int × Int × Int × Int × Int × Int × Int × Int × Int × Int
def s2 : T2 → St := fun (v0, v1, v2, v3, v4, v5, v6, v7, v8, v9, v10, v11, v12, v13, v14, v15, v16, v17, v18, v19, v20, v21, v22, v23, v24, v25, v26, v27) => ⟨76, 1, [(0, (.c (.ptr 128000000 0))), (8, (.c (.ptr 64000000 0))), (9, (.c (.ptr 64000001 0)))], [], [(128000000, (.box [(.frz (.int .i64) v0), (.int .i64 v1)])), (256000000, .gone), (64000000, (.box [(.int .i64 v2), (.int .i64 v3), (.int .i64 v4), (.int .i64 v5), (.int .i64 v6), (.int .i64 v7), (.int .i64 v8), (.int .i64 v9), (.int .i64 v10), (.int .i64 v11), (.int .i64 v12), (.int .i64 v13), (.int .i64 v14)])), (64000001, (.box [(.int .i64 v15), (.int .i64 v16), (.int .i64 v17), (.int .i64 v18), (.int .i64 v19), (.int .i64 v20), (.int .i64 v21), (.int .i64 v22), (.int .i64 v23), (.int .i64 v24), (.int .i64 v25), (.int .i64 v26), (.int .i64 v27)]))]⟩
noncomputable def l2 ( k : Nat) (v : T2) : Option R := held (run (cs k) (loopN cs k) c1000010 (J1000010 k) (s2 v))
noncomputable def D2 (v : T2) : Option R := lim fun L => l2 (L 0) v
theorem D2_cn (v : T2) : Cn late (D2 v) fun L => l2 (L 0) v := of_lim
abbrev T3 : Type := List Int × Int × Int × Int × Int × Int × Int × Int × Int × Int × Int × Int × Int × Int × Int × Int × Int × Int × Int × Int × Int × Int × Int × Int × Int × Int × Int × Int
def s3 : T3 → St := fun (v0, v1, v2, v3, v4, v5, v6, v7, v8, v9, v10, v11, v12, v13, v14, v15, v16, v17, v18, v19, v20, v21, v22, v23, v24, v25, v26, v27) => ⟨76, 1, [(0, (.c (.ptr 128000000 0))), (8, (.c (.ptr 64000000 0))), (9, (.c (.ptr 64000001 0)))], [], [(128000000, (.box [(.frz (.int .i64) v0), (.int .i64 v1)])), (256000000, .gone), (64000000, (.box [(.int .i64 v2), (.int .i64 v3), (.int .i64 v4), (.int .i64 v5), (.int .i64 v6), (.int .i64 v7), (.int .i64 v8), (.int .i64 v9), (.int .i64 v10), (.int .i64 v11), (.int .i64 v12), (.int .i64 v13), (.int .i64 v14)])), (64000001, (.box [(.int .i64 v15), (.int .i64 v16), (.int .i64 v17), (.int .i64 v18), (.int .i64 v19), (.int .i64 v20), (.int .i64 v21), (.int .i64 v22), (.int .i64 v23), (.int .i64 v24), (.int .i64 v25), (.int .i64 v26), (.int .i64 v27)]))]⟩
noncomputable def l3 ( k : Nat) (v : T3) : Option R := held (run (cs k) (loopN cs k) c1000012 (J1000012 k) (s3 v))
noncomputable def D3 (v : T3) : Option R := lim fun L => l3 (L 0) v
theorem D3_cn (v : T3) : Cn late (D3 v) fun L => l3 (L 0) v := of_lim
abbrev T4 : Type := List Int × Int × Int × Int × Int × Int × Int × Int × Int × Int × Int × Int × Int × Int × Int × Int × Int × Int × Int × Int × Int × Int × Int × Int × Int × Int × Int × Int
def s4 : T4 → St := fun (v0, v1, v2, v3, v4, v5, v6, v7, v8, v9, v10, v11, v12, v13, v14, v15, v16, v17, v18, v19, v20, v21, v22, v23, v24, v25, v26, v27) => ⟨76, 1, [(0, (.c (.ptr 128000000 0))), (8, (.c (.ptr 64000000 0))), (9, (.c (.ptr 64000001 0)))], [], [(128000000, (.box [(.frz (.int .i64) v0), (.int .i64 v1)])), (256000000, .gone), (64000000, (.box [(.int .i64 v2), (.int .i64 v3), (.int .i64 v4), (.int .i64 v5), (.int .i64 v6), (.int .i64 v7), (.int .i64 v8), (.int .i64 v9), (.int .i64 v10), (.int .i64 v11), (.int .i64 v12), (.int .i64 v13), (.int .i64 v14)])), (64000001, (.box [(.int .i64 v15), (.int .i64 v16), (.int .i64 v17), (.int .i64 v18), (.int .i64 v19), (.int .i64 v20), (.int .i64 v21), (.int .i64 v22), (.int .i64 v23), (.int .i64 v24), (.int .i64 v25), (.int .i64 v26), (.int .i64 v27)]))]⟩
noncomputable def l4 ( k : Nat) (v : T4) : Option R := held (run (cs k) (loopN cs k) c1000014 (J1000014 k) (s4 v))
noncomputable def D4 (v : T4) : Option R := lim fun L => l4 (L 0) v
theorem D4_cn (v : T4) : Cn late (D4 v) fun L => l4 (L 0) v := of_lim
abbrev T5 : Type := List Int × Int × Int × Int × Int × Int × Int × Int × Int × Int × Int × Int × Int × Int × Int × Int × Int × Int × Int × Int × Int × Int × Int × Int × Int × Int × Int × Int
def s5 : T5 → St := fun (v0, v1, v2, v3, v4, v5, v6, v7, v8, v9, v10, v11, v12, v13, v14, v15, v16, v17, v18, v19, v20, v21, v22, v23, v24, v25, v26, v27) => ⟨76, 1, [(8, (.c (.ptr 64000000 0))), (9, (.c (.ptr 64000001 0)))], [], [(128000000, (.box [(.frz (.int .i64) v0), (.int .i64 v1)])), (256000000, .gone), (64000000, (.box [(.int .i64 v2), (.int .i64 v3), (.int .i64 v4), (.int .i64 v5), (.int .i64 v6), (.int .i64 v7), (.int .i64 v8), (.int .i64 v9), (.int .i64 v10), (.int .i64 v11), (.int .i64 v12), (.int .i64 v13), (.int .i64 v14)])), (64000001, (.box [(.int .i64 v15), (.int .i64 v16), (.int .i64 v17), (.int .i64 v18), (.int .i64 v19), (.int .i64 v20), (.int .i64 v21), (.int .i64 v22), (.int .i64 v23), (.int .i64 v24), (.int .i64 v25), (.int .i64 v26), (.int .i64 v27)]))]⟩
noncomputable def l5 ( k : Nat) (v : T5) : Option R := held (run (cs k) (loopN cs k) c1000016 (J1000016 k) (s5 v))
noncomputable def D5 (v : T5) : Option R := lim fun L => l5 (L 0) v
theorem D5_cn (v : T5) : Cn late (D5 v) fun L => l5 (L 0) v := of_lim
def d0 (spymake_Stream_Range_k : spymake_Stream_Range.A → Option spymake_Stream_Range.R) (L1k : T1 → Option R) : T0 → Option R := fun (v0, v1, v2, v3, v4, v5, v6, v7, v8, v9, v10, v11, v12, v13, v14, v15, v16, v17, v18, v19, v20, v21, v22, v23, v24, v25, v26, v27) =>
bnd (spymake_Stream_Range_k (0, 4, v0, v1)) fun r =>
  L1k (r.snd.fst, r.snd.snd, v2, v3, v4, v5, v6, v7, v8, v9, v10, v11, v12, v13, v14, v15, v16, v17, v18, v19, v20, v21, v22, v23, wrap IntKind.i64 (r.fst * 134217728), v25, v26, v27)
theorem d0_cn {ι : Type} {E : Fil ι} {spymake_Stream_Range_k : spymake_Stream_Range.A → Option spymake_Stream_Range.R} {spymake_Stream_Range_k' : ι → spymake_Stream_Range.A → Option spymake_Stream_Range.R} (hspymake_Stream_Range_k : ∀ v, Cn E (spymake_Stream_Range_k v) fun i => spymake_Stream_Range_k' i v) {L1k : T1 → Option R} {L1k' : ι → T1 → Option R} (hL1k : ∀ v, Cn E (L1k v) fun i => L1k' i v) : ∀ v : T0, Cn E (d0 spymake_Stream_Range_k L1k v) fun i => d0 (spymake_Stream_Range_k' i) (L1k' i) v := fun (v0, v1, v2, v3, v4, v5, v6, v7, v8, v9, v10, v11, v12, v13, v14, v15, v16, v17, v18, v19, v20, v21, v22, v23, v24, v25, v26, v27) => (.bnd (hspymake_Stream_Range_k _) fun _ => (hL1k _))
theorem l0_b ( k : Nat) : ∀ v : T0, run (cs k) (loopN cs k) c1000006 (J1000006 k) (s0 v) = d0 (spymake_Stream_Range.f k) (l1 k) v := fun (v0, v1, v2, v3, v4, v5, v6, v7, v8, v9, v10, v11, v12, v13, v14, v15, v16, v17, v18, v19, v20, v21, v22, v23, v24, v25, v26, v27) => by kernel_rfl
theorem D0_of (v : T0) {r : R} (h : d0 spymake_Stream_Range.F D1 v = some r) : D0 v = some r :=
  join_of (l := fun L => l0 (L 0) v) (d := fun L => d0 (spymake_Stream_Range.f (L 0)) (l1 (L 0)) v) (fun L => (held_eq _).trans (l0_b (L 0) v)) (d0_cn (spymake_Stream_Range.F_cn 0) (fun v => (D1_cn v).re [0]) v) h
def d1 (spymake_Stream_Range_k : spymake_Stream_Range.A → Option spymake_Stream_Range.R) (spymake_Stream_Next_k : spymake_Stream_Next.A → Option spymake_Stream_Next.R) (L2k : T2 → Option R) : T1 → Option R := fun (v0, v1, v2, v3, v4, v5, v6, v7, v8, v9, v10, v11, v12, v13, v14, v15, v16, v17, v18, v19, v20, v21, v22, v23, v24, v25, v26, v27) =>
br (decide (1 < v21))
  (bnd (spymake_Stream_Range_k (1, 6, v0, v1)) fun r =>
    bnd (spymake_Stream_Next_k (12, r.snd.fst, r.snd.snd)) fun r_1 =>
      L2k (r_1.snd.fst, r_1.snd.snd, v2, v3, v4, v5, v6, v7, v8, v9, v10, v11, v12, v13, v14, v15, v16, v17, v18, v19, v20, v21, r.fst, min 64 (wrap IntKind.i64 (r.fst + r_1.fst)), v24, v25, v26, v27))
  (L2k (v0, v1, v2, v3, v4, v5, v6, v7, v8, v9, v10, v11, v12, v13, v14, v15, v16, v17, v18, v19, v20, v21, v22, v23, v24, v25, v26, v27))
theorem d1_cn {ι : Type} {E : Fil ι} {spymake_Stream_Range_k : spymake_Stream_Range.A → Option spymake_Stream_Range.R} {spymake_Stream_Range_k' : ι → spymake_Stream_Range.A → Option spymake_Stream_Range.R} (hspymake_Stream_Range_k : ∀ v, Cn E (spymake_Stream_Range_k v) fun i => spymake_Stream_Range_k' i v) {spymake_Stream_Next_k : spymake_Stream_Next.A → Option spymake_Stream_Next.R} {spymake_Stream_Next_k' : ι → spymake_Stream_Next.A → Option spymake_Stream_Next.R} (hspymake_Stream_Next_k : ∀ v, Cn E (spymake_Stream_Next_k v) fun i => spymake_Stream_Next_k' i v) {L2k : T2 → Option R} {L2k' : ι → T2 → Option R} (hL2k : ∀ v, Cn E (L2k v) fun i => L2k' i v) : ∀ v : T1, Cn E (d1 spymake_Stream_Range_k spymake_Stream_Next_k L2k v) fun i => d1 (spymake_Stream_Range_k' i) (spymake_Stream_Next_k' i) (L2k' i) v := fun (v0, v1, v2, v3, v4, v5, v6, v7, v8, v9, v10, v11, v12, v13, v14, v15, v16, v17, v18, v19, v20, v21, v22, v23, v24, v25, v26, v27) => (.br (.bnd (hspymake_Stream_Range_k _) fun _ => (.bnd (hspymake_Stream_Next_k _) fun _ => (hL2k _))) (hL2k _))
theorem l1_b ( k : Nat) : ∀ v : T1, run (cs k) (loopN cs k) c1000007 (J1000007 k) (s1 v) = d1 (spymake_Stream_Range.f k) (spymake_Stream_Next.f k) (l2 k) v := fun (v0, v1, v2, v3, v4, v5, v6, v7, v8, v9, v10, v11, v12, v13, v14, v15, v16, v17, v18, v19, v20, v21, v22, v23, v24, v25, v26, v27) => by kernel_rfl
theorem D1_of (v : T1) {r : R} (h : d1 spymake_Stream_Range.F spymake_Stream_Next.F D2 v = some r) : D1 v = some r :=
  join_of (l := fun L => l1 (L 0) v) (d := fun L => d1 (spymake_Stream_Range.f (L 0)) (spymake_Stream_Next.f (L 0)) (l2 (L 0)) v) (fun L => (held_eq _).trans (l1_b (L 0) v)) (d1_cn (spymake_Stream_Range.F_cn 0) (spymake_Stream_Next.F_cn 0) (fun v => (D2_cn v).re [0]) v) h
def d2 (spymake_Stream_Next_k : spymake_Stream_Next.A → Option spymake_Stream_Next.R) (L3k : T3 → Option R) : T2 → Option R := fun (v0, v1, v2, v3, v4, v5, v6, v7, v8, v9, v10, v11, v12, v13, v14, v15, v16, v17, v18, v19, v20, v21, v22, v23, v24, v25, v26, v27) =>
bnd (spymake_Stream_Next_k (3, v0, v1)) fun r =>
  br (decide (r.fst = 0))
    (bnd (spymake_Stream_Next_k (4, r.snd.fst, r.snd.snd)) fun r => L3k (r.snd.fst, r.snd.snd, v2, v3, v4, v5, v6, v7, v8, v9, v10, v11, v12, v13, v14, v15, v16, v17, v18, v19, v20, v21, v22, v23, v24, v25, r.fst, v27))
    (L3k (r.snd.fst, r.snd.snd, v2, v3, v4, v5, v6, v7, v8, v9, v10, v11, v12, v13, v14, v15, v16, v17, v18, v19, v20, v21, v22, v23, v24, v25, v26, v27))
theorem d2_cn {ι : Type} {E : Fil ι} {spymake_Stream_Next_k : spymake_Stream_Next.A → Option spymake_Stream_Next.R} {spymake_Stream_Next_k' : ι → spymake_Stream_Next.A → Option spymake_Stream_Next.R} (hspymake_Stream_Next_k : ∀ v, Cn E (spymake_Stream_Next_k v) fun i => spymake_Stream_Next_k' i v) {L3k : T3 → Option R} {L3k' : ι → T3 → Option R} (hL3k : ∀ v, Cn E (L3k v) fun i => L3k' i v) : ∀ v : T2, Cn E (d2 spymake_Stream_Next_k L3k v) fun i => d2 (spymake_Stream_Next_k' i) (L3k' i) v := fun (v0, v1, v2, v3, v4, v5, v6, v7, v8, v9, v10, v11, v12, v13, v14, v15, v16, v17, v18, v19, v20, v21, v22, v23, v24, v25, v26, v27) => (.bnd (hspymake_Stream_Next_k _) fun _ => (.br (.bnd (hspymake_Stream_Next_k _) fun _ => (hL3k _)) (hL3k _)))
theorem l2_b ( k : Nat) : ∀ v : T2, run (cs k) (loopN cs k) c1000010 (J1000010 k) (s2 v) = d2 (spymake_Stream_Next.f k) (l3 k) v := fun (v0, v1, v2, v3, v4, v5, v6, v7, v8, v9, v10, v11, v12, v13, v14, v15, v16, v17, v18, v19, v20, v21, v22, v23, v24, v25, v26, v27) => by kernel_rfl
theorem D2_of (v : T2) {r : R} (h : d2 spymake_Stream_Next.F D3 v = some r) : D2 v = some r :=
  join_of (l := fun L => l2 (L 0) v) (d := fun L => d2 (spymake_Stream_Next.f (L 0)) (l3 (L 0)) v) (fun L => (held_eq _).trans (l2_b (L 0) v)) (d2_cn (spymake_Stream_Next.F_cn 0) (fun v => (D3_cn v).re [0]) v) h
def d3 (spymake_Stream_Next_k : spymake_Stream_Next.A → Option spymake_Stream_Next.R) (spymake_Stream_Range_k : spymake_Stream_Range.A → Option spymake_Stream_Range.R) (L4k : T4 → Option R) : T3 → Option R := fun (v0, v1, v2, v3, v4, v5, v6, v7, v8, v9, v10, v11, v12, v13, v14, v15, v16, v17, v18, v19, v20, v21, v22, v23, v24, v25, v26, v27) =>
bnd (spymake_Stream_Next_k (4, v0, v1)) fun r =>
  br (decide (r.fst = 0))
    (bnd (spymake_Stream_Range_k (-8, 8, r.snd.fst, r.snd.snd)) fun r =>
      L4k (r.snd.fst, r.snd.snd, v2, v3, v4, v5, v6, v7, v8, v9, v10, v11, v12, v13, v14, v15, v16, v17, v18, v19, v20, v21, v22, v23, v24, wrap IntKind.i64 (r.fst * 134217728), v26, v27))
    (L4k (r.snd.fst, r.snd.snd, v2, v3, v4, v5, v6, v7, v8, v9, v10, v11, v12, v13, v14, v15, v16, v17, v18, v19, v20, v21, v22, v23, v24, v25, v26, v27))
theorem d3_cn {ι : Type} {E : Fil ι} {spymake_Stream_Next_k : spymake_Stream_Next.A → Option spymake_Stream_Next.R} {spymake_Stream_Next_k' : ι → spymake_Stream_Next.A → Option spymake_Stream_Next.R} (hspymake_Stream_Next_k : ∀ v, Cn E (spymake_Stream_Next_k v) fun i => spymake_Stream_Next_k' i v) {spymake_Stream_Range_k : spymake_Stream_Range.A → Option spymake_Stream_Range.R} {spymake_Stream_Range_k' : ι → spymake_Stream_Range.A → Option spymake_Stream_Range.R} (hspymake_Stream_Range_k : ∀ v, Cn E (spymake_Stream_Range_k v) fun i => spymake_Stream_Range_k' i v) {L4k : T4 → Option R} {L4k' : ι → T4 → Option R} (hL4k : ∀ v, Cn E (L4k v) fun i => L4k' i v) : ∀ v : T3, Cn E (d3 spymake_Stream_Next_k spymake_Stream_Range_k L4k v) fun i => d3 (spymake_Stream_Next_k' i) (spymake_Stream_Range_k' i) (L4k' i) v := fun (v0, v1, v2, v3, v4, v5, v6, v7, v8, v9, v10, v11, v12, v13, v14, v15, v16, v17, v18, v19, v20, v21, v22, v23, v24, v25, v26, v27) => (.bnd (hspymake_Stream_Next_k _) fun _ => (.br (.bnd (hspymake_Stream_Range_k _) fun _ => (hL4k _)) (hL4k _)))
theorem l3_b ( k : Nat) : ∀ v : T3, run (cs k) (loopN cs k) c1000012 (J1000012 k) (s3 v) = d3 (spymake_Stream_Next.f k) (spymake_Stream_Range.f k) (l4 k) v := fun (v0, v1, v2, v3, v4, v5, v6, v7, v8, v9, v10, v11, v12, v13, v14, v15, v16, v17, v18, v19, v20, v21, v22, v23, v24, v25, v26, v27) => by kernel_rfl
theorem D3_of (v : T3) {r : R} (h : d3 spymake_Stream_Next.F spymake_Stream_Range.F D4 v = some r) : D3 v = some r :=
  join_of (l := fun L => l3 (L 0) v) (d := fun L => d3 (spymake_Stream_Next.f (L 0)) (spymake_Stream_Range.f (L 0)) (l4 (L 0)) v) (fun L => (held_eq _).trans (l3_b (L 0) v)) (d3_cn (spymake_Stream_Next.F_cn 0) (spymake_Stream_Range.F_cn 0) (fun v => (D4_cn v).re [0]) v) h
def d4 (spymake_Stream_Next_k : spymake_Stream_Next.A → Option spymake_Stream_Next.R) (spymake_Stream_Range_k : spymake_Stream_Range.A → Option spymake_Stream_Range.R) (L5k : T5 → Option R) : T4 → Option R := fun (v0, v1, v2, v3, v4, v5, v6, v7, v8, v9, v10, v11, v12, v13, v14, v15, v16, v17, v18, v19, v20, v21, v22, v23, v24, v25, v26, v27) =>
bnd (spymake_Stream_Next_k (6, v0, v1)) fun r =>
  br (decide (r.fst = 0))
    (bnd (spymake_Stream_Range_k (-8, 8, r.snd.fst, r.snd.snd)) fun r =>
      L5k (r.snd.fst, r.snd.snd, v2, v3, v4, v5, v6, v7, v8, v9, v10, v11, v12, v13, v14, v15, v16, v17, v18, v19, v20, v21, v22, v23, wrap IntKind.i64 (r.fst * 134217728), v25, v26, v27))
    (L5k (r.snd.fst, r.snd.snd, v2, v3, v4, v5, v6, v7, v8, v9, v10, v11, v12, v13, v14, v15, v16, v17, v18, v19, v20, v21, v22, v23, v24, v25, v26, v27))
theorem d4_cn {ι : Type} {E : Fil ι} {spymake_Stream_Next_k : spymake_Stream_Next.A → Option spymake_Stream_Next.R} {spymake_Stream_Next_k' : ι → spymake_Stream_Next.A → Option spymake_Stream_Next.R} (hspymake_Stream_Next_k : ∀ v, Cn E (spymake_Stream_Next_k v) fun i => spymake_Stream_Next_k' i v) {spymake_Stream_Range_k : spymake_Stream_Range.A → Option spymake_Stream_Range.R} {spymake_Stream_Range_k' : ι → spymake_Stream_Range.A → Option spymake_Stream_Range.R} (hspymake_Stream_Range_k : ∀ v, Cn E (spymake_Stream_Range_k v) fun i => spymake_Stream_Range_k' i v) {L5k : T5 → Option R} {L5k' : ι → T5 → Option R} (hL5k : ∀ v, Cn E (L5k v) fun i => L5k' i v) : ∀ v : T4, Cn E (d4 spymake_Stream_Next_k spymake_Stream_Range_k L5k v) fun i => d4 (spymake_Stream_Next_k' i) (spymake_Stream_Range_k' i) (L5k' i) v := fun (v0, v1, v2, v3, v4, v5, v6, v7, v8, v9, v10, v11, v12, v13, v14, v15, v16, v17, v18, v19, v20, v21, v22, v23, v24, v25, v26, v27) => (.bnd (hspymake_Stream_Next_k _) fun _ => (.br (.bnd (hspymake_Stream_Range_k _) fun _ => (hL5k _)) (hL5k _)))
theorem l4_b ( k : Nat) : ∀ v : T4, run (cs k) (loopN cs k) c1000014 (J1000014 k) (s4 v) = d4 (spymake_Stream_Next.f k) (spymake_Stream_Range.f k) (l5 k) v := fun (v0, v1, v2, v3, v4, v5, v6, v7, v8, v9, v10, v11, v12, v13, v14, v15, v16, v17, v18, v19, v20, v21, v22, v23, v24, v25, v26, v27) => by kernel_rfl
theorem D4_of (v : T4) {r : R} (h : d4 spymake_Stream_Next.F spymake_Stream_Range.F D5 v = some r) : D4 v = some r :=
  join_of (l := fun L => l4 (L 0) v) (d := fun L => d4 (spymake_Stream_Next.f (L 0)) (spymake_Stream_Range.f (L 0)) (l5 (L 0)) v) (fun L => (held_eq _).trans (l4_b (L 0) v)) (d4_cn (spymake_Stream_Next.F_cn 0) (spymake_Stream_Range.F_cn 0) (fun v => (D5_cn v).re [0]) v) h
def d5 : T5 → Option R := fun (v0, v1, v2, v3, v4, v5, v6, v7, v8, v9, v10, v11, v12, v13, v14, v15, v16, v17, v18, v19, v20, v21, v22, v23, v24, v25, v26, v27) =>
some (v15, v16, v17, v18, v19, v20, v21, v22, v23, v24, v25, v26, v27, v0, v1)
theorem d5_cn {ι : Type} {E : Fil ι} : ∀ v : T5, Cn E (d5 v) fun i => d5 v := fun (v0, v1, v2, v3, v4, v5, v6, v7, v8, v9, v10, v11, v12, v13, v14, v15, v16, v17, v18, v19, v20, v21, v22, v23, v24, v25, v26, v27) => .some
theorem l5_b ( k : Nat) : ∀ v : T5, run (cs k) (loopN cs k) c1000016 (J1000016 k) (s5 v) = d5 v := fun (v0, v1, v2, v3, v4, v5, v6, v7, v8, v9, v10, v11, v12, v13, v14, v15, v16, v17, v18, v19, v20, v21, v22, v23, v24, v25, v26, v27) => by kernel_rfl
theorem D5_of (v : T5) {r : R} (h : d5 v = some r) : D5 v = some r :=
  join_of (l := fun L => l5 (L 0) v) (d := fun L => d5 v) (fun L => (held_eq _).trans (l5_b (L 0) v)) (d5_cn v) h
noncomputable def f (k : Nat) : A → Option R := fun (v0, v1, v2, v3, v4, v5, v6, v7, v8, v9, v10, v11, v12, v13, v14, v15, v16, v17, v18, v19) => held (runFn cs k Tryz.f9 [(.c (.ptr 128000000 0)), (.agg [(.int .i64 v0), (.int .i64 v1), (.int .i64 v2), (.int .i64 v3), (.int .i64 v4), (.int .i64 v5), (.int .i64 v6), (.int .i64 v7), (.int .i64 v8), (.int .i64 v9), (.int .i64 v10), (.int .i64 v11), (.int .i64 v12), (.int .i64 v13), (.int .i64 v14), (.int .i64 v15), (.sl 256000000)]), (.c (.int .i64 v16)), (.c (.int .i64 v17))] [(.box [(.frz (.int .i64) v18), (.int .i64 v19)])] dec)
noncomputable def F (v : A) : Option R := lim fun L => f (L 0) v
theorem F_cn (x : Nat) (v : A) : Cn late (F v) fun L => f (L x) v := of_lim.re [x]
def d (spymake_Stream_Next_k : spymake_Stream_Next.A → Option spymake_Stream_Next.R) (spymake_Stream_Vec_k : spymake_Stream_Vec.A → Option spymake_Stream_Vec.R) (spymake_Stream_Range_k : spymake_Stream_Range.A → Option spymake_Stream_Range.R) (L0k : T0 → Option R) (L1k : T1 → Option R) : A → Option R := fun (v0, v1, v2, v3, v4, v5, v6, v7, v8, v9, v10, v11, v12, v13, v14, v15, v16, v17, v18, v19) =>
bnd (spymake_Stream_Next_k (v17, v18, v19)) fun r =>
  bnd (spymake_Stream_Vec_k (r.snd.fst, r.snd.snd)) fun r_1 =>
    bnd (spymake_Stream_Range_k (1, 3, r_1.snd.snd.snd.fst, r_1.snd.snd.snd.snd)) fun r_2 =>
      bnd (spymake_Stream_Range_k (1, 3, r_2.snd.fst, r_2.snd.snd)) fun r_3 =>
        bnd (spymake_Stream_Range_k (1, 5, r_3.snd.fst, r_3.snd.snd)) fun r_4 =>
          bnd (spymake_Stream_Next_k (2, r_4.snd.fst, r_4.snd.snd)) fun r_5 =>
            br (decide (r_5.fst = 0))
              (bnd (spymake_Stream_Range_k (-9, 9, r_5.snd.fst, r_5.snd.snd)) fun r_6 =>
                bnd (spymake_Stream_Range_k (-9, 9, r_6.snd.fst, r_6.snd.snd)) fun r_7 =>
                  br (decide (v0 < 0)) (L0k (r_7.snd.fst, r_7.snd.snd, 0, 0, 0, 0, 0, 0, 0, 0, 0, 0, 0, 0, 0, v16, r.fst, r_6.fst, r_7.fst, -12, r_2.fst, r_3.fst, 0, 0, -1073741824, 1073741824, 4, r_4.fst))
                    (L0k (r_7.snd.fst, r_7.snd.snd, 0, 0, 0, 0, 0, 0, 0, 0, 0, 0, 0, 0, 0, v16, r.fst, r_6.fst, r_7.fst, 12, r_2.fst, r_3.fst, 0, 0, -1073741824, 1073741824, 4, r_4.fst)))
              (L1k (r_5.snd.fst, r_5.snd.snd, 0, 0, 0, 0, 0, 0, 0, 0, 0, 0, 0, 0, 0, v16, r.fst, r_1.fst, r_1.snd.fst, r_1.snd.snd.fst, r_2.fst, r_3.fst, 0, 0, -1073741824, 1073741824, 4, r_4.fst))
theorem d_cn {ι : Type} {E : Fil ι} {spymake_Stream_Next_k : spymake_Stream_Next.A → Option spymake_Stream_Next.R} {spymake_Stream_Next_k' : ι → spymake_Stream_Next.A → Option spymake_Stream_Next.R} (hspymake_Stream_Next_k : ∀ v, Cn E (spymake_Stream_Next_k v) fun i => spymake_Stream_Next_k' i v) {spymake_Stream_Vec_k : spymake_Stream_Vec.A → Option spymake_Stream_Vec.R} {spymake_Stream_Vec_k' : ι → spymake_Stream_Vec.A → Option spymake_Stream_Vec.R} (hspymake_Stream_Vec_k : ∀ v, Cn E (spymake_Stream_Vec_k v) fun i => spymake_Stream_Vec_k' i v) {spymake_Stream_Range_k : spymake_Stream_Range.A → Option spymake_Stream_Range.R} {spymake_Stream_Range_k' : ι → spymake_Stream_Range.A → Option spymake_Stream_Range.R} (hspymake_Stream_Range_k : ∀ v, Cn E (spymake_Stream_Range_k v) fun i => spymake_Stream_Range_k' i v) {L0k : T0 → Option R} {L0k' : ι → T0 → Option R} (hL0k : ∀ v, Cn E (L0k v) fun i => L0k' i v) {L1k : T1 → Option R} {L1k' : ι → T1 → Option R} (hL1k : ∀ v, Cn E (L1k v) fun i => L1k' i v) : ∀ v : A, Cn E (d spymake_Stream_Next_k spymake_Stream_Vec_k spymake_Stream_Range_k L0k L1k v) fun i => d (spymake_Stream_Next_k' i) (spymake_Stream_Vec_k' i) (spymake_Stream_Range_k' i) (L0k' i) (L1k' i) v := fun (v0, v1, v2, v3, v4, v5, v6, v7, v8, v9, v10, v11, v12, v13, v14, v15, v16, v17, v18, v19) => (.bnd (hspymake_Stream_Next_k _) fun _ => (.bnd (hspymake_Stream_Vec_k _) fun _ => (.bnd (hspymake_Stream_Range_k _) fun _ => (.bnd (hspymake_Stream_Range_k _) fun _ => (.bnd (hspymake_Stream_Range_k _) fun _ => (.bnd (hspymake_Stream_Next_k _) fun _ => (.br (.bnd (hspymake_Stream_Range_k _) fun _ => (.bnd (hspymake_Stream_Range_k _) fun _ => (.br (hL0k _) (hL0k _)))) (hL1k _))))))))
theorem f_b (k : Nat) : ∀ v : A, f k v = d (spymake_Stream_Next.f k) (spymake_Stream_Vec.f k) (spymake_Stream_Range.f k) (l0 k) (l1 k) v := fun (v0, v1, v2, v3, v4, v5, v6, v7, v8, v9, v10, v11, v12, v13, v14, v15, v16, v17, v18, v19) => (held_eq _).trans (by kernel_rfl)
theorem F_of (v : A) {r : R} (h : d spymake_Stream_Next.F spymake_Stream_Vec.F spymake_Stream_Range.F D0 D1 v = some r) : F v = some r :=
  join_of (l := fun L => f (L 0) v) (d := fun L => d (spymake_Stream_Next.f (L 0)) (spymake_Stream_Vec.f (L 0)) (spymake_Stream_Range.f (L 0)) (l0 (L 0)) (l1 (L 0)) v) (fun L => f_b (L 0) v) (d_cn (spymake_Stream_Next.F_cn 0) (spymake_Stream_Vec.F_cn 0) (spymake_Stream_Range.F_cn 0) (fun v => (D0_cn v).re [0]) (fun v => (D1_cn v).re [0]) v) h
noncomputable def spec (k : Nat) (args : List AV) (ss : List Slot) : Option Ans :=
  match args, ss with
  | [(.c (.ptr 128000000 0)), (.agg [(.int .i64 v0), (.int .i64 v1), (.int .i64 v2), (.int .i64 v3), (.int .i64 v4), (.int .i64 v5), (.int .i64 v6), (.int .i64 v7), (.int .i64 v8), (.int .i64 v9), (.int .i64 v10), (.int .i64 v11), (.int .i64 v12), (.int .i64 v13), (.int .i64 v14), (.int .i64 v15), (.sl 256000000)]), (.c (.int .i64 v16)), (.c (.int .i64 v17))], [(.box [(.frz (.int .i64) v18), (.int .i64 v19)])] => some ⟨R, f k (v0, v1, v2, v3, v4, v5, v6, v7, v8, v9, v10, v11, v12, v13, v14, v15, v16, v17, v18, v19), enc⟩
  | _, _ => none
theorem spec_ok (k : Nat) : SpecOk Tryz.prog 9 (spec k) := by
  intro args ss ans x h hx X σ w vals hp
  unfold spec at h
  split at h
  · cases h
    exact spec_of cs_ok Tryz.func9 rfl rfl dec_ok (held_eq _).symm hx hp
  · cases h
end spymake_Stream_Request
noncomputable def t_spymake_Stream_Request (k : Nat) := tcons 9 (spymake_Stream_Request.spec k) (t_spymake_Stream_Night k)
theorem t_spymake_Stream_Request_ok (n g : Nat) : SpecOk Tryz.prog g (t_spymake_Stream_Request n g) := tcons_ok (spymake_Stream_Request.spec_ok n) (fun g => t_spymake_Stream_Night_ok n g) g
namespace spykeep2_WindowLooser
abbrev R : Type := Bool
abbrev A : Type := List Int
def lv : List (Nat × List Nat) := [(2000000, [2]), (15, [7, 9, 77, 78])]
noncomputable def cs : Nat → Ctx := ctxOf tis modes t_spymake_Stream_Request lv
theorem cs_ok (n : Nat) : CtxOk Tryz.prog (cs n) := ctxOf_ok rfl tis_ok t_spymake_Stream_Request_ok n
def enc (r : R) : Out := ((.c (.bool r)), [])
def dec : Out → Option R
  | ((.c (.bool v0)), []) => some v0
  | _ => none
theorem dec_ok : ∀ u y, dec u = some y → u = enc y := by
  intro u y h
  unfold dec at h
  split at h
  · cases h; rfl
  · cases h
noncomputable def b0 : Code := subF [] Tryz.f3
noncomputable def K0 (k : Nat) : Kt R := kTop (cs k) Tryz.f3 dec
noncomputable def b15 : Code := sub [1, 1, 1, 1, 1, 1, 1, 1, 1, 1, 1, 1, 0, 1, 0, 0] b0
noncomputable def K15 ( k : Nat) : Kt R := kAt (cs k) (loopN cs k) [1, 1, 1, 1, 1, 1, 1, 1, 1, 1, 1, 1, 0, 1, 0] b0 (K0 k)
abbrev T0 : Type := Int × Int × List Int × List Int
def s0 : T0 → St := fun (v0, v1, v2, v3) => ⟨94, 0, [(7, (.c (.sl 64000000))), (9, (.c (.sl 64000001))), (77, (.c (.int .i64 v0))), (78, (.c (.int .i64 v1)))], [], [(256000000, .gone), (64000000, (.row (.int .i64) v2)), (64000001, (.row (.int .i64) v3))]⟩
noncomputable def l0 ( k n : Nat) (v : T0) : Option R := held (loopN cs n b15 (K15 k) (s0 v))
noncomputable def D0 (v : T0) : Option R := lim fun L => l0 (L 0) (L 1) v
theorem D0_cn (v : T0) : Cn late (D0 v) fun L => l0 (L 0) (L 1) v := of_lim
def d0 (L0m1 : T0 → Option R) : T0 → Option R := fun (v0, v1, v2, v3) =>
br (decide (v1 < v0))
  (br (decide (0 ≤ v1 ∧ v1 < (↑v2.length : Int)))
    (br (!decide (rd (Ty.int IntKind.i64) v2 v1 = 0) == true || decide (0 ≤ v1 ∧ v1 < (↑v3.length : Int)))
      (br (decide (rd (Ty.int IntKind.i64) v2 v1 = 0) && !decide (rd (Ty.int IntKind.i64) v3 v1 = 0)) (some false) (L0m1 (v0, wrap IntKind.i64 (v1 + 1), v2, v3))) none)
    none)
  (some true)
theorem d0_cn {ι : Type} {E : Fil ι} {L0m1 : T0 → Option R} {L0m1' : ι → T0 → Option R} (hL0m1 : ∀ v, Cn E (L0m1 v) fun i => L0m1' i v) : ∀ v : T0, Cn E (d0 L0m1 v) fun i => d0 (L0m1' i) v := fun (v0, v1, v2, v3) => (.br (.br (.br (.br .some (hL0m1 _)) .none) .none) .some)
theorem l0_b ( k m1 : Nat) : ∀ v : T0, run (cs m1) (loopN cs m1) b15 (kLoop cs m1 b15 (K15 k)) (s0 v) = d0 (l0 k m1) v := fun (v0, v1, v2, v3) => by kernel_rfl
theorem D0_of (v : T0) {r : R} (h : d0 D0 v = some r) : D0 v = some r :=
  loop_of 1 (l := fun L => l0 (L 0) (L 1) v) (d := fun L => d0 (l0 (L 0) (L 1)) v) (fun L n hn => by show l0 (L 0) (L 1) v = _; rw [hn]; exact (held_eq _).trans ((loopN_succ _ _ _ _ _).trans (l0_b (L 0) n v))) (d0_cn (fun v => (D0_cn v).re [0, 1]) v) h
noncomputable def f (k : Nat) : A → Option R := fun v0 => held (runFn cs k Tryz.f3 [(.c (.frz (.int .i64) v0))] [] dec)
noncomputable def F (v : A) : Option R := lim fun L => f (L 0) v
theorem F_cn (x : Nat) (v : A) : Cn late (F v) fun L => f (L x) v := of_lim.re [x]
def d (spykeep2_opens_k : spykeep2_opens.A → Option spykeep2_opens.R) (spymake_Stream_Night_k : spymake_Stream_Night.A → Option spymake_Stream_Night.R) (spymake_Stream_Request_k : spymake_Stream_Request.A → Option spymake_Stream_Request.R) (spymake_Stream_Next_k : spymake_Stream_Next.A → Option spymake_Stream_Next.R) (window_Slots_k : window_Slots.A → Option window_Slots.R) (L0k : T0 → Option R) : A → Option R := fun v0 =>
bnd (spykeep2_opens_k ()) fun r =>
  br (!r) (some false)
    (bnd (spymake_Stream_Night_k (20, v0, 0)) fun r =>
      bnd
        (spymake_Stream_Request_k
          (r.fst, r.snd.fst, r.snd.snd.fst, r.snd.snd.snd.fst, r.snd.snd.snd.snd.fst, r.snd.snd.snd.snd.snd.fst, r.snd.snd.snd.snd.snd.snd.fst, r.snd.snd.snd.snd.snd.snd.snd.fst, r.snd.snd.snd.snd.snd.snd.snd.snd.fst,
            r.snd.snd.snd.snd.snd.snd.snd.snd.snd.fst, r.snd.snd.snd.snd.snd.snd.snd.snd.snd.snd.fst, r.snd.snd.snd.snd.snd.snd.snd.snd.snd.snd.snd.fst, r.snd.snd.snd.snd.snd.snd.snd.snd.snd.snd.snd.snd.fst,
            r.snd.snd.snd.snd.snd.snd.snd.snd.snd.snd.snd.snd.snd.fst, r.snd.snd.snd.snd.snd.snd.snd.snd.snd.snd.snd.snd.snd.snd.fst, r.snd.snd.snd.snd.snd.snd.snd.snd.snd.snd.snd.snd.snd.snd.snd.fst, 1, 1,
            r.snd.snd.snd.snd.snd.snd.snd.snd.snd.snd.snd.snd.snd.snd.snd.snd.fst, r.snd.snd.snd.snd.snd.snd.snd.snd.snd.snd.snd.snd.snd.snd.snd.snd.snd.fst))
        fun r_1 =>
        bnd (spymake_Stream_Next_k (536870912, r_1.snd.snd.snd.snd.snd.snd.snd.snd.snd.snd.snd.snd.snd.fst, r_1.snd.snd.snd.snd.snd.snd.snd.snd.snd.snd.snd.snd.snd.snd)) fun r_2 =>
          bnd (spymake_Stream_Next_k (536870912, r_2.snd.fst, r_2.snd.snd)) fun r_3 =>
            bnd (spymake_Stream_Next_k (3, r_3.snd.fst, r_3.snd.snd)) fun r_4 =>
              bnd
                (window_Slots_k
                  (r.fst, r.snd.fst, r.snd.snd.fst, r.snd.snd.snd.fst, r.snd.snd.snd.snd.fst, r.snd.snd.snd.snd.snd.fst, r.snd.snd.snd.snd.snd.snd.fst, r.snd.snd.snd.snd.snd.snd.snd.fst,
                    r.snd.snd.snd.snd.snd.snd.snd.snd.fst, r.snd.snd.snd.snd.snd.snd.snd.snd.snd.fst, r.snd.snd.snd.snd.snd.snd.snd.snd.snd.snd.fst, r.snd.snd.snd.snd.snd.snd.snd.snd.snd.snd.snd.fst,
                    r.snd.snd.snd.snd.snd.snd.snd.snd.snd.snd.snd.snd.fst, r.snd.snd.snd.snd.snd.snd.snd.snd.snd.snd.snd.snd.snd.fst, r.snd.snd.snd.snd.snd.snd.snd.snd.snd.snd.snd.snd.snd.snd.fst,
                    r.snd.snd.snd.snd.snd.snd.snd.snd.snd.snd.snd.snd.snd.snd.snd.fst, r.snd.snd.snd.snd.snd.snd.snd.snd.snd.snd.snd.snd.snd.snd.snd.snd.snd.snd, r_1.fst, r_1.snd.fst, r_1.snd.snd.fst,
                    r_1.snd.snd.snd.fst, r_1.snd.snd.snd.snd.fst, r_1.snd.snd.snd.snd.snd.fst, r_1.snd.snd.snd.snd.snd.snd.fst, r_1.snd.snd.snd.snd.snd.snd.snd.fst, r_1.snd.snd.snd.snd.snd.snd.snd.snd.fst,
                    r_1.snd.snd.snd.snd.snd.snd.snd.snd.snd.fst, r_1.snd.snd.snd.snd.snd.snd.snd.snd.snd.snd.fst, r_1.snd.snd.snd.snd.snd.snd.snd.snd.snd.snd.snd.fst,
                    r_1.snd.snd.snd.snd.snd.snd.snd.snd.snd.snd.snd.snd.fst))
                fun r_5 =>
                bnd
                  (window_Slots_k
                    (r.fst, r.snd.fst, r.snd.snd.fst, r.snd.snd.snd.fst, r.snd.snd.snd.snd.fst, r.snd.snd.snd.snd.snd.fst, r.snd.snd.snd.snd.snd.snd.fst, r.snd.snd.snd.snd.snd.snd.snd.fst,
                      r.snd.snd.snd.snd.snd.snd.snd.snd.fst, r.snd.snd.snd.snd.snd.snd.snd.snd.snd.fst, r.snd.snd.snd.snd.snd.snd.snd.snd.snd.snd.fst, r.snd.snd.snd.snd.snd.snd.snd.snd.snd.snd.snd.fst,
                      r.snd.snd.snd.snd.snd.snd.snd.snd.snd.snd.snd.snd.fst, r.snd.snd.snd.snd.snd.snd.snd.snd.snd.snd.snd.snd.snd.fst, r.snd.snd.snd.snd.snd.snd.snd.snd.snd.snd.snd.snd.snd.snd.fst,
                      r.snd.snd.snd.snd.snd.snd.snd.snd.snd.snd.snd.snd.snd.snd.snd.fst, r.snd.snd.snd.snd.snd.snd.snd.snd.snd.snd.snd.snd.snd.snd.snd.snd.snd.snd, r_1.fst, r_1.snd.fst, r_1.snd.snd.fst,
                      r_1.snd.snd.snd.fst, r_1.snd.snd.snd.snd.fst, r_1.snd.snd.snd.snd.snd.fst, r_1.snd.snd.snd.snd.snd.snd.fst, r_1.snd.snd.snd.snd.snd.snd.snd.fst, r_1.snd.snd.snd.snd.snd.snd.snd.snd.fst,
                      max (-1073741824) (wrap IntKind.i64 (r_1.snd.snd.snd.snd.snd.snd.snd.snd.snd.fst - r_2.fst)), min 1073741824 (wrap IntKind.i64 (r_1.snd.snd.snd.snd.snd.snd.snd.snd.snd.snd.fst + r_3.fst)),
                      min 4 (wrap IntKind.i64 (r_1.snd.snd.snd.snd.snd.snd.snd.snd.snd.snd.snd.fst + r_4.fst)), r_1.snd.snd.snd.snd.snd.snd.snd.snd.snd.snd.snd.snd.fst))
                  fun r_6 =>
                  br (!decide (r_5.fst = 0) || !decide (r_6.fst = 0) || !decide ((↑r_5.snd.length : Int) = r.snd.snd.snd.snd.snd.snd.snd.snd.fst) || !decide ((↑r_6.snd.length : Int) = (↑r_5.snd.length : Int)))
                    (some false) (L0k ((↑r_5.snd.length : Int), 0, r_5.snd, r_6.snd)))
theorem d_cn {ι : Type} {E : Fil ι} {spykeep2_opens_k : spykeep2_opens.A → Option spykeep2_opens.R} {spykeep2_opens_k' : ι → spykeep2_opens.A → Option spykeep2_opens.R} (hspykeep2_opens_k : ∀ v, Cn E (spykeep2_opens_k v) fun i => spykeep2_opens_k' i v) {spymake_Stream_Night_k : spymake_Stream_Night.A → Option spymake_Stream_Night.R} {spymake_Stream_Night_k' : ι → spymake_Stream_Night.A → Option spymake_Stream_Night.R} (hspymake_Stream_Night_k : ∀ v, Cn E (spymake_Stream_Night_k v) fun i => spymake_Stream_Night_k' i v) {spymake_Stream_Request_k : spymake_Stream_Request.A → Option spymake_Stream_Request.R} {spymake_Stream_Request_k' : ι → spymake_Stream_Request.A → Option spymake_Stream_Request.R} (hspymake_Stream_Request_k : ∀ v, Cn E (spymake_Stream_Request_k v) fun i => spymake_Stream_Request_k' i v) {spymake_Stream_Next_k : spymake_Stream_Next.A → Option spymake_Stream_Next.R} {spymake_Stream_Next_k' : ι → spymake_Stream_Next.A → Option spymake_Stream_Next.R} (hspymake_Stream_Next_k : ∀ v, Cn E (spymake_Stream_Next_k v) fun i => spymake_Stream_Next_k' i v) {window_Slots_k : window_Slots.A → Option window_Slots.R} {window_Slots_k' : ι → window_Slots.A → Option window_Slots.R} (hwindow_Slots_k : ∀ v, Cn E (window_Slots_k v) fun i => window_Slots_k' i v) {L0k : T0 → Option R} {L0k' : ι → T0 → Option R} (hL0k : ∀ v, Cn E (L0k v) fun i => L0k' i v) : ∀ v : A, Cn E (d spykeep2_opens_k spymake_Stream_Night_k spymake_Stream_Request_k spymake_Stream_Next_k window_Slots_k L0k v) fun i => d (spykeep2_opens_k' i) (spymake_Stream_Night_k' i) (spymake_Stream_Request_k' i) (spymake_Stream_Next_k' i) (window_Slots_k' i) (L0k' i) v := fun v0 => (.bnd (hspykeep2_opens_k _) fun _ => (.br .some (.bnd (hspymake_Stream_Night_k _) fun _ => (.bnd (hspymake_Stream_Request_k _) fun _ => (.bnd (hspymake_Stream_Next_k _) fun _ => (.bnd (hspymake_Stream_Next_k _) fun _ => (.bnd (hspymake_Stream_Next_k _) fun _ => (.bnd (hwindow_Slots_k _) fun _ => (.bnd (hwindow_Slots_k _) fun _ => (.br .some (hL0k _)))))))))))
theorem f_b (k : Nat) : ∀ v : A, f k v = d (spykeep2_opens.f k) (spymake_Stream_Night.f k) (spymake_Stream_Request.f k) (spymake_Stream_Next.f k) (window_Slots.f k) (l0 k k) v := fun v0 => (held_eq _).trans (by kernel_rfl)
theorem F_of (v : A) {r : R} (h : d spykeep2_opens.F spymake_Stream_Night.F spymake_Stream_Request.F spymake_Stream_Next.F window_Slots.F D0 v = some r) : F v = some r :=
  join_of (l := fun L => f (L 0) v) (d := fun L => d (spykeep2_opens.f (L 0)) (spymake_Stream_Night.f (L 0)) (spymake_Stream_Request.f (L 0)) (spymake_Stream_Next.f (L 0)) (window_Slots.f (L 0)) (l0 (L 0) (L 0)) v) (fun L => f_b (L 0) v) (d_cn (spykeep2_opens.F_cn 0) (spymake_Stream_Night.F_cn 0) (spymake_Stream_Request.F_cn 0) (spymake_Stream_Next.F_cn 0) (window_Slots.F_cn 0) (fun v => (D0_cn v).re [0, 0]) v) h
noncomputable def spec (k : Nat) (args : List AV) (ss : List Slot) : Option Ans :=
  match args, ss with
  | [(.c (.frz (.int .i64) v0))], [] => some ⟨R, f k v0, enc⟩
  | _, _ => none
theorem spec_ok (k : Nat) : SpecOk Tryz.prog 3 (spec k) := by
  intro args ss ans x h hx X σ w vals hp
  unfold spec at h
  split at h
  · cases h
    exact spec_of cs_ok Tryz.func3 rfl rfl dec_ok (held_eq _).symm hx hp
  · cases h
end spykeep2_WindowLooser
noncomputable def t_spykeep2_WindowLooser (k : Nat) := tcons 3 (spykeep2_WindowLooser.spec k) (t_spymake_Stream_Request k)
theorem t_spykeep2_WindowLooser_ok (n g : Nat) : SpecOk Tryz.prog g (t_spykeep2_WindowLooser n g) := tcons_ok (spykeep2_WindowLooser.spec_ok n) (fun g => t_spymake_Stream_Request_ok n g) g
namespace window_Of
abbrev R : Type := Int × List (Int × Int)
abbrev A : Type := Int × Int × Int × Int × Int × Int × Int × Int × Int × Int × Int × Int × Int × Int × Int × Int × List Int × Int × Int × Int × Int × Int × Int × Int × Int × Int × Int × Int × Int × Int
def lv : List (Nat × List Nat) := [(2000000, [4, 5]), (6, [8, 20, 21, 22]), (1000012, [8, 20, 21, 22])]
noncomputable def cs : Nat → Ctx := ctxOf tis modes t_spykeep2_WindowLooser lv
theorem cs_ok (n : Nat) : CtxOk Tryz.prog (cs n) := ctxOf_ok rfl tis_ok t_spykeep2_WindowLooser_ok n
def enc (r : R) : Out := ((.tup [(.c (.sl 128000000)), (.c (.int .i64 r.1))]), [(.row (.pair (.int .i64) (.int .i64)) r.2)])
def dec : Out → Option R
  | ((.tup [(.c (.sl 128000000)), (.c (.int .i64 v0))]), [(.row (.pair (.int .i64) (.int .i64)) v1)]) => some (v0, v1)
  | _ => none
theorem dec_ok : ∀ u y, dec u = some y → u = enc y := by
  intro u y h
  unfold dec at h
  split at h
  · cases h; rfl
  · cases h
noncomputable def b0 : Code := subF [] Tryz.f17
noncomputable def K0 (k : Nat) : Kt R := kTop (cs k) Tryz.f17 dec
noncomputable def b6 : Code := sub [1, 1, 1, 1, 0, 1, 0, 0] b0
noncomputable def K6 ( k : Nat) : Kt R := kAt (cs k) (loopN cs k) [1, 1, 1, 1, 0, 1, 0] b0 (K0 k)
noncomputable def c1000012 : Code := sub [1, 1, 1] b6
noncomputable def J1000012 ( k m1 : Nat) : Kt R := kAt (cs m1) (loopN cs m1) [1, 1, 1] b6 (kLoop cs m1 b6 (K6 k))
abbrev T0 : Type := Int × Int × List (Int × Int) × List Int
def s0 : T0 → St := fun (v0, v1, v2, v3) => ⟨60, 0, [(8, (.c (.sl 64000000))), (20, (.c (.sl 64000001))), (21, (.c (.int .i64 v0))), (22, (.c (.int .i64 v1)))], [], [(256000000, .gone), (64000000, (.row (.pair (.int .i64) (.int .i64)) v2)), (64000001, (.row (.int .i64) v3))]⟩
noncomputable def l0 ( k n : Nat) (v : T0) : Option R := held (loopN cs n b6 (K6 k) (s0 v))
noncomputable def D0 (v : T0) : Option R := lim fun L => l0 (L 0) (L 1) v
theorem D0_cn (v : T0) : Cn late (D0 v) fun L => l0 (L 0) (L 1) v := of_lim
abbrev T1 : Type := Int × Int × List (Int × Int) × List Int
def s1 : T1 → St := fun (v0, v1, v2, v3) => ⟨60, 0, [(8, (.c (.sl 64000000))), (20, (.c (.sl 64000001))), (21, (.c (.int .i64 v0))), (22, (.c (.int .i64 v1)))], [], [(256000000, .gone), (64000000, (.row (.pair (.int .i64) (.int .i64)) v2)), (64000001, (.row (.int .i64) v3))]⟩
noncomputable def l1 ( k m1 : Nat) (v : T1) : Option R := held (run (cs m1) (loopN cs m1) c1000012 (J1000012 k m1) (s1 v))
noncomputable def D1 (v : T1) : Option R := lim fun L => l1 (L 0) (L 1) v
theorem D1_cn (v : T1) : Cn late (D1 v) fun L => l1 (L 0) (L 1) v := of_lim
def d0 (L1m1 : T1 → Option R) : T0 → Option R := fun (v0, v1, v2, v3) =>
br (decide (v1 < v0))
  (br (decide (0 ≤ v1 ∧ v1 < (↑v3.length : Int)))
    (br (!decide (rd (Ty.int IntKind.i64) v3 v1 = 0)) (L1m1 (v0, v1, v2, v3))
      (br (!decide (0 < (↑v2.length : Int)) == true || decide (0 ≤ wrap IntKind.i64 ((↑v2.length : Int) - 1) ∧ wrap IntKind.i64 ((↑v2.length : Int) - 1) < (↑v2.length : Int)))
        (br (decide (0 < (↑v2.length : Int)) && decide ((rd ((Ty.int IntKind.i64).pair (Ty.int IntKind.i64)) v2 (wrap IntKind.i64 ((↑v2.length : Int) - 1))).snd = v1))
          (br (decide (0 ≤ wrap IntKind.i64 ((↑v2.length : Int) - 1) ∧ wrap IntKind.i64 ((↑v2.length : Int) - 1) < (↑v2.length : Int)))
            (L1m1
              (v0, v1, v2.set (wrap IntKind.i64 ((↑v2.length : Int) - 1)).toNat ((rd ((Ty.int IntKind.i64).pair (Ty.int IntKind.i64)) v2 (wrap IntKind.i64 ((↑v2.length : Int) - 1))).fst, wrap IntKind.i64 (v1 + 1)), v3))
            none)
          (br (decide (v2.length + [(v1, wrap IntKind.i64 (v1 + 1))].length ≤ 140737488355328 / 16)) (L1m1 (v0, v1, v2 ++ [(v1, wrap IntKind.i64 (v1 + 1))], v3)) none))
        none))
    none)
  (some (0, v2))
theorem d0_cn {ι : Type} {E : Fil ι} {L1m1 : T1 → Option R} {L1m1' : ι → T1 → Option R} (hL1m1 : ∀ v, Cn E (L1m1 v) fun i => L1m1' i v) : ∀ v : T0, Cn E (d0 L1m1 v) fun i => d0 (L1m1' i) v := fun (v0, v1, v2, v3) => (.br (.br (.br (hL1m1 _) (.br (.br (.br (hL1m1 _) .none) (.br (hL1m1 _) .none)) .none)) .none) .some)
theorem l0_b ( k m1 : Nat) : ∀ v : T0, run (cs m1) (loopN cs m1) b6 (kLoop cs m1 b6 (K6 k)) (s0 v) = d0 (l1 k m1) v := fun (v0, v1, v2, v3) => by kernel_rfl
theorem D0_of (v : T0) {r : R} (h : d0 D1 v = some r) : D0 v = some r :=
  loop_of 1 (l := fun L => l0 (L 0) (L 1) v) (d := fun L => d0 (l1 (L 0) (L 1)) v) (fun L n hn => by show l0 (L 0) (L 1) v = _; rw [hn]; exact (held_eq _).trans ((loopN_succ _ _ _ _ _).trans (l0_b (L 0) n v))) (d0_cn (fun v => (D1_cn v).re [0, 1]) v) h
def d1 (L0m1 : T0 → Option R) : T1 → Option R := fun (v0, v1, v2, v3) =>
L0m1 (v0, wrap IntKind.i64 (v1 + 1), v2, v3)
theorem d1_cn {ι : Type} {E : Fil ι} {L0m1 : T0 → Option R} {L0m1' : ι → T0 → Option R} (hL0m1 : ∀ v, Cn E (L0m1 v) fun i => L0m1' i v) : ∀ v : T1, Cn E (d1 L0m1 v) fun i => d1 (L0m1' i) v := fun (v0, v1, v2, v3) => (hL0m1 _)
theorem l1_b ( k m1 : Nat) : ∀ v : T1, run (cs m1) (loopN cs m1) c1000012 (J1000012 k m1) (s1 v) = d1 (l0 k m1) v := fun (v0, v1, v2, v3) => by kernel_rfl
theorem D1_of (v : T1) {r : R} (h : d1 D0 v = some r) : D1 v = some r :=
  join_of (l := fun L => l1 (L 0) (L 1) v) (d := fun L => d1 (l0 (L 0) (L 1)) v) (fun L => (held_eq _).trans (l1_b (L 0) (L 1) v)) (d1_cn (fun v => (D0_cn v).re [0, 1]) v) h
noncomputable def f (k : Nat) : A → Option R := fun (v0, v1, v2, v3, v4, v5, v6, v7, v8, v9, v10, v11, v12, v13, v14, v15, v16, v17, v18, v19, v20, v21, v22, v23, v24, v25, v26, v27, v28, v29) => held (runFn cs k Tryz.f17 [(.agg [(.int .i64 v0), (.int .i64 v1), (.int .i64 v2), (.int .i64 v3), (.int .i64 v4), (.int .i64 v5), (.int .i64 v6), (.int .i64 v7), (.int .i64 v8), (.int .i64 v9), (.int .i64 v10), (.int .i64 v11), (.int .i64 v12), (.int .i64 v13), (.int .i64 v14), (.int .i64 v15), (.frz (.int .i64) v16)]), (.agg [(.int .i64 v17), (.int .i64 v18), (.int .i64 v19), (.int .i64 v20), (.int .i64 v21), (.int .i64 v22), (.int .i64 v23), (.int .i64 v24), (.int .i64 v25), (.int .i64 v26), (.int .i64 v27), (.int .i64 v28), (.int .i64 v29)])] [] dec)
noncomputable def F (v : A) : Option R := lim fun L => f (L 0) v
theorem F_cn (x : Nat) (v : A) : Cn late (F v) fun L => f (L x) v := of_lim.re [x]
def d (window_Slots_k : window_Slots.A → Option window_Slots.R) (L0k : T0 → Option R) : A → Option R := fun (v0, v1, v2, v3, v4, v5, v6, v7, v8, v9, v10, v11, v12, v13, v14, v15, v16, v17, v18, v19, v20, v21, v22, v23, v24, v25, v26, v27, v28, v29) =>
bnd (window_Slots_k (v0, v1, v2, v3, v4, v5, v6, v7, v8, v9, v10, v11, v12, v13, v14, v15, v16, v17, v18, v19, v20, v21, v22, v23, v24, v25, v26, v27, v28, v29)) fun r =>
  br (!decide (r.fst = 0)) (some (r.fst, [])) (L0k ((↑r.snd.length : Int), 0, [], r.snd))
theorem d_cn {ι : Type} {E : Fil ι} {window_Slots_k : window_Slots.A → Option window_Slots.R} {window_Slots_k' : ι → window_Slots.A → Option window_Slots.R} (hwindow_Slots_k : ∀ v, Cn E (window_Slots_k v) fun i => window_Slots_k' i v) {L0k : T0 → Option R} {L0k' : ι → T0 → Option R} (hL0k : ∀ v, Cn E (L0k v) fun i => L0k' i v) : ∀ v : A, Cn E (d window_Slots_k L0k v) fun i => d (window_Slots_k' i) (L0k' i) v := fun (v0, v1, v2, v3, v4, v5, v6, v7, v8, v9, v10, v11, v12, v13, v14, v15, v16, v17, v18, v19, v20, v21, v22, v23, v24, v25, v26, v27, v28, v29) => (.bnd (hwindow_Slots_k _) fun _ => (.br .some (hL0k _)))
theorem f_b (k : Nat) : ∀ v : A, f k v = d (window_Slots.f k) (l0 k k) v := fun (v0, v1, v2, v3, v4, v5, v6, v7, v8, v9, v10, v11, v12, v13, v14, v15, v16, v17, v18, v19, v20, v21, v22, v23, v24, v25, v26, v27, v28, v29) => (held_eq _).trans (by kernel_rfl)
theorem F_of (v : A) {r : R} (h : d window_Slots.F D0 v = some r) : F v = some r :=
  join_of (l := fun L => f (L 0) v) (d := fun L => d (window_Slots.f (L 0)) (l0 (L 0) (L 0)) v) (fun L => f_b (L 0) v) (d_cn (window_Slots.F_cn 0) (fun v => (D0_cn v).re [0, 0]) v) h
noncomputable def spec (k : Nat) (args : List AV) (ss : List Slot) : Option Ans :=
  match args, ss with
  | [(.agg [(.int .i64 v0), (.int .i64 v1), (.int .i64 v2), (.int .i64 v3), (.int .i64 v4), (.int .i64 v5), (.int .i64 v6), (.int .i64 v7), (.int .i64 v8), (.int .i64 v9), (.int .i64 v10), (.int .i64 v11), (.int .i64 v12), (.int .i64 v13), (.int .i64 v14), (.int .i64 v15), (.frz (.int .i64) v16)]), (.agg [(.int .i64 v17), (.int .i64 v18), (.int .i64 v19), (.int .i64 v20), (.int .i64 v21), (.int .i64 v22), (.int .i64 v23), (.int .i64 v24), (.int .i64 v25), (.int .i64 v26), (.int .i64 v27), (.int .i64 v28), (.int .i64 v29)])], [] => some ⟨R, f k (v0, v1, v2, v3, v4, v5, v6, v7, v8, v9, v10, v11, v12, v13, v14, v15, v16, v17, v18, v19, v20, v21, v22, v23, v24, v25, v26, v27, v28, v29), enc⟩
  | _, _ => none
theorem spec_ok (k : Nat) : SpecOk Tryz.prog 17 (spec k) := by
  intro args ss ans x h hx X σ w vals hp
  unfold spec at h
  split at h
  · cases h
    exact spec_of cs_ok Tryz.func17 rfl rfl dec_ok (held_eq _).symm hx hp
  · cases h
end window_Of
noncomputable def t_window_Of (k : Nat) := tcons 17 (window_Of.spec k) (t_spykeep2_WindowLooser k)
theorem t_window_Of_ok (n g : Nat) : SpecOk Tryz.prog g (t_window_Of n g) := tcons_ok (window_Of.spec_ok n) (fun g => t_spykeep2_WindowLooser_ok n g) g
namespace spykeep2_WindowSpans
abbrev R : Type := Bool
abbrev A : Type := List Int
def lv : List (Nat × List Nat) := [(2000000, [2]), (13, [4, 8, 10, 11, 54, 55, 56]), (19, [4, 8, 10, 11, 13, 14, 54, 55, 56]), (24, [8, 10, 93, 94])]
noncomputable def cs : Nat → Ctx := ctxOf tis modes t_window_Of lv
theorem cs_ok (n : Nat) : CtxOk Tryz.prog (cs n) := ctxOf_ok rfl tis_ok t_window_Of_ok n
def enc (r : R) : Out := ((.c (.bool r)), [])
def dec : Out → Option R
  | ((.c (.bool v0)), []) => some v0
  | _ => none
theorem dec_ok : ∀ u y, dec u = some y → u = enc y := by
  intro u y h
  unfold dec at h
  split at h
  · cases h; rfl
  · cases h
noncomputable def b0 : Code := subF [] Tryz.f6
noncomputable def K0 (k : Nat) : Kt R := kTop (cs k) Tryz.f6 dec
noncomputable def b13 : Code := sub [1, 1, 1, 1, 1, 1, 1, 1, 1, 1, 0, 1, 0, 0] b0
noncomputable def K13 ( k : Nat) : Kt R := kAt (cs k) (loopN cs k) [1, 1, 1, 1, 1, 1, 1, 1, 1, 1, 0, 1, 0] b0 (K0 k)
noncomputable def b19 : Code := sub [1, 1, 0, 0, 1, 1, 1, 1, 0, 0] b13
noncomputable def K19 ( k m1 : Nat) : Kt R := kAt (cs m1) (loopN cs m1) [1, 1, 0, 0, 1, 1, 1, 1, 0] b13 (kLoop cs m1 b13 (K13 k))
noncomputable def b24 : Code := sub [1, 1, 1, 1, 1, 1, 1, 1, 1, 1, 1, 0, 1, 0, 0] b0
noncomputable def K24 ( k : Nat) : Kt R := kAt (cs k) (loopN cs k) [1, 1, 1, 1, 1, 1, 1, 1, 1, 1, 1, 0, 1, 0] b0 (K0 k)
abbrev T0 : Type := Int × Int × Int × Int × Int × Int × Int × Int × Int × Int × Int × Int × Int × Int × Int × Int × Int × Int × Int × List Int × List Bool × List (Int × Int) × List Int
def s0 : T0 → St := fun (v0, v1, v2, v3, v4, v5, v6, v7, v8, v9, v10, v11, v12, v13, v14, v15, v16, v17, v18, v19, v20, v21, v22) => ⟨108, 0, [(4, (.c (.ptr 64000000 0))), (8, (.c (.sl 64000001))), (10, (.c (.sl 64000002))), (11, (.c (.int .i64 v0))), (54, (.c (.sl 64000003))), (55, (.c (.int .i64 v1))), (56, (.c (.int .i64 v2)))], [], [(256000000, .gone), (64000000, (.box [(.int .i64 v3), (.int .i64 v4), (.int .i64 v5), (.int .i64 v6), (.int .i64 v7), (.int .i64 v8), (.int .i64 v9), (.int .i64 v10), (.int .i64 v11), (.int .i64 v12), (.int .i64 v13), (.int .i64 v14), (.int .i64 v15), (.int .i64 v16), (.int .i64 v17), (.int .i64 v18), (.sl 64000004)])), (64000001, (.row (.int .i64) v19)), (64000002, (.row .bool v20)), (64000003, (.row (.pair (.int .i64) (.int .i64)) v21)), (64000004, (.row (.int .i64) v22))]⟩
noncomputable def l0 ( k n : Nat) (v : T0) : Option R := held (loopN cs n b13 (K13 k) (s0 v))
noncomputable def D0 (v : T0) : Option R := lim fun L => l0 (L 0) (L 1) v
theorem D0_cn (v : T0) : Cn late (D0 v) fun L => l0 (L 0) (L 1) v := of_lim
abbrev T1 : Type := Int × Int × Int × Int × Int × Int × Int × Int × Int × Int × Int × Int × Int × Int × Int × Int × Int × Int × Int × Int × List Int × List Bool × Int × Int × List (Int × Int) × List Int
def s1 : T1 → St := fun (v0, v1, v2, v3, v4, v5, v6, v7, v8, v9, v10, v11, v12, v13, v14, v15, v16, v17, v18, v19, v20, v21, v22, v23, v24, v25) => ⟨108, 0, [(4, (.c (.ptr 64000000 0))), (8, (.c (.sl 64000001))), (10, (.c (.sl 64000002))), (11, (.c (.int .i64 v0))), (13, (.c (.ptr 64000003 0))), (14, (.c (.int .i64 v1))), (54, (.c (.sl 64000004))), (55, (.c (.int .i64 v2))), (56, (.c (.int .i64 v3)))], [], [(256000000, .gone), (64000000, (.box [(.int .i64 v4), (.int .i64 v5), (.int .i64 v6), (.int .i64 v7), (.int .i64 v8), (.int .i64 v9), (.int .i64 v10), (.int .i64 v11), (.int .i64 v12), (.int .i64 v13), (.int .i64 v14), (.int .i64 v15), (.int .i64 v16), (.int .i64 v17), (.int .i64 v18), (.int .i64 v19), (.sl 64000005)])), (64000001, (.row (.int .i64) v20)), (64000002, (.row .bool v21)), (64000003, (.box [(.int .i64 v22), (.int .i64 v23)])), (64000004, (.row (.pair (.int .i64) (.int .i64)) v24)), (64000005, (.row (.int .i64) v25))]⟩
noncomputable def l1 ( k m1 n : Nat) (v : T1) : Option R := held (loopN cs n b19 (K19 k m1) (s1 v))
noncomputable def D1 (v : T1) : Option R := lim fun L => l1 (L 0) (L 1) (L 2) v
theorem D1_cn (v : T1) : Cn late (D1 v) fun L => l1 (L 0) (L 1) (L 2) v := of_lim
abbrev T2 : Type := Int × Int × List Int × List Bool
def s2 : T2 → St := fun (v0, v1, v2, v3) => ⟨108, 0, [(8, (.c (.sl 64000000))), (10, (.c (.sl 64000001))), (93, (.c (.int .i64 v0))), (94, (.c (.int .i64 v1)))], [], [(256000000, .gone), (64000000, (.row (.int .i64) v2)), (64000001, (.row .bool v3))]⟩
noncomputable def l2 ( k n : Nat) (v : T2) : Option R := held (loopN cs n b24 (K24 k) (s2 v))
noncomputable def D2 (v : T2) : Option R := lim fun L => l2 (L 0) (L 1) v
theorem D2_cn (v : T2) : Cn late (D2 v) fun L => l2 (L 0) (L 1) v := of_lim
def d0 (L1m1 : T1 → Option R) (L2k : T2 → Option R) : T0 → Option R := fun (v0, v1, v2, v3, v4, v5, v6, v7, v8, v9, v10, v11, v12, v13, v14, v15, v16, v17, v18, v19, v20, v21, v22) =>
br (decide (v2 < v1))
  (br (decide (0 ≤ v2 ∧ v2 < (↑v21.length : Int)))
    (br
      (decide ((rd ((Ty.int IntKind.i64).pair (Ty.int IntKind.i64)) v21 v2).fst ≤ v0) ||
          decide ((rd ((Ty.int IntKind.i64).pair (Ty.int IntKind.i64)) v21 v2).snd ≤ (rd ((Ty.int IntKind.i64).pair (Ty.int IntKind.i64)) v21 v2).fst) ||
        decide (v11 < (rd ((Ty.int IntKind.i64).pair (Ty.int IntKind.i64)) v21 v2).snd))
      (some false)
      (L1m1
        ((rd ((Ty.int IntKind.i64).pair (Ty.int IntKind.i64)) v21 v2).snd, (rd ((Ty.int IntKind.i64).pair (Ty.int IntKind.i64)) v21 v2).fst, v1, v2, v3, v4, v5, v6, v7, v8, v9, v10, v11, v12, v13, v14, v15, v16, v17,
          v18, v19, v20, (rd ((Ty.int IntKind.i64).pair (Ty.int IntKind.i64)) v21 v2).fst, (rd ((Ty.int IntKind.i64).pair (Ty.int IntKind.i64)) v21 v2).snd, v21, v22)))
    none)
  (L2k ((↑v19.length : Int), 0, v19, v20))
theorem d0_cn {ι : Type} {E : Fil ι} {L1m1 : T1 → Option R} {L1m1' : ι → T1 → Option R} (hL1m1 : ∀ v, Cn E (L1m1 v) fun i => L1m1' i v) {L2k : T2 → Option R} {L2k' : ι → T2 → Option R} (hL2k : ∀ v, Cn E (L2k v) fun i => L2k' i v) : ∀ v : T0, Cn E (d0 L1m1 L2k v) fun i => d0 (L1m1' i) (L2k' i) v := fun (v0, v1, v2, v3, v4, v5, v6, v7, v8, v9, v10, v11, v12, v13, v14, v15, v16, v17, v18, v19, v20, v21, v22) => (.br (.br (.br .some (hL1m1 _)) .none) (hL2k _))
theorem l0_b ( k m1 : Nat) : ∀ v : T0, run (cs m1) (loopN cs m1) b13 (kLoop cs m1 b13 (K13 k)) (s0 v) = d0 (l1 k m1 m1) (l2 k k) v := fun (v0, v1, v2, v3, v4, v5, v6, v7, v8, v9, v10, v11, v12, v13, v14, v15, v16, v17, v18, v19, v20, v21, v22) => by kernel_rfl
theorem D0_of (v : T0) {r : R} (h : d0 D1 D2 v = some r) : D0 v = some r :=
  loop_of 1 (l := fun L => l0 (L 0) (L 1) v) (d := fun L => d0 (l1 (L 0) (L 1) (L 1)) (l2 (L 0) (L 0)) v) (fun L n hn => by show l0 (L 0) (L 1) v = _; rw [hn]; exact (held_eq _).trans ((loopN_succ _ _ _ _ _).trans (l0_b (L 0) n v))) (d0_cn (fun v => (D1_cn v).re [0, 1, 1]) (fun v => (D2_cn v).re [0, 0]) v) h
def d1 (L1m2 : T1 → Option R) (L0m1 : T0 → Option R) : T1 → Option R := fun (v0, v1, v2, v3, v4, v5, v6, v7, v8, v9, v10, v11, v12, v13, v14, v15, v16, v17, v18, v19, v20, v21, v22, v23, v24, v25) =>
br (decide (v1 < v23))
  (br (decide (0 ≤ v1 ∧ v1 < (↑v21.length : Int))) (L1m2 (v0, wrap IntKind.i64 (v1 + 1), v2, v3, v4, v5, v6, v7, v8, v9, v10, v11, v12, v13, v14, v15, v16, v17, v18, v19, v20, v21.set v1.toNat true, v22, v23, v24, v25))
    none)
  (L0m1 (v0, v2, wrap IntKind.i64 (v3 + 1), v4, v5, v6, v7, v8, v9, v10, v11, v12, v13, v14, v15, v16, v17, v18, v19, v20, v21, v24, v25))
theorem d1_cn {ι : Type} {E : Fil ι} {L1m2 : T1 → Option R} {L1m2' : ι → T1 → Option R} (hL1m2 : ∀ v, Cn E (L1m2 v) fun i => L1m2' i v) {L0m1 : T0 → Option R} {L0m1' : ι → T0 → Option R} (hL0m1 : ∀ v, Cn E (L0m1 v) fun i => L0m1' i v) : ∀ v : T1, Cn E (d1 L1m2 L0m1 v) fun i => d1 (L1m2' i) (L0m1' i) v := fun (v0, v1, v2, v3, v4, v5, v6, v7, v8, v9, v10, v11, v12, v13, v14, v15, v16, v17, v18, v19, v20, v21, v22, v23, v24, v25) => (.br (.br (hL1m2 _) .none) (hL0m1 _))
theorem l1_b ( k m1 m2 : Nat) : ∀ v : T1, run (cs m2) (loopN cs m2) b19 (kLoop cs m2 b19 (K19 k m1)) (s1 v) = d1 (l1 k m1 m2) (l0 k m1) v := fun (v0, v1, v2, v3, v4, v5, v6, v7, v8, v9, v10, v11, v12, v13, v14, v15, v16, v17, v18, v19, v20, v21, v22, v23, v24, v25) => by kernel_rfl
theorem D1_of (v : T1) {r : R} (h : d1 D1 D0 v = some r) : D1 v = some r :=
  loop_of 2 (l := fun L => l1 (L 0) (L 1) (L 2) v) (d := fun L => d1 (l1 (L 0) (L 1) (L 2)) (l0 (L 0) (L 1)) v) (fun L n hn => by show l1 (L 0) (L 1) (L 2) v = _; rw [hn]; exact (held_eq _).trans ((loopN_succ _ _ _ _ _).trans (l1_b (L 0) (L 1) n v))) (d1_cn (fun v => (D1_cn v).re [0, 1, 2]) (fun v => (D0_cn v).re [0, 1]) v) h
def d2 (L2m1 : T2 → Option R) : T2 → Option R := fun (v0, v1, v2, v3) =>
br (decide (v1 < v0))
  (br (decide (0 ≤ v1 ∧ v1 < (↑v3.length : Int)))
    (br (decide (0 ≤ v1 ∧ v1 < (↑v2.length : Int))) (br (!rd Ty.bool v3 v1 == decide (rd (Ty.int IntKind.i64) v2 v1 = 0)) (some false) (L2m1 (v0, wrap IntKind.i64 (v1 + 1), v2, v3))) none) none)
  (some true)
theorem d2_cn {ι : Type} {E : Fil ι} {L2m1 : T2 → Option R} {L2m1' : ι → T2 → Option R} (hL2m1 : ∀ v, Cn E (L2m1 v) fun i => L2m1' i v) : ∀ v : T2, Cn E (d2 L2m1 v) fun i => d2 (L2m1' i) v := fun (v0, v1, v2, v3) => (.br (.br (.br (.br .some (hL2m1 _)) .none) .none) .some)
theorem l2_b ( k m1 : Nat) : ∀ v : T2, run (cs m1) (loopN cs m1) b24 (kLoop cs m1 b24 (K24 k)) (s2 v) = d2 (l2 k m1) v := fun (v0, v1, v2, v3) => by kernel_rfl
theorem D2_of (v : T2) {r : R} (h : d2 D2 v = some r) : D2 v = some r :=
  loop_of 1 (l := fun L => l2 (L 0) (L 1) v) (d := fun L => d2 (l2 (L 0) (L 1)) v) (fun L n hn => by show l2 (L 0) (L 1) v = _; rw [hn]; exact (held_eq _).trans ((loopN_succ _ _ _ _ _).trans (l2_b (L 0) n v))) (d2_cn (fun v => (D2_cn v).re [0, 1]) v) h
noncomputable def f (k : Nat) : A → Option R := fun v0 => held (runFn cs k Tryz.f6 [(.c (.frz (.int .i64) v0))] [] dec)
noncomputable def F (v : A) : Option R := lim fun L => f (L 0) v
theorem F_cn (x : Nat) (v : A) : Cn late (F v) fun L => f (L x) v := of_lim.re [x]
def d (spykeep2_opens_k : spykeep2_opens.A → Option spykeep2_opens.R) (spymake_Stream_Night_k : spymake_Stream_Night.A → Option spymake_Stream_Night.R) (spymake_Stream_Request_k : spymake_Stream_Request.A → Option spymake_Stream_Request.R) (window_Of_k : window_Of.A → Option window_Of.R) (window_Slots_k : window_Slots.A → Option window_Slots.R) (L0k : T0 → Option R) : A → Option R := fun v0 =>
bnd (spykeep2_opens_k ()) fun r =>
  br (!r) (some false)
    (bnd (spymake_Stream_Night_k (24, v0, 0)) fun r =>
      bnd
        (spymake_Stream_Request_k
          (r.fst, r.snd.fst, r.snd.snd.fst, r.snd.snd.snd.fst, r.snd.snd.snd.snd.fst, r.snd.snd.snd.snd.snd.fst, r.snd.snd.snd.snd.snd.snd.fst, r.snd.snd.snd.snd.snd.snd.snd.fst, r.snd.snd.snd.snd.snd.snd.snd.snd.fst,
            r.snd.snd.snd.snd.snd.snd.snd.snd.snd.fst, r.snd.snd.snd.snd.snd.snd.snd.snd.snd.snd.fst, r.snd.snd.snd.snd.snd.snd.snd.snd.snd.snd.snd.fst, r.snd.snd.snd.snd.snd.snd.snd.snd.snd.snd.snd.snd.fst,
            r.snd.snd.snd.snd.snd.snd.snd.snd.snd.snd.snd.snd.snd.fst, r.snd.snd.snd.snd.snd.snd.snd.snd.snd.snd.snd.snd.snd.snd.fst, r.snd.snd.snd.snd.snd.snd.snd.snd.snd.snd.snd.snd.snd.snd.snd.fst, 1, 1,
            r.snd.snd.snd.snd.snd.snd.snd.snd.snd.snd.snd.snd.snd.snd.snd.snd.fst, r.snd.snd.snd.snd.snd.snd.snd.snd.snd.snd.snd.snd.snd.snd.snd.snd.snd.fst))
        fun r_1 =>
        bnd
          (window_Of_k
            (r.fst, r.snd.fst, r.snd.snd.fst, r.snd.snd.snd.fst, r.snd.snd.snd.snd.fst, r.snd.snd.snd.snd.snd.fst, r.snd.snd.snd.snd.snd.snd.fst, r.snd.snd.snd.snd.snd.snd.snd.fst, r.snd.snd.snd.snd.snd.snd.snd.snd.fst,
              r.snd.snd.snd.snd.snd.snd.snd.snd.snd.fst, r.snd.snd.snd.snd.snd.snd.snd.snd.snd.snd.fst, r.snd.snd.snd.snd.snd.snd.snd.snd.snd.snd.snd.fst, r.snd.snd.snd.snd.snd.snd.snd.snd.snd.snd.snd.snd.fst,
              r.snd.snd.snd.snd.snd.snd.snd.snd.snd.snd.snd.snd.snd.fst, r.snd.snd.snd.snd.snd.snd.snd.snd.snd.snd.snd.snd.snd.snd.fst, r.snd.snd.snd.snd.snd.snd.snd.snd.snd.snd.snd.snd.snd.snd.snd.fst,
              r.snd.snd.snd.snd.snd.snd.snd.snd.snd.snd.snd.snd.snd.snd.snd.snd.snd.snd, r_1.fst, r_1.snd.fst, r_1.snd.snd.fst, r_1.snd.snd.snd.fst, r_1.snd.snd.snd.snd.fst, r_1.snd.snd.snd.snd.snd.fst,
              r_1.snd.snd.snd.snd.snd.snd.fst, r_1.snd.snd.snd.snd.snd.snd.snd.fst, r_1.snd.snd.snd.snd.snd.snd.snd.snd.fst, r_1.snd.snd.snd.snd.snd.snd.snd.snd.snd.fst, r_1.snd.snd.snd.snd.snd.snd.snd.snd.snd.snd.fst,
              r_1.snd.snd.snd.snd.snd.snd.snd.snd.snd.snd.snd.fst, r_1.snd.snd.snd.snd.snd.snd.snd.snd.snd.snd.snd.snd.fst))
          fun r_2 =>
          bnd
            (window_Slots_k
              (r.fst, r.snd.fst, r.snd.snd.fst, r.snd.snd.snd.fst, r.snd.snd.snd.snd.fst, r.snd.snd.snd.snd.snd.fst, r.snd.snd.snd.snd.snd.snd.fst, r.snd.snd.snd.snd.snd.snd.snd.fst,
                r.snd.snd.snd.snd.snd.snd.snd.snd.fst, r.snd.snd.snd.snd.snd.snd.snd.snd.snd.fst, r.snd.snd.snd.snd.snd.snd.snd.snd.snd.snd.fst, r.snd.snd.snd.snd.snd.snd.snd.snd.snd.snd.snd.fst,
                r.snd.snd.snd.snd.snd.snd.snd.snd.snd.snd.snd.snd.fst, r.snd.snd.snd.snd.snd.snd.snd.snd.snd.snd.snd.snd.snd.fst, r.snd.snd.snd.snd.snd.snd.snd.snd.snd.snd.snd.snd.snd.snd.fst,
                r.snd.snd.snd.snd.snd.snd.snd.snd.snd.snd.snd.snd.snd.snd.snd.fst, r.snd.snd.snd.snd.snd.snd.snd.snd.snd.snd.snd.snd.snd.snd.snd.snd.snd.snd, r_1.fst, r_1.snd.fst, r_1.snd.snd.fst, r_1.snd.snd.snd.fst,
                r_1.snd.snd.snd.snd.fst, r_1.snd.snd.snd.snd.snd.fst, r_1.snd.snd.snd.snd.snd.snd.fst, r_1.snd.snd.snd.snd.snd.snd.snd.fst, r_1.snd.snd.snd.snd.snd.snd.snd.snd.fst,
                r_1.snd.snd.snd.snd.snd.snd.snd.snd.snd.fst, r_1.snd.snd.snd.snd.snd.snd.snd.snd.snd.snd.fst, r_1.snd.snd.snd.snd.snd.snd.snd.snd.snd.snd.snd.fst, r_1.snd.snd.snd.snd.snd.snd.snd.snd.snd.snd.snd.snd.fst))
            fun r_3 =>
            br (!decide (r_2.fst = 0) || !decide (r_3.fst = 0) || !decide ((↑r_3.snd.length : Int) = r.snd.snd.snd.snd.snd.snd.snd.snd.fst)) (some false)
              (br
                (decide
                  (0 ≤ r.snd.snd.snd.snd.snd.snd.snd.snd.fst ∧ r.snd.snd.snd.snd.snd.snd.snd.snd.fst ≤ r.snd.snd.snd.snd.snd.snd.snd.snd.fst ∧ r.snd.snd.snd.snd.snd.snd.snd.snd.fst ≤ (↑(140737488355328 / 1) : Int)))
                (L0k
                  (-1, (↑r_2.snd.length : Int), 0, r.fst, r.snd.fst, r.snd.snd.fst, r.snd.snd.snd.fst, r.snd.snd.snd.snd.fst, r.snd.snd.snd.snd.snd.fst, r.snd.snd.snd.snd.snd.snd.fst, r.snd.snd.snd.snd.snd.snd.snd.fst,
                    r.snd.snd.snd.snd.snd.snd.snd.snd.fst, r.snd.snd.snd.snd.snd.snd.snd.snd.snd.fst, r.snd.snd.snd.snd.snd.snd.snd.snd.snd.snd.fst, r.snd.snd.snd.snd.snd.snd.snd.snd.snd.snd.snd.fst,
                    r.snd.snd.snd.snd.snd.snd.snd.snd.snd.snd.snd.snd.fst, r.snd.snd.snd.snd.snd.snd.snd.snd.snd.snd.snd.snd.snd.fst, r.snd.snd.snd.snd.snd.snd.snd.snd.snd.snd.snd.snd.snd.snd.fst,
                    r.snd.snd.snd.snd.snd.snd.snd.snd.snd.snd.snd.snd.snd.snd.snd.fst, r_3.snd, List.replicate r.snd.snd.snd.snd.snd.snd.snd.snd.fst.toNat Ty.bool.dflt, r_2.snd,
                    r.snd.snd.snd.snd.snd.snd.snd.snd.snd.snd.snd.snd.snd.snd.snd.snd.snd.snd))
                none))
theorem d_cn {ι : Type} {E : Fil ι} {spykeep2_opens_k : spykeep2_opens.A → Option spykeep2_opens.R} {spykeep2_opens_k' : ι → spykeep2_opens.A → Option spykeep2_opens.R} (hspykeep2_opens_k : ∀ v, Cn E (spykeep2_opens_k v) fun i => spykeep2_opens_k' i v) {spymake_Stream_Night_k : spymake_Stream_Night.A → Option spymake_Stream_Night.R} {spymake_Stream_Night_k' : ι → spymake_Stream_Night.A → Option spymake_Stream_Night.R} (hspymake_Stream_Night_k : ∀ v, Cn E (spymake_Stream_Night_k v) fun i => spymake_Stream_Night_k' i v) {spymake_Stream_Request_k : spymake_Stream_Request.A → Option spymake_Stream_Request.R} {spymake_Stream_Request_k' : ι → spymake_Stream_Request.A → Option spymake_Stream_Request.R} (hspymake_Stream_Request_k : ∀ v, Cn E (spymake_Stream_Request_k v) fun i => spymake_Stream_Request_k' i v) {window_Of_k : window_Of.A → Option window_Of.R} {window_Of_k' : ι → window_Of.A → Option window_Of.R} (hwindow_Of_k : ∀ v, Cn E (window_Of_k v) fun i => window_Of_k' i v) {window_Slots_k : window_Slots.A → Option window_Slots.R} {window_Slots_k' : ι → window_Slots.A → Option window_Slots.R} (hwindow_Slots_k : ∀ v, Cn E (window_Slots_k v) fun i => window_Slots_k' i v) {L0k : T0 → Option R} {L0k' : ι → T0 → Option R} (hL0k : ∀ v, Cn E (L0k v) fun i => L0k' i v) : ∀ v : A, Cn E (d spykeep2_opens_k spymake_Stream_Night_k spymake_Stream_Request_k window_Of_k window_Slots_k L0k v) fun i => d (spykeep2_opens_k' i) (spymake_Stream_Night_k' i) (spymake_Stream_Request_k' i) (window_Of_k' i) (window_Slots_k' i) (L0k' i) v := fun v0 => (.bnd (hspykeep2_opens_k _) fun _ => (.br .some (.bnd (hspymake_Stream_Night_k _) fun _ => (.bnd (hspymake_Stream_Request_k _) fun _ => (.bnd (hwindow_Of_k _) fun _ => (.bnd (hwindow_Slots_k _) fun _ => (.br .some (.br (hL0k _) .none))))))))
theorem f_b (k : Nat) : ∀ v : A, f k v = d (spykeep2_opens.f k) (spymake_Stream_Night.f k) (spymake_Stream_Request.f k) (window_Of.f k) (window_Slots.f k) (l0 k k) v := fun v0 => (held_eq _).trans (by kernel_rfl)
theorem F_of (v : A) {r : R} (h : d spykeep2_opens.F spymake_Stream_Night.F spymake_Stream_Request.F window_Of.F window_Slots.F D0 v = some r) : F v = some r :=
  join_of (l := fun L => f (L 0) v) (d := fun L => d (spykeep2_opens.f (L 0)) (spymake_Stream_Night.f (L 0)) (spymake_Stream_Request.f (L 0)) (window_Of.f (L 0)) (window_Slots.f (L 0)) (l0 (L 0) (L 0)) v) (fun L => f_b (L 0) v) (d_cn (spykeep2_opens.F_cn 0) (spymake_Stream_Night.F_cn 0) (spymake_Stream_Request.F_cn 0) (window_Of.F_cn 0) (window_Slots.F_cn 0) (fun v => (D0_cn v).re [0, 0]) v) h
noncomputable def spec (k : Nat) (args : List AV) (ss : List Slot) : Option Ans :=
  match args, ss with
  | [(.c (.frz (.int .i64) v0))], [] => some ⟨R, f k v0, enc⟩
  | _, _ => none
theorem spec_ok (k : Nat) : SpecOk Tryz.prog 6 (spec k) := by
  intro args ss ans x h hx X σ w vals hp
  unfold spec at h
  split at h
  · cases h
    exact spec_of cs_ok Tryz.func6 rfl rfl dec_ok (held_eq _).symm hx hp
  · cases h
end spykeep2_WindowSpans
noncomputable def t_spykeep2_WindowSpans (k : Nat) := tcons 6 (spykeep2_WindowSpans.spec k) (t_window_Of k)
theorem t_spykeep2_WindowSpans_ok (n g : Nat) : SpecOk Tryz.prog g (t_spykeep2_WindowSpans n g) := tcons_ok (spykeep2_WindowSpans.spec_ok n) (fun g => t_window_Of_ok n g) g
namespace spykeep2_WindowClouds
abbrev R : Type := Bool
abbrev A : Type := List Int × Int
def lv : List (Nat × List Nat) := [(2000000, [4]), (13, [8, 10, 11, 75, 76])]
noncomputable def cs : Nat → Ctx := ctxOf tis modes t_spykeep2_WindowSpans lv
theorem cs_ok (n : Nat) : CtxOk Tryz.prog (cs n) := ctxOf_ok rfl tis_ok t_spykeep2_WindowSpans_ok n
def enc (r : R) : Out := ((.c (.bool r)), [])
def dec : Out → Option R
  | ((.c (.bool v0)), []) => some v0
  | _ => none
theorem dec_ok : ∀ u y, dec u = some y → u = enc y := by
  intro u y h
  unfold dec at h
  split at h
  · cases h; rfl
  · cases h
noncomputable def b0 : Code := subF [] Tryz.f4
noncomputable def K0 (k : Nat) : Kt R := kTop (cs k) Tryz.f4 dec
noncomputable def b13 : Code := sub [1, 1, 1, 1, 1, 1, 1, 1, 1, 1, 0, 1, 0, 0] b0
noncomputable def K13 ( k : Nat) : Kt R := kAt (cs k) (loopN cs k) [1, 1, 1, 1, 1, 1, 1, 1, 1, 1, 0, 1, 0] b0 (K0 k)
abbrev T0 : Type := Int × Int × Int × List Int × List Int
def s0 : T0 → St := fun (v0, v1, v2, v3, v4) => ⟨108, 0, [(8, (.c (.sl 64000000))), (10, (.c (.int .i64 v0))), (11, (.c (.sl 64000001))), (75, (.c (.int .i64 v1))), (76, (.c (.int .i64 v2)))], [], [(256000000, .gone), (64000000, (.row (.int .i64) v3)), (64000001, (.row (.int .i64) v4))]⟩
noncomputable def l0 ( k n : Nat) (v : T0) : Option R := held (loopN cs n b13 (K13 k) (s0 v))
noncomputable def D0 (v : T0) : Option R := lim fun L => l0 (L 0) (L 1) v
theorem D0_cn (v : T0) : Cn late (D0 v) fun L => l0 (L 0) (L 1) v := of_lim
def d0 (L0m1 : T0 → Option R) : T0 → Option R := fun (v0, v1, v2, v3, v4) =>
br (decide (v2 < v1))
  (br (decide (0 ≤ v2 ∧ v2 < (↑v3.length : Int)))
    (br (decide (0 ≤ v2 ∧ v2 < (↑v4.length : Int)))
      (br (!((!decide (rd (Ty.int IntKind.i64) v3 v2 = rd (Ty.int IntKind.i64) v4 v2)) == true && (!decide (v2 = v0)) == false) || decide (0 ≤ v2 ∧ v2 < (↑v4.length : Int)))
        (br
          (!((!decide (rd (Ty.int IntKind.i64) v3 v2 = rd (Ty.int IntKind.i64) v4 v2)) == true && (!decide (v2 = v0) || !decide (rd (Ty.int IntKind.i64) v4 v2 = 2)) == false) || decide (0 ≤ v2 ∧ v2 < (↑v3.length : Int)))
          (br (!decide (rd (Ty.int IntKind.i64) v3 v2 = rd (Ty.int IntKind.i64) v4 v2) && (!decide (v2 = v0) || !decide (rd (Ty.int IntKind.i64) v4 v2 = 2) || decide (rd (Ty.int IntKind.i64) v3 v2 = 1))) (some false)
            (L0m1 (v0, v1, wrap IntKind.i64 (v2 + 1), v3, v4)))
          none)
        none)
      none)
    none)
  (some true)
theorem d0_cn {ι : Type} {E : Fil ι} {L0m1 : T0 → Option R} {L0m1' : ι → T0 → Option R} (hL0m1 : ∀ v, Cn E (L0m1 v) fun i => L0m1' i v) : ∀ v : T0, Cn E (d0 L0m1 v) fun i => d0 (L0m1' i) v := fun (v0, v1, v2, v3, v4) => (.br (.br (.br (.br (.br (.br .some (hL0m1 _)) .none) .none) .none) .none) .some)
theorem l0_b ( k m1 : Nat) : ∀ v : T0, run (cs m1) (loopN cs m1) b13 (kLoop cs m1 b13 (K13 k)) (s0 v) = d0 (l0 k m1) v := fun (v0, v1, v2, v3, v4) => by kernel_rfl
theorem D0_of (v : T0) {r : R} (h : d0 D0 v = some r) : D0 v = some r :=
  loop_of 1 (l := fun L => l0 (L 0) (L 1) v) (d := fun L => d0 (l0 (L 0) (L 1)) v) (fun L n hn => by show l0 (L 0) (L 1) v = _; rw [hn]; exact (held_eq _).trans ((loopN_succ _ _ _ _ _).trans (l0_b (L 0) n v))) (d0_cn (fun v => (D0_cn v).re [0, 1]) v) h
noncomputable def f (k : Nat) : A → Option R := fun (v0, v1) => held (runFn cs k Tryz.f4 [(.c (.frz (.int .i64) v0)), (.c (.int .i64 v1))] [] dec)
noncomputable def F (v : A) : Option R := lim fun L => f (L 0) v
theorem F_cn (x : Nat) (v : A) : Cn late (F v) fun L => f (L x) v := of_lim.re [x]
def d (spykeep2_opens_k : spykeep2_opens.A → Option spykeep2_opens.R) (spymake_Stream_Night_k : spymake_Stream_Night.A → Option spymake_Stream_Night.R) (spymake_Stream_Request_k : spymake_Stream_Request.A → Option spymake_Stream_Request.R) (window_Slots_k : window_Slots.A → Option window_Slots.R) (spymake_Below_k : spymake_Below.A → Option spymake_Below.R) (spymake_Stream_Next_k : spymake_Stream_Next.A → Option spymake_Stream_Next.R) (L0k : T0 → Option R) : A → Option R := fun (v0, v1) =>
bnd (spykeep2_opens_k ()) fun r =>
  br (!r) (some false)
    (bnd (spymake_Stream_Night_k (16, v0, 0)) fun r =>
      bnd
        (spymake_Stream_Request_k
          (r.fst, r.snd.fst, r.snd.snd.fst, r.snd.snd.snd.fst, r.snd.snd.snd.snd.fst, r.snd.snd.snd.snd.snd.fst, r.snd.snd.snd.snd.snd.snd.fst, r.snd.snd.snd.snd.snd.snd.snd.fst, r.snd.snd.snd.snd.snd.snd.snd.snd.fst,
            r.snd.snd.snd.snd.snd.snd.snd.snd.snd.fst, r.snd.snd.snd.snd.snd.snd.snd.snd.snd.snd.fst, r.snd.snd.snd.snd.snd.snd.snd.snd.snd.snd.snd.fst, r.snd.snd.snd.snd.snd.snd.snd.snd.snd.snd.snd.snd.fst,
            r.snd.snd.snd.snd.snd.snd.snd.snd.snd.snd.snd.snd.snd.fst, r.snd.snd.snd.snd.snd.snd.snd.snd.snd.snd.snd.snd.snd.snd.fst, r.snd.snd.snd.snd.snd.snd.snd.snd.snd.snd.snd.snd.snd.snd.snd.fst, 1, 1,
            r.snd.snd.snd.snd.snd.snd.snd.snd.snd.snd.snd.snd.snd.snd.snd.snd.fst, r.snd.snd.snd.snd.snd.snd.snd.snd.snd.snd.snd.snd.snd.snd.snd.snd.snd.fst))
        fun r_1 =>
        bnd
          (window_Slots_k
            (r.fst, r.snd.fst, r.snd.snd.fst, r.snd.snd.snd.fst, r.snd.snd.snd.snd.fst, r.snd.snd.snd.snd.snd.fst, r.snd.snd.snd.snd.snd.snd.fst, r.snd.snd.snd.snd.snd.snd.snd.fst, r.snd.snd.snd.snd.snd.snd.snd.snd.fst,
              r.snd.snd.snd.snd.snd.snd.snd.snd.snd.fst, r.snd.snd.snd.snd.snd.snd.snd.snd.snd.snd.fst, r.snd.snd.snd.snd.snd.snd.snd.snd.snd.snd.snd.fst, r.snd.snd.snd.snd.snd.snd.snd.snd.snd.snd.snd.snd.fst,
              r.snd.snd.snd.snd.snd.snd.snd.snd.snd.snd.snd.snd.snd.fst, r.snd.snd.snd.snd.snd.snd.snd.snd.snd.snd.snd.snd.snd.snd.fst, r.snd.snd.snd.snd.snd.snd.snd.snd.snd.snd.snd.snd.snd.snd.snd.fst,
              r.snd.snd.snd.snd.snd.snd.snd.snd.snd.snd.snd.snd.snd.snd.snd.snd.snd.snd, r_1.fst, r_1.snd.fst, r_1.snd.snd.fst, r_1.snd.snd.snd.fst, r_1.snd.snd.snd.snd.fst, r_1.snd.snd.snd.snd.snd.fst,
              r_1.snd.snd.snd.snd.snd.snd.fst, r_1.snd.snd.snd.snd.snd.snd.snd.fst, r_1.snd.snd.snd.snd.snd.snd.snd.snd.fst, r_1.snd.snd.snd.snd.snd.snd.snd.snd.snd.fst, r_1.snd.snd.snd.snd.snd.snd.snd.snd.snd.snd.fst,
              r_1.snd.snd.snd.snd.snd.snd.snd.snd.snd.snd.snd.fst, r_1.snd.snd.snd.snd.snd.snd.snd.snd.snd.snd.snd.snd.fst))
          fun r_2 =>
          bnd (spymake_Below_k (v1, r.snd.snd.snd.snd.snd.snd.snd.snd.fst)) fun r_3 =>
            br (decide (0 ≤ r_3 ∧ r_3 < (↑r.snd.snd.snd.snd.snd.snd.snd.snd.snd.snd.snd.snd.snd.snd.snd.snd.snd.snd.length : Int)))
              (bnd (spymake_Stream_Next_k (3, r_1.snd.snd.snd.snd.snd.snd.snd.snd.snd.snd.snd.snd.snd.fst, r_1.snd.snd.snd.snd.snd.snd.snd.snd.snd.snd.snd.snd.snd.snd)) fun r_4 =>
                br (decide (0 ≤ r_3 ∧ r_3 < (↑r.snd.snd.snd.snd.snd.snd.snd.snd.snd.snd.snd.snd.snd.snd.snd.snd.snd.snd.length : Int)))
                  (bnd
                    (window_Slots_k
                      (r.fst, r.snd.fst, r.snd.snd.fst, r.snd.snd.snd.fst, r.snd.snd.snd.snd.fst, r.snd.snd.snd.snd.snd.fst, r.snd.snd.snd.snd.snd.snd.fst, r.snd.snd.snd.snd.snd.snd.snd.fst,
                        r.snd.snd.snd.snd.snd.snd.snd.snd.fst, r.snd.snd.snd.snd.snd.snd.snd.snd.snd.fst, r.snd.snd.snd.snd.snd.snd.snd.snd.snd.snd.fst, r.snd.snd.snd.snd.snd.snd.snd.snd.snd.snd.snd.fst,
                        r.snd.snd.snd.snd.snd.snd.snd.snd.snd.snd.snd.snd.fst, r.snd.snd.snd.snd.snd.snd.snd.snd.snd.snd.snd.snd.snd.fst, r.snd.snd.snd.snd.snd.snd.snd.snd.snd.snd.snd.snd.snd.snd.fst,
                        r.snd.snd.snd.snd.snd.snd.snd.snd.snd.snd.snd.snd.snd.snd.snd.fst,
                        r.snd.snd.snd.snd.snd.snd.snd.snd.snd.snd.snd.snd.snd.snd.snd.snd.snd.snd.set r_3.toNat
                          (min 4 (wrap IntKind.i64 (wrap IntKind.i64 (rd (Ty.int IntKind.i64) r.snd.snd.snd.snd.snd.snd.snd.snd.snd.snd.snd.snd.snd.snd.snd.snd.snd.snd r_3 + 1) + r_4.fst))),
                        r_1.fst, r_1.snd.fst, r_1.snd.snd.fst, r_1.snd.snd.snd.fst, r_1.snd.snd.snd.snd.fst, r_1.snd.snd.snd.snd.snd.fst, r_1.snd.snd.snd.snd.snd.snd.fst, r_1.snd.snd.snd.snd.snd.snd.snd.fst,
                        r_1.snd.snd.snd.snd.snd.snd.snd.snd.fst, r_1.snd.snd.snd.snd.snd.snd.snd.snd.snd.fst, r_1.snd.snd.snd.snd.snd.snd.snd.snd.snd.snd.fst, r_1.snd.snd.snd.snd.snd.snd.snd.snd.snd.snd.snd.fst,
                        r_1.snd.snd.snd.snd.snd.snd.snd.snd.snd.snd.snd.snd.fst))
                    fun r_5 =>
                    br
                      (!decide (r_2.fst = 0) || !decide (r_5.fst = 0) || !decide ((↑r_2.snd.length : Int) = r.snd.snd.snd.snd.snd.snd.snd.snd.fst) ||
                        !decide ((↑r_5.snd.length : Int) = r.snd.snd.snd.snd.snd.snd.snd.snd.fst))
                      (some false) (L0k (r_3, (↑r_2.snd.length : Int), 0, r_2.snd, r_5.snd)))
                  none)
              none)
theorem d_cn {ι : Type} {E : Fil ι} {spykeep2_opens_k : spykeep2_opens.A → Option spykeep2_opens.R} {spykeep2_opens_k' : ι → spykeep2_opens.A → Option spykeep2_opens.R} (hspykeep2_opens_k : ∀ v, Cn E (spykeep2_opens_k v) fun i => spykeep2_opens_k' i v) {spymake_Stream_Night_k : spymake_Stream_Night.A → Option spymake_Stream_Night.R} {spymake_Stream_Night_k' : ι → spymake_Stream_Night.A → Option spymake_Stream_Night.R} (hspymake_Stream_Night_k : ∀ v, Cn E (spymake_Stream_Night_k v) fun i => spymake_Stream_Night_k' i v) {spymake_Stream_Request_k : spymake_Stream_Request.A → Option spymake_Stream_Request.R} {spymake_Stream_Request_k' : ι → spymake_Stream_Request.A → Option spymake_Stream_Request.R} (hspymake_Stream_Request_k : ∀ v, Cn E (spymake_Stream_Request_k v) fun i => spymake_Stream_Request_k' i v) {window_Slots_k : window_Slots.A → Option window_Slots.R} {window_Slots_k' : ι → window_Slots.A → Option window_Slots.R} (hwindow_Slots_k : ∀ v, Cn E (window_Slots_k v) fun i => window_Slots_k' i v) {spymake_Below_k : spymake_Below.A → Option spymake_Below.R} {spymake_Below_k' : ι → spymake_Below.A → Option spymake_Below.R} (hspymake_Below_k : ∀ v, Cn E (spymake_Below_k v) fun i => spymake_Below_k' i v) {spymake_Stream_Next_k : spymake_Stream_Next.A → Option spymake_Stream_Next.R} {spymake_Stream_Next_k' : ι → spymake_Stream_Next.A → Option spymake_Stream_Next.R} (hspymake_Stream_Next_k : ∀ v, Cn E (spymake_Stream_Next_k v) fun i => spymake_Stream_Next_k' i v) {L0k : T0 → Option R} {L0k' : ι → T0 → Option R} (hL0k : ∀ v, Cn E (L0k v) fun i => L0k' i v) : ∀ v : A, Cn E (d spykeep2_opens_k spymake_Stream_Night_k spymake_Stream_Request_k window_Slots_k spymake_Below_k spymake_Stream_Next_k L0k v) fun i => d (spykeep2_opens_k' i) (spymake_Stream_Night_k' i) (spymake_Stream_Request_k' i) (window_Slots_k' i) (spymake_Below_k' i) (spymake_Stream_Next_k' i) (L0k' i) v := fun (v0, v1) => (.bnd (hspykeep2_opens_k _) fun _ => (.br .some (.bnd (hspymake_Stream_Night_k _) fun _ => (.bnd (hspymake_Stream_Request_k _) fun _ => (.bnd (hwindow_Slots_k _) fun _ => (.bnd (hspymake_Below_k _) fun _ => (.br (.bnd (hspymake_Stream_Next_k _) fun _ => (.br (.bnd (hwindow_Slots_k _) fun _ => (.br .some (hL0k _))) .none)) .none)))))))
theorem f_b (k : Nat) : ∀ v : A, f k v = d (spykeep2_opens.f k) (spymake_Stream_Night.f k) (spymake_Stream_Request.f k) (window_Slots.f k) (spymake_Below.f k) (spymake_Stream_Next.f k) (l0 k k) v := fun (v0, v1) => (held_eq _).trans (by kernel_rfl)
theorem F_of (v : A) {r : R} (h : d spykeep2_opens.F spymake_Stream_Night.F spymake_Stream_Request.F window_Slots.F spymake_Below.F spymake_Stream_Next.F D0 v = some r) : F v = some r :=
  join_of (l := fun L => f (L 0) v) (d := fun L => d (spykeep2_opens.f (L 0)) (spymake_Stream_Night.f (L 0)) (spymake_Stream_Request.f (L 0)) (window_Slots.f (L 0)) (spymake_Below.f (L 0)) (spymake_Stream_Next.f (L 0)) (l0 (L 0) (L 0)) v) (fun L => f_b (L 0) v) (d_cn (spykeep2_opens.F_cn 0) (spymake_Stream_Night.F_cn 0) (spymake_Stream_Request.F_cn 0) (window_Slots.F_cn 0) (spymake_Below.F_cn 0) (spymake_Stream_Next.F_cn 0) (fun v => (D0_cn v).re [0, 0]) v) h
noncomputable def spec (k : Nat) (args : List AV) (ss : List Slot) : Option Ans :=
  match args, ss with
  | [(.c (.frz (.int .i64) v0)), (.c (.int .i64 v1))], [] => some ⟨R, f k (v0, v1), enc⟩
  | _, _ => none
theorem spec_ok (k : Nat) : SpecOk Tryz.prog 4 (spec k) := by
  intro args ss ans x h hx X σ w vals hp
  unfold spec at h
  split at h
  · cases h
    exact spec_of cs_ok Tryz.func4 rfl rfl dec_ok (held_eq _).symm hx hp
  · cases h
end spykeep2_WindowClouds
noncomputable def t_spykeep2_WindowClouds (k : Nat) := tcons 4 (spykeep2_WindowClouds.spec k) (t_spykeep2_WindowSpans k)
theorem t_spykeep2_WindowClouds_ok (n g : Nat) : SpecOk Tryz.prog g (t_spykeep2_WindowClouds n g) := tcons_ok (spykeep2_WindowClouds.spec_ok n) (fun g => t_spykeep2_WindowSpans_ok n g) g

end Go.Proofs.RWin
