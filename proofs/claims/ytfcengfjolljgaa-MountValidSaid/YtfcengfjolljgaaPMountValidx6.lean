-- Written by a program of this session out of the translation (wip/tools).
import Derived.Test.YtfcengfjolljgaaPMountValidx0
import Derived.Test.YtfcengfjolljgaaPMountValidx2
import Derived.Test.YtfcengfjolljgaaPMountValidx4
import Derived.Test.YtfcengfjolljgaaPMountValidx5
namespace Go.Proofs.Ytfcengfjolljgaa.PMountValid
open Go.RowKit Go.Proofs.YtfcengfjolljgaaW.PrintWords Go.Proofs.YtfcengfjolljgaaW.PrintLast Go.Proofs.YtfcengfjolljgaaW.PrintMore
attribute [local go_sem] max2_int min2_int max_two min_two max_three min_three max_four min_four   -- for this text's walks alone
set_option linter.unusedVariables false
set_option linter.unusedSimpArgs false

theorem szi3 : (Try.prog.info? 3).map (·.size) = some 1 := by kernel_rfl
/-! ### mount_Step: function 20 -/
def mount_Step.j0 : Nat → Bool → Int → Int → Int → Bool → Int → Int → Int → Bool → Int → Option (Int × Int × Int × Bool × Int × Int × Int × Bool × Int)
  | 0, _, _, _, _, _, _, _, _, _, _ => none
  | k + 1, x31, x200000, x200001, x200002, x200003, x200004, x200005, x200006, x200007, x200008 => if x31 = true then (some (x200000, x200001, x200002, x200003, x200004, x200005, x200006, x200007, x200008)) else (if x200008 = 2 then (some (x200000, x200001, x200002, x200003, x200004, x200005, x200006, x200007, 3)) else (if x200008 = 4 then (some (x200000, x200001, x200002, x200003, x200004, x200005, x200006, x200007, 0)) else (if x200008 = 5 then (some (x200000, x200001, x200002, x200003, x200004, x200005, x200006, x200007, 1)) else (some (x200000, x200001, x200002, x200003, x200004, x200005, x200006, x200007, x200008)))))
def mount_Step.f (k : Nat) (a0_0 : Int) (a0_1 : Int) (a0_2 : Int) (a0_3 : Int) (a0_4 : Int) (a0_5 : Int) (a0_6 : Int) (a0_7 : Int) (a0_8 : Int) (a0_9 : Int) (a1_0 : Int) (a1_1 : Int) (a1_2 : Int) (a1_3 : Bool) (a1_4 : Int) (a1_5 : Int) (a1_6 : Int) (a1_7 : Bool) (a1_8 : Int) : Option (Int × Int × Int × Bool × Int × Int × Int × Bool × Int) := (mount_Check.f k a0_0 a0_1 a0_2 a0_3 a0_4 a0_5 a0_6 a0_7 a0_8 a0_9 a1_0 a1_1 a1_2 a1_3 a1_4 a1_5 a1_6 a1_7 a1_8).bind fun t201 => (if t201 = 0 then ((axis_Step.f k a0_0 a0_1 a0_2 a0_3 a1_0 a1_1 a1_2 a1_3).bind fun bt202 => ((axis_Step.f k a0_4 a0_5 a0_6 a0_7 a1_4 a1_5 a1_6 a1_7).bind fun bt206 => ((axis_Resting.f bt202.1 bt202.2.1 bt202.2.2.1 bt202.2.2.2).bind fun t210 => (if t210 = true then ((axis_Resting.f bt206.1 bt206.2.1 bt206.2.2.1 bt206.2.2.2).bind fun t211 => (mount_Step.j0 k (!t211) bt202.1 bt202.2.1 bt202.2.2.1 bt202.2.2.2 bt206.1 bt206.2.1 bt206.2.2.1 bt206.2.2.2 a1_8)) else (mount_Step.j0 k true bt202.1 bt202.2.1 bt202.2.2.1 bt202.2.2.2 bt206.1 bt206.2.1 bt206.2.2.1 bt206.2.2.2 a1_8))))) else (some (a1_0, a1_1, a1_2, a1_3, a1_4, a1_5, a1_6, a1_7, a1_8)))
theorem mount_Step.mono_l : ∀ k, (∀ y0 y1 y2 y3 y4 y5 y6 y7 y8 y9, LeO (mount_Step.j0 k y0 y1 y2 y3 y4 y5 y6 y7 y8 y9) (mount_Step.j0 (k + 1) y0 y1 y2 y3 y4 y5 y6 y7 y8 y9))
  | 0 => fun _ _ _ _ _ _ _ _ _ _ r h => by simp [mount_Step.j0] at h
  | k + 1 => by
    have ih0 := mount_Step.mono_l k
    · intro y0 y1 y2 y3 y4 y5 y6 y7 y8 y9
      unfold mount_Step.j0
      repeat' first
      | (with_reducible exact ih0 _ _ _ _ _ _ _ _ _ _)
      | (with_reducible exact axis_Step.mono _ _ _ _ _ _ _ _ _)
      | (with_reducible exact mount_Check.mono _ _ _ _ _ _ _ _ _ _ _ _ _ _ _ _ _ _ _ _)
      | (with_reducible exact LeO.refl _)
      | (with_reducible exact LeO.none _)
      | (with_reducible refine LeO.ite ?_ ?_)
      | (with_reducible refine LeO.bind ?_ (fun _ => ?_))
      | exact ih0 _ _ _ _ _ _ _ _ _ _
      | exact axis_Step.mono _ _ _ _ _ _ _ _ _
      | exact mount_Check.mono _ _ _ _ _ _ _ _ _ _ _ _ _ _ _ _ _ _ _ _
      | exact LeO.none _
      | refine LeO.ite ?_ ?_
      | refine LeO.bind ?_ (fun _ => ?_)
theorem mount_Step.mono : ∀ a0 a1 a2 a3 a4 a5 a6 a7 a8 a9 a10 a11 a12 a13 a14 a15 a16 a17 a18 k, LeO (mount_Step.f k a0 a1 a2 a3 a4 a5 a6 a7 a8 a9 a10 a11 a12 a13 a14 a15 a16 a17 a18) (mount_Step.f (k + 1) a0 a1 a2 a3 a4 a5 a6 a7 a8 a9 a10 a11 a12 a13 a14 a15 a16 a17 a18) := by
  intro a0 a1 a2 a3 a4 a5 a6 a7 a8 a9 a10 a11 a12 a13 a14 a15 a16 a17 a18 k
  have ih0 := mount_Step.mono_l k
  unfold mount_Step.f
  repeat' first
      | (with_reducible exact ih0 _ _ _ _ _ _ _ _ _ _)
      | (with_reducible exact axis_Step.mono _ _ _ _ _ _ _ _ _)
      | (with_reducible exact mount_Check.mono _ _ _ _ _ _ _ _ _ _ _ _ _ _ _ _ _ _ _ _)
      | (with_reducible exact LeO.refl _)
      | (with_reducible exact LeO.none _)
      | (with_reducible refine LeO.ite ?_ ?_)
      | (with_reducible refine LeO.bind ?_ (fun _ => ?_))
      | exact ih0 _ _ _ _ _ _ _ _ _ _
      | exact axis_Step.mono _ _ _ _ _ _ _ _ _
      | exact mount_Check.mono _ _ _ _ _ _ _ _ _ _ _ _ _ _ _ _ _ _ _ _
      | exact LeO.none _
      | refine LeO.ite ?_ ?_
      | refine LeO.bind ?_ (fun _ => ?_)
def mount_Step.T3 : Bool × List (List Nat × List Nat) := (true, [([], []), ([0], [0]), ([], []), ([2], [2]), ([1, 3], [1, 3]), ([], []), ([5], [5]), ([], []), ([7], [7]), ([6, 8, 4], [6, 8]), ([0, 1, 2, 3, 4, 7, 8], []), ([10, 4, 9, 0, 1, 2, 3, 4, 7, 8], [4, 10]), ([0, 1, 2, 3, 4, 5, 6, 7, 8, 9, 10, 11], []), ([12, 9, 11, 0, 1, 2, 3, 4, 5, 6, 7, 8, 9, 10, 11], [9, 12])])
def mount_Step.B3 : List Nat := [0, 1, 0, 4, 15, 0, 32, 0, 128, 511, 415, 2047, 4095, 8191]
theorem mount_Step.tab3 : rtab .any (opsOf Try.f20 3) = mount_Step.T3 := by kernel_rfl
theorem mount_Step.bits3 : waitsOk mount_Step.T3.2 mount_Step.B3 = true := by kernel_rfl
set_option maxHeartbeats 8000000 in
set_option maxRecDepth 100000 in
theorem mount_Step.calls (k : Nat) (a0_0 : Int) (a0_1 : Int) (a0_2 : Int) (a0_3 : Int) (a0_4 : Int) (a0_5 : Int) (a0_6 : Int) (a0_7 : Int) (a0_8 : Int) (a0_9 : Int) (a1_0 : Int) (a1_1 : Int) (a1_2 : Int) (a1_3 : Bool) (a1_4 : Int) (a1_5 : Int) (a1_6 : Int) (a1_7 : Bool) (a1_8 : Int) (r1 : Int) (r2 : Int) (r3 : Int) (r4 : Bool) (r5 : Int) (r6 : Int) (r7 : Int) (r8 : Bool) (r9 : Int) (w : World) (h : mount_Step.f k a0_0 a0_1 a0_2 a0_3 a0_4 a0_5 a0_6 a0_7 a0_8 a0_9 a1_0 a1_1 a1_2 a1_3 a1_4 a1_5 a1_6 a1_7 a1_8 = some (r1, r2, r3, r4, r5, r6, r7, r8, r9)) :
    Calls Try.prog 20 #[.agg #[.int .i64 a0_0, .int .i64 a0_1, .int .i64 a0_2, .int .i64 a0_3, .int .i64 a0_4, .int .i64 a0_5, .int .i64 a0_6, .int .i64 a0_7, .int .i64 a0_8, .int .i64 a0_9], .agg #[.int .i64 a1_0, .int .i64 a1_1, .int .i64 a1_2, .bool a1_3, .int .i64 a1_4, .int .i64 a1_5, .int .i64 a1_6, .bool a1_7, .int .i64 a1_8]] w fun e w' => e = .returned (.agg #[.int .i64 r1, .int .i64 r2, .int .i64 r3, .bool r4, .int .i64 r5, .int .i64 r6, .int .i64 r7, .bool r8, .int .i64 r9]) ∧ Below w.heap.size w w' := by
  have hu32 := Try.underlying32
  have hu37 := Try.underlying37
  have hu28 := Try.underlying28
  have hu35 := Try.underlying35
  have HB := Aside0.mk (Below.refl w.heap.size w)
  have H : ((mount_Check.f k a0_0 a0_1 a0_2 a0_3 a0_4 a0_5 a0_6 a0_7 a0_8 a0_9 a1_0 a1_1 a1_2 a1_3 a1_4 a1_5 a1_6 a1_7 a1_8).bind fun t201 => (if t201 = 0 then ((axis_Step.f k a0_0 a0_1 a0_2 a0_3 a1_0 a1_1 a1_2 a1_3).bind fun bt202 => ((axis_Step.f k a0_4 a0_5 a0_6 a0_7 a1_4 a1_5 a1_6 a1_7).bind fun bt206 => ((axis_Resting.f bt202.1 bt202.2.1 bt202.2.2.1 bt202.2.2.2).bind fun t210 => (if t210 = true then ((axis_Resting.f bt206.1 bt206.2.1 bt206.2.2.1 bt206.2.2.2).bind fun t211 => (mount_Step.j0 k (!t211) bt202.1 bt202.2.1 bt202.2.2.1 bt202.2.2.2 bt206.1 bt206.2.1 bt206.2.2.1 bt206.2.2.2 a1_8)) else (mount_Step.j0 k true bt202.1 bt202.2.1 bt202.2.2.1 bt202.2.2.2 bt206.1 bt206.2.1 bt206.2.2.1 bt206.2.2.2 a1_8))))) else (some (a1_0, a1_1, a1_2, a1_3, a1_4, a1_5, a1_6, a1_7, a1_8)))) = some (r1, r2, r3, r4, r5, r6, r7, r8, r9) := h
  clear h
  replace H := Option.bind_eq_some_iff.mp H
  obtain ⟨t201, A30, H⟩ := H
  replace H : (if t201 = 0 then ((axis_Step.f k a0_0 a0_1 a0_2 a0_3 a1_0 a1_1 a1_2 a1_3).bind fun bt202 => ((axis_Step.f k a0_4 a0_5 a0_6 a0_7 a1_4 a1_5 a1_6 a1_7).bind fun bt206 => ((axis_Resting.f bt202.1 bt202.2.1 bt202.2.2.1 bt202.2.2.2).bind fun t210 => (if t210 = true then ((axis_Resting.f bt206.1 bt206.2.1 bt206.2.2.1 bt206.2.2.2).bind fun t211 => (mount_Step.j0 k (!t211) bt202.1 bt202.2.1 bt202.2.2.1 bt202.2.2.2 bt206.1 bt206.2.1 bt206.2.2.1 bt206.2.2.2 a1_8)) else (mount_Step.j0 k true bt202.1 bt202.2.1 bt202.2.2.1 bt202.2.2.2 bt206.1 bt206.2.1 bt206.2.2.1 bt206.2.2.2 a1_8))))) else (some (a1_0, a1_1, a1_2, a1_3, a1_4, a1_5, a1_6, a1_7, a1_8))) = some (r1, r2, r3, r4, r5, r6, r7, r8, r9) := H
  have A3 := Aside0.mk A30
  clear A30
  by_cases c4 : t201 = 0
  · rw [if_pos c4] at H
    have c4b0 : (t201 == 0) = true := beq_iff_eq.mpr c4
    have c4b1 : (t201 != 0) = false := bne_eq_false_iff_eq.mpr c4
    clear c4
    replace H := Option.bind_eq_some_iff.mp H
    obtain ⟨⟨t202, t203, t204, t205⟩, A50, H⟩ := H
    replace H : ((axis_Step.f k a0_4 a0_5 a0_6 a0_7 a1_4 a1_5 a1_6 a1_7).bind fun bt206 => ((axis_Resting.f t202 t203 t204 t205).bind fun t210 => (if t210 = true then ((axis_Resting.f bt206.1 bt206.2.1 bt206.2.2.1 bt206.2.2.2).bind fun t211 => (mount_Step.j0 k (!t211) t202 t203 t204 t205 bt206.1 bt206.2.1 bt206.2.2.1 bt206.2.2.2 a1_8)) else (mount_Step.j0 k true t202 t203 t204 t205 bt206.1 bt206.2.1 bt206.2.2.1 bt206.2.2.2 a1_8)))) = some (r1, r2, r3, r4, r5, r6, r7, r8, r9) := H
    have A5 := Aside0.mk A50
    clear A50
    replace H := Option.bind_eq_some_iff.mp H
    obtain ⟨⟨t206, t207, t208, t209⟩, A60, H⟩ := H
    replace H : ((axis_Resting.f t202 t203 t204 t205).bind fun t210 => (if t210 = true then ((axis_Resting.f t206 t207 t208 t209).bind fun t211 => (mount_Step.j0 k (!t211) t202 t203 t204 t205 t206 t207 t208 t209 a1_8)) else (mount_Step.j0 k true t202 t203 t204 t205 t206 t207 t208 t209 a1_8))) = some (r1, r2, r3, r4, r5, r6, r7, r8, r9) := H
    have A6 := Aside0.mk A60
    clear A60
    have HC7 := Aside0.mk H
    clear H
    go_enter Try.func20, Try.ntmps20
    try go_wp2_with (first | ((with_reducible refine gate_dst (N := 2) rfl ?_); refine box_event ?hg (N := 2) ?hd (cs := #[.int .i64 a0_0, .int .i64 a0_1, .int .i64 a0_2, .int .i64 a0_3, .int .i64 a0_4, .int .i64 a0_5, .int .i64 a0_6, .int .i64 a0_7, .int .i64 a0_8, .int .i64 a0_9]) (t := 32) ?hr ?_; (case hd => rfl); (case hg => rfl); (case hr => first | (go_simp; done) | (go_simp; rfl)); intro gb198 hg w8 hbox hb; have n0_ := Aside0.mk (below_step (by exact HB.out) hb); have n1_ := Aside0.mk (hbox); have n2_ := Aside0.mk ((by rw [hg]; exact (below_size (by exact HB.out)) : w.heap.size ≤ gb198)); have n3_ := Aside0.mk ((by rw [hg]; exact (below_size (by exact HB.out)) : w.heap.size ≤ gb198)); clear HB; have HB := n0_; have BK198 := n1_; have GW198 := n2_; have GE198 := n3_; clear n0_ n1_ n2_ n3_; clear hb hbox hg) | ((with_reducible refine gate_dst (N := 3) rfl ?_); refine box_event ?hg (N := 3) ?hd (cs := #[.int .i64 a1_0, .int .i64 a1_1, .int .i64 a1_2, .bool a1_3, .int .i64 a1_4, .int .i64 a1_5, .int .i64 a1_6, .bool a1_7, .int .i64 a1_8]) (t := 37) ?hr ?_; (case hd => rfl); (case hg => rfl); (case hr => first | (go_simp; done) | (go_simp; rfl)); intro gb199 hg w9 hbox hb; have n0_ := Aside0.mk (blk_below BK198.out hb); have n1_ := Aside0.mk (below_step (by exact HB.out) hb); have n2_ := Aside0.mk (hbox); have n3_ := Aside0.mk ((by rw [hg]; exact (below_size (by exact HB.out)) : w.heap.size ≤ gb199)); have n4_ := Aside0.mk ((by rw [hg]; exact (below_size (by exact HB.out)) : w.heap.size ≤ gb199)); have n5_ := Aside0.mk ((by rw [hg]; exact Nat.ne_of_lt (blk_lt BK198.out) : gb198 ≠ gb199)); have n6_ := Aside0.mk ((by rw [hg]; exact Nat.ne_of_gt (blk_lt BK198.out) : gb199 ≠ gb198)); clear BK198; clear HB; have BK198 := n0_; have HB := n1_; have BK199 := n2_; have GW199 := n3_; have GE199 := n4_; have NB198_199 := n5_; have NB199_198 := n6_; clear n0_ n1_ n2_ n3_ n4_ n5_ n6_; clear hb hbox hg) | ((with_reducible refine gate_dst (N := 4) rfl ?_); refine box_event ?hg (N := 4) ?hd (cs := #[.int .i64 0, .int .i64 0, .int .i64 0, .bool false, .int .i64 0, .int .i64 0, .int .i64 0, .bool false, .int .i64 0]) (t := 37) ?hr ?_; (case hd => rfl); (case hg => rfl); (case hr => first | (go_simp; done) | (go_simp; rfl)); intro gb200 hg w10 hbox hb; have n0_ := Aside0.mk (blk_below BK198.out hb); have n1_ := Aside0.mk (blk_below BK199.out hb); have n2_ := Aside0.mk (below_step (by exact HB.out) hb); have n3_ := Aside0.mk (hbox); have n4_ := Aside0.mk ((by rw [hg]; exact (below_size (by exact HB.out)) : w.heap.size ≤ gb200)); have n5_ := Aside0.mk ((by rw [hg]; exact (below_size (by exact HB.out)) : w.heap.size ≤ gb200)); have n6_ := Aside0.mk ((by rw [hg]; exact Nat.ne_of_lt (blk_lt BK198.out) : gb198 ≠ gb200)); have n7_ := Aside0.mk ((by rw [hg]; exact Nat.ne_of_lt (blk_lt BK199.out) : gb199 ≠ gb200)); have n8_ := Aside0.mk ((by rw [hg]; exact Nat.ne_of_gt (blk_lt BK199.out) : gb200 ≠ gb199)); clear BK198; clear BK199; clear HB; have BK198 := n0_; have BK199 := n1_; have HB := n2_; have BK200 := n3_; have GW200 := n4_; have GE200 := n5_; have NB198_200 := n6_; have NB199_200 := n7_; have NB200_199 := n8_; clear n0_ n1_ n2_ n3_ n4_ n5_ n6_ n7_ n8_; clear hb hbox hg; have hcz11_0 := tch10 BK198.out; have hcz12_0 := tch9 BK199.out) | ((with_reducible refine gate_callee (f := 21) rfl ?_); refine goesL_ (some 7) rfl rfl Try.func21 (by kernel_rfl) rfl #[.agg #[.int .i64 a0_0, .int .i64 a0_1, .int .i64 a0_2, .int .i64 a0_3, .int .i64 a0_4, .int .i64 a0_5, .int .i64 a0_6, .int .i64 a0_7, .int .i64 a0_8, .int .i64 a0_9], .agg #[.int .i64 a1_0, .int .i64 a1_1, .int .i64 a1_2, .bool a1_3, .int .i64 a1_4, .int .i64 a1_5, .int .i64 a1_6, .bool a1_7, .int .i64 a1_8]] rfl (by (try simp only [List.map_toArray, List.map_cons, List.map_nil]); first | done | rfl | (simp only [List.length_drop, List.length_take]; rfl)) ?_; (with_reducible refine (mount_Check.calls k a0_0 a0_1 a0_2 a0_3 a0_4 a0_5 a0_6 a0_7 a0_8 a0_9 a1_0 a1_1 a1_2 a1_3 a1_4 a1_5 a1_6 a1_7 a1_8 t201 _ A3.out).mono ?_); rintro e w13 ⟨rfl, hb⟩; refine ⟨_, rfl, ?_⟩; have n0_ := Aside0.mk (blk_below BK198.out hb); have n1_ := Aside0.mk (blk_below BK199.out hb); have n2_ := Aside0.mk (blk_below BK200.out hb); have n3_ := Aside0.mk (below_step (by exact HB.out) hb); clear BK198; clear BK199; clear BK200; clear HB; have BK198 := n0_; have BK199 := n1_; have BK200 := n2_; have HB := n3_; clear n0_ n1_ n2_ n3_; (try clear hb); (try clear hb2); (try clear hk); (try clear hi)))
    have n0_ := Aside0.mk (blk_drew BK198.out)
    have n1_ := Aside0.mk (blk_drew BK199.out)
    have n2_ := Aside0.mk (blk_drew BK200.out)
    have n3_ := Aside0.mk (below_drew1 HB.out)
    clear BK198
    clear BK199
    clear BK200
    clear HB
    have BK198 := n0_
    have BK199 := n1_
    have BK200 := n2_
    have HB := n3_
    clear n0_ n1_ n2_ n3_
    refine start_ (n := 14) (S := fun w' => w'.cell? ⟨gb198, 0, none⟩ = some (.int .i64 a0_0) ∧ w'.cell? ⟨gb198, 1, none⟩ = some (.int .i64 a0_1) ∧ w'.cell? ⟨gb198, 2, none⟩ = some (.int .i64 a0_2) ∧ w'.cell? ⟨gb198, 3, none⟩ = some (.int .i64 a0_3) ∧ w'.cell? ⟨gb198, 4, none⟩ = some (.int .i64 a0_4) ∧ w'.cell? ⟨gb198, 5, none⟩ = some (.int .i64 a0_5) ∧ w'.cell? ⟨gb198, 6, none⟩ = some (.int .i64 a0_6) ∧ w'.cell? ⟨gb198, 7, none⟩ = some (.int .i64 a0_7) ∧ w'.cell? ⟨gb198, 8, none⟩ = some (.int .i64 a0_8) ∧ w'.cell? ⟨gb198, 9, none⟩ = some (.int .i64 a0_9) ∧ w'.cell? ⟨gb199, 0, none⟩ = some (.int .i64 a1_0) ∧ w'.cell? ⟨gb199, 1, none⟩ = some (.int .i64 a1_1) ∧ w'.cell? ⟨gb199, 2, none⟩ = some (.int .i64 a1_2) ∧ w'.cell? ⟨gb199, 3, none⟩ = some (.bool a1_3) ∧ w'.cell? ⟨gb199, 4, none⟩ = some (.int .i64 a1_4) ∧ w'.cell? ⟨gb199, 5, none⟩ = some (.int .i64 a1_5) ∧ w'.cell? ⟨gb199, 6, none⟩ = some (.int .i64 a1_6) ∧ w'.cell? ⟨gb199, 7, none⟩ = some (.bool a1_7) ∧ w'.cell? ⟨gb199, 8, none⟩ = some (.int .i64 a1_8)) (ds := [11, 13]) #[false, false, false, false, false, false, false, false, false, false, false, false, false, false] (by kernel_rfl) rfl rfl ⟨(blk_cell BK198.out 0).trans rfl, (blk_cell BK198.out 1).trans rfl, (blk_cell BK198.out 2).trans rfl, (blk_cell BK198.out 3).trans rfl, (blk_cell BK198.out 4).trans rfl, (blk_cell BK198.out 5).trans rfl, (blk_cell BK198.out 6).trans rfl, (blk_cell BK198.out 7).trans rfl, (blk_cell BK198.out 8).trans rfl, (blk_cell BK198.out 9).trans rfl, (blk_cell BK199.out 0).trans rfl, (blk_cell BK199.out 1).trans rfl, (blk_cell BK199.out 2).trans rfl, (blk_cell BK199.out 3).trans rfl, (blk_cell BK199.out 4).trans rfl, (blk_cell BK199.out 5).trans rfl, (blk_cell BK199.out 6).trans rfl, (blk_cell BK199.out 7).trans rfl, (blk_cell BK199.out 8).trans rfl⟩ (fun hHeld => ?_); refine with_tabW mount_Step.tab3 mount_Step.bits3 (fun HT_ HW_ => ?_)
    generalize w13.drew = w14 at BK198 BK199 BK200 HB hHeld ⊢
    refine pure_ (i := 0) (N := some 10) (v := ?_) (a' := ?_) #[true, false, false, false, false, false, false, false, false, false, false, false, false, false] rfl rfl (any_of HT_.out (by kernel_rfl)) (fun _ _ _ h => h) (Or.inl ⟨by rfl, ?_⟩) ?_ ?_
    rotate_left
    · intro w'
      go_simp
      with_reducible rfl
    rotate_left
    · simp only [Act.put, List.setIfInBounds_toArray, List.set_cons_zero, List.set_cons_succ, i64_w, i32_w]
      rfl
    refine pure_ (i := 2) (N := some 12) (v := ?_) (a' := ?_) #[true, false, true, false, false, false, false, false, false, false, false, false, false, false] rfl rfl (any_of HT_.out (by kernel_rfl)) (fun _ _ _ h => h) (Or.inl ⟨by rfl, ?_⟩) ?_ ?_
    rotate_left
    · intro w'
      go_simp
      with_reducible rfl
    rotate_left
    · simp only [Act.put, List.setIfInBounds_toArray, List.set_cons_zero, List.set_cons_succ, i64_w, i32_w]
      rfl
    refine pure_ (i := 5) (N := some 15) (v := ?_) (a' := ?_) #[true, false, true, false, false, true, false, false, false, false, false, false, false, false] rfl rfl (any_of HT_.out (by kernel_rfl)) (fun _ _ _ h => h) (Or.inl ⟨by rfl, ?_⟩) ?_ ?_
    rotate_left
    · intro w'
      go_simp
      with_reducible rfl
    rotate_left
    · simp only [Act.put, List.setIfInBounds_toArray, List.set_cons_zero, List.set_cons_succ, i64_w, i32_w]
      rfl
    refine pure_ (i := 7) (N := some 17) (v := ?_) (a' := ?_) #[true, false, true, false, false, true, false, true, false, false, false, false, false, false] rfl rfl (any_of HT_.out (by kernel_rfl)) (fun _ _ _ h => h) (Or.inl ⟨by rfl, ?_⟩) ?_ ?_
    rotate_left
    · intro w'
      go_simp
      with_reducible rfl
    rotate_left
    · simp only [Act.put, List.setIfInBounds_toArray, List.set_cons_zero, List.set_cons_succ, i64_w, i32_w]
      rfl
    refine take_ (i := 1) (N := some 11) (v := ?_) (a' := ?_) #[true, true, true, false, false, true, false, true, false, false, false, false, false, false] rfl rfl (take_ofW HT_.out HW_.out (by kernel_rfl)) (fun _ _ _ h => h) (Or.inl ⟨by rfl, ?_⟩) hHeld ?_ ?_
    rotate_left
    · rintro w' ⟨s0, s1, s2, s3, s4, s5, s6, s7, s8, s9, s10, s11, s12, s13, s14, s15, s16, s17, s18⟩
      go_simp
      with_reducible rfl
    rotate_left
    · simp only [Act.put, List.setIfInBounds_toArray, List.set_cons_zero, List.set_cons_succ, i64_w, i32_w]
      rfl
    refine take_ (i := 3) (N := some 13) (v := ?_) (a' := ?_) #[true, true, true, true, false, true, false, true, false, false, false, false, false, false] rfl rfl (take_ofW HT_.out HW_.out (by kernel_rfl)) (fun _ _ _ h => h) (Or.inl ⟨by rfl, ?_⟩) hHeld ?_ ?_
    rotate_left
    · rintro w' ⟨s0, s1, s2, s3, s4, s5, s6, s7, s8, s9, s10, s11, s12, s13, s14, s15, s16, s17, s18⟩
      go_simp
      with_reducible rfl
    rotate_left
    · simp only [Act.put, List.setIfInBounds_toArray, List.set_cons_zero, List.set_cons_succ, i64_w, i32_w]
      rfl
    refine take_ (i := 6) (N := some 16) (v := ?_) (a' := ?_) #[true, true, true, true, false, true, true, true, false, false, false, false, false, false] rfl rfl (take_ofW HT_.out HW_.out (by kernel_rfl)) (fun _ _ _ h => h) (Or.inl ⟨by rfl, ?_⟩) hHeld ?_ ?_
    rotate_left
    · rintro w' ⟨s0, s1, s2, s3, s4, s5, s6, s7, s8, s9, s10, s11, s12, s13, s14, s15, s16, s17, s18⟩
      go_simp
      with_reducible rfl
    rotate_left
    · simp only [Act.put, List.setIfInBounds_toArray, List.set_cons_zero, List.set_cons_succ, i64_w, i32_w]
      rfl
    refine take_ (i := 8) (N := some 18) (v := ?_) (a' := ?_) #[true, true, true, true, false, true, true, true, true, false, false, false, false, false] rfl rfl (take_ofW HT_.out HW_.out (by kernel_rfl)) (fun _ _ _ h => h) (Or.inl ⟨by rfl, ?_⟩) hHeld ?_ ?_
    rotate_left
    · rintro w' ⟨s0, s1, s2, s3, s4, s5, s6, s7, s8, s9, s10, s11, s12, s13, s14, s15, s16, s17, s18⟩
      go_simp
      with_reducible rfl
    rotate_left
    · simp only [Act.put, List.setIfInBounds_toArray, List.set_cons_zero, List.set_cons_succ, i64_w, i32_w]
      rfl
    refine one_ (i := 4) (N := some 14) #[true, true, true, true, true, true, true, true, true, false, false, false, false, false] rfl rfl (one_of HT_.out (by kernel_rfl)) (by decide) (fun K hK => ?_)
    refine goes_ Try.func38 (by kernel_rfl) rfl #[.agg #[.int .i64 a0_0, .int .i64 a0_1, .int .i64 a0_2, .int .i64 a0_3], .agg #[.int .i64 a1_0, .int .i64 a1_1, .int .i64 a1_2, .bool a1_3]] (by rfl) rfl rfl (by (try simp only [List.map_toArray, List.map_cons, List.map_nil]); first | done | rfl | (simp only [List.length_drop, List.length_take]; rfl)) ?_
    with_reducible refine (axis_Step.calls k a0_0 a0_1 a0_2 a0_3 a1_0 a1_1 a1_2 a1_3 t202 t203 t204 t205 _ A5.out).mono ?_
    rintro e w15 ⟨rfl, hb⟩
    refine ⟨_, rfl, ?_⟩
    have n0_ := Aside0.mk (blk_below BK198.out hb)
    have n1_ := Aside0.mk (blk_below BK199.out hb)
    have n2_ := Aside0.mk (blk_below BK200.out hb)
    have n3_ := Aside0.mk (below_step (by exact HB.out) hb)
    clear BK198
    clear BK199
    clear BK200
    clear HB
    have BK198 := n0_
    have BK199 := n1_
    have BK200 := n2_
    have HB := n3_
    clear n0_ n1_ n2_ n3_
    (try clear hb)
    (try clear hb2)
    (try clear hk)
    (try clear hi)
    refine hK.out _ _ ⟨(blk_cell BK198.out 0).trans rfl, (blk_cell BK198.out 1).trans rfl, (blk_cell BK198.out 2).trans rfl, (blk_cell BK198.out 3).trans rfl, (blk_cell BK198.out 4).trans rfl, (blk_cell BK198.out 5).trans rfl, (blk_cell BK198.out 6).trans rfl, (blk_cell BK198.out 7).trans rfl, (blk_cell BK198.out 8).trans rfl, (blk_cell BK198.out 9).trans rfl, (blk_cell BK199.out 0).trans rfl, (blk_cell BK199.out 1).trans rfl, (blk_cell BK199.out 2).trans rfl, (blk_cell BK199.out 3).trans rfl, (blk_cell BK199.out 4).trans rfl, (blk_cell BK199.out 5).trans rfl, (blk_cell BK199.out 6).trans rfl, (blk_cell BK199.out 7).trans rfl, (blk_cell BK199.out 8).trans rfl⟩ (fun hHeld => ?_)
    clear hK K
    refine norm_ (a' := ?_) ?_ ?_
    rotate_left
    · show Act.put _ (some 14) _ = _
      simp only [Act.put, List.setIfInBounds_toArray, List.set_cons_zero, List.set_cons_succ, i64_w, i32_w]
      rfl
    refine pure_ (i := 10) (N := some 20) (v := ?_) (a' := ?_) #[true, true, true, true, true, true, true, true, true, false, true, false, false, false] rfl rfl (any_of HT_.out (by kernel_rfl)) (fun _ _ _ h => h) (Or.inl ⟨by rfl, ?_⟩) ?_ ?_
    rotate_left
    · intro w'
      go_simp
      with_reducible rfl
    rotate_left
    · simp only [Act.put, List.setIfInBounds_toArray, List.set_cons_zero, List.set_cons_succ, i64_w, i32_w]
      rfl
    refine one_ (i := 9) (N := some 19) #[true, true, true, true, true, true, true, true, true, true, true, false, false, false] rfl rfl (one_of HT_.out (by kernel_rfl)) (by decide) (fun K hK => ?_)
    refine goes_ Try.func38 (by kernel_rfl) rfl #[.agg #[.int .i64 a0_4, .int .i64 a0_5, .int .i64 a0_6, .int .i64 a0_7], .agg #[.int .i64 a1_4, .int .i64 a1_5, .int .i64 a1_6, .bool a1_7]] (by rfl) rfl rfl (by (try simp only [List.map_toArray, List.map_cons, List.map_nil]); first | done | rfl | (simp only [List.length_drop, List.length_take]; rfl)) ?_
    with_reducible refine (axis_Step.calls k a0_4 a0_5 a0_6 a0_7 a1_4 a1_5 a1_6 a1_7 t206 t207 t208 t209 _ A6.out).mono ?_
    rintro e w16 ⟨rfl, hb⟩
    refine ⟨_, rfl, ?_⟩
    have n0_ := Aside0.mk (blk_below BK198.out hb)
    have n1_ := Aside0.mk (blk_below BK199.out hb)
    have n2_ := Aside0.mk (blk_below BK200.out hb)
    have n3_ := Aside0.mk (below_step (by exact HB.out) hb)
    clear BK198
    clear BK199
    clear BK200
    clear HB
    have BK198 := n0_
    have BK199 := n1_
    have BK200 := n2_
    have HB := n3_
    clear n0_ n1_ n2_ n3_
    (try clear hb)
    (try clear hb2)
    (try clear hk)
    (try clear hi)
    refine hK.out _ _ ⟨(blk_cell BK198.out 0).trans rfl, (blk_cell BK198.out 1).trans rfl, (blk_cell BK198.out 2).trans rfl, (blk_cell BK198.out 3).trans rfl, (blk_cell BK198.out 4).trans rfl, (blk_cell BK198.out 5).trans rfl, (blk_cell BK198.out 6).trans rfl, (blk_cell BK198.out 7).trans rfl, (blk_cell BK198.out 8).trans rfl, (blk_cell BK198.out 9).trans rfl, (blk_cell BK199.out 0).trans rfl, (blk_cell BK199.out 1).trans rfl, (blk_cell BK199.out 2).trans rfl, (blk_cell BK199.out 3).trans rfl, (blk_cell BK199.out 4).trans rfl, (blk_cell BK199.out 5).trans rfl, (blk_cell BK199.out 6).trans rfl, (blk_cell BK199.out 7).trans rfl, (blk_cell BK199.out 8).trans rfl⟩ (fun hHeld => ?_)
    clear hK K
    refine norm_ (a' := ?_) ?_ ?_
    rotate_left
    · show Act.put _ (some 19) _ = _
      simp only [Act.put, List.setIfInBounds_toArray, List.set_cons_zero, List.set_cons_succ, i64_w, i32_w]
      rfl
    refine last_ (i := 11) (N := none) #[true, true, true, true, true, true, true, true, true, true, true, true, false, false] rfl rfl (one_of HT_.out (by kernel_rfl)) (by decide) (fun K hK => ?_)
    have hs17 : w16.cell? ⟨gb199, 0, none⟩ = some (.int .i64 a1_0) := (blk_cell BK199.out 0).trans rfl
    have hfs17 := blk_frozen BK199.out 0
    have hns17_0 := NB198_199.out
    have hns17_2 := NB200_199.out
    have hms17_0 := NB199_198.out
    have hms17_2 := NB199_200.out
    have hs18 : w16.cell? ⟨gb199, 1, none⟩ = some (.int .i64 a1_1) := (blk_cell BK199.out 1).trans rfl
    have hfs18 := blk_frozen BK199.out 1
    have hns18_0 := NB198_199.out
    have hns18_2 := NB200_199.out
    have hms18_0 := NB199_198.out
    have hms18_2 := NB199_200.out
    have hs19 : w16.cell? ⟨gb199, 2, none⟩ = some (.int .i64 a1_2) := (blk_cell BK199.out 2).trans rfl
    have hfs19 := blk_frozen BK199.out 2
    have hns19_0 := NB198_199.out
    have hns19_2 := NB200_199.out
    have hms19_0 := NB199_198.out
    have hms19_2 := NB199_200.out
    have hs20 : w16.cell? ⟨gb199, 3, none⟩ = some (.bool a1_3) := (blk_cell BK199.out 3).trans rfl
    have hfs20 := blk_frozen BK199.out 3
    have hns20_0 := NB198_199.out
    have hns20_2 := NB200_199.out
    have hms20_0 := NB199_198.out
    have hms20_2 := NB199_200.out
    refine skip_ (w1 := ?_) (by rfl) rfl ?_ ?_
    rotate_left
    · go_simp
      rfl
    refine hK.out _ _ ?_
    clear hK K
    refine pure_ (i := 12) (N := some 21) (v := ?_) (a' := ?_) #[true, true, true, true, true, true, true, true, true, true, true, true, true, false] rfl rfl (any_of HT_.out (by kernel_rfl)) (fun _ _ _ h => h) (Or.inl ⟨by rfl, ?_⟩) ?_ ?_
    rotate_left
    · intro w'
      go_simp
      with_reducible rfl
    rotate_left
    · simp only [Act.put, List.setIfInBounds_toArray, List.set_cons_zero, List.set_cons_succ, i64_w, i32_w]
      rfl
    refine last_ (i := 13) (N := none) #[true, true, true, true, true, true, true, true, true, true, true, true, true, true] rfl rfl (one_of HT_.out (by kernel_rfl)) (by decide) (fun K hK => ?_)
    have hs21 : w16.cell? ⟨gb199, 4, none⟩ = some (.int .i64 a1_4) := (blk_cell BK199.out 4).trans rfl
    have hfs21 := blk_frozen BK199.out 4
    have hns21_0 := NB198_199.out
    have hns21_2 := NB200_199.out
    have hms21_0 := NB199_198.out
    have hms21_2 := NB199_200.out
    have hs22 : w16.cell? ⟨gb199, 5, none⟩ = some (.int .i64 a1_5) := (blk_cell BK199.out 5).trans rfl
    have hfs22 := blk_frozen BK199.out 5
    have hns22_0 := NB198_199.out
    have hns22_2 := NB200_199.out
    have hms22_0 := NB199_198.out
    have hms22_2 := NB199_200.out
    have hs23 : w16.cell? ⟨gb199, 6, none⟩ = some (.int .i64 a1_6) := (blk_cell BK199.out 6).trans rfl
    have hfs23 := blk_frozen BK199.out 6
    have hns23_0 := NB198_199.out
    have hns23_2 := NB200_199.out
    have hms23_0 := NB199_198.out
    have hms23_2 := NB199_200.out
    have hs24 : w16.cell? ⟨gb199, 7, none⟩ = some (.bool a1_7) := (blk_cell BK199.out 7).trans rfl
    have hfs24 := blk_frozen BK199.out 7
    have hns24_0 := NB198_199.out
    have hns24_2 := NB200_199.out
    have hms24_0 := NB199_198.out
    have hms24_2 := NB199_200.out
    refine skip_ (w1 := ?_) (by rfl) rfl ?_ ?_
    rotate_left
    · go_simp
      rfl
    refine hK.out _ _ ?_
    clear hK K
    refine done_ (done_of HT_.out (by kernel_rfl)) ?_
    go_upto_region 4 with (fail)
    go_cut [31] (fun v31 wc => ∃ (kq : Nat) (x31_6 : Bool), v31 = .bool x31_6 ∧ Aside0 (mount_Step.j0 kq x31_6 t202 t203 t204 t205 t206 t207 t208 t209 a1_8 = some (r1, r2, r3, r4, r5, r6, r7, r8, r9)) ∧ Aside0 (kq ≤ k) ∧ Aside0 (wc.heap[gb198]? = some (.cells #[.int .i64 a0_0, .int .i64 a0_1, .int .i64 a0_2, .int .i64 a0_3, .int .i64 a0_4, .int .i64 a0_5, .int .i64 a0_6, .int .i64 a0_7, .int .i64 a0_8, .int .i64 a0_9] 32 (0, 0))) ∧ Aside0 (wc.heap[gb199]? = some (.cells #[.int .i64 t202, .int .i64 t203, .int .i64 t204, .bool t205, .int .i64 t206, .int .i64 t207, .int .i64 t208, .bool t209, .int .i64 a1_8] 37 (0, 0))) ∧ Aside0 (wc.heap[gb200]? = some (.cells #[.int .i64 0, .int .i64 0, .int .i64 0, .bool false, .int .i64 0, .int .i64 0, .int .i64 0, .bool false, .int .i64 0] 37 (0, 0))) ∧ Aside0 (Below w.heap.size w wc))
    case first =>
      have H := HC7.out
      clear HC7
      replace H := Option.bind_eq_some_iff.mp H
      obtain ⟨t210, A250, H⟩ := H
      replace H : (if t210 = true then ((axis_Resting.f t206 t207 t208 t209).bind fun t211 => (mount_Step.j0 k (!t211) t202 t203 t204 t205 t206 t207 t208 t209 a1_8)) else (mount_Step.j0 k true t202 t203 t204 t205 t206 t207 t208 t209 a1_8)) = some (r1, r2, r3, r4, r5, r6, r7, r8, r9) := H
      have A25 := Aside0.mk A250
      clear A250
      by_cases c26 : t210 = true
      · subst c26
        have H1 : ((axis_Resting.f t206 t207 t208 t209).bind fun t211 => (mount_Step.j0 k (!t211) t202 t203 t204 t205 t206 t207 t208 t209 a1_8)) = some (r1, r2, r3, r4, r5, r6, r7, r8, r9) := by rw [if_pos rfl] at H; exact H
        clear H
        have H := H1
        clear H1
        replace H := Option.bind_eq_some_iff.mp H
        obtain ⟨t211, A270, H⟩ := H
        replace H : (mount_Step.j0 k (!t211) t202 t203 t204 t205 t206 t207 t208 t209 a1_8) = some (r1, r2, r3, r4, r5, r6, r7, r8, r9) := H
        have A27 := Aside0.mk A270
        clear A270
        have H' := Aside0.mk H
        clear H
        have hcz28_0 := tch9 BK199.out
        go_wp2_with (first | ((with_reducible refine gate_callee (f := 39) rfl ?_); refine goesL_ (some 24) rfl rfl Try.func39 (by kernel_rfl) rfl #[.agg #[.int .i64 t202, .int .i64 t203, .int .i64 t204, .bool t205]] rfl (by (try simp only [List.map_toArray, List.map_cons, List.map_nil]); first | done | rfl | (simp only [List.length_drop, List.length_take]; rfl)) ?_; (with_reducible refine (axis_Resting.calls t202 t203 t204 t205 true _ A25.out).mono ?_); rintro e w29 ⟨rfl, hb⟩; refine ⟨_, rfl, ?_⟩; have n0_ := Aside0.mk (blk_below (g := gb198) (o := .cells #[.int .i64 a0_0, .int .i64 a0_1, .int .i64 a0_2, .int .i64 a0_3, .int .i64 a0_4, .int .i64 a0_5, .int .i64 a0_6, .int .i64 a0_7, .int .i64 a0_8, .int .i64 a0_9] 32 (0, 0)) (by exact (blk_far (blk_far (blk_far (blk_far (blk_far (blk_far (blk_far (blk_far BK198.out NB198_199.out _) NB198_199.out _) NB198_199.out _) NB198_199.out _) NB198_199.out _) NB198_199.out _) NB198_199.out _) NB198_199.out _)) hb); have n1_ := Aside0.mk (blk_below (g := gb199) (o := .cells #[.int .i64 t202, .int .i64 t203, .int .i64 t204, .bool t205, .int .i64 t206, .int .i64 t207, .int .i64 t208, .bool t209, .int .i64 a1_8] 37 (0, 0)) (by exact (blk_put (cs := #[.int .i64 t202, .int .i64 t203, .int .i64 t204, .bool t205, .int .i64 t206, .int .i64 t207, .int .i64 t208, .bool a1_7, .int .i64 a1_8]) (blk_put (cs := #[.int .i64 t202, .int .i64 t203, .int .i64 t204, .bool t205, .int .i64 t206, .int .i64 t207, .int .i64 a1_6, .bool a1_7, .int .i64 a1_8]) (blk_put (cs := #[.int .i64 t202, .int .i64 t203, .int .i64 t204, .bool t205, .int .i64 t206, .int .i64 a1_5, .int .i64 a1_6, .bool a1_7, .int .i64 a1_8]) (blk_put (cs := #[.int .i64 t202, .int .i64 t203, .int .i64 t204, .bool t205, .int .i64 a1_4, .int .i64 a1_5, .int .i64 a1_6, .bool a1_7, .int .i64 a1_8]) (blk_put (cs := #[.int .i64 t202, .int .i64 t203, .int .i64 t204, .bool a1_3, .int .i64 a1_4, .int .i64 a1_5, .int .i64 a1_6, .bool a1_7, .int .i64 a1_8]) (blk_put (cs := #[.int .i64 t202, .int .i64 t203, .int .i64 a1_2, .bool a1_3, .int .i64 a1_4, .int .i64 a1_5, .int .i64 a1_6, .bool a1_7, .int .i64 a1_8]) (blk_put (cs := #[.int .i64 t202, .int .i64 a1_1, .int .i64 a1_2, .bool a1_3, .int .i64 a1_4, .int .i64 a1_5, .int .i64 a1_6, .bool a1_7, .int .i64 a1_8]) (blk_put (cs := #[.int .i64 a1_0, .int .i64 a1_1, .int .i64 a1_2, .bool a1_3, .int .i64 a1_4, .int .i64 a1_5, .int .i64 a1_6, .bool a1_7, .int .i64 a1_8]) BK199.out 0 _ rfl) 1 _ rfl) 2 _ rfl) 3 _ rfl) 4 _ rfl) 5 _ rfl) 6 _ rfl) 7 _ rfl)) hb); have n2_ := Aside0.mk (blk_below (g := gb200) (o := .cells #[.int .i64 0, .int .i64 0, .int .i64 0, .bool false, .int .i64 0, .int .i64 0, .int .i64 0, .bool false, .int .i64 0] 37 (0, 0)) (by exact (blk_far (blk_far (blk_far (blk_far (blk_far (blk_far (blk_far (blk_far BK200.out NB200_199.out _) NB200_199.out _) NB200_199.out _) NB200_199.out _) NB200_199.out _) NB200_199.out _) NB200_199.out _) NB200_199.out _)) hb); have n3_ := Aside0.mk (below_step (by repeat (first | (with_reducible first | exact HB.out | apply below_alloc | apply pw_below_drewN | apply below_drew1 | refine below_set ?_ GE198.out | refine below_set ?_ GE199.out | refine below_set ?_ GE200.out) | exact HB.out)) hb); clear BK198; clear BK199; clear BK200; clear HB; have BK198 := n0_; have BK199 := n1_; have BK200 := n2_; have HB := n3_; clear n0_ n1_ n2_ n3_; (try clear hb); (try clear hb2); (try clear hk); (try clear hi); have hcz30_0 := tch9 BK199.out) | (go_at_call 39; (with_reducible refine (axis_Resting.calls t206 t207 t208 t209 t211 _ A27.out).mono ?_); rintro e w31 ⟨rfl, hb⟩; have n0_ := Aside0.mk (blk_below BK198.out hb); have n1_ := Aside0.mk (blk_below BK199.out hb); have n2_ := Aside0.mk (blk_below BK200.out hb); have n3_ := Aside0.mk (below_step (by exact HB.out) hb); clear BK198; clear BK199; clear BK200; clear HB; have BK198 := n0_; have BK199 := n1_; have BK200 := n2_; have HB := n3_; clear n0_ n1_ n2_ n3_; (try clear hb); (try clear hb2); (try clear hk); (try clear hi)))
        go_meet
        case rel => exact ⟨_, (!t211), (by first | rfl | (simp; done) | (simp [*]; done)), H', ⟨by first | omega | exact Nat.le_refl _⟩, ⟨by exact BK198.out⟩, ⟨by exact BK199.out⟩, ⟨by exact BK200.out⟩, ⟨by exact HB.out⟩⟩
      · replace c26 := Bool.eq_false_iff.mpr c26
        subst c26
        have H1 : (mount_Step.j0 k true t202 t203 t204 t205 t206 t207 t208 t209 a1_8) = some (r1, r2, r3, r4, r5, r6, r7, r8, r9) := by rw [if_neg (show ¬ (false = true) by decide)] at H; exact H
        clear H
        have H := H1
        clear H1
        have H' := Aside0.mk H
        clear H
        have hcz32_0 := tch9 BK199.out
        go_wp2_with (first | ((with_reducible refine gate_callee (f := 39) rfl ?_); refine goesL_ (some 24) rfl rfl Try.func39 (by kernel_rfl) rfl #[.agg #[.int .i64 t202, .int .i64 t203, .int .i64 t204, .bool t205]] rfl (by (try simp only [List.map_toArray, List.map_cons, List.map_nil]); first | done | rfl | (simp only [List.length_drop, List.length_take]; rfl)) ?_; (with_reducible refine (axis_Resting.calls t202 t203 t204 t205 false _ A25.out).mono ?_); rintro e w33 ⟨rfl, hb⟩; refine ⟨_, rfl, ?_⟩; have n0_ := Aside0.mk (blk_below (g := gb198) (o := .cells #[.int .i64 a0_0, .int .i64 a0_1, .int .i64 a0_2, .int .i64 a0_3, .int .i64 a0_4, .int .i64 a0_5, .int .i64 a0_6, .int .i64 a0_7, .int .i64 a0_8, .int .i64 a0_9] 32 (0, 0)) (by exact (blk_far (blk_far (blk_far (blk_far (blk_far (blk_far (blk_far (blk_far BK198.out NB198_199.out _) NB198_199.out _) NB198_199.out _) NB198_199.out _) NB198_199.out _) NB198_199.out _) NB198_199.out _) NB198_199.out _)) hb); have n1_ := Aside0.mk (blk_below (g := gb199) (o := .cells #[.int .i64 t202, .int .i64 t203, .int .i64 t204, .bool t205, .int .i64 t206, .int .i64 t207, .int .i64 t208, .bool t209, .int .i64 a1_8] 37 (0, 0)) (by exact (blk_put (cs := #[.int .i64 t202, .int .i64 t203, .int .i64 t204, .bool t205, .int .i64 t206, .int .i64 t207, .int .i64 t208, .bool a1_7, .int .i64 a1_8]) (blk_put (cs := #[.int .i64 t202, .int .i64 t203, .int .i64 t204, .bool t205, .int .i64 t206, .int .i64 t207, .int .i64 a1_6, .bool a1_7, .int .i64 a1_8]) (blk_put (cs := #[.int .i64 t202, .int .i64 t203, .int .i64 t204, .bool t205, .int .i64 t206, .int .i64 a1_5, .int .i64 a1_6, .bool a1_7, .int .i64 a1_8]) (blk_put (cs := #[.int .i64 t202, .int .i64 t203, .int .i64 t204, .bool t205, .int .i64 a1_4, .int .i64 a1_5, .int .i64 a1_6, .bool a1_7, .int .i64 a1_8]) (blk_put (cs := #[.int .i64 t202, .int .i64 t203, .int .i64 t204, .bool a1_3, .int .i64 a1_4, .int .i64 a1_5, .int .i64 a1_6, .bool a1_7, .int .i64 a1_8]) (blk_put (cs := #[.int .i64 t202, .int .i64 t203, .int .i64 a1_2, .bool a1_3, .int .i64 a1_4, .int .i64 a1_5, .int .i64 a1_6, .bool a1_7, .int .i64 a1_8]) (blk_put (cs := #[.int .i64 t202, .int .i64 a1_1, .int .i64 a1_2, .bool a1_3, .int .i64 a1_4, .int .i64 a1_5, .int .i64 a1_6, .bool a1_7, .int .i64 a1_8]) (blk_put (cs := #[.int .i64 a1_0, .int .i64 a1_1, .int .i64 a1_2, .bool a1_3, .int .i64 a1_4, .int .i64 a1_5, .int .i64 a1_6, .bool a1_7, .int .i64 a1_8]) BK199.out 0 _ rfl) 1 _ rfl) 2 _ rfl) 3 _ rfl) 4 _ rfl) 5 _ rfl) 6 _ rfl) 7 _ rfl)) hb); have n2_ := Aside0.mk (blk_below (g := gb200) (o := .cells #[.int .i64 0, .int .i64 0, .int .i64 0, .bool false, .int .i64 0, .int .i64 0, .int .i64 0, .bool false, .int .i64 0] 37 (0, 0)) (by exact (blk_far (blk_far (blk_far (blk_far (blk_far (blk_far (blk_far (blk_far BK200.out NB200_199.out _) NB200_199.out _) NB200_199.out _) NB200_199.out _) NB200_199.out _) NB200_199.out _) NB200_199.out _) NB200_199.out _)) hb); have n3_ := Aside0.mk (below_step (by repeat (first | (with_reducible first | exact HB.out | apply below_alloc | apply pw_below_drewN | apply below_drew1 | refine below_set ?_ GE198.out | refine below_set ?_ GE199.out | refine below_set ?_ GE200.out) | exact HB.out)) hb); clear BK198; clear BK199; clear BK200; clear HB; have BK198 := n0_; have BK199 := n1_; have BK200 := n2_; have HB := n3_; clear n0_ n1_ n2_ n3_; (try clear hb); (try clear hb2); (try clear hk); (try clear hi)))
        go_meet
        case rel => exact ⟨_, (true), (by first | rfl | (simp; done) | (simp [*]; done)), H', ⟨by first | omega | exact Nat.le_refl _⟩, ⟨by exact BK198.out⟩, ⟨by exact BK199.out⟩, ⟨by exact BK200.out⟩, ⟨by exact HB.out⟩⟩
    case rest =>
      clear HC7
      try clear c2
      try clear p2
      try clear c3
      try clear c4
      try clear c4b0
      try clear c4b1
      try clear c20
      try clear c21
      try clear c26
      try clear hcz11_0
      try clear hcz12_0
      try clear hcz28_0
      try clear hcz30_0
      try clear hcz32_0
      obtain ⟨kq, x31_6, rfl, HA, HJ6, BK198, BK199, BK200, HB⟩ := hcut
      cases kq with
      | zero => exact absurd HA.out (by simp [mount_Step.j0])
      | succ kj6 =>
        have H := HA.out
        clear HA
        simp only [mount_Step.j0] at H
        by_cases c34 : x31_6 = true
        · subst c34
          have H1 : (some (t202, t203, t204, t205, t206, t207, t208, t209, a1_8)) = some (r1, r2, r3, r4, r5, r6, r7, r8, r9) := by rw [if_pos rfl] at H; exact H
          clear H
          have H := H1
          clear H1
          simp only [Option.some.injEq, Prod.mk.injEq] at H
          obtain ⟨rfl, rfl, rfl, rfl, rfl, rfl, rfl, rfl, rfl⟩ := H
          have hcz35_0 := tch9 BK199.out
          go_wp2_with (first | ((with_reducible refine gate_store (t := 37) (p := 4) rfl ?_); refine store_row (t := 37) (p := 4) (v := ?vo_w36) ?hgd ?ho ?hN gb200 0 #[.int .i64 0, .int .i64 0, .int .i64 0, .bool false, .int .i64 0, .int .i64 0, .int .i64 0, .bool false, .int .i64 0] [.int .i64 t202, .int .i64 t203, .int .i64 t204, .bool t205, .int .i64 t206, .int .i64 t207, .int .i64 t208, .bool t209, .int .i64 a1_8] #[.int .i64 t202, .int .i64 t203, .int .i64 t204, .bool t205, .int .i64 t206, .int .i64 t207, .int .i64 t208, .bool t209, .int .i64 a1_8] ?hx ?hy (by exact BK200.out) szi37 (Nat.le_of_ble_eq_true rfl) ?h1 ?hnew ?_; (case ho => rfl); (case hgd => rfl); (case hN => rfl); (case hx => rfl); (case hy => first | rfl | (go_simp; done) | (go_simp; rfl)); (case h1 => rfl); (case hnew => rfl); intro w36 hbox hg; have n0_ := Aside0.mk (blk_grown BK198.out hg (fun e_ => NB198_200.out (Option.some.inj e_))); have n1_ := Aside0.mk (blk_grown BK199.out hg (fun e_ => NB199_200.out (Option.some.inj e_))); have n2_ := Aside0.mk (pw_below_grown (by exact HB.out) (some gb200) (below_size (by exact HB.out)) hg (fun k_ e_ => by cases e_; exact GE200.out)); have n3_ := Aside0.mk (hbox); clear BK198; clear BK199; clear HB; clear BK200; have BK198 := n0_; have BK199 := n1_; have HB := n2_; have BK200 := n3_; clear n0_ n1_ n2_ n3_; clear hbox hg))
          refine bodyPost_ret (results_cell_row rfl _ _ gb200 37 #[.int .i64 t202, .int .i64 t203, .int .i64 t204, .bool t205, .int .i64 t206, .int .i64 t207, .int .i64 t208, .bool t209, .int .i64 a1_8] (0, 0) _ rfl (by exact BK200.out) Try.underlying37 rfl (by kernel_rfl)) rfl ?_
          exact ⟨by first | rfl | (simp [errW_none, errW_some] <;> rfl) | (simp [*, errW_none, errW_some] <;> rfl), by exact HB.out⟩
        · replace c34 := Bool.eq_false_iff.mpr c34
          subst c34
          have H1 : (if a1_8 = 2 then (some (t202, t203, t204, t205, t206, t207, t208, t209, 3)) else (if a1_8 = 4 then (some (t202, t203, t204, t205, t206, t207, t208, t209, 0)) else (if a1_8 = 5 then (some (t202, t203, t204, t205, t206, t207, t208, t209, 1)) else (some (t202, t203, t204, t205, t206, t207, t208, t209, a1_8))))) = some (r1, r2, r3, r4, r5, r6, r7, r8, r9) := by rw [if_neg (show ¬ (false = true) by decide)] at H; exact H
          clear H
          have H := H1
          clear H1
          by_cases c37 : a1_8 = 2
          · rw [if_pos c37] at H
            have c37b0 : (a1_8 == 2) = true := beq_iff_eq.mpr c37
            have c37b1 : (a1_8 != 2) = false := bne_eq_false_iff_eq.mpr c37
            clear c37
            simp only [Option.some.injEq, Prod.mk.injEq] at H
            obtain ⟨rfl, rfl, rfl, rfl, rfl, rfl, rfl, rfl, rfl⟩ := H
            have hcz38_0 := tch9 BK199.out
            go_wp2_with (first | ((with_reducible refine gate_store (t := 3) (p := 37) rfl ?_); refine store_row (t := 3) (p := 37) (v := ?vo_w39) ?hgd ?ho ?hN gb199 8 #[.int .i64 t202, .int .i64 t203, .int .i64 t204, .bool t205, .int .i64 t206, .int .i64 t207, .int .i64 t208, .bool t209, .int .i64 a1_8] [.int .i64 3] #[.int .i64 t202, .int .i64 t203, .int .i64 t204, .bool t205, .int .i64 t206, .int .i64 t207, .int .i64 t208, .bool t209, .int .i64 3] ?hx ?hy (by exact BK199.out) szi3 (Nat.le_of_ble_eq_true rfl) ?h1 ?hnew ?_; (case ho => rfl); (case hgd => rfl); (case hN => rfl); (case hx => rfl); (case hy => first | rfl | (go_simp; done) | (go_simp; rfl)); (case h1 => rfl); (case hnew => rfl); intro w39 hbox hg; have n0_ := Aside0.mk (blk_grown BK198.out hg (fun e_ => NB198_199.out (Option.some.inj e_))); have n1_ := Aside0.mk (blk_grown BK200.out hg (fun e_ => NB200_199.out (Option.some.inj e_))); have n2_ := Aside0.mk (pw_below_grown (by exact HB.out) (some gb199) (below_size (by exact HB.out)) hg (fun k_ e_ => by cases e_; exact GE199.out)); have n3_ := Aside0.mk (hbox); clear BK198; clear BK200; clear HB; clear BK199; have BK198 := n0_; have BK200 := n1_; have HB := n2_; have BK199 := n3_; clear n0_ n1_ n2_ n3_; clear hbox hg; have hcz40_0 := tch9 BK199.out) | ((with_reducible refine gate_store (t := 37) (p := 4) rfl ?_); refine store_row (t := 37) (p := 4) (v := ?vo_w41) ?hgd ?ho ?hN gb200 0 #[.int .i64 0, .int .i64 0, .int .i64 0, .bool false, .int .i64 0, .int .i64 0, .int .i64 0, .bool false, .int .i64 0] [.int .i64 t202, .int .i64 t203, .int .i64 t204, .bool t205, .int .i64 t206, .int .i64 t207, .int .i64 t208, .bool t209, .int .i64 3] #[.int .i64 t202, .int .i64 t203, .int .i64 t204, .bool t205, .int .i64 t206, .int .i64 t207, .int .i64 t208, .bool t209, .int .i64 3] ?hx ?hy (by exact BK200.out) szi37 (Nat.le_of_ble_eq_true rfl) ?h1 ?hnew ?_; (case ho => rfl); (case hgd => rfl); (case hN => rfl); (case hx => rfl); (case hy => first | rfl | (go_simp; done) | (go_simp; rfl)); (case h1 => rfl); (case hnew => rfl); intro w41 hbox hg; have n0_ := Aside0.mk (blk_grown BK198.out hg (fun e_ => NB198_200.out (Option.some.inj e_))); have n1_ := Aside0.mk (blk_grown BK199.out hg (fun e_ => NB199_200.out (Option.some.inj e_))); have n2_ := Aside0.mk (pw_below_grown (by exact HB.out) (some gb200) (below_size (by exact HB.out)) hg (fun k_ e_ => by cases e_; exact GE200.out)); have n3_ := Aside0.mk (hbox); clear BK198; clear BK199; clear HB; clear BK200; have BK198 := n0_; have BK199 := n1_; have HB := n2_; have BK200 := n3_; clear n0_ n1_ n2_ n3_; clear hbox hg))
            refine bodyPost_ret (results_cell_row rfl _ _ gb200 37 #[.int .i64 t202, .int .i64 t203, .int .i64 t204, .bool t205, .int .i64 t206, .int .i64 t207, .int .i64 t208, .bool t209, .int .i64 3] (0, 0) _ rfl (by exact BK200.out) Try.underlying37 rfl (by kernel_rfl)) rfl ?_
            exact ⟨by first | rfl | (simp [errW_none, errW_some] <;> rfl) | (simp [*, errW_none, errW_some] <;> rfl), by exact HB.out⟩
          · rw [if_neg c37] at H
            have c37b0 : (a1_8 == 2) = false := beq_eq_false_iff_ne.mpr c37
            have c37b1 : (a1_8 != 2) = true := bne_iff_ne.mpr c37
            by_cases c42 : a1_8 = 4
            · rw [if_pos c42] at H
              have c42b0 : (a1_8 == 4) = true := beq_iff_eq.mpr c42
              have c42b1 : (a1_8 != 4) = false := bne_eq_false_iff_eq.mpr c42
              clear c42
              simp only [Option.some.injEq, Prod.mk.injEq] at H
              obtain ⟨rfl, rfl, rfl, rfl, rfl, rfl, rfl, rfl, rfl⟩ := H
              have hcz43_0 := tch9 BK199.out
              go_wp2_with (first | ((with_reducible refine gate_store (t := 3) (p := 40) rfl ?_); refine store_row (t := 3) (p := 40) (v := ?vo_w44) ?hgd ?ho ?hN gb199 8 #[.int .i64 t202, .int .i64 t203, .int .i64 t204, .bool t205, .int .i64 t206, .int .i64 t207, .int .i64 t208, .bool t209, .int .i64 a1_8] [.int .i64 0] #[.int .i64 t202, .int .i64 t203, .int .i64 t204, .bool t205, .int .i64 t206, .int .i64 t207, .int .i64 t208, .bool t209, .int .i64 0] ?hx ?hy (by exact BK199.out) szi3 (Nat.le_of_ble_eq_true rfl) ?h1 ?hnew ?_; (case ho => rfl); (case hgd => rfl); (case hN => rfl); (case hx => rfl); (case hy => first | rfl | (go_simp; done) | (go_simp; rfl)); (case h1 => rfl); (case hnew => rfl); intro w44 hbox hg; have n0_ := Aside0.mk (blk_grown BK198.out hg (fun e_ => NB198_199.out (Option.some.inj e_))); have n1_ := Aside0.mk (blk_grown BK200.out hg (fun e_ => NB200_199.out (Option.some.inj e_))); have n2_ := Aside0.mk (pw_below_grown (by exact HB.out) (some gb199) (below_size (by exact HB.out)) hg (fun k_ e_ => by cases e_; exact GE199.out)); have n3_ := Aside0.mk (hbox); clear BK198; clear BK200; clear HB; clear BK199; have BK198 := n0_; have BK200 := n1_; have HB := n2_; have BK199 := n3_; clear n0_ n1_ n2_ n3_; clear hbox hg; have hcz45_0 := tch9 BK199.out) | ((with_reducible refine gate_store (t := 37) (p := 4) rfl ?_); refine store_row (t := 37) (p := 4) (v := ?vo_w46) ?hgd ?ho ?hN gb200 0 #[.int .i64 0, .int .i64 0, .int .i64 0, .bool false, .int .i64 0, .int .i64 0, .int .i64 0, .bool false, .int .i64 0] [.int .i64 t202, .int .i64 t203, .int .i64 t204, .bool t205, .int .i64 t206, .int .i64 t207, .int .i64 t208, .bool t209, .int .i64 0] #[.int .i64 t202, .int .i64 t203, .int .i64 t204, .bool t205, .int .i64 t206, .int .i64 t207, .int .i64 t208, .bool t209, .int .i64 0] ?hx ?hy (by exact BK200.out) szi37 (Nat.le_of_ble_eq_true rfl) ?h1 ?hnew ?_; (case ho => rfl); (case hgd => rfl); (case hN => rfl); (case hx => rfl); (case hy => first | rfl | (go_simp; done) | (go_simp; rfl)); (case h1 => rfl); (case hnew => rfl); intro w46 hbox hg; have n0_ := Aside0.mk (blk_grown BK198.out hg (fun e_ => NB198_200.out (Option.some.inj e_))); have n1_ := Aside0.mk (blk_grown BK199.out hg (fun e_ => NB199_200.out (Option.some.inj e_))); have n2_ := Aside0.mk (pw_below_grown (by exact HB.out) (some gb200) (below_size (by exact HB.out)) hg (fun k_ e_ => by cases e_; exact GE200.out)); have n3_ := Aside0.mk (hbox); clear BK198; clear BK199; clear HB; clear BK200; have BK198 := n0_; have BK199 := n1_; have HB := n2_; have BK200 := n3_; clear n0_ n1_ n2_ n3_; clear hbox hg))
              refine bodyPost_ret (results_cell_row rfl _ _ gb200 37 #[.int .i64 t202, .int .i64 t203, .int .i64 t204, .bool t205, .int .i64 t206, .int .i64 t207, .int .i64 t208, .bool t209, .int .i64 0] (0, 0) _ rfl (by exact BK200.out) Try.underlying37 rfl (by kernel_rfl)) rfl ?_
              exact ⟨by first | rfl | (simp [errW_none, errW_some] <;> rfl) | (simp [*, errW_none, errW_some] <;> rfl), by exact HB.out⟩
            · rw [if_neg c42] at H
              have c42b0 : (a1_8 == 4) = false := beq_eq_false_iff_ne.mpr c42
              have c42b1 : (a1_8 != 4) = true := bne_iff_ne.mpr c42
              by_cases c47 : a1_8 = 5
              · rw [if_pos c47] at H
                have c47b0 : (a1_8 == 5) = true := beq_iff_eq.mpr c47
                have c47b1 : (a1_8 != 5) = false := bne_eq_false_iff_eq.mpr c47
                clear c47
                simp only [Option.some.injEq, Prod.mk.injEq] at H
                obtain ⟨rfl, rfl, rfl, rfl, rfl, rfl, rfl, rfl, rfl⟩ := H
                have hcz48_0 := tch9 BK199.out
                go_wp2_with (first | ((with_reducible refine gate_store (t := 3) (p := 43) rfl ?_); refine store_row (t := 3) (p := 43) (v := ?vo_w49) ?hgd ?ho ?hN gb199 8 #[.int .i64 t202, .int .i64 t203, .int .i64 t204, .bool t205, .int .i64 t206, .int .i64 t207, .int .i64 t208, .bool t209, .int .i64 a1_8] [.int .i64 1] #[.int .i64 t202, .int .i64 t203, .int .i64 t204, .bool t205, .int .i64 t206, .int .i64 t207, .int .i64 t208, .bool t209, .int .i64 1] ?hx ?hy (by exact BK199.out) szi3 (Nat.le_of_ble_eq_true rfl) ?h1 ?hnew ?_; (case ho => rfl); (case hgd => rfl); (case hN => rfl); (case hx => rfl); (case hy => first | rfl | (go_simp; done) | (go_simp; rfl)); (case h1 => rfl); (case hnew => rfl); intro w49 hbox hg; have n0_ := Aside0.mk (blk_grown BK198.out hg (fun e_ => NB198_199.out (Option.some.inj e_))); have n1_ := Aside0.mk (blk_grown BK200.out hg (fun e_ => NB200_199.out (Option.some.inj e_))); have n2_ := Aside0.mk (pw_below_grown (by exact HB.out) (some gb199) (below_size (by exact HB.out)) hg (fun k_ e_ => by cases e_; exact GE199.out)); have n3_ := Aside0.mk (hbox); clear BK198; clear BK200; clear HB; clear BK199; have BK198 := n0_; have BK200 := n1_; have HB := n2_; have BK199 := n3_; clear n0_ n1_ n2_ n3_; clear hbox hg; have hcz50_0 := tch9 BK199.out) | ((with_reducible refine gate_store (t := 37) (p := 4) rfl ?_); refine store_row (t := 37) (p := 4) (v := ?vo_w51) ?hgd ?ho ?hN gb200 0 #[.int .i64 0, .int .i64 0, .int .i64 0, .bool false, .int .i64 0, .int .i64 0, .int .i64 0, .bool false, .int .i64 0] [.int .i64 t202, .int .i64 t203, .int .i64 t204, .bool t205, .int .i64 t206, .int .i64 t207, .int .i64 t208, .bool t209, .int .i64 1] #[.int .i64 t202, .int .i64 t203, .int .i64 t204, .bool t205, .int .i64 t206, .int .i64 t207, .int .i64 t208, .bool t209, .int .i64 1] ?hx ?hy (by exact BK200.out) szi37 (Nat.le_of_ble_eq_true rfl) ?h1 ?hnew ?_; (case ho => rfl); (case hgd => rfl); (case hN => rfl); (case hx => rfl); (case hy => first | rfl | (go_simp; done) | (go_simp; rfl)); (case h1 => rfl); (case hnew => rfl); intro w51 hbox hg; have n0_ := Aside0.mk (blk_grown BK198.out hg (fun e_ => NB198_200.out (Option.some.inj e_))); have n1_ := Aside0.mk (blk_grown BK199.out hg (fun e_ => NB199_200.out (Option.some.inj e_))); have n2_ := Aside0.mk (pw_below_grown (by exact HB.out) (some gb200) (below_size (by exact HB.out)) hg (fun k_ e_ => by cases e_; exact GE200.out)); have n3_ := Aside0.mk (hbox); clear BK198; clear BK199; clear HB; clear BK200; have BK198 := n0_; have BK199 := n1_; have HB := n2_; have BK200 := n3_; clear n0_ n1_ n2_ n3_; clear hbox hg))
                refine bodyPost_ret (results_cell_row rfl _ _ gb200 37 #[.int .i64 t202, .int .i64 t203, .int .i64 t204, .bool t205, .int .i64 t206, .int .i64 t207, .int .i64 t208, .bool t209, .int .i64 1] (0, 0) _ rfl (by exact BK200.out) Try.underlying37 rfl (by kernel_rfl)) rfl ?_
                exact ⟨by first | rfl | (simp [errW_none, errW_some] <;> rfl) | (simp [*, errW_none, errW_some] <;> rfl), by exact HB.out⟩
              · rw [if_neg c47] at H
                have c47b0 : (a1_8 == 5) = false := beq_eq_false_iff_ne.mpr c47
                have c47b1 : (a1_8 != 5) = true := bne_iff_ne.mpr c47
                simp only [Option.some.injEq, Prod.mk.injEq] at H
                obtain ⟨rfl, rfl, rfl, rfl, rfl, rfl, rfl, rfl, rfl⟩ := H
                have hcz52_0 := tch9 BK199.out
                go_wp2_with (first | ((with_reducible refine gate_store (t := 37) (p := 4) rfl ?_); refine store_row (t := 37) (p := 4) (v := ?vo_w53) ?hgd ?ho ?hN gb200 0 #[.int .i64 0, .int .i64 0, .int .i64 0, .bool false, .int .i64 0, .int .i64 0, .int .i64 0, .bool false, .int .i64 0] [.int .i64 t202, .int .i64 t203, .int .i64 t204, .bool t205, .int .i64 t206, .int .i64 t207, .int .i64 t208, .bool t209, .int .i64 a1_8] #[.int .i64 t202, .int .i64 t203, .int .i64 t204, .bool t205, .int .i64 t206, .int .i64 t207, .int .i64 t208, .bool t209, .int .i64 a1_8] ?hx ?hy (by exact BK200.out) szi37 (Nat.le_of_ble_eq_true rfl) ?h1 ?hnew ?_; (case ho => rfl); (case hgd => rfl); (case hN => rfl); (case hx => rfl); (case hy => first | rfl | (go_simp; done) | (go_simp; rfl)); (case h1 => rfl); (case hnew => rfl); intro w53 hbox hg; have n0_ := Aside0.mk (blk_grown BK198.out hg (fun e_ => NB198_200.out (Option.some.inj e_))); have n1_ := Aside0.mk (blk_grown BK199.out hg (fun e_ => NB199_200.out (Option.some.inj e_))); have n2_ := Aside0.mk (pw_below_grown (by exact HB.out) (some gb200) (below_size (by exact HB.out)) hg (fun k_ e_ => by cases e_; exact GE200.out)); have n3_ := Aside0.mk (hbox); clear BK198; clear BK199; clear HB; clear BK200; have BK198 := n0_; have BK199 := n1_; have HB := n2_; have BK200 := n3_; clear n0_ n1_ n2_ n3_; clear hbox hg))
                refine bodyPost_ret (results_cell_row rfl _ _ gb200 37 #[.int .i64 t202, .int .i64 t203, .int .i64 t204, .bool t205, .int .i64 t206, .int .i64 t207, .int .i64 t208, .bool t209, .int .i64 a1_8] (0, 0) _ rfl (by exact BK200.out) Try.underlying37 rfl (by kernel_rfl)) rfl ?_
                exact ⟨by first | rfl | (simp [errW_none, errW_some] <;> rfl) | (simp [*, errW_none, errW_some] <;> rfl), by exact HB.out⟩
  · rw [if_neg c4] at H
    have c4b0 : (t201 == 0) = false := beq_eq_false_iff_ne.mpr c4
    have c4b1 : (t201 != 0) = true := bne_iff_ne.mpr c4
    simp only [Option.some.injEq, Prod.mk.injEq] at H
    obtain ⟨rfl, rfl, rfl, rfl, rfl, rfl, rfl, rfl, rfl⟩ := H
    go_enter Try.func20, Try.ntmps20
    go_wp2_with (first | ((with_reducible refine gate_dst (N := 2) rfl ?_); refine box_event ?hg (N := 2) ?hd (cs := #[.int .i64 a0_0, .int .i64 a0_1, .int .i64 a0_2, .int .i64 a0_3, .int .i64 a0_4, .int .i64 a0_5, .int .i64 a0_6, .int .i64 a0_7, .int .i64 a0_8, .int .i64 a0_9]) (t := 32) ?hr ?_; (case hd => rfl); (case hg => rfl); (case hr => first | (go_simp; done) | (go_simp; rfl)); intro gb198 hg w54 hbox hb; have n0_ := Aside0.mk (below_step (by exact HB.out) hb); have n1_ := Aside0.mk (hbox); have n2_ := Aside0.mk ((by rw [hg]; exact (below_size (by exact HB.out)) : w.heap.size ≤ gb198)); have n3_ := Aside0.mk ((by rw [hg]; exact (below_size (by exact HB.out)) : w.heap.size ≤ gb198)); clear HB; have HB := n0_; have BK198 := n1_; have GW198 := n2_; have GE198 := n3_; clear n0_ n1_ n2_ n3_; clear hb hbox hg) | ((with_reducible refine gate_dst (N := 3) rfl ?_); refine box_event ?hg (N := 3) ?hd (cs := #[.int .i64 a1_0, .int .i64 a1_1, .int .i64 a1_2, .bool a1_3, .int .i64 a1_4, .int .i64 a1_5, .int .i64 a1_6, .bool a1_7, .int .i64 a1_8]) (t := 37) ?hr ?_; (case hd => rfl); (case hg => rfl); (case hr => first | (go_simp; done) | (go_simp; rfl)); intro gb199 hg w55 hbox hb; have n0_ := Aside0.mk (blk_below BK198.out hb); have n1_ := Aside0.mk (below_step (by exact HB.out) hb); have n2_ := Aside0.mk (hbox); have n3_ := Aside0.mk ((by rw [hg]; exact (below_size (by exact HB.out)) : w.heap.size ≤ gb199)); have n4_ := Aside0.mk ((by rw [hg]; exact (below_size (by exact HB.out)) : w.heap.size ≤ gb199)); have n5_ := Aside0.mk ((by rw [hg]; exact Nat.ne_of_lt (blk_lt BK198.out) : gb198 ≠ gb199)); have n6_ := Aside0.mk ((by rw [hg]; exact Nat.ne_of_gt (blk_lt BK198.out) : gb199 ≠ gb198)); clear BK198; clear HB; have BK198 := n0_; have HB := n1_; have BK199 := n2_; have GW199 := n3_; have GE199 := n4_; have NB198_199 := n5_; have NB199_198 := n6_; clear n0_ n1_ n2_ n3_ n4_ n5_ n6_; clear hb hbox hg) | ((with_reducible refine gate_dst (N := 4) rfl ?_); refine box_event ?hg (N := 4) ?hd (cs := #[.int .i64 0, .int .i64 0, .int .i64 0, .bool false, .int .i64 0, .int .i64 0, .int .i64 0, .bool false, .int .i64 0]) (t := 37) ?hr ?_; (case hd => rfl); (case hg => rfl); (case hr => first | (go_simp; done) | (go_simp; rfl)); intro gb200 hg w56 hbox hb; have n0_ := Aside0.mk (blk_below BK198.out hb); have n1_ := Aside0.mk (blk_below BK199.out hb); have n2_ := Aside0.mk (below_step (by exact HB.out) hb); have n3_ := Aside0.mk (hbox); have n4_ := Aside0.mk ((by rw [hg]; exact (below_size (by exact HB.out)) : w.heap.size ≤ gb200)); have n5_ := Aside0.mk ((by rw [hg]; exact (below_size (by exact HB.out)) : w.heap.size ≤ gb200)); have n6_ := Aside0.mk ((by rw [hg]; exact Nat.ne_of_lt (blk_lt BK198.out) : gb198 ≠ gb200)); have n7_ := Aside0.mk ((by rw [hg]; exact Nat.ne_of_lt (blk_lt BK199.out) : gb199 ≠ gb200)); have n8_ := Aside0.mk ((by rw [hg]; exact Nat.ne_of_gt (blk_lt BK199.out) : gb200 ≠ gb199)); clear BK198; clear BK199; clear HB; have BK198 := n0_; have BK199 := n1_; have HB := n2_; have BK200 := n3_; have GW200 := n4_; have GE200 := n5_; have NB198_200 := n6_; have NB199_200 := n7_; have NB200_199 := n8_; clear n0_ n1_ n2_ n3_ n4_ n5_ n6_ n7_ n8_; clear hb hbox hg; have hcz57_0 := tch10 BK198.out; have hcz58_0 := tch9 BK199.out) | ((with_reducible refine gate_callee (f := 21) rfl ?_); refine goesL_ (some 7) rfl rfl Try.func21 (by kernel_rfl) rfl #[.agg #[.int .i64 a0_0, .int .i64 a0_1, .int .i64 a0_2, .int .i64 a0_3, .int .i64 a0_4, .int .i64 a0_5, .int .i64 a0_6, .int .i64 a0_7, .int .i64 a0_8, .int .i64 a0_9], .agg #[.int .i64 a1_0, .int .i64 a1_1, .int .i64 a1_2, .bool a1_3, .int .i64 a1_4, .int .i64 a1_5, .int .i64 a1_6, .bool a1_7, .int .i64 a1_8]] rfl (by (try simp only [List.map_toArray, List.map_cons, List.map_nil]); first | done | rfl | (simp only [List.length_drop, List.length_take]; rfl)) ?_; (with_reducible refine (mount_Check.calls k a0_0 a0_1 a0_2 a0_3 a0_4 a0_5 a0_6 a0_7 a0_8 a0_9 a1_0 a1_1 a1_2 a1_3 a1_4 a1_5 a1_6 a1_7 a1_8 t201 _ A3.out).mono ?_); rintro e w59 ⟨rfl, hb⟩; refine ⟨_, rfl, ?_⟩; have n0_ := Aside0.mk (blk_below BK198.out hb); have n1_ := Aside0.mk (blk_below BK199.out hb); have n2_ := Aside0.mk (blk_below BK200.out hb); have n3_ := Aside0.mk (below_step (by exact HB.out) hb); clear BK198; clear BK199; clear BK200; clear HB; have BK198 := n0_; have BK199 := n1_; have BK200 := n2_; have HB := n3_; clear n0_ n1_ n2_ n3_; (try clear hb); (try clear hb2); (try clear hk); (try clear hi); have hcz60_0 := tch9 BK199.out) | ((with_reducible refine gate_store (t := 37) (p := 4) rfl ?_); refine store_row (t := 37) (p := 4) (v := ?vo_w61) ?hgd ?ho ?hN gb200 0 #[.int .i64 0, .int .i64 0, .int .i64 0, .bool false, .int .i64 0, .int .i64 0, .int .i64 0, .bool false, .int .i64 0] [.int .i64 a1_0, .int .i64 a1_1, .int .i64 a1_2, .bool a1_3, .int .i64 a1_4, .int .i64 a1_5, .int .i64 a1_6, .bool a1_7, .int .i64 a1_8] #[.int .i64 a1_0, .int .i64 a1_1, .int .i64 a1_2, .bool a1_3, .int .i64 a1_4, .int .i64 a1_5, .int .i64 a1_6, .bool a1_7, .int .i64 a1_8] ?hx ?hy (by exact BK200.out) szi37 (Nat.le_of_ble_eq_true rfl) ?h1 ?hnew ?_; (case ho => rfl); (case hgd => rfl); (case hN => rfl); (case hx => rfl); (case hy => first | rfl | (go_simp; done) | (go_simp; rfl)); (case h1 => rfl); (case hnew => rfl); intro w61 hbox hg; have n0_ := Aside0.mk (blk_grown BK198.out hg (fun e_ => NB198_200.out (Option.some.inj e_))); have n1_ := Aside0.mk (blk_grown BK199.out hg (fun e_ => NB199_200.out (Option.some.inj e_))); have n2_ := Aside0.mk (pw_below_grown (by exact HB.out) (some gb200) (below_size (by exact HB.out)) hg (fun k_ e_ => by cases e_; exact GE200.out)); have n3_ := Aside0.mk (hbox); clear BK198; clear BK199; clear HB; clear BK200; have BK198 := n0_; have BK199 := n1_; have HB := n2_; have BK200 := n3_; clear n0_ n1_ n2_ n3_; clear hbox hg))
    refine bodyPost_ret (results_cell_row rfl _ _ gb200 37 #[.int .i64 a1_0, .int .i64 a1_1, .int .i64 a1_2, .bool a1_3, .int .i64 a1_4, .int .i64 a1_5, .int .i64 a1_6, .bool a1_7, .int .i64 a1_8] (0, 0) _ rfl (by exact BK200.out) Try.underlying37 rfl (by kernel_rfl)) rfl ?_
    exact ⟨by first | rfl | (simp [errW_none, errW_some] <;> rfl) | (simp [*, errW_none, errW_some] <;> rfl), by exact HB.out⟩

end Go.Proofs.Ytfcengfjolljgaa.PMountValid
