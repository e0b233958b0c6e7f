-- Written by a program of this session out of the translation (wip/tools).
import Derived.Test.YtfcengfjolljgaaPMountArrivesx0
import Derived.Test.YtfcengfjolljgaaPMountArrivesx3
import Derived.Test.YtfcengfjolljgaaPMountArrivesx5
import Derived.Test.YtfcengfjolljgaaPMountArrivesx7
namespace Go.Proofs.Ytfcengfjolljgaa.PMountArrives
open Go.RowKit Go.Proofs.YtfcengfjolljgaaW.PrintWords Go.Proofs.YtfcengfjolljgaaW.PrintLast Go.Proofs.YtfcengfjolljgaaW.PrintMore
attribute [local go_sem] max2_int min2_int max_two min_two max_three min_three max_four min_four   -- for this text's walks alone
set_option linter.unusedVariables false
set_option linter.unusedSimpArgs false

theorem szi32 : (Try.prog.info? 32).map (·.size) = some 10 := by kernel_rfl
theorem szi28 : (Try.prog.info? 28).map (·.size) = some 4 := by kernel_rfl
/-! ### spykeep2_drives: function 10 -/
def spykeep2_drives.f (k : Nat)  : Option (Bool) := (mount_Rest.f 0 1000000000 16777216 16777216 0 1000000000 16777216 16777216 0 0).bind fun bt214 => ((mount_Goto.f k 0 1000000000 16777216 16777216 0 1000000000 16777216 16777216 0 0 bt214.1 bt214.2.1 bt214.2.2.1 bt214.2.2.2.1 bt214.2.2.2.2.1 bt214.2.2.2.2.2.1 bt214.2.2.2.2.2.2.1 bt214.2.2.2.2.2.2.2.1 bt214.2.2.2.2.2.2.2.2 0 0).bind fun bt223 => (if bt223.2.2.2.2.2.2.2.2.2 = 0 then (if bt223.2.2.2.2.2.2.2.2.1 = 2 then ((mount_Step.f k 0 1000000000 16777216 16777216 0 1000000000 16777216 16777216 0 0 bt223.1 bt223.2.1 bt223.2.2.1 bt223.2.2.2.1 bt223.2.2.2.2.1 bt223.2.2.2.2.2.1 bt223.2.2.2.2.2.2.1 bt223.2.2.2.2.2.2.2.1 bt223.2.2.2.2.2.2.2.2.1).bind fun bt234 => (some (bt234.2.2.2.2.2.2.2.2 == 3))) else (some false)) else (some false)))
theorem spykeep2_drives.mono : ∀ k, LeO (spykeep2_drives.f k ) (spykeep2_drives.f (k + 1) ) := by
  intro  k
  unfold spykeep2_drives.f
  repeat' first
      | (with_reducible exact mount_Goto.mono _ _ _ _ _ _ _ _ _ _ _ _ _ _ _ _ _ _ _ _ _ _)
      | (with_reducible exact mount_Step.mono _ _ _ _ _ _ _ _ _ _ _ _ _ _ _ _ _ _ _ _)
      | (with_reducible exact LeO.refl _)
      | (with_reducible exact LeO.none _)
      | (with_reducible refine LeO.ite ?_ ?_)
      | (with_reducible refine LeO.bind ?_ (fun _ => ?_))
      | exact mount_Goto.mono _ _ _ _ _ _ _ _ _ _ _ _ _ _ _ _ _ _ _ _ _ _
      | exact mount_Step.mono _ _ _ _ _ _ _ _ _ _ _ _ _ _ _ _ _ _ _ _
      | exact LeO.none _
      | refine LeO.ite ?_ ?_
      | refine LeO.bind ?_ (fun _ => ?_)
def spykeep2_drives.T3 : Bool × List (List Nat × List Nat) := (true, [([], []), ([], []), ([1], [1]), ([], []), ([0, 2, 3, 2], [0, 2, 3]), ([4], [4]), ([5], [5]), ([5], [5]), ([], []), ([8, 6, 4, 0, 1, 2, 3, 4, 5, 6, 8], [6, 8]), ([7, 9, 0, 1, 2, 3, 4, 5, 6, 7, 8, 9], [7])])
def spykeep2_drives.B3 : List Nat := [0, 0, 2, 0, 15, 31, 63, 63, 0, 383, 1023]
theorem spykeep2_drives.tab3 : rtab .any (opsOf Try.f10 3) = spykeep2_drives.T3 := by kernel_rfl
theorem spykeep2_drives.bits3 : waitsOk spykeep2_drives.T3.2 spykeep2_drives.B3 = true := by kernel_rfl
set_option maxHeartbeats 8000000 in
set_option maxRecDepth 100000 in
theorem spykeep2_drives.calls (k : Nat)  (r : Bool) (w : World) (h : spykeep2_drives.f k  = some r) :
    Calls Try.prog 10 #[] w fun e w' => e = .returned (.bool r) ∧ Below w.heap.size w w' := by
  have hu28 := Try.underlying28
  have hu32 := Try.underlying32
  have hu30 := Try.underlying30
  have hu37 := Try.underlying37
  have hfd37_2 : ∀ (w_ : World) (c0 c1 c2 c3 c4 c5 c6 c7 c8 : Value), (Instr.field 37 (.agg #[c0, c1, c2, c3, c4, c5, c6, c7, c8]) 2).run Try.prog w_ = .ok (c8) w_ := fun _ _ _ _ _ _ _ _ _ _ => by kernel_rfl
  have HB := Aside0.mk (Below.refl w.heap.size w)
  have H : ((mount_Rest.f 0 1000000000 16777216 16777216 0 1000000000 16777216 16777216 0 0).bind fun bt214 => ((mount_Goto.f k 0 1000000000 16777216 16777216 0 1000000000 16777216 16777216 0 0 bt214.1 bt214.2.1 bt214.2.2.1 bt214.2.2.2.1 bt214.2.2.2.2.1 bt214.2.2.2.2.2.1 bt214.2.2.2.2.2.2.1 bt214.2.2.2.2.2.2.2.1 bt214.2.2.2.2.2.2.2.2 0 0).bind fun bt223 => (if bt223.2.2.2.2.2.2.2.2.2 = 0 then (if bt223.2.2.2.2.2.2.2.2.1 = 2 then ((mount_Step.f k 0 1000000000 16777216 16777216 0 1000000000 16777216 16777216 0 0 bt223.1 bt223.2.1 bt223.2.2.1 bt223.2.2.2.1 bt223.2.2.2.2.1 bt223.2.2.2.2.2.1 bt223.2.2.2.2.2.2.1 bt223.2.2.2.2.2.2.2.1 bt223.2.2.2.2.2.2.2.2.1).bind fun bt234 => (some (bt234.2.2.2.2.2.2.2.2 == 3))) else (some false)) else (some false)))) = some r := h
  clear h
  replace H := Option.bind_eq_some_iff.mp H
  obtain ⟨⟨t214, t215, t216, t217, t218, t219, t220, t221, t222⟩, A10, H⟩ := H
  replace H : ((mount_Goto.f k 0 1000000000 16777216 16777216 0 1000000000 16777216 16777216 0 0 t214 t215 t216 t217 t218 t219 t220 t221 t222 0 0).bind fun bt223 => (if bt223.2.2.2.2.2.2.2.2.2 = 0 then (if bt223.2.2.2.2.2.2.2.2.1 = 2 then ((mount_Step.f k 0 1000000000 16777216 16777216 0 1000000000 16777216 16777216 0 0 bt223.1 bt223.2.1 bt223.2.2.1 bt223.2.2.2.1 bt223.2.2.2.2.1 bt223.2.2.2.2.2.1 bt223.2.2.2.2.2.2.1 bt223.2.2.2.2.2.2.2.1 bt223.2.2.2.2.2.2.2.2.1).bind fun bt234 => (some (bt234.2.2.2.2.2.2.2.2 == 3))) else (some false)) else (some false))) = some r := H
  have A1 := Aside0.mk A10
  clear A10
  replace H := Option.bind_eq_some_iff.mp H
  obtain ⟨⟨t223, t224, t225, t226, t227, t228, t229, t230, t231, t232⟩, A20, H⟩ := H
  replace H : (if t232 = 0 then (if t231 = 2 then ((mount_Step.f k 0 1000000000 16777216 16777216 0 1000000000 16777216 16777216 0 0 t223 t224 t225 t226 t227 t228 t229 t230 t231).bind fun bt234 => (some (bt234.2.2.2.2.2.2.2.2 == 3))) else (some false)) else (some false)) = some r := H
  have A2 := Aside0.mk A20
  clear A20
  by_cases c3 : t232 = 0
  · rw [if_pos c3] at H
    have c3b0 : (t232 == 0) = true := beq_iff_eq.mpr c3
    have c3b1 : (t232 != 0) = false := bne_eq_false_iff_eq.mpr c3
    clear c3
    by_cases c4 : t231 = 2
    · rw [if_pos c4] at H
      have c4b0 : (t231 == 2) = true := beq_iff_eq.mpr c4
      have c4b1 : (t231 != 2) = false := bne_eq_false_iff_eq.mpr c4
      clear c4
      replace H := Option.bind_eq_some_iff.mp H
      obtain ⟨⟨t234, t235, t236, t237, t238, t239, t240, t241, t242⟩, A50, H⟩ := H
      replace H : (some (t242 == 3)) = some r := H
      have A5 := Aside0.mk A50
      clear A50
      obtain rfl := Option.some.inj H
      go_enter Try.func10, Try.ntmps10
      try go_wp2_with (first | ((with_reducible refine gate_dst (N := 1) rfl ?_); refine box_event ?hg (N := 1) ?hd (cs := #[.int .i64 0, .int .i64 0, .int .i64 0, .int .i64 0]) (t := 28) ?hr ?_; (case hd => rfl); (case hg => rfl); (case hr => first | (go_simp; done) | (go_simp; rfl)); intro gb212 hg w6 hbox hb; have n0_ := Aside0.mk (below_step (by exact HB.out) hb); have n1_ := Aside0.mk (hbox); have n2_ := Aside0.mk ((by rw [hg]; exact (below_size (by exact HB.out)) : w.heap.size ≤ gb212)); have n3_ := Aside0.mk ((by rw [hg]; exact (below_size (by exact HB.out)) : w.heap.size ≤ gb212)); clear HB; have HB := n0_; have BK212 := n1_; have GW212 := n2_; have GE212 := n3_; clear n0_ n1_ n2_ n3_; clear hb hbox hg) | ((with_reducible refine gate_store (t := 28) (p := 1) rfl ?_); refine store_row (t := 28) (p := 1) (v := ?vo_w7) ?hgd ?ho ?hN gb212 0 #[.int .i64 0, .int .i64 0, .int .i64 0, .int .i64 0] [.int .i64 0, .int .i64 1000000000, .int .i64 16777216, .int .i64 16777216] #[.int .i64 0, .int .i64 1000000000, .int .i64 16777216, .int .i64 16777216] ?hx ?hy (by exact BK212.out) szi28 (Nat.le_of_ble_eq_true rfl) ?h1 ?hnew ?_; (case ho => rfl); (case hgd => rfl); (case hN => rfl); (case hx => rfl); (case hy => first | rfl | (go_simp; done) | (go_simp; rfl)); (case h1 => rfl); (case hnew => rfl); intro w7 hbox hg; have n0_ := Aside0.mk (pw_below_grown (by exact HB.out) (some gb212) (below_size (by exact HB.out)) hg (fun k_ e_ => by cases e_; exact GE212.out)); have n1_ := Aside0.mk (hbox); clear HB; clear BK212; have HB := n0_; have BK212 := n1_; clear n0_ n1_; clear hbox hg; have hcz8_0 := tch4 BK212.out) | ((with_reducible refine gate_dst (N := 2) rfl ?_); refine box_event ?hg (N := 2) ?hd (cs := #[.int .i64 0, .int .i64 0, .int .i64 0, .int .i64 0, .int .i64 0, .int .i64 0, .int .i64 0, .int .i64 0, .int .i64 0, .int .i64 0]) (t := 32) ?hr ?_; (case hd => rfl); (case hg => rfl); (case hr => first | (go_simp; done) | (go_simp; rfl)); intro gb213 hg w9 hbox hb; have n0_ := Aside0.mk (blk_below BK212.out hb); have n1_ := Aside0.mk (below_step (by exact HB.out) hb); have n2_ := Aside0.mk (hbox); have n3_ := Aside0.mk ((by rw [hg]; exact (below_size (by exact HB.out)) : w.heap.size ≤ gb213)); have n4_ := Aside0.mk ((by rw [hg]; exact (below_size (by exact HB.out)) : w.heap.size ≤ gb213)); have n5_ := Aside0.mk ((by rw [hg]; exact Nat.ne_of_lt (blk_lt BK212.out) : gb212 ≠ gb213)); clear BK212; clear HB; have BK212 := n0_; have HB := n1_; have BK213 := n2_; have GW213 := n3_; have GE213 := n4_; have NB212_213 := n5_; clear n0_ n1_ n2_ n3_ n4_ n5_; clear hb hbox hg) | ((with_reducible refine gate_store (t := 32) (p := 2) rfl ?_); refine store_row (t := 32) (p := 2) (v := ?vo_w10) ?hgd ?ho ?hN gb213 0 #[.int .i64 0, .int .i64 0, .int .i64 0, .int .i64 0, .int .i64 0, .int .i64 0, .int .i64 0, .int .i64 0, .int .i64 0, .int .i64 0] [.int .i64 0, .int .i64 1000000000, .int .i64 16777216, .int .i64 16777216, .int .i64 0, .int .i64 1000000000, .int .i64 16777216, .int .i64 16777216, .int .i64 0, .int .i64 0] #[.int .i64 0, .int .i64 1000000000, .int .i64 16777216, .int .i64 16777216, .int .i64 0, .int .i64 1000000000, .int .i64 16777216, .int .i64 16777216, .int .i64 0, .int .i64 0] ?hx ?hy (by exact BK213.out) szi32 (Nat.le_of_ble_eq_true rfl) ?h1 ?hnew ?_; (case ho => rfl); (case hgd => rfl); (case hN => rfl); (case hx => rfl); (case hy => first | rfl | (go_simp; done) | (go_simp; rfl)); (case h1 => rfl); (case hnew => rfl); intro w10 hbox hg; have n0_ := Aside0.mk (blk_grown BK212.out hg (fun e_ => NB212_213.out (Option.some.inj e_))); have n1_ := Aside0.mk (pw_below_grown (by exact HB.out) (some gb213) (below_size (by exact HB.out)) hg (fun k_ e_ => by cases e_; exact GE213.out)); have n2_ := Aside0.mk (hbox); clear BK212; clear HB; clear BK213; have BK212 := n0_; have HB := n1_; have BK213 := n2_; clear n0_ n1_ n2_; clear hbox hg))
      have n0_ := Aside0.mk (blk_drew BK212.out)
      have n1_ := Aside0.mk (blk_drew BK213.out)
      have n2_ := Aside0.mk (below_drew1 HB.out)
      clear BK212
      clear BK213
      clear HB
      have BK212 := n0_
      have BK213 := n1_
      have HB := n2_
      clear n0_ n1_ n2_
      refine start_ (n := 11) (S := fun w' => w'.cell? ⟨gb213, 0, none⟩ = some (.int .i64 0) ∧ w'.cell? ⟨gb213, 1, none⟩ = some (.int .i64 1000000000) ∧ w'.cell? ⟨gb213, 2, none⟩ = some (.int .i64 16777216) ∧ w'.cell? ⟨gb213, 3, none⟩ = some (.int .i64 16777216) ∧ w'.cell? ⟨gb213, 4, none⟩ = some (.int .i64 0) ∧ w'.cell? ⟨gb213, 5, none⟩ = some (.int .i64 1000000000) ∧ w'.cell? ⟨gb213, 6, none⟩ = some (.int .i64 16777216) ∧ w'.cell? ⟨gb213, 7, none⟩ = some (.int .i64 16777216) ∧ w'.cell? ⟨gb213, 8, none⟩ = some (.int .i64 0) ∧ w'.cell? ⟨gb213, 9, none⟩ = some (.int .i64 0)) (ds := []) #[false, false, false, false, false, false, false, false, false, false, false] (by kernel_rfl) rfl rfl ⟨(blk_cell BK213.out 0).trans rfl, (blk_cell BK213.out 1).trans rfl, (blk_cell BK213.out 2).trans rfl, (blk_cell BK213.out 3).trans rfl, (blk_cell BK213.out 4).trans rfl, (blk_cell BK213.out 5).trans rfl, (blk_cell BK213.out 6).trans rfl, (blk_cell BK213.out 7).trans rfl, (blk_cell BK213.out 8).trans rfl, (blk_cell BK213.out 9).trans rfl⟩ (fun hHeld => ?_); refine with_tabW spykeep2_drives.tab3 spykeep2_drives.bits3 (fun HT_ HW_ => ?_)
      generalize w10.drew = w11 at BK212 BK213 HB hHeld ⊢
      refine pure_ (i := 3) (N := some 13) (v := ?_) (a' := ?_) #[false, false, false, true, false, false, false, false, false, false, false] rfl rfl (any_of HT_.out (by kernel_rfl)) (fun _ _ _ h => h) (Or.inl ⟨by rfl, ?_⟩) ?_ ?_
      rotate_left
      · intro w'
        go_simp
        with_reducible rfl
      rotate_left
      · simp only [Act.put, List.setIfInBounds_toArray, List.set_cons_zero, List.set_cons_succ, i64_w, i32_w]
        rfl
      refine take_ (i := 0) (N := some 10) (v := ?_) (a' := ?_) #[true, false, false, true, false, false, false, false, false, false, false] rfl rfl (take_ofW HT_.out HW_.out (by kernel_rfl)) (fun _ _ _ h => h) (Or.inl ⟨by rfl, ?_⟩) hHeld ?_ ?_
      rotate_left
      · rintro w' ⟨s0, s1, s2, s3, s4, s5, s6, s7, s8, s9⟩
        go_simp
        with_reducible rfl
      rotate_left
      · simp only [Act.put, List.setIfInBounds_toArray, List.set_cons_zero, List.set_cons_succ, i64_w, i32_w]
        rfl
      refine take_ (i := 1) (N := some 11) (v := ?_) (a' := ?_) #[true, true, false, true, false, false, false, false, false, false, false] rfl rfl (take_ofW HT_.out HW_.out (by kernel_rfl)) (fun _ _ _ h => h) (Or.inl ⟨by rfl, ?_⟩) hHeld ?_ ?_
      rotate_left
      · rintro w' ⟨s0, s1, s2, s3, s4, s5, s6, s7, s8, s9⟩
        go_simp
        with_reducible rfl
      rotate_left
      · simp only [Act.put, List.setIfInBounds_toArray, List.set_cons_zero, List.set_cons_succ, i64_w, i32_w]
        rfl
      refine join_ (σ := Nat) 2 #[true, true, true, true, true, true, true, true, true, false, false] (fun s_ => [(12, .agg #[.int .i64 t214, .int .i64 t215, .int .i64 t216, .bool t217, .int .i64 t218, .int .i64 t219, .int .i64 t220, .bool t221, .int .i64 t222]), (14, .tuple #[.agg #[.int .i64 t223, .int .i64 t224, .int .i64 t225, .bool t226, .int .i64 t227, .int .i64 t228, .int .i64 t229, .bool t230, .int .i64 t231], .int .i64 t232]), (3, .pointer (some ⟨s_, 0, none⟩)), (9, .tuple #[.agg #[.int .i64 t223, .int .i64 t224, .int .i64 t225, .bool t226, .int .i64 t227, .int .i64 t228, .int .i64 t229, .bool t230, .int .i64 t231], .int .i64 t232]), (15, .agg #[.int .i64 t223, .int .i64 t224, .int .i64 t225, .bool t226, .int .i64 t227, .int .i64 t228, .int .i64 t229, .bool t230, .int .i64 t231]), (16, .int .i64 t232)]) (fun s_ w' => (w'.cell? ⟨gb213, 0, none⟩ = some (.int .i64 0) ∧ w'.cell? ⟨gb213, 1, none⟩ = some (.int .i64 1000000000) ∧ w'.cell? ⟨gb213, 2, none⟩ = some (.int .i64 16777216) ∧ w'.cell? ⟨gb213, 3, none⟩ = some (.int .i64 16777216) ∧ w'.cell? ⟨gb213, 4, none⟩ = some (.int .i64 0) ∧ w'.cell? ⟨gb213, 5, none⟩ = some (.int .i64 1000000000) ∧ w'.cell? ⟨gb213, 6, none⟩ = some (.int .i64 16777216) ∧ w'.cell? ⟨gb213, 7, none⟩ = some (.int .i64 16777216) ∧ w'.cell? ⟨gb213, 8, none⟩ = some (.int .i64 0) ∧ w'.cell? ⟨gb213, 9, none⟩ = some (.int .i64 0)) ∧ (w'.heap[gb212]? = some (.cells #[.int .i64 0, .int .i64 1000000000, .int .i64 16777216, .int .i64 16777216] 28 (0, 0))) ∧ (w'.heap[gb213]? = some (.cells #[.int .i64 0, .int .i64 1000000000, .int .i64 16777216, .int .i64 16777216, .int .i64 0, .int .i64 1000000000, .int .i64 16777216, .int .i64 16777216, .int .i64 0, .int .i64 0] 32 (0, 0))) ∧ (w'.heap[s_]? = some (.cells #[.int .i64 0, .int .i64 0, .int .i64 0, .bool false, .int .i64 0, .int .i64 0, .int .i64 0, .bool false, .int .i64 0] 37 (0, 0))) ∧ (w.heap.size ≤ s_) ∧ (w.heap.size ≤ s_) ∧ (gb212 ≠ s_) ∧ (s_ ≠ gb212) ∧ (gb213 ≠ s_) ∧ (s_ ≠ gb213) ∧ (Below w.heap.size w w')) ?_ ?_
      rotate_left
      · intro hCont
        refine two_ (i := 2) (j := 8) (Ni := some 12) (Nj := some 3) #[true, true, true, true, false, false, false, false, false, false, false] #[true, true, false, true, false, false, false, false, true, false, false] rfl rfl rfl rfl (two_of HT_.out (by kernel_rfl)) (by decide) (by decide) (fun K hK => ?_) (fun K hK => ?_)
        · skip
          refine goes_ Try.func12 (by kernel_rfl) rfl #[.agg #[.int .i64 0, .int .i64 1000000000, .int .i64 16777216, .int .i64 16777216, .int .i64 0, .int .i64 1000000000, .int .i64 16777216, .int .i64 16777216, .int .i64 0, .int .i64 0]] (by rfl) rfl rfl (by (try simp only [List.map_toArray, List.map_cons, List.map_nil]); first | done | rfl | (simp only [List.length_drop, List.length_take]; rfl)) ?_
          with_reducible refine (mount_Rest.calls 0 1000000000 16777216 16777216 0 1000000000 16777216 16777216 0 0 t214 t215 t216 t217 t218 t219 t220 t221 t222 _ A1.out).mono ?_
          rintro e w12 ⟨rfl, hb⟩
          refine ⟨_, rfl, ?_⟩
          have n0_ := Aside0.mk (blk_below BK212.out hb)
          have n1_ := Aside0.mk (blk_below BK213.out hb)
          have n2_ := Aside0.mk (below_step (by exact HB.out) hb)
          clear BK212
          clear BK213
          clear HB
          have BK212 := n0_
          have BK213 := n1_
          have HB := n2_
          clear n0_ n1_ n2_
          (try clear hb)
          (try clear hb2)
          (try clear hk)
          (try clear hi)
          refine hK.out _ _ ⟨(blk_cell BK213.out 0).trans rfl, (blk_cell BK213.out 1).trans rfl, (blk_cell BK213.out 2).trans rfl, (blk_cell BK213.out 3).trans rfl, (blk_cell BK213.out 4).trans rfl, (blk_cell BK213.out 5).trans rfl, (blk_cell BK213.out 6).trans rfl, (blk_cell BK213.out 7).trans rfl, (blk_cell BK213.out 8).trans rfl, (blk_cell BK213.out 9).trans rfl⟩ (fun hHeld => ?_)
          clear hK K
          refine norm_ (a' := ?_) ?_ ?_
          rotate_left
          · show Act.put _ (some 12) _ = _
            simp only [Act.put, List.setIfInBounds_toArray, List.set_cons_zero, List.set_cons_succ, i64_w, i32_w]
            rfl
          refine two_ (i := 4) (j := 8) (Ni := some 14) (Nj := some 3) #[true, true, true, true, true, false, false, false, false, false, false] #[true, true, true, true, false, false, false, false, true, false, false] rfl rfl rfl rfl (two_of HT_.out (by kernel_rfl)) (by decide) (by decide) (fun K hK => ?_) (fun K hK => ?_)
          · skip
            refine goes_ Try.func15 (by kernel_rfl) rfl #[.agg #[.int .i64 0, .int .i64 1000000000, .int .i64 16777216, .int .i64 16777216, .int .i64 0, .int .i64 1000000000, .int .i64 16777216, .int .i64 16777216, .int .i64 0, .int .i64 0], .agg #[.int .i64 t214, .int .i64 t215, .int .i64 t216, .bool t217, .int .i64 t218, .int .i64 t219, .int .i64 t220, .bool t221, .int .i64 t222], .agg #[.int .i64 0, .int .i64 0]] (by rfl) rfl rfl (by (try simp only [List.map_toArray, List.map_cons, List.map_nil]); first | done | rfl | (simp only [List.length_drop, List.length_take]; rfl)) ?_
            with_reducible refine (mount_Goto.calls k 0 1000000000 16777216 16777216 0 1000000000 16777216 16777216 0 0 t214 t215 t216 t217 t218 t219 t220 t221 t222 0 0 t223 t224 t225 t226 t227 t228 t229 t230 t231 t232 _ A2.out).mono ?_
            rintro e w13 ⟨rfl, hb⟩
            refine ⟨_, rfl, ?_⟩
            have n0_ := Aside0.mk (blk_below BK212.out hb)
            have n1_ := Aside0.mk (blk_below BK213.out hb)
            have n2_ := Aside0.mk (below_step (by exact HB.out) hb)
            clear BK212
            clear BK213
            clear HB
            have BK212 := n0_
            have BK213 := n1_
            have HB := n2_
            clear n0_ n1_ n2_
            (try clear hb)
            (try clear hb2)
            (try clear hk)
            (try clear hi)
            refine hK.out _ _ ⟨(blk_cell BK213.out 0).trans rfl, (blk_cell BK213.out 1).trans rfl, (blk_cell BK213.out 2).trans rfl, (blk_cell BK213.out 3).trans rfl, (blk_cell BK213.out 4).trans rfl, (blk_cell BK213.out 5).trans rfl, (blk_cell BK213.out 6).trans rfl, (blk_cell BK213.out 7).trans rfl, (blk_cell BK213.out 8).trans rfl, (blk_cell BK213.out 9).trans rfl⟩ (fun hHeld => ?_)
            clear hK K
            refine norm_ (a' := ?_) ?_ ?_
            rotate_left
            · show Act.put _ (some 14) _ = _
              simp only [Act.put, List.setIfInBounds_toArray, List.set_cons_zero, List.set_cons_succ, i64_w, i32_w]
              rfl
            refine pure_ (i := 5) (N := some 9) (v := ?_) (a' := ?_) #[true, true, true, true, true, true, false, false, false, false, false] rfl rfl (any_of HT_.out (by kernel_rfl)) (fun _ _ _ h => h) (Or.inl ⟨by rfl, ?_⟩) ?_ ?_
            rotate_left
            · intro w'
              go_simp
              with_reducible rfl
            rotate_left
            · simp only [Act.put, List.setIfInBounds_toArray, List.set_cons_zero, List.set_cons_succ, i64_w, i32_w]
              rfl
            refine pure_ (i := 6) (N := some 15) (v := ?_) (a' := ?_) #[true, true, true, true, true, true, true, false, false, false, false] rfl rfl (any_of HT_.out (by kernel_rfl)) (fun _ _ _ h => h) (Or.inl ⟨by rfl, ?_⟩) ?_ ?_
            rotate_left
            · intro w'
              go_simp
              with_reducible rfl
            rotate_left
            · simp only [Act.put, List.setIfInBounds_toArray, List.set_cons_zero, List.set_cons_succ, i64_w, i32_w]
              rfl
            refine pure_ (i := 7) (N := some 16) (v := ?_) (a' := ?_) #[true, true, true, true, true, true, true, true, false, false, false] rfl rfl (any_of HT_.out (by kernel_rfl)) (fun _ _ _ h => h) (Or.inl ⟨by rfl, ?_⟩) ?_ ?_
            rotate_left
            · intro w'
              go_simp
              with_reducible rfl
            rotate_left
            · simp only [Act.put, List.setIfInBounds_toArray, List.set_cons_zero, List.set_cons_succ, i64_w, i32_w]
              rfl
            refine one_ (i := 8) (N := some 3) #[true, true, true, true, true, true, true, true, true, false, false] rfl rfl (one_of HT_.out (by kernel_rfl)) (by decide) (fun K hK => ?_)
            refine box_step ?hg (N := 3) ?hd (cs := #[.int .i64 0, .int .i64 0, .int .i64 0, .bool false, .int .i64 0, .int .i64 0, .int .i64 0, .bool false, .int .i64 0]) (t := 37) ?hr ?_; (case hd => rfl); (case hg => rfl); (case hr => first | (go_simp; done) | (go_simp; rfl))
            intro gb233 hg w14 hbox hb
            have n0_ := Aside0.mk (blk_below BK212.out hb)
            have n1_ := Aside0.mk (blk_below BK213.out hb)
            have n2_ := Aside0.mk (below_step (by exact HB.out) hb)
            have n3_ := Aside0.mk (hbox)
            have n4_ := Aside0.mk ((by rw [hg]; exact (below_size (by exact HB.out)) : w.heap.size ≤ gb233))
            have n5_ := Aside0.mk ((by rw [hg]; exact (below_size (by exact HB.out)) : w.heap.size ≤ gb233))
            have n6_ := Aside0.mk ((by rw [hg]; exact Nat.ne_of_lt (blk_lt BK212.out) : gb212 ≠ gb233))
            have n7_ := Aside0.mk ((by rw [hg]; exact Nat.ne_of_gt (blk_lt BK212.out) : gb233 ≠ gb212))
            have n8_ := Aside0.mk ((by rw [hg]; exact Nat.ne_of_lt (blk_lt BK213.out) : gb213 ≠ gb233))
            have n9_ := Aside0.mk ((by rw [hg]; exact Nat.ne_of_gt (blk_lt BK213.out) : gb233 ≠ gb213))
            clear BK212
            clear BK213
            clear HB
            have BK212 := n0_
            have BK213 := n1_
            have HB := n2_
            have BK233 := n3_
            have GW233 := n4_
            have GE233 := n5_
            have NB212_233 := n6_
            have NB233_212 := n7_
            have NB213_233 := n8_
            have NB233_213 := n9_
            clear n0_ n1_ n2_ n3_ n4_ n5_ n6_ n7_ n8_ n9_
            clear hb hbox hg
            refine hK.out _ _ ⟨(blk_cell BK213.out 0).trans rfl, (blk_cell BK213.out 1).trans rfl, (blk_cell BK213.out 2).trans rfl, (blk_cell BK213.out 3).trans rfl, (blk_cell BK213.out 4).trans rfl, (blk_cell BK213.out 5).trans rfl, (blk_cell BK213.out 6).trans rfl, (blk_cell BK213.out 7).trans rfl, (blk_cell BK213.out 8).trans rfl, (blk_cell BK213.out 9).trans rfl⟩ (fun hHeld => ?_)
            clear hK K
            refine norm_ (a' := ?_) ?_ ?_
            rotate_left
            · show Act.put _ (some 3) _ = _
              simp only [Act.put, List.setIfInBounds_toArray, List.set_cons_zero, List.set_cons_succ, i64_w, i32_w]
              rfl
            exact norm_ (by simp only [putAll, Act.put, List.setIfInBounds_toArray, List.set_cons_zero, List.set_cons_succ]) (hCont (gb233) _ ⟨hHeld, (by exact BK212.out), (by exact BK213.out), (by exact BK233.out), GW233.out, GE233.out, NB212_233.out, NB233_212.out, NB213_233.out, NB233_213.out, (by exact HB.out)⟩)
          · skip
            refine box_step ?hg (N := 3) ?hd (cs := #[.int .i64 0, .int .i64 0, .int .i64 0, .bool false, .int .i64 0, .int .i64 0, .int .i64 0, .bool false, .int .i64 0]) (t := 37) ?hr ?_; (case hd => rfl); (case hg => rfl); (case hr => first | (go_simp; done) | (go_simp; rfl))
            intro gb233 hg w13 hbox hb
            have n0_ := Aside0.mk (blk_below BK212.out hb)
            have n1_ := Aside0.mk (blk_below BK213.out hb)
            have n2_ := Aside0.mk (below_step (by exact HB.out) hb)
            have n3_ := Aside0.mk (hbox)
            have n4_ := Aside0.mk ((by rw [hg]; exact (below_size (by exact HB.out)) : w.heap.size ≤ gb233))
            have n5_ := Aside0.mk ((by rw [hg]; exact (below_size (by exact HB.out)) : w.heap.size ≤ gb233))
            have n6_ := Aside0.mk ((by rw [hg]; exact Nat.ne_of_lt (blk_lt BK212.out) : gb212 ≠ gb233))
            have n7_ := Aside0.mk ((by rw [hg]; exact Nat.ne_of_gt (blk_lt BK212.out) : gb233 ≠ gb212))
            have n8_ := Aside0.mk ((by rw [hg]; exact Nat.ne_of_lt (blk_lt BK213.out) : gb213 ≠ gb233))
            have n9_ := Aside0.mk ((by rw [hg]; exact Nat.ne_of_gt (blk_lt BK213.out) : gb233 ≠ gb213))
            clear BK212
            clear BK213
            clear HB
            have BK212 := n0_
            have BK213 := n1_
            have HB := n2_
            have BK233 := n3_
            have GW233 := n4_
            have GE233 := n5_
            have NB212_233 := n6_
            have NB233_212 := n7_
            have NB213_233 := n8_
            have NB233_213 := n9_
            clear n0_ n1_ n2_ n3_ n4_ n5_ n6_ n7_ n8_ n9_
            clear hb hbox hg
            refine hK.out _ _ ⟨(blk_cell BK213.out 0).trans rfl, (blk_cell BK213.out 1).trans rfl, (blk_cell BK213.out 2).trans rfl, (blk_cell BK213.out 3).trans rfl, (blk_cell BK213.out 4).trans rfl, (blk_cell BK213.out 5).trans rfl, (blk_cell BK213.out 6).trans rfl, (blk_cell BK213.out 7).trans rfl, (blk_cell BK213.out 8).trans rfl, (blk_cell BK213.out 9).trans rfl⟩ (fun hHeld => ?_)
            clear hK K
            refine norm_ (a' := ?_) ?_ ?_
            rotate_left
            · show Act.put _ (some 3) _ = _
              simp only [Act.put, List.setIfInBounds_toArray, List.set_cons_zero, List.set_cons_succ, i64_w, i32_w]
              rfl
            refine one_ (i := 4) (N := some 14) #[true, true, true, true, true, false, false, false, true, false, false] rfl rfl (one_of HT_.out (by kernel_rfl)) (by decide) (fun K hK => ?_)
            refine goes_ Try.func15 (by kernel_rfl) rfl #[.agg #[.int .i64 0, .int .i64 1000000000, .int .i64 16777216, .int .i64 16777216, .int .i64 0, .int .i64 1000000000, .int .i64 16777216, .int .i64 16777216, .int .i64 0, .int .i64 0], .agg #[.int .i64 t214, .int .i64 t215, .int .i64 t216, .bool t217, .int .i64 t218, .int .i64 t219, .int .i64 t220, .bool t221, .int .i64 t222], .agg #[.int .i64 0, .int .i64 0]] (by rfl) rfl rfl (by (try simp only [List.map_toArray, List.map_cons, List.map_nil]); first | done | rfl | (simp only [List.length_drop, List.length_take]; rfl)) ?_
            with_reducible refine (mount_Goto.calls k 0 1000000000 16777216 16777216 0 1000000000 16777216 16777216 0 0 t214 t215 t216 t217 t218 t219 t220 t221 t222 0 0 t223 t224 t225 t226 t227 t228 t229 t230 t231 t232 _ A2.out).mono ?_
            rintro e w14 ⟨rfl, hb⟩
            refine ⟨_, rfl, ?_⟩
            have n0_ := Aside0.mk (blk_below BK212.out hb)
            have n1_ := Aside0.mk (blk_below BK213.out hb)
            have n2_ := Aside0.mk (blk_below BK233.out hb)
            have n3_ := Aside0.mk (below_step (by exact HB.out) hb)
            clear BK212
            clear BK213
            clear BK233
            clear HB
            have BK212 := n0_
            have BK213 := n1_
            have BK233 := n2_
            have HB := n3_
            clear n0_ n1_ n2_ n3_
            (try clear hb)
            (try clear hb2)
            (try clear hk)
            (try clear hi)
            refine hK.out _ _ ⟨(blk_cell BK213.out 0).trans rfl, (blk_cell BK213.out 1).trans rfl, (blk_cell BK213.out 2).trans rfl, (blk_cell BK213.out 3).trans rfl, (blk_cell BK213.out 4).trans rfl, (blk_cell BK213.out 5).trans rfl, (blk_cell BK213.out 6).trans rfl, (blk_cell BK213.out 7).trans rfl, (blk_cell BK213.out 8).trans rfl, (blk_cell BK213.out 9).trans rfl⟩ (fun hHeld => ?_)
            clear hK K
            refine norm_ (a' := ?_) ?_ ?_
            rotate_left
            · show Act.put _ (some 14) _ = _
              simp only [Act.put, List.setIfInBounds_toArray, List.set_cons_zero, List.set_cons_succ, i64_w, i32_w]
              rfl
            refine pure_ (i := 5) (N := some 9) (v := ?_) (a' := ?_) #[true, true, true, true, true, true, false, false, true, false, false] rfl rfl (any_of HT_.out (by kernel_rfl)) (fun _ _ _ h => h) (Or.inl ⟨by rfl, ?_⟩) ?_ ?_
            rotate_left
            · intro w'
              go_simp
              with_reducible rfl
            rotate_left
            · simp only [Act.put, List.setIfInBounds_toArray, List.set_cons_zero, List.set_cons_succ, i64_w, i32_w]
              rfl
            refine pure_ (i := 6) (N := some 15) (v := ?_) (a' := ?_) #[true, true, true, true, true, true, true, false, true, false, false] rfl rfl (any_of HT_.out (by kernel_rfl)) (fun _ _ _ h => h) (Or.inl ⟨by rfl, ?_⟩) ?_ ?_
            rotate_left
            · intro w'
              go_simp
              with_reducible rfl
            rotate_left
            · simp only [Act.put, List.setIfInBounds_toArray, List.set_cons_zero, List.set_cons_succ, i64_w, i32_w]
              rfl
            refine pure_ (i := 7) (N := some 16) (v := ?_) (a' := ?_) #[true, true, true, true, true, true, true, true, true, false, false] rfl rfl (any_of HT_.out (by kernel_rfl)) (fun _ _ _ h => h) (Or.inl ⟨by rfl, ?_⟩) ?_ ?_
            rotate_left
            · intro w'
              go_simp
              with_reducible rfl
            rotate_left
            · simp only [Act.put, List.setIfInBounds_toArray, List.set_cons_zero, List.set_cons_succ, i64_w, i32_w]
              rfl
            exact norm_ (by simp only [putAll, Act.put, List.setIfInBounds_toArray, List.set_cons_zero, List.set_cons_succ]) (hCont (gb233) _ ⟨hHeld, (by exact BK212.out), (by exact BK213.out), (by exact BK233.out), GW233.out, GE233.out, NB212_233.out, NB233_212.out, NB213_233.out, NB233_213.out, (by exact HB.out)⟩)
        · skip
          refine box_step ?hg (N := 3) ?hd (cs := #[.int .i64 0, .int .i64 0, .int .i64 0, .bool false, .int .i64 0, .int .i64 0, .int .i64 0, .bool false, .int .i64 0]) (t := 37) ?hr ?_; (case hd => rfl); (case hg => rfl); (case hr => first | (go_simp; done) | (go_simp; rfl))
          intro gb233 hg w12 hbox hb
          have n0_ := Aside0.mk (blk_below BK212.out hb)
          have n1_ := Aside0.mk (blk_below BK213.out hb)
          have n2_ := Aside0.mk (below_step (by exact HB.out) hb)
          have n3_ := Aside0.mk (hbox)
          have n4_ := Aside0.mk ((by rw [hg]; exact (below_size (by exact HB.out)) : w.heap.size ≤ gb233))
          have n5_ := Aside0.mk ((by rw [hg]; exact (below_size (by exact HB.out)) : w.heap.size ≤ gb233))
          have n6_ := Aside0.mk ((by rw [hg]; exact Nat.ne_of_lt (blk_lt BK212.out) : gb212 ≠ gb233))
          have n7_ := Aside0.mk ((by rw [hg]; exact Nat.ne_of_gt (blk_lt BK212.out) : gb233 ≠ gb212))
          have n8_ := Aside0.mk ((by rw [hg]; exact Nat.ne_of_lt (blk_lt BK213.out) : gb213 ≠ gb233))
          have n9_ := Aside0.mk ((by rw [hg]; exact Nat.ne_of_gt (blk_lt BK213.out) : gb233 ≠ gb213))
          clear BK212
          clear BK213
          clear HB
          have BK212 := n0_
          have BK213 := n1_
          have HB := n2_
          have BK233 := n3_
          have GW233 := n4_
          have GE233 := n5_
          have NB212_233 := n6_
          have NB233_212 := n7_
          have NB213_233 := n8_
          have NB233_213 := n9_
          clear n0_ n1_ n2_ n3_ n4_ n5_ n6_ n7_ n8_ n9_
          clear hb hbox hg
          refine hK.out _ _ ⟨(blk_cell BK213.out 0).trans rfl, (blk_cell BK213.out 1).trans rfl, (blk_cell BK213.out 2).trans rfl, (blk_cell BK213.out 3).trans rfl, (blk_cell BK213.out 4).trans rfl, (blk_cell BK213.out 5).trans rfl, (blk_cell BK213.out 6).trans rfl, (blk_cell BK213.out 7).trans rfl, (blk_cell BK213.out 8).trans rfl, (blk_cell BK213.out 9).trans rfl⟩ (fun hHeld => ?_)
          clear hK K
          refine norm_ (a' := ?_) ?_ ?_
          rotate_left
          · show Act.put _ (some 3) _ = _
            simp only [Act.put, List.setIfInBounds_toArray, List.set_cons_zero, List.set_cons_succ, i64_w, i32_w]
            rfl
          refine one_ (i := 2) (N := some 12) #[true, true, true, true, false, false, false, false, true, false, false] rfl rfl (one_of HT_.out (by kernel_rfl)) (by decide) (fun K hK => ?_)
          refine goes_ Try.func12 (by kernel_rfl) rfl #[.agg #[.int .i64 0, .int .i64 1000000000, .int .i64 16777216, .int .i64 16777216, .int .i64 0, .int .i64 1000000000, .int .i64 16777216, .int .i64 16777216, .int .i64 0, .int .i64 0]] (by rfl) rfl rfl (by (try simp only [List.map_toArray, List.map_cons, List.map_nil]); first | done | rfl | (simp only [List.length_drop, List.length_take]; rfl)) ?_
          with_reducible refine (mount_Rest.calls 0 1000000000 16777216 16777216 0 1000000000 16777216 16777216 0 0 t214 t215 t216 t217 t218 t219 t220 t221 t222 _ A1.out).mono ?_
          rintro e w13 ⟨rfl, hb⟩
          refine ⟨_, rfl, ?_⟩
          have n0_ := Aside0.mk (blk_below BK212.out hb)
          have n1_ := Aside0.mk (blk_below BK213.out hb)
          have n2_ := Aside0.mk (blk_below BK233.out hb)
          have n3_ := Aside0.mk (below_step (by exact HB.out) hb)
          clear BK212
          clear BK213
          clear BK233
          clear HB
          have BK212 := n0_
          have BK213 := n1_
          have BK233 := n2_
          have HB := n3_
          clear n0_ n1_ n2_ n3_
          (try clear hb)
          (try clear hb2)
          (try clear hk)
          (try clear hi)
          refine hK.out _ _ ⟨(blk_cell BK213.out 0).trans rfl, (blk_cell BK213.out 1).trans rfl, (blk_cell BK213.out 2).trans rfl, (blk_cell BK213.out 3).trans rfl, (blk_cell BK213.out 4).trans rfl, (blk_cell BK213.out 5).trans rfl, (blk_cell BK213.out 6).trans rfl, (blk_cell BK213.out 7).trans rfl, (blk_cell BK213.out 8).trans rfl, (blk_cell BK213.out 9).trans rfl⟩ (fun hHeld => ?_)
          clear hK K
          refine norm_ (a' := ?_) ?_ ?_
          rotate_left
          · show Act.put _ (some 12) _ = _
            simp only [Act.put, List.setIfInBounds_toArray, List.set_cons_zero, List.set_cons_succ, i64_w, i32_w]
            rfl
          refine one_ (i := 4) (N := some 14) #[true, true, true, true, true, false, false, false, true, false, false] rfl rfl (one_of HT_.out (by kernel_rfl)) (by decide) (fun K hK => ?_)
          refine goes_ Try.func15 (by kernel_rfl) rfl #[.agg #[.int .i64 0, .int .i64 1000000000, .int .i64 16777216, .int .i64 16777216, .int .i64 0, .int .i64 1000000000, .int .i64 16777216, .int .i64 16777216, .int .i64 0, .int .i64 0], .agg #[.int .i64 t214, .int .i64 t215, .int .i64 t216, .bool t217, .int .i64 t218, .int .i64 t219, .int .i64 t220, .bool t221, .int .i64 t222], .agg #[.int .i64 0, .int .i64 0]] (by rfl) rfl rfl (by (try simp only [List.map_toArray, List.map_cons, List.map_nil]); first | done | rfl | (simp only [List.length_drop, List.length_take]; rfl)) ?_
          with_reducible refine (mount_Goto.calls k 0 1000000000 16777216 16777216 0 1000000000 16777216 16777216 0 0 t214 t215 t216 t217 t218 t219 t220 t221 t222 0 0 t223 t224 t225 t226 t227 t228 t229 t230 t231 t232 _ A2.out).mono ?_
          rintro e w14 ⟨rfl, hb⟩
          refine ⟨_, rfl, ?_⟩
          have n0_ := Aside0.mk (blk_below BK212.out hb)
          have n1_ := Aside0.mk (blk_below BK213.out hb)
          have n2_ := Aside0.mk (blk_below BK233.out hb)
          have n3_ := Aside0.mk (below_step (by exact HB.out) hb)
          clear BK212
          clear BK213
          clear BK233
          clear HB
          have BK212 := n0_
          have BK213 := n1_
          have BK233 := n2_
          have HB := n3_
          clear n0_ n1_ n2_ n3_
          (try clear hb)
          (try clear hb2)
          (try clear hk)
          (try clear hi)
          refine hK.out _ _ ⟨(blk_cell BK213.out 0).trans rfl, (blk_cell BK213.out 1).trans rfl, (blk_cell BK213.out 2).trans rfl, (blk_cell BK213.out 3).trans rfl, (blk_cell BK213.out 4).trans rfl, (blk_cell BK213.out 5).trans rfl, (blk_cell BK213.out 6).trans rfl, (blk_cell BK213.out 7).trans rfl, (blk_cell BK213.out 8).trans rfl, (blk_cell BK213.out 9).trans rfl⟩ (fun hHeld => ?_)
          clear hK K
          refine norm_ (a' := ?_) ?_ ?_
          rotate_left
          · show Act.put _ (some 14) _ = _
            simp only [Act.put, List.setIfInBounds_toArray, List.set_cons_zero, List.set_cons_succ, i64_w, i32_w]
            rfl
          refine pure_ (i := 5) (N := some 9) (v := ?_) (a' := ?_) #[true, true, true, true, true, true, false, false, true, false, false] rfl rfl (any_of HT_.out (by kernel_rfl)) (fun _ _ _ h => h) (Or.inl ⟨by rfl, ?_⟩) ?_ ?_
          rotate_left
          · intro w'
            go_simp
            with_reducible rfl
          rotate_left
          · simp only [Act.put, List.setIfInBounds_toArray, List.set_cons_zero, List.set_cons_succ, i64_w, i32_w]
            rfl
          refine pure_ (i := 6) (N := some 15) (v := ?_) (a' := ?_) #[true, true, true, true, true, true, true, false, true, false, false] rfl rfl (any_of HT_.out (by kernel_rfl)) (fun _ _ _ h => h) (Or.inl ⟨by rfl, ?_⟩) ?_ ?_
          rotate_left
          · intro w'
            go_simp
            with_reducible rfl
          rotate_left
          · simp only [Act.put, List.setIfInBounds_toArray, List.set_cons_zero, List.set_cons_succ, i64_w, i32_w]
            rfl
          refine pure_ (i := 7) (N := some 16) (v := ?_) (a' := ?_) #[true, true, true, true, true, true, true, true, true, false, false] rfl rfl (any_of HT_.out (by kernel_rfl)) (fun _ _ _ h => h) (Or.inl ⟨by rfl, ?_⟩) ?_ ?_
          rotate_left
          · intro w'
            go_simp
            with_reducible rfl
          rotate_left
          · simp only [Act.put, List.setIfInBounds_toArray, List.set_cons_zero, List.set_cons_succ, i64_w, i32_w]
            rfl
          exact norm_ (by simp only [putAll, Act.put, List.setIfInBounds_toArray, List.set_cons_zero, List.set_cons_succ]) (hCont (gb233) _ ⟨hHeld, (by exact BK212.out), (by exact BK213.out), (by exact BK233.out), GW233.out, GE233.out, NB212_233.out, NB233_212.out, NB213_233.out, NB233_213.out, (by exact HB.out)⟩)
      rintro gb233 w15 ⟨hS_, h0_, h1_, h2_, h3_, h4_, h5_, h6_, h7_, h8_, h9_⟩
      have n0_ : Aside0 (w15.heap[gb212]? = some (.cells #[.int .i64 0, .int .i64 1000000000, .int .i64 16777216, .int .i64 16777216] 28 (0, 0))) := ⟨h0_⟩
      have n1_ : Aside0 (w15.heap[gb213]? = some (.cells #[.int .i64 0, .int .i64 1000000000, .int .i64 16777216, .int .i64 16777216, .int .i64 0, .int .i64 1000000000, .int .i64 16777216, .int .i64 16777216, .int .i64 0, .int .i64 0] 32 (0, 0))) := ⟨h1_⟩
      have n2_ : Aside0 (w15.heap[gb233]? = some (.cells #[.int .i64 0, .int .i64 0, .int .i64 0, .bool false, .int .i64 0, .int .i64 0, .int .i64 0, .bool false, .int .i64 0] 37 (0, 0))) := ⟨h2_⟩
      have n3_ : Aside0 (w.heap.size ≤ gb233) := ⟨h3_⟩
      have n4_ : Aside0 (w.heap.size ≤ gb233) := ⟨h4_⟩
      have n5_ : Aside0 (gb212 ≠ gb233) := ⟨h5_⟩
      have n6_ : Aside0 (gb233 ≠ gb212) := ⟨h6_⟩
      have n7_ : Aside0 (gb213 ≠ gb233) := ⟨h7_⟩
      have n8_ : Aside0 (gb233 ≠ gb213) := ⟨h8_⟩
      have n9_ : Aside0 (Below w.heap.size w w15) := ⟨h9_⟩
      clear BK212
      clear BK213
      clear HB
      clear h0_ h1_ h2_ h3_ h4_ h5_ h6_ h7_ h8_ h9_
      have BK212 := n0_
      have BK213 := n1_
      have BK233 := n2_
      have GW233 := n3_
      have GE233 := n4_
      have NB212_233 := n5_
      have NB233_212 := n6_
      have NB213_233 := n7_
      have NB233_213 := n8_
      have HB := n9_
      clear n0_ n1_ n2_ n3_ n4_ n5_ n6_ n7_ n8_ n9_
      have hHeld : w15.cell? ⟨gb213, 0, none⟩ = some (.int .i64 0) ∧ w15.cell? ⟨gb213, 1, none⟩ = some (.int .i64 1000000000) ∧ w15.cell? ⟨gb213, 2, none⟩ = some (.int .i64 16777216) ∧ w15.cell? ⟨gb213, 3, none⟩ = some (.int .i64 16777216) ∧ w15.cell? ⟨gb213, 4, none⟩ = some (.int .i64 0) ∧ w15.cell? ⟨gb213, 5, none⟩ = some (.int .i64 1000000000) ∧ w15.cell? ⟨gb213, 6, none⟩ = some (.int .i64 16777216) ∧ w15.cell? ⟨gb213, 7, none⟩ = some (.int .i64 16777216) ∧ w15.cell? ⟨gb213, 8, none⟩ = some (.int .i64 0) ∧ w15.cell? ⟨gb213, 9, none⟩ = some (.int .i64 0) := hS_
      refine norm_ (a' := ?_) ?_ ?_
      rotate_left
      · simp only [putAll, Act.put, List.setIfInBounds_toArray, List.set_cons_zero, List.set_cons_succ]
        rfl
      refine one_ (i := 9) (N := none) #[true, true, true, true, true, true, true, true, true, true, false] rfl rfl (one_of HT_.out (by kernel_rfl)) (by decide) (fun K hK => ?_)
      have hs16 : w15.cell? ⟨gb233, 0, none⟩ = some (.int .i64 0) := (blk_cell BK233.out 0).trans rfl
      have hfs16 := blk_frozen BK233.out 0
      have hns16_0 := NB212_233.out
      have hns16_1 := NB213_233.out
      have hms16_0 := NB233_212.out
      have hms16_1 := NB233_213.out
      have hs17 : w15.cell? ⟨gb233, 1, none⟩ = some (.int .i64 0) := (blk_cell BK233.out 1).trans rfl
      have hfs17 := blk_frozen BK233.out 1
      have hns17_0 := NB212_233.out
      have hns17_1 := NB213_233.out
      have hms17_0 := NB233_212.out
      have hms17_1 := NB233_213.out
      have hs18 : w15.cell? ⟨gb233, 2, none⟩ = some (.int .i64 0) := (blk_cell BK233.out 2).trans rfl
      have hfs18 := blk_frozen BK233.out 2
      have hns18_0 := NB212_233.out
      have hns18_1 := NB213_233.out
      have hms18_0 := NB233_212.out
      have hms18_1 := NB233_213.out
      have hs19 : w15.cell? ⟨gb233, 3, none⟩ = some (.bool false) := (blk_cell BK233.out 3).trans rfl
      have hfs19 := blk_frozen BK233.out 3
      have hns19_0 := NB212_233.out
      have hns19_1 := NB213_233.out
      have hms19_0 := NB233_212.out
      have hms19_1 := NB233_213.out
      have hs20 : w15.cell? ⟨gb233, 4, none⟩ = some (.int .i64 0) := (blk_cell BK233.out 4).trans rfl
      have hfs20 := blk_frozen BK233.out 4
      have hns20_0 := NB212_233.out
      have hns20_1 := NB213_233.out
      have hms20_0 := NB233_212.out
      have hms20_1 := NB233_213.out
      have hs21 : w15.cell? ⟨gb233, 5, none⟩ = some (.int .i64 0) := (blk_cell BK233.out 5).trans rfl
      have hfs21 := blk_frozen BK233.out 5
      have hns21_0 := NB212_233.out
      have hns21_1 := NB213_233.out
      have hms21_0 := NB233_212.out
      have hms21_1 := NB233_213.out
      have hs22 : w15.cell? ⟨gb233, 6, none⟩ = some (.int .i64 0) := (blk_cell BK233.out 6).trans rfl
      have hfs22 := blk_frozen BK233.out 6
      have hns22_0 := NB212_233.out
      have hns22_1 := NB213_233.out
      have hms22_0 := NB233_212.out
      have hms22_1 := NB233_213.out
      have hs23 : w15.cell? ⟨gb233, 7, none⟩ = some (.bool false) := (blk_cell BK233.out 7).trans rfl
      have hfs23 := blk_frozen BK233.out 7
      have hns23_0 := NB212_233.out
      have hns23_1 := NB213_233.out
      have hms23_0 := NB233_212.out
      have hms23_1 := NB233_213.out
      have hs24 : w15.cell? ⟨gb233, 8, none⟩ = some (.int .i64 0) := (blk_cell BK233.out 8).trans rfl
      have hfs24 := blk_frozen BK233.out 8
      have hns24_0 := NB212_233.out
      have hns24_1 := NB213_233.out
      have hms24_0 := NB233_212.out
      have hms24_1 := NB233_213.out
      refine skip_ (w1 := ?_) (by rfl) rfl ?_ ?_
      rotate_left
      · go_simp
        rfl
      refine hK.out _ _ ⟨((cell_far (p := ⟨gb233, _, none⟩) NB213_233.out _).trans (((cell_far (p := ⟨gb233, _, none⟩) NB213_233.out _).trans (((cell_far (p := ⟨gb233, _, none⟩) NB213_233.out _).trans (((cell_far (p := ⟨gb233, _, none⟩) NB213_233.out _).trans (((cell_far (p := ⟨gb233, _, none⟩) NB213_233.out _).trans (((cell_far (p := ⟨gb233, _, none⟩) NB213_233.out _).trans (((cell_far (p := ⟨gb233, _, none⟩) NB213_233.out _).trans (((cell_far (p := ⟨gb233, _, none⟩) NB213_233.out _).trans (((cell_far (p := ⟨gb233, _, none⟩) NB213_233.out _).trans (hHeld.1)))))))))))))))))), ((cell_far (p := ⟨gb233, _, none⟩) NB213_233.out _).trans (((cell_far (p := ⟨gb233, _, none⟩) NB213_233.out _).trans (((cell_far (p := ⟨gb233, _, none⟩) NB213_233.out _).trans (((cell_far (p := ⟨gb233, _, none⟩) NB213_233.out _).trans (((cell_far (p := ⟨gb233, _, none⟩) NB213_233.out _).trans (((cell_far (p := ⟨gb233, _, none⟩) NB213_233.out _).trans (((cell_far (p := ⟨gb233, _, none⟩) NB213_233.out _).trans (((cell_far (p := ⟨gb233, _, none⟩) NB213_233.out _).trans (((cell_far (p := ⟨gb233, _, none⟩) NB213_233.out _).trans (hHeld.2.1)))))))))))))))))), ((cell_far (p := ⟨gb233, _, none⟩) NB213_233.out _).trans (((cell_far (p := ⟨gb233, _, none⟩) NB213_233.out _).trans (((cell_far (p := ⟨gb233, _, none⟩) NB213_233.out _).trans (((cell_far (p := ⟨gb233, _, none⟩) NB213_233.out _).trans (((cell_far (p := ⟨gb233, _, none⟩) NB213_233.out _).trans (((cell_far (p := ⟨gb233, _, none⟩) NB213_233.out _).trans (((cell_far (p := ⟨gb233, _, none⟩) NB213_233.out _).trans (((cell_far (p := ⟨gb233, _, none⟩) NB213_233.out _).trans (((cell_far (p := ⟨gb233, _, none⟩) NB213_233.out _).trans (hHeld.2.2.1)))))))))))))))))), ((cell_far (p := ⟨gb233, _, none⟩) NB213_233.out _).trans (((cell_far (p := ⟨gb233, _, none⟩) NB213_233.out _).trans (((cell_far (p := ⟨gb233, _, none⟩) NB213_233.out _).trans (((cell_far (p := ⟨gb233, _, none⟩) NB213_233.out _).trans (((cell_far (p := ⟨gb233, _, none⟩) NB213_233.out _).trans (((cell_far (p := ⟨gb233, _, none⟩) NB213_233.out _).trans (((cell_far (p := ⟨gb233, _, none⟩) NB213_233.out _).trans (((cell_far (p := ⟨gb233, _, none⟩) NB213_233.out _).trans (((cell_far (p := ⟨gb233, _, none⟩) NB213_233.out _).trans (hHeld.2.2.2.1)))))))))))))))))), ((cell_far (p := ⟨gb233, _, none⟩) NB213_233.out _).trans (((cell_far (p := ⟨gb233, _, none⟩) NB213_233.out _).trans (((cell_far (p := ⟨gb233, _, none⟩) NB213_233.out _).trans (((cell_far (p := ⟨gb233, _, none⟩) NB213_233.out _).trans (((cell_far (p := ⟨gb233, _, none⟩) NB213_233.out _).trans (((cell_far (p := ⟨gb233, _, none⟩) NB213_233.out _).trans (((cell_far (p := ⟨gb233, _, none⟩) NB213_233.out _).trans (((cell_far (p := ⟨gb233, _, none⟩) NB213_233.out _).trans (((cell_far (p := ⟨gb233, _, none⟩) NB213_233.out _).trans (hHeld.2.2.2.2.1)))))))))))))))))), ((cell_far (p := ⟨gb233, _, none⟩) NB213_233.out _).trans (((cell_far (p := ⟨gb233, _, none⟩) NB213_233.out _).trans (((cell_far (p := ⟨gb233, _, none⟩) NB213_233.out _).trans (((cell_far (p := ⟨gb233, _, none⟩) NB213_233.out _).trans (((cell_far (p := ⟨gb233, _, none⟩) NB213_233.out _).trans (((cell_far (p := ⟨gb233, _, none⟩) NB213_233.out _).trans (((cell_far (p := ⟨gb233, _, none⟩) NB213_233.out _).trans (((cell_far (p := ⟨gb233, _, none⟩) NB213_233.out _).trans (((cell_far (p := ⟨gb233, _, none⟩) NB213_233.out _).trans (hHeld.2.2.2.2.2.1)))))))))))))))))), ((cell_far (p := ⟨gb233, _, none⟩) NB213_233.out _).trans (((cell_far (p := ⟨gb233, _, none⟩) NB213_233.out _).trans (((cell_far (p := ⟨gb233, _, none⟩) NB213_233.out _).trans (((cell_far (p := ⟨gb233, _, none⟩) NB213_233.out _).trans (((cell_far (p := ⟨gb233, _, none⟩) NB213_233.out _).trans (((cell_far (p := ⟨gb233, _, none⟩) NB213_233.out _).trans (((cell_far (p := ⟨gb233, _, none⟩) NB213_233.out _).trans (((cell_far (p := ⟨gb233, _, none⟩) NB213_233.out _).trans (((cell_far (p := ⟨gb233, _, none⟩) NB213_233.out _).trans (hHeld.2.2.2.2.2.2.1)))))))))))))))))), ((cell_far (p := ⟨gb233, _, none⟩) NB213_233.out _).trans (((cell_far (p := ⟨gb233, _, none⟩) NB213_233.out _).trans (((cell_far (p := ⟨gb233, _, none⟩) NB213_233.out _).trans (((cell_far (p := ⟨gb233, _, none⟩) NB213_233.out _).trans (((cell_far (p := ⟨gb233, _, none⟩) NB213_233.out _).trans (((cell_far (p := ⟨gb233, _, none⟩) NB213_233.out _).trans (((cell_far (p := ⟨gb233, _, none⟩) NB213_233.out _).trans (((cell_far (p := ⟨gb233, _, none⟩) NB213_233.out _).trans (((cell_far (p := ⟨gb233, _, none⟩) NB213_233.out _).trans (hHeld.2.2.2.2.2.2.2.1)))))))))))))))))), ((cell_far (p := ⟨gb233, _, none⟩) NB213_233.out _).trans (((cell_far (p := ⟨gb233, _, none⟩) NB213_233.out _).trans (((cell_far (p := ⟨gb233, _, none⟩) NB213_233.out _).trans (((cell_far (p := ⟨gb233, _, none⟩) NB213_233.out _).trans (((cell_far (p := ⟨gb233, _, none⟩) NB213_233.out _).trans (((cell_far (p := ⟨gb233, _, none⟩) NB213_233.out _).trans (((cell_far (p := ⟨gb233, _, none⟩) NB213_233.out _).trans (((cell_far (p := ⟨gb233, _, none⟩) NB213_233.out _).trans (((cell_far (p := ⟨gb233, _, none⟩) NB213_233.out _).trans (hHeld.2.2.2.2.2.2.2.2.1)))))))))))))))))), ((cell_far (p := ⟨gb233, _, none⟩) NB213_233.out _).trans (((cell_far (p := ⟨gb233, _, none⟩) NB213_233.out _).trans (((cell_far (p := ⟨gb233, _, none⟩) NB213_233.out _).trans (((cell_far (p := ⟨gb233, _, none⟩) NB213_233.out _).trans (((cell_far (p := ⟨gb233, _, none⟩) NB213_233.out _).trans (((cell_far (p := ⟨gb233, _, none⟩) NB213_233.out _).trans (((cell_far (p := ⟨gb233, _, none⟩) NB213_233.out _).trans (((cell_far (p := ⟨gb233, _, none⟩) NB213_233.out _).trans (((cell_far (p := ⟨gb233, _, none⟩) NB213_233.out _).trans (hHeld.2.2.2.2.2.2.2.2.2))))))))))))))))))⟩ (fun hHeld => ?_)
      clear hK K
      refine pure_ (i := 10) (N := some 4) (v := ?_) (a' := ?_) #[true, true, true, true, true, true, true, true, true, true, true] rfl rfl (any_of HT_.out (by kernel_rfl)) (fun _ _ _ h => h) (Or.inl ⟨by rfl, ?_⟩) ?_ ?_
      rotate_left
      · intro w'
        go_simp
        with_reducible rfl
      rotate_left
      · simp only [Act.put, List.setIfInBounds_toArray, List.set_cons_zero, List.set_cons_succ, i64_w, i32_w]
        rfl
      refine done_ (done_of HT_.out (by kernel_rfl)) ?_
      have hcz25_0 := tch9 BK233.out
      have hnb26 := NB213_233.out
      have hnc26 := NB233_213.out
      have hcz27_0 := tch10 BK213.out
      try go_wp2_with (first | (go_at_call 20; (with_reducible refine (mount_Step.calls k 0 1000000000 16777216 16777216 0 1000000000 16777216 16777216 0 0 t223 t224 t225 t226 t227 t228 t229 t230 t231 t234 t235 t236 t237 t238 t239 t240 t241 t242 _ A5.out).mono ?_); rintro e w28 ⟨rfl, hb⟩; have n0_ := Aside0.mk (blk_below (g := gb212) (o := .cells #[.int .i64 0, .int .i64 1000000000, .int .i64 16777216, .int .i64 16777216] 28 (0, 0)) (by exact (blk_far (blk_far (blk_far (blk_far (blk_far (blk_far (blk_far (blk_far (blk_far BK212.out NB212_233.out _) NB212_233.out _) NB212_233.out _) NB212_233.out _) NB212_233.out _) NB212_233.out _) NB212_233.out _) NB212_233.out _) NB212_233.out _)) hb); have n1_ := Aside0.mk (blk_below (g := gb213) (o := .cells #[.int .i64 0, .int .i64 1000000000, .int .i64 16777216, .int .i64 16777216, .int .i64 0, .int .i64 1000000000, .int .i64 16777216, .int .i64 16777216, .int .i64 0, .int .i64 0] 32 (0, 0)) (by exact (blk_far (blk_far (blk_far (blk_far (blk_far (blk_far (blk_far (blk_far (blk_far BK213.out NB213_233.out _) NB213_233.out _) NB213_233.out _) NB213_233.out _) NB213_233.out _) NB213_233.out _) NB213_233.out _) NB213_233.out _) NB213_233.out _)) hb); have n2_ := Aside0.mk (blk_below (g := gb233) (o := .cells #[.int .i64 t223, .int .i64 t224, .int .i64 t225, .bool t226, .int .i64 t227, .int .i64 t228, .int .i64 t229, .bool t230, .int .i64 t231] 37 (0, 0)) (by exact (blk_put (cs := #[.int .i64 t223, .int .i64 t224, .int .i64 t225, .bool t226, .int .i64 t227, .int .i64 t228, .int .i64 t229, .bool t230, .int .i64 0]) (blk_put (cs := #[.int .i64 t223, .int .i64 t224, .int .i64 t225, .bool t226, .int .i64 t227, .int .i64 t228, .int .i64 t229, .bool false, .int .i64 0]) (blk_put (cs := #[.int .i64 t223, .int .i64 t224, .int .i64 t225, .bool t226, .int .i64 t227, .int .i64 t228, .int .i64 0, .bool false, .int .i64 0]) (blk_put (cs := #[.int .i64 t223, .int .i64 t224, .int .i64 t225, .bool t226, .int .i64 t227, .int .i64 0, .int .i64 0, .bool false, .int .i64 0]) (blk_put (cs := #[.int .i64 t223, .int .i64 t224, .int .i64 t225, .bool t226, .int .i64 0, .int .i64 0, .int .i64 0, .bool false, .int .i64 0]) (blk_put (cs := #[.int .i64 t223, .int .i64 t224, .int .i64 t225, .bool false, .int .i64 0, .int .i64 0, .int .i64 0, .bool false, .int .i64 0]) (blk_put (cs := #[.int .i64 t223, .int .i64 t224, .int .i64 0, .bool false, .int .i64 0, .int .i64 0, .int .i64 0, .bool false, .int .i64 0]) (blk_put (cs := #[.int .i64 t223, .int .i64 0, .int .i64 0, .bool false, .int .i64 0, .int .i64 0, .int .i64 0, .bool false, .int .i64 0]) (blk_put (cs := #[.int .i64 0, .int .i64 0, .int .i64 0, .bool false, .int .i64 0, .int .i64 0, .int .i64 0, .bool false, .int .i64 0]) BK233.out 0 _ rfl) 1 _ rfl) 2 _ rfl) 3 _ rfl) 4 _ rfl) 5 _ rfl) 6 _ rfl) 7 _ rfl) 8 _ rfl)) hb); have n3_ := Aside0.mk (below_step (by repeat (first | (with_reducible first | exact HB.out | apply below_alloc | apply pw_below_drewN | apply below_drew1 | refine below_set ?_ GE212.out | refine below_set ?_ GE213.out | refine below_set ?_ GE233.out) | exact HB.out)) hb); clear BK212; clear BK213; clear BK233; clear HB; have BK212 := n0_; have BK213 := n1_; have BK233 := n2_; have HB := n3_; clear n0_ n1_ n2_ n3_; (try clear hb); (try clear hb2); (try clear hk); (try clear hi)))
      go_ret
      exact ⟨by first | rfl | (simp [errW_none, errW_some] <;> rfl) | (simp [*, errW_none, errW_some] <;> rfl), by exact HB.out⟩
    · rw [if_neg c4] at H
      have c4b0 : (t231 == 2) = false := beq_eq_false_iff_ne.mpr c4
      have c4b1 : (t231 != 2) = true := bne_iff_ne.mpr c4
      obtain rfl := Option.some.inj H
      go_enter Try.func10, Try.ntmps10
      try go_wp2_with (first | ((with_reducible refine gate_dst (N := 1) rfl ?_); refine box_event ?hg (N := 1) ?hd (cs := #[.int .i64 0, .int .i64 0, .int .i64 0, .int .i64 0]) (t := 28) ?hr ?_; (case hd => rfl); (case hg => rfl); (case hr => first | (go_simp; done) | (go_simp; rfl)); intro gb212 hg w29 hbox hb; have n0_ := Aside0.mk (below_step (by exact HB.out) hb); have n1_ := Aside0.mk (hbox); have n2_ := Aside0.mk ((by rw [hg]; exact (below_size (by exact HB.out)) : w.heap.size ≤ gb212)); have n3_ := Aside0.mk ((by rw [hg]; exact (below_size (by exact HB.out)) : w.heap.size ≤ gb212)); clear HB; have HB := n0_; have BK212 := n1_; have GW212 := n2_; have GE212 := n3_; clear n0_ n1_ n2_ n3_; clear hb hbox hg) | ((with_reducible refine gate_store (t := 28) (p := 1) rfl ?_); refine store_row (t := 28) (p := 1) (v := ?vo_w30) ?hgd ?ho ?hN gb212 0 #[.int .i64 0, .int .i64 0, .int .i64 0, .int .i64 0] [.int .i64 0, .int .i64 1000000000, .int .i64 16777216, .int .i64 16777216] #[.int .i64 0, .int .i64 1000000000, .int .i64 16777216, .int .i64 16777216] ?hx ?hy (by exact BK212.out) szi28 (Nat.le_of_ble_eq_true rfl) ?h1 ?hnew ?_; (case ho => rfl); (case hgd => rfl); (case hN => rfl); (case hx => rfl); (case hy => first | rfl | (go_simp; done) | (go_simp; rfl)); (case h1 => rfl); (case hnew => rfl); intro w30 hbox hg; have n0_ := Aside0.mk (pw_below_grown (by exact HB.out) (some gb212) (below_size (by exact HB.out)) hg (fun k_ e_ => by cases e_; exact GE212.out)); have n1_ := Aside0.mk (hbox); clear HB; clear BK212; have HB := n0_; have BK212 := n1_; clear n0_ n1_; clear hbox hg; have hcz31_0 := tch4 BK212.out) | ((with_reducible refine gate_dst (N := 2) rfl ?_); refine box_event ?hg (N := 2) ?hd (cs := #[.int .i64 0, .int .i64 0, .int .i64 0, .int .i64 0, .int .i64 0, .int .i64 0, .int .i64 0, .int .i64 0, .int .i64 0, .int .i64 0]) (t := 32) ?hr ?_; (case hd => rfl); (case hg => rfl); (case hr => first | (go_simp; done) | (go_simp; rfl)); intro gb213 hg w32 hbox hb; have n0_ := Aside0.mk (blk_below BK212.out hb); have n1_ := Aside0.mk (below_step (by exact HB.out) hb); have n2_ := Aside0.mk (hbox); have n3_ := Aside0.mk ((by rw [hg]; exact (below_size (by exact HB.out)) : w.heap.size ≤ gb213)); have n4_ := Aside0.mk ((by rw [hg]; exact (below_size (by exact HB.out)) : w.heap.size ≤ gb213)); have n5_ := Aside0.mk ((by rw [hg]; exact Nat.ne_of_lt (blk_lt BK212.out) : gb212 ≠ gb213)); clear BK212; clear HB; have BK212 := n0_; have HB := n1_; have BK213 := n2_; have GW213 := n3_; have GE213 := n4_; have NB212_213 := n5_; clear n0_ n1_ n2_ n3_ n4_ n5_; clear hb hbox hg) | ((with_reducible refine gate_store (t := 32) (p := 2) rfl ?_); refine store_row (t := 32) (p := 2) (v := ?vo_w33) ?hgd ?ho ?hN gb213 0 #[.int .i64 0, .int .i64 0, .int .i64 0, .int .i64 0, .int .i64 0, .int .i64 0, .int .i64 0, .int .i64 0, .int .i64 0, .int .i64 0] [.int .i64 0, .int .i64 1000000000, .int .i64 16777216, .int .i64 16777216, .int .i64 0, .int .i64 1000000000, .int .i64 16777216, .int .i64 16777216, .int .i64 0, .int .i64 0] #[.int .i64 0, .int .i64 1000000000, .int .i64 16777216, .int .i64 16777216, .int .i64 0, .int .i64 1000000000, .int .i64 16777216, .int .i64 16777216, .int .i64 0, .int .i64 0] ?hx ?hy (by exact BK213.out) szi32 (Nat.le_of_ble_eq_true rfl) ?h1 ?hnew ?_; (case ho => rfl); (case hgd => rfl); (case hN => rfl); (case hx => rfl); (case hy => first | rfl | (go_simp; done) | (go_simp; rfl)); (case h1 => rfl); (case hnew => rfl); intro w33 hbox hg; have n0_ := Aside0.mk (blk_grown BK212.out hg (fun e_ => NB212_213.out (Option.some.inj e_))); have n1_ := Aside0.mk (pw_below_grown (by exact HB.out) (some gb213) (below_size (by exact HB.out)) hg (fun k_ e_ => by cases e_; exact GE213.out)); have n2_ := Aside0.mk (hbox); clear BK212; clear HB; clear BK213; have BK212 := n0_; have HB := n1_; have BK213 := n2_; clear n0_ n1_ n2_; clear hbox hg))
      have n0_ := Aside0.mk (blk_drew BK212.out)
      have n1_ := Aside0.mk (blk_drew BK213.out)
      have n2_ := Aside0.mk (below_drew1 HB.out)
      clear BK212
      clear BK213
      clear HB
      have BK212 := n0_
      have BK213 := n1_
      have HB := n2_
      clear n0_ n1_ n2_
      refine start_ (n := 11) (S := fun w' => w'.cell? ⟨gb213, 0, none⟩ = some (.int .i64 0) ∧ w'.cell? ⟨gb213, 1, none⟩ = some (.int .i64 1000000000) ∧ w'.cell? ⟨gb213, 2, none⟩ = some (.int .i64 16777216) ∧ w'.cell? ⟨gb213, 3, none⟩ = some (.int .i64 16777216) ∧ w'.cell? ⟨gb213, 4, none⟩ = some (.int .i64 0) ∧ w'.cell? ⟨gb213, 5, none⟩ = some (.int .i64 1000000000) ∧ w'.cell? ⟨gb213, 6, none⟩ = some (.int .i64 16777216) ∧ w'.cell? ⟨gb213, 7, none⟩ = some (.int .i64 16777216) ∧ w'.cell? ⟨gb213, 8, none⟩ = some (.int .i64 0) ∧ w'.cell? ⟨gb213, 9, none⟩ = some (.int .i64 0)) (ds := []) #[false, false, false, false, false, false, false, false, false, false, false] (by kernel_rfl) rfl rfl ⟨(blk_cell BK213.out 0).trans rfl, (blk_cell BK213.out 1).trans rfl, (blk_cell BK213.out 2).trans rfl, (blk_cell BK213.out 3).trans rfl, (blk_cell BK213.out 4).trans rfl, (blk_cell BK213.out 5).trans rfl, (blk_cell BK213.out 6).trans rfl, (blk_cell BK213.out 7).trans rfl, (blk_cell BK213.out 8).trans rfl, (blk_cell BK213.out 9).trans rfl⟩ (fun hHeld => ?_); refine with_tabW spykeep2_drives.tab3 spykeep2_drives.bits3 (fun HT_ HW_ => ?_)
      generalize w33.drew = w34 at BK212 BK213 HB hHeld ⊢
      refine pure_ (i := 3) (N := some 13) (v := ?_) (a' := ?_) #[false, false, false, true, false, false, false, false, false, false, false] rfl rfl (any_of HT_.out (by kernel_rfl)) (fun _ _ _ h => h) (Or.inl ⟨by rfl, ?_⟩) ?_ ?_
      rotate_left
      · intro w'
        go_simp
        with_reducible rfl
      rotate_left
      · simp only [Act.put, List.setIfInBounds_toArray, List.set_cons_zero, List.set_cons_succ, i64_w, i32_w]
        rfl
      refine take_ (i := 0) (N := some 10) (v := ?_) (a' := ?_) #[true, false, false, true, false, false, false, false, false, false, false] rfl rfl (take_ofW HT_.out HW_.out (by kernel_rfl)) (fun _ _ _ h => h) (Or.inl ⟨by rfl, ?_⟩) hHeld ?_ ?_
      rotate_left
      · rintro w' ⟨s0, s1, s2, s3, s4, s5, s6, s7, s8, s9⟩
        go_simp
        with_reducible rfl
      rotate_left
      · simp only [Act.put, List.setIfInBounds_toArray, List.set_cons_zero, List.set_cons_succ, i64_w, i32_w]
        rfl
      refine take_ (i := 1) (N := some 11) (v := ?_) (a' := ?_) #[true, true, false, true, false, false, false, false, false, false, false] rfl rfl (take_ofW HT_.out HW_.out (by kernel_rfl)) (fun _ _ _ h => h) (Or.inl ⟨by rfl, ?_⟩) hHeld ?_ ?_
      rotate_left
      · rintro w' ⟨s0, s1, s2, s3, s4, s5, s6, s7, s8, s9⟩
        go_simp
        with_reducible rfl
      rotate_left
      · simp only [Act.put, List.setIfInBounds_toArray, List.set_cons_zero, List.set_cons_succ, i64_w, i32_w]
        rfl
      refine join_ (σ := Nat) 2 #[true, true, true, true, true, true, true, true, true, false, false] (fun s_ => [(12, .agg #[.int .i64 t214, .int .i64 t215, .int .i64 t216, .bool t217, .int .i64 t218, .int .i64 t219, .int .i64 t220, .bool t221, .int .i64 t222]), (14, .tuple #[.agg #[.int .i64 t223, .int .i64 t224, .int .i64 t225, .bool t226, .int .i64 t227, .int .i64 t228, .int .i64 t229, .bool t230, .int .i64 t231], .int .i64 t232]), (3, .pointer (some ⟨s_, 0, none⟩)), (9, .tuple #[.agg #[.int .i64 t223, .int .i64 t224, .int .i64 t225, .bool t226, .int .i64 t227, .int .i64 t228, .int .i64 t229, .bool t230, .int .i64 t231], .int .i64 t232]), (15, .agg #[.int .i64 t223, .int .i64 t224, .int .i64 t225, .bool t226, .int .i64 t227, .int .i64 t228, .int .i64 t229, .bool t230, .int .i64 t231]), (16, .int .i64 t232)]) (fun s_ w' => (w'.cell? ⟨gb213, 0, none⟩ = some (.int .i64 0) ∧ w'.cell? ⟨gb213, 1, none⟩ = some (.int .i64 1000000000) ∧ w'.cell? ⟨gb213, 2, none⟩ = some (.int .i64 16777216) ∧ w'.cell? ⟨gb213, 3, none⟩ = some (.int .i64 16777216) ∧ w'.cell? ⟨gb213, 4, none⟩ = some (.int .i64 0) ∧ w'.cell? ⟨gb213, 5, none⟩ = some (.int .i64 1000000000) ∧ w'.cell? ⟨gb213, 6, none⟩ = some (.int .i64 16777216) ∧ w'.cell? ⟨gb213, 7, none⟩ = some (.int .i64 16777216) ∧ w'.cell? ⟨gb213, 8, none⟩ = some (.int .i64 0) ∧ w'.cell? ⟨gb213, 9, none⟩ = some (.int .i64 0)) ∧ (w'.heap[gb212]? = some (.cells #[.int .i64 0, .int .i64 1000000000, .int .i64 16777216, .int .i64 16777216] 28 (0, 0))) ∧ (w'.heap[gb213]? = some (.cells #[.int .i64 0, .int .i64 1000000000, .int .i64 16777216, .int .i64 16777216, .int .i64 0, .int .i64 1000000000, .int .i64 16777216, .int .i64 16777216, .int .i64 0, .int .i64 0] 32 (0, 0))) ∧ (w'.heap[s_]? = some (.cells #[.int .i64 0, .int .i64 0, .int .i64 0, .bool false, .int .i64 0, .int .i64 0, .int .i64 0, .bool false, .int .i64 0] 37 (0, 0))) ∧ (w.heap.size ≤ s_) ∧ (w.heap.size ≤ s_) ∧ (gb212 ≠ s_) ∧ (s_ ≠ gb212) ∧ (gb213 ≠ s_) ∧ (s_ ≠ gb213) ∧ (Below w.heap.size w w')) ?_ ?_
      rotate_left
      · intro hCont
        refine two_ (i := 2) (j := 8) (Ni := some 12) (Nj := some 3) #[true, true, true, true, false, false, false, false, false, false, false] #[true, true, false, true, false, false, false, false, true, false, false] rfl rfl rfl rfl (two_of HT_.out (by kernel_rfl)) (by decide) (by decide) (fun K hK => ?_) (fun K hK => ?_)
        · skip
          refine goes_ Try.func12 (by kernel_rfl) rfl #[.agg #[.int .i64 0, .int .i64 1000000000, .int .i64 16777216, .int .i64 16777216, .int .i64 0, .int .i64 1000000000, .int .i64 16777216, .int .i64 16777216, .int .i64 0, .int .i64 0]] (by rfl) rfl rfl (by (try simp only [List.map_toArray, List.map_cons, List.map_nil]); first | done | rfl | (simp only [List.length_drop, List.length_take]; rfl)) ?_
          with_reducible refine (mount_Rest.calls 0 1000000000 16777216 16777216 0 1000000000 16777216 16777216 0 0 t214 t215 t216 t217 t218 t219 t220 t221 t222 _ A1.out).mono ?_
          rintro e w35 ⟨rfl, hb⟩
          refine ⟨_, rfl, ?_⟩
          have n0_ := Aside0.mk (blk_below BK212.out hb)
          have n1_ := Aside0.mk (blk_below BK213.out hb)
          have n2_ := Aside0.mk (below_step (by exact HB.out) hb)
          clear BK212
          clear BK213
          clear HB
          have BK212 := n0_
          have BK213 := n1_
          have HB := n2_
          clear n0_ n1_ n2_
          (try clear hb)
          (try clear hb2)
          (try clear hk)
          (try clear hi)
          refine hK.out _ _ ⟨(blk_cell BK213.out 0).trans rfl, (blk_cell BK213.out 1).trans rfl, (blk_cell BK213.out 2).trans rfl, (blk_cell BK213.out 3).trans rfl, (blk_cell BK213.out 4).trans rfl, (blk_cell BK213.out 5).trans rfl, (blk_cell BK213.out 6).trans rfl, (blk_cell BK213.out 7).trans rfl, (blk_cell BK213.out 8).trans rfl, (blk_cell BK213.out 9).trans rfl⟩ (fun hHeld => ?_)
          clear hK K
          refine norm_ (a' := ?_) ?_ ?_
          rotate_left
          · show Act.put _ (some 12) _ = _
            simp only [Act.put, List.setIfInBounds_toArray, List.set_cons_zero, List.set_cons_succ, i64_w, i32_w]
            rfl
          refine two_ (i := 4) (j := 8) (Ni := some 14) (Nj := some 3) #[true, true, true, true, true, false, false, false, false, false, false] #[true, true, true, true, false, false, false, false, true, false, false] rfl rfl rfl rfl (two_of HT_.out (by kernel_rfl)) (by decide) (by decide) (fun K hK => ?_) (fun K hK => ?_)
          · skip
            refine goes_ Try.func15 (by kernel_rfl) rfl #[.agg #[.int .i64 0, .int .i64 1000000000, .int .i64 16777216, .int .i64 16777216, .int .i64 0, .int .i64 1000000000, .int .i64 16777216, .int .i64 16777216, .int .i64 0, .int .i64 0], .agg #[.int .i64 t214, .int .i64 t215, .int .i64 t216, .bool t217, .int .i64 t218, .int .i64 t219, .int .i64 t220, .bool t221, .int .i64 t222], .agg #[.int .i64 0, .int .i64 0]] (by rfl) rfl rfl (by (try simp only [List.map_toArray, List.map_cons, List.map_nil]); first | done | rfl | (simp only [List.length_drop, List.length_take]; rfl)) ?_
            with_reducible refine (mount_Goto.calls k 0 1000000000 16777216 16777216 0 1000000000 16777216 16777216 0 0 t214 t215 t216 t217 t218 t219 t220 t221 t222 0 0 t223 t224 t225 t226 t227 t228 t229 t230 t231 t232 _ A2.out).mono ?_
            rintro e w36 ⟨rfl, hb⟩
            refine ⟨_, rfl, ?_⟩
            have n0_ := Aside0.mk (blk_below BK212.out hb)
            have n1_ := Aside0.mk (blk_below BK213.out hb)
            have n2_ := Aside0.mk (below_step (by exact HB.out) hb)
            clear BK212
            clear BK213
            clear HB
            have BK212 := n0_
            have BK213 := n1_
            have HB := n2_
            clear n0_ n1_ n2_
            (try clear hb)
            (try clear hb2)
            (try clear hk)
            (try clear hi)
            refine hK.out _ _ ⟨(blk_cell BK213.out 0).trans rfl, (blk_cell BK213.out 1).trans rfl, (blk_cell BK213.out 2).trans rfl, (blk_cell BK213.out 3).trans rfl, (blk_cell BK213.out 4).trans rfl, (blk_cell BK213.out 5).trans rfl, (blk_cell BK213.out 6).trans rfl, (blk_cell BK213.out 7).trans rfl, (blk_cell BK213.out 8).trans rfl, (blk_cell BK213.out 9).trans rfl⟩ (fun hHeld => ?_)
            clear hK K
            refine norm_ (a' := ?_) ?_ ?_
            rotate_left
            · show Act.put _ (some 14) _ = _
              simp only [Act.put, List.setIfInBounds_toArray, List.set_cons_zero, List.set_cons_succ, i64_w, i32_w]
              rfl
            refine pure_ (i := 5) (N := some 9) (v := ?_) (a' := ?_) #[true, true, true, true, true, true, false, false, false, false, false] rfl rfl (any_of HT_.out (by kernel_rfl)) (fun _ _ _ h => h) (Or.inl ⟨by rfl, ?_⟩) ?_ ?_
            rotate_left
            · intro w'
              go_simp
              with_reducible rfl
            rotate_left
            · simp only [Act.put, List.setIfInBounds_toArray, List.set_cons_zero, List.set_cons_succ, i64_w, i32_w]
              rfl
            refine pure_ (i := 6) (N := some 15) (v := ?_) (a' := ?_) #[true, true, true, true, true, true, true, false, false, false, false] rfl rfl (any_of HT_.out (by kernel_rfl)) (fun _ _ _ h => h) (Or.inl ⟨by rfl, ?_⟩) ?_ ?_
            rotate_left
            · intro w'
              go_simp
              with_reducible rfl
            rotate_left
            · simp only [Act.put, List.setIfInBounds_toArray, List.set_cons_zero, List.set_cons_succ, i64_w, i32_w]
              rfl
            refine pure_ (i := 7) (N := some 16) (v := ?_) (a' := ?_) #[true, true, true, true, true, true, true, true, false, false, false] rfl rfl (any_of HT_.out (by kernel_rfl)) (fun _ _ _ h => h) (Or.inl ⟨by rfl, ?_⟩) ?_ ?_
            rotate_left
            · intro w'
              go_simp
              with_reducible rfl
            rotate_left
            · simp only [Act.put, List.setIfInBounds_toArray, List.set_cons_zero, List.set_cons_succ, i64_w, i32_w]
              rfl
            refine one_ (i := 8) (N := some 3) #[true, true, true, true, true, true, true, true, true, false, false] rfl rfl (one_of HT_.out (by kernel_rfl)) (by decide) (fun K hK => ?_)
            refine box_step ?hg (N := 3) ?hd (cs := #[.int .i64 0, .int .i64 0, .int .i64 0, .bool false, .int .i64 0, .int .i64 0, .int .i64 0, .bool false, .int .i64 0]) (t := 37) ?hr ?_; (case hd => rfl); (case hg => rfl); (case hr => first | (go_simp; done) | (go_simp; rfl))
            intro gb233 hg w37 hbox hb
            have n0_ := Aside0.mk (blk_below BK212.out hb)
            have n1_ := Aside0.mk (blk_below BK213.out hb)
            have n2_ := Aside0.mk (below_step (by exact HB.out) hb)
            have n3_ := Aside0.mk (hbox)
            have n4_ := Aside0.mk ((by rw [hg]; exact (below_size (by exact HB.out)) : w.heap.size ≤ gb233))
            have n5_ := Aside0.mk ((by rw [hg]; exact (below_size (by exact HB.out)) : w.heap.size ≤ gb233))
            have n6_ := Aside0.mk ((by rw [hg]; exact Nat.ne_of_lt (blk_lt BK212.out) : gb212 ≠ gb233))
            have n7_ := Aside0.mk ((by rw [hg]; exact Nat.ne_of_gt (blk_lt BK212.out) : gb233 ≠ gb212))
            have n8_ := Aside0.mk ((by rw [hg]; exact Nat.ne_of_lt (blk_lt BK213.out) : gb213 ≠ gb233))
            have n9_ := Aside0.mk ((by rw [hg]; exact Nat.ne_of_gt (blk_lt BK213.out) : gb233 ≠ gb213))
            clear BK212
            clear BK213
            clear HB
            have BK212 := n0_
            have BK213 := n1_
            have HB := n2_
            have BK233 := n3_
            have GW233 := n4_
            have GE233 := n5_
            have NB212_233 := n6_
            have NB233_212 := n7_
            have NB213_233 := n8_
            have NB233_213 := n9_
            clear n0_ n1_ n2_ n3_ n4_ n5_ n6_ n7_ n8_ n9_
            clear hb hbox hg
            refine hK.out _ _ ⟨(blk_cell BK213.out 0).trans rfl, (blk_cell BK213.out 1).trans rfl, (blk_cell BK213.out 2).trans rfl, (blk_cell BK213.out 3).trans rfl, (blk_cell BK213.out 4).trans rfl, (blk_cell BK213.out 5).trans rfl, (blk_cell BK213.out 6).trans rfl, (blk_cell BK213.out 7).trans rfl, (blk_cell BK213.out 8).trans rfl, (blk_cell BK213.out 9).trans rfl⟩ (fun hHeld => ?_)
            clear hK K
            refine norm_ (a' := ?_) ?_ ?_
            rotate_left
            · show Act.put _ (some 3) _ = _
              simp only [Act.put, List.setIfInBounds_toArray, List.set_cons_zero, List.set_cons_succ, i64_w, i32_w]
              rfl
            exact norm_ (by simp only [putAll, Act.put, List.setIfInBounds_toArray, List.set_cons_zero, List.set_cons_succ]) (hCont (gb233) _ ⟨hHeld, (by exact BK212.out), (by exact BK213.out), (by exact BK233.out), GW233.out, GE233.out, NB212_233.out, NB233_212.out, NB213_233.out, NB233_213.out, (by exact HB.out)⟩)
          · skip
            refine box_step ?hg (N := 3) ?hd (cs := #[.int .i64 0, .int .i64 0, .int .i64 0, .bool false, .int .i64 0, .int .i64 0, .int .i64 0, .bool false, .int .i64 0]) (t := 37) ?hr ?_; (case hd => rfl); (case hg => rfl); (case hr => first | (go_simp; done) | (go_simp; rfl))
            intro gb233 hg w36 hbox hb
            have n0_ := Aside0.mk (blk_below BK212.out hb)
            have n1_ := Aside0.mk (blk_below BK213.out hb)
            have n2_ := Aside0.mk (below_step (by exact HB.out) hb)
            have n3_ := Aside0.mk (hbox)
            have n4_ := Aside0.mk ((by rw [hg]; exact (below_size (by exact HB.out)) : w.heap.size ≤ gb233))
            have n5_ := Aside0.mk ((by rw [hg]; exact (below_size (by exact HB.out)) : w.heap.size ≤ gb233))
            have n6_ := Aside0.mk ((by rw [hg]; exact Nat.ne_of_lt (blk_lt BK212.out) : gb212 ≠ gb233))
            have n7_ := Aside0.mk ((by rw [hg]; exact Nat.ne_of_gt (blk_lt BK212.out) : gb233 ≠ gb212))
            have n8_ := Aside0.mk ((by rw [hg]; exact Nat.ne_of_lt (blk_lt BK213.out) : gb213 ≠ gb233))
            have n9_ := Aside0.mk ((by rw [hg]; exact Nat.ne_of_gt (blk_lt BK213.out) : gb233 ≠ gb213))
            clear BK212
            clear BK213
            clear HB
            have BK212 := n0_
            have BK213 := n1_
            have HB := n2_
            have BK233 := n3_
            have GW233 := n4_
            have GE233 := n5_
            have NB212_233 := n6_
            have NB233_212 := n7_
            have NB213_233 := n8_
            have NB233_213 := n9_
            clear n0_ n1_ n2_ n3_ n4_ n5_ n6_ n7_ n8_ n9_
            clear hb hbox hg
            refine hK.out _ _ ⟨(blk_cell BK213.out 0).trans rfl, (blk_cell BK213.out 1).trans rfl, (blk_cell BK213.out 2).trans rfl, (blk_cell BK213.out 3).trans rfl, (blk_cell BK213.out 4).trans rfl, (blk_cell BK213.out 5).trans rfl, (blk_cell BK213.out 6).trans rfl, (blk_cell BK213.out 7).trans rfl, (blk_cell BK213.out 8).trans rfl, (blk_cell BK213.out 9).trans rfl⟩ (fun hHeld => ?_)
            clear hK K
            refine norm_ (a' := ?_) ?_ ?_
            rotate_left
            · show Act.put _ (some 3) _ = _
              simp only [Act.put, List.setIfInBounds_toArray, List.set_cons_zero, List.set_cons_succ, i64_w, i32_w]
              rfl
            refine one_ (i := 4) (N := some 14) #[true, true, true, true, true, false, false, false, true, false, false] rfl rfl (one_of HT_.out (by kernel_rfl)) (by decide) (fun K hK => ?_)
            refine goes_ Try.func15 (by kernel_rfl) rfl #[.agg #[.int .i64 0, .int .i64 1000000000, .int .i64 16777216, .int .i64 16777216, .int .i64 0, .int .i64 1000000000, .int .i64 16777216, .int .i64 16777216, .int .i64 0, .int .i64 0], .agg #[.int .i64 t214, .int .i64 t215, .int .i64 t216, .bool t217, .int .i64 t218, .int .i64 t219, .int .i64 t220, .bool t221, .int .i64 t222], .agg #[.int .i64 0, .int .i64 0]] (by rfl) rfl rfl (by (try simp only [List.map_toArray, List.map_cons, List.map_nil]); first | done | rfl | (simp only [List.length_drop, List.length_take]; rfl)) ?_
            with_reducible refine (mount_Goto.calls k 0 1000000000 16777216 16777216 0 1000000000 16777216 16777216 0 0 t214 t215 t216 t217 t218 t219 t220 t221 t222 0 0 t223 t224 t225 t226 t227 t228 t229 t230 t231 t232 _ A2.out).mono ?_
            rintro e w37 ⟨rfl, hb⟩
            refine ⟨_, rfl, ?_⟩
            have n0_ := Aside0.mk (blk_below BK212.out hb)
            have n1_ := Aside0.mk (blk_below BK213.out hb)
            have n2_ := Aside0.mk (blk_below BK233.out hb)
            have n3_ := Aside0.mk (below_step (by exact HB.out) hb)
            clear BK212
            clear BK213
            clear BK233
            clear HB
            have BK212 := n0_
            have BK213 := n1_
            have BK233 := n2_
            have HB := n3_
            clear n0_ n1_ n2_ n3_
            (try clear hb)
            (try clear hb2)
            (try clear hk)
            (try clear hi)
            refine hK.out _ _ ⟨(blk_cell BK213.out 0).trans rfl, (blk_cell BK213.out 1).trans rfl, (blk_cell BK213.out 2).trans rfl, (blk_cell BK213.out 3).trans rfl, (blk_cell BK213.out 4).trans rfl, (blk_cell BK213.out 5).trans rfl, (blk_cell BK213.out 6).trans rfl, (blk_cell BK213.out 7).trans rfl, (blk_cell BK213.out 8).trans rfl, (blk_cell BK213.out 9).trans rfl⟩ (fun hHeld => ?_)
            clear hK K
            refine norm_ (a' := ?_) ?_ ?_
            rotate_left
            · show Act.put _ (some 14) _ = _
              simp only [Act.put, List.setIfInBounds_toArray, List.set_cons_zero, List.set_cons_succ, i64_w, i32_w]
              rfl
            refine pure_ (i := 5) (N := some 9) (v := ?_) (a' := ?_) #[true, true, true, true, true, true, false, false, true, false, false] rfl rfl (any_of HT_.out (by kernel_rfl)) (fun _ _ _ h => h) (Or.inl ⟨by rfl, ?_⟩) ?_ ?_
            rotate_left
            · intro w'
              go_simp
              with_reducible rfl
            rotate_left
            · simp only [Act.put, List.setIfInBounds_toArray, List.set_cons_zero, List.set_cons_succ, i64_w, i32_w]
              rfl
            refine pure_ (i := 6) (N := some 15) (v := ?_) (a' := ?_) #[true, true, true, true, true, true, true, false, true, false, false] rfl rfl (any_of HT_.out (by kernel_rfl)) (fun _ _ _ h => h) (Or.inl ⟨by rfl, ?_⟩) ?_ ?_
            rotate_left
            · intro w'
              go_simp
              with_reducible rfl
            rotate_left
            · simp only [Act.put, List.setIfInBounds_toArray, List.set_cons_zero, List.set_cons_succ, i64_w, i32_w]
              rfl
            refine pure_ (i := 7) (N := some 16) (v := ?_) (a' := ?_) #[true, true, true, true, true, true, true, true, true, false, false] rfl rfl (any_of HT_.out (by kernel_rfl)) (fun _ _ _ h => h) (Or.inl ⟨by rfl, ?_⟩) ?_ ?_
            rotate_left
            · intro w'
              go_simp
              with_reducible rfl
            rotate_left
            · simp only [Act.put, List.setIfInBounds_toArray, List.set_cons_zero, List.set_cons_succ, i64_w, i32_w]
              rfl
            exact norm_ (by simp only [putAll, Act.put, List.setIfInBounds_toArray, List.set_cons_zero, List.set_cons_succ]) (hCont (gb233) _ ⟨hHeld, (by exact BK212.out), (by exact BK213.out), (by exact BK233.out), GW233.out, GE233.out, NB212_233.out, NB233_212.out, NB213_233.out, NB233_213.out, (by exact HB.out)⟩)
        · skip
          refine box_step ?hg (N := 3) ?hd (cs := #[.int .i64 0, .int .i64 0, .int .i64 0, .bool false, .int .i64 0, .int .i64 0, .int .i64 0, .bool false, .int .i64 0]) (t := 37) ?hr ?_; (case hd => rfl); (case hg => rfl); (case hr => first | (go_simp; done) | (go_simp; rfl))
          intro gb233 hg w35 hbox hb
          have n0_ := Aside0.mk (blk_below BK212.out hb)
          have n1_ := Aside0.mk (blk_below BK213.out hb)
          have n2_ := Aside0.mk (below_step (by exact HB.out) hb)
          have n3_ := Aside0.mk (hbox)
          have n4_ := Aside0.mk ((by rw [hg]; exact (below_size (by exact HB.out)) : w.heap.size ≤ gb233))
          have n5_ := Aside0.mk ((by rw [hg]; exact (below_size (by exact HB.out)) : w.heap.size ≤ gb233))
          have n6_ := Aside0.mk ((by rw [hg]; exact Nat.ne_of_lt (blk_lt BK212.out) : gb212 ≠ gb233))
          have n7_ := Aside0.mk ((by rw [hg]; exact Nat.ne_of_gt (blk_lt BK212.out) : gb233 ≠ gb212))
          have n8_ := Aside0.mk ((by rw [hg]; exact Nat.ne_of_lt (blk_lt BK213.out) : gb213 ≠ gb233))
          have n9_ := Aside0.mk ((by rw [hg]; exact Nat.ne_of_gt (blk_lt BK213.out) : gb233 ≠ gb213))
          clear BK212
          clear BK213
          clear HB
          have BK212 := n0_
          have BK213 := n1_
          have HB := n2_
          have BK233 := n3_
          have GW233 := n4_
          have GE233 := n5_
          have NB212_233 := n6_
          have NB233_212 := n7_
          have NB213_233 := n8_
          have NB233_213 := n9_
          clear n0_ n1_ n2_ n3_ n4_ n5_ n6_ n7_ n8_ n9_
          clear hb hbox hg
          refine hK.out _ _ ⟨(blk_cell BK213.out 0).trans rfl, (blk_cell BK213.out 1).trans rfl, (blk_cell BK213.out 2).trans rfl, (blk_cell BK213.out 3).trans rfl, (blk_cell BK213.out 4).trans rfl, (blk_cell BK213.out 5).trans rfl, (blk_cell BK213.out 6).trans rfl, (blk_cell BK213.out 7).trans rfl, (blk_cell BK213.out 8).trans rfl, (blk_cell BK213.out 9).trans rfl⟩ (fun hHeld => ?_)
          clear hK K
          refine norm_ (a' := ?_) ?_ ?_
          rotate_left
          · show Act.put _ (some 3) _ = _
            simp only [Act.put, List.setIfInBounds_toArray, List.set_cons_zero, List.set_cons_succ, i64_w, i32_w]
            rfl
          refine one_ (i := 2) (N := some 12) #[true, true, true, true, false, false, false, false, true, false, false] rfl rfl (one_of HT_.out (by kernel_rfl)) (by decide) (fun K hK => ?_)
          refine goes_ Try.func12 (by kernel_rfl) rfl #[.agg #[.int .i64 0, .int .i64 1000000000, .int .i64 16777216, .int .i64 16777216, .int .i64 0, .int .i64 1000000000, .int .i64 16777216, .int .i64 16777216, .int .i64 0, .int .i64 0]] (by rfl) rfl rfl (by (try simp only [List.map_toArray, List.map_cons, List.map_nil]); first | done | rfl | (simp only [List.length_drop, List.length_take]; rfl)) ?_
          with_reducible refine (mount_Rest.calls 0 1000000000 16777216 16777216 0 1000000000 16777216 16777216 0 0 t214 t215 t216 t217 t218 t219 t220 t221 t222 _ A1.out).mono ?_
          rintro e w36 ⟨rfl, hb⟩
          refine ⟨_, rfl, ?_⟩
          have n0_ := Aside0.mk (blk_below BK212.out hb)
          have n1_ := Aside0.mk (blk_below BK213.out hb)
          have n2_ := Aside0.mk (blk_below BK233.out hb)
          have n3_ := Aside0.mk (below_step (by exact HB.out) hb)
          clear BK212
          clear BK213
          clear BK233
          clear HB
          have BK212 := n0_
          have BK213 := n1_
          have BK233 := n2_
          have HB := n3_
          clear n0_ n1_ n2_ n3_
          (try clear hb)
          (try clear hb2)
          (try clear hk)
          (try clear hi)
          refine hK.out _ _ ⟨(blk_cell BK213.out 0).trans rfl, (blk_cell BK213.out 1).trans rfl, (blk_cell BK213.out 2).trans rfl, (blk_cell BK213.out 3).trans rfl, (blk_cell BK213.out 4).trans rfl, (blk_cell BK213.out 5).trans rfl, (blk_cell BK213.out 6).trans rfl, (blk_cell BK213.out 7).trans rfl, (blk_cell BK213.out 8).trans rfl, (blk_cell BK213.out 9).trans rfl⟩ (fun hHeld => ?_)
          clear hK K
          refine norm_ (a' := ?_) ?_ ?_
          rotate_left
          · show Act.put _ (some 12) _ = _
            simp only [Act.put, List.setIfInBounds_toArray, List.set_cons_zero, List.set_cons_succ, i64_w, i32_w]
            rfl
          refine one_ (i := 4) (N := some 14) #[true, true, true, true, true, false, false, false, true, false, false] rfl rfl (one_of HT_.out (by kernel_rfl)) (by decide) (fun K hK => ?_)
          refine goes_ Try.func15 (by kernel_rfl) rfl #[.agg #[.int .i64 0, .int .i64 1000000000, .int .i64 16777216, .int .i64 16777216, .int .i64 0, .int .i64 1000000000, .int .i64 16777216, .int .i64 16777216, .int .i64 0, .int .i64 0], .agg #[.int .i64 t214, .int .i64 t215, .int .i64 t216, .bool t217, .int .i64 t218, .int .i64 t219, .int .i64 t220, .bool t221, .int .i64 t222], .agg #[.int .i64 0, .int .i64 0]] (by rfl) rfl rfl (by (try simp only [List.map_toArray, List.map_cons, List.map_nil]); first | done | rfl | (simp only [List.length_drop, List.length_take]; rfl)) ?_
          with_reducible refine (mount_Goto.calls k 0 1000000000 16777216 16777216 0 1000000000 16777216 16777216 0 0 t214 t215 t216 t217 t218 t219 t220 t221 t222 0 0 t223 t224 t225 t226 t227 t228 t229 t230 t231 t232 _ A2.out).mono ?_
          rintro e w37 ⟨rfl, hb⟩
          refine ⟨_, rfl, ?_⟩
          have n0_ := Aside0.mk (blk_below BK212.out hb)
          have n1_ := Aside0.mk (blk_below BK213.out hb)
          have n2_ := Aside0.mk (blk_below BK233.out hb)
          have n3_ := Aside0.mk (below_step (by exact HB.out) hb)
          clear BK212
          clear BK213
          clear BK233
          clear HB
          have BK212 := n0_
          have BK213 := n1_
          have BK233 := n2_
          have HB := n3_
          clear n0_ n1_ n2_ n3_
          (try clear hb)
          (try clear hb2)
          (try clear hk)
          (try clear hi)
          refine hK.out _ _ ⟨(blk_cell BK213.out 0).trans rfl, (blk_cell BK213.out 1).trans rfl, (blk_cell BK213.out 2).trans rfl, (blk_cell BK213.out 3).trans rfl, (blk_cell BK213.out 4).trans rfl, (blk_cell BK213.out 5).trans rfl, (blk_cell BK213.out 6).trans rfl, (blk_cell BK213.out 7).trans rfl, (blk_cell BK213.out 8).trans rfl, (blk_cell BK213.out 9).trans rfl⟩ (fun hHeld => ?_)
          clear hK K
          refine norm_ (a' := ?_) ?_ ?_
          rotate_left
          · show Act.put _ (some 14) _ = _
            simp only [Act.put, List.setIfInBounds_toArray, List.set_cons_zero, List.set_cons_succ, i64_w, i32_w]
            rfl
          refine pure_ (i := 5) (N := some 9) (v := ?_) (a' := ?_) #[true, true, true, true, true, true, false, false, true, false, false] rfl rfl (any_of HT_.out (by kernel_rfl)) (fun _ _ _ h => h) (Or.inl ⟨by rfl, ?_⟩) ?_ ?_
          rotate_left
          · intro w'
            go_simp
            with_reducible rfl
          rotate_left
          · simp only [Act.put, List.setIfInBounds_toArray, List.set_cons_zero, List.set_cons_succ, i64_w, i32_w]
            rfl
          refine pure_ (i := 6) (N := some 15) (v := ?_) (a' := ?_) #[true, true, true, true, true, true, true, false, true, false, false] rfl rfl (any_of HT_.out (by kernel_rfl)) (fun _ _ _ h => h) (Or.inl ⟨by rfl, ?_⟩) ?_ ?_
          rotate_left
          · intro w'
            go_simp
            with_reducible rfl
          rotate_left
          · simp only [Act.put, List.setIfInBounds_toArray, List.set_cons_zero, List.set_cons_succ, i64_w, i32_w]
            rfl
          refine pure_ (i := 7) (N := some 16) (v := ?_) (a' := ?_) #[true, true, true, true, true, true, true, true, true, false, false] rfl rfl (any_of HT_.out (by kernel_rfl)) (fun _ _ _ h => h) (Or.inl ⟨by rfl, ?_⟩) ?_ ?_
          rotate_left
          · intro w'
            go_simp
            with_reducible rfl
          rotate_left
          · simp only [Act.put, List.setIfInBounds_toArray, List.set_cons_zero, List.set_cons_succ, i64_w, i32_w]
            rfl
          exact norm_ (by simp only [putAll, Act.put, List.setIfInBounds_toArray, List.set_cons_zero, List.set_cons_succ]) (hCont (gb233) _ ⟨hHeld, (by exact BK212.out), (by exact BK213.out), (by exact BK233.out), GW233.out, GE233.out, NB212_233.out, NB233_212.out, NB213_233.out, NB233_213.out, (by exact HB.out)⟩)
      rintro gb233 w38 ⟨hS_, h0_, h1_, h2_, h3_, h4_, h5_, h6_, h7_, h8_, h9_⟩
      have n0_ : Aside0 (w38.heap[gb212]? = some (.cells #[.int .i64 0, .int .i64 1000000000, .int .i64 16777216, .int .i64 16777216] 28 (0, 0))) := ⟨h0_⟩
      have n1_ : Aside0 (w38.heap[gb213]? = some (.cells #[.int .i64 0, .int .i64 1000000000, .int .i64 16777216, .int .i64 16777216, .int .i64 0, .int .i64 1000000000, .int .i64 16777216, .int .i64 16777216, .int .i64 0, .int .i64 0] 32 (0, 0))) := ⟨h1_⟩
      have n2_ : Aside0 (w38.heap[gb233]? = some (.cells #[.int .i64 0, .int .i64 0, .int .i64 0, .bool false, .int .i64 0, .int .i64 0, .int .i64 0, .bool false, .int .i64 0] 37 (0, 0))) := ⟨h2_⟩
      have n3_ : Aside0 (w.heap.size ≤ gb233) := ⟨h3_⟩
      have n4_ : Aside0 (w.heap.size ≤ gb233) := ⟨h4_⟩
      have n5_ : Aside0 (gb212 ≠ gb233) := ⟨h5_⟩
      have n6_ : Aside0 (gb233 ≠ gb212) := ⟨h6_⟩
      have n7_ : Aside0 (gb213 ≠ gb233) := ⟨h7_⟩
      have n8_ : Aside0 (gb233 ≠ gb213) := ⟨h8_⟩
      have n9_ : Aside0 (Below w.heap.size w w38) := ⟨h9_⟩
      clear BK212
      clear BK213
      clear HB
      clear h0_ h1_ h2_ h3_ h4_ h5_ h6_ h7_ h8_ h9_
      have BK212 := n0_
      have BK213 := n1_
      have BK233 := n2_
      have GW233 := n3_
      have GE233 := n4_
      have NB212_233 := n5_
      have NB233_212 := n6_
      have NB213_233 := n7_
      have NB233_213 := n8_
      have HB := n9_
      clear n0_ n1_ n2_ n3_ n4_ n5_ n6_ n7_ n8_ n9_
      have hHeld : w38.cell? ⟨gb213, 0, none⟩ = some (.int .i64 0) ∧ w38.cell? ⟨gb213, 1, none⟩ = some (.int .i64 1000000000) ∧ w38.cell? ⟨gb213, 2, none⟩ = some (.int .i64 16777216) ∧ w38.cell? ⟨gb213, 3, none⟩ = some (.int .i64 16777216) ∧ w38.cell? ⟨gb213, 4, none⟩ = some (.int .i64 0) ∧ w38.cell? ⟨gb213, 5, none⟩ = some (.int .i64 1000000000) ∧ w38.cell? ⟨gb213, 6, none⟩ = some (.int .i64 16777216) ∧ w38.cell? ⟨gb213, 7, none⟩ = some (.int .i64 16777216) ∧ w38.cell? ⟨gb213, 8, none⟩ = some (.int .i64 0) ∧ w38.cell? ⟨gb213, 9, none⟩ = some (.int .i64 0) := hS_
      refine norm_ (a' := ?_) ?_ ?_
      rotate_left
      · simp only [putAll, Act.put, List.setIfInBounds_toArray, List.set_cons_zero, List.set_cons_succ]
        rfl
      refine one_ (i := 9) (N := none) #[true, true, true, true, true, true, true, true, true, true, false] rfl rfl (one_of HT_.out (by kernel_rfl)) (by decide) (fun K hK => ?_)
      have hs39 : w38.cell? ⟨gb233, 0, none⟩ = some (.int .i64 0) := (blk_cell BK233.out 0).trans rfl
      have hfs39 := blk_frozen BK233.out 0
      have hns39_0 := NB212_233.out
      have hns39_1 := NB213_233.out
      have hms39_0 := NB233_212.out
      have hms39_1 := NB233_213.out
      have hs40 : w38.cell? ⟨gb233, 1, none⟩ = some (.int .i64 0) := (blk_cell BK233.out 1).trans rfl
      have hfs40 := blk_frozen BK233.out 1
      have hns40_0 := NB212_233.out
      have hns40_1 := NB213_233.out
      have hms40_0 := NB233_212.out
      have hms40_1 := NB233_213.out
      have hs41 : w38.cell? ⟨gb233, 2, none⟩ = some (.int .i64 0) := (blk_cell BK233.out 2).trans rfl
      have hfs41 := blk_frozen BK233.out 2
      have hns41_0 := NB212_233.out
      have hns41_1 := NB213_233.out
      have hms41_0 := NB233_212.out
      have hms41_1 := NB233_213.out
      have hs42 : w38.cell? ⟨gb233, 3, none⟩ = some (.bool false) := (blk_cell BK233.out 3).trans rfl
      have hfs42 := blk_frozen BK233.out 3
      have hns42_0 := NB212_233.out
      have hns42_1 := NB213_233.out
      have hms42_0 := NB233_212.out
      have hms42_1 := NB233_213.out
      have hs43 : w38.cell? ⟨gb233, 4, none⟩ = some (.int .i64 0) := (blk_cell BK233.out 4).trans rfl
      have hfs43 := blk_frozen BK233.out 4
      have hns43_0 := NB212_233.out
      have hns43_1 := NB213_233.out
      have hms43_0 := NB233_212.out
      have hms43_1 := NB233_213.out
      have hs44 : w38.cell? ⟨gb233, 5, none⟩ = some (.int .i64 0) := (blk_cell BK233.out 5).trans rfl
      have hfs44 := blk_frozen BK233.out 5
      have hns44_0 := NB212_233.out
      have hns44_1 := NB213_233.out
      have hms44_0 := NB233_212.out
      have hms44_1 := NB233_213.out
      have hs45 : w38.cell? ⟨gb233, 6, none⟩ = some (.int .i64 0) := (blk_cell BK233.out 6).trans rfl
      have hfs45 := blk_frozen BK233.out 6
      have hns45_0 := NB212_233.out
      have hns45_1 := NB213_233.out
      have hms45_0 := NB233_212.out
      have hms45_1 := NB233_213.out
      have hs46 : w38.cell? ⟨gb233, 7, none⟩ = some (.bool false) := (blk_cell BK233.out 7).trans rfl
      have hfs46 := blk_frozen BK233.out 7
      have hns46_0 := NB212_233.out
      have hns46_1 := NB213_233.out
      have hms46_0 := NB233_212.out
      have hms46_1 := NB233_213.out
      have hs47 : w38.cell? ⟨gb233, 8, none⟩ = some (.int .i64 0) := (blk_cell BK233.out 8).trans rfl
      have hfs47 := blk_frozen BK233.out 8
      have hns47_0 := NB212_233.out
      have hns47_1 := NB213_233.out
      have hms47_0 := NB233_212.out
      have hms47_1 := NB233_213.out
      refine skip_ (w1 := ?_) (by rfl) rfl ?_ ?_
      rotate_left
      · go_simp
        rfl
      refine hK.out _ _ ⟨((cell_far (p := ⟨gb233, _, none⟩) NB213_233.out _).trans (((cell_far (p := ⟨gb233, _, none⟩) NB213_233.out _).trans (((cell_far (p := ⟨gb233, _, none⟩) NB213_233.out _).trans (((cell_far (p := ⟨gb233, _, none⟩) NB213_233.out _).trans (((cell_far (p := ⟨gb233, _, none⟩) NB213_233.out _).trans (((cell_far (p := ⟨gb233, _, none⟩) NB213_233.out _).trans (((cell_far (p := ⟨gb233, _, none⟩) NB213_233.out _).trans (((cell_far (p := ⟨gb233, _, none⟩) NB213_233.out _).trans (((cell_far (p := ⟨gb233, _, none⟩) NB213_233.out _).trans (hHeld.1)))))))))))))))))), ((cell_far (p := ⟨gb233, _, none⟩) NB213_233.out _).trans (((cell_far (p := ⟨gb233, _, none⟩) NB213_233.out _).trans (((cell_far (p := ⟨gb233, _, none⟩) NB213_233.out _).trans (((cell_far (p := ⟨gb233, _, none⟩) NB213_233.out _).trans (((cell_far (p := ⟨gb233, _, none⟩) NB213_233.out _).trans (((cell_far (p := ⟨gb233, _, none⟩) NB213_233.out _).trans (((cell_far (p := ⟨gb233, _, none⟩) NB213_233.out _).trans (((cell_far (p := ⟨gb233, _, none⟩) NB213_233.out _).trans (((cell_far (p := ⟨gb233, _, none⟩) NB213_233.out _).trans (hHeld.2.1)))))))))))))))))), ((cell_far (p := ⟨gb233, _, none⟩) NB213_233.out _).trans (((cell_far (p := ⟨gb233, _, none⟩) NB213_233.out _).trans (((cell_far (p := ⟨gb233, _, none⟩) NB213_233.out _).trans (((cell_far (p := ⟨gb233, _, none⟩) NB213_233.out _).trans (((cell_far (p := ⟨gb233, _, none⟩) NB213_233.out _).trans (((cell_far (p := ⟨gb233, _, none⟩) NB213_233.out _).trans (((cell_far (p := ⟨gb233, _, none⟩) NB213_233.out _).trans (((cell_far (p := ⟨gb233, _, none⟩) NB213_233.out _).trans (((cell_far (p := ⟨gb233, _, none⟩) NB213_233.out _).trans (hHeld.2.2.1)))))))))))))))))), ((cell_far (p := ⟨gb233, _, none⟩) NB213_233.out _).trans (((cell_far (p := ⟨gb233, _, none⟩) NB213_233.out _).trans (((cell_far (p := ⟨gb233, _, none⟩) NB213_233.out _).trans (((cell_far (p := ⟨gb233, _, none⟩) NB213_233.out _).trans (((cell_far (p := ⟨gb233, _, none⟩) NB213_233.out _).trans (((cell_far (p := ⟨gb233, _, none⟩) NB213_233.out _).trans (((cell_far (p := ⟨gb233, _, none⟩) NB213_233.out _).trans (((cell_far (p := ⟨gb233, _, none⟩) NB213_233.out _).trans (((cell_far (p := ⟨gb233, _, none⟩) NB213_233.out _).trans (hHeld.2.2.2.1)))))))))))))))))), ((cell_far (p := ⟨gb233, _, none⟩) NB213_233.out _).trans (((cell_far (p := ⟨gb233, _, none⟩) NB213_233.out _).trans (((cell_far (p := ⟨gb233, _, none⟩) NB213_233.out _).trans (((cell_far (p := ⟨gb233, _, none⟩) NB213_233.out _).trans (((cell_far (p := ⟨gb233, _, none⟩) NB213_233.out _).trans (((cell_far (p := ⟨gb233, _, none⟩) NB213_233.out _).trans (((cell_far (p := ⟨gb233, _, none⟩) NB213_233.out _).trans (((cell_far (p := ⟨gb233, _, none⟩) NB213_233.out _).trans (((cell_far (p := ⟨gb233, _, none⟩) NB213_233.out _).trans (hHeld.2.2.2.2.1)))))))))))))))))), ((cell_far (p := ⟨gb233, _, none⟩) NB213_233.out _).trans (((cell_far (p := ⟨gb233, _, none⟩) NB213_233.out _).trans (((cell_far (p := ⟨gb233, _, none⟩) NB213_233.out _).trans (((cell_far (p := ⟨gb233, _, none⟩) NB213_233.out _).trans (((cell_far (p := ⟨gb233, _, none⟩) NB213_233.out _).trans (((cell_far (p := ⟨gb233, _, none⟩) NB213_233.out _).trans (((cell_far (p := ⟨gb233, _, none⟩) NB213_233.out _).trans (((cell_far (p := ⟨gb233, _, none⟩) NB213_233.out _).trans (((cell_far (p := ⟨gb233, _, none⟩) NB213_233.out _).trans (hHeld.2.2.2.2.2.1)))))))))))))))))), ((cell_far (p := ⟨gb233, _, none⟩) NB213_233.out _).trans (((cell_far (p := ⟨gb233, _, none⟩) NB213_233.out _).trans (((cell_far (p := ⟨gb233, _, none⟩) NB213_233.out _).trans (((cell_far (p := ⟨gb233, _, none⟩) NB213_233.out _).trans (((cell_far (p := ⟨gb233, _, none⟩) NB213_233.out _).trans (((cell_far (p := ⟨gb233, _, none⟩) NB213_233.out _).trans (((cell_far (p := ⟨gb233, _, none⟩) NB213_233.out _).trans (((cell_far (p := ⟨gb233, _, none⟩) NB213_233.out _).trans (((cell_far (p := ⟨gb233, _, none⟩) NB213_233.out _).trans (hHeld.2.2.2.2.2.2.1)))))))))))))))))), ((cell_far (p := ⟨gb233, _, none⟩) NB213_233.out _).trans (((cell_far (p := ⟨gb233, _, none⟩) NB213_233.out _).trans (((cell_far (p := ⟨gb233, _, none⟩) NB213_233.out _).trans (((cell_far (p := ⟨gb233, _, none⟩) NB213_233.out _).trans (((cell_far (p := ⟨gb233, _, none⟩) NB213_233.out _).trans (((cell_far (p := ⟨gb233, _, none⟩) NB213_233.out _).trans (((cell_far (p := ⟨gb233, _, none⟩) NB213_233.out _).trans (((cell_far (p := ⟨gb233, _, none⟩) NB213_233.out _).trans (((cell_far (p := ⟨gb233, _, none⟩) NB213_233.out _).trans (hHeld.2.2.2.2.2.2.2.1)))))))))))))))))), ((cell_far (p := ⟨gb233, _, none⟩) NB213_233.out _).trans (((cell_far (p := ⟨gb233, _, none⟩) NB213_233.out _).trans (((cell_far (p := ⟨gb233, _, none⟩) NB213_233.out _).trans (((cell_far (p := ⟨gb233, _, none⟩) NB213_233.out _).trans (((cell_far (p := ⟨gb233, _, none⟩) NB213_233.out _).trans (((cell_far (p := ⟨gb233, _, none⟩) NB213_233.out _).trans (((cell_far (p := ⟨gb233, _, none⟩) NB213_233.out _).trans (((cell_far (p := ⟨gb233, _, none⟩) NB213_233.out _).trans (((cell_far (p := ⟨gb233, _, none⟩) NB213_233.out _).trans (hHeld.2.2.2.2.2.2.2.2.1)))))))))))))))))), ((cell_far (p := ⟨gb233, _, none⟩) NB213_233.out _).trans (((cell_far (p := ⟨gb233, _, none⟩) NB213_233.out _).trans (((cell_far (p := ⟨gb233, _, none⟩) NB213_233.out _).trans (((cell_far (p := ⟨gb233, _, none⟩) NB213_233.out _).trans (((cell_far (p := ⟨gb233, _, none⟩) NB213_233.out _).trans (((cell_far (p := ⟨gb233, _, none⟩) NB213_233.out _).trans (((cell_far (p := ⟨gb233, _, none⟩) NB213_233.out _).trans (((cell_far (p := ⟨gb233, _, none⟩) NB213_233.out _).trans (((cell_far (p := ⟨gb233, _, none⟩) NB213_233.out _).trans (hHeld.2.2.2.2.2.2.2.2.2))))))))))))))))))⟩ (fun hHeld => ?_)
      clear hK K
      refine pure_ (i := 10) (N := some 4) (v := ?_) (a' := ?_) #[true, true, true, true, true, true, true, true, true, true, true] rfl rfl (any_of HT_.out (by kernel_rfl)) (fun _ _ _ h => h) (Or.inl ⟨by rfl, ?_⟩) ?_ ?_
      rotate_left
      · intro w'
        go_simp
        with_reducible rfl
      rotate_left
      · simp only [Act.put, List.setIfInBounds_toArray, List.set_cons_zero, List.set_cons_succ, i64_w, i32_w]
        rfl
      refine done_ (done_of HT_.out (by kernel_rfl)) ?_
      have hcz48_0 := tch9 BK233.out
      try go_wp2
      go_ret
      exact ⟨by first | rfl | (simp [errW_none, errW_some] <;> rfl) | (simp [*, errW_none, errW_some] <;> rfl), by repeat (first | (with_reducible first | exact HB.out | apply below_alloc | apply pw_below_drewN | apply below_drew1 | refine below_set ?_ GE212.out | refine below_set ?_ GE213.out | refine below_set ?_ GE233.out) | exact HB.out)⟩
  · rw [if_neg c3] at H
    have c3b0 : (t232 == 0) = false := beq_eq_false_iff_ne.mpr c3
    have c3b1 : (t232 != 0) = true := bne_iff_ne.mpr c3
    obtain rfl := Option.some.inj H
    go_enter Try.func10, Try.ntmps10
    try go_wp2_with (first | ((with_reducible refine gate_dst (N := 1) rfl ?_); refine box_event ?hg (N := 1) ?hd (cs := #[.int .i64 0, .int .i64 0, .int .i64 0, .int .i64 0]) (t := 28) ?hr ?_; (case hd => rfl); (case hg => rfl); (case hr => first | (go_simp; done) | (go_simp; rfl)); intro gb212 hg w49 hbox hb; have n0_ := Aside0.mk (below_step (by exact HB.out) hb); have n1_ := Aside0.mk (hbox); have n2_ := Aside0.mk ((by rw [hg]; exact (below_size (by exact HB.out)) : w.heap.size ≤ gb212)); have n3_ := Aside0.mk ((by rw [hg]; exact (below_size (by exact HB.out)) : w.heap.size ≤ gb212)); clear HB; have HB := n0_; have BK212 := n1_; have GW212 := n2_; have GE212 := n3_; clear n0_ n1_ n2_ n3_; clear hb hbox hg) | ((with_reducible refine gate_store (t := 28) (p := 1) rfl ?_); refine store_row (t := 28) (p := 1) (v := ?vo_w50) ?hgd ?ho ?hN gb212 0 #[.int .i64 0, .int .i64 0, .int .i64 0, .int .i64 0] [.int .i64 0, .int .i64 1000000000, .int .i64 16777216, .int .i64 16777216] #[.int .i64 0, .int .i64 1000000000, .int .i64 16777216, .int .i64 16777216] ?hx ?hy (by exact BK212.out) szi28 (Nat.le_of_ble_eq_true rfl) ?h1 ?hnew ?_; (case ho => rfl); (case hgd => rfl); (case hN => rfl); (case hx => rfl); (case hy => first | rfl | (go_simp; done) | (go_simp; rfl)); (case h1 => rfl); (case hnew => rfl); intro w50 hbox hg; have n0_ := Aside0.mk (pw_below_grown (by exact HB.out) (some gb212) (below_size (by exact HB.out)) hg (fun k_ e_ => by cases e_; exact GE212.out)); have n1_ := Aside0.mk (hbox); clear HB; clear BK212; have HB := n0_; have BK212 := n1_; clear n0_ n1_; clear hbox hg; have hcz51_0 := tch4 BK212.out) | ((with_reducible refine gate_dst (N := 2) rfl ?_); refine box_event ?hg (N := 2) ?hd (cs := #[.int .i64 0, .int .i64 0, .int .i64 0, .int .i64 0, .int .i64 0, .int .i64 0, .int .i64 0, .int .i64 0, .int .i64 0, .int .i64 0]) (t := 32) ?hr ?_; (case hd => rfl); (case hg => rfl); (case hr => first | (go_simp; done) | (go_simp; rfl)); intro gb213 hg w52 hbox hb; have n0_ := Aside0.mk (blk_below BK212.out hb); have n1_ := Aside0.mk (below_step (by exact HB.out) hb); have n2_ := Aside0.mk (hbox); have n3_ := Aside0.mk ((by rw [hg]; exact (below_size (by exact HB.out)) : w.heap.size ≤ gb213)); have n4_ := Aside0.mk ((by rw [hg]; exact (below_size (by exact HB.out)) : w.heap.size ≤ gb213)); have n5_ := Aside0.mk ((by rw [hg]; exact Nat.ne_of_lt (blk_lt BK212.out) : gb212 ≠ gb213)); clear BK212; clear HB; have BK212 := n0_; have HB := n1_; have BK213 := n2_; have GW213 := n3_; have GE213 := n4_; have NB212_213 := n5_; clear n0_ n1_ n2_ n3_ n4_ n5_; clear hb hbox hg) | ((with_reducible refine gate_store (t := 32) (p := 2) rfl ?_); refine store_row (t := 32) (p := 2) (v := ?vo_w53) ?hgd ?ho ?hN gb213 0 #[.int .i64 0, .int .i64 0, .int .i64 0, .int .i64 0, .int .i64 0, .int .i64 0, .int .i64 0, .int .i64 0, .int .i64 0, .int .i64 0] [.int .i64 0, .int .i64 1000000000, .int .i64 16777216, .int .i64 16777216, .int .i64 0, .int .i64 1000000000, .int .i64 16777216, .int .i64 16777216, .int .i64 0, .int .i64 0] #[.int .i64 0, .int .i64 1000000000, .int .i64 16777216, .int .i64 16777216, .int .i64 0, .int .i64 1000000000, .int .i64 16777216, .int .i64 16777216, .int .i64 0, .int .i64 0] ?hx ?hy (by exact BK213.out) szi32 (Nat.le_of_ble_eq_true rfl) ?h1 ?hnew ?_; (case ho => rfl); (case hgd => rfl); (case hN => rfl); (case hx => rfl); (case hy => first | rfl | (go_simp; done) | (go_simp; rfl)); (case h1 => rfl); (case hnew => rfl); intro w53 hbox hg; have n0_ := Aside0.mk (blk_grown BK212.out hg (fun e_ => NB212_213.out (Option.some.inj e_))); have n1_ := Aside0.mk (pw_below_grown (by exact HB.out) (some gb213) (below_size (by exact HB.out)) hg (fun k_ e_ => by cases e_; exact GE213.out)); have n2_ := Aside0.mk (hbox); clear BK212; clear HB; clear BK213; have BK212 := n0_; have HB := n1_; have BK213 := n2_; clear n0_ n1_ n2_; clear hbox hg))
    have n0_ := Aside0.mk (blk_drew BK212.out)
    have n1_ := Aside0.mk (blk_drew BK213.out)
    have n2_ := Aside0.mk (below_drew1 HB.out)
    clear BK212
    clear BK213
    clear HB
    have BK212 := n0_
    have BK213 := n1_
    have HB := n2_
    clear n0_ n1_ n2_
    refine start_ (n := 11) (S := fun w' => w'.cell? ⟨gb213, 0, none⟩ = some (.int .i64 0) ∧ w'.cell? ⟨gb213, 1, none⟩ = some (.int .i64 1000000000) ∧ w'.cell? ⟨gb213, 2, none⟩ = some (.int .i64 16777216) ∧ w'.cell? ⟨gb213, 3, none⟩ = some (.int .i64 16777216) ∧ w'.cell? ⟨gb213, 4, none⟩ = some (.int .i64 0) ∧ w'.cell? ⟨gb213, 5, none⟩ = some (.int .i64 1000000000) ∧ w'.cell? ⟨gb213, 6, none⟩ = some (.int .i64 16777216) ∧ w'.cell? ⟨gb213, 7, none⟩ = some (.int .i64 16777216) ∧ w'.cell? ⟨gb213, 8, none⟩ = some (.int .i64 0) ∧ w'.cell? ⟨gb213, 9, none⟩ = some (.int .i64 0)) (ds := []) #[false, false, false, false, false, false, false, false, false, false, false] (by kernel_rfl) rfl rfl ⟨(blk_cell BK213.out 0).trans rfl, (blk_cell BK213.out 1).trans rfl, (blk_cell BK213.out 2).trans rfl, (blk_cell BK213.out 3).trans rfl, (blk_cell BK213.out 4).trans rfl, (blk_cell BK213.out 5).trans rfl, (blk_cell BK213.out 6).trans rfl, (blk_cell BK213.out 7).trans rfl, (blk_cell BK213.out 8).trans rfl, (blk_cell BK213.out 9).trans rfl⟩ (fun hHeld => ?_); refine with_tabW spykeep2_drives.tab3 spykeep2_drives.bits3 (fun HT_ HW_ => ?_)
    generalize w53.drew = w54 at BK212 BK213 HB hHeld ⊢
    refine pure_ (i := 3) (N := some 13) (v := ?_) (a' := ?_) #[false, false, false, true, false, false, false, false, false, false, false] rfl rfl (any_of HT_.out (by kernel_rfl)) (fun _ _ _ h => h) (Or.inl ⟨by rfl, ?_⟩) ?_ ?_
    rotate_left
    · intro w'
      go_simp
      with_reducible rfl
    rotate_left
    · simp only [Act.put, List.setIfInBounds_toArray, List.set_cons_zero, List.set_cons_succ, i64_w, i32_w]
      rfl
    refine take_ (i := 0) (N := some 10) (v := ?_) (a' := ?_) #[true, false, false, true, false, false, false, false, false, false, false] rfl rfl (take_ofW HT_.out HW_.out (by kernel_rfl)) (fun _ _ _ h => h) (Or.inl ⟨by rfl, ?_⟩) hHeld ?_ ?_
    rotate_left
    · rintro w' ⟨s0, s1, s2, s3, s4, s5, s6, s7, s8, s9⟩
      go_simp
      with_reducible rfl
    rotate_left
    · simp only [Act.put, List.setIfInBounds_toArray, List.set_cons_zero, List.set_cons_succ, i64_w, i32_w]
      rfl
    refine take_ (i := 1) (N := some 11) (v := ?_) (a' := ?_) #[true, true, false, true, false, false, false, false, false, false, false] rfl rfl (take_ofW HT_.out HW_.out (by kernel_rfl)) (fun _ _ _ h => h) (Or.inl ⟨by rfl, ?_⟩) hHeld ?_ ?_
    rotate_left
    · rintro w' ⟨s0, s1, s2, s3, s4, s5, s6, s7, s8, s9⟩
      go_simp
      with_reducible rfl
    rotate_left
    · simp only [Act.put, List.setIfInBounds_toArray, List.set_cons_zero, List.set_cons_succ, i64_w, i32_w]
      rfl
    refine join_ (σ := Nat) 2 #[true, true, true, true, true, true, true, true, true, false, false] (fun s_ => [(12, .agg #[.int .i64 t214, .int .i64 t215, .int .i64 t216, .bool t217, .int .i64 t218, .int .i64 t219, .int .i64 t220, .bool t221, .int .i64 t222]), (14, .tuple #[.agg #[.int .i64 t223, .int .i64 t224, .int .i64 t225, .bool t226, .int .i64 t227, .int .i64 t228, .int .i64 t229, .bool t230, .int .i64 t231], .int .i64 t232]), (3, .pointer (some ⟨s_, 0, none⟩)), (9, .tuple #[.agg #[.int .i64 t223, .int .i64 t224, .int .i64 t225, .bool t226, .int .i64 t227, .int .i64 t228, .int .i64 t229, .bool t230, .int .i64 t231], .int .i64 t232]), (15, .agg #[.int .i64 t223, .int .i64 t224, .int .i64 t225, .bool t226, .int .i64 t227, .int .i64 t228, .int .i64 t229, .bool t230, .int .i64 t231]), (16, .int .i64 t232)]) (fun s_ w' => (w'.cell? ⟨gb213, 0, none⟩ = some (.int .i64 0) ∧ w'.cell? ⟨gb213, 1, none⟩ = some (.int .i64 1000000000) ∧ w'.cell? ⟨gb213, 2, none⟩ = some (.int .i64 16777216) ∧ w'.cell? ⟨gb213, 3, none⟩ = some (.int .i64 16777216) ∧ w'.cell? ⟨gb213, 4, none⟩ = some (.int .i64 0) ∧ w'.cell? ⟨gb213, 5, none⟩ = some (.int .i64 1000000000) ∧ w'.cell? ⟨gb213, 6, none⟩ = some (.int .i64 16777216) ∧ w'.cell? ⟨gb213, 7, none⟩ = some (.int .i64 16777216) ∧ w'.cell? ⟨gb213, 8, none⟩ = some (.int .i64 0) ∧ w'.cell? ⟨gb213, 9, none⟩ = some (.int .i64 0)) ∧ (w'.heap[gb212]? = some (.cells #[.int .i64 0, .int .i64 1000000000, .int .i64 16777216, .int .i64 16777216] 28 (0, 0))) ∧ (w'.heap[gb213]? = some (.cells #[.int .i64 0, .int .i64 1000000000, .int .i64 16777216, .int .i64 16777216, .int .i64 0, .int .i64 1000000000, .int .i64 16777216, .int .i64 16777216, .int .i64 0, .int .i64 0] 32 (0, 0))) ∧ (w'.heap[s_]? = some (.cells #[.int .i64 0, .int .i64 0, .int .i64 0, .bool false, .int .i64 0, .int .i64 0, .int .i64 0, .bool false, .int .i64 0] 37 (0, 0))) ∧ (w.heap.size ≤ s_) ∧ (w.heap.size ≤ s_) ∧ (gb212 ≠ s_) ∧ (s_ ≠ gb212) ∧ (gb213 ≠ s_) ∧ (s_ ≠ gb213) ∧ (Below w.heap.size w w')) ?_ ?_
    rotate_left
    · intro hCont
      refine two_ (i := 2) (j := 8) (Ni := some 12) (Nj := some 3) #[true, true, true, true, false, false, false, false, false, false, false] #[true, true, false, true, false, false, false, false, true, false, false] rfl rfl rfl rfl (two_of HT_.out (by kernel_rfl)) (by decide) (by decide) (fun K hK => ?_) (fun K hK => ?_)
      · skip
        refine goes_ Try.func12 (by kernel_rfl) rfl #[.agg #[.int .i64 0, .int .i64 1000000000, .int .i64 16777216, .int .i64 16777216, .int .i64 0, .int .i64 1000000000, .int .i64 16777216, .int .i64 16777216, .int .i64 0, .int .i64 0]] (by rfl) rfl rfl (by (try simp only [List.map_toArray, List.map_cons, List.map_nil]); first | done | rfl | (simp only [List.length_drop, List.length_take]; rfl)) ?_
        with_reducible refine (mount_Rest.calls 0 1000000000 16777216 16777216 0 1000000000 16777216 16777216 0 0 t214 t215 t216 t217 t218 t219 t220 t221 t222 _ A1.out).mono ?_
        rintro e w55 ⟨rfl, hb⟩
        refine ⟨_, rfl, ?_⟩
        have n0_ := Aside0.mk (blk_below BK212.out hb)
        have n1_ := Aside0.mk (blk_below BK213.out hb)
        have n2_ := Aside0.mk (below_step (by exact HB.out) hb)
        clear BK212
        clear BK213
        clear HB
        have BK212 := n0_
        have BK213 := n1_
        have HB := n2_
        clear n0_ n1_ n2_
        (try clear hb)
        (try clear hb2)
        (try clear hk)
        (try clear hi)
        refine hK.out _ _ ⟨(blk_cell BK213.out 0).trans rfl, (blk_cell BK213.out 1).trans rfl, (blk_cell BK213.out 2).trans rfl, (blk_cell BK213.out 3).trans rfl, (blk_cell BK213.out 4).trans rfl, (blk_cell BK213.out 5).trans rfl, (blk_cell BK213.out 6).trans rfl, (blk_cell BK213.out 7).trans rfl, (blk_cell BK213.out 8).trans rfl, (blk_cell BK213.out 9).trans rfl⟩ (fun hHeld => ?_)
        clear hK K
        refine norm_ (a' := ?_) ?_ ?_
        rotate_left
        · show Act.put _ (some 12) _ = _
          simp only [Act.put, List.setIfInBounds_toArray, List.set_cons_zero, List.set_cons_succ, i64_w, i32_w]
          rfl
        refine two_ (i := 4) (j := 8) (Ni := some 14) (Nj := some 3) #[true, true, true, true, true, false, false, false, false, false, false] #[true, true, true, true, false, false, false, false, true, false, false] rfl rfl rfl rfl (two_of HT_.out (by kernel_rfl)) (by decide) (by decide) (fun K hK => ?_) (fun K hK => ?_)
        · skip
          refine goes_ Try.func15 (by kernel_rfl) rfl #[.agg #[.int .i64 0, .int .i64 1000000000, .int .i64 16777216, .int .i64 16777216, .int .i64 0, .int .i64 1000000000, .int .i64 16777216, .int .i64 16777216, .int .i64 0, .int .i64 0], .agg #[.int .i64 t214, .int .i64 t215, .int .i64 t216, .bool t217, .int .i64 t218, .int .i64 t219, .int .i64 t220, .bool t221, .int .i64 t222], .agg #[.int .i64 0, .int .i64 0]] (by rfl) rfl rfl (by (try simp only [List.map_toArray, List.map_cons, List.map_nil]); first | done | rfl | (simp only [List.length_drop, List.length_take]; rfl)) ?_
          with_reducible refine (mount_Goto.calls k 0 1000000000 16777216 16777216 0 1000000000 16777216 16777216 0 0 t214 t215 t216 t217 t218 t219 t220 t221 t222 0 0 t223 t224 t225 t226 t227 t228 t229 t230 t231 t232 _ A2.out).mono ?_
          rintro e w56 ⟨rfl, hb⟩
          refine ⟨_, rfl, ?_⟩
          have n0_ := Aside0.mk (blk_below BK212.out hb)
          have n1_ := Aside0.mk (blk_below BK213.out hb)
          have n2_ := Aside0.mk (below_step (by exact HB.out) hb)
          clear BK212
          clear BK213
          clear HB
          have BK212 := n0_
          have BK213 := n1_
          have HB := n2_
          clear n0_ n1_ n2_
          (try clear hb)
          (try clear hb2)
          (try clear hk)
          (try clear hi)
          refine hK.out _ _ ⟨(blk_cell BK213.out 0).trans rfl, (blk_cell BK213.out 1).trans rfl, (blk_cell BK213.out 2).trans rfl, (blk_cell BK213.out 3).trans rfl, (blk_cell BK213.out 4).trans rfl, (blk_cell BK213.out 5).trans rfl, (blk_cell BK213.out 6).trans rfl, (blk_cell BK213.out 7).trans rfl, (blk_cell BK213.out 8).trans rfl, (blk_cell BK213.out 9).trans rfl⟩ (fun hHeld => ?_)
          clear hK K
          refine norm_ (a' := ?_) ?_ ?_
          rotate_left
          · show Act.put _ (some 14) _ = _
            simp only [Act.put, List.setIfInBounds_toArray, List.set_cons_zero, List.set_cons_succ, i64_w, i32_w]
            rfl
          refine pure_ (i := 5) (N := some 9) (v := ?_) (a' := ?_) #[true, true, true, true, true, true, false, false, false, false, false] rfl rfl (any_of HT_.out (by kernel_rfl)) (fun _ _ _ h => h) (Or.inl ⟨by rfl, ?_⟩) ?_ ?_
          rotate_left
          · intro w'
            go_simp
            with_reducible rfl
          rotate_left
          · simp only [Act.put, List.setIfInBounds_toArray, List.set_cons_zero, List.set_cons_succ, i64_w, i32_w]
            rfl
          refine pure_ (i := 6) (N := some 15) (v := ?_) (a' := ?_) #[true, true, true, true, true, true, true, false, false, false, false] rfl rfl (any_of HT_.out (by kernel_rfl)) (fun _ _ _ h => h) (Or.inl ⟨by rfl, ?_⟩) ?_ ?_
          rotate_left
          · intro w'
            go_simp
            with_reducible rfl
          rotate_left
          · simp only [Act.put, List.setIfInBounds_toArray, List.set_cons_zero, List.set_cons_succ, i64_w, i32_w]
            rfl
          refine pure_ (i := 7) (N := some 16) (v := ?_) (a' := ?_) #[true, true, true, true, true, true, true, true, false, false, false] rfl rfl (any_of HT_.out (by kernel_rfl)) (fun _ _ _ h => h) (Or.inl ⟨by rfl, ?_⟩) ?_ ?_
          rotate_left
          · intro w'
            go_simp
            with_reducible rfl
          rotate_left
          · simp only [Act.put, List.setIfInBounds_toArray, List.set_cons_zero, List.set_cons_succ, i64_w, i32_w]
            rfl
          refine one_ (i := 8) (N := some 3) #[true, true, true, true, true, true, true, true, true, false, false] rfl rfl (one_of HT_.out (by kernel_rfl)) (by decide) (fun K hK => ?_)
          refine box_step ?hg (N := 3) ?hd (cs := #[.int .i64 0, .int .i64 0, .int .i64 0, .bool false, .int .i64 0, .int .i64 0, .int .i64 0, .bool false, .int .i64 0]) (t := 37) ?hr ?_; (case hd => rfl); (case hg => rfl); (case hr => first | (go_simp; done) | (go_simp; rfl))
          intro gb233 hg w57 hbox hb
          have n0_ := Aside0.mk (blk_below BK212.out hb)
          have n1_ := Aside0.mk (blk_below BK213.out hb)
          have n2_ := Aside0.mk (below_step (by exact HB.out) hb)
          have n3_ := Aside0.mk (hbox)
          have n4_ := Aside0.mk ((by rw [hg]; exact (below_size (by exact HB.out)) : w.heap.size ≤ gb233))
          have n5_ := Aside0.mk ((by rw [hg]; exact (below_size (by exact HB.out)) : w.heap.size ≤ gb233))
          have n6_ := Aside0.mk ((by rw [hg]; exact Nat.ne_of_lt (blk_lt BK212.out) : gb212 ≠ gb233))
          have n7_ := Aside0.mk ((by rw [hg]; exact Nat.ne_of_gt (blk_lt BK212.out) : gb233 ≠ gb212))
          have n8_ := Aside0.mk ((by rw [hg]; exact Nat.ne_of_lt (blk_lt BK213.out) : gb213 ≠ gb233))
          have n9_ := Aside0.mk ((by rw [hg]; exact Nat.ne_of_gt (blk_lt BK213.out) : gb233 ≠ gb213))
          clear BK212
          clear BK213
          clear HB
          have BK212 := n0_
          have BK213 := n1_
          have HB := n2_
          have BK233 := n3_
          have GW233 := n4_
          have GE233 := n5_
          have NB212_233 := n6_
          have NB233_212 := n7_
          have NB213_233 := n8_
          have NB233_213 := n9_
          clear n0_ n1_ n2_ n3_ n4_ n5_ n6_ n7_ n8_ n9_
          clear hb hbox hg
          refine hK.out _ _ ⟨(blk_cell BK213.out 0).trans rfl, (blk_cell BK213.out 1).trans rfl, (blk_cell BK213.out 2).trans rfl, (blk_cell BK213.out 3).trans rfl, (blk_cell BK213.out 4).trans rfl, (blk_cell BK213.out 5).trans rfl, (blk_cell BK213.out 6).trans rfl, (blk_cell BK213.out 7).trans rfl, (blk_cell BK213.out 8).trans rfl, (blk_cell BK213.out 9).trans rfl⟩ (fun hHeld => ?_)
          clear hK K
          refine norm_ (a' := ?_) ?_ ?_
          rotate_left
          · show Act.put _ (some 3) _ = _
            simp only [Act.put, List.setIfInBounds_toArray, List.set_cons_zero, List.set_cons_succ, i64_w, i32_w]
            rfl
          exact norm_ (by simp only [putAll, Act.put, List.setIfInBounds_toArray, List.set_cons_zero, List.set_cons_succ]) (hCont (gb233) _ ⟨hHeld, (by exact BK212.out), (by exact BK213.out), (by exact BK233.out), GW233.out, GE233.out, NB212_233.out, NB233_212.out, NB213_233.out, NB233_213.out, (by exact HB.out)⟩)
        · skip
          refine box_step ?hg (N := 3) ?hd (cs := #[.int .i64 0, .int .i64 0, .int .i64 0, .bool false, .int .i64 0, .int .i64 0, .int .i64 0, .bool false, .int .i64 0]) (t := 37) ?hr ?_; (case hd => rfl); (case hg => rfl); (case hr => first | (go_simp; done) | (go_simp; rfl))
          intro gb233 hg w56 hbox hb
          have n0_ := Aside0.mk (blk_below BK212.out hb)
          have n1_ := Aside0.mk (blk_below BK213.out hb)
          have n2_ := Aside0.mk (below_step (by exact HB.out) hb)
          have n3_ := Aside0.mk (hbox)
          have n4_ := Aside0.mk ((by rw [hg]; exact (below_size (by exact HB.out)) : w.heap.size ≤ gb233))
          have n5_ := Aside0.mk ((by rw [hg]; exact (below_size (by exact HB.out)) : w.heap.size ≤ gb233))
          have n6_ := Aside0.mk ((by rw [hg]; exact Nat.ne_of_lt (blk_lt BK212.out) : gb212 ≠ gb233))
          have n7_ := Aside0.mk ((by rw [hg]; exact Nat.ne_of_gt (blk_lt BK212.out) : gb233 ≠ gb212))
          have n8_ := Aside0.mk ((by rw [hg]; exact Nat.ne_of_lt (blk_lt BK213.out) : gb213 ≠ gb233))
          have n9_ := Aside0.mk ((by rw [hg]; exact Nat.ne_of_gt (blk_lt BK213.out) : gb233 ≠ gb213))
          clear BK212
          clear BK213
          clear HB
          have BK212 := n0_
          have BK213 := n1_
          have HB := n2_
          have BK233 := n3_
          have GW233 := n4_
          have GE233 := n5_
          have NB212_233 := n6_
          have NB233_212 := n7_
          have NB213_233 := n8_
          have NB233_213 := n9_
          clear n0_ n1_ n2_ n3_ n4_ n5_ n6_ n7_ n8_ n9_
          clear hb hbox hg
          refine hK.out _ _ ⟨(blk_cell BK213.out 0).trans rfl, (blk_cell BK213.out 1).trans rfl, (blk_cell BK213.out 2).trans rfl, (blk_cell BK213.out 3).trans rfl, (blk_cell BK213.out 4).trans rfl, (blk_cell BK213.out 5).trans rfl, (blk_cell BK213.out 6).trans rfl, (blk_cell BK213.out 7).trans rfl, (blk_cell BK213.out 8).trans rfl, (blk_cell BK213.out 9).trans rfl⟩ (fun hHeld => ?_)
          clear hK K
          refine norm_ (a' := ?_) ?_ ?_
          rotate_left
          · show Act.put _ (some 3) _ = _
            simp only [Act.put, List.setIfInBounds_toArray, List.set_cons_zero, List.set_cons_succ, i64_w, i32_w]
            rfl
          refine one_ (i := 4) (N := some 14) #[true, true, true, true, true, false, false, false, true, false, false] rfl rfl (one_of HT_.out (by kernel_rfl)) (by decide) (fun K hK => ?_)
          refine goes_ Try.func15 (by kernel_rfl) rfl #[.agg #[.int .i64 0, .int .i64 1000000000, .int .i64 16777216, .int .i64 16777216, .int .i64 0, .int .i64 1000000000, .int .i64 16777216, .int .i64 16777216, .int .i64 0, .int .i64 0], .agg #[.int .i64 t214, .int .i64 t215, .int .i64 t216, .bool t217, .int .i64 t218, .int .i64 t219, .int .i64 t220, .bool t221, .int .i64 t222], .agg #[.int .i64 0, .int .i64 0]] (by rfl) rfl rfl (by (try simp only [List.map_toArray, List.map_cons, List.map_nil]); first | done | rfl | (simp only [List.length_drop, List.length_take]; rfl)) ?_
          with_reducible refine (mount_Goto.calls k 0 1000000000 16777216 16777216 0 1000000000 16777216 16777216 0 0 t214 t215 t216 t217 t218 t219 t220 t221 t222 0 0 t223 t224 t225 t226 t227 t228 t229 t230 t231 t232 _ A2.out).mono ?_
          rintro e w57 ⟨rfl, hb⟩
          refine ⟨_, rfl, ?_⟩
          have n0_ := Aside0.mk (blk_below BK212.out hb)
          have n1_ := Aside0.mk (blk_below BK213.out hb)
          have n2_ := Aside0.mk (blk_below BK233.out hb)
          have n3_ := Aside0.mk (below_step (by exact HB.out) hb)
          clear BK212
          clear BK213
          clear BK233
          clear HB
          have BK212 := n0_
          have BK213 := n1_
          have BK233 := n2_
          have HB := n3_
          clear n0_ n1_ n2_ n3_
          (try clear hb)
          (try clear hb2)
          (try clear hk)
          (try clear hi)
          refine hK.out _ _ ⟨(blk_cell BK213.out 0).trans rfl, (blk_cell BK213.out 1).trans rfl, (blk_cell BK213.out 2).trans rfl, (blk_cell BK213.out 3).trans rfl, (blk_cell BK213.out 4).trans rfl, (blk_cell BK213.out 5).trans rfl, (blk_cell BK213.out 6).trans rfl, (blk_cell BK213.out 7).trans rfl, (blk_cell BK213.out 8).trans rfl, (blk_cell BK213.out 9).trans rfl⟩ (fun hHeld => ?_)
          clear hK K
          refine norm_ (a' := ?_) ?_ ?_
          rotate_left
          · show Act.put _ (some 14) _ = _
            simp only [Act.put, List.setIfInBounds_toArray, List.set_cons_zero, List.set_cons_succ, i64_w, i32_w]
            rfl
          refine pure_ (i := 5) (N := some 9) (v := ?_) (a' := ?_) #[true, true, true, true, true, true, false, false, true, false, false] rfl rfl (any_of HT_.out (by kernel_rfl)) (fun _ _ _ h => h) (Or.inl ⟨by rfl, ?_⟩) ?_ ?_
          rotate_left
          · intro w'
            go_simp
            with_reducible rfl
          rotate_left
          · simp only [Act.put, List.setIfInBounds_toArray, List.set_cons_zero, List.set_cons_succ, i64_w, i32_w]
            rfl
          refine pure_ (i := 6) (N := some 15) (v := ?_) (a' := ?_) #[true, true, true, true, true, true, true, false, true, false, false] rfl rfl (any_of HT_.out (by kernel_rfl)) (fun _ _ _ h => h) (Or.inl ⟨by rfl, ?_⟩) ?_ ?_
          rotate_left
          · intro w'
            go_simp
            with_reducible rfl
          rotate_left
          · simp only [Act.put, List.setIfInBounds_toArray, List.set_cons_zero, List.set_cons_succ, i64_w, i32_w]
            rfl
          refine pure_ (i := 7) (N := some 16) (v := ?_) (a' := ?_) #[true, true, true, true, true, true, true, true, true, false, false] rfl rfl (any_of HT_.out (by kernel_rfl)) (fun _ _ _ h => h) (Or.inl ⟨by rfl, ?_⟩) ?_ ?_
          rotate_left
          · intro w'
            go_simp
            with_reducible rfl
          rotate_left
          · simp only [Act.put, List.setIfInBounds_toArray, List.set_cons_zero, List.set_cons_succ, i64_w, i32_w]
            rfl
          exact norm_ (by simp only [putAll, Act.put, List.setIfInBounds_toArray, List.set_cons_zero, List.set_cons_succ]) (hCont (gb233) _ ⟨hHeld, (by exact BK212.out), (by exact BK213.out), (by exact BK233.out), GW233.out, GE233.out, NB212_233.out, NB233_212.out, NB213_233.out, NB233_213.out, (by exact HB.out)⟩)
      · skip
        refine box_step ?hg (N := 3) ?hd (cs := #[.int .i64 0, .int .i64 0, .int .i64 0, .bool false, .int .i64 0, .int .i64 0, .int .i64 0, .bool false, .int .i64 0]) (t := 37) ?hr ?_; (case hd => rfl); (case hg => rfl); (case hr => first | (go_simp; done) | (go_simp; rfl))
        intro gb233 hg w55 hbox hb
        have n0_ := Aside0.mk (blk_below BK212.out hb)
        have n1_ := Aside0.mk (blk_below BK213.out hb)
        have n2_ := Aside0.mk (below_step (by exact HB.out) hb)
        have n3_ := Aside0.mk (hbox)
        have n4_ := Aside0.mk ((by rw [hg]; exact (below_size (by exact HB.out)) : w.heap.size ≤ gb233))
        have n5_ := Aside0.mk ((by rw [hg]; exact (below_size (by exact HB.out)) : w.heap.size ≤ gb233))
        have n6_ := Aside0.mk ((by rw [hg]; exact Nat.ne_of_lt (blk_lt BK212.out) : gb212 ≠ gb233))
        have n7_ := Aside0.mk ((by rw [hg]; exact Nat.ne_of_gt (blk_lt BK212.out) : gb233 ≠ gb212))
        have n8_ := Aside0.mk ((by rw [hg]; exact Nat.ne_of_lt (blk_lt BK213.out) : gb213 ≠ gb233))
        have n9_ := Aside0.mk ((by rw [hg]; exact Nat.ne_of_gt (blk_lt BK213.out) : gb233 ≠ gb213))
        clear BK212
        clear BK213
        clear HB
        have BK212 := n0_
        have BK213 := n1_
        have HB := n2_
        have BK233 := n3_
        have GW233 := n4_
        have GE233 := n5_
        have NB212_233 := n6_
        have NB233_212 := n7_
        have NB213_233 := n8_
        have NB233_213 := n9_
        clear n0_ n1_ n2_ n3_ n4_ n5_ n6_ n7_ n8_ n9_
        clear hb hbox hg
        refine hK.out _ _ ⟨(blk_cell BK213.out 0).trans rfl, (blk_cell BK213.out 1).trans rfl, (blk_cell BK213.out 2).trans rfl, (blk_cell BK213.out 3).trans rfl, (blk_cell BK213.out 4).trans rfl, (blk_cell BK213.out 5).trans rfl, (blk_cell BK213.out 6).trans rfl, (blk_cell BK213.out 7).trans rfl, (blk_cell BK213.out 8).trans rfl, (blk_cell BK213.out 9).trans rfl⟩ (fun hHeld => ?_)
        clear hK K
        refine norm_ (a' := ?_) ?_ ?_
        rotate_left
        · show Act.put _ (some 3) _ = _
          simp only [Act.put, List.setIfInBounds_toArray, List.set_cons_zero, List.set_cons_succ, i64_w, i32_w]
          rfl
        refine one_ (i := 2) (N := some 12) #[true, true, true, true, false, false, false, false, true, false, false] rfl rfl (one_of HT_.out (by kernel_rfl)) (by decide) (fun K hK => ?_)
        refine goes_ Try.func12 (by kernel_rfl) rfl #[.agg #[.int .i64 0, .int .i64 1000000000, .int .i64 16777216, .int .i64 16777216, .int .i64 0, .int .i64 1000000000, .int .i64 16777216, .int .i64 16777216, .int .i64 0, .int .i64 0]] (by rfl) rfl rfl (by (try simp only [List.map_toArray, List.map_cons, List.map_nil]); first | done | rfl | (simp only [List.length_drop, List.length_take]; rfl)) ?_
        with_reducible refine (mount_Rest.calls 0 1000000000 16777216 16777216 0 1000000000 16777216 16777216 0 0 t214 t215 t216 t217 t218 t219 t220 t221 t222 _ A1.out).mono ?_
        rintro e w56 ⟨rfl, hb⟩
        refine ⟨_, rfl, ?_⟩
        have n0_ := Aside0.mk (blk_below BK212.out hb)
        have n1_ := Aside0.mk (blk_below BK213.out hb)
        have n2_ := Aside0.mk (blk_below BK233.out hb)
        have n3_ := Aside0.mk (below_step (by exact HB.out) hb)
        clear BK212
        clear BK213
        clear BK233
        clear HB
        have BK212 := n0_
        have BK213 := n1_
        have BK233 := n2_
        have HB := n3_
        clear n0_ n1_ n2_ n3_
        (try clear hb)
        (try clear hb2)
        (try clear hk)
        (try clear hi)
        refine hK.out _ _ ⟨(blk_cell BK213.out 0).trans rfl, (blk_cell BK213.out 1).trans rfl, (blk_cell BK213.out 2).trans rfl, (blk_cell BK213.out 3).trans rfl, (blk_cell BK213.out 4).trans rfl, (blk_cell BK213.out 5).trans rfl, (blk_cell BK213.out 6).trans rfl, (blk_cell BK213.out 7).trans rfl, (blk_cell BK213.out 8).trans rfl, (blk_cell BK213.out 9).trans rfl⟩ (fun hHeld => ?_)
        clear hK K
        refine norm_ (a' := ?_) ?_ ?_
        rotate_left
        · show Act.put _ (some 12) _ = _
          simp only [Act.put, List.setIfInBounds_toArray, List.set_cons_zero, List.set_cons_succ, i64_w, i32_w]
          rfl
        refine one_ (i := 4) (N := some 14) #[true, true, true, true, true, false, false, false, true, false, false] rfl rfl (one_of HT_.out (by kernel_rfl)) (by decide) (fun K hK => ?_)
        refine goes_ Try.func15 (by kernel_rfl) rfl #[.agg #[.int .i64 0, .int .i64 1000000000, .int .i64 16777216, .int .i64 16777216, .int .i64 0, .int .i64 1000000000, .int .i64 16777216, .int .i64 16777216, .int .i64 0, .int .i64 0], .agg #[.int .i64 t214, .int .i64 t215, .int .i64 t216, .bool t217, .int .i64 t218, .int .i64 t219, .int .i64 t220, .bool t221, .int .i64 t222], .agg #[.int .i64 0, .int .i64 0]] (by rfl) rfl rfl (by (try simp only [List.map_toArray, List.map_cons, List.map_nil]); first | done | rfl | (simp only [List.length_drop, List.length_take]; rfl)) ?_
        with_reducible refine (mount_Goto.calls k 0 1000000000 16777216 16777216 0 1000000000 16777216 16777216 0 0 t214 t215 t216 t217 t218 t219 t220 t221 t222 0 0 t223 t224 t225 t226 t227 t228 t229 t230 t231 t232 _ A2.out).mono ?_
        rintro e w57 ⟨rfl, hb⟩
        refine ⟨_, rfl, ?_⟩
        have n0_ := Aside0.mk (blk_below BK212.out hb)
        have n1_ := Aside0.mk (blk_below BK213.out hb)
        have n2_ := Aside0.mk (blk_below BK233.out hb)
        have n3_ := Aside0.mk (below_step (by exact HB.out) hb)
        clear BK212
        clear BK213
        clear BK233
        clear HB
        have BK212 := n0_
        have BK213 := n1_
        have BK233 := n2_
        have HB := n3_
        clear n0_ n1_ n2_ n3_
        (try clear hb)
        (try clear hb2)
        (try clear hk)
        (try clear hi)
        refine hK.out _ _ ⟨(blk_cell BK213.out 0).trans rfl, (blk_cell BK213.out 1).trans rfl, (blk_cell BK213.out 2).trans rfl, (blk_cell BK213.out 3).trans rfl, (blk_cell BK213.out 4).trans rfl, (blk_cell BK213.out 5).trans rfl, (blk_cell BK213.out 6).trans rfl, (blk_cell BK213.out 7).trans rfl, (blk_cell BK213.out 8).trans rfl, (blk_cell BK213.out 9).trans rfl⟩ (fun hHeld => ?_)
        clear hK K
        refine norm_ (a' := ?_) ?_ ?_
        rotate_left
        · show Act.put _ (some 14) _ = _
          simp only [Act.put, List.setIfInBounds_toArray, List.set_cons_zero, List.set_cons_succ, i64_w, i32_w]
          rfl
        refine pure_ (i := 5) (N := some 9) (v := ?_) (a' := ?_) #[true, true, true, true, true, true, false, false, true, false, false] rfl rfl (any_of HT_.out (by kernel_rfl)) (fun _ _ _ h => h) (Or.inl ⟨by rfl, ?_⟩) ?_ ?_
        rotate_left
        · intro w'
          go_simp
          with_reducible rfl
        rotate_left
        · simp only [Act.put, List.setIfInBounds_toArray, List.set_cons_zero, List.set_cons_succ, i64_w, i32_w]
          rfl
        refine pure_ (i := 6) (N := some 15) (v := ?_) (a' := ?_) #[true, true, true, true, true, true, true, false, true, false, false] rfl rfl (any_of HT_.out (by kernel_rfl)) (fun _ _ _ h => h) (Or.inl ⟨by rfl, ?_⟩) ?_ ?_
        rotate_left
        · intro w'
          go_simp
          with_reducible rfl
        rotate_left
        · simp only [Act.put, List.setIfInBounds_toArray, List.set_cons_zero, List.set_cons_succ, i64_w, i32_w]
          rfl
        refine pure_ (i := 7) (N := some 16) (v := ?_) (a' := ?_) #[true, true, true, true, true, true, true, true, true, false, false] rfl rfl (any_of HT_.out (by kernel_rfl)) (fun _ _ _ h => h) (Or.inl ⟨by rfl, ?_⟩) ?_ ?_
        rotate_left
        · intro w'
          go_simp
          with_reducible rfl
        rotate_left
        · simp only [Act.put, List.setIfInBounds_toArray, List.set_cons_zero, List.set_cons_succ, i64_w, i32_w]
          rfl
        exact norm_ (by simp only [putAll, Act.put, List.setIfInBounds_toArray, List.set_cons_zero, List.set_cons_succ]) (hCont (gb233) _ ⟨hHeld, (by exact BK212.out), (by exact BK213.out), (by exact BK233.out), GW233.out, GE233.out, NB212_233.out, NB233_212.out, NB213_233.out, NB233_213.out, (by exact HB.out)⟩)
    rintro gb233 w58 ⟨hS_, h0_, h1_, h2_, h3_, h4_, h5_, h6_, h7_, h8_, h9_⟩
    have n0_ : Aside0 (w58.heap[gb212]? = some (.cells #[.int .i64 0, .int .i64 1000000000, .int .i64 16777216, .int .i64 16777216] 28 (0, 0))) := ⟨h0_⟩
    have n1_ : Aside0 (w58.heap[gb213]? = some (.cells #[.int .i64 0, .int .i64 1000000000, .int .i64 16777216, .int .i64 16777216, .int .i64 0, .int .i64 1000000000, .int .i64 16777216, .int .i64 16777216, .int .i64 0, .int .i64 0] 32 (0, 0))) := ⟨h1_⟩
    have n2_ : Aside0 (w58.heap[gb233]? = some (.cells #[.int .i64 0, .int .i64 0, .int .i64 0, .bool false, .int .i64 0, .int .i64 0, .int .i64 0, .bool false, .int .i64 0] 37 (0, 0))) := ⟨h2_⟩
    have n3_ : Aside0 (w.heap.size ≤ gb233) := ⟨h3_⟩
    have n4_ : Aside0 (w.heap.size ≤ gb233) := ⟨h4_⟩
    have n5_ : Aside0 (gb212 ≠ gb233) := ⟨h5_⟩
    have n6_ : Aside0 (gb233 ≠ gb212) := ⟨h6_⟩
    have n7_ : Aside0 (gb213 ≠ gb233) := ⟨h7_⟩
    have n8_ : Aside0 (gb233 ≠ gb213) := ⟨h8_⟩
    have n9_ : Aside0 (Below w.heap.size w w58) := ⟨h9_⟩
    clear BK212
    clear BK213
    clear HB
    clear h0_ h1_ h2_ h3_ h4_ h5_ h6_ h7_ h8_ h9_
    have BK212 := n0_
    have BK213 := n1_
    have BK233 := n2_
    have GW233 := n3_
    have GE233 := n4_
    have NB212_233 := n5_
    have NB233_212 := n6_
    have NB213_233 := n7_
    have NB233_213 := n8_
    have HB := n9_
    clear n0_ n1_ n2_ n3_ n4_ n5_ n6_ n7_ n8_ n9_
    have hHeld : w58.cell? ⟨gb213, 0, none⟩ = some (.int .i64 0) ∧ w58.cell? ⟨gb213, 1, none⟩ = some (.int .i64 1000000000) ∧ w58.cell? ⟨gb213, 2, none⟩ = some (.int .i64 16777216) ∧ w58.cell? ⟨gb213, 3, none⟩ = some (.int .i64 16777216) ∧ w58.cell? ⟨gb213, 4, none⟩ = some (.int .i64 0) ∧ w58.cell? ⟨gb213, 5, none⟩ = some (.int .i64 1000000000) ∧ w58.cell? ⟨gb213, 6, none⟩ = some (.int .i64 16777216) ∧ w58.cell? ⟨gb213, 7, none⟩ = some (.int .i64 16777216) ∧ w58.cell? ⟨gb213, 8, none⟩ = some (.int .i64 0) ∧ w58.cell? ⟨gb213, 9, none⟩ = some (.int .i64 0) := hS_
    refine norm_ (a' := ?_) ?_ ?_
    rotate_left
    · simp only [putAll, Act.put, List.setIfInBounds_toArray, List.set_cons_zero, List.set_cons_succ]
      rfl
    refine one_ (i := 9) (N := none) #[true, true, true, true, true, true, true, true, true, true, false] rfl rfl (one_of HT_.out (by kernel_rfl)) (by decide) (fun K hK => ?_)
    have hs59 : w58.cell? ⟨gb233, 0, none⟩ = some (.int .i64 0) := (blk_cell BK233.out 0).trans rfl
    have hfs59 := blk_frozen BK233.out 0
    have hns59_0 := NB212_233.out
    have hns59_1 := NB213_233.out
    have hms59_0 := NB233_212.out
    have hms59_1 := NB233_213.out
    have hs60 : w58.cell? ⟨gb233, 1, none⟩ = some (.int .i64 0) := (blk_cell BK233.out 1).trans rfl
    have hfs60 := blk_frozen BK233.out 1
    have hns60_0 := NB212_233.out
    have hns60_1 := NB213_233.out
    have hms60_0 := NB233_212.out
    have hms60_1 := NB233_213.out
    have hs61 : w58.cell? ⟨gb233, 2, none⟩ = some (.int .i64 0) := (blk_cell BK233.out 2).trans rfl
    have hfs61 := blk_frozen BK233.out 2
    have hns61_0 := NB212_233.out
    have hns61_1 := NB213_233.out
    have hms61_0 := NB233_212.out
    have hms61_1 := NB233_213.out
    have hs62 : w58.cell? ⟨gb233, 3, none⟩ = some (.bool false) := (blk_cell BK233.out 3).trans rfl
    have hfs62 := blk_frozen BK233.out 3
    have hns62_0 := NB212_233.out
    have hns62_1 := NB213_233.out
    have hms62_0 := NB233_212.out
    have hms62_1 := NB233_213.out
    have hs63 : w58.cell? ⟨gb233, 4, none⟩ = some (.int .i64 0) := (blk_cell BK233.out 4).trans rfl
    have hfs63 := blk_frozen BK233.out 4
    have hns63_0 := NB212_233.out
    have hns63_1 := NB213_233.out
    have hms63_0 := NB233_212.out
    have hms63_1 := NB233_213.out
    have hs64 : w58.cell? ⟨gb233, 5, none⟩ = some (.int .i64 0) := (blk_cell BK233.out 5).trans rfl
    have hfs64 := blk_frozen BK233.out 5
    have hns64_0 := NB212_233.out
    have hns64_1 := NB213_233.out
    have hms64_0 := NB233_212.out
    have hms64_1 := NB233_213.out
    have hs65 : w58.cell? ⟨gb233, 6, none⟩ = some (.int .i64 0) := (blk_cell BK233.out 6).trans rfl
    have hfs65 := blk_frozen BK233.out 6
    have hns65_0 := NB212_233.out
    have hns65_1 := NB213_233.out
    have hms65_0 := NB233_212.out
    have hms65_1 := NB233_213.out
    have hs66 : w58.cell? ⟨gb233, 7, none⟩ = some (.bool false) := (blk_cell BK233.out 7).trans rfl
    have hfs66 := blk_frozen BK233.out 7
    have hns66_0 := NB212_233.out
    have hns66_1 := NB213_233.out
    have hms66_0 := NB233_212.out
    have hms66_1 := NB233_213.out
    have hs67 : w58.cell? ⟨gb233, 8, none⟩ = some (.int .i64 0) := (blk_cell BK233.out 8).trans rfl
    have hfs67 := blk_frozen BK233.out 8
    have hns67_0 := NB212_233.out
    have hns67_1 := NB213_233.out
    have hms67_0 := NB233_212.out
    have hms67_1 := NB233_213.out
    refine skip_ (w1 := ?_) (by rfl) rfl ?_ ?_
    rotate_left
    · go_simp
      rfl
    refine hK.out _ _ ⟨((cell_far (p := ⟨gb233, _, none⟩) NB213_233.out _).trans (((cell_far (p := ⟨gb233, _, none⟩) NB213_233.out _).trans (((cell_far (p := ⟨gb233, _, none⟩) NB213_233.out _).trans (((cell_far (p := ⟨gb233, _, none⟩) NB213_233.out _).trans (((cell_far (p := ⟨gb233, _, none⟩) NB213_233.out _).trans (((cell_far (p := ⟨gb233, _, none⟩) NB213_233.out _).trans (((cell_far (p := ⟨gb233, _, none⟩) NB213_233.out _).trans (((cell_far (p := ⟨gb233, _, none⟩) NB213_233.out _).trans (((cell_far (p := ⟨gb233, _, none⟩) NB213_233.out _).trans (hHeld.1)))))))))))))))))), ((cell_far (p := ⟨gb233, _, none⟩) NB213_233.out _).trans (((cell_far (p := ⟨gb233, _, none⟩) NB213_233.out _).trans (((cell_far (p := ⟨gb233, _, none⟩) NB213_233.out _).trans (((cell_far (p := ⟨gb233, _, none⟩) NB213_233.out _).trans (((cell_far (p := ⟨gb233, _, none⟩) NB213_233.out _).trans (((cell_far (p := ⟨gb233, _, none⟩) NB213_233.out _).trans (((cell_far (p := ⟨gb233, _, none⟩) NB213_233.out _).trans (((cell_far (p := ⟨gb233, _, none⟩) NB213_233.out _).trans (((cell_far (p := ⟨gb233, _, none⟩) NB213_233.out _).trans (hHeld.2.1)))))))))))))))))), ((cell_far (p := ⟨gb233, _, none⟩) NB213_233.out _).trans (((cell_far (p := ⟨gb233, _, none⟩) NB213_233.out _).trans (((cell_far (p := ⟨gb233, _, none⟩) NB213_233.out _).trans (((cell_far (p := ⟨gb233, _, none⟩) NB213_233.out _).trans (((cell_far (p := ⟨gb233, _, none⟩) NB213_233.out _).trans (((cell_far (p := ⟨gb233, _, none⟩) NB213_233.out _).trans (((cell_far (p := ⟨gb233, _, none⟩) NB213_233.out _).trans (((cell_far (p := ⟨gb233, _, none⟩) NB213_233.out _).trans (((cell_far (p := ⟨gb233, _, none⟩) NB213_233.out _).trans (hHeld.2.2.1)))))))))))))))))), ((cell_far (p := ⟨gb233, _, none⟩) NB213_233.out _).trans (((cell_far (p := ⟨gb233, _, none⟩) NB213_233.out _).trans (((cell_far (p := ⟨gb233, _, none⟩) NB213_233.out _).trans (((cell_far (p := ⟨gb233, _, none⟩) NB213_233.out _).trans (((cell_far (p := ⟨gb233, _, none⟩) NB213_233.out _).trans (((cell_far (p := ⟨gb233, _, none⟩) NB213_233.out _).trans (((cell_far (p := ⟨gb233, _, none⟩) NB213_233.out _).trans (((cell_far (p := ⟨gb233, _, none⟩) NB213_233.out _).trans (((cell_far (p := ⟨gb233, _, none⟩) NB213_233.out _).trans (hHeld.2.2.2.1)))))))))))))))))), ((cell_far (p := ⟨gb233, _, none⟩) NB213_233.out _).trans (((cell_far (p := ⟨gb233, _, none⟩) NB213_233.out _).trans (((cell_far (p := ⟨gb233, _, none⟩) NB213_233.out _).trans (((cell_far (p := ⟨gb233, _, none⟩) NB213_233.out _).trans (((cell_far (p := ⟨gb233, _, none⟩) NB213_233.out _).trans (((cell_far (p := ⟨gb233, _, none⟩) NB213_233.out _).trans (((cell_far (p := ⟨gb233, _, none⟩) NB213_233.out _).trans (((cell_far (p := ⟨gb233, _, none⟩) NB213_233.out _).trans (((cell_far (p := ⟨gb233, _, none⟩) NB213_233.out _).trans (hHeld.2.2.2.2.1)))))))))))))))))), ((cell_far (p := ⟨gb233, _, none⟩) NB213_233.out _).trans (((cell_far (p := ⟨gb233, _, none⟩) NB213_233.out _).trans (((cell_far (p := ⟨gb233, _, none⟩) NB213_233.out _).trans (((cell_far (p := ⟨gb233, _, none⟩) NB213_233.out _).trans (((cell_far (p := ⟨gb233, _, none⟩) NB213_233.out _).trans (((cell_far (p := ⟨gb233, _, none⟩) NB213_233.out _).trans (((cell_far (p := ⟨gb233, _, none⟩) NB213_233.out _).trans (((cell_far (p := ⟨gb233, _, none⟩) NB213_233.out _).trans (((cell_far (p := ⟨gb233, _, none⟩) NB213_233.out _).trans (hHeld.2.2.2.2.2.1)))))))))))))))))), ((cell_far (p := ⟨gb233, _, none⟩) NB213_233.out _).trans (((cell_far (p := ⟨gb233, _, none⟩) NB213_233.out _).trans (((cell_far (p := ⟨gb233, _, none⟩) NB213_233.out _).trans (((cell_far (p := ⟨gb233, _, none⟩) NB213_233.out _).trans (((cell_far (p := ⟨gb233, _, none⟩) NB213_233.out _).trans (((cell_far (p := ⟨gb233, _, none⟩) NB213_233.out _).trans (((cell_far (p := ⟨gb233, _, none⟩) NB213_233.out _).trans (((cell_far (p := ⟨gb233, _, none⟩) NB213_233.out _).trans (((cell_far (p := ⟨gb233, _, none⟩) NB213_233.out _).trans (hHeld.2.2.2.2.2.2.1)))))))))))))))))), ((cell_far (p := ⟨gb233, _, none⟩) NB213_233.out _).trans (((cell_far (p := ⟨gb233, _, none⟩) NB213_233.out _).trans (((cell_far (p := ⟨gb233, _, none⟩) NB213_233.out _).trans (((cell_far (p := ⟨gb233, _, none⟩) NB213_233.out _).trans (((cell_far (p := ⟨gb233, _, none⟩) NB213_233.out _).trans (((cell_far (p := ⟨gb233, _, none⟩) NB213_233.out _).trans (((cell_far (p := ⟨gb233, _, none⟩) NB213_233.out _).trans (((cell_far (p := ⟨gb233, _, none⟩) NB213_233.out _).trans (((cell_far (p := ⟨gb233, _, none⟩) NB213_233.out _).trans (hHeld.2.2.2.2.2.2.2.1)))))))))))))))))), ((cell_far (p := ⟨gb233, _, none⟩) NB213_233.out _).trans (((cell_far (p := ⟨gb233, _, none⟩) NB213_233.out _).trans (((cell_far (p := ⟨gb233, _, none⟩) NB213_233.out _).trans (((cell_far (p := ⟨gb233, _, none⟩) NB213_233.out _).trans (((cell_far (p := ⟨gb233, _, none⟩) NB213_233.out _).trans (((cell_far (p := ⟨gb233, _, none⟩) NB213_233.out _).trans (((cell_far (p := ⟨gb233, _, none⟩) NB213_233.out _).trans (((cell_far (p := ⟨gb233, _, none⟩) NB213_233.out _).trans (((cell_far (p := ⟨gb233, _, none⟩) NB213_233.out _).trans (hHeld.2.2.2.2.2.2.2.2.1)))))))))))))))))), ((cell_far (p := ⟨gb233, _, none⟩) NB213_233.out _).trans (((cell_far (p := ⟨gb233, _, none⟩) NB213_233.out _).trans (((cell_far (p := ⟨gb233, _, none⟩) NB213_233.out _).trans (((cell_far (p := ⟨gb233, _, none⟩) NB213_233.out _).trans (((cell_far (p := ⟨gb233, _, none⟩) NB213_233.out _).trans (((cell_far (p := ⟨gb233, _, none⟩) NB213_233.out _).trans (((cell_far (p := ⟨gb233, _, none⟩) NB213_233.out _).trans (((cell_far (p := ⟨gb233, _, none⟩) NB213_233.out _).trans (((cell_far (p := ⟨gb233, _, none⟩) NB213_233.out _).trans (hHeld.2.2.2.2.2.2.2.2.2))))))))))))))))))⟩ (fun hHeld => ?_)
    clear hK K
    refine pure_ (i := 10) (N := some 4) (v := ?_) (a' := ?_) #[true, true, true, true, true, true, true, true, true, true, true] rfl rfl (any_of HT_.out (by kernel_rfl)) (fun _ _ _ h => h) (Or.inl ⟨by rfl, ?_⟩) ?_ ?_
    rotate_left
    · intro w'
      go_simp
      with_reducible rfl
    rotate_left
    · simp only [Act.put, List.setIfInBounds_toArray, List.set_cons_zero, List.set_cons_succ, i64_w, i32_w]
      rfl
    refine done_ (done_of HT_.out (by kernel_rfl)) ?_
    try go_wp2
    go_ret
    exact ⟨by first | rfl | (simp [errW_none, errW_some] <;> rfl) | (simp [*, errW_none, errW_some] <;> rfl), by repeat (first | (with_reducible first | exact HB.out | apply below_alloc | apply pw_below_drewN | apply below_drew1 | refine below_set ?_ GE212.out | refine below_set ?_ GE213.out | refine below_set ?_ GE233.out) | exact HB.out)⟩

end Go.Proofs.Ytfcengfjolljgaa.PMountArrives
