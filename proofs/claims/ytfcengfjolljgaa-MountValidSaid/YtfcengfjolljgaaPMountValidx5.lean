-- Written by a program of this session out of the translation (wip/tools).
import Derived.Test.YtfcengfjolljgaaPMountValidx0
import Derived.Test.YtfcengfjolljgaaPMountValidx2
import Derived.Test.YtfcengfjolljgaaPMountValidx3
import Derived.Test.YtfcengfjolljgaaPMountValidx4
namespace Go.Proofs.Ytfcengfjolljgaa.PMountValid
open Go.RowKit Go.Proofs.YtfcengfjolljgaaW.PrintWords Go.Proofs.YtfcengfjolljgaaW.PrintLast Go.Proofs.YtfcengfjolljgaaW.PrintMore
attribute [local go_sem] max2_int min2_int max_two min_two max_three min_three max_four min_four   -- for this text's walks alone
set_option linter.unusedVariables false
set_option linter.unusedSimpArgs false

/-! ### slew_fastest: function 45 -/
def slew_fastest.l0 : Nat → Int → Int → Int → Int → Int → Int → Option (Int)
  | 0, _, _, _, _, _, _ => none
  | k + 1, x1, x5, x187000, x187001, x187002, x187003 => if x5 ≤ 64 then (if x1 ≤ (wrap64 (x187003 * (wrap64 (Int.tdiv (wrap64 (x5 * (wrap64 (x5 + 1)))) 2)))) then (if x5 = 0 then (none) else (some (mn x187002 (wrap64 (Int.tdiv (wrap64 (x1 + (wrap64 (x187003 * (wrap64 (Int.tdiv (wrap64 (x5 * (wrap64 (x5 - 1)))) 2)))))) x5))))) else (slew_fastest.l0 k x1 (wrap64 (x5 + 1)) x187000 x187001 x187002 x187003)) else (some x187002)
def slew_fastest.f (k : Nat) (a0_0 : Int) (a0_1 : Int) (a0_2 : Int) (a0_3 : Int) (a1 : Int) : Option (Int) := slew_fastest.l0 k a1 1 a0_0 a0_1 a0_2 a0_3
theorem slew_fastest.mono_l : ∀ k, (∀ y0 y1 y2 y3 y4 y5, LeO (slew_fastest.l0 k y0 y1 y2 y3 y4 y5) (slew_fastest.l0 (k + 1) y0 y1 y2 y3 y4 y5))
  | 0 => fun _ _ _ _ _ _ r h => by simp [slew_fastest.l0] at h
  | k + 1 => by
    have ih0 := slew_fastest.mono_l k
    · intro y0 y1 y2 y3 y4 y5
      unfold slew_fastest.l0
      repeat' first
      | (with_reducible exact ih0 _ _ _ _ _ _)
      | (with_reducible exact LeO.refl _)
      | (with_reducible exact LeO.none _)
      | (with_reducible refine LeO.ite ?_ ?_)
      | (with_reducible refine LeO.bind ?_ (fun _ => ?_))
      | exact ih0 _ _ _ _ _ _
      | exact LeO.none _
      | refine LeO.ite ?_ ?_
      | refine LeO.bind ?_ (fun _ => ?_)
theorem slew_fastest.mono : ∀ a0 a1 a2 a3 a4 k, LeO (slew_fastest.f k a0 a1 a2 a3 a4) (slew_fastest.f (k + 1) a0 a1 a2 a3 a4) := by
  intro a0 a1 a2 a3 a4 k
  have ih0 := slew_fastest.mono_l k
  unfold slew_fastest.f
  repeat' first
      | (with_reducible exact ih0 _ _ _ _ _ _)
      | (with_reducible exact LeO.refl _)
      | (with_reducible exact LeO.none _)
      | (with_reducible refine LeO.ite ?_ ?_)
      | (with_reducible refine LeO.bind ?_ (fun _ => ?_))
      | exact ih0 _ _ _ _ _ _
      | exact LeO.none _
      | refine LeO.ite ?_ ?_
      | refine LeO.bind ?_ (fun _ => ?_)
set_option maxHeartbeats 8000000 in
set_option maxRecDepth 100000 in
theorem slew_fastest.calls (k : Nat) (a0_0 : Int) (a0_1 : Int) (a0_2 : Int) (a0_3 : Int) (a1 : Int) (r : Int) (w : World) (h : slew_fastest.f k a0_0 a0_1 a0_2 a0_3 a1 = some r) :
    Calls Try.prog 45 #[.agg #[.int .i64 a0_0, .int .i64 a0_1, .int .i64 a0_2, .int .i64 a0_3], .int .i64 a1] w fun e w' => e = .returned (.int .i64 r) ∧ Below w.heap.size w w' := by
  have hu28 := Try.underlying28
  have HB := Aside0.mk (Below.refl w.heap.size w)
  have H : (slew_fastest.l0 k a1 1 a0_0 a0_1 a0_2 a0_3) = some r := h
  clear h
  have H' := Aside0.mk H
  clear H
  go_enter Try.func45, Try.ntmps45
  go_wp2_with (first | ((with_reducible refine gate_dst (N := 2) rfl ?_); refine box_event ?hg (N := 2) ?hd (cs := #[.int .i64 a0_0, .int .i64 a0_1, .int .i64 a0_2, .int .i64 a0_3]) (t := 28) ?hr ?_; (case hd => rfl); (case hg => rfl); (case hr => first | (go_simp; done) | (go_simp; rfl)); intro gb186 hg w3 hbox hb; have n0_ := Aside0.mk (below_step (by repeat (first | (with_reducible first | exact HB.out | apply below_alloc | apply pw_below_drewN | apply below_drew1) | exact HB.out)) hb); have n1_ := Aside0.mk (hbox); have n2_ := Aside0.mk ((by rw [hg]; exact (below_size (by repeat (first | (with_reducible first | exact HB.out | apply below_alloc | apply pw_below_drewN | apply below_drew1) | exact HB.out))) : w.heap.size ≤ gb186)); have n3_ := Aside0.mk ((by rw [hg]; exact (below_size (by repeat (first | (with_reducible first | exact HB.out | apply below_alloc | apply pw_below_drewN | apply below_drew1) | exact HB.out))) : w.heap.size ≤ gb186)); clear HB; have HB := n0_; have BK186 := n1_; have GW186 := n2_; have GE186 := n3_; clear n0_ n1_ n2_ n3_; clear hb hbox hg))
  repeat (go_quiet (first | ((with_reducible refine gate_dst (N := 2) rfl ?_); refine box_event ?hg (N := 2) ?hd (cs := #[.int .i64 a0_0, .int .i64 a0_1, .int .i64 a0_2, .int .i64 a0_3]) (t := 28) ?hr ?_; (case hd => rfl); (case hg => rfl); (case hr => first | (go_simp; done) | (go_simp; rfl)); intro gb186 hg w3 hbox hb; have n0_ := Aside0.mk (below_step (by repeat (first | (with_reducible first | exact HB.out | apply below_alloc | apply pw_below_drewN | apply below_drew1) | exact HB.out)) hb); have n1_ := Aside0.mk (hbox); have n2_ := Aside0.mk ((by rw [hg]; exact (below_size (by repeat (first | (with_reducible first | exact HB.out | apply below_alloc | apply pw_below_drewN | apply below_drew1) | exact HB.out))) : w.heap.size ≤ gb186)); have n3_ := Aside0.mk ((by rw [hg]; exact (below_size (by repeat (first | (with_reducible first | exact HB.out | apply below_alloc | apply pw_below_drewN | apply below_drew1) | exact HB.out))) : w.heap.size ≤ gb186)); clear HB; have HB := n0_; have BK186 := n1_; have GW186 := n2_; have GE186 := n3_; clear n0_ n1_ n2_ n3_; clear hb hbox hg)); try go_wp2_with (first | ((with_reducible refine gate_dst (N := 2) rfl ?_); refine box_event ?hg (N := 2) ?hd (cs := #[.int .i64 a0_0, .int .i64 a0_1, .int .i64 a0_2, .int .i64 a0_3]) (t := 28) ?hr ?_; (case hd => rfl); (case hg => rfl); (case hr => first | (go_simp; done) | (go_simp; rfl)); intro gb186 hg w3 hbox hb; have n0_ := Aside0.mk (below_step (by repeat (first | (with_reducible first | exact HB.out | apply below_alloc | apply pw_below_drewN | apply below_drew1) | exact HB.out)) hb); have n1_ := Aside0.mk (hbox); have n2_ := Aside0.mk ((by rw [hg]; exact (below_size (by repeat (first | (with_reducible first | exact HB.out | apply below_alloc | apply pw_below_drewN | apply below_drew1) | exact HB.out))) : w.heap.size ≤ gb186)); have n3_ := Aside0.mk ((by rw [hg]; exact (below_size (by repeat (first | (with_reducible first | exact HB.out | apply below_alloc | apply pw_below_drewN | apply below_drew1) | exact HB.out))) : w.heap.size ≤ gb186)); clear HB; have HB := n0_; have BK186 := n1_; have GW186 := n2_; have GE186 := n3_; clear n0_ n1_ n2_ n3_; clear hb hbox hg)))
  go_loopg [5] k (fun kq v5 w' => ∃ (x5_1 : Int), v5 = .int .i64 x5_1 ∧ Aside0 (slew_fastest.l0 kq a1 x5_1 a0_0 a0_1 a0_2 a0_3 = some r) ∧ Aside0 (kq ≤ k) ∧ Aside0 (w'.heap[gb186]? = some (.cells #[.int .i64 a0_0, .int .i64 a0_1, .int .i64 a0_2, .int .i64 a0_3] 28 (0, 0))) ∧ Aside0 (Below w.heap.size w w'))
  case atStart => exact ⟨(1), (by first | rfl | (simp; done) | (simp [*]; done)), H', ⟨Nat.le_refl _⟩, ⟨by (with_reducible repeat (first | refine blk_drewN ?_ _ | refine blk_drew ?_ | refine blk_alloc ?_ _)); exact BK186.out⟩, ⟨by repeat (first | (with_reducible first | exact HB.out | apply below_alloc | apply pw_below_drewN | apply below_drew1 | refine below_set ?_ GE186.out) | exact HB.out)⟩⟩
  case round =>
    clear H'
    try clear p2
    obtain ⟨x5_1, rfl, HA, HK1, BK186, HB⟩ := hrel
    cases gk with
    | zero => exact absurd HA.out (by simp [slew_fastest.l0])
    | succ k1 =>
      have H := HA.out
      clear HA
      simp only [slew_fastest.l0] at H
      by_cases c4 : x5_1 ≤ 64
      · rw [if_pos c4] at H
        have c4b0 : decide (x5_1 ≤ 64) = true := decide_eq_true c4
        clear c4
        by_cases c5 : a1 ≤ (wrap64 (a0_3 * (wrap64 (Int.tdiv (wrap64 (x5_1 * (wrap64 (x5_1 + 1)))) 2))))
        · rw [if_pos c5] at H
          have c5b0 : decide (a1 ≤ (wrap64 (a0_3 * (wrap64 (Int.tdiv (wrap64 (x5_1 * (wrap64 (x5_1 + 1)))) 2))))) = true := decide_eq_true c5
          clear c5
          by_cases c6 : x5_1 = 0
          · rw [if_pos c6] at H
            exact absurd H (by simp)
          · rw [if_neg c6] at H
            have c6b0 : (x5_1 == 0) = false := beq_eq_false_iff_ne.mpr c6
            have c6b1 : (x5_1 != 0) = true := bne_iff_ne.mpr c6
            obtain ⟨ji7, hji7⟩ : ∃ j_ : Int, (mn a0_2 (wrap64 (Int.tdiv (wrap64 (a1 + (wrap64 (a0_3 * (wrap64 (Int.tdiv (wrap64 (x5_1 * (wrap64 (x5_1 - 1)))) 2)))))) x5_1))) = j_ := ⟨_, rfl⟩
            replace H : (some ji7) = some r := by first | (rw [hji7] at H; exact H) | (simp only [hji7] at H ⊢; exact H)
            have hji7_ : (if (wrap64 (Int.tdiv (wrap64 (a1 + (wrap64 (a0_3 * (wrap64 (Int.tdiv (wrap64 (x5_1 * (wrap64 (x5_1 - 1)))) 2)))))) x5_1)) < a0_2 then (wrap64 (Int.tdiv (wrap64 (a1 + (wrap64 (a0_3 * (wrap64 (Int.tdiv (wrap64 (x5_1 * (wrap64 (x5_1 - 1)))) 2)))))) x5_1)) else a0_2) = ji7 := hji7
            obtain rfl := Option.some.inj H
            have hcz8_0 := tch4 BK186.out
            go_wp2
            repeat (go_quiet (fail); try go_wp2)
            go_ret
            exact ⟨by first | rfl | (simp [errW_none, errW_some] <;> rfl) | (simp only [← hji7]; first | rfl | (simp [errW_none, errW_some] <;> rfl)) | (simp [*, errW_none, errW_some] <;> rfl), by repeat (first | (with_reducible first | exact HB.out | apply below_alloc | apply pw_below_drewN | apply below_drew1 | refine below_set ?_ GE186.out) | exact HB.out)⟩
        · rw [if_neg c5] at H
          have c5b0 : decide (a1 ≤ (wrap64 (a0_3 * (wrap64 (Int.tdiv (wrap64 (x5_1 * (wrap64 (x5_1 + 1)))) 2))))) = false := decide_eq_false c5
          clear c5
          have H' := Aside0.mk H
          clear H
          have hcz9_0 := tch4 BK186.out
          go_wp2
          repeat (go_quiet (fail); try go_wp2)
          go_roundg k1
          case measure => have := HK1.out; omega
          case rel => exact ⟨(wrap64 (x5_1 + 1)), (by first | rfl | (simp; done) | (simp [*]; done)), H', ⟨by have := HK1.out; omega⟩, ⟨by (with_reducible repeat (first | refine blk_drewN ?_ _ | refine blk_drew ?_ | refine blk_alloc ?_ _)); exact BK186.out⟩, ⟨by repeat (first | (with_reducible first | exact HB.out | apply below_alloc | apply pw_below_drewN | apply below_drew1 | refine below_set ?_ GE186.out) | exact HB.out)⟩⟩
      · rw [if_neg c4] at H
        have c4b0 : decide (x5_1 ≤ 64) = false := decide_eq_false c4
        clear c4
        obtain rfl := Option.some.inj H
        have hcz10_0 := tch4 BK186.out
        go_wp2
        repeat (go_quiet (fail); try go_wp2)
        go_ret
        exact ⟨by first | rfl | (simp [errW_none, errW_some] <;> rfl) | (simp [*, errW_none, errW_some] <;> rfl), by repeat (first | (with_reducible first | exact HB.out | apply below_alloc | apply pw_below_drewN | apply below_drew1 | refine below_set ?_ GE186.out) | exact HB.out)⟩

/-! ### slew_Fastest: function 64 -/
def slew_Fastest.f (k : Nat) (a0_0 : Int) (a0_1 : Int) (a0_2 : Int) (a0_3 : Int) (a1 : Int) : Option (Int) := (slew_CheckAxis.f k a0_0 a0_1 a0_2 a0_3).bind fun t188 => (if t188 = 0 then (if a1 < 0 then (some 0) else ((slew_fastest.f k a0_0 a0_1 a0_2 a0_3 a1).bind fun t189 => (some t189))) else (some 0))
theorem slew_Fastest.mono : ∀ a0 a1 a2 a3 a4 k, LeO (slew_Fastest.f k a0 a1 a2 a3 a4) (slew_Fastest.f (k + 1) a0 a1 a2 a3 a4) := by
  intro a0 a1 a2 a3 a4 k
  unfold slew_Fastest.f
  repeat' first
      | (with_reducible exact slew_CheckAxis.mono _ _ _ _ _)
      | (with_reducible exact slew_fastest.mono _ _ _ _ _ _)
      | (with_reducible exact LeO.refl _)
      | (with_reducible exact LeO.none _)
      | (with_reducible refine LeO.ite ?_ ?_)
      | (with_reducible refine LeO.bind ?_ (fun _ => ?_))
      | exact slew_CheckAxis.mono _ _ _ _ _
      | exact slew_fastest.mono _ _ _ _ _ _
      | exact LeO.none _
      | refine LeO.ite ?_ ?_
      | refine LeO.bind ?_ (fun _ => ?_)
set_option maxHeartbeats 8000000 in
set_option maxRecDepth 100000 in
theorem slew_Fastest.calls (k : Nat) (a0_0 : Int) (a0_1 : Int) (a0_2 : Int) (a0_3 : Int) (a1 : Int) (r : Int) (w : World) (h : slew_Fastest.f k a0_0 a0_1 a0_2 a0_3 a1 = some r) :
    Calls Try.prog 64 #[.agg #[.int .i64 a0_0, .int .i64 a0_1, .int .i64 a0_2, .int .i64 a0_3], .int .i64 a1] w fun e w' => e = .returned (.int .i64 r) ∧ Below w.heap.size w w' := by
  have hu28 := Try.underlying28
  have HB := Aside0.mk (Below.refl w.heap.size w)
  have H : ((slew_CheckAxis.f k a0_0 a0_1 a0_2 a0_3).bind fun t188 => (if t188 = 0 then (if a1 < 0 then (some 0) else ((slew_fastest.f k a0_0 a0_1 a0_2 a0_3 a1).bind fun t189 => (some t189))) else (some 0))) = some r := h
  clear h
  replace H := Option.bind_eq_some_iff.mp H
  obtain ⟨t188, A30, H⟩ := H
  replace H : (if t188 = 0 then (if a1 < 0 then (some 0) else ((slew_fastest.f k a0_0 a0_1 a0_2 a0_3 a1).bind fun t189 => (some t189))) else (some 0)) = some r := H
  have A3 := Aside0.mk A30
  clear A30
  by_cases c4 : t188 = 0
  · rw [if_pos c4] at H
    have c4b0 : (t188 == 0) = true := beq_iff_eq.mpr c4
    have c4b1 : (t188 != 0) = false := bne_eq_false_iff_eq.mpr c4
    clear c4
    by_cases c5 : a1 < 0
    · rw [if_pos c5] at H
      have c5b0 : decide (a1 < 0) = true := decide_eq_true c5
      clear c5
      obtain rfl := Option.some.inj H
      go_enter Try.func64, Try.ntmps64
      go_wp2_with (first | ((with_reducible refine gate_dst (N := 2) rfl ?_); refine box_event ?hg (N := 2) ?hd (cs := #[.int .i64 a0_0, .int .i64 a0_1, .int .i64 a0_2, .int .i64 a0_3]) (t := 28) ?hr ?_; (case hd => rfl); (case hg => rfl); (case hr => first | (go_simp; done) | (go_simp; rfl)); intro gb187 hg w6 hbox hb; have n0_ := Aside0.mk (below_step (by exact HB.out) hb); have n1_ := Aside0.mk (hbox); have n2_ := Aside0.mk ((by rw [hg]; exact (below_size (by exact HB.out)) : w.heap.size ≤ gb187)); have n3_ := Aside0.mk ((by rw [hg]; exact (below_size (by exact HB.out)) : w.heap.size ≤ gb187)); clear HB; have HB := n0_; have BK187 := n1_; have GW187 := n2_; have GE187 := n3_; clear n0_ n1_ n2_ n3_; clear hb hbox hg; have hcz7_0 := tch4 BK187.out) | ((with_reducible refine gate_callee (f := 42) rfl ?_); refine goesL_ (some 6) rfl rfl Try.func42 (by kernel_rfl) rfl #[.agg #[.int .i64 a0_0, .int .i64 a0_1, .int .i64 a0_2, .int .i64 a0_3]] rfl (by (try simp only [List.map_toArray, List.map_cons, List.map_nil]); first | done | rfl | (simp only [List.length_drop, List.length_take]; rfl)) ?_; (with_reducible refine (slew_CheckAxis.calls k a0_0 a0_1 a0_2 a0_3 t188 _ A3.out).mono ?_); rintro e w8 ⟨rfl, hb⟩; refine ⟨_, rfl, ?_⟩; have n0_ := Aside0.mk (blk_below BK187.out hb); have n1_ := Aside0.mk (below_step (by exact HB.out) hb); clear BK187; clear HB; have BK187 := n0_; have HB := n1_; clear n0_ n1_; (try clear hb); (try clear hb2); (try clear hk); (try clear hi)))
      go_ret
      exact ⟨by first | rfl | (simp [errW_none, errW_some] <;> rfl) | (simp [*, errW_none, errW_some] <;> rfl), by exact HB.out⟩
    · rw [if_neg c5] at H
      have c5b0 : decide (a1 < 0) = false := decide_eq_false c5
      clear c5
      replace H := Option.bind_eq_some_iff.mp H
      obtain ⟨t189, A90, H⟩ := H
      replace H : (some t189) = some r := H
      have A9 := Aside0.mk A90
      clear A90
      obtain rfl := Option.some.inj H
      go_enter Try.func64, Try.ntmps64
      go_wp2_with (first | ((with_reducible refine gate_dst (N := 2) rfl ?_); refine box_event ?hg (N := 2) ?hd (cs := #[.int .i64 a0_0, .int .i64 a0_1, .int .i64 a0_2, .int .i64 a0_3]) (t := 28) ?hr ?_; (case hd => rfl); (case hg => rfl); (case hr => first | (go_simp; done) | (go_simp; rfl)); intro gb187 hg w10 hbox hb; have n0_ := Aside0.mk (below_step (by exact HB.out) hb); have n1_ := Aside0.mk (hbox); have n2_ := Aside0.mk ((by rw [hg]; exact (below_size (by exact HB.out)) : w.heap.size ≤ gb187)); have n3_ := Aside0.mk ((by rw [hg]; exact (below_size (by exact HB.out)) : w.heap.size ≤ gb187)); clear HB; have HB := n0_; have BK187 := n1_; have GW187 := n2_; have GE187 := n3_; clear n0_ n1_ n2_ n3_; clear hb hbox hg; have hcz11_0 := tch4 BK187.out) | ((with_reducible refine gate_callee (f := 42) rfl ?_); refine goesL_ (some 6) rfl rfl Try.func42 (by kernel_rfl) rfl #[.agg #[.int .i64 a0_0, .int .i64 a0_1, .int .i64 a0_2, .int .i64 a0_3]] rfl (by (try simp only [List.map_toArray, List.map_cons, List.map_nil]); first | done | rfl | (simp only [List.length_drop, List.length_take]; rfl)) ?_; (with_reducible refine (slew_CheckAxis.calls k a0_0 a0_1 a0_2 a0_3 t188 _ A3.out).mono ?_); rintro e w12 ⟨rfl, hb⟩; refine ⟨_, rfl, ?_⟩; have n0_ := Aside0.mk (blk_below BK187.out hb); have n1_ := Aside0.mk (below_step (by exact HB.out) hb); clear BK187; clear HB; have BK187 := n0_; have HB := n1_; clear n0_ n1_; (try clear hb); (try clear hb2); (try clear hk); (try clear hi); have hcz13_0 := tch4 BK187.out) | ((with_reducible refine gate_callee (f := 45) rfl ?_); refine goesL_ (some 14) rfl rfl Try.func45 (by kernel_rfl) rfl #[.agg #[.int .i64 a0_0, .int .i64 a0_1, .int .i64 a0_2, .int .i64 a0_3], .int .i64 a1] rfl (by (try simp only [List.map_toArray, List.map_cons, List.map_nil]); first | done | rfl | (simp only [List.length_drop, List.length_take]; rfl)) ?_; (with_reducible refine (slew_fastest.calls k a0_0 a0_1 a0_2 a0_3 a1 t189 _ A9.out).mono ?_); rintro e w14 ⟨rfl, hb⟩; refine ⟨_, rfl, ?_⟩; have n0_ := Aside0.mk (blk_below BK187.out hb); have n1_ := Aside0.mk (below_step (by exact HB.out) hb); clear BK187; clear HB; have BK187 := n0_; have HB := n1_; clear n0_ n1_; (try clear hb); (try clear hb2); (try clear hk); (try clear hi)))
      go_ret
      exact ⟨by first | rfl | (simp [errW_none, errW_some] <;> rfl) | (simp [*, errW_none, errW_some] <;> rfl), by exact HB.out⟩
  · rw [if_neg c4] at H
    have c4b0 : (t188 == 0) = false := beq_eq_false_iff_ne.mpr c4
    have c4b1 : (t188 != 0) = true := bne_iff_ne.mpr c4
    obtain rfl := Option.some.inj H
    go_enter Try.func64, Try.ntmps64
    go_wp2_with (first | ((with_reducible refine gate_dst (N := 2) rfl ?_); refine box_event ?hg (N := 2) ?hd (cs := #[.int .i64 a0_0, .int .i64 a0_1, .int .i64 a0_2, .int .i64 a0_3]) (t := 28) ?hr ?_; (case hd => rfl); (case hg => rfl); (case hr => first | (go_simp; done) | (go_simp; rfl)); intro gb187 hg w15 hbox hb; have n0_ := Aside0.mk (below_step (by exact HB.out) hb); have n1_ := Aside0.mk (hbox); have n2_ := Aside0.mk ((by rw [hg]; exact (below_size (by exact HB.out)) : w.heap.size ≤ gb187)); have n3_ := Aside0.mk ((by rw [hg]; exact (below_size (by exact HB.out)) : w.heap.size ≤ gb187)); clear HB; have HB := n0_; have BK187 := n1_; have GW187 := n2_; have GE187 := n3_; clear n0_ n1_ n2_ n3_; clear hb hbox hg; have hcz16_0 := tch4 BK187.out) | ((with_reducible refine gate_callee (f := 42) rfl ?_); refine goesL_ (some 6) rfl rfl Try.func42 (by kernel_rfl) rfl #[.agg #[.int .i64 a0_0, .int .i64 a0_1, .int .i64 a0_2, .int .i64 a0_3]] rfl (by (try simp only [List.map_toArray, List.map_cons, List.map_nil]); first | done | rfl | (simp only [List.length_drop, List.length_take]; rfl)) ?_; (with_reducible refine (slew_CheckAxis.calls k a0_0 a0_1 a0_2 a0_3 t188 _ A3.out).mono ?_); rintro e w17 ⟨rfl, hb⟩; refine ⟨_, rfl, ?_⟩; have n0_ := Aside0.mk (blk_below BK187.out hb); have n1_ := Aside0.mk (below_step (by exact HB.out) hb); clear BK187; clear HB; have BK187 := n0_; have HB := n1_; clear n0_ n1_; (try clear hb); (try clear hb2); (try clear hk); (try clear hi)))
    go_ret
    exact ⟨by first | rfl | (simp [errW_none, errW_some] <;> rfl) | (simp [*, errW_none, errW_some] <;> rfl), by exact HB.out⟩

/-! ### axis_next: function 56 -/
def axis_next.f (k : Nat) (a0_0 : Int) (a0_1 : Int) (a0_2 : Int) (a0_3 : Int) (a1 : Int) (a2 : Int) : Option (Int) := if a2 < 0 then (some (mn (wrap64 (a2 + a0_3)) 0)) else ((slew_Fastest.f k a0_0 a0_1 a0_2 a0_3 a1).bind fun t191 => (some (mx (mx (wrap64 (a2 - a0_3)) 0) (mn (wrap64 (a2 + a0_3)) t191))))
theorem axis_next.mono : ∀ a0 a1 a2 a3 a4 a5 k, LeO (axis_next.f k a0 a1 a2 a3 a4 a5) (axis_next.f (k + 1) a0 a1 a2 a3 a4 a5) := by
  intro a0 a1 a2 a3 a4 a5 k
  unfold axis_next.f
  repeat' first
      | (with_reducible exact slew_Fastest.mono _ _ _ _ _ _)
      | (with_reducible exact LeO.refl _)
      | (with_reducible exact LeO.none _)
      | (with_reducible refine LeO.ite ?_ ?_)
      | (with_reducible refine LeO.bind ?_ (fun _ => ?_))
      | exact slew_Fastest.mono _ _ _ _ _ _
      | exact LeO.none _
      | refine LeO.ite ?_ ?_
      | refine LeO.bind ?_ (fun _ => ?_)
def axis_next.T4 : Bool × List (List Nat × List Nat) := (true, [([], []), ([], []), ([], []), ([2], [2]), ([1, 3], [1, 3]), ([], []), ([], []), ([5, 6], [5, 6]), ([4, 7], [4, 7]), ([0, 8], [0, 8]), ([9, 7, 0, 1, 2, 3, 4, 5, 6, 7, 8, 9], [9])])
def axis_next.B4 : List Nat := [0, 0, 0, 4, 14, 0, 0, 96, 254, 511, 1023]
theorem axis_next.tab4 : rtab .any (opsOf Try.f56 4) = axis_next.T4 := by kernel_rfl
theorem axis_next.bits4 : waitsOk axis_next.T4.2 axis_next.B4 = true := by kernel_rfl
set_option maxHeartbeats 8000000 in
set_option maxRecDepth 100000 in
theorem axis_next.calls (k : Nat) (a0_0 : Int) (a0_1 : Int) (a0_2 : Int) (a0_3 : Int) (a1 : Int) (a2 : Int) (r : Int) (w : World) (h : axis_next.f k a0_0 a0_1 a0_2 a0_3 a1 a2 = some r) :
    Calls Try.prog 56 #[.agg #[.int .i64 a0_0, .int .i64 a0_1, .int .i64 a0_2, .int .i64 a0_3], .int .i64 a1, .int .i64 a2] w fun e w' => e = .returned (.int .i64 r) ∧ Below w.heap.size w w' := by
  have hu28 := Try.underlying28
  have HB := Aside0.mk (Below.refl w.heap.size w)
  have H : (if a2 < 0 then (some (mn (wrap64 (a2 + a0_3)) 0)) else ((slew_Fastest.f k a0_0 a0_1 a0_2 a0_3 a1).bind fun t191 => (some (mx (mx (wrap64 (a2 - a0_3)) 0) (mn (wrap64 (a2 + a0_3)) t191))))) = some r := h
  clear h
  by_cases c4 : a2 < 0
  · rw [if_pos c4] at H
    have c4b0 : decide (a2 < 0) = true := decide_eq_true c4
    clear c4
    obtain ⟨ji5, hji5⟩ : ∃ j_ : Int, (mn (wrap64 (a2 + a0_3)) 0) = j_ := ⟨_, rfl⟩
    replace H : (some ji5) = some r := by first | (rw [hji5] at H; exact H) | (simp only [hji5] at H ⊢; exact H)
    (try (have hji5h : ji5 ≤ 0 := by (rw [← hji5]; unfold mn; (repeat' split) <;> omega)))
    (try (have hji5g : ji5 ≤ 64 := by omega))
    have hji5_ : (if 0 < (wrap64 (a2 + a0_3)) then 0 else (wrap64 (a2 + a0_3))) = ji5 := hji5
    obtain rfl := Option.some.inj H
    go_enter Try.func56, Try.ntmps56
    go_wp2_with (first | ((with_reducible refine gate_dst (N := 3) rfl ?_); refine box_event ?hg (N := 3) ?hd (cs := #[.int .i64 a0_0, .int .i64 a0_1, .int .i64 a0_2, .int .i64 a0_3]) (t := 28) ?hr ?_; (case hd => rfl); (case hg => rfl); (case hr => first | (go_simp; done) | (go_simp; rfl)); intro gb190 hg w6 hbox hb; have n0_ := Aside0.mk (below_step (by exact HB.out) hb); have n1_ := Aside0.mk (hbox); have n2_ := Aside0.mk ((by rw [hg]; exact (below_size (by exact HB.out)) : w.heap.size ≤ gb190)); have n3_ := Aside0.mk ((by rw [hg]; exact (below_size (by exact HB.out)) : w.heap.size ≤ gb190)); clear HB; have HB := n0_; have BK190 := n1_; have GW190 := n2_; have GE190 := n3_; clear n0_ n1_ n2_ n3_; clear hb hbox hg; have hcz7_0 := tch4 BK190.out))
    go_ret
    exact ⟨by first | rfl | (simp [errW_none, errW_some] <;> rfl) | (simp only [← hji5]; first | rfl | (simp [errW_none, errW_some] <;> rfl)) | (simp [*, errW_none, errW_some] <;> rfl), by exact HB.out⟩
  · rw [if_neg c4] at H
    have c4b0 : decide (a2 < 0) = false := decide_eq_false c4
    clear c4
    obtain ⟨ji8, hji8⟩ : ∃ j_ : Int, (mx (wrap64 (a2 - a0_3)) 0) = j_ := ⟨_, rfl⟩
    replace H : ((slew_Fastest.f k a0_0 a0_1 a0_2 a0_3 a1).bind fun t191 => (some (mx (ji8) (mn (wrap64 (a2 + a0_3)) t191)))) = some r := by first | (rw [hji8] at H; exact H) | (simp only [hji8] at H ⊢; exact H)
    (try (have hji8l : 0 ≤ ji8 := by (rw [← hji8]; unfold mx; (repeat' split) <;> omega)))
    (try (have hji8m : 0 ≤ ji8 := by omega))
    have hji8_ : (if (wrap64 (a2 - a0_3)) < 0 then 0 else (wrap64 (a2 - a0_3))) = ji8 := hji8
    replace H := Option.bind_eq_some_iff.mp H
    obtain ⟨t191, A90, H⟩ := H
    replace H : (some (mx (ji8) (mn (wrap64 (a2 + a0_3)) t191))) = some r := H
    have A9 := Aside0.mk A90
    clear A90
    obtain ⟨ji10, hji10⟩ : ∃ j_ : Int, (mn (wrap64 (a2 + a0_3)) t191) = j_ := ⟨_, rfl⟩
    replace H : (some (mx (ji8) (ji10))) = some r := by first | (rw [hji10] at H; exact H) | (simp only [hji10] at H ⊢; exact H)
    (try rw [hji10] at A9)
    have hji10_ : (if t191 < (wrap64 (a2 + a0_3)) then t191 else (wrap64 (a2 + a0_3))) = ji10 := hji10
    obtain ⟨ji11, hji11⟩ : ∃ j_ : Int, (mx (ji8) (ji10)) = j_ := ⟨_, rfl⟩
    replace H : (some ji11) = some r := by first | (rw [hji11] at H; exact H) | (simp only [hji11] at H ⊢; exact H)
    (try rw [hji11] at A9)
    have hji11_ : (if (ji8) < (ji10) then (ji10) else (ji8)) = ji11 := hji11
    obtain rfl := Option.some.inj H
    go_enter Try.func56, Try.ntmps56
    try go_wp2_with (first | ((with_reducible refine gate_dst (N := 3) rfl ?_); refine box_event ?hg (N := 3) ?hd (cs := #[.int .i64 a0_0, .int .i64 a0_1, .int .i64 a0_2, .int .i64 a0_3]) (t := 28) ?hr ?_; (case hd => rfl); (case hg => rfl); (case hr => first | (go_simp; done) | (go_simp; rfl)); intro gb190 hg w12 hbox hb; have n0_ := Aside0.mk (below_step (by exact HB.out) hb); have n1_ := Aside0.mk (hbox); have n2_ := Aside0.mk ((by rw [hg]; exact (below_size (by exact HB.out)) : w.heap.size ≤ gb190)); have n3_ := Aside0.mk ((by rw [hg]; exact (below_size (by exact HB.out)) : w.heap.size ≤ gb190)); clear HB; have HB := n0_; have BK190 := n1_; have GW190 := n2_; have GE190 := n3_; clear n0_ n1_ n2_ n3_; clear hb hbox hg; have hcz13_0 := tch4 BK190.out))
    have n0_ := Aside0.mk (blk_drew BK190.out)
    have n1_ := Aside0.mk (below_drew1 HB.out)
    clear BK190
    clear HB
    have BK190 := n0_
    have HB := n1_
    clear n0_ n1_
    refine start_ (n := 11) (S := fun w' => w'.cell? ⟨gb190, 0, none⟩ = some (.int .i64 a0_0) ∧ w'.cell? ⟨gb190, 1, none⟩ = some (.int .i64 a0_1) ∧ w'.cell? ⟨gb190, 2, none⟩ = some (.int .i64 a0_2) ∧ w'.cell? ⟨gb190, 3, none⟩ = some (.int .i64 a0_3)) (ds := []) #[false, false, false, false, false, false, false, false, false, false, false] (by kernel_rfl) rfl rfl ⟨(blk_cell BK190.out 0).trans rfl, (blk_cell BK190.out 1).trans rfl, (blk_cell BK190.out 2).trans rfl, (blk_cell BK190.out 3).trans rfl⟩ (fun hHeld => ?_); refine with_tabW axis_next.tab4 axis_next.bits4 (fun HT_ HW_ => ?_)
    generalize w12.drew = w14 at BK190 HB hHeld ⊢
    refine pure_ (i := 0) (N := some 20) (v := ?_) (a' := ?_) #[true, false, false, false, false, false, false, false, false, false, false] rfl rfl (any_of HT_.out (by kernel_rfl)) (fun _ _ _ h => h) (Or.inl ⟨by rfl, ?_⟩) ?_ ?_
    rotate_left
    · intro w'
      go_simp
      with_reducible rfl
    rotate_left
    · simp only [Act.put, List.setIfInBounds_toArray, List.set_cons_zero, List.set_cons_succ, i64_w, i32_w]
      rfl
    refine pure_ (i := 1) (N := some 21) (v := ?_) (a' := ?_) #[true, true, false, false, false, false, false, false, false, false, false] rfl rfl (any_of HT_.out (by kernel_rfl)) (fun _ _ _ h => h) (Or.inl ⟨by rfl, ?_⟩) ?_ ?_
    rotate_left
    · intro w'
      go_simp
      with_reducible rfl
    rotate_left
    · simp only [Act.put, List.setIfInBounds_toArray, List.set_cons_zero, List.set_cons_succ, i64_w, i32_w]
      rfl
    refine pure_ (i := 2) (N := some 22) (v := ?_) (a' := ?_) #[true, true, true, false, false, false, false, false, false, false, false] rfl rfl (any_of HT_.out (by kernel_rfl)) (fun _ _ _ h => h) (Or.inl ⟨by rfl, ?_⟩) ?_ ?_
    rotate_left
    · intro w'
      go_simp
      with_reducible rfl
    rotate_left
    · simp only [Act.put, List.setIfInBounds_toArray, List.set_cons_zero, List.set_cons_succ, i64_w, i32_w]
      rfl
    refine pure_ (i := 6) (N := some 26) (v := ?_) (a' := ?_) #[true, true, true, false, false, false, true, false, false, false, false] rfl rfl (any_of HT_.out (by kernel_rfl)) (fun _ _ _ h => h) (Or.inl ⟨by rfl, ?_⟩) ?_ ?_
    rotate_left
    · intro w'
      go_simp
      with_reducible rfl
    rotate_left
    · simp only [Act.put, List.setIfInBounds_toArray, List.set_cons_zero, List.set_cons_succ, i64_w, i32_w]
      rfl
    refine take_ (i := 3) (N := some 23) (v := ?_) (a' := ?_) #[true, true, true, true, false, false, true, false, false, false, false] rfl rfl (take_ofW HT_.out HW_.out (by kernel_rfl)) (fun _ _ _ h => h) (Or.inl ⟨by rfl, ?_⟩) hHeld ?_ ?_
    rotate_left
    · rintro w' ⟨s0, s1, s2, s3⟩
      go_simp
      with_reducible rfl
    rotate_left
    · simp only [Act.put, List.setIfInBounds_toArray, List.set_cons_zero, List.set_cons_succ, i64_w, i32_w]
      rfl
    refine pure_ (i := 4) (N := some 24) (v := ?_) (a' := ?_) #[true, true, true, true, true, false, true, false, false, false, false] rfl rfl (any_of HT_.out (by kernel_rfl)) (fun _ _ _ h => h) (Or.inl ⟨by rfl, ?_⟩) ?_ ?_
    rotate_left
    · intro w'
      go_simp
      with_reducible rfl
    rotate_left
    · simp only [Act.put, List.setIfInBounds_toArray, List.set_cons_zero, List.set_cons_succ, i64_w, i32_w]
      rfl
    refine take_ (i := 5) (N := some 25) (v := ?_) (a' := ?_) #[true, true, true, true, true, true, true, false, false, false, false] rfl rfl (take_ofW HT_.out HW_.out (by kernel_rfl)) (fun _ _ _ h => h) (Or.inl ⟨by rfl, ?_⟩) hHeld ?_ ?_
    rotate_left
    · rintro w' ⟨s0, s1, s2, s3⟩
      go_simp
      with_reducible rfl
    rotate_left
    · simp only [Act.put, List.setIfInBounds_toArray, List.set_cons_zero, List.set_cons_succ, i64_w, i32_w]
      rfl
    refine one_ (i := 7) (N := some 27) #[true, true, true, true, true, true, true, true, false, false, false] rfl rfl (one_of HT_.out (by kernel_rfl)) (by decide) (fun K hK => ?_)
    refine goes_ Try.func64 (by kernel_rfl) rfl #[.agg #[.int .i64 a0_0, .int .i64 a0_1, .int .i64 a0_2, .int .i64 a0_3], .int .i64 a1] (by rfl) rfl rfl (by (try simp only [List.map_toArray, List.map_cons, List.map_nil]); first | done | rfl | (simp only [List.length_drop, List.length_take]; rfl)) ?_
    with_reducible refine (slew_Fastest.calls k a0_0 a0_1 a0_2 a0_3 a1 t191 _ A9.out).mono ?_
    rintro e w15 ⟨rfl, hb⟩
    refine ⟨_, rfl, ?_⟩
    have n0_ := Aside0.mk (blk_below BK190.out hb)
    have n1_ := Aside0.mk (below_step (by exact HB.out) hb)
    clear BK190
    clear HB
    have BK190 := n0_
    have HB := n1_
    clear n0_ n1_
    (try clear hb)
    (try clear hb2)
    (try clear hk)
    (try clear hi)
    refine hK.out _ _ ⟨(blk_cell BK190.out 0).trans rfl, (blk_cell BK190.out 1).trans rfl, (blk_cell BK190.out 2).trans rfl, (blk_cell BK190.out 3).trans rfl⟩ (fun hHeld => ?_)
    clear hK K
    refine norm_ (a' := ?_) ?_ ?_
    rotate_left
    · show Act.put _ (some 27) _ = _
      simp only [Act.put, List.setIfInBounds_toArray, List.set_cons_zero, List.set_cons_succ, i64_w, i32_w]
      rfl
    refine pure_ (i := 8) (N := some 28) (v := ?_) (a' := ?_) #[true, true, true, true, true, true, true, true, true, false, false] rfl rfl (any_of HT_.out (by kernel_rfl)) (fun _ _ _ h => h) (Or.inl ⟨by rfl, ?_⟩) ?_ ?_
    rotate_left
    · intro w'
      go_simp
      with_reducible rfl
    rotate_left
    · simp only [Act.put, List.setIfInBounds_toArray, List.set_cons_zero, List.set_cons_succ, i64_w, i32_w]
      rfl
    refine pure_ (i := 9) (N := some 29) (v := ?_) (a' := ?_) #[true, true, true, true, true, true, true, true, true, true, false] rfl rfl (any_of HT_.out (by kernel_rfl)) (fun _ _ _ h => h) (Or.inl ⟨by rfl, ?_⟩) ?_ ?_
    rotate_left
    · intro w'
      go_simp
      with_reducible rfl
    rotate_left
    · simp only [Act.put, List.setIfInBounds_toArray, List.set_cons_zero, List.set_cons_succ, i64_w, i32_w]
      rfl
    refine pure_ (i := 10) (N := some 6) (v := ?_) (a' := ?_) #[true, true, true, true, true, true, true, true, true, true, true] rfl rfl (any_of HT_.out (by kernel_rfl)) (fun _ _ _ h => h) (Or.inl ⟨by rfl, ?_⟩) ?_ ?_
    rotate_left
    · intro w'
      go_simp
      with_reducible rfl
    rotate_left
    · simp only [Act.put, List.setIfInBounds_toArray, List.set_cons_zero, List.set_cons_succ, i64_w, i32_w]
      rfl
    refine done_ (done_of HT_.out (by kernel_rfl)) ?_
    try go_wp2
    go_ret
    exact ⟨by first | rfl | (simp [errW_none, errW_some] <;> rfl) | (simp only [← hji8, ← hji10, ← hji11]; first | rfl | (simp [errW_none, errW_some] <;> rfl)) | (simp [*, errW_none, errW_some] <;> rfl), by exact HB.out⟩

/-! ### axis_Step: function 38 -/
def axis_Step.j0 : Nat → Bool → Int → Int → Int → Int → Int → Int → Int → Bool → Option (Int × Int × Int × Bool)
  | 0, _, _, _, _, _, _, _, _, _ => none
  | k + 1, x22, x193000, x193001, x193002, x193003, x194000, x194001, x194002, x194003 => if x22 = true then (if x194003 = true then (if (mx (wrap64 (x194001 - x193003)) 0) = 0 then (some (wrap64 (x194000 + (mx (wrap64 (x194001 - x193003)) 0)), mx (wrap64 (x194001 - x193003)) 0, wrap64 (x194000 + (mx (wrap64 (x194001 - x193003)) 0)), false)) else (some (wrap64 (x194000 + (mx (wrap64 (x194001 - x193003)) 0)), mx (wrap64 (x194001 - x193003)) 0, x194002, x194003))) else (some (wrap64 (x194000 + (mx (wrap64 (x194001 - x193003)) 0)), mx (wrap64 (x194001 - x193003)) 0, x194002, x194003))) else (if x194003 = true then (if (mn (wrap64 (x194001 + x193003)) 0) = 0 then (some (wrap64 (x194000 + (mn (wrap64 (x194001 + x193003)) 0)), mn (wrap64 (x194001 + x193003)) 0, wrap64 (x194000 + (mn (wrap64 (x194001 + x193003)) 0)), false)) else (some (wrap64 (x194000 + (mn (wrap64 (x194001 + x193003)) 0)), mn (wrap64 (x194001 + x193003)) 0, x194002, x194003))) else (if x194002 ≥ x194000 then ((axis_next.f k x193000 x193001 x193002 x193003 (wrap64 (x194002 - x194000)) x194001).bind fun t196 => (some (wrap64 (x194000 + t196), t196, x194002, x194003))) else ((axis_next.f k x193000 x193001 x193002 x193003 (wrap64 (x194000 - x194002)) (wrap64 (-x194001))).bind fun t197 => (some (wrap64 (x194000 + (wrap64 (-t197))), wrap64 (-t197), x194002, x194003)))))
def axis_Step.f (k : Nat) (a0_0 : Int) (a0_1 : Int) (a0_2 : Int) (a0_3 : Int) (a1_0 : Int) (a1_1 : Int) (a1_2 : Int) (a1_3 : Bool) : Option (Int × Int × Int × Bool) := (axis_Check.f k a0_0 a0_1 a0_2 a0_3 a1_0 a1_1 a1_2 a1_3).bind fun t195 => (if t195 = 0 then (if a1_3 = true then (axis_Step.j0 k (decide (a1_1 > 0)) a0_0 a0_1 a0_2 a0_3 a1_0 a1_1 a1_2 a1_3) else (axis_Step.j0 k false a0_0 a0_1 a0_2 a0_3 a1_0 a1_1 a1_2 a1_3)) else (some (a1_0, a1_1, a1_2, a1_3)))
theorem axis_Step.mono_l : ∀ k, (∀ y0 y1 y2 y3 y4 y5 y6 y7 y8, LeO (axis_Step.j0 k y0 y1 y2 y3 y4 y5 y6 y7 y8) (axis_Step.j0 (k + 1) y0 y1 y2 y3 y4 y5 y6 y7 y8))
  | 0 => fun _ _ _ _ _ _ _ _ _ r h => by simp [axis_Step.j0] at h
  | k + 1 => by
    have ih0 := axis_Step.mono_l k
    · intro y0 y1 y2 y3 y4 y5 y6 y7 y8
      unfold axis_Step.j0
      repeat' first
      | (with_reducible exact ih0 _ _ _ _ _ _ _ _ _)
      | (with_reducible exact axis_Check.mono _ _ _ _ _ _ _ _ _)
      | (with_reducible exact axis_next.mono _ _ _ _ _ _ _)
      | (with_reducible exact LeO.refl _)
      | (with_reducible exact LeO.none _)
      | (with_reducible refine LeO.ite ?_ ?_)
      | (with_reducible refine LeO.bind ?_ (fun _ => ?_))
      | exact ih0 _ _ _ _ _ _ _ _ _
      | exact axis_Check.mono _ _ _ _ _ _ _ _ _
      | exact axis_next.mono _ _ _ _ _ _ _
      | exact LeO.none _
      | refine LeO.ite ?_ ?_
      | refine LeO.bind ?_ (fun _ => ?_)
theorem axis_Step.mono : ∀ a0 a1 a2 a3 a4 a5 a6 a7 k, LeO (axis_Step.f k a0 a1 a2 a3 a4 a5 a6 a7) (axis_Step.f (k + 1) a0 a1 a2 a3 a4 a5 a6 a7) := by
  intro a0 a1 a2 a3 a4 a5 a6 a7 k
  have ih0 := axis_Step.mono_l k
  unfold axis_Step.f
  repeat' first
      | (with_reducible exact ih0 _ _ _ _ _ _ _ _ _)
      | (with_reducible exact axis_Check.mono _ _ _ _ _ _ _ _ _)
      | (with_reducible exact axis_next.mono _ _ _ _ _ _ _)
      | (with_reducible exact LeO.refl _)
      | (with_reducible exact LeO.none _)
      | (with_reducible refine LeO.ite ?_ ?_)
      | (with_reducible refine LeO.bind ?_ (fun _ => ?_))
      | exact ih0 _ _ _ _ _ _ _ _ _
      | exact axis_Check.mono _ _ _ _ _ _ _ _ _
      | exact axis_next.mono _ _ _ _ _ _ _
      | exact LeO.none _
      | refine LeO.ite ?_ ?_
      | refine LeO.bind ?_ (fun _ => ?_)
set_option maxHeartbeats 8000000 in
set_option maxRecDepth 100000 in
theorem axis_Step.calls (k : Nat) (a0_0 : Int) (a0_1 : Int) (a0_2 : Int) (a0_3 : Int) (a1_0 : Int) (a1_1 : Int) (a1_2 : Int) (a1_3 : Bool) (r1 : Int) (r2 : Int) (r3 : Int) (r4 : Bool) (w : World) (h : axis_Step.f k a0_0 a0_1 a0_2 a0_3 a1_0 a1_1 a1_2 a1_3 = some (r1, r2, r3, r4)) :
    Calls Try.prog 38 #[.agg #[.int .i64 a0_0, .int .i64 a0_1, .int .i64 a0_2, .int .i64 a0_3], .agg #[.int .i64 a1_0, .int .i64 a1_1, .int .i64 a1_2, .bool a1_3]] w fun e w' => e = .returned (.agg #[.int .i64 r1, .int .i64 r2, .int .i64 r3, .bool r4]) ∧ Below w.heap.size w w' := by
  have hu28 := Try.underlying28
  have hu35 := Try.underlying35
  have HB := Aside0.mk (Below.refl w.heap.size w)
  have H : ((axis_Check.f k a0_0 a0_1 a0_2 a0_3 a1_0 a1_1 a1_2 a1_3).bind fun t195 => (if t195 = 0 then (if a1_3 = true then (axis_Step.j0 k (decide (a1_1 > 0)) a0_0 a0_1 a0_2 a0_3 a1_0 a1_1 a1_2 a1_3) else (axis_Step.j0 k false a0_0 a0_1 a0_2 a0_3 a1_0 a1_1 a1_2 a1_3)) else (some (a1_0, a1_1, a1_2, a1_3)))) = some (r1, r2, r3, r4) := h
  clear h
  replace H := Option.bind_eq_some_iff.mp H
  obtain ⟨t195, A30, H⟩ := H
  replace H : (if t195 = 0 then (if a1_3 = true then (axis_Step.j0 k (decide (a1_1 > 0)) a0_0 a0_1 a0_2 a0_3 a1_0 a1_1 a1_2 a1_3) else (axis_Step.j0 k false a0_0 a0_1 a0_2 a0_3 a1_0 a1_1 a1_2 a1_3)) else (some (a1_0, a1_1, a1_2, a1_3))) = some (r1, r2, r3, r4) := H
  have A3 := Aside0.mk A30
  clear A30
  by_cases c4 : t195 = 0
  · rw [if_pos c4] at H
    have c4b0 : (t195 == 0) = true := beq_iff_eq.mpr c4
    have c4b1 : (t195 != 0) = false := bne_eq_false_iff_eq.mpr c4
    clear c4
    have HC5 := Aside0.mk H
    clear H
    go_enter Try.func38, Try.ntmps38
    go_upto_region 4 with (first | ((with_reducible refine gate_dst (N := 2) rfl ?_); refine box_event ?hg (N := 2) ?hd (cs := #[.int .i64 a0_0, .int .i64 a0_1, .int .i64 a0_2, .int .i64 a0_3]) (t := 28) ?hr ?_; (case hd => rfl); (case hg => rfl); (case hr => first | (go_simp; done) | (go_simp; rfl)); intro gb192 hg w6 hbox hb; have n0_ := Aside0.mk (below_step (by exact HB.out) hb); have n1_ := Aside0.mk (hbox); have n2_ := Aside0.mk ((by rw [hg]; exact (below_size (by exact HB.out)) : w.heap.size ≤ gb192)); have n3_ := Aside0.mk ((by rw [hg]; exact (below_size (by exact HB.out)) : w.heap.size ≤ gb192)); clear HB; have HB := n0_; have BK192 := n1_; have GW192 := n2_; have GE192 := n3_; clear n0_ n1_ n2_ n3_; clear hb hbox hg) | ((with_reducible refine gate_dst (N := 3) rfl ?_); refine box_event ?hg (N := 3) ?hd (cs := #[.int .i64 a1_0, .int .i64 a1_1, .int .i64 a1_2, .bool a1_3]) (t := 35) ?hr ?_; (case hd => rfl); (case hg => rfl); (case hr => first | (go_simp; done) | (go_simp; rfl)); intro gb193 hg w7 hbox hb; have n0_ := Aside0.mk (blk_below BK192.out hb); have n1_ := Aside0.mk (below_step (by exact HB.out) hb); have n2_ := Aside0.mk (hbox); have n3_ := Aside0.mk ((by rw [hg]; exact (below_size (by exact HB.out)) : w.heap.size ≤ gb193)); have n4_ := Aside0.mk ((by rw [hg]; exact (below_size (by exact HB.out)) : w.heap.size ≤ gb193)); have n5_ := Aside0.mk ((by rw [hg]; exact Nat.ne_of_lt (blk_lt BK192.out) : gb192 ≠ gb193)); clear BK192; clear HB; have BK192 := n0_; have HB := n1_; have BK193 := n2_; have GW193 := n3_; have GE193 := n4_; have NB192_193 := n5_; clear n0_ n1_ n2_ n3_ n4_ n5_; clear hb hbox hg) | ((with_reducible refine gate_dst (N := 4) rfl ?_); refine box_event ?hg (N := 4) ?hd (cs := #[.int .i64 0, .int .i64 0, .int .i64 0, .bool false]) (t := 35) ?hr ?_; (case hd => rfl); (case hg => rfl); (case hr => first | (go_simp; done) | (go_simp; rfl)); intro gb194 hg w8 hbox hb; have n0_ := Aside0.mk (blk_below BK192.out hb); have n1_ := Aside0.mk (blk_below BK193.out hb); have n2_ := Aside0.mk (below_step (by exact HB.out) hb); have n3_ := Aside0.mk (hbox); have n4_ := Aside0.mk ((by rw [hg]; exact (below_size (by exact HB.out)) : w.heap.size ≤ gb194)); have n5_ := Aside0.mk ((by rw [hg]; exact (below_size (by exact HB.out)) : w.heap.size ≤ gb194)); have n6_ := Aside0.mk ((by rw [hg]; exact Nat.ne_of_lt (blk_lt BK192.out) : gb192 ≠ gb194)); have n7_ := Aside0.mk ((by rw [hg]; exact Nat.ne_of_lt (blk_lt BK193.out) : gb193 ≠ gb194)); have n8_ := Aside0.mk ((by rw [hg]; exact Nat.ne_of_gt (blk_lt BK193.out) : gb194 ≠ gb193)); clear BK192; clear BK193; clear HB; have BK192 := n0_; have BK193 := n1_; have HB := n2_; have BK194 := n3_; have GW194 := n4_; have GE194 := n5_; have NB192_194 := n6_; have NB193_194 := n7_; have NB194_193 := n8_; clear n0_ n1_ n2_ n3_ n4_ n5_ n6_ n7_ n8_; clear hb hbox hg; have hcz9_0 := tch4 BK192.out; have hcz10_0 := tch4 BK193.out) | ((with_reducible refine gate_callee (f := 41) rfl ?_); refine goesL_ (some 7) rfl rfl Try.func41 (by kernel_rfl) rfl #[.agg #[.int .i64 a0_0, .int .i64 a0_1, .int .i64 a0_2, .int .i64 a0_3], .agg #[.int .i64 a1_0, .int .i64 a1_1, .int .i64 a1_2, .bool a1_3]] rfl (by (try simp only [List.map_toArray, List.map_cons, List.map_nil]); first | done | rfl | (simp only [List.length_drop, List.length_take]; rfl)) ?_; (with_reducible refine (axis_Check.calls k a0_0 a0_1 a0_2 a0_3 a1_0 a1_1 a1_2 a1_3 t195 _ A3.out).mono ?_); rintro e w11 ⟨rfl, hb⟩; refine ⟨_, rfl, ?_⟩; have n0_ := Aside0.mk (blk_below BK192.out hb); have n1_ := Aside0.mk (blk_below BK193.out hb); have n2_ := Aside0.mk (blk_below BK194.out hb); have n3_ := Aside0.mk (below_step (by exact HB.out) hb); clear BK192; clear BK193; clear BK194; clear HB; have BK192 := n0_; have BK193 := n1_; have BK194 := n2_; have HB := n3_; clear n0_ n1_ n2_ n3_; (try clear hb); (try clear hb2); (try clear hk); (try clear hi)))
    (try simp only [Act.put, List.setIfInBounds_toArray, List.set_cons_zero, List.set_cons_succ])
    go_cut [22] (fun v22 wc => ∃ (kq : Nat) (x22_4 : Bool), v22 = .bool x22_4 ∧ Aside0 (axis_Step.j0 kq x22_4 a0_0 a0_1 a0_2 a0_3 a1_0 a1_1 a1_2 a1_3 = some (r1, r2, r3, r4)) ∧ Aside0 (kq ≤ k) ∧ Aside0 (wc.heap[gb192]? = some (.cells #[.int .i64 a0_0, .int .i64 a0_1, .int .i64 a0_2, .int .i64 a0_3] 28 (0, 0))) ∧ Aside0 (wc.heap[gb193]? = some (.cells #[.int .i64 a1_0, .int .i64 a1_1, .int .i64 a1_2, .bool a1_3] 35 (0, 0))) ∧ Aside0 (wc.heap[gb194]? = some (.cells #[.int .i64 0, .int .i64 0, .int .i64 0, .bool false] 35 (0, 0))) ∧ Aside0 (Below w.heap.size w wc))
    case first =>
      have H := HC5.out
      clear HC5
      by_cases c12 : a1_3 = true
      · subst c12
        have H1 : (axis_Step.j0 k (decide (a1_1 > 0)) a0_0 a0_1 a0_2 a0_3 a1_0 a1_1 a1_2 true) = some (r1, r2, r3, r4) := by rw [if_pos rfl] at H; exact H
        clear H
        have H := H1
        clear H1
        have H' := Aside0.mk H
        clear H
        have hcz13_0 := tch4 BK193.out
        go_wp2
        go_meet
        case rel => exact ⟨_, (decide (a1_1 > 0)), (by first | rfl | (simp; done) | (simp [*]; done)), H', ⟨by first | omega | exact Nat.le_refl _⟩, ⟨by exact BK192.out⟩, ⟨by exact BK193.out⟩, ⟨by exact BK194.out⟩, ⟨by exact HB.out⟩⟩
      · replace c12 := Bool.eq_false_iff.mpr c12
        subst c12
        have H1 : (axis_Step.j0 k false a0_0 a0_1 a0_2 a0_3 a1_0 a1_1 a1_2 false) = some (r1, r2, r3, r4) := by rw [if_neg (show ¬ (false = true) by decide)] at H; exact H
        clear H
        have H := H1
        clear H1
        have H' := Aside0.mk H
        clear H
        have hcz14_0 := tch4 BK193.out
        go_wp2
        go_meet
        case rel => exact ⟨_, (false), (by first | rfl | (simp; done) | (simp [*]; done)), H', ⟨by first | omega | exact Nat.le_refl _⟩, ⟨by exact BK192.out⟩, ⟨by exact BK193.out⟩, ⟨by exact BK194.out⟩, ⟨by exact HB.out⟩⟩
    case rest =>
      clear HC5
      try clear c1
      try clear p2
      try clear c3
      try clear c4
      try clear c4b0
      try clear c4b1
      try clear c12
      try clear hcz10_0
      try clear hcz13_0
      try clear hcz14_0
      try clear hcz9_0
      obtain ⟨kq, x22_4, rfl, HA, HJ4, BK192, BK193, BK194, HB⟩ := hcut
      cases kq with
      | zero => exact absurd HA.out (by simp [axis_Step.j0])
      | succ kj4 =>
        have H := HA.out
        clear HA
        simp only [axis_Step.j0] at H
        by_cases c15 : x22_4 = true
        · subst c15
          have H1 : (if a1_3 = true then (if (mx (wrap64 (a1_1 - a0_3)) 0) = 0 then (some (wrap64 (a1_0 + (mx (wrap64 (a1_1 - a0_3)) 0)), mx (wrap64 (a1_1 - a0_3)) 0, wrap64 (a1_0 + (mx (wrap64 (a1_1 - a0_3)) 0)), false)) else (some (wrap64 (a1_0 + (mx (wrap64 (a1_1 - a0_3)) 0)), mx (wrap64 (a1_1 - a0_3)) 0, a1_2, a1_3))) else (some (wrap64 (a1_0 + (mx (wrap64 (a1_1 - a0_3)) 0)), mx (wrap64 (a1_1 - a0_3)) 0, a1_2, a1_3))) = some (r1, r2, r3, r4) := by rw [if_pos rfl] at H; exact H
          clear H
          have H := H1
          clear H1
          obtain ⟨ji16, hji16⟩ : ∃ j_ : Int, (mx (wrap64 (a1_1 - a0_3)) 0) = j_ := ⟨_, rfl⟩
          replace H : (if a1_3 = true then (if (ji16) = 0 then (some (wrap64 (a1_0 + (ji16)), ji16, wrap64 (a1_0 + (ji16)), false)) else (some (wrap64 (a1_0 + (ji16)), ji16, a1_2, a1_3))) else (some (wrap64 (a1_0 + (ji16)), ji16, a1_2, a1_3))) = some (r1, r2, r3, r4) := by first | (rw [hji16] at H; exact H) | (simp only [hji16] at H ⊢; exact H)
          have hji16_ : (if (wrap64 (a1_1 - a0_3)) < 0 then 0 else (wrap64 (a1_1 - a0_3))) = ji16 := hji16
          by_cases c17 : a1_3 = true
          · subst c17
            have H1 : (if (ji16) = 0 then (some (wrap64 (a1_0 + (ji16)), ji16, wrap64 (a1_0 + (ji16)), false)) else (some (wrap64 (a1_0 + (ji16)), ji16, a1_2, true))) = some (r1, r2, r3, r4) := by rw [if_pos rfl] at H; exact H
            clear H
            have H := H1
            clear H1
            by_cases c18 : (ji16) = 0
            · rw [if_pos c18] at H
              have c18b0 : ((ji16) == 0) = true := beq_iff_eq.mpr c18
              have c18b1 : ((ji16) != 0) = false := bne_eq_false_iff_eq.mpr c18
              clear c18
              simp only [Option.some.injEq, Prod.mk.injEq] at H
              obtain ⟨rfl, rfl, rfl, rfl⟩ := H
              have hcz19_0 := tch4 BK193.out
              have hcz20_0 := tch4 BK192.out
              go_wp2_with (first | ((with_reducible refine gate_store (t := 2) (p := 36) rfl ?_); refine store_row (t := 2) (p := 36) (v := ?vo_w21) ?hgd ?ho ?hN gb193 1 #[.int .i64 a1_0, .int .i64 a1_1, .int .i64 a1_2, .bool true] [.int .i64 ji16] #[.int .i64 a1_0, .int .i64 ji16, .int .i64 a1_2, .bool true] ?hx ?hy (by exact BK193.out) szi2 (Nat.le_of_ble_eq_true rfl) ?h1 ?hnew ?_; (case ho => rfl); (case hgd => rfl); (case hN => rfl); (case hx => rfl); (case hy => first | rfl | (go_simp; done) | (go_simp; rfl)); (case h1 => rfl); (case hnew => rfl); intro w21 hbox hg; have n0_ := Aside0.mk (blk_grown BK192.out hg (fun e_ => NB192_193.out (Option.some.inj e_))); have n1_ := Aside0.mk (blk_grown BK194.out hg (fun e_ => NB194_193.out (Option.some.inj e_))); have n2_ := Aside0.mk (pw_below_grown (by exact HB.out) (some gb193) (below_size (by exact HB.out)) hg (fun k_ e_ => by cases e_; exact GE193.out)); have n3_ := Aside0.mk (hbox); clear BK192; clear BK194; clear HB; clear BK193; have BK192 := n0_; have BK194 := n1_; have HB := n2_; have BK193 := n3_; clear n0_ n1_ n2_ n3_; clear hbox hg; have hcz22_0 : w21.cell? ⟨gb193, 0, none⟩ = some (.int .i64 a1_0) := (blk_cell BK193.out 0).trans rfl; have hcz22_1 : w21.cell? ⟨gb193, 1, none⟩ = some (.int .i64 ji16) := (blk_cell BK193.out 1).trans rfl; have hcz22_2 : w21.cell? ⟨gb193, 2, none⟩ = some (.int .i64 a1_2) := (blk_cell BK193.out 2).trans rfl; have hcz22_3 : w21.cell? ⟨gb193, 3, none⟩ = some (.bool true) := (blk_cell BK193.out 3).trans rfl; have hfz22_0 := blk_frozen BK193.out 0; have hfz22_1 := blk_frozen BK193.out 1; have hfz22_2 := blk_frozen BK193.out 2; have hfz22_3 := blk_frozen BK193.out 3) | ((with_reducible refine gate_store (t := 2) (p := 68) rfl ?_); refine store_row (t := 2) (p := 68) (v := ?vo_w23) ?hgd ?ho ?hN gb193 0 #[.int .i64 a1_0, .int .i64 ji16, .int .i64 a1_2, .bool true] [.int .i64 (wrap64 (a1_0 + (ji16)))] #[.int .i64 (wrap64 (a1_0 + (ji16))), .int .i64 ji16, .int .i64 a1_2, .bool true] ?hx ?hy (by exact BK193.out) szi2 (Nat.le_of_ble_eq_true rfl) ?h1 ?hnew ?_; (case ho => rfl); (case hgd => rfl); (case hN => rfl); (case hx => rfl); (case hy => first | rfl | (go_simp; done) | (go_simp; rfl)); (case h1 => rfl); (case hnew => rfl); intro w23 hbox hg; have n0_ := Aside0.mk (blk_grown BK192.out hg (fun e_ => NB192_193.out (Option.some.inj e_))); have n1_ := Aside0.mk (blk_grown BK194.out hg (fun e_ => NB194_193.out (Option.some.inj e_))); have n2_ := Aside0.mk (pw_below_grown (by exact HB.out) (some gb193) (below_size (by exact HB.out)) hg (fun k_ e_ => by cases e_; exact GE193.out)); have n3_ := Aside0.mk (hbox); clear BK192; clear BK194; clear HB; clear BK193; have BK192 := n0_; have BK194 := n1_; have HB := n2_; have BK193 := n3_; clear n0_ n1_ n2_ n3_; clear hbox hg; have hcz24_0 : w23.cell? ⟨gb193, 0, none⟩ = some (.int .i64 (wrap64 (a1_0 + (ji16)))) := (blk_cell BK193.out 0).trans rfl; have hcz24_1 : w23.cell? ⟨gb193, 1, none⟩ = some (.int .i64 ji16) := (blk_cell BK193.out 1).trans rfl; have hcz24_2 : w23.cell? ⟨gb193, 2, none⟩ = some (.int .i64 a1_2) := (blk_cell BK193.out 2).trans rfl; have hcz24_3 : w23.cell? ⟨gb193, 3, none⟩ = some (.bool true) := (blk_cell BK193.out 3).trans rfl; have hfz24_0 := blk_frozen BK193.out 0; have hfz24_1 := blk_frozen BK193.out 1; have hfz24_2 := blk_frozen BK193.out 2; have hfz24_3 := blk_frozen BK193.out 3) | ((with_reducible refine gate_store (t := 4) (p := 78) rfl ?_); refine store_row (t := 4) (p := 78) (v := ?vo_w25) ?hgd ?ho ?hN gb193 3 #[.int .i64 (wrap64 (a1_0 + (ji16))), .int .i64 ji16, .int .i64 a1_2, .bool true] [.bool false] #[.int .i64 (wrap64 (a1_0 + (ji16))), .int .i64 ji16, .int .i64 a1_2, .bool false] ?hx ?hy (by exact BK193.out) szi4 (Nat.le_of_ble_eq_true rfl) ?h1 ?hnew ?_; (case ho => rfl); (case hgd => rfl); (case hN => rfl); (case hx => rfl); (case hy => first | rfl | (go_simp; done) | (go_simp; rfl)); (case h1 => rfl); (case hnew => rfl); intro w25 hbox hg; have n0_ := Aside0.mk (blk_grown BK192.out hg (fun e_ => NB192_193.out (Option.some.inj e_))); have n1_ := Aside0.mk (blk_grown BK194.out hg (fun e_ => NB194_193.out (Option.some.inj e_))); have n2_ := Aside0.mk (pw_below_grown (by exact HB.out) (some gb193) (below_size (by exact HB.out)) hg (fun k_ e_ => by cases e_; exact GE193.out)); have n3_ := Aside0.mk (hbox); clear BK192; clear BK194; clear HB; clear BK193; have BK192 := n0_; have BK194 := n1_; have HB := n2_; have BK193 := n3_; clear n0_ n1_ n2_ n3_; clear hbox hg) | ((with_reducible refine gate_store (t := 2) (p := 79) rfl ?_); refine store_row (t := 2) (p := 79) (v := ?vo_w26) ?hgd ?ho ?hN gb193 2 #[.int .i64 (wrap64 (a1_0 + (ji16))), .int .i64 ji16, .int .i64 a1_2, .bool false] [.int .i64 (wrap64 (a1_0 + (ji16)))] #[.int .i64 (wrap64 (a1_0 + (ji16))), .int .i64 ji16, .int .i64 (wrap64 (a1_0 + (ji16))), .bool false] ?hx ?hy (by exact BK193.out) szi2 (Nat.le_of_ble_eq_true rfl) ?h1 ?hnew ?_; (case ho => rfl); (case hgd => rfl); (case hN => rfl); (case hx => rfl); (case hy => first | rfl | (go_simp; done) | (go_simp; rfl)); (case h1 => rfl); (case hnew => rfl); intro w26 hbox hg; have n0_ := Aside0.mk (blk_grown BK192.out hg (fun e_ => NB192_193.out (Option.some.inj e_))); have n1_ := Aside0.mk (blk_grown BK194.out hg (fun e_ => NB194_193.out (Option.some.inj e_))); have n2_ := Aside0.mk (pw_below_grown (by exact HB.out) (some gb193) (below_size (by exact HB.out)) hg (fun k_ e_ => by cases e_; exact GE193.out)); have n3_ := Aside0.mk (hbox); clear BK192; clear BK194; clear HB; clear BK193; have BK192 := n0_; have BK194 := n1_; have HB := n2_; have BK193 := n3_; clear n0_ n1_ n2_ n3_; clear hbox hg; have hcz27_0 : w26.cell? ⟨gb193, 0, none⟩ = some (.int .i64 (wrap64 (a1_0 + (ji16)))) := (blk_cell BK193.out 0).trans rfl; have hcz27_1 : w26.cell? ⟨gb193, 1, none⟩ = some (.int .i64 ji16) := (blk_cell BK193.out 1).trans rfl; have hcz27_2 : w26.cell? ⟨gb193, 2, none⟩ = some (.int .i64 (wrap64 (a1_0 + (ji16)))) := (blk_cell BK193.out 2).trans rfl; have hcz27_3 : w26.cell? ⟨gb193, 3, none⟩ = some (.bool false) := (blk_cell BK193.out 3).trans rfl; have hfz27_0 := blk_frozen BK193.out 0; have hfz27_1 := blk_frozen BK193.out 1; have hfz27_2 := blk_frozen BK193.out 2; have hfz27_3 := blk_frozen BK193.out 3) | ((with_reducible refine gate_store (t := 35) (p := 4) rfl ?_); refine store_row (t := 35) (p := 4) (v := ?vo_w28) ?hgd ?ho ?hN gb194 0 #[.int .i64 0, .int .i64 0, .int .i64 0, .bool false] [.int .i64 (wrap64 (a1_0 + (ji16))), .int .i64 ji16, .int .i64 (wrap64 (a1_0 + (ji16))), .bool false] #[.int .i64 (wrap64 (a1_0 + (ji16))), .int .i64 ji16, .int .i64 (wrap64 (a1_0 + (ji16))), .bool false] ?hx ?hy (by exact BK194.out) szi35 (Nat.le_of_ble_eq_true rfl) ?h1 ?hnew ?_; (case ho => rfl); (case hgd => rfl); (case hN => rfl); (case hx => rfl); (case hy => first | rfl | (go_simp; done) | (go_simp; rfl)); (case h1 => rfl); (case hnew => rfl); intro w28 hbox hg; have n0_ := Aside0.mk (blk_grown BK192.out hg (fun e_ => NB192_194.out (Option.some.inj e_))); have n1_ := Aside0.mk (blk_grown BK193.out hg (fun e_ => NB193_194.out (Option.some.inj e_))); have n2_ := Aside0.mk (pw_below_grown (by exact HB.out) (some gb194) (below_size (by exact HB.out)) hg (fun k_ e_ => by cases e_; exact GE194.out)); have n3_ := Aside0.mk (hbox); clear BK192; clear BK193; clear HB; clear BK194; have BK192 := n0_; have BK193 := n1_; have HB := n2_; have BK194 := n3_; clear n0_ n1_ n2_ n3_; clear hbox hg))
              refine bodyPost_ret (results_cell_row rfl _ _ gb194 35 #[.int .i64 (wrap64 (a1_0 + (ji16))), .int .i64 ji16, .int .i64 (wrap64 (a1_0 + (ji16))), .bool false] (0, 0) _ rfl (by exact BK194.out) Try.underlying35 rfl (by kernel_rfl)) rfl ?_
              exact ⟨by first | rfl | (simp [errW_none, errW_some] <;> rfl) | (simp only [← hji16]; first | rfl | (simp [errW_none, errW_some] <;> rfl)) | (simp [*, errW_none, errW_some] <;> rfl), by exact HB.out⟩
            · rw [if_neg c18] at H
              have c18b0 : ((ji16) == 0) = false := beq_eq_false_iff_ne.mpr c18
              have c18b1 : ((ji16) != 0) = true := bne_iff_ne.mpr c18
              clear c18
              simp only [Option.some.injEq, Prod.mk.injEq] at H
              obtain ⟨rfl, rfl, rfl, rfl⟩ := H
              have hcz29_0 := tch4 BK193.out
              have hcz30_0 := tch4 BK192.out
              go_wp2_with (first | ((with_reducible refine gate_store (t := 2) (p := 36) rfl ?_); refine store_row (t := 2) (p := 36) (v := ?vo_w31) ?hgd ?ho ?hN gb193 1 #[.int .i64 a1_0, .int .i64 a1_1, .int .i64 a1_2, .bool true] [.int .i64 ji16] #[.int .i64 a1_0, .int .i64 ji16, .int .i64 a1_2, .bool true] ?hx ?hy (by exact BK193.out) szi2 (Nat.le_of_ble_eq_true rfl) ?h1 ?hnew ?_; (case ho => rfl); (case hgd => rfl); (case hN => rfl); (case hx => rfl); (case hy => first | rfl | (go_simp; done) | (go_simp; rfl)); (case h1 => rfl); (case hnew => rfl); intro w31 hbox hg; have n0_ := Aside0.mk (blk_grown BK192.out hg (fun e_ => NB192_193.out (Option.some.inj e_))); have n1_ := Aside0.mk (blk_grown BK194.out hg (fun e_ => NB194_193.out (Option.some.inj e_))); have n2_ := Aside0.mk (pw_below_grown (by exact HB.out) (some gb193) (below_size (by exact HB.out)) hg (fun k_ e_ => by cases e_; exact GE193.out)); have n3_ := Aside0.mk (hbox); clear BK192; clear BK194; clear HB; clear BK193; have BK192 := n0_; have BK194 := n1_; have HB := n2_; have BK193 := n3_; clear n0_ n1_ n2_ n3_; clear hbox hg; have hcz32_0 : w31.cell? ⟨gb193, 0, none⟩ = some (.int .i64 a1_0) := (blk_cell BK193.out 0).trans rfl; have hcz32_1 : w31.cell? ⟨gb193, 1, none⟩ = some (.int .i64 ji16) := (blk_cell BK193.out 1).trans rfl; have hcz32_2 : w31.cell? ⟨gb193, 2, none⟩ = some (.int .i64 a1_2) := (blk_cell BK193.out 2).trans rfl; have hcz32_3 : w31.cell? ⟨gb193, 3, none⟩ = some (.bool true) := (blk_cell BK193.out 3).trans rfl; have hfz32_0 := blk_frozen BK193.out 0; have hfz32_1 := blk_frozen BK193.out 1; have hfz32_2 := blk_frozen BK193.out 2; have hfz32_3 := blk_frozen BK193.out 3) | ((with_reducible refine gate_store (t := 2) (p := 68) rfl ?_); refine store_row (t := 2) (p := 68) (v := ?vo_w33) ?hgd ?ho ?hN gb193 0 #[.int .i64 a1_0, .int .i64 ji16, .int .i64 a1_2, .bool true] [.int .i64 (wrap64 (a1_0 + (ji16)))] #[.int .i64 (wrap64 (a1_0 + (ji16))), .int .i64 ji16, .int .i64 a1_2, .bool true] ?hx ?hy (by exact BK193.out) szi2 (Nat.le_of_ble_eq_true rfl) ?h1 ?hnew ?_; (case ho => rfl); (case hgd => rfl); (case hN => rfl); (case hx => rfl); (case hy => first | rfl | (go_simp; done) | (go_simp; rfl)); (case h1 => rfl); (case hnew => rfl); intro w33 hbox hg; have n0_ := Aside0.mk (blk_grown BK192.out hg (fun e_ => NB192_193.out (Option.some.inj e_))); have n1_ := Aside0.mk (blk_grown BK194.out hg (fun e_ => NB194_193.out (Option.some.inj e_))); have n2_ := Aside0.mk (pw_below_grown (by exact HB.out) (some gb193) (below_size (by exact HB.out)) hg (fun k_ e_ => by cases e_; exact GE193.out)); have n3_ := Aside0.mk (hbox); clear BK192; clear BK194; clear HB; clear BK193; have BK192 := n0_; have BK194 := n1_; have HB := n2_; have BK193 := n3_; clear n0_ n1_ n2_ n3_; clear hbox hg; have hcz34_0 : w33.cell? ⟨gb193, 0, none⟩ = some (.int .i64 (wrap64 (a1_0 + (ji16)))) := (blk_cell BK193.out 0).trans rfl; have hcz34_1 : w33.cell? ⟨gb193, 1, none⟩ = some (.int .i64 ji16) := (blk_cell BK193.out 1).trans rfl; have hcz34_2 : w33.cell? ⟨gb193, 2, none⟩ = some (.int .i64 a1_2) := (blk_cell BK193.out 2).trans rfl; have hcz34_3 : w33.cell? ⟨gb193, 3, none⟩ = some (.bool true) := (blk_cell BK193.out 3).trans rfl; have hfz34_0 := blk_frozen BK193.out 0; have hfz34_1 := blk_frozen BK193.out 1; have hfz34_2 := blk_frozen BK193.out 2; have hfz34_3 := blk_frozen BK193.out 3) | ((with_reducible refine gate_store (t := 35) (p := 4) rfl ?_); refine store_row (t := 35) (p := 4) (v := ?vo_w35) ?hgd ?ho ?hN gb194 0 #[.int .i64 0, .int .i64 0, .int .i64 0, .bool false] [.int .i64 (wrap64 (a1_0 + (ji16))), .int .i64 ji16, .int .i64 a1_2, .bool true] #[.int .i64 (wrap64 (a1_0 + (ji16))), .int .i64 ji16, .int .i64 a1_2, .bool true] ?hx ?hy (by exact BK194.out) szi35 (Nat.le_of_ble_eq_true rfl) ?h1 ?hnew ?_; (case ho => rfl); (case hgd => rfl); (case hN => rfl); (case hx => rfl); (case hy => first | rfl | (go_simp; done) | (go_simp; rfl)); (case h1 => rfl); (case hnew => rfl); intro w35 hbox hg; have n0_ := Aside0.mk (blk_grown BK192.out hg (fun e_ => NB192_194.out (Option.some.inj e_))); have n1_ := Aside0.mk (blk_grown BK193.out hg (fun e_ => NB193_194.out (Option.some.inj e_))); have n2_ := Aside0.mk (pw_below_grown (by exact HB.out) (some gb194) (below_size (by exact HB.out)) hg (fun k_ e_ => by cases e_; exact GE194.out)); have n3_ := Aside0.mk (hbox); clear BK192; clear BK193; clear HB; clear BK194; have BK192 := n0_; have BK193 := n1_; have HB := n2_; have BK194 := n3_; clear n0_ n1_ n2_ n3_; clear hbox hg))
              refine bodyPost_ret (results_cell_row rfl _ _ gb194 35 #[.int .i64 (wrap64 (a1_0 + (ji16))), .int .i64 ji16, .int .i64 a1_2, .bool true] (0, 0) _ rfl (by exact BK194.out) Try.underlying35 rfl (by kernel_rfl)) rfl ?_
              exact ⟨by first | rfl | (simp [errW_none, errW_some] <;> rfl) | (simp only [← hji16]; first | rfl | (simp [errW_none, errW_some] <;> rfl)) | (simp [*, errW_none, errW_some] <;> rfl), by exact HB.out⟩
          · replace c17 := Bool.eq_false_iff.mpr c17
            subst c17
            have H1 : (some (wrap64 (a1_0 + (ji16)), ji16, a1_2, false)) = some (r1, r2, r3, r4) := by rw [if_neg (show ¬ (false = true) by decide)] at H; exact H
            clear H
            have H := H1
            clear H1
            simp only [Option.some.injEq, Prod.mk.injEq] at H
            obtain ⟨rfl, rfl, rfl, rfl⟩ := H
            have hcz36_0 := tch4 BK193.out
            have hcz37_0 := tch4 BK192.out
            go_wp2_with (first | ((with_reducible refine gate_store (t := 2) (p := 36) rfl ?_); refine store_row (t := 2) (p := 36) (v := ?vo_w38) ?hgd ?ho ?hN gb193 1 #[.int .i64 a1_0, .int .i64 a1_1, .int .i64 a1_2, .bool false] [.int .i64 ji16] #[.int .i64 a1_0, .int .i64 ji16, .int .i64 a1_2, .bool false] ?hx ?hy (by exact BK193.out) szi2 (Nat.le_of_ble_eq_true rfl) ?h1 ?hnew ?_; (case ho => rfl); (case hgd => rfl); (case hN => rfl); (case hx => rfl); (case hy => first | rfl | (go_simp; done) | (go_simp; rfl)); (case h1 => rfl); (case hnew => rfl); intro w38 hbox hg; have n0_ := Aside0.mk (blk_grown BK192.out hg (fun e_ => NB192_193.out (Option.some.inj e_))); have n1_ := Aside0.mk (blk_grown BK194.out hg (fun e_ => NB194_193.out (Option.some.inj e_))); have n2_ := Aside0.mk (pw_below_grown (by exact HB.out) (some gb193) (below_size (by exact HB.out)) hg (fun k_ e_ => by cases e_; exact GE193.out)); have n3_ := Aside0.mk (hbox); clear BK192; clear BK194; clear HB; clear BK193; have BK192 := n0_; have BK194 := n1_; have HB := n2_; have BK193 := n3_; clear n0_ n1_ n2_ n3_; clear hbox hg; have hcz39_0 : w38.cell? ⟨gb193, 0, none⟩ = some (.int .i64 a1_0) := (blk_cell BK193.out 0).trans rfl; have hcz39_1 : w38.cell? ⟨gb193, 1, none⟩ = some (.int .i64 ji16) := (blk_cell BK193.out 1).trans rfl; have hcz39_2 : w38.cell? ⟨gb193, 2, none⟩ = some (.int .i64 a1_2) := (blk_cell BK193.out 2).trans rfl; have hcz39_3 : w38.cell? ⟨gb193, 3, none⟩ = some (.bool false) := (blk_cell BK193.out 3).trans rfl; have hfz39_0 := blk_frozen BK193.out 0; have hfz39_1 := blk_frozen BK193.out 1; have hfz39_2 := blk_frozen BK193.out 2; have hfz39_3 := blk_frozen BK193.out 3) | ((with_reducible refine gate_store (t := 2) (p := 68) rfl ?_); refine store_row (t := 2) (p := 68) (v := ?vo_w40) ?hgd ?ho ?hN gb193 0 #[.int .i64 a1_0, .int .i64 ji16, .int .i64 a1_2, .bool false] [.int .i64 (wrap64 (a1_0 + (ji16)))] #[.int .i64 (wrap64 (a1_0 + (ji16))), .int .i64 ji16, .int .i64 a1_2, .bool false] ?hx ?hy (by exact BK193.out) szi2 (Nat.le_of_ble_eq_true rfl) ?h1 ?hnew ?_; (case ho => rfl); (case hgd => rfl); (case hN => rfl); (case hx => rfl); (case hy => first | rfl | (go_simp; done) | (go_simp; rfl)); (case h1 => rfl); (case hnew => rfl); intro w40 hbox hg; have n0_ := Aside0.mk (blk_grown BK192.out hg (fun e_ => NB192_193.out (Option.some.inj e_))); have n1_ := Aside0.mk (blk_grown BK194.out hg (fun e_ => NB194_193.out (Option.some.inj e_))); have n2_ := Aside0.mk (pw_below_grown (by exact HB.out) (some gb193) (below_size (by exact HB.out)) hg (fun k_ e_ => by cases e_; exact GE193.out)); have n3_ := Aside0.mk (hbox); clear BK192; clear BK194; clear HB; clear BK193; have BK192 := n0_; have BK194 := n1_; have HB := n2_; have BK193 := n3_; clear n0_ n1_ n2_ n3_; clear hbox hg; have hcz41_0 : w40.cell? ⟨gb193, 0, none⟩ = some (.int .i64 (wrap64 (a1_0 + (ji16)))) := (blk_cell BK193.out 0).trans rfl; have hcz41_1 : w40.cell? ⟨gb193, 1, none⟩ = some (.int .i64 ji16) := (blk_cell BK193.out 1).trans rfl; have hcz41_2 : w40.cell? ⟨gb193, 2, none⟩ = some (.int .i64 a1_2) := (blk_cell BK193.out 2).trans rfl; have hcz41_3 : w40.cell? ⟨gb193, 3, none⟩ = some (.bool false) := (blk_cell BK193.out 3).trans rfl; have hfz41_0 := blk_frozen BK193.out 0; have hfz41_1 := blk_frozen BK193.out 1; have hfz41_2 := blk_frozen BK193.out 2; have hfz41_3 := blk_frozen BK193.out 3) | ((with_reducible refine gate_store (t := 35) (p := 4) rfl ?_); refine store_row (t := 35) (p := 4) (v := ?vo_w42) ?hgd ?ho ?hN gb194 0 #[.int .i64 0, .int .i64 0, .int .i64 0, .bool false] [.int .i64 (wrap64 (a1_0 + (ji16))), .int .i64 ji16, .int .i64 a1_2, .bool false] #[.int .i64 (wrap64 (a1_0 + (ji16))), .int .i64 ji16, .int .i64 a1_2, .bool false] ?hx ?hy (by exact BK194.out) szi35 (Nat.le_of_ble_eq_true rfl) ?h1 ?hnew ?_; (case ho => rfl); (case hgd => rfl); (case hN => rfl); (case hx => rfl); (case hy => first | rfl | (go_simp; done) | (go_simp; rfl)); (case h1 => rfl); (case hnew => rfl); intro w42 hbox hg; have n0_ := Aside0.mk (blk_grown BK192.out hg (fun e_ => NB192_194.out (Option.some.inj e_))); have n1_ := Aside0.mk (blk_grown BK193.out hg (fun e_ => NB193_194.out (Option.some.inj e_))); have n2_ := Aside0.mk (pw_below_grown (by exact HB.out) (some gb194) (below_size (by exact HB.out)) hg (fun k_ e_ => by cases e_; exact GE194.out)); have n3_ := Aside0.mk (hbox); clear BK192; clear BK193; clear HB; clear BK194; have BK192 := n0_; have BK193 := n1_; have HB := n2_; have BK194 := n3_; clear n0_ n1_ n2_ n3_; clear hbox hg))
            refine bodyPost_ret (results_cell_row rfl _ _ gb194 35 #[.int .i64 (wrap64 (a1_0 + (ji16))), .int .i64 ji16, .int .i64 a1_2, .bool false] (0, 0) _ rfl (by exact BK194.out) Try.underlying35 rfl (by kernel_rfl)) rfl ?_
            exact ⟨by first | rfl | (simp [errW_none, errW_some] <;> rfl) | (simp only [← hji16]; first | rfl | (simp [errW_none, errW_some] <;> rfl)) | (simp [*, errW_none, errW_some] <;> rfl), by exact HB.out⟩
        · replace c15 := Bool.eq_false_iff.mpr c15
          subst c15
          have H1 : (if a1_3 = true then (if (mn (wrap64 (a1_1 + a0_3)) 0) = 0 then (some (wrap64 (a1_0 + (mn (wrap64 (a1_1 + a0_3)) 0)), mn (wrap64 (a1_1 + a0_3)) 0, wrap64 (a1_0 + (mn (wrap64 (a1_1 + a0_3)) 0)), false)) else (some (wrap64 (a1_0 + (mn (wrap64 (a1_1 + a0_3)) 0)), mn (wrap64 (a1_1 + a0_3)) 0, a1_2, a1_3))) else (if a1_2 ≥ a1_0 then ((axis_next.f kj4 a0_0 a0_1 a0_2 a0_3 (wrap64 (a1_2 - a1_0)) a1_1).bind fun t196 => (some (wrap64 (a1_0 + t196), t196, a1_2, a1_3))) else ((axis_next.f kj4 a0_0 a0_1 a0_2 a0_3 (wrap64 (a1_0 - a1_2)) (wrap64 (-a1_1))).bind fun t197 => (some (wrap64 (a1_0 + (wrap64 (-t197))), wrap64 (-t197), a1_2, a1_3))))) = some (r1, r2, r3, r4) := by rw [if_neg (show ¬ (false = true) by decide)] at H; exact H
          clear H
          have H := H1
          clear H1
          by_cases c43 : a1_3 = true
          · subst c43
            have H1 : (if (mn (wrap64 (a1_1 + a0_3)) 0) = 0 then (some (wrap64 (a1_0 + (mn (wrap64 (a1_1 + a0_3)) 0)), mn (wrap64 (a1_1 + a0_3)) 0, wrap64 (a1_0 + (mn (wrap64 (a1_1 + a0_3)) 0)), false)) else (some (wrap64 (a1_0 + (mn (wrap64 (a1_1 + a0_3)) 0)), mn (wrap64 (a1_1 + a0_3)) 0, a1_2, true))) = some (r1, r2, r3, r4) := by rw [if_pos rfl] at H; exact H
            clear H
            have H := H1
            clear H1
            obtain ⟨ji44, hji44⟩ : ∃ j_ : Int, (mn (wrap64 (a1_1 + a0_3)) 0) = j_ := ⟨_, rfl⟩
            replace H : (if (ji44) = 0 then (some (wrap64 (a1_0 + (ji44)), ji44, wrap64 (a1_0 + (ji44)), false)) else (some (wrap64 (a1_0 + (ji44)), ji44, a1_2, true))) = some (r1, r2, r3, r4) := by first | (rw [hji44] at H; exact H) | (simp only [hji44] at H ⊢; exact H)
            have hji44_ : (if 0 < (wrap64 (a1_1 + a0_3)) then 0 else (wrap64 (a1_1 + a0_3))) = ji44 := hji44
            by_cases c45 : (ji44) = 0
            · rw [if_pos c45] at H
              have c45b0 : ((ji44) == 0) = true := beq_iff_eq.mpr c45
              have c45b1 : ((ji44) != 0) = false := bne_eq_false_iff_eq.mpr c45
              clear c45
              simp only [Option.some.injEq, Prod.mk.injEq] at H
              obtain ⟨rfl, rfl, rfl, rfl⟩ := H
              have hcz46_0 := tch4 BK193.out
              have hcz47_0 := tch4 BK192.out
              go_wp2_with (first | ((with_reducible refine gate_store (t := 2) (p := 46) rfl ?_); refine store_row (t := 2) (p := 46) (v := ?vo_w48) ?hgd ?ho ?hN gb193 1 #[.int .i64 a1_0, .int .i64 a1_1, .int .i64 a1_2, .bool true] [.int .i64 ji44] #[.int .i64 a1_0, .int .i64 ji44, .int .i64 a1_2, .bool true] ?hx ?hy (by exact BK193.out) szi2 (Nat.le_of_ble_eq_true rfl) ?h1 ?hnew ?_; (case ho => rfl); (case hgd => rfl); (case hN => rfl); (case hx => rfl); (case hy => first | rfl | (go_simp; done) | (go_simp; rfl)); (case h1 => rfl); (case hnew => rfl); intro w48 hbox hg; have n0_ := Aside0.mk (blk_grown BK192.out hg (fun e_ => NB192_193.out (Option.some.inj e_))); have n1_ := Aside0.mk (blk_grown BK194.out hg (fun e_ => NB194_193.out (Option.some.inj e_))); have n2_ := Aside0.mk (pw_below_grown (by exact HB.out) (some gb193) (below_size (by exact HB.out)) hg (fun k_ e_ => by cases e_; exact GE193.out)); have n3_ := Aside0.mk (hbox); clear BK192; clear BK194; clear HB; clear BK193; have BK192 := n0_; have BK194 := n1_; have HB := n2_; have BK193 := n3_; clear n0_ n1_ n2_ n3_; clear hbox hg; have hcz49_0 : w48.cell? ⟨gb193, 0, none⟩ = some (.int .i64 a1_0) := (blk_cell BK193.out 0).trans rfl; have hcz49_1 : w48.cell? ⟨gb193, 1, none⟩ = some (.int .i64 ji44) := (blk_cell BK193.out 1).trans rfl; have hcz49_2 : w48.cell? ⟨gb193, 2, none⟩ = some (.int .i64 a1_2) := (blk_cell BK193.out 2).trans rfl; have hcz49_3 : w48.cell? ⟨gb193, 3, none⟩ = some (.bool true) := (blk_cell BK193.out 3).trans rfl; have hfz49_0 := blk_frozen BK193.out 0; have hfz49_1 := blk_frozen BK193.out 1; have hfz49_2 := blk_frozen BK193.out 2; have hfz49_3 := blk_frozen BK193.out 3) | ((with_reducible refine gate_store (t := 2) (p := 68) rfl ?_); refine store_row (t := 2) (p := 68) (v := ?vo_w50) ?hgd ?ho ?hN gb193 0 #[.int .i64 a1_0, .int .i64 ji44, .int .i64 a1_2, .bool true] [.int .i64 (wrap64 (a1_0 + (ji44)))] #[.int .i64 (wrap64 (a1_0 + (ji44))), .int .i64 ji44, .int .i64 a1_2, .bool true] ?hx ?hy (by exact BK193.out) szi2 (Nat.le_of_ble_eq_true rfl) ?h1 ?hnew ?_; (case ho => rfl); (case hgd => rfl); (case hN => rfl); (case hx => rfl); (case hy => first | rfl | (go_simp; done) | (go_simp; rfl)); (case h1 => rfl); (case hnew => rfl); intro w50 hbox hg; have n0_ := Aside0.mk (blk_grown BK192.out hg (fun e_ => NB192_193.out (Option.some.inj e_))); have n1_ := Aside0.mk (blk_grown BK194.out hg (fun e_ => NB194_193.out (Option.some.inj e_))); have n2_ := Aside0.mk (pw_below_grown (by exact HB.out) (some gb193) (below_size (by exact HB.out)) hg (fun k_ e_ => by cases e_; exact GE193.out)); have n3_ := Aside0.mk (hbox); clear BK192; clear BK194; clear HB; clear BK193; have BK192 := n0_; have BK194 := n1_; have HB := n2_; have BK193 := n3_; clear n0_ n1_ n2_ n3_; clear hbox hg; have hcz51_0 : w50.cell? ⟨gb193, 0, none⟩ = some (.int .i64 (wrap64 (a1_0 + (ji44)))) := (blk_cell BK193.out 0).trans rfl; have hcz51_1 : w50.cell? ⟨gb193, 1, none⟩ = some (.int .i64 ji44) := (blk_cell BK193.out 1).trans rfl; have hcz51_2 : w50.cell? ⟨gb193, 2, none⟩ = some (.int .i64 a1_2) := (blk_cell BK193.out 2).trans rfl; have hcz51_3 : w50.cell? ⟨gb193, 3, none⟩ = some (.bool true) := (blk_cell BK193.out 3).trans rfl; have hfz51_0 := blk_frozen BK193.out 0; have hfz51_1 := blk_frozen BK193.out 1; have hfz51_2 := blk_frozen BK193.out 2; have hfz51_3 := blk_frozen BK193.out 3) | ((with_reducible refine gate_store (t := 4) (p := 78) rfl ?_); refine store_row (t := 4) (p := 78) (v := ?vo_w52) ?hgd ?ho ?hN gb193 3 #[.int .i64 (wrap64 (a1_0 + (ji44))), .int .i64 ji44, .int .i64 a1_2, .bool true] [.bool false] #[.int .i64 (wrap64 (a1_0 + (ji44))), .int .i64 ji44, .int .i64 a1_2, .bool false] ?hx ?hy (by exact BK193.out) szi4 (Nat.le_of_ble_eq_true rfl) ?h1 ?hnew ?_; (case ho => rfl); (case hgd => rfl); (case hN => rfl); (case hx => rfl); (case hy => first | rfl | (go_simp; done) | (go_simp; rfl)); (case h1 => rfl); (case hnew => rfl); intro w52 hbox hg; have n0_ := Aside0.mk (blk_grown BK192.out hg (fun e_ => NB192_193.out (Option.some.inj e_))); have n1_ := Aside0.mk (blk_grown BK194.out hg (fun e_ => NB194_193.out (Option.some.inj e_))); have n2_ := Aside0.mk (pw_below_grown (by exact HB.out) (some gb193) (below_size (by exact HB.out)) hg (fun k_ e_ => by cases e_; exact GE193.out)); have n3_ := Aside0.mk (hbox); clear BK192; clear BK194; clear HB; clear BK193; have BK192 := n0_; have BK194 := n1_; have HB := n2_; have BK193 := n3_; clear n0_ n1_ n2_ n3_; clear hbox hg) | ((with_reducible refine gate_store (t := 2) (p := 79) rfl ?_); refine store_row (t := 2) (p := 79) (v := ?vo_w53) ?hgd ?ho ?hN gb193 2 #[.int .i64 (wrap64 (a1_0 + (ji44))), .int .i64 ji44, .int .i64 a1_2, .bool false] [.int .i64 (wrap64 (a1_0 + (ji44)))] #[.int .i64 (wrap64 (a1_0 + (ji44))), .int .i64 ji44, .int .i64 (wrap64 (a1_0 + (ji44))), .bool false] ?hx ?hy (by exact BK193.out) szi2 (Nat.le_of_ble_eq_true rfl) ?h1 ?hnew ?_; (case ho => rfl); (case hgd => rfl); (case hN => rfl); (case hx => rfl); (case hy => first | rfl | (go_simp; done) | (go_simp; rfl)); (case h1 => rfl); (case hnew => rfl); intro w53 hbox hg; have n0_ := Aside0.mk (blk_grown BK192.out hg (fun e_ => NB192_193.out (Option.some.inj e_))); have n1_ := Aside0.mk (blk_grown BK194.out hg (fun e_ => NB194_193.out (Option.some.inj e_))); have n2_ := Aside0.mk (pw_below_grown (by exact HB.out) (some gb193) (below_size (by exact HB.out)) hg (fun k_ e_ => by cases e_; exact GE193.out)); have n3_ := Aside0.mk (hbox); clear BK192; clear BK194; clear HB; clear BK193; have BK192 := n0_; have BK194 := n1_; have HB := n2_; have BK193 := n3_; clear n0_ n1_ n2_ n3_; clear hbox hg; have hcz54_0 : w53.cell? ⟨gb193, 0, none⟩ = some (.int .i64 (wrap64 (a1_0 + (ji44)))) := (blk_cell BK193.out 0).trans rfl; have hcz54_1 : w53.cell? ⟨gb193, 1, none⟩ = some (.int .i64 ji44) := (blk_cell BK193.out 1).trans rfl; have hcz54_2 : w53.cell? ⟨gb193, 2, none⟩ = some (.int .i64 (wrap64 (a1_0 + (ji44)))) := (blk_cell BK193.out 2).trans rfl; have hcz54_3 : w53.cell? ⟨gb193, 3, none⟩ = some (.bool false) := (blk_cell BK193.out 3).trans rfl; have hfz54_0 := blk_frozen BK193.out 0; have hfz54_1 := blk_frozen BK193.out 1; have hfz54_2 := blk_frozen BK193.out 2; have hfz54_3 := blk_frozen BK193.out 3) | ((with_reducible refine gate_store (t := 35) (p := 4) rfl ?_); refine store_row (t := 35) (p := 4) (v := ?vo_w55) ?hgd ?ho ?hN gb194 0 #[.int .i64 0, .int .i64 0, .int .i64 0, .bool false] [.int .i64 (wrap64 (a1_0 + (ji44))), .int .i64 ji44, .int .i64 (wrap64 (a1_0 + (ji44))), .bool false] #[.int .i64 (wrap64 (a1_0 + (ji44))), .int .i64 ji44, .int .i64 (wrap64 (a1_0 + (ji44))), .bool false] ?hx ?hy (by exact BK194.out) szi35 (Nat.le_of_ble_eq_true rfl) ?h1 ?hnew ?_; (case ho => rfl); (case hgd => rfl); (case hN => rfl); (case hx => rfl); (case hy => first | rfl | (go_simp; done) | (go_simp; rfl)); (case h1 => rfl); (case hnew => rfl); intro w55 hbox hg; have n0_ := Aside0.mk (blk_grown BK192.out hg (fun e_ => NB192_194.out (Option.some.inj e_))); have n1_ := Aside0.mk (blk_grown BK193.out hg (fun e_ => NB193_194.out (Option.some.inj e_))); have n2_ := Aside0.mk (pw_below_grown (by exact HB.out) (some gb194) (below_size (by exact HB.out)) hg (fun k_ e_ => by cases e_; exact GE194.out)); have n3_ := Aside0.mk (hbox); clear BK192; clear BK193; clear HB; clear BK194; have BK192 := n0_; have BK193 := n1_; have HB := n2_; have BK194 := n3_; clear n0_ n1_ n2_ n3_; clear hbox hg))
              refine bodyPost_ret (results_cell_row rfl _ _ gb194 35 #[.int .i64 (wrap64 (a1_0 + (ji44))), .int .i64 ji44, .int .i64 (wrap64 (a1_0 + (ji44))), .bool false] (0, 0) _ rfl (by exact BK194.out) Try.underlying35 rfl (by kernel_rfl)) rfl ?_
              exact ⟨by first | rfl | (simp [errW_none, errW_some] <;> rfl) | (simp only [← hji44]; first | rfl | (simp [errW_none, errW_some] <;> rfl)) | (simp [*, errW_none, errW_some] <;> rfl), by exact HB.out⟩
            · rw [if_neg c45] at H
              have c45b0 : ((ji44) == 0) = false := beq_eq_false_iff_ne.mpr c45
              have c45b1 : ((ji44) != 0) = true := bne_iff_ne.mpr c45
              clear c45
              simp only [Option.some.injEq, Prod.mk.injEq] at H
              obtain ⟨rfl, rfl, rfl, rfl⟩ := H
              have hcz56_0 := tch4 BK193.out
              have hcz57_0 := tch4 BK192.out
              go_wp2_with (first | ((with_reducible refine gate_store (t := 2) (p := 46) rfl ?_); refine store_row (t := 2) (p := 46) (v := ?vo_w58) ?hgd ?ho ?hN gb193 1 #[.int .i64 a1_0, .int .i64 a1_1, .int .i64 a1_2, .bool true] [.int .i64 ji44] #[.int .i64 a1_0, .int .i64 ji44, .int .i64 a1_2, .bool true] ?hx ?hy (by exact BK193.out) szi2 (Nat.le_of_ble_eq_true rfl) ?h1 ?hnew ?_; (case ho => rfl); (case hgd => rfl); (case hN => rfl); (case hx => rfl); (case hy => first | rfl | (go_simp; done) | (go_simp; rfl)); (case h1 => rfl); (case hnew => rfl); intro w58 hbox hg; have n0_ := Aside0.mk (blk_grown BK192.out hg (fun e_ => NB192_193.out (Option.some.inj e_))); have n1_ := Aside0.mk (blk_grown BK194.out hg (fun e_ => NB194_193.out (Option.some.inj e_))); have n2_ := Aside0.mk (pw_below_grown (by exact HB.out) (some gb193) (below_size (by exact HB.out)) hg (fun k_ e_ => by cases e_; exact GE193.out)); have n3_ := Aside0.mk (hbox); clear BK192; clear BK194; clear HB; clear BK193; have BK192 := n0_; have BK194 := n1_; have HB := n2_; have BK193 := n3_; clear n0_ n1_ n2_ n3_; clear hbox hg; have hcz59_0 : w58.cell? ⟨gb193, 0, none⟩ = some (.int .i64 a1_0) := (blk_cell BK193.out 0).trans rfl; have hcz59_1 : w58.cell? ⟨gb193, 1, none⟩ = some (.int .i64 ji44) := (blk_cell BK193.out 1).trans rfl; have hcz59_2 : w58.cell? ⟨gb193, 2, none⟩ = some (.int .i64 a1_2) := (blk_cell BK193.out 2).trans rfl; have hcz59_3 : w58.cell? ⟨gb193, 3, none⟩ = some (.bool true) := (blk_cell BK193.out 3).trans rfl; have hfz59_0 := blk_frozen BK193.out 0; have hfz59_1 := blk_frozen BK193.out 1; have hfz59_2 := blk_frozen BK193.out 2; have hfz59_3 := blk_frozen BK193.out 3) | ((with_reducible refine gate_store (t := 2) (p := 68) rfl ?_); refine store_row (t := 2) (p := 68) (v := ?vo_w60) ?hgd ?ho ?hN gb193 0 #[.int .i64 a1_0, .int .i64 ji44, .int .i64 a1_2, .bool true] [.int .i64 (wrap64 (a1_0 + (ji44)))] #[.int .i64 (wrap64 (a1_0 + (ji44))), .int .i64 ji44, .int .i64 a1_2, .bool true] ?hx ?hy (by exact BK193.out) szi2 (Nat.le_of_ble_eq_true rfl) ?h1 ?hnew ?_; (case ho => rfl); (case hgd => rfl); (case hN => rfl); (case hx => rfl); (case hy => first | rfl | (go_simp; done) | (go_simp; rfl)); (case h1 => rfl); (case hnew => rfl); intro w60 hbox hg; have n0_ := Aside0.mk (blk_grown BK192.out hg (fun e_ => NB192_193.out (Option.some.inj e_))); have n1_ := Aside0.mk (blk_grown BK194.out hg (fun e_ => NB194_193.out (Option.some.inj e_))); have n2_ := Aside0.mk (pw_below_grown (by exact HB.out) (some gb193) (below_size (by exact HB.out)) hg (fun k_ e_ => by cases e_; exact GE193.out)); have n3_ := Aside0.mk (hbox); clear BK192; clear BK194; clear HB; clear BK193; have BK192 := n0_; have BK194 := n1_; have HB := n2_; have BK193 := n3_; clear n0_ n1_ n2_ n3_; clear hbox hg; have hcz61_0 : w60.cell? ⟨gb193, 0, none⟩ = some (.int .i64 (wrap64 (a1_0 + (ji44)))) := (blk_cell BK193.out 0).trans rfl; have hcz61_1 : w60.cell? ⟨gb193, 1, none⟩ = some (.int .i64 ji44) := (blk_cell BK193.out 1).trans rfl; have hcz61_2 : w60.cell? ⟨gb193, 2, none⟩ = some (.int .i64 a1_2) := (blk_cell BK193.out 2).trans rfl; have hcz61_3 : w60.cell? ⟨gb193, 3, none⟩ = some (.bool true) := (blk_cell BK193.out 3).trans rfl; have hfz61_0 := blk_frozen BK193.out 0; have hfz61_1 := blk_frozen BK193.out 1; have hfz61_2 := blk_frozen BK193.out 2; have hfz61_3 := blk_frozen BK193.out 3) | ((with_reducible refine gate_store (t := 35) (p := 4) rfl ?_); refine store_row (t := 35) (p := 4) (v := ?vo_w62) ?hgd ?ho ?hN gb194 0 #[.int .i64 0, .int .i64 0, .int .i64 0, .bool false] [.int .i64 (wrap64 (a1_0 + (ji44))), .int .i64 ji44, .int .i64 a1_2, .bool true] #[.int .i64 (wrap64 (a1_0 + (ji44))), .int .i64 ji44, .int .i64 a1_2, .bool true] ?hx ?hy (by exact BK194.out) szi35 (Nat.le_of_ble_eq_true rfl) ?h1 ?hnew ?_; (case ho => rfl); (case hgd => rfl); (case hN => rfl); (case hx => rfl); (case hy => first | rfl | (go_simp; done) | (go_simp; rfl)); (case h1 => rfl); (case hnew => rfl); intro w62 hbox hg; have n0_ := Aside0.mk (blk_grown BK192.out hg (fun e_ => NB192_194.out (Option.some.inj e_))); have n1_ := Aside0.mk (blk_grown BK193.out hg (fun e_ => NB193_194.out (Option.some.inj e_))); have n2_ := Aside0.mk (pw_below_grown (by exact HB.out) (some gb194) (below_size (by exact HB.out)) hg (fun k_ e_ => by cases e_; exact GE194.out)); have n3_ := Aside0.mk (hbox); clear BK192; clear BK193; clear HB; clear BK194; have BK192 := n0_; have BK193 := n1_; have HB := n2_; have BK194 := n3_; clear n0_ n1_ n2_ n3_; clear hbox hg))
              refine bodyPost_ret (results_cell_row rfl _ _ gb194 35 #[.int .i64 (wrap64 (a1_0 + (ji44))), .int .i64 ji44, .int .i64 a1_2, .bool true] (0, 0) _ rfl (by exact BK194.out) Try.underlying35 rfl (by kernel_rfl)) rfl ?_
              exact ⟨by first | rfl | (simp [errW_none, errW_some] <;> rfl) | (simp only [← hji44]; first | rfl | (simp [errW_none, errW_some] <;> rfl)) | (simp [*, errW_none, errW_some] <;> rfl), by exact HB.out⟩
          · replace c43 := Bool.eq_false_iff.mpr c43
            subst c43
            have H1 : (if a1_2 ≥ a1_0 then ((axis_next.f kj4 a0_0 a0_1 a0_2 a0_3 (wrap64 (a1_2 - a1_0)) a1_1).bind fun t196 => (some (wrap64 (a1_0 + t196), t196, a1_2, false))) else ((axis_next.f kj4 a0_0 a0_1 a0_2 a0_3 (wrap64 (a1_0 - a1_2)) (wrap64 (-a1_1))).bind fun t197 => (some (wrap64 (a1_0 + (wrap64 (-t197))), wrap64 (-t197), a1_2, false)))) = some (r1, r2, r3, r4) := by rw [if_neg (show ¬ (false = true) by decide)] at H; exact H
            clear H
            have H := H1
            clear H1
            by_cases c63 : a1_2 ≥ a1_0
            · rw [if_pos c63] at H
              have c63b0 : decide (a1_0 ≤ a1_2) = true := decide_eq_true c63
              clear c63
              replace H := Option.bind_eq_some_iff.mp H
              obtain ⟨t196, A640, H⟩ := H
              replace H : (some (wrap64 (a1_0 + t196), t196, a1_2, false)) = some (r1, r2, r3, r4) := H
              have A64 := Aside0.mk A640
              clear A640
              simp only [Option.some.injEq, Prod.mk.injEq] at H
              obtain ⟨rfl, rfl, rfl, rfl⟩ := H
              have hcz65_0 := tch4 BK193.out
              have hcz66_0 := tch4 BK192.out
              go_wp2_with (first | ((with_reducible refine gate_callee (f := 56) rfl ?_); refine goesL_ (some 61) rfl rfl Try.func56 (by kernel_rfl) rfl #[.agg #[.int .i64 a0_0, .int .i64 a0_1, .int .i64 a0_2, .int .i64 a0_3], .int .i64 (wrap64 (a1_2 - a1_0)), .int .i64 a1_1] rfl (by (try simp only [List.map_toArray, List.map_cons, List.map_nil]); first | done | rfl | (simp only [List.length_drop, List.length_take]; rfl)) ?_; (with_reducible refine (axis_next.calls kj4 a0_0 a0_1 a0_2 a0_3 (wrap64 (a1_2 - a1_0)) a1_1 t196 _ A64.out).mono ?_); rintro e w67 ⟨rfl, hb⟩; refine ⟨_, rfl, ?_⟩; have n0_ := Aside0.mk (blk_below BK192.out hb); have n1_ := Aside0.mk (blk_below BK193.out hb); have n2_ := Aside0.mk (blk_below BK194.out hb); have n3_ := Aside0.mk (below_step (by exact HB.out) hb); clear BK192; clear BK193; clear BK194; clear HB; have BK192 := n0_; have BK193 := n1_; have BK194 := n2_; have HB := n3_; clear n0_ n1_ n2_ n3_; (try clear hb); (try clear hb2); (try clear hk); (try clear hi)) | ((with_reducible refine gate_store (t := 2) (p := 62) rfl ?_); refine store_row (t := 2) (p := 62) (v := ?vo_w68) ?hgd ?ho ?hN gb193 1 #[.int .i64 a1_0, .int .i64 a1_1, .int .i64 a1_2, .bool false] [.int .i64 t196] #[.int .i64 a1_0, .int .i64 t196, .int .i64 a1_2, .bool false] ?hx ?hy (by exact BK193.out) szi2 (Nat.le_of_ble_eq_true rfl) ?h1 ?hnew ?_; (case ho => rfl); (case hgd => rfl); (case hN => rfl); (case hx => rfl); (case hy => first | rfl | (go_simp; done) | (go_simp; rfl)); (case h1 => rfl); (case hnew => rfl); intro w68 hbox hg; have n0_ := Aside0.mk (blk_grown BK192.out hg (fun e_ => NB192_193.out (Option.some.inj e_))); have n1_ := Aside0.mk (blk_grown BK194.out hg (fun e_ => NB194_193.out (Option.some.inj e_))); have n2_ := Aside0.mk (pw_below_grown (by exact HB.out) (some gb193) (below_size (by exact HB.out)) hg (fun k_ e_ => by cases e_; exact GE193.out)); have n3_ := Aside0.mk (hbox); clear BK192; clear BK194; clear HB; clear BK193; have BK192 := n0_; have BK194 := n1_; have HB := n2_; have BK193 := n3_; clear n0_ n1_ n2_ n3_; clear hbox hg; have hcz69_0 := tch4 BK193.out) | ((with_reducible refine gate_store (t := 2) (p := 68) rfl ?_); refine store_row (t := 2) (p := 68) (v := ?vo_w70) ?hgd ?ho ?hN gb193 0 #[.int .i64 a1_0, .int .i64 t196, .int .i64 a1_2, .bool false] [.int .i64 (wrap64 (a1_0 + t196))] #[.int .i64 (wrap64 (a1_0 + t196)), .int .i64 t196, .int .i64 a1_2, .bool false] ?hx ?hy (by exact BK193.out) szi2 (Nat.le_of_ble_eq_true rfl) ?h1 ?hnew ?_; (case ho => rfl); (case hgd => rfl); (case hN => rfl); (case hx => rfl); (case hy => first | rfl | (go_simp; done) | (go_simp; rfl)); (case h1 => rfl); (case hnew => rfl); intro w70 hbox hg; have n0_ := Aside0.mk (blk_grown BK192.out hg (fun e_ => NB192_193.out (Option.some.inj e_))); have n1_ := Aside0.mk (blk_grown BK194.out hg (fun e_ => NB194_193.out (Option.some.inj e_))); have n2_ := Aside0.mk (pw_below_grown (by exact HB.out) (some gb193) (below_size (by exact HB.out)) hg (fun k_ e_ => by cases e_; exact GE193.out)); have n3_ := Aside0.mk (hbox); clear BK192; clear BK194; clear HB; clear BK193; have BK192 := n0_; have BK194 := n1_; have HB := n2_; have BK193 := n3_; clear n0_ n1_ n2_ n3_; clear hbox hg; have hcz71_0 := tch4 BK193.out) | ((with_reducible refine gate_store (t := 35) (p := 4) rfl ?_); refine store_row (t := 35) (p := 4) (v := ?vo_w72) ?hgd ?ho ?hN gb194 0 #[.int .i64 0, .int .i64 0, .int .i64 0, .bool false] [.int .i64 (wrap64 (a1_0 + t196)), .int .i64 t196, .int .i64 a1_2, .bool false] #[.int .i64 (wrap64 (a1_0 + t196)), .int .i64 t196, .int .i64 a1_2, .bool false] ?hx ?hy (by exact BK194.out) szi35 (Nat.le_of_ble_eq_true rfl) ?h1 ?hnew ?_; (case ho => rfl); (case hgd => rfl); (case hN => rfl); (case hx => rfl); (case hy => first | rfl | (go_simp; done) | (go_simp; rfl)); (case h1 => rfl); (case hnew => rfl); intro w72 hbox hg; have n0_ := Aside0.mk (blk_grown BK192.out hg (fun e_ => NB192_194.out (Option.some.inj e_))); have n1_ := Aside0.mk (blk_grown BK193.out hg (fun e_ => NB193_194.out (Option.some.inj e_))); have n2_ := Aside0.mk (pw_below_grown (by exact HB.out) (some gb194) (below_size (by exact HB.out)) hg (fun k_ e_ => by cases e_; exact GE194.out)); have n3_ := Aside0.mk (hbox); clear BK192; clear BK193; clear HB; clear BK194; have BK192 := n0_; have BK193 := n1_; have HB := n2_; have BK194 := n3_; clear n0_ n1_ n2_ n3_; clear hbox hg))
              refine bodyPost_ret (results_cell_row rfl _ _ gb194 35 #[.int .i64 (wrap64 (a1_0 + t196)), .int .i64 t196, .int .i64 a1_2, .bool false] (0, 0) _ rfl (by exact BK194.out) Try.underlying35 rfl (by kernel_rfl)) rfl ?_
              exact ⟨by first | rfl | (simp [errW_none, errW_some] <;> rfl) | (simp [*, errW_none, errW_some] <;> rfl), by exact HB.out⟩
            · rw [if_neg c63] at H
              have c63b0 : decide (a1_0 ≤ a1_2) = false := decide_eq_false c63
              clear c63
              replace H := Option.bind_eq_some_iff.mp H
              obtain ⟨t197, A730, H⟩ := H
              replace H : (some (wrap64 (a1_0 + (wrap64 (-t197))), wrap64 (-t197), a1_2, false)) = some (r1, r2, r3, r4) := H
              have A73 := Aside0.mk A730
              clear A730
              simp only [Option.some.injEq, Prod.mk.injEq] at H
              obtain ⟨rfl, rfl, rfl, rfl⟩ := H
              have hcz74_0 := tch4 BK193.out
              have hcz75_0 := tch4 BK192.out
              go_wp2_with (first | ((with_reducible refine gate_callee (f := 56) rfl ?_); refine goesL_ (some 19) rfl rfl Try.func56 (by kernel_rfl) rfl #[.agg #[.int .i64 a0_0, .int .i64 a0_1, .int .i64 a0_2, .int .i64 a0_3], .int .i64 (wrap64 (a1_0 - a1_2)), .int .i64 (wrap64 (-a1_1))] rfl (by (try simp only [List.map_toArray, List.map_cons, List.map_nil]); first | done | rfl | (simp only [List.length_drop, List.length_take]; rfl)) ?_; (with_reducible refine (axis_next.calls kj4 a0_0 a0_1 a0_2 a0_3 (wrap64 (a1_0 - a1_2)) (wrap64 (-a1_1)) t197 _ A73.out).mono ?_); rintro e w76 ⟨rfl, hb⟩; refine ⟨_, rfl, ?_⟩; have n0_ := Aside0.mk (blk_below BK192.out hb); have n1_ := Aside0.mk (blk_below BK193.out hb); have n2_ := Aside0.mk (blk_below BK194.out hb); have n3_ := Aside0.mk (below_step (by exact HB.out) hb); clear BK192; clear BK193; clear BK194; clear HB; have BK192 := n0_; have BK193 := n1_; have BK194 := n2_; have HB := n3_; clear n0_ n1_ n2_ n3_; (try clear hb); (try clear hb2); (try clear hk); (try clear hi)) | ((with_reducible refine gate_store (t := 2) (p := 21) rfl ?_); refine store_row (t := 2) (p := 21) (v := ?vo_w77) ?hgd ?ho ?hN gb193 1 #[.int .i64 a1_0, .int .i64 a1_1, .int .i64 a1_2, .bool false] [.int .i64 (wrap64 (-t197))] #[.int .i64 a1_0, .int .i64 (wrap64 (-t197)), .int .i64 a1_2, .bool false] ?hx ?hy (by exact BK193.out) szi2 (Nat.le_of_ble_eq_true rfl) ?h1 ?hnew ?_; (case ho => rfl); (case hgd => rfl); (case hN => rfl); (case hx => rfl); (case hy => first | rfl | (go_simp; done) | (go_simp; rfl)); (case h1 => rfl); (case hnew => rfl); intro w77 hbox hg; have n0_ := Aside0.mk (blk_grown BK192.out hg (fun e_ => NB192_193.out (Option.some.inj e_))); have n1_ := Aside0.mk (blk_grown BK194.out hg (fun e_ => NB194_193.out (Option.some.inj e_))); have n2_ := Aside0.mk (pw_below_grown (by exact HB.out) (some gb193) (below_size (by exact HB.out)) hg (fun k_ e_ => by cases e_; exact GE193.out)); have n3_ := Aside0.mk (hbox); clear BK192; clear BK194; clear HB; clear BK193; have BK192 := n0_; have BK194 := n1_; have HB := n2_; have BK193 := n3_; clear n0_ n1_ n2_ n3_; clear hbox hg; have hcz78_0 := tch4 BK193.out) | ((with_reducible refine gate_store (t := 2) (p := 68) rfl ?_); refine store_row (t := 2) (p := 68) (v := ?vo_w79) ?hgd ?ho ?hN gb193 0 #[.int .i64 a1_0, .int .i64 (wrap64 (-t197)), .int .i64 a1_2, .bool false] [.int .i64 (wrap64 (a1_0 + (wrap64 (-t197))))] #[.int .i64 (wrap64 (a1_0 + (wrap64 (-t197)))), .int .i64 (wrap64 (-t197)), .int .i64 a1_2, .bool false] ?hx ?hy (by exact BK193.out) szi2 (Nat.le_of_ble_eq_true rfl) ?h1 ?hnew ?_; (case ho => rfl); (case hgd => rfl); (case hN => rfl); (case hx => rfl); (case hy => first | rfl | (go_simp; done) | (go_simp; rfl)); (case h1 => rfl); (case hnew => rfl); intro w79 hbox hg; have n0_ := Aside0.mk (blk_grown BK192.out hg (fun e_ => NB192_193.out (Option.some.inj e_))); have n1_ := Aside0.mk (blk_grown BK194.out hg (fun e_ => NB194_193.out (Option.some.inj e_))); have n2_ := Aside0.mk (pw_below_grown (by exact HB.out) (some gb193) (below_size (by exact HB.out)) hg (fun k_ e_ => by cases e_; exact GE193.out)); have n3_ := Aside0.mk (hbox); clear BK192; clear BK194; clear HB; clear BK193; have BK192 := n0_; have BK194 := n1_; have HB := n2_; have BK193 := n3_; clear n0_ n1_ n2_ n3_; clear hbox hg; have hcz80_0 := tch4 BK193.out) | ((with_reducible refine gate_store (t := 35) (p := 4) rfl ?_); refine store_row (t := 35) (p := 4) (v := ?vo_w81) ?hgd ?ho ?hN gb194 0 #[.int .i64 0, .int .i64 0, .int .i64 0, .bool false] [.int .i64 (wrap64 (a1_0 + (wrap64 (-t197)))), .int .i64 (wrap64 (-t197)), .int .i64 a1_2, .bool false] #[.int .i64 (wrap64 (a1_0 + (wrap64 (-t197)))), .int .i64 (wrap64 (-t197)), .int .i64 a1_2, .bool false] ?hx ?hy (by exact BK194.out) szi35 (Nat.le_of_ble_eq_true rfl) ?h1 ?hnew ?_; (case ho => rfl); (case hgd => rfl); (case hN => rfl); (case hx => rfl); (case hy => first | rfl | (go_simp; done) | (go_simp; rfl)); (case h1 => rfl); (case hnew => rfl); intro w81 hbox hg; have n0_ := Aside0.mk (blk_grown BK192.out hg (fun e_ => NB192_194.out (Option.some.inj e_))); have n1_ := Aside0.mk (blk_grown BK193.out hg (fun e_ => NB193_194.out (Option.some.inj e_))); have n2_ := Aside0.mk (pw_below_grown (by exact HB.out) (some gb194) (below_size (by exact HB.out)) hg (fun k_ e_ => by cases e_; exact GE194.out)); have n3_ := Aside0.mk (hbox); clear BK192; clear BK193; clear HB; clear BK194; have BK192 := n0_; have BK193 := n1_; have HB := n2_; have BK194 := n3_; clear n0_ n1_ n2_ n3_; clear hbox hg))
              refine bodyPost_ret (results_cell_row rfl _ _ gb194 35 #[.int .i64 (wrap64 (a1_0 + (wrap64 (-t197)))), .int .i64 (wrap64 (-t197)), .int .i64 a1_2, .bool false] (0, 0) _ rfl (by exact BK194.out) Try.underlying35 rfl (by kernel_rfl)) rfl ?_
              exact ⟨by first | rfl | (simp [errW_none, errW_some] <;> rfl) | (simp [*, errW_none, errW_some] <;> rfl), by exact HB.out⟩
  · rw [if_neg c4] at H
    have c4b0 : (t195 == 0) = false := beq_eq_false_iff_ne.mpr c4
    have c4b1 : (t195 != 0) = true := bne_iff_ne.mpr c4
    simp only [Option.some.injEq, Prod.mk.injEq] at H
    obtain ⟨rfl, rfl, rfl, rfl⟩ := H
    go_enter Try.func38, Try.ntmps38
    go_wp2_with (first | ((with_reducible refine gate_dst (N := 2) rfl ?_); refine box_event ?hg (N := 2) ?hd (cs := #[.int .i64 a0_0, .int .i64 a0_1, .int .i64 a0_2, .int .i64 a0_3]) (t := 28) ?hr ?_; (case hd => rfl); (case hg => rfl); (case hr => first | (go_simp; done) | (go_simp; rfl)); intro gb192 hg w82 hbox hb; have n0_ := Aside0.mk (below_step (by exact HB.out) hb); have n1_ := Aside0.mk (hbox); have n2_ := Aside0.mk ((by rw [hg]; exact (below_size (by exact HB.out)) : w.heap.size ≤ gb192)); have n3_ := Aside0.mk ((by rw [hg]; exact (below_size (by exact HB.out)) : w.heap.size ≤ gb192)); clear HB; have HB := n0_; have BK192 := n1_; have GW192 := n2_; have GE192 := n3_; clear n0_ n1_ n2_ n3_; clear hb hbox hg) | ((with_reducible refine gate_dst (N := 3) rfl ?_); refine box_event ?hg (N := 3) ?hd (cs := #[.int .i64 a1_0, .int .i64 a1_1, .int .i64 a1_2, .bool a1_3]) (t := 35) ?hr ?_; (case hd => rfl); (case hg => rfl); (case hr => first | (go_simp; done) | (go_simp; rfl)); intro gb193 hg w83 hbox hb; have n0_ := Aside0.mk (blk_below BK192.out hb); have n1_ := Aside0.mk (below_step (by exact HB.out) hb); have n2_ := Aside0.mk (hbox); have n3_ := Aside0.mk ((by rw [hg]; exact (below_size (by exact HB.out)) : w.heap.size ≤ gb193)); have n4_ := Aside0.mk ((by rw [hg]; exact (below_size (by exact HB.out)) : w.heap.size ≤ gb193)); have n5_ := Aside0.mk ((by rw [hg]; exact Nat.ne_of_lt (blk_lt BK192.out) : gb192 ≠ gb193)); clear BK192; clear HB; have BK192 := n0_; have HB := n1_; have BK193 := n2_; have GW193 := n3_; have GE193 := n4_; have NB192_193 := n5_; clear n0_ n1_ n2_ n3_ n4_ n5_; clear hb hbox hg) | ((with_reducible refine gate_dst (N := 4) rfl ?_); refine box_event ?hg (N := 4) ?hd (cs := #[.int .i64 0, .int .i64 0, .int .i64 0, .bool false]) (t := 35) ?hr ?_; (case hd => rfl); (case hg => rfl); (case hr => first | (go_simp; done) | (go_simp; rfl)); intro gb194 hg w84 hbox hb; have n0_ := Aside0.mk (blk_below BK192.out hb); have n1_ := Aside0.mk (blk_below BK193.out hb); have n2_ := Aside0.mk (below_step (by exact HB.out) hb); have n3_ := Aside0.mk (hbox); have n4_ := Aside0.mk ((by rw [hg]; exact (below_size (by exact HB.out)) : w.heap.size ≤ gb194)); have n5_ := Aside0.mk ((by rw [hg]; exact (below_size (by exact HB.out)) : w.heap.size ≤ gb194)); have n6_ := Aside0.mk ((by rw [hg]; exact Nat.ne_of_lt (blk_lt BK192.out) : gb192 ≠ gb194)); have n7_ := Aside0.mk ((by rw [hg]; exact Nat.ne_of_lt (blk_lt BK193.out) : gb193 ≠ gb194)); have n8_ := Aside0.mk ((by rw [hg]; exact Nat.ne_of_gt (blk_lt BK193.out) : gb194 ≠ gb193)); clear BK192; clear BK193; clear HB; have BK192 := n0_; have BK193 := n1_; have HB := n2_; have BK194 := n3_; have GW194 := n4_; have GE194 := n5_; have NB192_194 := n6_; have NB193_194 := n7_; have NB194_193 := n8_; clear n0_ n1_ n2_ n3_ n4_ n5_ n6_ n7_ n8_; clear hb hbox hg; have hcz85_0 := tch4 BK192.out; have hcz86_0 := tch4 BK193.out) | ((with_reducible refine gate_callee (f := 41) rfl ?_); refine goesL_ (some 7) rfl rfl Try.func41 (by kernel_rfl) rfl #[.agg #[.int .i64 a0_0, .int .i64 a0_1, .int .i64 a0_2, .int .i64 a0_3], .agg #[.int .i64 a1_0, .int .i64 a1_1, .int .i64 a1_2, .bool a1_3]] rfl (by (try simp only [List.map_toArray, List.map_cons, List.map_nil]); first | done | rfl | (simp only [List.length_drop, List.length_take]; rfl)) ?_; (with_reducible refine (axis_Check.calls k a0_0 a0_1 a0_2 a0_3 a1_0 a1_1 a1_2 a1_3 t195 _ A3.out).mono ?_); rintro e w87 ⟨rfl, hb⟩; refine ⟨_, rfl, ?_⟩; have n0_ := Aside0.mk (blk_below BK192.out hb); have n1_ := Aside0.mk (blk_below BK193.out hb); have n2_ := Aside0.mk (blk_below BK194.out hb); have n3_ := Aside0.mk (below_step (by exact HB.out) hb); clear BK192; clear BK193; clear BK194; clear HB; have BK192 := n0_; have BK193 := n1_; have BK194 := n2_; have HB := n3_; clear n0_ n1_ n2_ n3_; (try clear hb); (try clear hb2); (try clear hk); (try clear hi); have hcz88_0 := tch4 BK193.out) | ((with_reducible refine gate_store (t := 35) (p := 4) rfl ?_); refine store_row (t := 35) (p := 4) (v := ?vo_w89) ?hgd ?ho ?hN gb194 0 #[.int .i64 0, .int .i64 0, .int .i64 0, .bool false] [.int .i64 a1_0, .int .i64 a1_1, .int .i64 a1_2, .bool a1_3] #[.int .i64 a1_0, .int .i64 a1_1, .int .i64 a1_2, .bool a1_3] ?hx ?hy (by exact BK194.out) szi35 (Nat.le_of_ble_eq_true rfl) ?h1 ?hnew ?_; (case ho => rfl); (case hgd => rfl); (case hN => rfl); (case hx => rfl); (case hy => first | rfl | (go_simp; done) | (go_simp; rfl)); (case h1 => rfl); (case hnew => rfl); intro w89 hbox hg; have n0_ := Aside0.mk (blk_grown BK192.out hg (fun e_ => NB192_194.out (Option.some.inj e_))); have n1_ := Aside0.mk (blk_grown BK193.out hg (fun e_ => NB193_194.out (Option.some.inj e_))); have n2_ := Aside0.mk (pw_below_grown (by exact HB.out) (some gb194) (below_size (by exact HB.out)) hg (fun k_ e_ => by cases e_; exact GE194.out)); have n3_ := Aside0.mk (hbox); clear BK192; clear BK193; clear HB; clear BK194; have BK192 := n0_; have BK193 := n1_; have HB := n2_; have BK194 := n3_; clear n0_ n1_ n2_ n3_; clear hbox hg))
    refine bodyPost_ret (results_cell_row rfl _ _ gb194 35 #[.int .i64 a1_0, .int .i64 a1_1, .int .i64 a1_2, .bool a1_3] (0, 0) _ rfl (by exact BK194.out) Try.underlying35 rfl (by kernel_rfl)) rfl ?_
    exact ⟨by first | rfl | (simp [errW_none, errW_some] <;> rfl) | (simp [*, errW_none, errW_some] <;> rfl), by exact HB.out⟩

end Go.Proofs.Ytfcengfjolljgaa.PMountValid
