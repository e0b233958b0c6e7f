-- Written by a program of this session out of the translation (wip/tools).
import Derived.Test.YtmdphfjpocmooaaPAxisMirrorx0
import Derived.Test.YtmdphfjpocmooaaPAxisMirrorx2
import Derived.Test.YtmdphfjpocmooaaPAxisMirrorx5
import Derived.Test.YtmdphfjpocmooaaPAxisMirrorx6
namespace Go.Proofs.Ytmdphfjpocmooaa.PAxisMirror
open Go.RowKit Go.Proofs.YtmdphfjpocmooaaW.PrintWords Go.Proofs.YtmdphfjpocmooaaW.PrintLast Go.Proofs.YtmdphfjpocmooaaW.PrintMore
attribute [local go_sem] max2_int min2_int max_two min_two max_three min_three max_four min_four   -- for this text's walks alone
set_option linter.unusedVariables false
set_option linter.unusedSimpArgs false

/-! ### spykeep2_AxisMirror: function 6 -/
mutual
def spykeep2_AxisMirror.l0 : Nat → Int → List Int → Int → Int → Int → Int → Int → Int → Int → Int → Int → Int → Int → Int → Bool → Int → Int → Int → Bool → Option (Bool)
  | 0, _, _, _, _, _, _, _, _, _, _, _, _, _, _, _, _, _, _, _ => none
  | k + 1, x35, x173000, x173001, x179000, x179001, x179002, x179003, x180000, x180001, x180002, x180003, x187000, x187001, x187002, x187003, x192000, x192001, x192002, x192003 => if x35 < 40 then ((spymake_Stream_Next.f x173000 x173001 6).bind fun bt192 => (if bt192.1 = 0 then ((spymake_Stream_Inside.f x173000 bt192.2 x179000 x179001 x179002 x179003).bind fun bt194 => ((axis_Send.f k x179000 x179001 x179002 x179003 x187000 x187001 x187002 x187003 bt194.1).bind fun bt196 => ((axis_Send.f k x180000 x180001 x180002 x180003 x192000 x192001 x192002 x192003 (wrap64 (-bt194.1))).bind fun bt201 => (spykeep2_AxisMirror.j1 k x35 x173000 bt194.2 x179000 x179001 x179002 x179003 x180000 x180001 x180002 x180003 bt196.1 bt196.2.1 bt196.2.2.1 bt196.2.2.2.1 bt201.1 bt201.2.1 bt201.2.2.1 bt201.2.2.2.1)))) else (spykeep2_AxisMirror.j1 k x35 x173000 bt192.2 x179000 x179001 x179002 x179003 x180000 x180001 x180002 x180003 x187000 x187001 x187002 x187003 x192000 x192001 x192002 x192003))) else (some true)
def spykeep2_AxisMirror.j1 : Nat → Int → List Int → Int → Int → Int → Int → Int → Int → Int → Int → Int → Int → Int → Int → Bool → Int → Int → Int → Bool → Option (Bool)
  | 0, _, _, _, _, _, _, _, _, _, _, _, _, _, _, _, _, _, _, _ => none
  | k + 1, x35, x173000, x173001, x179000, x179001, x179002, x179003, x180000, x180001, x180002, x180003, x187000, x187001, x187002, x187003, x192000, x192001, x192002, x192003 => (axis_Step.f k x179000 x179001 x179002 x179003 x187000 x187001 x187002 x187003).bind fun bt206 => ((axis_Step.f k x180000 x180001 x180002 x180003 x192000 x192001 x192002 x192003).bind fun bt210 => (if bt206.1 = (wrap64 (-bt210.1)) then (if bt206.2.1 = (wrap64 (-bt210.2.1)) then (if bt206.2.2.1 = (wrap64 (-bt210.2.2.1)) then (spykeep2_AxisMirror.l0 k (wrap64 (x35 + 1)) x173000 x173001 x179000 x179001 x179002 x179003 x180000 x180001 x180002 x180003 bt206.1 bt206.2.1 bt206.2.2.1 bt206.2.2.2 bt210.1 bt210.2.1 bt210.2.2.1 bt210.2.2.2) else (some false)) else (some false)) else (some false)))
end
def spykeep2_AxisMirror.f (k : Nat) (l0 : List Int) : Option (Bool) := (spykeep2_goes.f k).bind fun t171 => (if t171 = true then ((spymake_Stream_Axis.f k l0 0).bind fun bt173 => ((spymake_Stream_Inside.f l0 bt173.2.2.2.2 bt173.1 bt173.2.1 bt173.2.2.1 bt173.2.2.2.1).bind fun bt180 => ((axis_Rest.f bt180.1).bind fun bt182 => ((axis_Rest.f (wrap64 (-bt182.1))).bind fun bt187 => (spykeep2_AxisMirror.l0 k 0 l0 bt180.2 bt173.1 bt173.2.1 bt173.2.2.1 bt173.2.2.2.1 (wrap64 (-bt173.2.1)) (wrap64 (-bt173.1)) bt173.2.2.1 bt173.2.2.2.1 bt182.1 bt182.2.1 bt182.2.2.1 bt182.2.2.2 bt187.1 bt187.2.1 bt187.2.2.1 bt187.2.2.2))))) else (some false))
theorem spykeep2_AxisMirror.mono_l : ∀ k, (∀ y0 y1 y2 y3 y4 y5 y6 y7 y8 y9 y10 y11 y12 y13 y14 y15 y16 y17 y18, LeO (spykeep2_AxisMirror.l0 k y0 y1 y2 y3 y4 y5 y6 y7 y8 y9 y10 y11 y12 y13 y14 y15 y16 y17 y18) (spykeep2_AxisMirror.l0 (k + 1) y0 y1 y2 y3 y4 y5 y6 y7 y8 y9 y10 y11 y12 y13 y14 y15 y16 y17 y18)) ∧ (∀ y0 y1 y2 y3 y4 y5 y6 y7 y8 y9 y10 y11 y12 y13 y14 y15 y16 y17 y18, LeO (spykeep2_AxisMirror.j1 k y0 y1 y2 y3 y4 y5 y6 y7 y8 y9 y10 y11 y12 y13 y14 y15 y16 y17 y18) (spykeep2_AxisMirror.j1 (k + 1) y0 y1 y2 y3 y4 y5 y6 y7 y8 y9 y10 y11 y12 y13 y14 y15 y16 y17 y18))
  | 0 => ⟨fun _ _ _ _ _ _ _ _ _ _ _ _ _ _ _ _ _ _ _ r h => by simp [spykeep2_AxisMirror.l0] at h, fun _ _ _ _ _ _ _ _ _ _ _ _ _ _ _ _ _ _ _ r h => by simp [spykeep2_AxisMirror.j1] at h⟩
  | k + 1 => by
    obtain ⟨ih0, ih1⟩ := spykeep2_AxisMirror.mono_l k
    refine ⟨?_, ?_⟩
    · intro y0 y1 y2 y3 y4 y5 y6 y7 y8 y9 y10 y11 y12 y13 y14 y15 y16 y17 y18
      unfold spykeep2_AxisMirror.l0
      repeat' first
      | (with_reducible exact ih0 _ _ _ _ _ _ _ _ _ _ _ _ _ _ _ _ _ _ _)
      | (with_reducible exact ih1 _ _ _ _ _ _ _ _ _ _ _ _ _ _ _ _ _ _ _)
      | (with_reducible exact axis_Send.mono _ _ _ _ _ _ _ _ _ _)
      | (with_reducible exact axis_Step.mono _ _ _ _ _ _ _ _ _)
      | (with_reducible exact spykeep2_goes.mono _)
      | (with_reducible exact spymake_Stream_Axis.mono _ _ _)
      | (with_reducible exact LeO.refl _)
      | (with_reducible exact LeO.none _)
      | (with_reducible refine LeO.ite ?_ ?_)
      | (with_reducible refine LeO.bind ?_ (fun _ => ?_))
      | exact ih0 _ _ _ _ _ _ _ _ _ _ _ _ _ _ _ _ _ _ _
      | exact ih1 _ _ _ _ _ _ _ _ _ _ _ _ _ _ _ _ _ _ _
      | exact axis_Send.mono _ _ _ _ _ _ _ _ _ _
      | exact axis_Step.mono _ _ _ _ _ _ _ _ _
      | exact spykeep2_goes.mono _
      | exact spymake_Stream_Axis.mono _ _ _
      | exact LeO.none _
      | refine LeO.ite ?_ ?_
      | refine LeO.bind ?_ (fun _ => ?_)
    · intro y0 y1 y2 y3 y4 y5 y6 y7 y8 y9 y10 y11 y12 y13 y14 y15 y16 y17 y18
      unfold spykeep2_AxisMirror.j1
      repeat' first
      | (with_reducible exact ih0 _ _ _ _ _ _ _ _ _ _ _ _ _ _ _ _ _ _ _)
      | (with_reducible exact ih1 _ _ _ _ _ _ _ _ _ _ _ _ _ _ _ _ _ _ _)
      | (with_reducible exact axis_Send.mono _ _ _ _ _ _ _ _ _ _)
      | (with_reducible exact axis_Step.mono _ _ _ _ _ _ _ _ _)
      | (with_reducible exact spykeep2_goes.mono _)
      | (with_reducible exact spymake_Stream_Axis.mono _ _ _)
      | (with_reducible exact LeO.refl _)
      | (with_reducible exact LeO.none _)
      | (with_reducible refine LeO.ite ?_ ?_)
      | (with_reducible refine LeO.bind ?_ (fun _ => ?_))
      | exact ih0 _ _ _ _ _ _ _ _ _ _ _ _ _ _ _ _ _ _ _
      | exact ih1 _ _ _ _ _ _ _ _ _ _ _ _ _ _ _ _ _ _ _
      | exact axis_Send.mono _ _ _ _ _ _ _ _ _ _
      | exact axis_Step.mono _ _ _ _ _ _ _ _ _
      | exact spykeep2_goes.mono _
      | exact spymake_Stream_Axis.mono _ _ _
      | exact LeO.none _
      | refine LeO.ite ?_ ?_
      | refine LeO.bind ?_ (fun _ => ?_)
theorem spykeep2_AxisMirror.mono : ∀ a0 k, LeO (spykeep2_AxisMirror.f k a0) (spykeep2_AxisMirror.f (k + 1) a0) := by
  intro a0 k
  obtain ⟨ih0, ih1⟩ := spykeep2_AxisMirror.mono_l k
  unfold spykeep2_AxisMirror.f
  repeat' first
      | (with_reducible exact ih0 _ _ _ _ _ _ _ _ _ _ _ _ _ _ _ _ _ _ _)
      | (with_reducible exact ih1 _ _ _ _ _ _ _ _ _ _ _ _ _ _ _ _ _ _ _)
      | (with_reducible exact axis_Send.mono _ _ _ _ _ _ _ _ _ _)
      | (with_reducible exact axis_Step.mono _ _ _ _ _ _ _ _ _)
      | (with_reducible exact spykeep2_goes.mono _)
      | (with_reducible exact spymake_Stream_Axis.mono _ _ _)
      | (with_reducible exact LeO.refl _)
      | (with_reducible exact LeO.none _)
      | (with_reducible refine LeO.ite ?_ ?_)
      | (with_reducible refine LeO.bind ?_ (fun _ => ?_))
      | exact ih0 _ _ _ _ _ _ _ _ _ _ _ _ _ _ _ _ _ _ _
      | exact ih1 _ _ _ _ _ _ _ _ _ _ _ _ _ _ _ _ _ _ _
      | exact axis_Send.mono _ _ _ _ _ _ _ _ _ _
      | exact axis_Step.mono _ _ _ _ _ _ _ _ _
      | exact spykeep2_goes.mono _
      | exact spymake_Stream_Axis.mono _ _ _
      | exact LeO.none _
      | refine LeO.ite ?_ ?_
      | refine LeO.bind ?_ (fun _ => ?_)
def spykeep2_AxisMirror.T14 : Bool × List (List Nat × List Nat) := (true, [([], []), ([], []), ([0, 1], [0, 1]), ([], []), ([], []), ([3, 4, 2], [3, 4]), ([2, 5, 0, 1, 2], [2]), ([5, 6, 0, 1, 2, 3, 4, 5, 6], [5])])
def spykeep2_AxisMirror.B14 : List Nat := [0, 0, 3, 0, 0, 31, 63, 127]
theorem spykeep2_AxisMirror.tab14 : rtab .any (opsOf Try.f6 14) = spykeep2_AxisMirror.T14 := by kernel_rfl
theorem spykeep2_AxisMirror.bits14 : waitsOk spykeep2_AxisMirror.T14.2 spykeep2_AxisMirror.B14 = true := by kernel_rfl
set_option maxHeartbeats 8000000 in
set_option maxRecDepth 100000 in
theorem spykeep2_AxisMirror.calls (k : Nat) (A0 : Option Addr) (c0 : Nat) (l0 : List Int) (r : Bool) (w : World) (hr0 : Kd.C (Kd.int .i64) w A0 l0.length l0) (hc0 : l0.length ≤ c0) (h : spykeep2_AxisMirror.f k l0 = some r) :
    Calls Try.prog 6 #[.slice A0 l0.length c0] w fun e w' => e = .returned (.bool r) ∧ Below w.heap.size w w' := by
  have hu26 := Try.underlying26
  have hu28 := Try.underlying28
  have hu45 := Try.underlying45
  have HR0 := Aside0.mk hr0
  have HC0 := Aside0.mk hc0
  clear hr0 hc0
  have HB := Aside0.mk (Below.refl w.heap.size w)
  have H : ((spykeep2_goes.f k).bind fun t171 => (if t171 = true then ((spymake_Stream_Axis.f k l0 0).bind fun bt173 => ((spymake_Stream_Inside.f l0 bt173.2.2.2.2 bt173.1 bt173.2.1 bt173.2.2.1 bt173.2.2.2.1).bind fun bt180 => ((axis_Rest.f bt180.1).bind fun bt182 => ((axis_Rest.f (wrap64 (-bt182.1))).bind fun bt187 => (spykeep2_AxisMirror.l0 k 0 l0 bt180.2 bt173.1 bt173.2.1 bt173.2.2.1 bt173.2.2.2.1 (wrap64 (-bt173.2.1)) (wrap64 (-bt173.1)) bt173.2.2.1 bt173.2.2.2.1 bt182.1 bt182.2.1 bt182.2.2.1 bt182.2.2.2 bt187.1 bt187.2.1 bt187.2.2.1 bt187.2.2.2))))) else (some false))) = some r := h
  clear h
  replace H := Option.bind_eq_some_iff.mp H
  obtain ⟨t171, A20, H⟩ := H
  replace H : (if t171 = true then ((spymake_Stream_Axis.f k l0 0).bind fun bt173 => ((spymake_Stream_Inside.f l0 bt173.2.2.2.2 bt173.1 bt173.2.1 bt173.2.2.1 bt173.2.2.2.1).bind fun bt180 => ((axis_Rest.f bt180.1).bind fun bt182 => ((axis_Rest.f (wrap64 (-bt182.1))).bind fun bt187 => (spykeep2_AxisMirror.l0 k 0 l0 bt180.2 bt173.1 bt173.2.1 bt173.2.2.1 bt173.2.2.2.1 (wrap64 (-bt173.2.1)) (wrap64 (-bt173.1)) bt173.2.2.1 bt173.2.2.2.1 bt182.1 bt182.2.1 bt182.2.2.1 bt182.2.2.2 bt187.1 bt187.2.1 bt187.2.2.1 bt187.2.2.2))))) else (some false)) = some r := H
  have A2 := Aside0.mk A20
  clear A20
  by_cases c3 : t171 = true
  · subst c3
    have H1 : ((spymake_Stream_Axis.f k l0 0).bind fun bt173 => ((spymake_Stream_Inside.f l0 bt173.2.2.2.2 bt173.1 bt173.2.1 bt173.2.2.1 bt173.2.2.2.1).bind fun bt180 => ((axis_Rest.f bt180.1).bind fun bt182 => ((axis_Rest.f (wrap64 (-bt182.1))).bind fun bt187 => (spykeep2_AxisMirror.l0 k 0 l0 bt180.2 bt173.1 bt173.2.1 bt173.2.2.1 bt173.2.2.2.1 (wrap64 (-bt173.2.1)) (wrap64 (-bt173.1)) bt173.2.2.1 bt173.2.2.2.1 bt182.1 bt182.2.1 bt182.2.2.1 bt182.2.2.2 bt187.1 bt187.2.1 bt187.2.2.1 bt187.2.2.2))))) = some r := by rw [if_pos rfl] at H; exact H
    clear H
    have H := H1
    clear H1
    replace H := Option.bind_eq_some_iff.mp H
    obtain ⟨⟨t173, t174, t175, t176, t177⟩, A40, H⟩ := H
    replace H : ((spymake_Stream_Inside.f l0 t177 t173 t174 t175 t176).bind fun bt180 => ((axis_Rest.f bt180.1).bind fun bt182 => ((axis_Rest.f (wrap64 (-bt182.1))).bind fun bt187 => (spykeep2_AxisMirror.l0 k 0 l0 bt180.2 t173 t174 t175 t176 (wrap64 (-t174)) (wrap64 (-t173)) t175 t176 bt182.1 bt182.2.1 bt182.2.2.1 bt182.2.2.2 bt187.1 bt187.2.1 bt187.2.2.1 bt187.2.2.2)))) = some r := H
    have A4 := Aside0.mk A40
    clear A40
    replace H := Option.bind_eq_some_iff.mp H
    obtain ⟨⟨t180, t181⟩, A50, H⟩ := H
    replace H : ((axis_Rest.f t180).bind fun bt182 => ((axis_Rest.f (wrap64 (-bt182.1))).bind fun bt187 => (spykeep2_AxisMirror.l0 k 0 l0 t181 t173 t174 t175 t176 (wrap64 (-t174)) (wrap64 (-t173)) t175 t176 bt182.1 bt182.2.1 bt182.2.2.1 bt182.2.2.2 bt187.1 bt187.2.1 bt187.2.2.1 bt187.2.2.2))) = some r := H
    have A5 := Aside0.mk A50
    clear A50
    replace H := Option.bind_eq_some_iff.mp H
    obtain ⟨⟨t182, t183, t184, t185⟩, A60, H⟩ := H
    replace H : ((axis_Rest.f (wrap64 (-t182))).bind fun bt187 => (spykeep2_AxisMirror.l0 k 0 l0 t181 t173 t174 t175 t176 (wrap64 (-t174)) (wrap64 (-t173)) t175 t176 t182 t183 t184 t185 bt187.1 bt187.2.1 bt187.2.2.1 bt187.2.2.2)) = some r := H
    have A6 := Aside0.mk A60
    clear A60
    replace H := Option.bind_eq_some_iff.mp H
    obtain ⟨⟨t187, t188, t189, t190⟩, A70, H⟩ := H
    replace H : (spykeep2_AxisMirror.l0 k 0 l0 t181 t173 t174 t175 t176 (wrap64 (-t174)) (wrap64 (-t173)) t175 t176 t182 t183 t184 t185 t187 t188 t189 t190) = some r := H
    have A7 := Aside0.mk A70
    clear A70
    have H' := Aside0.mk H
    clear H
    go_enter Try.func6, Try.ntmps6
    go_wp2_with (first | ((with_reducible refine gate_callee (f := 22) rfl ?_); refine goesL_ (some 9) rfl rfl Try.func22 (by kernel_rfl) rfl #[] rfl (by (try simp only [List.map_toArray, List.map_cons, List.map_nil]); first | done | rfl | (simp only [List.length_drop, List.length_take]; rfl)) ?_; (with_reducible refine (spykeep2_goes.calls k  true _ A2.out).mono ?_); rintro e w8 ⟨rfl, hb⟩; refine ⟨_, rfl, ?_⟩; have n0_ := Aside0.mk (below_step (by repeat (first | (with_reducible first | exact HB.out | apply below_alloc | apply pw_below_drewN | apply below_drew1) | exact HB.out)) hb); clear HB; have HB := n0_; clear n0_; (try clear hb); (try clear hb2); (try clear hk); (try clear hi)) | ((with_reducible refine gate_dst (N := 13) rfl ?_); refine box_event ?hg (N := 13) ?hd (cs := #[.slice A0 l0.length c0, .int .i64 0]) (t := 26) ?hr ?_; (case hd => rfl); (case hg => rfl); (case hr => first | (go_simp; done) | (go_simp; rfl)); intro gb172 hg w9 hbox hb; have n0_ := Aside0.mk (below_step (by repeat (first | (with_reducible first | exact HB.out | apply below_alloc | apply pw_below_drewN | apply below_drew1) | exact HB.out)) hb); have n1_ := Aside0.mk ((by rw [hg]; exact (below_size (by repeat (first | (with_reducible first | exact HB.out | apply below_alloc | apply pw_below_drewN | apply below_drew1) | exact HB.out))) : w.heap.size ≤ gb172)); have n2_ := Aside0.mk ((by rw [hg]; exact (below_size (by repeat (first | (with_reducible first | exact HB.out | apply below_alloc | apply pw_below_drewN | apply below_drew1) | exact HB.out))) : w.heap.size ≤ gb172)); have n3_ := Aside0.mk ((show IsS26 w w9 gb172 l0 0 from ⟨_, _, hbox, (by rw [hg]; exact (below_size (by repeat (first | (with_reducible first | exact HB.out | apply below_alloc | apply pw_below_drewN | apply below_drew1) | exact HB.out))) : w.heap.size ≤ gb172), HR0.out⟩)); clear HB; have HB := n0_; have GW172 := n1_; have GE172 := n2_; have HI172 := n3_; clear n0_ n1_ n2_ n3_; clear hb hbox hg) | ((with_reducible refine gate_callee (f := 12) rfl ?_); refine goesL_ (some 15) rfl rfl Try.func12 (by kernel_rfl) rfl #[.pointer (some ⟨gb172, 0, none⟩)] rfl (by (try simp only [List.map_toArray, List.map_cons, List.map_nil]); first | done | rfl | (simp only [List.length_drop, List.length_take]; rfl)) ?_; (with_reducible refine (spymake_Stream_Axis.calls k gb172 l0 0 t173 t174 t175 t176 t177 w _ ?side1 ?side2 A4.out).mono ?_); (case side1 => repeat (first | (with_reducible first | exact HI172.out | apply IsS26.alloc | apply IsS26.drewN | apply IsS26.drew | apply IsS26.set_1) | exact HI172.out)); (case side2 => repeat (first | (with_reducible first | exact HB.out | apply below_alloc | apply pw_below_drewN | apply below_drew1 | refine below_set ?_ (IsS26.ge HI172.out)) | exact HB.out)); rintro e w10 ⟨rfl, hi, hb, hk⟩; refine ⟨_, rfl, ?_⟩; have n0_ := Aside0.mk (hb); have n1_ := Aside0.mk (hi); clear HB; clear HI172; have HB := n0_; have HI172 := n1_; clear n0_ n1_; (try clear hb); (try clear hb2); (try clear hk); (try clear hi)) | ((with_reducible refine gate_dst (N := 4) rfl ?_); refine box_event ?hg (N := 4) ?hd (cs := #[.int .i64 0, .int .i64 0, .int .i64 0, .int .i64 0]) (t := 28) ?hr ?_; (case hd => rfl); (case hg => rfl); (case hr => first | (go_simp; done) | (go_simp; rfl)); intro gb178 hg w11 hbox hb; have n0_ := Aside0.mk (IsS26.below (by repeat (first | (with_reducible first | exact HI172.out | apply IsS26.alloc | apply IsS26.drewN | apply IsS26.drew | apply IsS26.set_1) | exact HI172.out)) hb); have n1_ := Aside0.mk (below_step (by repeat (first | (with_reducible first | exact HB.out | apply below_alloc | apply pw_below_drewN | apply below_drew1 | refine below_set ?_ (IsS26.ge HI172.out)) | exact HB.out)) hb); have n2_ := Aside0.mk (hbox); have n3_ := Aside0.mk ((by rw [hg]; exact (below_size (by repeat (first | (with_reducible first | exact HB.out | apply below_alloc | apply pw_below_drewN | apply below_drew1 | refine below_set ?_ (IsS26.ge HI172.out)) | exact HB.out))) : w.heap.size ≤ gb178)); have n4_ := Aside0.mk ((by rw [hg]; exact (below_size (by repeat (first | (with_reducible first | exact HB.out | apply below_alloc | apply pw_below_drewN | apply below_drew1 | refine below_set ?_ (IsS26.ge HI172.out)) | exact HB.out))) : w.heap.size ≤ gb178)); have n5_ := Aside0.mk ((by rw [hg]; exact Nat.ne_of_lt (IsS26.lt (show IsS26 w _ gb172 l0 t177 from by repeat (first | (with_reducible first | exact HI172.out | apply IsS26.alloc | apply IsS26.drewN | apply IsS26.drew | apply IsS26.set_1) | exact HI172.out))) : gb172 ≠ gb178)); have n6_ := Aside0.mk ((by rw [hg]; exact Nat.ne_of_gt (IsS26.lt (show IsS26 w _ gb172 l0 t177 from by repeat (first | (with_reducible first | exact HI172.out | apply IsS26.alloc | apply IsS26.drewN | apply IsS26.drew | apply IsS26.set_1) | exact HI172.out))) : gb178 ≠ gb172)); clear HI172; clear HB; have HI172 := n0_; have HB := n1_; have BK178 := n2_; have GW178 := n3_; have GE178 := n4_; have NB172_178 := n5_; have NB178_172 := n6_; clear n0_ n1_ n2_ n3_ n4_ n5_ n6_; clear hb hbox hg; have hnb12 := NB178_172.out; have hnc12 := NB172_178.out; have hcz13_0 : w11.cell? ⟨gb178, 0, none⟩ = some (.int .i64 0) := (blk_cell BK178.out 0).trans rfl; have hcz13_1 : w11.cell? ⟨gb178, 1, none⟩ = some (.int .i64 0) := (blk_cell BK178.out 1).trans rfl; have hcz13_2 : w11.cell? ⟨gb178, 2, none⟩ = some (.int .i64 0) := (blk_cell BK178.out 2).trans rfl; have hcz13_3 : w11.cell? ⟨gb178, 3, none⟩ = some (.int .i64 0) := (blk_cell BK178.out 3).trans rfl; have hfz13_0 := blk_frozen BK178.out 0; have hfz13_1 := blk_frozen BK178.out 1; have hfz13_2 := blk_frozen BK178.out 2; have hfz13_3 := blk_frozen BK178.out 3) | ((with_reducible refine gate_store (t := 28) (p := 4) rfl ?_); refine store_event (t := 28) (p := 4) (v := ?vo_w14) (w1 := ((((w11.setCell ⟨gb178, 0, none⟩ (.int .i64 t173)).setCell ⟨gb178, 1, none⟩ (.int .i64 t174)).setCell ⟨gb178, 2, none⟩ (.int .i64 t175)).setCell ⟨gb178, 3, none⟩ (.int .i64 t176))) ?hg ?ho ?hn ?hr ?_; (case ho => rfl); (case hg => rfl); (case hn => rfl); (case hr => first | (go_simp; done) | (go_simp; rfl)); intro w14 hw; have n0_ : Aside0 (w14.heap[gb178]? = some (.cells #[.int .i64 t173, .int .i64 t174, .int .i64 t175, .int .i64 t176] 28 (0, 0))) := ⟨(by rw [hw]; exact (by (with_reducible repeat (first | refine blk_drewN ?_ _ | refine blk_drew ?_ | refine blk_alloc ?_ _)); refine blk_put (cs := #[.int .i64 t173, .int .i64 t174, .int .i64 t175, .int .i64 0]) ?_ 3 _ rfl; (with_reducible repeat (first | refine blk_drewN ?_ _ | refine blk_drew ?_ | refine blk_alloc ?_ _)); refine blk_put (cs := #[.int .i64 t173, .int .i64 t174, .int .i64 0, .int .i64 0]) ?_ 2 _ rfl; (with_reducible repeat (first | refine blk_drewN ?_ _ | refine blk_drew ?_ | refine blk_alloc ?_ _)); refine blk_put (cs := #[.int .i64 t173, .int .i64 0, .int .i64 0, .int .i64 0]) ?_ 1 _ rfl; (with_reducible repeat (first | refine blk_drewN ?_ _ | refine blk_drew ?_ | refine blk_alloc ?_ _)); refine blk_put (cs := #[.int .i64 0, .int .i64 0, .int .i64 0, .int .i64 0]) ?_ 0 _ rfl; (with_reducible repeat (first | refine blk_drewN ?_ _ | refine blk_drew ?_ | refine blk_alloc ?_ _)); exact BK178.out))⟩; have n1_ : Aside0 (IsS26 w w14 gb172 l0 t177) := ⟨(by rw [hw]; exact (by repeat (first | (with_reducible first | exact HI172.out | apply IsS26.alloc | apply IsS26.drewN | apply IsS26.drew | apply IsS26.set_1 | refine IsS26.far ?_ NB172_178.out _) | exact HI172.out)))⟩; have n2_ : Aside0 (Below w.heap.size w w14) := ⟨(by rw [hw]; exact (by repeat (first | (with_reducible first | exact HB.out | apply below_alloc | apply pw_below_drewN | apply below_drew1 | refine below_set ?_ (IsS26.ge HI172.out) | refine below_set ?_ GE178.out) | exact HB.out)))⟩; clear hw; clear BK178; clear HI172; clear HB; have BK178 := n0_; have HI172 := n1_; have HB := n2_; clear n0_ n1_ n2_; have hcz15_0 : w14.cell? ⟨gb178, 0, none⟩ = some (.int .i64 t173) := (blk_cell BK178.out 0).trans rfl; have hcz15_1 : w14.cell? ⟨gb178, 1, none⟩ = some (.int .i64 t174) := (blk_cell BK178.out 1).trans rfl; have hcz15_2 : w14.cell? ⟨gb178, 2, none⟩ = some (.int .i64 t175) := (blk_cell BK178.out 2).trans rfl; have hcz15_3 : w14.cell? ⟨gb178, 3, none⟩ = some (.int .i64 t176) := (blk_cell BK178.out 3).trans rfl; have hfz15_0 := blk_frozen BK178.out 0; have hfz15_1 := blk_frozen BK178.out 1; have hfz15_2 := blk_frozen BK178.out 2; have hfz15_3 := blk_frozen BK178.out 3) | ((with_reducible refine gate_dst (N := 5) rfl ?_); refine box_event ?hg (N := 5) ?hd (cs := #[.int .i64 0, .int .i64 0, .int .i64 0, .int .i64 0]) (t := 28) ?hr ?_; (case hd => rfl); (case hg => rfl); (case hr => first | (go_simp; done) | (go_simp; rfl)); intro gb179 hg w16 hbox hb; have n0_ := Aside0.mk (IsS26.below (by repeat (first | (with_reducible first | exact HI172.out | apply IsS26.alloc | apply IsS26.drewN | apply IsS26.drew | apply IsS26.set_1 | refine IsS26.far ?_ NB172_178.out _) | exact HI172.out)) hb); have n1_ := Aside0.mk (blk_below (g := gb178) (o := .cells #[.int .i64 t173, .int .i64 t174, .int .i64 t175, .int .i64 t176] 28 (0, 0)) (by (with_reducible repeat (first | refine blk_drewN ?_ _ | refine blk_drew ?_ | refine blk_alloc ?_ _)); exact BK178.out) hb); have n2_ := Aside0.mk (below_step (by repeat (first | (with_reducible first | exact HB.out | apply below_alloc | apply pw_below_drewN | apply below_drew1 | refine below_set ?_ (IsS26.ge HI172.out) | refine below_set ?_ GE178.out) | exact HB.out)) hb); have n3_ := Aside0.mk (hbox); have n4_ := Aside0.mk ((by rw [hg]; exact (below_size (by repeat (first | (with_reducible first | exact HB.out | apply below_alloc | apply pw_below_drewN | apply below_drew1 | refine below_set ?_ (IsS26.ge HI172.out) | refine below_set ?_ GE178.out) | exact HB.out))) : w.heap.size ≤ gb179)); have n5_ := Aside0.mk ((by rw [hg]; exact (below_size (by repeat (first | (with_reducible first | exact HB.out | apply below_alloc | apply pw_below_drewN | apply below_drew1 | refine below_set ?_ (IsS26.ge HI172.out) | refine below_set ?_ GE178.out) | exact HB.out))) : w.heap.size ≤ gb179)); have n6_ := Aside0.mk ((by rw [hg]; exact Nat.ne_of_lt (blk_lt (g := gb178) (o := .cells #[.int .i64 t173, .int .i64 t174, .int .i64 t175, .int .i64 t176] 28 (0, 0)) (by (with_reducible repeat (first | refine blk_drewN ?_ _ | refine blk_drew ?_ | refine blk_alloc ?_ _)); exact BK178.out)) : gb178 ≠ gb179)); have n7_ := Aside0.mk ((by rw [hg]; exact Nat.ne_of_gt (blk_lt (g := gb178) (o := .cells #[.int .i64 t173, .int .i64 t174, .int .i64 t175, .int .i64 t176] 28 (0, 0)) (by (with_reducible repeat (first | refine blk_drewN ?_ _ | refine blk_drew ?_ | refine blk_alloc ?_ _)); exact BK178.out)) : gb179 ≠ gb178)); have n8_ := Aside0.mk ((by rw [hg]; exact Nat.ne_of_lt (IsS26.lt (show IsS26 w _ gb172 l0 t177 from by repeat (first | (with_reducible first | exact HI172.out | apply IsS26.alloc | apply IsS26.drewN | apply IsS26.drew | apply IsS26.set_1 | refine IsS26.far ?_ NB172_178.out _) | exact HI172.out))) : gb172 ≠ gb179)); have n9_ := Aside0.mk ((by rw [hg]; exact Nat.ne_of_gt (IsS26.lt (show IsS26 w _ gb172 l0 t177 from by repeat (first | (with_reducible first | exact HI172.out | apply IsS26.alloc | apply IsS26.drewN | apply IsS26.drew | apply IsS26.set_1 | refine IsS26.far ?_ NB172_178.out _) | exact HI172.out))) : gb179 ≠ gb172)); clear HI172; clear BK178; clear HB; have HI172 := n0_; have BK178 := n1_; have HB := n2_; have BK179 := n3_; have GW179 := n4_; have GE179 := n5_; have NB178_179 := n6_; have NB179_178 := n7_; have NB172_179 := n8_; have NB179_172 := n9_; clear n0_ n1_ n2_ n3_ n4_ n5_ n6_ n7_ n8_ n9_; clear hb hbox hg; have hnb17 := NB179_178.out; have hnc17 := NB178_179.out; have hnb18 := NB179_172.out; have hnc18 := NB172_179.out; have hcz19_0 : w16.cell? ⟨gb179, 0, none⟩ = some (.int .i64 0) := (blk_cell BK179.out 0).trans rfl; have hcz19_1 : w16.cell? ⟨gb179, 1, none⟩ = some (.int .i64 0) := (blk_cell BK179.out 1).trans rfl; have hcz19_2 : w16.cell? ⟨gb179, 2, none⟩ = some (.int .i64 0) := (blk_cell BK179.out 2).trans rfl; have hcz19_3 : w16.cell? ⟨gb179, 3, none⟩ = some (.int .i64 0) := (blk_cell BK179.out 3).trans rfl; have hfz19_0 := blk_frozen BK179.out 0; have hfz19_1 := blk_frozen BK179.out 1; have hfz19_2 := blk_frozen BK179.out 2; have hfz19_3 := blk_frozen BK179.out 3) | ((with_reducible refine gate_store (t := 28) (p := 5) rfl ?_); refine store_event (t := 28) (p := 5) (v := ?vo_w20) (w1 := ((((w16.setCell ⟨gb179, 0, none⟩ (.int .i64 (wrap64 (-t174)))).setCell ⟨gb179, 1, none⟩ (.int .i64 (wrap64 (-t173)))).setCell ⟨gb179, 2, none⟩ (.int .i64 t175)).setCell ⟨gb179, 3, none⟩ (.int .i64 t176))) ?hg ?ho ?hn ?hr ?_; (case ho => rfl); (case hg => rfl); (case hn => rfl); (case hr => first | (go_simp; done) | (go_simp; rfl)); intro w20 hw; have n0_ : Aside0 (w20.heap[gb178]? = some (.cells #[.int .i64 t173, .int .i64 t174, .int .i64 t175, .int .i64 t176] 28 (0, 0))) := ⟨(by rw [hw]; exact (by (with_reducible repeat (first | refine blk_drewN ?_ _ | refine blk_drew ?_ | refine blk_alloc ?_ _)); refine blk_far ?_ NB178_179.out _; (with_reducible repeat (first | refine blk_drewN ?_ _ | refine blk_drew ?_ | refine blk_alloc ?_ _)); refine blk_far ?_ NB178_179.out _; (with_reducible repeat (first | refine blk_drewN ?_ _ | refine blk_drew ?_ | refine blk_alloc ?_ _)); refine blk_far ?_ NB178_179.out _; (with_reducible repeat (first | refine blk_drewN ?_ _ | refine blk_drew ?_ | refine blk_alloc ?_ _)); refine blk_far ?_ NB178_179.out _; (with_reducible repeat (first | refine blk_drewN ?_ _ | refine blk_drew ?_ | refine blk_alloc ?_ _)); exact BK178.out))⟩; have n1_ : Aside0 (w20.heap[gb179]? = some (.cells #[.int .i64 (wrap64 (-t174)), .int .i64 (wrap64 (-t173)), .int .i64 t175, .int .i64 t176] 28 (0, 0))) := ⟨(by rw [hw]; exact (by (with_reducible repeat (first | refine blk_drewN ?_ _ | refine blk_drew ?_ | refine blk_alloc ?_ _)); refine blk_put (cs := #[.int .i64 (wrap64 (-t174)), .int .i64 (wrap64 (-t173)), .int .i64 t175, .int .i64 0]) ?_ 3 _ rfl; (with_reducible repeat (first | refine blk_drewN ?_ _ | refine blk_drew ?_ | refine blk_alloc ?_ _)); refine blk_put (cs := #[.int .i64 (wrap64 (-t174)), .int .i64 (wrap64 (-t173)), .int .i64 0, .int .i64 0]) ?_ 2 _ rfl; (with_reducible repeat (first | refine blk_drewN ?_ _ | refine blk_drew ?_ | refine blk_alloc ?_ _)); refine blk_put (cs := #[.int .i64 (wrap64 (-t174)), .int .i64 0, .int .i64 0, .int .i64 0]) ?_ 1 _ rfl; (with_reducible repeat (first | refine blk_drewN ?_ _ | refine blk_drew ?_ | refine blk_alloc ?_ _)); refine blk_put (cs := #[.int .i64 0, .int .i64 0, .int .i64 0, .int .i64 0]) ?_ 0 _ rfl; (with_reducible repeat (first | refine blk_drewN ?_ _ | refine blk_drew ?_ | refine blk_alloc ?_ _)); exact BK179.out))⟩; have n2_ : Aside0 (IsS26 w w20 gb172 l0 t177) := ⟨(by rw [hw]; exact (by repeat (first | (with_reducible first | exact HI172.out | apply IsS26.alloc | apply IsS26.drewN | apply IsS26.drew | apply IsS26.set_1 | refine IsS26.far ?_ NB172_178.out _ | refine IsS26.far ?_ NB172_179.out _) | exact HI172.out)))⟩; have n3_ : Aside0 (Below w.heap.size w w20) := ⟨(by rw [hw]; exact (by repeat (first | (with_reducible first | exact HB.out | apply below_alloc | apply pw_below_drewN | apply below_drew1 | refine below_set ?_ (IsS26.ge HI172.out) | refine below_set ?_ GE178.out | refine below_set ?_ GE179.out) | exact HB.out)))⟩; clear hw; clear BK178; clear BK179; clear HI172; clear HB; have BK178 := n0_; have BK179 := n1_; have HI172 := n2_; have HB := n3_; clear n0_ n1_ n2_ n3_; have hcz21_0 : w20.cell? ⟨gb178, 0, none⟩ = some (.int .i64 t173) := (blk_cell BK178.out 0).trans rfl; have hcz21_1 : w20.cell? ⟨gb178, 1, none⟩ = some (.int .i64 t174) := (blk_cell BK178.out 1).trans rfl; have hcz21_2 : w20.cell? ⟨gb178, 2, none⟩ = some (.int .i64 t175) := (blk_cell BK178.out 2).trans rfl; have hcz21_3 : w20.cell? ⟨gb178, 3, none⟩ = some (.int .i64 t176) := (blk_cell BK178.out 3).trans rfl; have hfz21_0 := blk_frozen BK178.out 0; have hfz21_1 := blk_frozen BK178.out 1; have hfz21_2 := blk_frozen BK178.out 2; have hfz21_3 := blk_frozen BK178.out 3) | ((with_reducible refine gate_callee (f := 13) rfl ?_); refine goesL_ (some 29) rfl rfl Try.func13 (by kernel_rfl) rfl #[.pointer (some ⟨gb172, 0, none⟩), .agg #[.int .i64 t173, .int .i64 t174, .int .i64 t175, .int .i64 t176]] rfl (by (try simp only [List.map_toArray, List.map_cons, List.map_nil]); first | done | rfl | (simp only [List.length_drop, List.length_take]; rfl)) ?_; (with_reducible refine (spymake_Stream_Inside.calls gb172 l0 t177 t173 t174 t175 t176 t180 t181 w _ ?side1 ?side2 A5.out).mono ?_); (case side1 => repeat (first | (with_reducible first | exact HI172.out | apply IsS26.alloc | apply IsS26.drewN | apply IsS26.drew | apply IsS26.set_1 | refine IsS26.far ?_ NB172_178.out _ | refine IsS26.far ?_ NB172_179.out _) | exact HI172.out)); (case side2 => repeat (first | (with_reducible first | exact HB.out | apply below_alloc | apply pw_below_drewN | apply below_drew1 | refine below_set ?_ (IsS26.ge HI172.out) | refine below_set ?_ GE178.out | refine below_set ?_ GE179.out) | exact HB.out)); rintro e w22 ⟨rfl, hi, hb, hk⟩; refine ⟨_, rfl, ?_⟩; have n0_ := Aside0.mk (KeepBut.blk hk (g' := gb178) (o := .cells #[.int .i64 t173, .int .i64 t174, .int .i64 t175, .int .i64 t176] 28 (0, 0)) (by (with_reducible repeat (first | refine blk_drewN ?_ _ | refine blk_drew ?_ | refine blk_alloc ?_ _)); exact BK178.out) NB178_172.out (by simp)); have n1_ := Aside0.mk (KeepBut.blk hk (g' := gb179) (o := .cells #[.int .i64 (wrap64 (-t174)), .int .i64 (wrap64 (-t173)), .int .i64 t175, .int .i64 t176] 28 (0, 0)) (by (with_reducible repeat (first | refine blk_drewN ?_ _ | refine blk_drew ?_ | refine blk_alloc ?_ _)); exact BK179.out) NB179_172.out (by simp)); have n2_ := Aside0.mk (hb); have n3_ := Aside0.mk (hi); clear BK178; clear BK179; clear HB; clear HI172; have BK178 := n0_; have BK179 := n1_; have HB := n2_; have HI172 := n3_; clear n0_ n1_ n2_ n3_; (try clear hb); (try clear hb2); (try clear hk); (try clear hi)) | ((with_reducible refine gate_callee (f := 23) rfl ?_); refine goesL_ (some 30) rfl rfl Try.func23 (by kernel_rfl) rfl #[.int .i64 t180] rfl (by (try simp only [List.map_toArray, List.map_cons, List.map_nil]); first | done | rfl | (simp only [List.length_drop, List.length_take]; rfl)) ?_; (with_reducible refine (axis_Rest.calls t180 t182 t183 t184 t185 _ A6.out).mono ?_); rintro e w23 ⟨rfl, hb⟩; refine ⟨_, rfl, ?_⟩; have n0_ := Aside0.mk (IsS26.below (by repeat (first | (with_reducible first | exact HI172.out | apply IsS26.alloc | apply IsS26.drewN | apply IsS26.drew | apply IsS26.set_1 | refine IsS26.far ?_ NB172_178.out _ | refine IsS26.far ?_ NB172_179.out _) | exact HI172.out)) hb); have n1_ := Aside0.mk (blk_below (g := gb178) (o := .cells #[.int .i64 t173, .int .i64 t174, .int .i64 t175, .int .i64 t176] 28 (0, 0)) (by (with_reducible repeat (first | refine blk_drewN ?_ _ | refine blk_drew ?_ | refine blk_alloc ?_ _)); exact BK178.out) hb); have n2_ := Aside0.mk (blk_below (g := gb179) (o := .cells #[.int .i64 (wrap64 (-t174)), .int .i64 (wrap64 (-t173)), .int .i64 t175, .int .i64 t176] 28 (0, 0)) (by (with_reducible repeat (first | refine blk_drewN ?_ _ | refine blk_drew ?_ | refine blk_alloc ?_ _)); exact BK179.out) hb); have n3_ := Aside0.mk (below_step (by repeat (first | (with_reducible first | exact HB.out | apply below_alloc | apply pw_below_drewN | apply below_drew1 | refine below_set ?_ (IsS26.ge HI172.out) | refine below_set ?_ GE178.out | refine below_set ?_ GE179.out) | exact HB.out)) hb); clear HI172; clear BK178; clear BK179; clear HB; have HI172 := n0_; have BK178 := n1_; have BK179 := n2_; have HB := n3_; clear n0_ n1_ n2_ n3_; (try clear hb); (try clear hb2); (try clear hk); (try clear hi)) | ((with_reducible refine gate_dst (N := 6) rfl ?_); refine box_event ?hg (N := 6) ?hd (cs := #[.int .i64 0, .int .i64 0, .int .i64 0, .bool false]) (t := 45) ?hr ?_; (case hd => rfl); (case hg => rfl); (case hr => first | (go_simp; done) | (go_simp; rfl)); intro gb186 hg w24 hbox hb; have n0_ := Aside0.mk (IsS26.below (by repeat (first | (with_reducible first | exact HI172.out | apply IsS26.alloc | apply IsS26.drewN | apply IsS26.drew | apply IsS26.set_1 | refine IsS26.far ?_ NB172_178.out _ | refine IsS26.far ?_ NB172_179.out _) | exact HI172.out)) hb); have n1_ := Aside0.mk (blk_below (g := gb178) (o := .cells #[.int .i64 t173, .int .i64 t174, .int .i64 t175, .int .i64 t176] 28 (0, 0)) (by (with_reducible repeat (first | refine blk_drewN ?_ _ | refine blk_drew ?_ | refine blk_alloc ?_ _)); exact BK178.out) hb); have n2_ := Aside0.mk (blk_below (g := gb179) (o := .cells #[.int .i64 (wrap64 (-t174)), .int .i64 (wrap64 (-t173)), .int .i64 t175, .int .i64 t176] 28 (0, 0)) (by (with_reducible repeat (first | refine blk_drewN ?_ _ | refine blk_drew ?_ | refine blk_alloc ?_ _)); exact BK179.out) hb); have n3_ := Aside0.mk (below_step (by repeat (first | (with_reducible first | exact HB.out | apply below_alloc | apply pw_below_drewN | apply below_drew1 | refine below_set ?_ (IsS26.ge HI172.out) | refine below_set ?_ GE178.out | refine below_set ?_ GE179.out) | exact HB.out)) hb); have n4_ := Aside0.mk (hbox); have n5_ := Aside0.mk ((by rw [hg]; exact (below_size (by repeat (first | (with_reducible first | exact HB.out | apply below_alloc | apply pw_below_drewN | apply below_drew1 | refine below_set ?_ (IsS26.ge HI172.out) | refine below_set ?_ GE178.out | refine below_set ?_ GE179.out) | exact HB.out))) : w.heap.size ≤ gb186)); have n6_ := Aside0.mk ((by rw [hg]; exact (below_size (by repeat (first | (with_reducible first | exact HB.out | apply below_alloc | apply pw_below_drewN | apply below_drew1 | refine below_set ?_ (IsS26.ge HI172.out) | refine below_set ?_ GE178.out | refine below_set ?_ GE179.out) | exact HB.out))) : w.heap.size ≤ gb186)); have n7_ := Aside0.mk ((by rw [hg]; exact Nat.ne_of_lt (blk_lt (g := gb178) (o := .cells #[.int .i64 t173, .int .i64 t174, .int .i64 t175, .int .i64 t176] 28 (0, 0)) (by (with_reducible repeat (first | refine blk_drewN ?_ _ | refine blk_drew ?_ | refine blk_alloc ?_ _)); exact BK178.out)) : gb178 ≠ gb186)); have n8_ := Aside0.mk ((by rw [hg]; exact Nat.ne_of_gt (blk_lt (g := gb178) (o := .cells #[.int .i64 t173, .int .i64 t174, .int .i64 t175, .int .i64 t176] 28 (0, 0)) (by (with_reducible repeat (first | refine blk_drewN ?_ _ | refine blk_drew ?_ | refine blk_alloc ?_ _)); exact BK178.out)) : gb186 ≠ gb178)); have n9_ := Aside0.mk ((by rw [hg]; exact Nat.ne_of_lt (blk_lt (g := gb179) (o := .cells #[.int .i64 (wrap64 (-t174)), .int .i64 (wrap64 (-t173)), .int .i64 t175, .int .i64 t176] 28 (0, 0)) (by (with_reducible repeat (first | refine blk_drewN ?_ _ | refine blk_drew ?_ | refine blk_alloc ?_ _)); exact BK179.out)) : gb179 ≠ gb186)); have n10_ := Aside0.mk ((by rw [hg]; exact Nat.ne_of_gt (blk_lt (g := gb179) (o := .cells #[.int .i64 (wrap64 (-t174)), .int .i64 (wrap64 (-t173)), .int .i64 t175, .int .i64 t176] 28 (0, 0)) (by (with_reducible repeat (first | refine blk_drewN ?_ _ | refine blk_drew ?_ | refine blk_alloc ?_ _)); exact BK179.out)) : gb186 ≠ gb179)); have n11_ := Aside0.mk ((by rw [hg]; exact Nat.ne_of_lt (IsS26.lt (show IsS26 w _ gb172 l0 t181 from by repeat (first | (with_reducible first | exact HI172.out | apply IsS26.alloc | apply IsS26.drewN | apply IsS26.drew | apply IsS26.set_1 | refine IsS26.far ?_ NB172_178.out _ | refine IsS26.far ?_ NB172_179.out _) | exact HI172.out))) : gb172 ≠ gb186)); have n12_ := Aside0.mk ((by rw [hg]; exact Nat.ne_of_gt (IsS26.lt (show IsS26 w _ gb172 l0 t181 from by repeat (first | (with_reducible first | exact HI172.out | apply IsS26.alloc | apply IsS26.drewN | apply IsS26.drew | apply IsS26.set_1 | refine IsS26.far ?_ NB172_178.out _ | refine IsS26.far ?_ NB172_179.out _) | exact HI172.out))) : gb186 ≠ gb172)); clear HI172; clear BK178; clear BK179; clear HB; have HI172 := n0_; have BK178 := n1_; have BK179 := n2_; have HB := n3_; have BK186 := n4_; have GW186 := n5_; have GE186 := n6_; have NB178_186 := n7_; have NB186_178 := n8_; have NB179_186 := n9_; have NB186_179 := n10_; have NB172_186 := n11_; have NB186_172 := n12_; clear n0_ n1_ n2_ n3_ n4_ n5_ n6_ n7_ n8_ n9_ n10_ n11_ n12_; clear hb hbox hg; have hnb25 := NB186_178.out; have hnc25 := NB178_186.out; have hnb26 := NB186_179.out; have hnc26 := NB179_186.out; have hnb27 := NB186_172.out; have hnc27 := NB172_186.out; have hcz28_0 : w24.cell? ⟨gb186, 0, none⟩ = some (.int .i64 0) := (blk_cell BK186.out 0).trans rfl; have hcz28_1 : w24.cell? ⟨gb186, 1, none⟩ = some (.int .i64 0) := (blk_cell BK186.out 1).trans rfl; have hcz28_2 : w24.cell? ⟨gb186, 2, none⟩ = some (.int .i64 0) := (blk_cell BK186.out 2).trans rfl; have hcz28_3 : w24.cell? ⟨gb186, 3, none⟩ = some (.bool false) := (blk_cell BK186.out 3).trans rfl; have hfz28_0 := blk_frozen BK186.out 0; have hfz28_1 := blk_frozen BK186.out 1; have hfz28_2 := blk_frozen BK186.out 2; have hfz28_3 := blk_frozen BK186.out 3) | ((with_reducible refine gate_store (t := 45) (p := 6) rfl ?_); refine store_event (t := 45) (p := 6) (v := ?vo_w29) (w1 := ((((w24.setCell ⟨gb186, 0, none⟩ (.int .i64 t182)).setCell ⟨gb186, 1, none⟩ (.int .i64 t183)).setCell ⟨gb186, 2, none⟩ (.int .i64 t184)).setCell ⟨gb186, 3, none⟩ (.bool t185))) ?hg ?ho ?hn ?hr ?_; (case ho => rfl); (case hg => rfl); (case hn => rfl); (case hr => first | (go_simp; done) | (go_simp; rfl)); intro w29 hw; have n0_ : Aside0 (w29.heap[gb178]? = some (.cells #[.int .i64 t173, .int .i64 t174, .int .i64 t175, .int .i64 t176] 28 (0, 0))) := ⟨(by rw [hw]; exact (by (with_reducible repeat (first | refine blk_drewN ?_ _ | refine blk_drew ?_ | refine blk_alloc ?_ _)); refine blk_far ?_ NB178_186.out _; (with_reducible repeat (first | refine blk_drewN ?_ _ | refine blk_drew ?_ | refine blk_alloc ?_ _)); refine blk_far ?_ NB178_186.out _; (with_reducible repeat (first | refine blk_drewN ?_ _ | refine blk_drew ?_ | refine blk_alloc ?_ _)); refine blk_far ?_ NB178_186.out _; (with_reducible repeat (first | refine blk_drewN ?_ _ | refine blk_drew ?_ | refine blk_alloc ?_ _)); refine blk_far ?_ NB178_186.out _; (with_reducible repeat (first | refine blk_drewN ?_ _ | refine blk_drew ?_ | refine blk_alloc ?_ _)); exact BK178.out))⟩; have n1_ : Aside0 (w29.heap[gb179]? = some (.cells #[.int .i64 (wrap64 (-t174)), .int .i64 (wrap64 (-t173)), .int .i64 t175, .int .i64 t176] 28 (0, 0))) := ⟨(by rw [hw]; exact (by (with_reducible repeat (first | refine blk_drewN ?_ _ | refine blk_drew ?_ | refine blk_alloc ?_ _)); refine blk_far ?_ NB179_186.out _; (with_reducible repeat (first | refine blk_drewN ?_ _ | refine blk_drew ?_ | refine blk_alloc ?_ _)); refine blk_far ?_ NB179_186.out _; (with_reducible repeat (first | refine blk_drewN ?_ _ | refine blk_drew ?_ | refine blk_alloc ?_ _)); refine blk_far ?_ NB179_186.out _; (with_reducible repeat (first | refine blk_drewN ?_ _ | refine blk_drew ?_ | refine blk_alloc ?_ _)); refine blk_far ?_ NB179_186.out _; (with_reducible repeat (first | refine blk_drewN ?_ _ | refine blk_drew ?_ | refine blk_alloc ?_ _)); exact BK179.out))⟩; have n2_ : Aside0 (w29.heap[gb186]? = some (.cells #[.int .i64 t182, .int .i64 t183, .int .i64 t184, .bool t185] 45 (0, 0))) := ⟨(by rw [hw]; exact (by (with_reducible repeat (first | refine blk_drewN ?_ _ | refine blk_drew ?_ | refine blk_alloc ?_ _)); refine blk_put (cs := #[.int .i64 t182, .int .i64 t183, .int .i64 t184, .bool false]) ?_ 3 _ rfl; (with_reducible repeat (first | refine blk_drewN ?_ _ | refine blk_drew ?_ | refine blk_alloc ?_ _)); refine blk_put (cs := #[.int .i64 t182, .int .i64 t183, .int .i64 0, .bool false]) ?_ 2 _ rfl; (with_reducible repeat (first | refine blk_drewN ?_ _ | refine blk_drew ?_ | refine blk_alloc ?_ _)); refine blk_put (cs := #[.int .i64 t182, .int .i64 0, .int .i64 0, .bool false]) ?_ 1 _ rfl; (with_reducible repeat (first | refine blk_drewN ?_ _ | refine blk_drew ?_ | refine blk_alloc ?_ _)); refine blk_put (cs := #[.int .i64 0, .int .i64 0, .int .i64 0, .bool false]) ?_ 0 _ rfl; (with_reducible repeat (first | refine blk_drewN ?_ _ | refine blk_drew ?_ | refine blk_alloc ?_ _)); exact BK186.out))⟩; have n3_ : Aside0 (IsS26 w w29 gb172 l0 t181) := ⟨(by rw [hw]; exact (by repeat (first | (with_reducible first | exact HI172.out | apply IsS26.alloc | apply IsS26.drewN | apply IsS26.drew | apply IsS26.set_1 | refine IsS26.far ?_ NB172_178.out _ | refine IsS26.far ?_ NB172_179.out _ | refine IsS26.far ?_ NB172_186.out _) | exact HI172.out)))⟩; have n4_ : Aside0 (Below w.heap.size w w29) := ⟨(by rw [hw]; exact (by repeat (first | (with_reducible first | exact HB.out | apply below_alloc | apply pw_below_drewN | apply below_drew1 | refine below_set ?_ (IsS26.ge HI172.out) | refine below_set ?_ GE178.out | refine below_set ?_ GE179.out | refine below_set ?_ GE186.out) | exact HB.out)))⟩; clear hw; clear BK178; clear BK179; clear BK186; clear HI172; clear HB; have BK178 := n0_; have BK179 := n1_; have BK186 := n2_; have HI172 := n3_; have HB := n4_; clear n0_ n1_ n2_ n3_ n4_; have hcz30_0 : w29.cell? ⟨gb186, 0, none⟩ = some (.int .i64 t182) := (blk_cell BK186.out 0).trans rfl; have hcz30_1 : w29.cell? ⟨gb186, 1, none⟩ = some (.int .i64 t183) := (blk_cell BK186.out 1).trans rfl; have hcz30_2 : w29.cell? ⟨gb186, 2, none⟩ = some (.int .i64 t184) := (blk_cell BK186.out 2).trans rfl; have hcz30_3 : w29.cell? ⟨gb186, 3, none⟩ = some (.bool t185) := (blk_cell BK186.out 3).trans rfl; have hfz30_0 := blk_frozen BK186.out 0; have hfz30_1 := blk_frozen BK186.out 1; have hfz30_2 := blk_frozen BK186.out 2; have hfz30_3 := blk_frozen BK186.out 3) | ((with_reducible refine gate_callee (f := 23) rfl ?_); refine goesL_ (some 34) rfl rfl Try.func23 (by kernel_rfl) rfl #[.int .i64 (wrap64 (-t182))] rfl (by (try simp only [List.map_toArray, List.map_cons, List.map_nil]); first | done | rfl | (simp only [List.length_drop, List.length_take]; rfl)) ?_; (with_reducible refine (axis_Rest.calls (wrap64 (-t182)) t187 t188 t189 t190 _ A7.out).mono ?_); rintro e w31 ⟨rfl, hb⟩; refine ⟨_, rfl, ?_⟩; have n0_ := Aside0.mk (IsS26.below (by repeat (first | (with_reducible first | exact HI172.out | apply IsS26.alloc | apply IsS26.drewN | apply IsS26.drew | apply IsS26.set_1 | refine IsS26.far ?_ NB172_178.out _ | refine IsS26.far ?_ NB172_179.out _ | refine IsS26.far ?_ NB172_186.out _) | exact HI172.out)) hb); have n1_ := Aside0.mk (blk_below (g := gb178) (o := .cells #[.int .i64 t173, .int .i64 t174, .int .i64 t175, .int .i64 t176] 28 (0, 0)) (by (with_reducible repeat (first | refine blk_drewN ?_ _ | refine blk_drew ?_ | refine blk_alloc ?_ _)); exact BK178.out) hb); have n2_ := Aside0.mk (blk_below (g := gb179) (o := .cells #[.int .i64 (wrap64 (-t174)), .int .i64 (wrap64 (-t173)), .int .i64 t175, .int .i64 t176] 28 (0, 0)) (by (with_reducible repeat (first | refine blk_drewN ?_ _ | refine blk_drew ?_ | refine blk_alloc ?_ _)); exact BK179.out) hb); have n3_ := Aside0.mk (blk_below (g := gb186) (o := .cells #[.int .i64 t182, .int .i64 t183, .int .i64 t184, .bool t185] 45 (0, 0)) (by (with_reducible repeat (first | refine blk_drewN ?_ _ | refine blk_drew ?_ | refine blk_alloc ?_ _)); exact BK186.out) hb); have n4_ := Aside0.mk (below_step (by repeat (first | (with_reducible first | exact HB.out | apply below_alloc | apply pw_below_drewN | apply below_drew1 | refine below_set ?_ (IsS26.ge HI172.out) | refine below_set ?_ GE178.out | refine below_set ?_ GE179.out | refine below_set ?_ GE186.out) | exact HB.out)) hb); clear HI172; clear BK178; clear BK179; clear BK186; clear HB; have HI172 := n0_; have BK178 := n1_; have BK179 := n2_; have BK186 := n3_; have HB := n4_; clear n0_ n1_ n2_ n3_ n4_; (try clear hb); (try clear hb2); (try clear hk); (try clear hi)) | ((with_reducible refine gate_dst (N := 7) rfl ?_); refine box_event ?hg (N := 7) ?hd (cs := #[.int .i64 0, .int .i64 0, .int .i64 0, .bool false]) (t := 45) ?hr ?_; (case hd => rfl); (case hg => rfl); (case hr => first | (go_simp; done) | (go_simp; rfl)); intro gb191 hg w32 hbox hb; have n0_ := Aside0.mk (IsS26.below (by repeat (first | (with_reducible first | exact HI172.out | apply IsS26.alloc | apply IsS26.drewN | apply IsS26.drew | apply IsS26.set_1 | refine IsS26.far ?_ NB172_178.out _ | refine IsS26.far ?_ NB172_179.out _ | refine IsS26.far ?_ NB172_186.out _) | exact HI172.out)) hb); have n1_ := Aside0.mk (blk_below (g := gb178) (o := .cells #[.int .i64 t173, .int .i64 t174, .int .i64 t175, .int .i64 t176] 28 (0, 0)) (by (with_reducible repeat (first | refine blk_drewN ?_ _ | refine blk_drew ?_ | refine blk_alloc ?_ _)); exact BK178.out) hb); have n2_ := Aside0.mk (blk_below (g := gb179) (o := .cells #[.int .i64 (wrap64 (-t174)), .int .i64 (wrap64 (-t173)), .int .i64 t175, .int .i64 t176] 28 (0, 0)) (by (with_reducible repeat (first | refine blk_drewN ?_ _ | refine blk_drew ?_ | refine blk_alloc ?_ _)); exact BK179.out) hb); have n3_ := Aside0.mk (blk_below (g := gb186) (o := .cells #[.int .i64 t182, .int .i64 t183, .int .i64 t184, .bool t185] 45 (0, 0)) (by (with_reducible repeat (first | refine blk_drewN ?_ _ | refine blk_drew ?_ | refine blk_alloc ?_ _)); exact BK186.out) hb); have n4_ := Aside0.mk (below_step (by repeat (first | (with_reducible first | exact HB.out | apply below_alloc | apply pw_below_drewN | apply below_drew1 | refine below_set ?_ (IsS26.ge HI172.out) | refine below_set ?_ GE178.out | refine below_set ?_ GE179.out | refine below_set ?_ GE186.out) | exact HB.out)) hb); have n5_ := Aside0.mk (hbox); have n6_ := Aside0.mk ((by rw [hg]; exact (below_size (by repeat (first | (with_reducible first | exact HB.out | apply below_alloc | apply pw_below_drewN | apply below_drew1 | refine below_set ?_ (IsS26.ge HI172.out) | refine below_set ?_ GE178.out | refine below_set ?_ GE179.out | refine below_set ?_ GE186.out) | exact HB.out))) : w.heap.size ≤ gb191)); have n7_ := Aside0.mk ((by rw [hg]; exact (below_size (by repeat (first | (with_reducible first | exact HB.out | apply below_alloc | apply pw_below_drewN | apply below_drew1 | refine below_set ?_ (IsS26.ge HI172.out) | refine below_set ?_ GE178.out | refine below_set ?_ GE179.out | refine below_set ?_ GE186.out) | exact HB.out))) : w.heap.size ≤ gb191)); have n8_ := Aside0.mk ((by rw [hg]; exact Nat.ne_of_lt (blk_lt (g := gb178) (o := .cells #[.int .i64 t173, .int .i64 t174, .int .i64 t175, .int .i64 t176] 28 (0, 0)) (by (with_reducible repeat (first | refine blk_drewN ?_ _ | refine blk_drew ?_ | refine blk_alloc ?_ _)); exact BK178.out)) : gb178 ≠ gb191)); have n9_ := Aside0.mk ((by rw [hg]; exact Nat.ne_of_gt (blk_lt (g := gb178) (o := .cells #[.int .i64 t173, .int .i64 t174, .int .i64 t175, .int .i64 t176] 28 (0, 0)) (by (with_reducible repeat (first | refine blk_drewN ?_ _ | refine blk_drew ?_ | refine blk_alloc ?_ _)); exact BK178.out)) : gb191 ≠ gb178)); have n10_ := Aside0.mk ((by rw [hg]; exact Nat.ne_of_lt (blk_lt (g := gb179) (o := .cells #[.int .i64 (wrap64 (-t174)), .int .i64 (wrap64 (-t173)), .int .i64 t175, .int .i64 t176] 28 (0, 0)) (by (with_reducible repeat (first | refine blk_drewN ?_ _ | refine blk_drew ?_ | refine blk_alloc ?_ _)); exact BK179.out)) : gb179 ≠ gb191)); have n11_ := Aside0.mk ((by rw [hg]; exact Nat.ne_of_gt (blk_lt (g := gb179) (o := .cells #[.int .i64 (wrap64 (-t174)), .int .i64 (wrap64 (-t173)), .int .i64 t175, .int .i64 t176] 28 (0, 0)) (by (with_reducible repeat (first | refine blk_drewN ?_ _ | refine blk_drew ?_ | refine blk_alloc ?_ _)); exact BK179.out)) : gb191 ≠ gb179)); have n12_ := Aside0.mk ((by rw [hg]; exact Nat.ne_of_lt (blk_lt (g := gb186) (o := .cells #[.int .i64 t182, .int .i64 t183, .int .i64 t184, .bool t185] 45 (0, 0)) (by (with_reducible repeat (first | refine blk_drewN ?_ _ | refine blk_drew ?_ | refine blk_alloc ?_ _)); exact BK186.out)) : gb186 ≠ gb191)); have n13_ := Aside0.mk ((by rw [hg]; exact Nat.ne_of_gt (blk_lt (g := gb186) (o := .cells #[.int .i64 t182, .int .i64 t183, .int .i64 t184, .bool t185] 45 (0, 0)) (by (with_reducible repeat (first | refine blk_drewN ?_ _ | refine blk_drew ?_ | refine blk_alloc ?_ _)); exact BK186.out)) : gb191 ≠ gb186)); have n14_ := Aside0.mk ((by rw [hg]; exact Nat.ne_of_lt (IsS26.lt (show IsS26 w _ gb172 l0 t181 from by repeat (first | (with_reducible first | exact HI172.out | apply IsS26.alloc | apply IsS26.drewN | apply IsS26.drew | apply IsS26.set_1 | refine IsS26.far ?_ NB172_178.out _ | refine IsS26.far ?_ NB172_179.out _ | refine IsS26.far ?_ NB172_186.out _) | exact HI172.out))) : gb172 ≠ gb191)); have n15_ := Aside0.mk ((by rw [hg]; exact Nat.ne_of_gt (IsS26.lt (show IsS26 w _ gb172 l0 t181 from by repeat (first | (with_reducible first | exact HI172.out | apply IsS26.alloc | apply IsS26.drewN | apply IsS26.drew | apply IsS26.set_1 | refine IsS26.far ?_ NB172_178.out _ | refine IsS26.far ?_ NB172_179.out _ | refine IsS26.far ?_ NB172_186.out _) | exact HI172.out))) : gb191 ≠ gb172)); clear HI172; clear BK178; clear BK179; clear BK186; clear HB; have HI172 := n0_; have BK178 := n1_; have BK179 := n2_; have BK186 := n3_; have HB := n4_; have BK191 := n5_; have GW191 := n6_; have GE191 := n7_; have NB178_191 := n8_; have NB191_178 := n9_; have NB179_191 := n10_; have NB191_179 := n11_; have NB186_191 := n12_; have NB191_186 := n13_; have NB172_191 := n14_; have NB191_172 := n15_; clear n0_ n1_ n2_ n3_ n4_ n5_ n6_ n7_ n8_ n9_ n10_ n11_ n12_ n13_ n14_ n15_; clear hb hbox hg; have hnb33 := NB191_178.out; have hnc33 := NB178_191.out; have hnb34 := NB191_179.out; have hnc34 := NB179_191.out; have hnb35 := NB191_186.out; have hnc35 := NB186_191.out; have hnb36 := NB191_172.out; have hnc36 := NB172_191.out; have hcz37_0 : w32.cell? ⟨gb191, 0, none⟩ = some (.int .i64 0) := (blk_cell BK191.out 0).trans rfl; have hcz37_1 : w32.cell? ⟨gb191, 1, none⟩ = some (.int .i64 0) := (blk_cell BK191.out 1).trans rfl; have hcz37_2 : w32.cell? ⟨gb191, 2, none⟩ = some (.int .i64 0) := (blk_cell BK191.out 2).trans rfl; have hcz37_3 : w32.cell? ⟨gb191, 3, none⟩ = some (.bool false) := (blk_cell BK191.out 3).trans rfl; have hfz37_0 := blk_frozen BK191.out 0; have hfz37_1 := blk_frozen BK191.out 1; have hfz37_2 := blk_frozen BK191.out 2; have hfz37_3 := blk_frozen BK191.out 3) | ((with_reducible refine gate_store (t := 45) (p := 7) rfl ?_); refine store_event (t := 45) (p := 7) (v := ?vo_w38) (w1 := ((((w32.setCell ⟨gb191, 0, none⟩ (.int .i64 t187)).setCell ⟨gb191, 1, none⟩ (.int .i64 t188)).setCell ⟨gb191, 2, none⟩ (.int .i64 t189)).setCell ⟨gb191, 3, none⟩ (.bool t190))) ?hg ?ho ?hn ?hr ?_; (case ho => rfl); (case hg => rfl); (case hn => rfl); (case hr => first | (go_simp; done) | (go_simp; rfl)); intro w38 hw; have n0_ : Aside0 (w38.heap[gb178]? = some (.cells #[.int .i64 t173, .int .i64 t174, .int .i64 t175, .int .i64 t176] 28 (0, 0))) := ⟨(by rw [hw]; exact (by (with_reducible repeat (first | refine blk_drewN ?_ _ | refine blk_drew ?_ | refine blk_alloc ?_ _)); refine blk_far ?_ NB178_191.out _; (with_reducible repeat (first | refine blk_drewN ?_ _ | refine blk_drew ?_ | refine blk_alloc ?_ _)); refine blk_far ?_ NB178_191.out _; (with_reducible repeat (first | refine blk_drewN ?_ _ | refine blk_drew ?_ | refine blk_alloc ?_ _)); refine blk_far ?_ NB178_191.out _; (with_reducible repeat (first | refine blk_drewN ?_ _ | refine blk_drew ?_ | refine blk_alloc ?_ _)); refine blk_far ?_ NB178_191.out _; (with_reducible repeat (first | refine blk_drewN ?_ _ | refine blk_drew ?_ | refine blk_alloc ?_ _)); exact BK178.out))⟩; have n1_ : Aside0 (w38.heap[gb179]? = some (.cells #[.int .i64 (wrap64 (-t174)), .int .i64 (wrap64 (-t173)), .int .i64 t175, .int .i64 t176] 28 (0, 0))) := ⟨(by rw [hw]; exact (by (with_reducible repeat (first | refine blk_drewN ?_ _ | refine blk_drew ?_ | refine blk_alloc ?_ _)); refine blk_far ?_ NB179_191.out _; (with_reducible repeat (first | refine blk_drewN ?_ _ | refine blk_drew ?_ | refine blk_alloc ?_ _)); refine blk_far ?_ NB179_191.out _; (with_reducible repeat (first | refine blk_drewN ?_ _ | refine blk_drew ?_ | refine blk_alloc ?_ _)); refine blk_far ?_ NB179_191.out _; (with_reducible repeat (first | refine blk_drewN ?_ _ | refine blk_drew ?_ | refine blk_alloc ?_ _)); refine blk_far ?_ NB179_191.out _; (with_reducible repeat (first | refine blk_drewN ?_ _ | refine blk_drew ?_ | refine blk_alloc ?_ _)); exact BK179.out))⟩; have n2_ : Aside0 (w38.heap[gb186]? = some (.cells #[.int .i64 t182, .int .i64 t183, .int .i64 t184, .bool t185] 45 (0, 0))) := ⟨(by rw [hw]; exact (by (with_reducible repeat (first | refine blk_drewN ?_ _ | refine blk_drew ?_ | refine blk_alloc ?_ _)); refine blk_far ?_ NB186_191.out _; (with_reducible repeat (first | refine blk_drewN ?_ _ | refine blk_drew ?_ | refine blk_alloc ?_ _)); refine blk_far ?_ NB186_191.out _; (with_reducible repeat (first | refine blk_drewN ?_ _ | refine blk_drew ?_ | refine blk_alloc ?_ _)); refine blk_far ?_ NB186_191.out _; (with_reducible repeat (first | refine blk_drewN ?_ _ | refine blk_drew ?_ | refine blk_alloc ?_ _)); refine blk_far ?_ NB186_191.out _; (with_reducible repeat (first | refine blk_drewN ?_ _ | refine blk_drew ?_ | refine blk_alloc ?_ _)); exact BK186.out))⟩; have n3_ : Aside0 (w38.heap[gb191]? = some (.cells #[.int .i64 t187, .int .i64 t188, .int .i64 t189, .bool t190] 45 (0, 0))) := ⟨(by rw [hw]; exact (by (with_reducible repeat (first | refine blk_drewN ?_ _ | refine blk_drew ?_ | refine blk_alloc ?_ _)); refine blk_put (cs := #[.int .i64 t187, .int .i64 t188, .int .i64 t189, .bool false]) ?_ 3 _ rfl; (with_reducible repeat (first | refine blk_drewN ?_ _ | refine blk_drew ?_ | refine blk_alloc ?_ _)); refine blk_put (cs := #[.int .i64 t187, .int .i64 t188, .int .i64 0, .bool false]) ?_ 2 _ rfl; (with_reducible repeat (first | refine blk_drewN ?_ _ | refine blk_drew ?_ | refine blk_alloc ?_ _)); refine blk_put (cs := #[.int .i64 t187, .int .i64 0, .int .i64 0, .bool false]) ?_ 1 _ rfl; (with_reducible repeat (first | refine blk_drewN ?_ _ | refine blk_drew ?_ | refine blk_alloc ?_ _)); refine blk_put (cs := #[.int .i64 0, .int .i64 0, .int .i64 0, .bool false]) ?_ 0 _ rfl; (with_reducible repeat (first | refine blk_drewN ?_ _ | refine blk_drew ?_ | refine blk_alloc ?_ _)); exact BK191.out))⟩; have n4_ : Aside0 (IsS26 w w38 gb172 l0 t181) := ⟨(by rw [hw]; exact (by repeat (first | (with_reducible first | exact HI172.out | apply IsS26.alloc | apply IsS26.drewN | apply IsS26.drew | apply IsS26.set_1 | refine IsS26.far ?_ NB172_178.out _ | refine IsS26.far ?_ NB172_179.out _ | refine IsS26.far ?_ NB172_186.out _ | refine IsS26.far ?_ NB172_191.out _) | exact HI172.out)))⟩; have n5_ : Aside0 (Below w.heap.size w w38) := ⟨(by rw [hw]; exact (by repeat (first | (with_reducible first | exact HB.out | apply below_alloc | apply pw_below_drewN | apply below_drew1 | refine below_set ?_ (IsS26.ge HI172.out) | refine below_set ?_ GE178.out | refine below_set ?_ GE179.out | refine below_set ?_ GE186.out | refine below_set ?_ GE191.out) | exact HB.out)))⟩; clear hw; clear BK178; clear BK179; clear BK186; clear BK191; clear HI172; clear HB; have BK178 := n0_; have BK179 := n1_; have BK186 := n2_; have BK191 := n3_; have HI172 := n4_; have HB := n5_; clear n0_ n1_ n2_ n3_ n4_ n5_))
    go_loopg [35] k (fun kq v35 w' => ∃ (x35_1 : Int) (x173001_1 : Int) (x187000_1 : Int) (x187001_1 : Int) (x187002_1 : Int) (x187003_1 : Bool) (x192000_1 : Int) (x192001_1 : Int) (x192002_1 : Int) (x192003_1 : Bool), v35 = .int .i64 x35_1 ∧ Aside0 (spykeep2_AxisMirror.l0 kq x35_1 l0 x173001_1 t173 t174 t175 t176 (wrap64 (-t174)) (wrap64 (-t173)) t175 t176 x187000_1 x187001_1 x187002_1 x187003_1 x192000_1 x192001_1 x192002_1 x192003_1 = some r) ∧ Aside0 (kq ≤ k) ∧ Aside0 (w'.heap[gb178]? = some (.cells #[.int .i64 t173, .int .i64 t174, .int .i64 t175, .int .i64 t176] 28 (0, 0))) ∧ Aside0 (w'.heap[gb179]? = some (.cells #[.int .i64 (wrap64 (-t174)), .int .i64 (wrap64 (-t173)), .int .i64 t175, .int .i64 t176] 28 (0, 0))) ∧ Aside0 (w'.heap[gb186]? = some (.cells #[.int .i64 x187000_1, .int .i64 x187001_1, .int .i64 x187002_1, .bool x187003_1] 45 (0, 0))) ∧ Aside0 (w'.heap[gb191]? = some (.cells #[.int .i64 x192000_1, .int .i64 x192001_1, .int .i64 x192002_1, .bool x192003_1] 45 (0, 0))) ∧ Aside0 (IsS26 w w' gb172 l0 x173001_1) ∧ Aside0 (Below w.heap.size w w'))
    case atStart => exact ⟨(0), (t181), (t182), (t183), (t184), (t185), (t187), (t188), (t189), (t190), (by first | rfl | (simp; done) | (simp [*]; done)), H', ⟨Nat.le_refl _⟩, ⟨by (with_reducible repeat (first | refine blk_drewN ?_ _ | refine blk_drew ?_ | refine blk_alloc ?_ _)); exact BK178.out⟩, ⟨by (with_reducible repeat (first | refine blk_drewN ?_ _ | refine blk_drew ?_ | refine blk_alloc ?_ _)); exact BK179.out⟩, ⟨by (with_reducible repeat (first | refine blk_drewN ?_ _ | refine blk_drew ?_ | refine blk_alloc ?_ _)); exact BK186.out⟩, ⟨by (with_reducible repeat (first | refine blk_drewN ?_ _ | refine blk_drew ?_ | refine blk_alloc ?_ _)); exact BK191.out⟩, ⟨by repeat (first | (with_reducible first | exact HI172.out | apply IsS26.alloc | apply IsS26.drewN | apply IsS26.drew | apply IsS26.set_1 | refine IsS26.far ?_ NB172_178.out _ | refine IsS26.far ?_ NB172_179.out _ | refine IsS26.far ?_ NB172_186.out _ | refine IsS26.far ?_ NB172_191.out _) | exact HI172.out)⟩, ⟨by repeat (first | (with_reducible first | exact HB.out | apply below_alloc | apply pw_below_drewN | apply below_drew1 | refine below_set ?_ (IsS26.ge HI172.out) | refine below_set ?_ GE178.out | refine below_set ?_ GE179.out | refine below_set ?_ GE186.out | refine below_set ?_ GE191.out) | exact HB.out)⟩⟩
    case round =>
      clear H'
      try clear c1
      try clear c2
      try clear p2
      try clear c3
      try clear c6
      try clear p6
      try clear c12
      try clear c13
      try clear c17
      try clear c18
      try clear c22
      try clear c23
      try clear c25
      try clear c26
      try clear c27
      try clear c33
      try clear c34
      try clear c35
      try clear c36
      try clear hcz13_0
      try clear hcz13_1
      try clear hcz13_2
      try clear hcz13_3
      try clear hcz15_0
      try clear hcz15_1
      try clear hcz15_2
      try clear hcz15_3
      try clear hcz19_0
      try clear hcz19_1
      try clear hcz19_2
      try clear hcz19_3
      try clear hcz21_0
      try clear hcz21_1
      try clear hcz21_2
      try clear hcz21_3
      try clear hcz28_0
      try clear hcz28_1
      try clear hcz28_2
      try clear hcz28_3
      try clear hcz30_0
      try clear hcz30_1
      try clear hcz30_2
      try clear hcz30_3
      try clear hcz37_0
      try clear hcz37_1
      try clear hcz37_2
      try clear hcz37_3
      try clear hfz13_0
      try clear hfz13_1
      try clear hfz13_2
      try clear hfz13_3
      try clear hfz15_0
      try clear hfz15_1
      try clear hfz15_2
      try clear hfz15_3
      try clear hfz19_0
      try clear hfz19_1
      try clear hfz19_2
      try clear hfz19_3
      try clear hfz21_0
      try clear hfz21_1
      try clear hfz21_2
      try clear hfz21_3
      try clear hfz28_0
      try clear hfz28_1
      try clear hfz28_2
      try clear hfz28_3
      try clear hfz30_0
      try clear hfz30_1
      try clear hfz30_2
      try clear hfz30_3
      try clear hfz37_0
      try clear hfz37_1
      try clear hfz37_2
      try clear hfz37_3
      obtain ⟨x35_1, x173001_1, x187000_1, x187001_1, x187002_1, x187003_1, x192000_1, x192001_1, x192002_1, x192003_1, rfl, HA, HK1, BK178, BK179, BK186, BK191, HI172, HB⟩ := hrel
      cases gk with
      | zero => exact absurd HA.out (by simp [spykeep2_AxisMirror.l0])
      | succ k1 =>
        have H := HA.out
        clear HA
        simp only [spykeep2_AxisMirror.l0] at H
        by_cases c39 : x35_1 < 40
        · rw [if_pos c39] at H
          have c39b0 : decide (x35_1 < 40) = true := decide_eq_true c39
          clear c39
          replace H := Option.bind_eq_some_iff.mp H
          obtain ⟨⟨t192, t193⟩, A400, H⟩ := H
          replace H : (if t192 = 0 then ((spymake_Stream_Inside.f l0 t193 t173 t174 t175 t176).bind fun bt194 => ((axis_Send.f k1 t173 t174 t175 t176 x187000_1 x187001_1 x187002_1 x187003_1 bt194.1).bind fun bt196 => ((axis_Send.f k1 (wrap64 (-t174)) (wrap64 (-t173)) t175 t176 x192000_1 x192001_1 x192002_1 x192003_1 (wrap64 (-bt194.1))).bind fun bt201 => (spykeep2_AxisMirror.j1 k1 x35_1 l0 bt194.2 t173 t174 t175 t176 (wrap64 (-t174)) (wrap64 (-t173)) t175 t176 bt196.1 bt196.2.1 bt196.2.2.1 bt196.2.2.2.1 bt201.1 bt201.2.1 bt201.2.2.1 bt201.2.2.2.1)))) else (spykeep2_AxisMirror.j1 k1 x35_1 l0 t193 t173 t174 t175 t176 (wrap64 (-t174)) (wrap64 (-t173)) t175 t176 x187000_1 x187001_1 x187002_1 x187003_1 x192000_1 x192001_1 x192002_1 x192003_1)) = some r := H
          have A40 := Aside0.mk A400
          clear A400
          have HC41 := Aside0.mk H
          clear H
          go_upto_if 39 with (first | ((with_reducible refine gate_callee (f := 19) rfl ?_); refine goesL_ (some 38) rfl rfl Try.func19 (by kernel_rfl) rfl #[.pointer (some ⟨gb172, 0, none⟩), .int .i64 6] rfl (by (try simp only [List.map_toArray, List.map_cons, List.map_nil]); first | done | rfl | (simp only [List.length_drop, List.length_take]; rfl)) ?_; (with_reducible refine (spymake_Stream_Next.calls gb172 l0 x173001_1 6 t192 t193 w _ ?side1 ?side2 A40.out).mono ?_); (case side1 => repeat (first | (with_reducible first | exact HI172.out | apply IsS26.alloc | apply IsS26.drewN | apply IsS26.drew | apply IsS26.set_1 | refine IsS26.far ?_ NB172_178.out _ | refine IsS26.far ?_ NB172_179.out _ | refine IsS26.far ?_ NB172_186.out _ | refine IsS26.far ?_ NB172_191.out _) | exact HI172.out)); (case side2 => repeat (first | (with_reducible first | exact HB.out | apply below_alloc | apply pw_below_drewN | apply below_drew1 | refine below_set ?_ (IsS26.ge HI172.out) | refine below_set ?_ GE178.out | refine below_set ?_ GE179.out | refine below_set ?_ GE186.out | refine below_set ?_ GE191.out) | exact HB.out)); rintro e w42 ⟨rfl, hi, hb, hk⟩; refine ⟨_, rfl, ?_⟩; have n0_ := Aside0.mk (KeepBut.blk hk (g' := gb178) (o := .cells #[.int .i64 t173, .int .i64 t174, .int .i64 t175, .int .i64 t176] 28 (0, 0)) (by (with_reducible repeat (first | refine blk_drewN ?_ _ | refine blk_drew ?_ | refine blk_alloc ?_ _)); exact BK178.out) NB178_172.out (by simp)); have n1_ := Aside0.mk (KeepBut.blk hk (g' := gb179) (o := .cells #[.int .i64 (wrap64 (-t174)), .int .i64 (wrap64 (-t173)), .int .i64 t175, .int .i64 t176] 28 (0, 0)) (by (with_reducible repeat (first | refine blk_drewN ?_ _ | refine blk_drew ?_ | refine blk_alloc ?_ _)); exact BK179.out) NB179_172.out (by simp)); have n2_ := Aside0.mk (KeepBut.blk hk (g' := gb186) (o := .cells #[.int .i64 x187000_1, .int .i64 x187001_1, .int .i64 x187002_1, .bool x187003_1] 45 (0, 0)) (by (with_reducible repeat (first | refine blk_drewN ?_ _ | refine blk_drew ?_ | refine blk_alloc ?_ _)); exact BK186.out) NB186_172.out (by simp)); have n3_ := Aside0.mk (KeepBut.blk hk (g' := gb191) (o := .cells #[.int .i64 x192000_1, .int .i64 x192001_1, .int .i64 x192002_1, .bool x192003_1] 45 (0, 0)) (by (with_reducible repeat (first | refine blk_drewN ?_ _ | refine blk_drew ?_ | refine blk_alloc ?_ _)); exact BK191.out) NB191_172.out (by simp)); have n4_ := Aside0.mk (hb); have n5_ := Aside0.mk (hi); clear BK178; clear BK179; clear BK186; clear BK191; clear HB; clear HI172; have BK178 := n0_; have BK179 := n1_; have BK186 := n2_; have BK191 := n3_; have HB := n4_; have HI172 := n5_; clear n0_ n1_ n2_ n3_ n4_ n5_; (try clear hb); (try clear hb2); (try clear hk); (try clear hi)))
          (try simp only [Act.put, List.setIfInBounds_toArray, List.set_cons_zero, List.set_cons_succ])
          go_cut [] (fun wc => ∃ (kq : Nat) (x173001_40 : Int) (x187000_40 : Int) (x187001_40 : Int) (x187002_40 : Int) (x187003_40 : Bool) (x192000_40 : Int) (x192001_40 : Int) (x192002_40 : Int) (x192003_40 : Bool), Aside0 (spykeep2_AxisMirror.j1 kq x35_1 l0 x173001_40 t173 t174 t175 t176 (wrap64 (-t174)) (wrap64 (-t173)) t175 t176 x187000_40 x187001_40 x187002_40 x187003_40 x192000_40 x192001_40 x192002_40 x192003_40 = some r) ∧ Aside0 (kq ≤ k1) ∧ Aside0 (wc.heap[gb178]? = some (.cells #[.int .i64 t173, .int .i64 t174, .int .i64 t175, .int .i64 t176] 28 (0, 0))) ∧ Aside0 (wc.heap[gb179]? = some (.cells #[.int .i64 (wrap64 (-t174)), .int .i64 (wrap64 (-t173)), .int .i64 t175, .int .i64 t176] 28 (0, 0))) ∧ Aside0 (wc.heap[gb186]? = some (.cells #[.int .i64 x187000_40, .int .i64 x187001_40, .int .i64 x187002_40, .bool x187003_40] 45 (0, 0))) ∧ Aside0 (wc.heap[gb191]? = some (.cells #[.int .i64 x192000_40, .int .i64 x192001_40, .int .i64 x192002_40, .bool x192003_40] 45 (0, 0))) ∧ Aside0 (IsS26 w wc gb172 l0 x173001_40) ∧ Aside0 (Below w.heap.size w wc))
          case first =>
            have H := HC41.out
            clear HC41
            by_cases c43 : t192 = 0
            · rw [if_pos c43] at H
              have c43b0 : (t192 == 0) = true := beq_iff_eq.mpr c43
              have c43b1 : (t192 != 0) = false := bne_eq_false_iff_eq.mpr c43
              clear c43
              (first | rw [c43b0] | (simp only [i64_w, i32_w]; rw [c43b0]) | skip)
              replace H := Option.bind_eq_some_iff.mp H
              obtain ⟨⟨t194, t195⟩, A440, H⟩ := H
              replace H : ((axis_Send.f k1 t173 t174 t175 t176 x187000_1 x187001_1 x187002_1 x187003_1 t194).bind fun bt196 => ((axis_Send.f k1 (wrap64 (-t174)) (wrap64 (-t173)) t175 t176 x192000_1 x192001_1 x192002_1 x192003_1 (wrap64 (-t194))).bind fun bt201 => (spykeep2_AxisMirror.j1 k1 x35_1 l0 t195 t173 t174 t175 t176 (wrap64 (-t174)) (wrap64 (-t173)) t175 t176 bt196.1 bt196.2.1 bt196.2.2.1 bt196.2.2.2.1 bt201.1 bt201.2.1 bt201.2.2.1 bt201.2.2.2.1))) = some r := H
              have A44 := Aside0.mk A440
              clear A440
              replace H := Option.bind_eq_some_iff.mp H
              obtain ⟨⟨t196, t197, t198, t199, t200⟩, A450, H⟩ := H
              replace H : ((axis_Send.f k1 (wrap64 (-t174)) (wrap64 (-t173)) t175 t176 x192000_1 x192001_1 x192002_1 x192003_1 (wrap64 (-t194))).bind fun bt201 => (spykeep2_AxisMirror.j1 k1 x35_1 l0 t195 t173 t174 t175 t176 (wrap64 (-t174)) (wrap64 (-t173)) t175 t176 t196 t197 t198 t199 bt201.1 bt201.2.1 bt201.2.2.1 bt201.2.2.2.1)) = some r := H
              have A45 := Aside0.mk A450
              clear A450
              replace H := Option.bind_eq_some_iff.mp H
              obtain ⟨⟨t201, t202, t203, t204, t205⟩, A460, H⟩ := H
              replace H : (spykeep2_AxisMirror.j1 k1 x35_1 l0 t195 t173 t174 t175 t176 (wrap64 (-t174)) (wrap64 (-t173)) t175 t176 t196 t197 t198 t199 t201 t202 t203 t204) = some r := H
              have A46 := Aside0.mk A460
              clear A460
              have H' := Aside0.mk H
              clear H
              have hnb47 := NB178_179.out
              have hnc47 := NB179_178.out
              have hnb48 := NB178_186.out
              have hnc48 := NB186_178.out
              have hnb49 := NB178_191.out
              have hnc49 := NB191_178.out
              have hnb50 := NB178_172.out
              have hnc50 := NB172_178.out
              have hcz51_0 : w42.cell? ⟨gb178, 0, none⟩ = some (.int .i64 t173) := (blk_cell BK178.out 0).trans rfl
              have hcz51_1 : w42.cell? ⟨gb178, 1, none⟩ = some (.int .i64 t174) := (blk_cell BK178.out 1).trans rfl
              have hcz51_2 : w42.cell? ⟨gb178, 2, none⟩ = some (.int .i64 t175) := (blk_cell BK178.out 2).trans rfl
              have hcz51_3 : w42.cell? ⟨gb178, 3, none⟩ = some (.int .i64 t176) := (blk_cell BK178.out 3).trans rfl
              have hfz51_0 := blk_frozen BK178.out 0
              have hfz51_1 := blk_frozen BK178.out 1
              have hfz51_2 := blk_frozen BK178.out 2
              have hfz51_3 := blk_frozen BK178.out 3
              go_wp2_with (first | ((with_reducible refine gate_callee (f := 13) rfl ?_); refine goesL_ (some 42) rfl rfl Try.func13 (by kernel_rfl) rfl #[.pointer (some ⟨gb172, 0, none⟩), .agg #[.int .i64 t173, .int .i64 t174, .int .i64 t175, .int .i64 t176]] rfl (by (try simp only [List.map_toArray, List.map_cons, List.map_nil]); first | done | rfl | (simp only [List.length_drop, List.length_take]; rfl)) ?_; (with_reducible refine (spymake_Stream_Inside.calls gb172 l0 t193 t173 t174 t175 t176 t194 t195 w _ ?side1 ?side2 A44.out).mono ?_); (case side1 => repeat (first | (with_reducible first | exact HI172.out | apply IsS26.alloc | apply IsS26.drewN | apply IsS26.drew | apply IsS26.set_1 | refine IsS26.far ?_ NB172_178.out _ | refine IsS26.far ?_ NB172_179.out _ | refine IsS26.far ?_ NB172_186.out _ | refine IsS26.far ?_ NB172_191.out _) | exact HI172.out)); (case side2 => repeat (first | (with_reducible first | exact HB.out | apply below_alloc | apply pw_below_drewN | apply below_drew1 | refine below_set ?_ (IsS26.ge HI172.out) | refine below_set ?_ GE178.out | refine below_set ?_ GE179.out | refine below_set ?_ GE186.out | refine below_set ?_ GE191.out) | exact HB.out)); rintro e w52 ⟨rfl, hi, hb, hk⟩; refine ⟨_, rfl, ?_⟩; have n0_ := Aside0.mk (KeepBut.blk hk (g' := gb178) (o := .cells #[.int .i64 t173, .int .i64 t174, .int .i64 t175, .int .i64 t176] 28 (0, 0)) (by (with_reducible repeat (first | refine blk_drewN ?_ _ | refine blk_drew ?_ | refine blk_alloc ?_ _)); exact BK178.out) NB178_172.out (by simp)); have n1_ := Aside0.mk (KeepBut.blk hk (g' := gb179) (o := .cells #[.int .i64 (wrap64 (-t174)), .int .i64 (wrap64 (-t173)), .int .i64 t175, .int .i64 t176] 28 (0, 0)) (by (with_reducible repeat (first | refine blk_drewN ?_ _ | refine blk_drew ?_ | refine blk_alloc ?_ _)); exact BK179.out) NB179_172.out (by simp)); have n2_ := Aside0.mk (KeepBut.blk hk (g' := gb186) (o := .cells #[.int .i64 x187000_1, .int .i64 x187001_1, .int .i64 x187002_1, .bool x187003_1] 45 (0, 0)) (by (with_reducible repeat (first | refine blk_drewN ?_ _ | refine blk_drew ?_ | refine blk_alloc ?_ _)); exact BK186.out) NB186_172.out (by simp)); have n3_ := Aside0.mk (KeepBut.blk hk (g' := gb191) (o := .cells #[.int .i64 x192000_1, .int .i64 x192001_1, .int .i64 x192002_1, .bool x192003_1] 45 (0, 0)) (by (with_reducible repeat (first | refine blk_drewN ?_ _ | refine blk_drew ?_ | refine blk_alloc ?_ _)); exact BK191.out) NB191_172.out (by simp)); have n4_ := Aside0.mk (hb); have n5_ := Aside0.mk (hi); clear BK178; clear BK179; clear BK186; clear BK191; clear HB; clear HI172; have BK178 := n0_; have BK179 := n1_; have BK186 := n2_; have BK191 := n3_; have HB := n4_; have HI172 := n5_; clear n0_ n1_ n2_ n3_ n4_ n5_; (try clear hb); (try clear hb2); (try clear hk); (try clear hi); have hcz53_0 : w52.cell? ⟨gb178, 0, none⟩ = some (.int .i64 t173) := (blk_cell BK178.out 0).trans rfl; have hcz53_1 : w52.cell? ⟨gb178, 1, none⟩ = some (.int .i64 t174) := (blk_cell BK178.out 1).trans rfl; have hcz53_2 : w52.cell? ⟨gb178, 2, none⟩ = some (.int .i64 t175) := (blk_cell BK178.out 2).trans rfl; have hcz53_3 : w52.cell? ⟨gb178, 3, none⟩ = some (.int .i64 t176) := (blk_cell BK178.out 3).trans rfl; have hfz53_0 := blk_frozen BK178.out 0; have hfz53_1 := blk_frozen BK178.out 1; have hfz53_2 := blk_frozen BK178.out 2; have hfz53_3 := blk_frozen BK178.out 3; have hnb54 := NB186_179.out; have hnc54 := NB179_186.out; have hnb55 := NB186_191.out; have hnc55 := NB191_186.out; have hnb56 := NB186_172.out; have hnc56 := NB172_186.out; have hcz57_0 : w52.cell? ⟨gb186, 0, none⟩ = some (.int .i64 x187000_1) := (blk_cell BK186.out 0).trans rfl; have hcz57_1 : w52.cell? ⟨gb186, 1, none⟩ = some (.int .i64 x187001_1) := (blk_cell BK186.out 1).trans rfl; have hcz57_2 : w52.cell? ⟨gb186, 2, none⟩ = some (.int .i64 x187002_1) := (blk_cell BK186.out 2).trans rfl; have hcz57_3 : w52.cell? ⟨gb186, 3, none⟩ = some (.bool x187003_1) := (blk_cell BK186.out 3).trans rfl; have hfz57_0 := blk_frozen BK186.out 0; have hfz57_1 := blk_frozen BK186.out 1; have hfz57_2 := blk_frozen BK186.out 2; have hfz57_3 := blk_frozen BK186.out 3) | ((with_reducible refine gate_callee (f := 24) rfl ?_); refine goesL_ (some 47) rfl rfl Try.func24 (by kernel_rfl) rfl #[.agg #[.int .i64 t173, .int .i64 t174, .int .i64 t175, .int .i64 t176], .agg #[.int .i64 x187000_1, .int .i64 x187001_1, .int .i64 x187002_1, .bool x187003_1], .int .i64 t194] rfl (by (try simp only [List.map_toArray, List.map_cons, List.map_nil]); first | done | rfl | (simp only [List.length_drop, List.length_take]; rfl)) ?_; (with_reducible refine (axis_Send.calls k1 t173 t174 t175 t176 x187000_1 x187001_1 x187002_1 x187003_1 t194 t196 t197 t198 t199 t200 _ A45.out).mono ?_); rintro e w58 ⟨rfl, hb⟩; refine ⟨_, rfl, ?_⟩; have n0_ := Aside0.mk (blk_below (g := gb178) (o := .cells #[.int .i64 t173, .int .i64 t174, .int .i64 t175, .int .i64 t176] 28 (0, 0)) (by (with_reducible repeat (first | refine blk_drewN ?_ _ | refine blk_drew ?_ | refine blk_alloc ?_ _)); exact BK178.out) hb); have n1_ := Aside0.mk (blk_below (g := gb179) (o := .cells #[.int .i64 (wrap64 (-t174)), .int .i64 (wrap64 (-t173)), .int .i64 t175, .int .i64 t176] 28 (0, 0)) (by (with_reducible repeat (first | refine blk_drewN ?_ _ | refine blk_drew ?_ | refine blk_alloc ?_ _)); exact BK179.out) hb); have n2_ := Aside0.mk (blk_below (g := gb186) (o := .cells #[.int .i64 x187000_1, .int .i64 x187001_1, .int .i64 x187002_1, .bool x187003_1] 45 (0, 0)) (by (with_reducible repeat (first | refine blk_drewN ?_ _ | refine blk_drew ?_ | refine blk_alloc ?_ _)); exact BK186.out) hb); have n3_ := Aside0.mk (blk_below (g := gb191) (o := .cells #[.int .i64 x192000_1, .int .i64 x192001_1, .int .i64 x192002_1, .bool x192003_1] 45 (0, 0)) (by (with_reducible repeat (first | refine blk_drewN ?_ _ | refine blk_drew ?_ | refine blk_alloc ?_ _)); exact BK191.out) hb); have n4_ := Aside0.mk (IsS26.below (by repeat (first | (with_reducible first | exact HI172.out | apply IsS26.alloc | apply IsS26.drewN | apply IsS26.drew | apply IsS26.set_1 | refine IsS26.far ?_ NB172_178.out _ | refine IsS26.far ?_ NB172_179.out _ | refine IsS26.far ?_ NB172_186.out _ | refine IsS26.far ?_ NB172_191.out _) | exact HI172.out)) hb); have n5_ := Aside0.mk (below_step (by repeat (first | (with_reducible first | exact HB.out | apply below_alloc | apply pw_below_drewN | apply below_drew1 | refine below_set ?_ (IsS26.ge HI172.out) | refine below_set ?_ GE178.out | refine below_set ?_ GE179.out | refine below_set ?_ GE186.out | refine below_set ?_ GE191.out) | exact HB.out)) hb); clear BK178; clear BK179; clear BK186; clear BK191; clear HI172; clear HB; have BK178 := n0_; have BK179 := n1_; have BK186 := n2_; have BK191 := n3_; have HI172 := n4_; have HB := n5_; clear n0_ n1_ n2_ n3_ n4_ n5_; (try clear hb); (try clear hb2); (try clear hk); (try clear hi); have hcz59_0 : w58.cell? ⟨gb186, 0, none⟩ = some (.int .i64 x187000_1) := (blk_cell BK186.out 0).trans rfl; have hcz59_1 : w58.cell? ⟨gb186, 1, none⟩ = some (.int .i64 x187001_1) := (blk_cell BK186.out 1).trans rfl; have hcz59_2 : w58.cell? ⟨gb186, 2, none⟩ = some (.int .i64 x187002_1) := (blk_cell BK186.out 2).trans rfl; have hcz59_3 : w58.cell? ⟨gb186, 3, none⟩ = some (.bool x187003_1) := (blk_cell BK186.out 3).trans rfl; have hfz59_0 := blk_frozen BK186.out 0; have hfz59_1 := blk_frozen BK186.out 1; have hfz59_2 := blk_frozen BK186.out 2; have hfz59_3 := blk_frozen BK186.out 3) | ((with_reducible refine gate_store (t := 45) (p := 6) rfl ?_); refine store_event (t := 45) (p := 6) (v := ?vo_w60) (w1 := ((((w58.setCell ⟨gb186, 0, none⟩ (.int .i64 t196)).setCell ⟨gb186, 1, none⟩ (.int .i64 t197)).setCell ⟨gb186, 2, none⟩ (.int .i64 t198)).setCell ⟨gb186, 3, none⟩ (.bool t199))) ?hg ?ho ?hn ?hr ?_; (case ho => rfl); (case hg => rfl); (case hn => rfl); (case hr => first | (go_simp; done) | (go_simp; rfl)); intro w60 hw; have n0_ : Aside0 (w60.heap[gb178]? = some (.cells #[.int .i64 t173, .int .i64 t174, .int .i64 t175, .int .i64 t176] 28 (0, 0))) := ⟨(by rw [hw]; exact (by (with_reducible repeat (first | refine blk_drewN ?_ _ | refine blk_drew ?_ | refine blk_alloc ?_ _)); refine blk_far ?_ NB178_186.out _; (with_reducible repeat (first | refine blk_drewN ?_ _ | refine blk_drew ?_ | refine blk_alloc ?_ _)); refine blk_far ?_ NB178_186.out _; (with_reducible repeat (first | refine blk_drewN ?_ _ | refine blk_drew ?_ | refine blk_alloc ?_ _)); refine blk_far ?_ NB178_186.out _; (with_reducible repeat (first | refine blk_drewN ?_ _ | refine blk_drew ?_ | refine blk_alloc ?_ _)); refine blk_far ?_ NB178_186.out _; (with_reducible repeat (first | refine blk_drewN ?_ _ | refine blk_drew ?_ | refine blk_alloc ?_ _)); exact BK178.out))⟩; have n1_ : Aside0 (w60.heap[gb179]? = some (.cells #[.int .i64 (wrap64 (-t174)), .int .i64 (wrap64 (-t173)), .int .i64 t175, .int .i64 t176] 28 (0, 0))) := ⟨(by rw [hw]; exact (by (with_reducible repeat (first | refine blk_drewN ?_ _ | refine blk_drew ?_ | refine blk_alloc ?_ _)); refine blk_far ?_ NB179_186.out _; (with_reducible repeat (first | refine blk_drewN ?_ _ | refine blk_drew ?_ | refine blk_alloc ?_ _)); refine blk_far ?_ NB179_186.out _; (with_reducible repeat (first | refine blk_drewN ?_ _ | refine blk_drew ?_ | refine blk_alloc ?_ _)); refine blk_far ?_ NB179_186.out _; (with_reducible repeat (first | refine blk_drewN ?_ _ | refine blk_drew ?_ | refine blk_alloc ?_ _)); refine blk_far ?_ NB179_186.out _; (with_reducible repeat (first | refine blk_drewN ?_ _ | refine blk_drew ?_ | refine blk_alloc ?_ _)); exact BK179.out))⟩; have n2_ : Aside0 (w60.heap[gb186]? = some (.cells #[.int .i64 t196, .int .i64 t197, .int .i64 t198, .bool t199] 45 (0, 0))) := ⟨(by rw [hw]; exact (by (with_reducible repeat (first | refine blk_drewN ?_ _ | refine blk_drew ?_ | refine blk_alloc ?_ _)); refine blk_put (cs := #[.int .i64 t196, .int .i64 t197, .int .i64 t198, .bool x187003_1]) ?_ 3 _ rfl; (with_reducible repeat (first | refine blk_drewN ?_ _ | refine blk_drew ?_ | refine blk_alloc ?_ _)); refine blk_put (cs := #[.int .i64 t196, .int .i64 t197, .int .i64 x187002_1, .bool x187003_1]) ?_ 2 _ rfl; (with_reducible repeat (first | refine blk_drewN ?_ _ | refine blk_drew ?_ | refine blk_alloc ?_ _)); refine blk_put (cs := #[.int .i64 t196, .int .i64 x187001_1, .int .i64 x187002_1, .bool x187003_1]) ?_ 1 _ rfl; (with_reducible repeat (first | refine blk_drewN ?_ _ | refine blk_drew ?_ | refine blk_alloc ?_ _)); refine blk_put (cs := #[.int .i64 x187000_1, .int .i64 x187001_1, .int .i64 x187002_1, .bool x187003_1]) ?_ 0 _ rfl; (with_reducible repeat (first | refine blk_drewN ?_ _ | refine blk_drew ?_ | refine blk_alloc ?_ _)); exact BK186.out))⟩; have n3_ : Aside0 (w60.heap[gb191]? = some (.cells #[.int .i64 x192000_1, .int .i64 x192001_1, .int .i64 x192002_1, .bool x192003_1] 45 (0, 0))) := ⟨(by rw [hw]; exact (by (with_reducible repeat (first | refine blk_drewN ?_ _ | refine blk_drew ?_ | refine blk_alloc ?_ _)); refine blk_far ?_ NB191_186.out _; (with_reducible repeat (first | refine blk_drewN ?_ _ | refine blk_drew ?_ | refine blk_alloc ?_ _)); refine blk_far ?_ NB191_186.out _; (with_reducible repeat (first | refine blk_drewN ?_ _ | refine blk_drew ?_ | refine blk_alloc ?_ _)); refine blk_far ?_ NB191_186.out _; (with_reducible repeat (first | refine blk_drewN ?_ _ | refine blk_drew ?_ | refine blk_alloc ?_ _)); refine blk_far ?_ NB191_186.out _; (with_reducible repeat (first | refine blk_drewN ?_ _ | refine blk_drew ?_ | refine blk_alloc ?_ _)); exact BK191.out))⟩; have n4_ : Aside0 (IsS26 w w60 gb172 l0 t195) := ⟨(by rw [hw]; exact (by repeat (first | (with_reducible first | exact HI172.out | apply IsS26.alloc | apply IsS26.drewN | apply IsS26.drew | apply IsS26.set_1 | refine IsS26.far ?_ NB172_178.out _ | refine IsS26.far ?_ NB172_179.out _ | refine IsS26.far ?_ NB172_186.out _ | refine IsS26.far ?_ NB172_191.out _) | exact HI172.out)))⟩; have n5_ : Aside0 (Below w.heap.size w w60) := ⟨(by rw [hw]; exact (by repeat (first | (with_reducible first | exact HB.out | apply below_alloc | apply pw_below_drewN | apply below_drew1 | refine below_set ?_ (IsS26.ge HI172.out) | refine below_set ?_ GE178.out | refine below_set ?_ GE179.out | refine below_set ?_ GE186.out | refine below_set ?_ GE191.out) | exact HB.out)))⟩; clear hw; clear BK178; clear BK179; clear BK186; clear BK191; clear HI172; clear HB; have BK178 := n0_; have BK179 := n1_; have BK186 := n2_; have BK191 := n3_; have HI172 := n4_; have HB := n5_; clear n0_ n1_ n2_ n3_ n4_ n5_; have hnb61 := NB179_191.out; have hnc61 := NB191_179.out; have hnb62 := NB179_172.out; have hnc62 := NB172_179.out; have hcz63_0 : w60.cell? ⟨gb179, 0, none⟩ = some (.int .i64 (wrap64 (-t174))) := (blk_cell BK179.out 0).trans rfl; have hcz63_1 : w60.cell? ⟨gb179, 1, none⟩ = some (.int .i64 (wrap64 (-t173))) := (blk_cell BK179.out 1).trans rfl; have hcz63_2 : w60.cell? ⟨gb179, 2, none⟩ = some (.int .i64 t175) := (blk_cell BK179.out 2).trans rfl; have hcz63_3 : w60.cell? ⟨gb179, 3, none⟩ = some (.int .i64 t176) := (blk_cell BK179.out 3).trans rfl; have hfz63_0 := blk_frozen BK179.out 0; have hfz63_1 := blk_frozen BK179.out 1; have hfz63_2 := blk_frozen BK179.out 2; have hfz63_3 := blk_frozen BK179.out 3; have hnb64 := NB191_172.out; have hnc64 := NB172_191.out; have hcz65_0 : w60.cell? ⟨gb191, 0, none⟩ = some (.int .i64 x192000_1) := (blk_cell BK191.out 0).trans rfl; have hcz65_1 : w60.cell? ⟨gb191, 1, none⟩ = some (.int .i64 x192001_1) := (blk_cell BK191.out 1).trans rfl; have hcz65_2 : w60.cell? ⟨gb191, 2, none⟩ = some (.int .i64 x192002_1) := (blk_cell BK191.out 2).trans rfl; have hcz65_3 : w60.cell? ⟨gb191, 3, none⟩ = some (.bool x192003_1) := (blk_cell BK191.out 3).trans rfl; have hfz65_0 := blk_frozen BK191.out 0; have hfz65_1 := blk_frozen BK191.out 1; have hfz65_2 := blk_frozen BK191.out 2; have hfz65_3 := blk_frozen BK191.out 3) | ((with_reducible refine gate_callee (f := 24) rfl ?_); refine goesL_ (some 55) rfl rfl Try.func24 (by kernel_rfl) rfl #[.agg #[.int .i64 (wrap64 (-t174)), .int .i64 (wrap64 (-t173)), .int .i64 t175, .int .i64 t176], .agg #[.int .i64 x192000_1, .int .i64 x192001_1, .int .i64 x192002_1, .bool x192003_1], .int .i64 (wrap64 (-t194))] rfl (by (try simp only [List.map_toArray, List.map_cons, List.map_nil]); first | done | rfl | (simp only [List.length_drop, List.length_take]; rfl)) ?_; (with_reducible refine (axis_Send.calls k1 (wrap64 (-t174)) (wrap64 (-t173)) t175 t176 x192000_1 x192001_1 x192002_1 x192003_1 (wrap64 (-t194)) t201 t202 t203 t204 t205 _ A46.out).mono ?_); rintro e w66 ⟨rfl, hb⟩; refine ⟨_, rfl, ?_⟩; have n0_ := Aside0.mk (blk_below (g := gb178) (o := .cells #[.int .i64 t173, .int .i64 t174, .int .i64 t175, .int .i64 t176] 28 (0, 0)) (by (with_reducible repeat (first | refine blk_drewN ?_ _ | refine blk_drew ?_ | refine blk_alloc ?_ _)); exact BK178.out) hb); have n1_ := Aside0.mk (blk_below (g := gb179) (o := .cells #[.int .i64 (wrap64 (-t174)), .int .i64 (wrap64 (-t173)), .int .i64 t175, .int .i64 t176] 28 (0, 0)) (by (with_reducible repeat (first | refine blk_drewN ?_ _ | refine blk_drew ?_ | refine blk_alloc ?_ _)); exact BK179.out) hb); have n2_ := Aside0.mk (blk_below (g := gb186) (o := .cells #[.int .i64 t196, .int .i64 t197, .int .i64 t198, .bool t199] 45 (0, 0)) (by (with_reducible repeat (first | refine blk_drewN ?_ _ | refine blk_drew ?_ | refine blk_alloc ?_ _)); exact BK186.out) hb); have n3_ := Aside0.mk (blk_below (g := gb191) (o := .cells #[.int .i64 x192000_1, .int .i64 x192001_1, .int .i64 x192002_1, .bool x192003_1] 45 (0, 0)) (by (with_reducible repeat (first | refine blk_drewN ?_ _ | refine blk_drew ?_ | refine blk_alloc ?_ _)); exact BK191.out) hb); have n4_ := Aside0.mk (IsS26.below (by repeat (first | (with_reducible first | exact HI172.out | apply IsS26.alloc | apply IsS26.drewN | apply IsS26.drew | apply IsS26.set_1 | refine IsS26.far ?_ NB172_178.out _ | refine IsS26.far ?_ NB172_179.out _ | refine IsS26.far ?_ NB172_186.out _ | refine IsS26.far ?_ NB172_191.out _) | exact HI172.out)) hb); have n5_ := Aside0.mk (below_step (by repeat (first | (with_reducible first | exact HB.out | apply below_alloc | apply pw_below_drewN | apply below_drew1 | refine below_set ?_ (IsS26.ge HI172.out) | refine below_set ?_ GE178.out | refine below_set ?_ GE179.out | refine below_set ?_ GE186.out | refine below_set ?_ GE191.out) | exact HB.out)) hb); clear BK178; clear BK179; clear BK186; clear BK191; clear HI172; clear HB; have BK178 := n0_; have BK179 := n1_; have BK186 := n2_; have BK191 := n3_; have HI172 := n4_; have HB := n5_; clear n0_ n1_ n2_ n3_ n4_ n5_; (try clear hb); (try clear hb2); (try clear hk); (try clear hi); have hcz67_0 : w66.cell? ⟨gb191, 0, none⟩ = some (.int .i64 x192000_1) := (blk_cell BK191.out 0).trans rfl; have hcz67_1 : w66.cell? ⟨gb191, 1, none⟩ = some (.int .i64 x192001_1) := (blk_cell BK191.out 1).trans rfl; have hcz67_2 : w66.cell? ⟨gb191, 2, none⟩ = some (.int .i64 x192002_1) := (blk_cell BK191.out 2).trans rfl; have hcz67_3 : w66.cell? ⟨gb191, 3, none⟩ = some (.bool x192003_1) := (blk_cell BK191.out 3).trans rfl; have hfz67_0 := blk_frozen BK191.out 0; have hfz67_1 := blk_frozen BK191.out 1; have hfz67_2 := blk_frozen BK191.out 2; have hfz67_3 := blk_frozen BK191.out 3) | ((with_reducible refine gate_store (t := 45) (p := 7) rfl ?_); refine store_event (t := 45) (p := 7) (v := ?vo_w68) (w1 := ((((w66.setCell ⟨gb191, 0, none⟩ (.int .i64 t201)).setCell ⟨gb191, 1, none⟩ (.int .i64 t202)).setCell ⟨gb191, 2, none⟩ (.int .i64 t203)).setCell ⟨gb191, 3, none⟩ (.bool t204))) ?hg ?ho ?hn ?hr ?_; (case ho => rfl); (case hg => rfl); (case hn => rfl); (case hr => first | (go_simp; done) | (go_simp; rfl)); intro w68 hw; have n0_ : Aside0 (w68.heap[gb178]? = some (.cells #[.int .i64 t173, .int .i64 t174, .int .i64 t175, .int .i64 t176] 28 (0, 0))) := ⟨(by rw [hw]; exact (by (with_reducible repeat (first | refine blk_drewN ?_ _ | refine blk_drew ?_ | refine blk_alloc ?_ _)); refine blk_far ?_ NB178_191.out _; (with_reducible repeat (first | refine blk_drewN ?_ _ | refine blk_drew ?_ | refine blk_alloc ?_ _)); refine blk_far ?_ NB178_191.out _; (with_reducible repeat (first | refine blk_drewN ?_ _ | refine blk_drew ?_ | refine blk_alloc ?_ _)); refine blk_far ?_ NB178_191.out _; (with_reducible repeat (first | refine blk_drewN ?_ _ | refine blk_drew ?_ | refine blk_alloc ?_ _)); refine blk_far ?_ NB178_191.out _; (with_reducible repeat (first | refine blk_drewN ?_ _ | refine blk_drew ?_ | refine blk_alloc ?_ _)); exact BK178.out))⟩; have n1_ : Aside0 (w68.heap[gb179]? = some (.cells #[.int .i64 (wrap64 (-t174)), .int .i64 (wrap64 (-t173)), .int .i64 t175, .int .i64 t176] 28 (0, 0))) := ⟨(by rw [hw]; exact (by (with_reducible repeat (first | refine blk_drewN ?_ _ | refine blk_drew ?_ | refine blk_alloc ?_ _)); refine blk_far ?_ NB179_191.out _; (with_reducible repeat (first | refine blk_drewN ?_ _ | refine blk_drew ?_ | refine blk_alloc ?_ _)); refine blk_far ?_ NB179_191.out _; (with_reducible repeat (first | refine blk_drewN ?_ _ | refine blk_drew ?_ | refine blk_alloc ?_ _)); refine blk_far ?_ NB179_191.out _; (with_reducible repeat (first | refine blk_drewN ?_ _ | refine blk_drew ?_ | refine blk_alloc ?_ _)); refine blk_far ?_ NB179_191.out _; (with_reducible repeat (first | refine blk_drewN ?_ _ | refine blk_drew ?_ | refine blk_alloc ?_ _)); exact BK179.out))⟩; have n2_ : Aside0 (w68.heap[gb186]? = some (.cells #[.int .i64 t196, .int .i64 t197, .int .i64 t198, .bool t199] 45 (0, 0))) := ⟨(by rw [hw]; exact (by (with_reducible repeat (first | refine blk_drewN ?_ _ | refine blk_drew ?_ | refine blk_alloc ?_ _)); refine blk_far ?_ NB186_191.out _; (with_reducible repeat (first | refine blk_drewN ?_ _ | refine blk_drew ?_ | refine blk_alloc ?_ _)); refine blk_far ?_ NB186_191.out _; (with_reducible repeat (first | refine blk_drewN ?_ _ | refine blk_drew ?_ | refine blk_alloc ?_ _)); refine blk_far ?_ NB186_191.out _; (with_reducible repeat (first | refine blk_drewN ?_ _ | refine blk_drew ?_ | refine blk_alloc ?_ _)); refine blk_far ?_ NB186_191.out _; (with_reducible repeat (first | refine blk_drewN ?_ _ | refine blk_drew ?_ | refine blk_alloc ?_ _)); exact BK186.out))⟩; have n3_ : Aside0 (w68.heap[gb191]? = some (.cells #[.int .i64 t201, .int .i64 t202, .int .i64 t203, .bool t204] 45 (0, 0))) := ⟨(by rw [hw]; exact (by (with_reducible repeat (first | refine blk_drewN ?_ _ | refine blk_drew ?_ | refine blk_alloc ?_ _)); refine blk_put (cs := #[.int .i64 t201, .int .i64 t202, .int .i64 t203, .bool x192003_1]) ?_ 3 _ rfl; (with_reducible repeat (first | refine blk_drewN ?_ _ | refine blk_drew ?_ | refine blk_alloc ?_ _)); refine blk_put (cs := #[.int .i64 t201, .int .i64 t202, .int .i64 x192002_1, .bool x192003_1]) ?_ 2 _ rfl; (with_reducible repeat (first | refine blk_drewN ?_ _ | refine blk_drew ?_ | refine blk_alloc ?_ _)); refine blk_put (cs := #[.int .i64 t201, .int .i64 x192001_1, .int .i64 x192002_1, .bool x192003_1]) ?_ 1 _ rfl; (with_reducible repeat (first | refine blk_drewN ?_ _ | refine blk_drew ?_ | refine blk_alloc ?_ _)); refine blk_put (cs := #[.int .i64 x192000_1, .int .i64 x192001_1, .int .i64 x192002_1, .bool x192003_1]) ?_ 0 _ rfl; (with_reducible repeat (first | refine blk_drewN ?_ _ | refine blk_drew ?_ | refine blk_alloc ?_ _)); exact BK191.out))⟩; have n4_ : Aside0 (IsS26 w w68 gb172 l0 t195) := ⟨(by rw [hw]; exact (by repeat (first | (with_reducible first | exact HI172.out | apply IsS26.alloc | apply IsS26.drewN | apply IsS26.drew | apply IsS26.set_1 | refine IsS26.far ?_ NB172_178.out _ | refine IsS26.far ?_ NB172_179.out _ | refine IsS26.far ?_ NB172_186.out _ | refine IsS26.far ?_ NB172_191.out _) | exact HI172.out)))⟩; have n5_ : Aside0 (Below w.heap.size w w68) := ⟨(by rw [hw]; exact (by repeat (first | (with_reducible first | exact HB.out | apply below_alloc | apply pw_below_drewN | apply below_drew1 | refine below_set ?_ (IsS26.ge HI172.out) | refine below_set ?_ GE178.out | refine below_set ?_ GE179.out | refine below_set ?_ GE186.out | refine below_set ?_ GE191.out) | exact HB.out)))⟩; clear hw; clear BK178; clear BK179; clear BK186; clear BK191; clear HI172; clear HB; have BK178 := n0_; have BK179 := n1_; have BK186 := n2_; have BK191 := n3_; have HI172 := n4_; have HB := n5_; clear n0_ n1_ n2_ n3_ n4_ n5_))
              go_meet
              case rel => exact ⟨_, (t195), (t196), (t197), (t198), (t199), (t201), (t202), (t203), (t204), H', ⟨by have := HK1.out; first | omega | exact Nat.le_refl _⟩, ⟨by (with_reducible repeat (first | refine blk_drewN ?_ _ | refine blk_drew ?_ | refine blk_alloc ?_ _)); exact BK178.out⟩, ⟨by (with_reducible repeat (first | refine blk_drewN ?_ _ | refine blk_drew ?_ | refine blk_alloc ?_ _)); exact BK179.out⟩, ⟨by (with_reducible repeat (first | refine blk_drewN ?_ _ | refine blk_drew ?_ | refine blk_alloc ?_ _)); exact BK186.out⟩, ⟨by (with_reducible repeat (first | refine blk_drewN ?_ _ | refine blk_drew ?_ | refine blk_alloc ?_ _)); exact BK191.out⟩, ⟨by repeat (first | (with_reducible first | exact HI172.out | apply IsS26.alloc | apply IsS26.drewN | apply IsS26.drew | apply IsS26.set_1 | refine IsS26.far ?_ NB172_178.out _ | refine IsS26.far ?_ NB172_179.out _ | refine IsS26.far ?_ NB172_186.out _ | refine IsS26.far ?_ NB172_191.out _) | exact HI172.out)⟩, ⟨by repeat (first | (with_reducible first | exact HB.out | apply below_alloc | apply pw_below_drewN | apply below_drew1 | refine below_set ?_ (IsS26.ge HI172.out) | refine below_set ?_ GE178.out | refine below_set ?_ GE179.out | refine below_set ?_ GE186.out | refine below_set ?_ GE191.out) | exact HB.out)⟩⟩
            · rw [if_neg c43] at H
              have c43b0 : (t192 == 0) = false := beq_eq_false_iff_ne.mpr c43
              have c43b1 : (t192 != 0) = true := bne_iff_ne.mpr c43
              (first | rw [c43b0] | (simp only [i64_w, i32_w]; rw [c43b0]) | skip)
              have H' := Aside0.mk H
              clear H
              go_wp2
              go_meet
              case rel => exact ⟨_, (t193), (x187000_1), (x187001_1), (x187002_1), (x187003_1), (x192000_1), (x192001_1), (x192002_1), (x192003_1), H', ⟨by have := HK1.out; first | omega | exact Nat.le_refl _⟩, ⟨by (with_reducible repeat (first | refine blk_drewN ?_ _ | refine blk_drew ?_ | refine blk_alloc ?_ _)); exact BK178.out⟩, ⟨by (with_reducible repeat (first | refine blk_drewN ?_ _ | refine blk_drew ?_ | refine blk_alloc ?_ _)); exact BK179.out⟩, ⟨by (with_reducible repeat (first | refine blk_drewN ?_ _ | refine blk_drew ?_ | refine blk_alloc ?_ _)); exact BK186.out⟩, ⟨by (with_reducible repeat (first | refine blk_drewN ?_ _ | refine blk_drew ?_ | refine blk_alloc ?_ _)); exact BK191.out⟩, ⟨by repeat (first | (with_reducible first | exact HI172.out | apply IsS26.alloc | apply IsS26.drewN | apply IsS26.drew | apply IsS26.set_1 | refine IsS26.far ?_ NB172_178.out _ | refine IsS26.far ?_ NB172_179.out _ | refine IsS26.far ?_ NB172_186.out _ | refine IsS26.far ?_ NB172_191.out _) | exact HI172.out)⟩, ⟨by repeat (first | (with_reducible first | exact HB.out | apply below_alloc | apply pw_below_drewN | apply below_drew1 | refine below_set ?_ (IsS26.ge HI172.out) | refine below_set ?_ GE178.out | refine below_set ?_ GE179.out | refine below_set ?_ GE186.out | refine below_set ?_ GE191.out) | exact HB.out)⟩⟩
          case rest =>
            clear HC41
            try clear c1
            try clear c2
            try clear p2
            try clear c3
            try clear c4
            try clear c5
            try clear c6
            try clear p6
            try clear c12
            try clear c13
            try clear c17
            try clear c18
            try clear c19
            try clear c22
            try clear c23
            try clear c24
            try clear c25
            try clear c26
            try clear c27
            try clear c33
            try clear c34
            try clear c35
            try clear c36
            try clear c39
            try clear c39b0
            try clear c43
            try clear c43b0
            try clear c43b1
            try clear c47
            try clear c48
            try clear c49
            try clear c50
            try clear c54
            try clear c55
            try clear c56
            try clear c61
            try clear c62
            try clear c64
            try clear p64
            try clear hcz13_0
            try clear hcz13_1
            try clear hcz13_2
            try clear hcz13_3
            try clear hcz15_0
            try clear hcz15_1
            try clear hcz15_2
            try clear hcz15_3
            try clear hcz19_0
            try clear hcz19_1
            try clear hcz19_2
            try clear hcz19_3
            try clear hcz21_0
            try clear hcz21_1
            try clear hcz21_2
            try clear hcz21_3
            try clear hcz28_0
            try clear hcz28_1
            try clear hcz28_2
            try clear hcz28_3
            try clear hcz30_0
            try clear hcz30_1
            try clear hcz30_2
            try clear hcz30_3
            try clear hcz37_0
            try clear hcz37_1
            try clear hcz37_2
            try clear hcz37_3
            try clear hcz51_0
            try clear hcz51_1
            try clear hcz51_2
            try clear hcz51_3
            try clear hcz53_0
            try clear hcz53_1
            try clear hcz53_2
            try clear hcz53_3
            try clear hcz57_0
            try clear hcz57_1
            try clear hcz57_2
            try clear hcz57_3
            try clear hcz59_0
            try clear hcz59_1
            try clear hcz59_2
            try clear hcz59_3
            try clear hcz63_0
            try clear hcz63_1
            try clear hcz63_2
            try clear hcz63_3
            try clear hcz65_0
            try clear hcz65_1
            try clear hcz65_2
            try clear hcz65_3
            try clear hcz67_0
            try clear hcz67_1
            try clear hcz67_2
            try clear hcz67_3
            try clear hfz13_0
            try clear hfz13_1
            try clear hfz13_2
            try clear hfz13_3
            try clear hfz15_0
            try clear hfz15_1
            try clear hfz15_2
            try clear hfz15_3
            try clear hfz19_0
            try clear hfz19_1
            try clear hfz19_2
            try clear hfz19_3
            try clear hfz21_0
            try clear hfz21_1
            try clear hfz21_2
            try clear hfz21_3
            try clear hfz28_0
            try clear hfz28_1
            try clear hfz28_2
            try clear hfz28_3
            try clear hfz30_0
            try clear hfz30_1
            try clear hfz30_2
            try clear hfz30_3
            try clear hfz37_0
            try clear hfz37_1
            try clear hfz37_2
            try clear hfz37_3
            try clear hfz51_0
            try clear hfz51_1
            try clear hfz51_2
            try clear hfz51_3
            try clear hfz53_0
            try clear hfz53_1
            try clear hfz53_2
            try clear hfz53_3
            try clear hfz57_0
            try clear hfz57_1
            try clear hfz57_2
            try clear hfz57_3
            try clear hfz59_0
            try clear hfz59_1
            try clear hfz59_2
            try clear hfz59_3
            try clear hfz63_0
            try clear hfz63_1
            try clear hfz63_2
            try clear hfz63_3
            try clear hfz65_0
            try clear hfz65_1
            try clear hfz65_2
            try clear hfz65_3
            try clear hfz67_0
            try clear hfz67_1
            try clear hfz67_2
            try clear hfz67_3
            try clear p2
            try clear p6
            obtain ⟨kq, x173001_40, x187000_40, x187001_40, x187002_40, x187003_40, x192000_40, x192001_40, x192002_40, x192003_40, HA, HJ40, BK178, BK179, BK186, BK191, HI172, HB⟩ := hcut
            cases kq with
            | zero => exact absurd HA.out (by simp [spykeep2_AxisMirror.j1])
            | succ kj40 =>
              have H := HA.out
              clear HA
              simp only [spykeep2_AxisMirror.j1] at H
              replace H := Option.bind_eq_some_iff.mp H
              obtain ⟨⟨t206, t207, t208, t209⟩, A690, H⟩ := H
              replace H : ((axis_Step.f kj40 (wrap64 (-t174)) (wrap64 (-t173)) t175 t176 x192000_40 x192001_40 x192002_40 x192003_40).bind fun bt210 => (if t206 = (wrap64 (-bt210.1)) then (if t207 = (wrap64 (-bt210.2.1)) then (if t208 = (wrap64 (-bt210.2.2.1)) then (spykeep2_AxisMirror.l0 kj40 (wrap64 (x35_1 + 1)) l0 x173001_40 t173 t174 t175 t176 (wrap64 (-t174)) (wrap64 (-t173)) t175 t176 t206 t207 t208 t209 bt210.1 bt210.2.1 bt210.2.2.1 bt210.2.2.2) else (some false)) else (some false)) else (some false))) = some r := H
              have A69 := Aside0.mk A690
              clear A690
              replace H := Option.bind_eq_some_iff.mp H
              obtain ⟨⟨t210, t211, t212, t213⟩, A700, H⟩ := H
              replace H : (if t206 = (wrap64 (-t210)) then (if t207 = (wrap64 (-t211)) then (if t208 = (wrap64 (-t212)) then (spykeep2_AxisMirror.l0 kj40 (wrap64 (x35_1 + 1)) l0 x173001_40 t173 t174 t175 t176 (wrap64 (-t174)) (wrap64 (-t173)) t175 t176 t206 t207 t208 t209 t210 t211 t212 t213) else (some false)) else (some false)) else (some false)) = some r := H
              have A70 := Aside0.mk A700
              clear A700
              by_cases c71 : t206 = (wrap64 (-t210))
              · rw [if_pos c71] at H
                have c71b0 : (t206 == (wrap64 (-t210))) = true := beq_iff_eq.mpr c71
                have c71b1 : (t206 != (wrap64 (-t210))) = false := bne_eq_false_iff_eq.mpr c71
                clear c71
                by_cases c72 : t207 = (wrap64 (-t211))
                · rw [if_pos c72] at H
                  have c72b0 : (t207 == (wrap64 (-t211))) = true := beq_iff_eq.mpr c72
                  have c72b1 : (t207 != (wrap64 (-t211))) = false := bne_eq_false_iff_eq.mpr c72
                  clear c72
                  by_cases c73 : t208 = (wrap64 (-t212))
                  · rw [if_pos c73] at H
                    have c73b0 : (t208 == (wrap64 (-t212))) = true := beq_iff_eq.mpr c73
                    have c73b1 : (t208 != (wrap64 (-t212))) = false := bne_eq_false_iff_eq.mpr c73
                    clear c73
                    have H' := Aside0.mk H
                    clear H
                    try go_wp2
                    have n0_ := Aside0.mk (blk_drew BK178.out)
                    have n1_ := Aside0.mk (blk_drew BK179.out)
                    have n2_ := Aside0.mk (blk_drew BK186.out)
                    have n3_ := Aside0.mk (blk_drew BK191.out)
                    have n4_ := Aside0.mk (IsS26.drew HI172.out)
                    have n5_ := Aside0.mk (below_drew1 HB.out)
                    clear BK178
                    clear BK179
                    clear BK186
                    clear BK191
                    clear HI172
                    clear HB
                    have BK178 := n0_
                    have BK179 := n1_
                    have BK186 := n2_
                    have BK191 := n3_
                    have HI172 := n4_
                    have HB := n5_
                    clear n0_ n1_ n2_ n3_ n4_ n5_
                    refine start_ (n := 8) (S := fun w' => w'.cell? ⟨gb178, 0, none⟩ = some (.int .i64 t173) ∧ w'.cell? ⟨gb178, 1, none⟩ = some (.int .i64 t174) ∧ w'.cell? ⟨gb178, 2, none⟩ = some (.int .i64 t175) ∧ w'.cell? ⟨gb178, 3, none⟩ = some (.int .i64 t176) ∧ w'.cell? ⟨gb186, 0, none⟩ = some (.int .i64 x187000_40) ∧ w'.cell? ⟨gb186, 1, none⟩ = some (.int .i64 x187001_40) ∧ w'.cell? ⟨gb186, 2, none⟩ = some (.int .i64 x187002_40) ∧ w'.cell? ⟨gb186, 3, none⟩ = some (.bool x187003_40) ∧ w'.cell? ⟨gb179, 0, none⟩ = some (.int .i64 (wrap64 (-t174))) ∧ w'.cell? ⟨gb179, 1, none⟩ = some (.int .i64 (wrap64 (-t173))) ∧ w'.cell? ⟨gb179, 2, none⟩ = some (.int .i64 t175) ∧ w'.cell? ⟨gb179, 3, none⟩ = some (.int .i64 t176) ∧ w'.cell? ⟨gb191, 0, none⟩ = some (.int .i64 x192000_40) ∧ w'.cell? ⟨gb191, 1, none⟩ = some (.int .i64 x192001_40) ∧ w'.cell? ⟨gb191, 2, none⟩ = some (.int .i64 x192002_40) ∧ w'.cell? ⟨gb191, 3, none⟩ = some (.bool x192003_40)) (ds := [6, 7]) #[false, false, false, false, false, false, false, false] (by kernel_rfl) rfl rfl ⟨(blk_cell BK178.out 0).trans rfl, (blk_cell BK178.out 1).trans rfl, (blk_cell BK178.out 2).trans rfl, (blk_cell BK178.out 3).trans rfl, (blk_cell BK186.out 0).trans rfl, (blk_cell BK186.out 1).trans rfl, (blk_cell BK186.out 2).trans rfl, (blk_cell BK186.out 3).trans rfl, (blk_cell BK179.out 0).trans rfl, (blk_cell BK179.out 1).trans rfl, (blk_cell BK179.out 2).trans rfl, (blk_cell BK179.out 3).trans rfl, (blk_cell BK191.out 0).trans rfl, (blk_cell BK191.out 1).trans rfl, (blk_cell BK191.out 2).trans rfl, (blk_cell BK191.out 3).trans rfl⟩ (fun hHeld => ?_); refine with_tabW spykeep2_AxisMirror.tab14 spykeep2_AxisMirror.bits14 (fun HT_ HW_ => ?_)
                    generalize wc.drew = w74 at BK178 BK179 BK186 BK191 HI172 HB hHeld ⊢
                    refine take_ (i := 0) (N := some 58) (v := ?_) (a' := ?_) #[true, false, false, false, false, false, false, false] rfl rfl (take_ofW HT_.out HW_.out (by kernel_rfl)) (fun _ _ _ h => h) (Or.inl ⟨by rfl, ?_⟩) hHeld ?_ ?_
                    rotate_left
                    · rintro w' ⟨s0, s1, s2, s3, s4, s5, s6, s7, s8, s9, s10, s11, s12, s13, s14, s15⟩
                      go_simp
                      with_reducible rfl
                    rotate_left
                    · simp only [Act.put, List.setIfInBounds_toArray, List.set_cons_zero, List.set_cons_succ, i64_w, i32_w]
                      rfl
                    refine take_ (i := 1) (N := some 59) (v := ?_) (a' := ?_) #[true, true, false, false, false, false, false, false] rfl rfl (take_ofW HT_.out HW_.out (by kernel_rfl)) (fun _ _ _ h => h) (Or.inl ⟨by rfl, ?_⟩) hHeld ?_ ?_
                    rotate_left
                    · rintro w' ⟨s0, s1, s2, s3, s4, s5, s6, s7, s8, s9, s10, s11, s12, s13, s14, s15⟩
                      go_simp
                      with_reducible rfl
                    rotate_left
                    · simp only [Act.put, List.setIfInBounds_toArray, List.set_cons_zero, List.set_cons_succ, i64_w, i32_w]
                      rfl
                    refine take_ (i := 3) (N := some 61) (v := ?_) (a' := ?_) #[true, true, false, true, false, false, false, false] rfl rfl (take_ofW HT_.out HW_.out (by kernel_rfl)) (fun _ _ _ h => h) (Or.inl ⟨by rfl, ?_⟩) hHeld ?_ ?_
                    rotate_left
                    · rintro w' ⟨s0, s1, s2, s3, s4, s5, s6, s7, s8, s9, s10, s11, s12, s13, s14, s15⟩
                      go_simp
                      with_reducible rfl
                    rotate_left
                    · simp only [Act.put, List.setIfInBounds_toArray, List.set_cons_zero, List.set_cons_succ, i64_w, i32_w]
                      rfl
                    refine take_ (i := 4) (N := some 62) (v := ?_) (a' := ?_) #[true, true, false, true, true, false, false, false] rfl rfl (take_ofW HT_.out HW_.out (by kernel_rfl)) (fun _ _ _ h => h) (Or.inl ⟨by rfl, ?_⟩) hHeld ?_ ?_
                    rotate_left
                    · rintro w' ⟨s0, s1, s2, s3, s4, s5, s6, s7, s8, s9, s10, s11, s12, s13, s14, s15⟩
                      go_simp
                      with_reducible rfl
                    rotate_left
                    · simp only [Act.put, List.setIfInBounds_toArray, List.set_cons_zero, List.set_cons_succ, i64_w, i32_w]
                      rfl
                    refine one_ (i := 2) (N := some 60) #[true, true, true, true, true, false, false, false] rfl rfl (one_of HT_.out (by kernel_rfl)) (by decide) (fun K hK => ?_)
                    refine goes_ Try.func25 (by kernel_rfl) rfl #[.agg #[.int .i64 t173, .int .i64 t174, .int .i64 t175, .int .i64 t176], .agg #[.int .i64 x187000_40, .int .i64 x187001_40, .int .i64 x187002_40, .bool x187003_40]] (by rfl) rfl rfl (by (try simp only [List.map_toArray, List.map_cons, List.map_nil]); first | done | rfl | (simp only [List.length_drop, List.length_take]; rfl)) ?_
                    with_reducible refine (axis_Step.calls kj40 t173 t174 t175 t176 x187000_40 x187001_40 x187002_40 x187003_40 t206 t207 t208 t209 _ A69.out).mono ?_
                    rintro e w75 ⟨rfl, hb⟩
                    refine ⟨_, rfl, ?_⟩
                    have n0_ := Aside0.mk (blk_below (g := gb178) (o := .cells #[.int .i64 t173, .int .i64 t174, .int .i64 t175, .int .i64 t176] 28 (0, 0)) (by (with_reducible repeat (first | refine blk_drewN ?_ _ | refine blk_drew ?_ | refine blk_alloc ?_ _)); exact BK178.out) hb)
                    have n1_ := Aside0.mk (blk_below (g := gb179) (o := .cells #[.int .i64 (wrap64 (-t174)), .int .i64 (wrap64 (-t173)), .int .i64 t175, .int .i64 t176] 28 (0, 0)) (by (with_reducible repeat (first | refine blk_drewN ?_ _ | refine blk_drew ?_ | refine blk_alloc ?_ _)); exact BK179.out) hb)
                    have n2_ := Aside0.mk (blk_below (g := gb186) (o := .cells #[.int .i64 x187000_40, .int .i64 x187001_40, .int .i64 x187002_40, .bool x187003_40] 45 (0, 0)) (by (with_reducible repeat (first | refine blk_drewN ?_ _ | refine blk_drew ?_ | refine blk_alloc ?_ _)); exact BK186.out) hb)
                    have n3_ := Aside0.mk (blk_below (g := gb191) (o := .cells #[.int .i64 x192000_40, .int .i64 x192001_40, .int .i64 x192002_40, .bool x192003_40] 45 (0, 0)) (by (with_reducible repeat (first | refine blk_drewN ?_ _ | refine blk_drew ?_ | refine blk_alloc ?_ _)); exact BK191.out) hb)
                    have n4_ := Aside0.mk (IsS26.below (by repeat (first | (with_reducible first | exact HI172.out | apply IsS26.alloc | apply IsS26.drewN | apply IsS26.drew | apply IsS26.set_1 | refine IsS26.far ?_ NB172_178.out _ | refine IsS26.far ?_ NB172_179.out _ | refine IsS26.far ?_ NB172_186.out _ | refine IsS26.far ?_ NB172_191.out _) | exact HI172.out)) hb)
                    have n5_ := Aside0.mk (below_step (by repeat (first | (with_reducible first | exact HB.out | apply below_alloc | apply pw_below_drewN | apply below_drew1 | refine below_set ?_ (IsS26.ge HI172.out) | refine below_set ?_ GE178.out | refine below_set ?_ GE179.out | refine below_set ?_ GE186.out | refine below_set ?_ GE191.out) | exact HB.out)) hb)
                    clear BK178
                    clear BK179
                    clear BK186
                    clear BK191
                    clear HI172
                    clear HB
                    have BK178 := n0_
                    have BK179 := n1_
                    have BK186 := n2_
                    have BK191 := n3_
                    have HI172 := n4_
                    have HB := n5_
                    clear n0_ n1_ n2_ n3_ n4_ n5_
                    (try clear hb)
                    (try clear hb2)
                    (try clear hk)
                    (try clear hi)
                    refine hK.out _ _ ⟨(blk_cell BK178.out 0).trans rfl, (blk_cell BK178.out 1).trans rfl, (blk_cell BK178.out 2).trans rfl, (blk_cell BK178.out 3).trans rfl, (blk_cell BK186.out 0).trans rfl, (blk_cell BK186.out 1).trans rfl, (blk_cell BK186.out 2).trans rfl, (blk_cell BK186.out 3).trans rfl, (blk_cell BK179.out 0).trans rfl, (blk_cell BK179.out 1).trans rfl, (blk_cell BK179.out 2).trans rfl, (blk_cell BK179.out 3).trans rfl, (blk_cell BK191.out 0).trans rfl, (blk_cell BK191.out 1).trans rfl, (blk_cell BK191.out 2).trans rfl, (blk_cell BK191.out 3).trans rfl⟩ (fun hHeld => ?_)
                    clear hK K
                    refine norm_ (a' := ?_) ?_ ?_
                    rotate_left
                    · show Act.put _ (some 60) _ = _
                      simp only [Act.put, List.setIfInBounds_toArray, List.set_cons_zero, List.set_cons_succ, i64_w, i32_w]
                      rfl
                    refine one_ (i := 5) (N := some 63) #[true, true, true, true, true, true, false, false] rfl rfl (one_of HT_.out (by kernel_rfl)) (by decide) (fun K hK => ?_)
                    refine goes_ Try.func25 (by kernel_rfl) rfl #[.agg #[.int .i64 (wrap64 (-t174)), .int .i64 (wrap64 (-t173)), .int .i64 t175, .int .i64 t176], .agg #[.int .i64 x192000_40, .int .i64 x192001_40, .int .i64 x192002_40, .bool x192003_40]] (by rfl) rfl rfl (by (try simp only [List.map_toArray, List.map_cons, List.map_nil]); first | done | rfl | (simp only [List.length_drop, List.length_take]; rfl)) ?_
                    with_reducible refine (axis_Step.calls kj40 (wrap64 (-t174)) (wrap64 (-t173)) t175 t176 x192000_40 x192001_40 x192002_40 x192003_40 t210 t211 t212 t213 _ A70.out).mono ?_
                    rintro e w76 ⟨rfl, hb⟩
                    refine ⟨_, rfl, ?_⟩
                    have n0_ := Aside0.mk (blk_below (g := gb178) (o := .cells #[.int .i64 t173, .int .i64 t174, .int .i64 t175, .int .i64 t176] 28 (0, 0)) (by (with_reducible repeat (first | refine blk_drewN ?_ _ | refine blk_drew ?_ | refine blk_alloc ?_ _)); exact BK178.out) hb)
                    have n1_ := Aside0.mk (blk_below (g := gb179) (o := .cells #[.int .i64 (wrap64 (-t174)), .int .i64 (wrap64 (-t173)), .int .i64 t175, .int .i64 t176] 28 (0, 0)) (by (with_reducible repeat (first | refine blk_drewN ?_ _ | refine blk_drew ?_ | refine blk_alloc ?_ _)); exact BK179.out) hb)
                    have n2_ := Aside0.mk (blk_below (g := gb186) (o := .cells #[.int .i64 x187000_40, .int .i64 x187001_40, .int .i64 x187002_40, .bool x187003_40] 45 (0, 0)) (by (with_reducible repeat (first | refine blk_drewN ?_ _ | refine blk_drew ?_ | refine blk_alloc ?_ _)); exact BK186.out) hb)
                    have n3_ := Aside0.mk (blk_below (g := gb191) (o := .cells #[.int .i64 x192000_40, .int .i64 x192001_40, .int .i64 x192002_40, .bool x192003_40] 45 (0, 0)) (by (with_reducible repeat (first | refine blk_drewN ?_ _ | refine blk_drew ?_ | refine blk_alloc ?_ _)); exact BK191.out) hb)
                    have n4_ := Aside0.mk (IsS26.below (by repeat (first | (with_reducible first | exact HI172.out | apply IsS26.alloc | apply IsS26.drewN | apply IsS26.drew | apply IsS26.set_1 | refine IsS26.far ?_ NB172_178.out _ | refine IsS26.far ?_ NB172_179.out _ | refine IsS26.far ?_ NB172_186.out _ | refine IsS26.far ?_ NB172_191.out _) | exact HI172.out)) hb)
                    have n5_ := Aside0.mk (below_step (by repeat (first | (with_reducible first | exact HB.out | apply below_alloc | apply pw_below_drewN | apply below_drew1 | refine below_set ?_ (IsS26.ge HI172.out) | refine below_set ?_ GE178.out | refine below_set ?_ GE179.out | refine below_set ?_ GE186.out | refine below_set ?_ GE191.out) | exact HB.out)) hb)
                    clear BK178
                    clear BK179
                    clear BK186
                    clear BK191
                    clear HI172
                    clear HB
                    have BK178 := n0_
                    have BK179 := n1_
                    have BK186 := n2_
                    have BK191 := n3_
                    have HI172 := n4_
                    have HB := n5_
                    clear n0_ n1_ n2_ n3_ n4_ n5_
                    (try clear hb)
                    (try clear hb2)
                    (try clear hk)
                    (try clear hi)
                    refine hK.out _ _ ⟨(blk_cell BK178.out 0).trans rfl, (blk_cell BK178.out 1).trans rfl, (blk_cell BK178.out 2).trans rfl, (blk_cell BK178.out 3).trans rfl, (blk_cell BK186.out 0).trans rfl, (blk_cell BK186.out 1).trans rfl, (blk_cell BK186.out 2).trans rfl, (blk_cell BK186.out 3).trans rfl, (blk_cell BK179.out 0).trans rfl, (blk_cell BK179.out 1).trans rfl, (blk_cell BK179.out 2).trans rfl, (blk_cell BK179.out 3).trans rfl, (blk_cell BK191.out 0).trans rfl, (blk_cell BK191.out 1).trans rfl, (blk_cell BK191.out 2).trans rfl, (blk_cell BK191.out 3).trans rfl⟩ (fun hHeld => ?_)
                    clear hK K
                    refine norm_ (a' := ?_) ?_ ?_
                    rotate_left
                    · show Act.put _ (some 63) _ = _
                      simp only [Act.put, List.setIfInBounds_toArray, List.set_cons_zero, List.set_cons_succ, i64_w, i32_w]
                      rfl
                    refine last_ (i := 6) (N := none) #[true, true, true, true, true, true, true, false] rfl rfl (one_of HT_.out (by kernel_rfl)) (by decide) (fun K hK => ?_)
                    have hs77 : w76.cell? ⟨gb186, 0, none⟩ = some (.int .i64 x187000_40) := (blk_cell BK186.out 0).trans rfl
                    have hfs77 := blk_frozen BK186.out 0
                    have hns77_0 := NB178_186.out
                    have hns77_1 := NB179_186.out
                    have hns77_3 := NB191_186.out
                    have hms77_0 := NB186_178.out
                    have hms77_1 := NB186_179.out
                    have hms77_3 := NB186_191.out
                    have hs78 : w76.cell? ⟨gb186, 1, none⟩ = some (.int .i64 x187001_40) := (blk_cell BK186.out 1).trans rfl
                    have hfs78 := blk_frozen BK186.out 1
                    have hns78_0 := NB178_186.out
                    have hns78_1 := NB179_186.out
                    have hns78_3 := NB191_186.out
                    have hms78_0 := NB186_178.out
                    have hms78_1 := NB186_179.out
                    have hms78_3 := NB186_191.out
                    have hs79 : w76.cell? ⟨gb186, 2, none⟩ = some (.int .i64 x187002_40) := (blk_cell BK186.out 2).trans rfl
                    have hfs79 := blk_frozen BK186.out 2
                    have hns79_0 := NB178_186.out
                    have hns79_1 := NB179_186.out
                    have hns79_3 := NB191_186.out
                    have hms79_0 := NB186_178.out
                    have hms79_1 := NB186_179.out
                    have hms79_3 := NB186_191.out
                    have hs80 : w76.cell? ⟨gb186, 3, none⟩ = some (.bool x187003_40) := (blk_cell BK186.out 3).trans rfl
                    have hfs80 := blk_frozen BK186.out 3
                    have hns80_0 := NB178_186.out
                    have hns80_1 := NB179_186.out
                    have hns80_3 := NB191_186.out
                    have hms80_0 := NB186_178.out
                    have hms80_1 := NB186_179.out
                    have hms80_3 := NB186_191.out
                    refine skip_ (w1 := ?_) (by rfl) rfl ?_ ?_
                    rotate_left
                    · go_simp
                      rfl
                    refine hK.out _ _ ?_
                    clear hK K
                    refine last_ (i := 7) (N := none) #[true, true, true, true, true, true, true, true] rfl rfl (one_of HT_.out (by kernel_rfl)) (by decide) (fun K hK => ?_)
                    have hs81 : w76.cell? ⟨gb191, 0, none⟩ = some (.int .i64 x192000_40) := (blk_cell BK191.out 0).trans rfl
                    have hfs81 := blk_frozen BK191.out 0
                    have hns81_0 := NB178_191.out
                    have hns81_1 := NB179_191.out
                    have hns81_2 := NB186_191.out
                    have hms81_0 := NB191_178.out
                    have hms81_1 := NB191_179.out
                    have hms81_2 := NB191_186.out
                    have hs82 : w76.cell? ⟨gb191, 1, none⟩ = some (.int .i64 x192001_40) := (blk_cell BK191.out 1).trans rfl
                    have hfs82 := blk_frozen BK191.out 1
                    have hns82_0 := NB178_191.out
                    have hns82_1 := NB179_191.out
                    have hns82_2 := NB186_191.out
                    have hms82_0 := NB191_178.out
                    have hms82_1 := NB191_179.out
                    have hms82_2 := NB191_186.out
                    have hs83 : w76.cell? ⟨gb191, 2, none⟩ = some (.int .i64 x192002_40) := (blk_cell BK191.out 2).trans rfl
                    have hfs83 := blk_frozen BK191.out 2
                    have hns83_0 := NB178_191.out
                    have hns83_1 := NB179_191.out
                    have hns83_2 := NB186_191.out
                    have hms83_0 := NB191_178.out
                    have hms83_1 := NB191_179.out
                    have hms83_2 := NB191_186.out
                    have hs84 : w76.cell? ⟨gb191, 3, none⟩ = some (.bool x192003_40) := (blk_cell BK191.out 3).trans rfl
                    have hfs84 := blk_frozen BK191.out 3
                    have hns84_0 := NB178_191.out
                    have hns84_1 := NB179_191.out
                    have hns84_2 := NB186_191.out
                    have hms84_0 := NB191_178.out
                    have hms84_1 := NB191_179.out
                    have hms84_2 := NB191_186.out
                    refine skip_ (w1 := ?_) (by rfl) rfl ?_ ?_
                    rotate_left
                    · go_simp
                      rfl
                    refine hK.out _ _ ?_
                    clear hK K
                    refine done_ (done_of HT_.out (by kernel_rfl)) ?_
                    have hnb85 := NB186_178.out
                    have hnc85 := NB178_186.out
                    have hnb86 := NB186_179.out
                    have hnc86 := NB179_186.out
                    have hnb87 := NB186_191.out
                    have hnc87 := NB191_186.out
                    have hnb88 := NB186_172.out
                    have hnc88 := NB172_186.out
                    have hcz89_0 : w76.cell? ⟨gb186, 0, none⟩ = some (.int .i64 x187000_40) := (blk_cell BK186.out 0).trans rfl
                    have hcz89_1 : w76.cell? ⟨gb186, 1, none⟩ = some (.int .i64 x187001_40) := (blk_cell BK186.out 1).trans rfl
                    have hcz89_2 : w76.cell? ⟨gb186, 2, none⟩ = some (.int .i64 x187002_40) := (blk_cell BK186.out 2).trans rfl
                    have hcz89_3 : w76.cell? ⟨gb186, 3, none⟩ = some (.bool x187003_40) := (blk_cell BK186.out 3).trans rfl
                    have hfz89_0 := blk_frozen BK186.out 0
                    have hfz89_1 := blk_frozen BK186.out 1
                    have hfz89_2 := blk_frozen BK186.out 2
                    have hfz89_3 := blk_frozen BK186.out 3
                    have hnb90 := NB191_178.out
                    have hnc90 := NB178_191.out
                    have hnb91 := NB191_179.out
                    have hnc91 := NB179_191.out
                    have hnb92 := NB191_172.out
                    have hnc92 := NB172_191.out
                    have hcz93_0 : w76.cell? ⟨gb191, 0, none⟩ = some (.int .i64 x192000_40) := (blk_cell BK191.out 0).trans rfl
                    have hcz93_1 : w76.cell? ⟨gb191, 1, none⟩ = some (.int .i64 x192001_40) := (blk_cell BK191.out 1).trans rfl
                    have hcz93_2 : w76.cell? ⟨gb191, 2, none⟩ = some (.int .i64 x192002_40) := (blk_cell BK191.out 2).trans rfl
                    have hcz93_3 : w76.cell? ⟨gb191, 3, none⟩ = some (.bool x192003_40) := (blk_cell BK191.out 3).trans rfl
                    have hfz93_0 := blk_frozen BK191.out 0
                    have hfz93_1 := blk_frozen BK191.out 1
                    have hfz93_2 := blk_frozen BK191.out 2
                    have hfz93_3 := blk_frozen BK191.out 3
                    try go_wp2
                    go_roundg kj40
                    case measure => have := HK1.out; have := HJ40.out; omega
                    case rel => exact ⟨(wrap64 (x35_1 + 1)), (x173001_40), (t206), (t207), (t208), (t209), (t210), (t211), (t212), (t213), (by first | rfl | (simp; done) | (simp [*]; done)), H', ⟨by have := HK1.out; have := HJ40.out; omega⟩, ⟨by (with_reducible repeat (first | refine blk_drewN ?_ _ | refine blk_drew ?_ | refine blk_alloc ?_ _)); refine blk_far ?_ NB178_191.out _; (with_reducible repeat (first | refine blk_drewN ?_ _ | refine blk_drew ?_ | refine blk_alloc ?_ _)); refine blk_far ?_ NB178_191.out _; (with_reducible repeat (first | refine blk_drewN ?_ _ | refine blk_drew ?_ | refine blk_alloc ?_ _)); refine blk_far ?_ NB178_191.out _; (with_reducible repeat (first | refine blk_drewN ?_ _ | refine blk_drew ?_ | refine blk_alloc ?_ _)); refine blk_far ?_ NB178_191.out _; (with_reducible repeat (first | refine blk_drewN ?_ _ | refine blk_drew ?_ | refine blk_alloc ?_ _)); refine blk_far ?_ NB178_186.out _; (with_reducible repeat (first | refine blk_drewN ?_ _ | refine blk_drew ?_ | refine blk_alloc ?_ _)); refine blk_far ?_ NB178_186.out _; (with_reducible repeat (first | refine blk_drewN ?_ _ | refine blk_drew ?_ | refine blk_alloc ?_ _)); refine blk_far ?_ NB178_186.out _; (with_reducible repeat (first | refine blk_drewN ?_ _ | refine blk_drew ?_ | refine blk_alloc ?_ _)); refine blk_far ?_ NB178_186.out _; (with_reducible repeat (first | refine blk_drewN ?_ _ | refine blk_drew ?_ | refine blk_alloc ?_ _)); exact BK178.out⟩, ⟨by (with_reducible repeat (first | refine blk_drewN ?_ _ | refine blk_drew ?_ | refine blk_alloc ?_ _)); refine blk_far ?_ NB179_191.out _; (with_reducible repeat (first | refine blk_drewN ?_ _ | refine blk_drew ?_ | refine blk_alloc ?_ _)); refine blk_far ?_ NB179_191.out _; (with_reducible repeat (first | refine blk_drewN ?_ _ | refine blk_drew ?_ | refine blk_alloc ?_ _)); refine blk_far ?_ NB179_191.out _; (with_reducible repeat (first | refine blk_drewN ?_ _ | refine blk_drew ?_ | refine blk_alloc ?_ _)); refine blk_far ?_ NB179_191.out _; (with_reducible repeat (first | refine blk_drewN ?_ _ | refine blk_drew ?_ | refine blk_alloc ?_ _)); refine blk_far ?_ NB179_186.out _; (with_reducible repeat (first | refine blk_drewN ?_ _ | refine blk_drew ?_ | refine blk_alloc ?_ _)); refine blk_far ?_ NB179_186.out _; (with_reducible repeat (first | refine blk_drewN ?_ _ | refine blk_drew ?_ | refine blk_alloc ?_ _)); refine blk_far ?_ NB179_186.out _; (with_reducible repeat (first | refine blk_drewN ?_ _ | refine blk_drew ?_ | refine blk_alloc ?_ _)); refine blk_far ?_ NB179_186.out _; (with_reducible repeat (first | refine blk_drewN ?_ _ | refine blk_drew ?_ | refine blk_alloc ?_ _)); exact BK179.out⟩, ⟨by (with_reducible repeat (first | refine blk_drewN ?_ _ | refine blk_drew ?_ | refine blk_alloc ?_ _)); refine blk_far ?_ NB186_191.out _; (with_reducible repeat (first | refine blk_drewN ?_ _ | refine blk_drew ?_ | refine blk_alloc ?_ _)); refine blk_far ?_ NB186_191.out _; (with_reducible repeat (first | refine blk_drewN ?_ _ | refine blk_drew ?_ | refine blk_alloc ?_ _)); refine blk_far ?_ NB186_191.out _; (with_reducible repeat (first | refine blk_drewN ?_ _ | refine blk_drew ?_ | refine blk_alloc ?_ _)); refine blk_far ?_ NB186_191.out _; (with_reducible repeat (first | refine blk_drewN ?_ _ | refine blk_drew ?_ | refine blk_alloc ?_ _)); refine blk_put (cs := #[.int .i64 t206, .int .i64 t207, .int .i64 t208, .bool x187003_40]) ?_ 3 _ rfl; (with_reducible repeat (first | refine blk_drewN ?_ _ | refine blk_drew ?_ | refine blk_alloc ?_ _)); refine blk_put (cs := #[.int .i64 t206, .int .i64 t207, .int .i64 x187002_40, .bool x187003_40]) ?_ 2 _ rfl; (with_reducible repeat (first | refine blk_drewN ?_ _ | refine blk_drew ?_ | refine blk_alloc ?_ _)); refine blk_put (cs := #[.int .i64 t206, .int .i64 x187001_40, .int .i64 x187002_40, .bool x187003_40]) ?_ 1 _ rfl; (with_reducible repeat (first | refine blk_drewN ?_ _ | refine blk_drew ?_ | refine blk_alloc ?_ _)); refine blk_put (cs := #[.int .i64 x187000_40, .int .i64 x187001_40, .int .i64 x187002_40, .bool x187003_40]) ?_ 0 _ rfl; (with_reducible repeat (first | refine blk_drewN ?_ _ | refine blk_drew ?_ | refine blk_alloc ?_ _)); exact BK186.out⟩, ⟨by (with_reducible repeat (first | refine blk_drewN ?_ _ | refine blk_drew ?_ | refine blk_alloc ?_ _)); refine blk_put (cs := #[.int .i64 t210, .int .i64 t211, .int .i64 t212, .bool x192003_40]) ?_ 3 _ rfl; (with_reducible repeat (first | refine blk_drewN ?_ _ | refine blk_drew ?_ | refine blk_alloc ?_ _)); refine blk_put (cs := #[.int .i64 t210, .int .i64 t211, .int .i64 x192002_40, .bool x192003_40]) ?_ 2 _ rfl; (with_reducible repeat (first | refine blk_drewN ?_ _ | refine blk_drew ?_ | refine blk_alloc ?_ _)); refine blk_put (cs := #[.int .i64 t210, .int .i64 x192001_40, .int .i64 x192002_40, .bool x192003_40]) ?_ 1 _ rfl; (with_reducible repeat (first | refine blk_drewN ?_ _ | refine blk_drew ?_ | refine blk_alloc ?_ _)); refine blk_put (cs := #[.int .i64 x192000_40, .int .i64 x192001_40, .int .i64 x192002_40, .bool x192003_40]) ?_ 0 _ rfl; (with_reducible repeat (first | refine blk_drewN ?_ _ | refine blk_drew ?_ | refine blk_alloc ?_ _)); refine blk_far ?_ NB191_186.out _; (with_reducible repeat (first | refine blk_drewN ?_ _ | refine blk_drew ?_ | refine blk_alloc ?_ _)); refine blk_far ?_ NB191_186.out _; (with_reducible repeat (first | refine blk_drewN ?_ _ | refine blk_drew ?_ | refine blk_alloc ?_ _)); refine blk_far ?_ NB191_186.out _; (with_reducible repeat (first | refine blk_drewN ?_ _ | refine blk_drew ?_ | refine blk_alloc ?_ _)); refine blk_far ?_ NB191_186.out _; (with_reducible repeat (first | refine blk_drewN ?_ _ | refine blk_drew ?_ | refine blk_alloc ?_ _)); exact BK191.out⟩, ⟨by repeat (first | (with_reducible first | exact HI172.out | apply IsS26.alloc | apply IsS26.drewN | apply IsS26.drew | apply IsS26.set_1 | refine IsS26.far ?_ NB172_178.out _ | refine IsS26.far ?_ NB172_179.out _ | refine IsS26.far ?_ NB172_186.out _ | refine IsS26.far ?_ NB172_191.out _) | exact HI172.out)⟩, ⟨by repeat (first | (with_reducible first | exact HB.out | apply below_alloc | apply pw_below_drewN | apply below_drew1 | refine below_set ?_ (IsS26.ge HI172.out) | refine below_set ?_ GE178.out | refine below_set ?_ GE179.out | refine below_set ?_ GE186.out | refine below_set ?_ GE191.out) | exact HB.out)⟩⟩
                  · rw [if_neg c73] at H
                    have c73b0 : (t208 == (wrap64 (-t212))) = false := beq_eq_false_iff_ne.mpr c73
                    have c73b1 : (t208 != (wrap64 (-t212))) = true := bne_iff_ne.mpr c73
                    obtain rfl := Option.some.inj H
                    try go_wp2
                    have n0_ := Aside0.mk (blk_drew BK178.out)
                    have n1_ := Aside0.mk (blk_drew BK179.out)
                    have n2_ := Aside0.mk (blk_drew BK186.out)
                    have n3_ := Aside0.mk (blk_drew BK191.out)
                    have n4_ := Aside0.mk (IsS26.drew HI172.out)
                    have n5_ := Aside0.mk (below_drew1 HB.out)
                    clear BK178
                    clear BK179
                    clear BK186
                    clear BK191
                    clear HI172
                    clear HB
                    have BK178 := n0_
                    have BK179 := n1_
                    have BK186 := n2_
                    have BK191 := n3_
                    have HI172 := n4_
                    have HB := n5_
                    clear n0_ n1_ n2_ n3_ n4_ n5_
                    refine start_ (n := 8) (S := fun w' => w'.cell? ⟨gb178, 0, none⟩ = some (.int .i64 t173) ∧ w'.cell? ⟨gb178, 1, none⟩ = some (.int .i64 t174) ∧ w'.cell? ⟨gb178, 2, none⟩ = some (.int .i64 t175) ∧ w'.cell? ⟨gb178, 3, none⟩ = some (.int .i64 t176) ∧ w'.cell? ⟨gb186, 0, none⟩ = some (.int .i64 x187000_40) ∧ w'.cell? ⟨gb186, 1, none⟩ = some (.int .i64 x187001_40) ∧ w'.cell? ⟨gb186, 2, none⟩ = some (.int .i64 x187002_40) ∧ w'.cell? ⟨gb186, 3, none⟩ = some (.bool x187003_40) ∧ w'.cell? ⟨gb179, 0, none⟩ = some (.int .i64 (wrap64 (-t174))) ∧ w'.cell? ⟨gb179, 1, none⟩ = some (.int .i64 (wrap64 (-t173))) ∧ w'.cell? ⟨gb179, 2, none⟩ = some (.int .i64 t175) ∧ w'.cell? ⟨gb179, 3, none⟩ = some (.int .i64 t176) ∧ w'.cell? ⟨gb191, 0, none⟩ = some (.int .i64 x192000_40) ∧ w'.cell? ⟨gb191, 1, none⟩ = some (.int .i64 x192001_40) ∧ w'.cell? ⟨gb191, 2, none⟩ = some (.int .i64 x192002_40) ∧ w'.cell? ⟨gb191, 3, none⟩ = some (.bool x192003_40)) (ds := [6, 7]) #[false, false, false, false, false, false, false, false] (by kernel_rfl) rfl rfl ⟨(blk_cell BK178.out 0).trans rfl, (blk_cell BK178.out 1).trans rfl, (blk_cell BK178.out 2).trans rfl, (blk_cell BK178.out 3).trans rfl, (blk_cell BK186.out 0).trans rfl, (blk_cell BK186.out 1).trans rfl, (blk_cell BK186.out 2).trans rfl, (blk_cell BK186.out 3).trans rfl, (blk_cell BK179.out 0).trans rfl, (blk_cell BK179.out 1).trans rfl, (blk_cell BK179.out 2).trans rfl, (blk_cell BK179.out 3).trans rfl, (blk_cell BK191.out 0).trans rfl, (blk_cell BK191.out 1).trans rfl, (blk_cell BK191.out 2).trans rfl, (blk_cell BK191.out 3).trans rfl⟩ (fun hHeld => ?_); refine with_tabW spykeep2_AxisMirror.tab14 spykeep2_AxisMirror.bits14 (fun HT_ HW_ => ?_)
                    generalize wc.drew = w94 at BK178 BK179 BK186 BK191 HI172 HB hHeld ⊢
                    refine take_ (i := 0) (N := some 58) (v := ?_) (a' := ?_) #[true, false, false, false, false, false, false, false] rfl rfl (take_ofW HT_.out HW_.out (by kernel_rfl)) (fun _ _ _ h => h) (Or.inl ⟨by rfl, ?_⟩) hHeld ?_ ?_
                    rotate_left
                    · rintro w' ⟨s0, s1, s2, s3, s4, s5, s6, s7, s8, s9, s10, s11, s12, s13, s14, s15⟩
                      go_simp
                      with_reducible rfl
                    rotate_left
                    · simp only [Act.put, List.setIfInBounds_toArray, List.set_cons_zero, List.set_cons_succ, i64_w, i32_w]
                      rfl
                    refine take_ (i := 1) (N := some 59) (v := ?_) (a' := ?_) #[true, true, false, false, false, false, false, false] rfl rfl (take_ofW HT_.out HW_.out (by kernel_rfl)) (fun _ _ _ h => h) (Or.inl ⟨by rfl, ?_⟩) hHeld ?_ ?_
                    rotate_left
                    · rintro w' ⟨s0, s1, s2, s3, s4, s5, s6, s7, s8, s9, s10, s11, s12, s13, s14, s15⟩
                      go_simp
                      with_reducible rfl
                    rotate_left
                    · simp only [Act.put, List.setIfInBounds_toArray, List.set_cons_zero, List.set_cons_succ, i64_w, i32_w]
                      rfl
                    refine take_ (i := 3) (N := some 61) (v := ?_) (a' := ?_) #[true, true, false, true, false, false, false, false] rfl rfl (take_ofW HT_.out HW_.out (by kernel_rfl)) (fun _ _ _ h => h) (Or.inl ⟨by rfl, ?_⟩) hHeld ?_ ?_
                    rotate_left
                    · rintro w' ⟨s0, s1, s2, s3, s4, s5, s6, s7, s8, s9, s10, s11, s12, s13, s14, s15⟩
                      go_simp
                      with_reducible rfl
                    rotate_left
                    · simp only [Act.put, List.setIfInBounds_toArray, List.set_cons_zero, List.set_cons_succ, i64_w, i32_w]
                      rfl
                    refine take_ (i := 4) (N := some 62) (v := ?_) (a' := ?_) #[true, true, false, true, true, false, false, false] rfl rfl (take_ofW HT_.out HW_.out (by kernel_rfl)) (fun _ _ _ h => h) (Or.inl ⟨by rfl, ?_⟩) hHeld ?_ ?_
                    rotate_left
                    · rintro w' ⟨s0, s1, s2, s3, s4, s5, s6, s7, s8, s9, s10, s11, s12, s13, s14, s15⟩
                      go_simp
                      with_reducible rfl
                    rotate_left
                    · simp only [Act.put, List.setIfInBounds_toArray, List.set_cons_zero, List.set_cons_succ, i64_w, i32_w]
                      rfl
                    refine one_ (i := 2) (N := some 60) #[true, true, true, true, true, false, false, false] rfl rfl (one_of HT_.out (by kernel_rfl)) (by decide) (fun K hK => ?_)
                    refine goes_ Try.func25 (by kernel_rfl) rfl #[.agg #[.int .i64 t173, .int .i64 t174, .int .i64 t175, .int .i64 t176], .agg #[.int .i64 x187000_40, .int .i64 x187001_40, .int .i64 x187002_40, .bool x187003_40]] (by rfl) rfl rfl (by (try simp only [List.map_toArray, List.map_cons, List.map_nil]); first | done | rfl | (simp only [List.length_drop, List.length_take]; rfl)) ?_
                    with_reducible refine (axis_Step.calls kj40 t173 t174 t175 t176 x187000_40 x187001_40 x187002_40 x187003_40 t206 t207 t208 t209 _ A69.out).mono ?_
                    rintro e w95 ⟨rfl, hb⟩
                    refine ⟨_, rfl, ?_⟩
                    have n0_ := Aside0.mk (blk_below (g := gb178) (o := .cells #[.int .i64 t173, .int .i64 t174, .int .i64 t175, .int .i64 t176] 28 (0, 0)) (by (with_reducible repeat (first | refine blk_drewN ?_ _ | refine blk_drew ?_ | refine blk_alloc ?_ _)); exact BK178.out) hb)
                    have n1_ := Aside0.mk (blk_below (g := gb179) (o := .cells #[.int .i64 (wrap64 (-t174)), .int .i64 (wrap64 (-t173)), .int .i64 t175, .int .i64 t176] 28 (0, 0)) (by (with_reducible repeat (first | refine blk_drewN ?_ _ | refine blk_drew ?_ | refine blk_alloc ?_ _)); exact BK179.out) hb)
                    have n2_ := Aside0.mk (blk_below (g := gb186) (o := .cells #[.int .i64 x187000_40, .int .i64 x187001_40, .int .i64 x187002_40, .bool x187003_40] 45 (0, 0)) (by (with_reducible repeat (first | refine blk_drewN ?_ _ | refine blk_drew ?_ | refine blk_alloc ?_ _)); exact BK186.out) hb)
                    have n3_ := Aside0.mk (blk_below (g := gb191) (o := .cells #[.int .i64 x192000_40, .int .i64 x192001_40, .int .i64 x192002_40, .bool x192003_40] 45 (0, 0)) (by (with_reducible repeat (first | refine blk_drewN ?_ _ | refine blk_drew ?_ | refine blk_alloc ?_ _)); exact BK191.out) hb)
                    have n4_ := Aside0.mk (IsS26.below (by repeat (first | (with_reducible first | exact HI172.out | apply IsS26.alloc | apply IsS26.drewN | apply IsS26.drew | apply IsS26.set_1 | refine IsS26.far ?_ NB172_178.out _ | refine IsS26.far ?_ NB172_179.out _ | refine IsS26.far ?_ NB172_186.out _ | refine IsS26.far ?_ NB172_191.out _) | exact HI172.out)) hb)
                    have n5_ := Aside0.mk (below_step (by repeat (first | (with_reducible first | exact HB.out | apply below_alloc | apply pw_below_drewN | apply below_drew1 | refine below_set ?_ (IsS26.ge HI172.out) | refine below_set ?_ GE178.out | refine below_set ?_ GE179.out | refine below_set ?_ GE186.out | refine below_set ?_ GE191.out) | exact HB.out)) hb)
                    clear BK178
                    clear BK179
                    clear BK186
                    clear BK191
                    clear HI172
                    clear HB
                    have BK178 := n0_
                    have BK179 := n1_
                    have BK186 := n2_
                    have BK191 := n3_
                    have HI172 := n4_
                    have HB := n5_
                    clear n0_ n1_ n2_ n3_ n4_ n5_
                    (try clear hb)
                    (try clear hb2)
                    (try clear hk)
                    (try clear hi)
                    refine hK.out _ _ ⟨(blk_cell BK178.out 0).trans rfl, (blk_cell BK178.out 1).trans rfl, (blk_cell BK178.out 2).trans rfl, (blk_cell BK178.out 3).trans rfl, (blk_cell BK186.out 0).trans rfl, (blk_cell BK186.out 1).trans rfl, (blk_cell BK186.out 2).trans rfl, (blk_cell BK186.out 3).trans rfl, (blk_cell BK179.out 0).trans rfl, (blk_cell BK179.out 1).trans rfl, (blk_cell BK179.out 2).trans rfl, (blk_cell BK179.out 3).trans rfl, (blk_cell BK191.out 0).trans rfl, (blk_cell BK191.out 1).trans rfl, (blk_cell BK191.out 2).trans rfl, (blk_cell BK191.out 3).trans rfl⟩ (fun hHeld => ?_)
                    clear hK K
                    refine norm_ (a' := ?_) ?_ ?_
                    rotate_left
                    · show Act.put _ (some 60) _ = _
                      simp only [Act.put, List.setIfInBounds_toArray, List.set_cons_zero, List.set_cons_succ, i64_w, i32_w]
                      rfl
                    refine one_ (i := 5) (N := some 63) #[true, true, true, true, true, true, false, false] rfl rfl (one_of HT_.out (by kernel_rfl)) (by decide) (fun K hK => ?_)
                    refine goes_ Try.func25 (by kernel_rfl) rfl #[.agg #[.int .i64 (wrap64 (-t174)), .int .i64 (wrap64 (-t173)), .int .i64 t175, .int .i64 t176], .agg #[.int .i64 x192000_40, .int .i64 x192001_40, .int .i64 x192002_40, .bool x192003_40]] (by rfl) rfl rfl (by (try simp only [List.map_toArray, List.map_cons, List.map_nil]); first | done | rfl | (simp only [List.length_drop, List.length_take]; rfl)) ?_
                    with_reducible refine (axis_Step.calls kj40 (wrap64 (-t174)) (wrap64 (-t173)) t175 t176 x192000_40 x192001_40 x192002_40 x192003_40 t210 t211 t212 t213 _ A70.out).mono ?_
                    rintro e w96 ⟨rfl, hb⟩
                    refine ⟨_, rfl, ?_⟩
                    have n0_ := Aside0.mk (blk_below (g := gb178) (o := .cells #[.int .i64 t173, .int .i64 t174, .int .i64 t175, .int .i64 t176] 28 (0, 0)) (by (with_reducible repeat (first | refine blk_drewN ?_ _ | refine blk_drew ?_ | refine blk_alloc ?_ _)); exact BK178.out) hb)
                    have n1_ := Aside0.mk (blk_below (g := gb179) (o := .cells #[.int .i64 (wrap64 (-t174)), .int .i64 (wrap64 (-t173)), .int .i64 t175, .int .i64 t176] 28 (0, 0)) (by (with_reducible repeat (first | refine blk_drewN ?_ _ | refine blk_drew ?_ | refine blk_alloc ?_ _)); exact BK179.out) hb)
                    have n2_ := Aside0.mk (blk_below (g := gb186) (o := .cells #[.int .i64 x187000_40, .int .i64 x187001_40, .int .i64 x187002_40, .bool x187003_40] 45 (0, 0)) (by (with_reducible repeat (first | refine blk_drewN ?_ _ | refine blk_drew ?_ | refine blk_alloc ?_ _)); exact BK186.out) hb)
                    have n3_ := Aside0.mk (blk_below (g := gb191) (o := .cells #[.int .i64 x192000_40, .int .i64 x192001_40, .int .i64 x192002_40, .bool x192003_40] 45 (0, 0)) (by (with_reducible repeat (first | refine blk_drewN ?_ _ | refine blk_drew ?_ | refine blk_alloc ?_ _)); exact BK191.out) hb)
                    have n4_ := Aside0.mk (IsS26.below (by repeat (first | (with_reducible first | exact HI172.out | apply IsS26.alloc | apply IsS26.drewN | apply IsS26.drew | apply IsS26.set_1 | refine IsS26.far ?_ NB172_178.out _ | refine IsS26.far ?_ NB172_179.out _ | refine IsS26.far ?_ NB172_186.out _ | refine IsS26.far ?_ NB172_191.out _) | exact HI172.out)) hb)
                    have n5_ := Aside0.mk (below_step (by repeat (first | (with_reducible first | exact HB.out | apply below_alloc | apply pw_below_drewN | apply below_drew1 | refine below_set ?_ (IsS26.ge HI172.out) | refine below_set ?_ GE178.out | refine below_set ?_ GE179.out | refine below_set ?_ GE186.out | refine below_set ?_ GE191.out) | exact HB.out)) hb)
                    clear BK178
                    clear BK179
                    clear BK186
                    clear BK191
                    clear HI172
                    clear HB
                    have BK178 := n0_
                    have BK179 := n1_
                    have BK186 := n2_
                    have BK191 := n3_
                    have HI172 := n4_
                    have HB := n5_
                    clear n0_ n1_ n2_ n3_ n4_ n5_
                    (try clear hb)
                    (try clear hb2)
                    (try clear hk)
                    (try clear hi)
                    refine hK.out _ _ ⟨(blk_cell BK178.out 0).trans rfl, (blk_cell BK178.out 1).trans rfl, (blk_cell BK178.out 2).trans rfl, (blk_cell BK178.out 3).trans rfl, (blk_cell BK186.out 0).trans rfl, (blk_cell BK186.out 1).trans rfl, (blk_cell BK186.out 2).trans rfl, (blk_cell BK186.out 3).trans rfl, (blk_cell BK179.out 0).trans rfl, (blk_cell BK179.out 1).trans rfl, (blk_cell BK179.out 2).trans rfl, (blk_cell BK179.out 3).trans rfl, (blk_cell BK191.out 0).trans rfl, (blk_cell BK191.out 1).trans rfl, (blk_cell BK191.out 2).trans rfl, (blk_cell BK191.out 3).trans rfl⟩ (fun hHeld => ?_)
                    clear hK K
                    refine norm_ (a' := ?_) ?_ ?_
                    rotate_left
                    · show Act.put _ (some 63) _ = _
                      simp only [Act.put, List.setIfInBounds_toArray, List.set_cons_zero, List.set_cons_succ, i64_w, i32_w]
                      rfl
                    refine last_ (i := 6) (N := none) #[true, true, true, true, true, true, true, false] rfl rfl (one_of HT_.out (by kernel_rfl)) (by decide) (fun K hK => ?_)
                    have hs97 : w96.cell? ⟨gb186, 0, none⟩ = some (.int .i64 x187000_40) := (blk_cell BK186.out 0).trans rfl
                    have hfs97 := blk_frozen BK186.out 0
                    have hns97_0 := NB178_186.out
                    have hns97_1 := NB179_186.out
                    have hns97_3 := NB191_186.out
                    have hms97_0 := NB186_178.out
                    have hms97_1 := NB186_179.out
                    have hms97_3 := NB186_191.out
                    have hs98 : w96.cell? ⟨gb186, 1, none⟩ = some (.int .i64 x187001_40) := (blk_cell BK186.out 1).trans rfl
                    have hfs98 := blk_frozen BK186.out 1
                    have hns98_0 := NB178_186.out
                    have hns98_1 := NB179_186.out
                    have hns98_3 := NB191_186.out
                    have hms98_0 := NB186_178.out
                    have hms98_1 := NB186_179.out
                    have hms98_3 := NB186_191.out
                    have hs99 : w96.cell? ⟨gb186, 2, none⟩ = some (.int .i64 x187002_40) := (blk_cell BK186.out 2).trans rfl
                    have hfs99 := blk_frozen BK186.out 2
                    have hns99_0 := NB178_186.out
                    have hns99_1 := NB179_186.out
                    have hns99_3 := NB191_186.out
                    have hms99_0 := NB186_178.out
                    have hms99_1 := NB186_179.out
                    have hms99_3 := NB186_191.out
                    have hs100 : w96.cell? ⟨gb186, 3, none⟩ = some (.bool x187003_40) := (blk_cell BK186.out 3).trans rfl
                    have hfs100 := blk_frozen BK186.out 3
                    have hns100_0 := NB178_186.out
                    have hns100_1 := NB179_186.out
                    have hns100_3 := NB191_186.out
                    have hms100_0 := NB186_178.out
                    have hms100_1 := NB186_179.out
                    have hms100_3 := NB186_191.out
                    refine skip_ (w1 := ?_) (by rfl) rfl ?_ ?_
                    rotate_left
                    · go_simp
                      rfl
                    refine hK.out _ _ ?_
                    clear hK K
                    refine last_ (i := 7) (N := none) #[true, true, true, true, true, true, true, true] rfl rfl (one_of HT_.out (by kernel_rfl)) (by decide) (fun K hK => ?_)
                    have hs101 : w96.cell? ⟨gb191, 0, none⟩ = some (.int .i64 x192000_40) := (blk_cell BK191.out 0).trans rfl
                    have hfs101 := blk_frozen BK191.out 0
                    have hns101_0 := NB178_191.out
                    have hns101_1 := NB179_191.out
                    have hns101_2 := NB186_191.out
                    have hms101_0 := NB191_178.out
                    have hms101_1 := NB191_179.out
                    have hms101_2 := NB191_186.out
                    have hs102 : w96.cell? ⟨gb191, 1, none⟩ = some (.int .i64 x192001_40) := (blk_cell BK191.out 1).trans rfl
                    have hfs102 := blk_frozen BK191.out 1
                    have hns102_0 := NB178_191.out
                    have hns102_1 := NB179_191.out
                    have hns102_2 := NB186_191.out
                    have hms102_0 := NB191_178.out
                    have hms102_1 := NB191_179.out
                    have hms102_2 := NB191_186.out
                    have hs103 : w96.cell? ⟨gb191, 2, none⟩ = some (.int .i64 x192002_40) := (blk_cell BK191.out 2).trans rfl
                    have hfs103 := blk_frozen BK191.out 2
                    have hns103_0 := NB178_191.out
                    have hns103_1 := NB179_191.out
                    have hns103_2 := NB186_191.out
                    have hms103_0 := NB191_178.out
                    have hms103_1 := NB191_179.out
                    have hms103_2 := NB191_186.out
                    have hs104 : w96.cell? ⟨gb191, 3, none⟩ = some (.bool x192003_40) := (blk_cell BK191.out 3).trans rfl
                    have hfs104 := blk_frozen BK191.out 3
                    have hns104_0 := NB178_191.out
                    have hns104_1 := NB179_191.out
                    have hns104_2 := NB186_191.out
                    have hms104_0 := NB191_178.out
                    have hms104_1 := NB191_179.out
                    have hms104_2 := NB191_186.out
                    refine skip_ (w1 := ?_) (by rfl) rfl ?_ ?_
                    rotate_left
                    · go_simp
                      rfl
                    refine hK.out _ _ ?_
                    clear hK K
                    refine done_ (done_of HT_.out (by kernel_rfl)) ?_
                    have hnb105 := NB186_178.out
                    have hnc105 := NB178_186.out
                    have hnb106 := NB186_179.out
                    have hnc106 := NB179_186.out
                    have hnb107 := NB186_191.out
                    have hnc107 := NB191_186.out
                    have hnb108 := NB186_172.out
                    have hnc108 := NB172_186.out
                    have hcz109_0 : w96.cell? ⟨gb186, 0, none⟩ = some (.int .i64 x187000_40) := (blk_cell BK186.out 0).trans rfl
                    have hcz109_1 : w96.cell? ⟨gb186, 1, none⟩ = some (.int .i64 x187001_40) := (blk_cell BK186.out 1).trans rfl
                    have hcz109_2 : w96.cell? ⟨gb186, 2, none⟩ = some (.int .i64 x187002_40) := (blk_cell BK186.out 2).trans rfl
                    have hcz109_3 : w96.cell? ⟨gb186, 3, none⟩ = some (.bool x187003_40) := (blk_cell BK186.out 3).trans rfl
                    have hfz109_0 := blk_frozen BK186.out 0
                    have hfz109_1 := blk_frozen BK186.out 1
                    have hfz109_2 := blk_frozen BK186.out 2
                    have hfz109_3 := blk_frozen BK186.out 3
                    have hnb110 := NB191_178.out
                    have hnc110 := NB178_191.out
                    have hnb111 := NB191_179.out
                    have hnc111 := NB179_191.out
                    have hnb112 := NB191_172.out
                    have hnc112 := NB172_191.out
                    have hcz113_0 : w96.cell? ⟨gb191, 0, none⟩ = some (.int .i64 x192000_40) := (blk_cell BK191.out 0).trans rfl
                    have hcz113_1 : w96.cell? ⟨gb191, 1, none⟩ = some (.int .i64 x192001_40) := (blk_cell BK191.out 1).trans rfl
                    have hcz113_2 : w96.cell? ⟨gb191, 2, none⟩ = some (.int .i64 x192002_40) := (blk_cell BK191.out 2).trans rfl
                    have hcz113_3 : w96.cell? ⟨gb191, 3, none⟩ = some (.bool x192003_40) := (blk_cell BK191.out 3).trans rfl
                    have hfz113_0 := blk_frozen BK191.out 0
                    have hfz113_1 := blk_frozen BK191.out 1
                    have hfz113_2 := blk_frozen BK191.out 2
                    have hfz113_3 := blk_frozen BK191.out 3
                    try go_wp2
                    go_ret
                    exact ⟨by first | rfl | (simp [errW_none, errW_some] <;> rfl) | (simp [*, errW_none, errW_some] <;> rfl), by repeat (first | (with_reducible first | exact HB.out | apply below_alloc | apply pw_below_drewN | apply below_drew1 | refine below_set ?_ (IsS26.ge HI172.out) | refine below_set ?_ GE178.out | refine below_set ?_ GE179.out | refine below_set ?_ GE186.out | refine below_set ?_ GE191.out) | exact HB.out)⟩
                · rw [if_neg c72] at H
                  have c72b0 : (t207 == (wrap64 (-t211))) = false := beq_eq_false_iff_ne.mpr c72
                  have c72b1 : (t207 != (wrap64 (-t211))) = true := bne_iff_ne.mpr c72
                  obtain rfl := Option.some.inj H
                  try go_wp2
                  have n0_ := Aside0.mk (blk_drew BK178.out)
                  have n1_ := Aside0.mk (blk_drew BK179.out)
                  have n2_ := Aside0.mk (blk_drew BK186.out)
                  have n3_ := Aside0.mk (blk_drew BK191.out)
                  have n4_ := Aside0.mk (IsS26.drew HI172.out)
                  have n5_ := Aside0.mk (below_drew1 HB.out)
                  clear BK178
                  clear BK179
                  clear BK186
                  clear BK191
                  clear HI172
                  clear HB
                  have BK178 := n0_
                  have BK179 := n1_
                  have BK186 := n2_
                  have BK191 := n3_
                  have HI172 := n4_
                  have HB := n5_
                  clear n0_ n1_ n2_ n3_ n4_ n5_
                  refine start_ (n := 8) (S := fun w' => w'.cell? ⟨gb178, 0, none⟩ = some (.int .i64 t173) ∧ w'.cell? ⟨gb178, 1, none⟩ = some (.int .i64 t174) ∧ w'.cell? ⟨gb178, 2, none⟩ = some (.int .i64 t175) ∧ w'.cell? ⟨gb178, 3, none⟩ = some (.int .i64 t176) ∧ w'.cell? ⟨gb186, 0, none⟩ = some (.int .i64 x187000_40) ∧ w'.cell? ⟨gb186, 1, none⟩ = some (.int .i64 x187001_40) ∧ w'.cell? ⟨gb186, 2, none⟩ = some (.int .i64 x187002_40) ∧ w'.cell? ⟨gb186, 3, none⟩ = some (.bool x187003_40) ∧ w'.cell? ⟨gb179, 0, none⟩ = some (.int .i64 (wrap64 (-t174))) ∧ w'.cell? ⟨gb179, 1, none⟩ = some (.int .i64 (wrap64 (-t173))) ∧ w'.cell? ⟨gb179, 2, none⟩ = some (.int .i64 t175) ∧ w'.cell? ⟨gb179, 3, none⟩ = some (.int .i64 t176) ∧ w'.cell? ⟨gb191, 0, none⟩ = some (.int .i64 x192000_40) ∧ w'.cell? ⟨gb191, 1, none⟩ = some (.int .i64 x192001_40) ∧ w'.cell? ⟨gb191, 2, none⟩ = some (.int .i64 x192002_40) ∧ w'.cell? ⟨gb191, 3, none⟩ = some (.bool x192003_40)) (ds := [6, 7]) #[false, false, false, false, false, false, false, false] (by kernel_rfl) rfl rfl ⟨(blk_cell BK178.out 0).trans rfl, (blk_cell BK178.out 1).trans rfl, (blk_cell BK178.out 2).trans rfl, (blk_cell BK178.out 3).trans rfl, (blk_cell BK186.out 0).trans rfl, (blk_cell BK186.out 1).trans rfl, (blk_cell BK186.out 2).trans rfl, (blk_cell BK186.out 3).trans rfl, (blk_cell BK179.out 0).trans rfl, (blk_cell BK179.out 1).trans rfl, (blk_cell BK179.out 2).trans rfl, (blk_cell BK179.out 3).trans rfl, (blk_cell BK191.out 0).trans rfl, (blk_cell BK191.out 1).trans rfl, (blk_cell BK191.out 2).trans rfl, (blk_cell BK191.out 3).trans rfl⟩ (fun hHeld => ?_); refine with_tabW spykeep2_AxisMirror.tab14 spykeep2_AxisMirror.bits14 (fun HT_ HW_ => ?_)
                  generalize wc.drew = w114 at BK178 BK179 BK186 BK191 HI172 HB hHeld ⊢
                  refine take_ (i := 0) (N := some 58) (v := ?_) (a' := ?_) #[true, false, false, false, false, false, false, false] rfl rfl (take_ofW HT_.out HW_.out (by kernel_rfl)) (fun _ _ _ h => h) (Or.inl ⟨by rfl, ?_⟩) hHeld ?_ ?_
                  rotate_left
                  · rintro w' ⟨s0, s1, s2, s3, s4, s5, s6, s7, s8, s9, s10, s11, s12, s13, s14, s15⟩
                    go_simp
                    with_reducible rfl
                  rotate_left
                  · simp only [Act.put, List.setIfInBounds_toArray, List.set_cons_zero, List.set_cons_succ, i64_w, i32_w]
                    rfl
                  refine take_ (i := 1) (N := some 59) (v := ?_) (a' := ?_) #[true, true, false, false, false, false, false, false] rfl rfl (take_ofW HT_.out HW_.out (by kernel_rfl)) (fun _ _ _ h => h) (Or.inl ⟨by rfl, ?_⟩) hHeld ?_ ?_
                  rotate_left
                  · rintro w' ⟨s0, s1, s2, s3, s4, s5, s6, s7, s8, s9, s10, s11, s12, s13, s14, s15⟩
                    go_simp
                    with_reducible rfl
                  rotate_left
                  · simp only [Act.put, List.setIfInBounds_toArray, List.set_cons_zero, List.set_cons_succ, i64_w, i32_w]
                    rfl
                  refine take_ (i := 3) (N := some 61) (v := ?_) (a' := ?_) #[true, true, false, true, false, false, false, false] rfl rfl (take_ofW HT_.out HW_.out (by kernel_rfl)) (fun _ _ _ h => h) (Or.inl ⟨by rfl, ?_⟩) hHeld ?_ ?_
                  rotate_left
                  · rintro w' ⟨s0, s1, s2, s3, s4, s5, s6, s7, s8, s9, s10, s11, s12, s13, s14, s15⟩
                    go_simp
                    with_reducible rfl
                  rotate_left
                  · simp only [Act.put, List.setIfInBounds_toArray, List.set_cons_zero, List.set_cons_succ, i64_w, i32_w]
                    rfl
                  refine take_ (i := 4) (N := some 62) (v := ?_) (a' := ?_) #[true, true, false, true, true, false, false, false] rfl rfl (take_ofW HT_.out HW_.out (by kernel_rfl)) (fun _ _ _ h => h) (Or.inl ⟨by rfl, ?_⟩) hHeld ?_ ?_
                  rotate_left
                  · rintro w' ⟨s0, s1, s2, s3, s4, s5, s6, s7, s8, s9, s10, s11, s12, s13, s14, s15⟩
                    go_simp
                    with_reducible rfl
                  rotate_left
                  · simp only [Act.put, List.setIfInBounds_toArray, List.set_cons_zero, List.set_cons_succ, i64_w, i32_w]
                    rfl
                  refine one_ (i := 2) (N := some 60) #[true, true, true, true, true, false, false, false] rfl rfl (one_of HT_.out (by kernel_rfl)) (by decide) (fun K hK => ?_)
                  refine goes_ Try.func25 (by kernel_rfl) rfl #[.agg #[.int .i64 t173, .int .i64 t174, .int .i64 t175, .int .i64 t176], .agg #[.int .i64 x187000_40, .int .i64 x187001_40, .int .i64 x187002_40, .bool x187003_40]] (by rfl) rfl rfl (by (try simp only [List.map_toArray, List.map_cons, List.map_nil]); first | done | rfl | (simp only [List.length_drop, List.length_take]; rfl)) ?_
                  with_reducible refine (axis_Step.calls kj40 t173 t174 t175 t176 x187000_40 x187001_40 x187002_40 x187003_40 t206 t207 t208 t209 _ A69.out).mono ?_
                  rintro e w115 ⟨rfl, hb⟩
                  refine ⟨_, rfl, ?_⟩
                  have n0_ := Aside0.mk (blk_below (g := gb178) (o := .cells #[.int .i64 t173, .int .i64 t174, .int .i64 t175, .int .i64 t176] 28 (0, 0)) (by (with_reducible repeat (first | refine blk_drewN ?_ _ | refine blk_drew ?_ | refine blk_alloc ?_ _)); exact BK178.out) hb)
                  have n1_ := Aside0.mk (blk_below (g := gb179) (o := .cells #[.int .i64 (wrap64 (-t174)), .int .i64 (wrap64 (-t173)), .int .i64 t175, .int .i64 t176] 28 (0, 0)) (by (with_reducible repeat (first | refine blk_drewN ?_ _ | refine blk_drew ?_ | refine blk_alloc ?_ _)); exact BK179.out) hb)
                  have n2_ := Aside0.mk (blk_below (g := gb186) (o := .cells #[.int .i64 x187000_40, .int .i64 x187001_40, .int .i64 x187002_40, .bool x187003_40] 45 (0, 0)) (by (with_reducible repeat (first | refine blk_drewN ?_ _ | refine blk_drew ?_ | refine blk_alloc ?_ _)); exact BK186.out) hb)
                  have n3_ := Aside0.mk (blk_below (g := gb191) (o := .cells #[.int .i64 x192000_40, .int .i64 x192001_40, .int .i64 x192002_40, .bool x192003_40] 45 (0, 0)) (by (with_reducible repeat (first | refine blk_drewN ?_ _ | refine blk_drew ?_ | refine blk_alloc ?_ _)); exact BK191.out) hb)
                  have n4_ := Aside0.mk (IsS26.below (by repeat (first | (with_reducible first | exact HI172.out | apply IsS26.alloc | apply IsS26.drewN | apply IsS26.drew | apply IsS26.set_1 | refine IsS26.far ?_ NB172_178.out _ | refine IsS26.far ?_ NB172_179.out _ | refine IsS26.far ?_ NB172_186.out _ | refine IsS26.far ?_ NB172_191.out _) | exact HI172.out)) hb)
                  have n5_ := Aside0.mk (below_step (by repeat (first | (with_reducible first | exact HB.out | apply below_alloc | apply pw_below_drewN | apply below_drew1 | refine below_set ?_ (IsS26.ge HI172.out) | refine below_set ?_ GE178.out | refine below_set ?_ GE179.out | refine below_set ?_ GE186.out | refine below_set ?_ GE191.out) | exact HB.out)) hb)
                  clear BK178
                  clear BK179
                  clear BK186
                  clear BK191
                  clear HI172
                  clear HB
                  have BK178 := n0_
                  have BK179 := n1_
                  have BK186 := n2_
                  have BK191 := n3_
                  have HI172 := n4_
                  have HB := n5_
                  clear n0_ n1_ n2_ n3_ n4_ n5_
                  (try clear hb)
                  (try clear hb2)
                  (try clear hk)
                  (try clear hi)
                  refine hK.out _ _ ⟨(blk_cell BK178.out 0).trans rfl, (blk_cell BK178.out 1).trans rfl, (blk_cell BK178.out 2).trans rfl, (blk_cell BK178.out 3).trans rfl, (blk_cell BK186.out 0).trans rfl, (blk_cell BK186.out 1).trans rfl, (blk_cell BK186.out 2).trans rfl, (blk_cell BK186.out 3).trans rfl, (blk_cell BK179.out 0).trans rfl, (blk_cell BK179.out 1).trans rfl, (blk_cell BK179.out 2).trans rfl, (blk_cell BK179.out 3).trans rfl, (blk_cell BK191.out 0).trans rfl, (blk_cell BK191.out 1).trans rfl, (blk_cell BK191.out 2).trans rfl, (blk_cell BK191.out 3).trans rfl⟩ (fun hHeld => ?_)
                  clear hK K
                  refine norm_ (a' := ?_) ?_ ?_
                  rotate_left
                  · show Act.put _ (some 60) _ = _
                    simp only [Act.put, List.setIfInBounds_toArray, List.set_cons_zero, List.set_cons_succ, i64_w, i32_w]
                    rfl
                  refine one_ (i := 5) (N := some 63) #[true, true, true, true, true, true, false, false] rfl rfl (one_of HT_.out (by kernel_rfl)) (by decide) (fun K hK => ?_)
                  refine goes_ Try.func25 (by kernel_rfl) rfl #[.agg #[.int .i64 (wrap64 (-t174)), .int .i64 (wrap64 (-t173)), .int .i64 t175, .int .i64 t176], .agg #[.int .i64 x192000_40, .int .i64 x192001_40, .int .i64 x192002_40, .bool x192003_40]] (by rfl) rfl rfl (by (try simp only [List.map_toArray, List.map_cons, List.map_nil]); first | done | rfl | (simp only [List.length_drop, List.length_take]; rfl)) ?_
                  with_reducible refine (axis_Step.calls kj40 (wrap64 (-t174)) (wrap64 (-t173)) t175 t176 x192000_40 x192001_40 x192002_40 x192003_40 t210 t211 t212 t213 _ A70.out).mono ?_
                  rintro e w116 ⟨rfl, hb⟩
                  refine ⟨_, rfl, ?_⟩
                  have n0_ := Aside0.mk (blk_below (g := gb178) (o := .cells #[.int .i64 t173, .int .i64 t174, .int .i64 t175, .int .i64 t176] 28 (0, 0)) (by (with_reducible repeat (first | refine blk_drewN ?_ _ | refine blk_drew ?_ | refine blk_alloc ?_ _)); exact BK178.out) hb)
                  have n1_ := Aside0.mk (blk_below (g := gb179) (o := .cells #[.int .i64 (wrap64 (-t174)), .int .i64 (wrap64 (-t173)), .int .i64 t175, .int .i64 t176] 28 (0, 0)) (by (with_reducible repeat (first | refine blk_drewN ?_ _ | refine blk_drew ?_ | refine blk_alloc ?_ _)); exact BK179.out) hb)
                  have n2_ := Aside0.mk (blk_below (g := gb186) (o := .cells #[.int .i64 x187000_40, .int .i64 x187001_40, .int .i64 x187002_40, .bool x187003_40] 45 (0, 0)) (by (with_reducible repeat (first | refine blk_drewN ?_ _ | refine blk_drew ?_ | refine blk_alloc ?_ _)); exact BK186.out) hb)
                  have n3_ := Aside0.mk (blk_below (g := gb191) (o := .cells #[.int .i64 x192000_40, .int .i64 x192001_40, .int .i64 x192002_40, .bool x192003_40] 45 (0, 0)) (by (with_reducible repeat (first | refine blk_drewN ?_ _ | refine blk_drew ?_ | refine blk_alloc ?_ _)); exact BK191.out) hb)
                  have n4_ := Aside0.mk (IsS26.below (by repeat (first | (with_reducible first | exact HI172.out | apply IsS26.alloc | apply IsS26.drewN | apply IsS26.drew | apply IsS26.set_1 | refine IsS26.far ?_ NB172_178.out _ | refine IsS26.far ?_ NB172_179.out _ | refine IsS26.far ?_ NB172_186.out _ | refine IsS26.far ?_ NB172_191.out _) | exact HI172.out)) hb)
                  have n5_ := Aside0.mk (below_step (by repeat (first | (with_reducible first | exact HB.out | apply below_alloc | apply pw_below_drewN | apply below_drew1 | refine below_set ?_ (IsS26.ge HI172.out) | refine below_set ?_ GE178.out | refine below_set ?_ GE179.out | refine below_set ?_ GE186.out | refine below_set ?_ GE191.out) | exact HB.out)) hb)
                  clear BK178
                  clear BK179
                  clear BK186
                  clear BK191
                  clear HI172
                  clear HB
                  have BK178 := n0_
                  have BK179 := n1_
                  have BK186 := n2_
                  have BK191 := n3_
                  have HI172 := n4_
                  have HB := n5_
                  clear n0_ n1_ n2_ n3_ n4_ n5_
                  (try clear hb)
                  (try clear hb2)
                  (try clear hk)
                  (try clear hi)
                  refine hK.out _ _ ⟨(blk_cell BK178.out 0).trans rfl, (blk_cell BK178.out 1).trans rfl, (blk_cell BK178.out 2).trans rfl, (blk_cell BK178.out 3).trans rfl, (blk_cell BK186.out 0).trans rfl, (blk_cell BK186.out 1).trans rfl, (blk_cell BK186.out 2).trans rfl, (blk_cell BK186.out 3).trans rfl, (blk_cell BK179.out 0).trans rfl, (blk_cell BK179.out 1).trans rfl, (blk_cell BK179.out 2).trans rfl, (blk_cell BK179.out 3).trans rfl, (blk_cell BK191.out 0).trans rfl, (blk_cell BK191.out 1).trans rfl, (blk_cell BK191.out 2).trans rfl, (blk_cell BK191.out 3).trans rfl⟩ (fun hHeld => ?_)
                  clear hK K
                  refine norm_ (a' := ?_) ?_ ?_
                  rotate_left
                  · show Act.put _ (some 63) _ = _
                    simp only [Act.put, List.setIfInBounds_toArray, List.set_cons_zero, List.set_cons_succ, i64_w, i32_w]
                    rfl
                  refine last_ (i := 6) (N := none) #[true, true, true, true, true, true, true, false] rfl rfl (one_of HT_.out (by kernel_rfl)) (by decide) (fun K hK => ?_)
                  have hs117 : w116.cell? ⟨gb186, 0, none⟩ = some (.int .i64 x187000_40) := (blk_cell BK186.out 0).trans rfl
                  have hfs117 := blk_frozen BK186.out 0
                  have hns117_0 := NB178_186.out
                  have hns117_1 := NB179_186.out
                  have hns117_3 := NB191_186.out
                  have hms117_0 := NB186_178.out
                  have hms117_1 := NB186_179.out
                  have hms117_3 := NB186_191.out
                  have hs118 : w116.cell? ⟨gb186, 1, none⟩ = some (.int .i64 x187001_40) := (blk_cell BK186.out 1).trans rfl
                  have hfs118 := blk_frozen BK186.out 1
                  have hns118_0 := NB178_186.out
                  have hns118_1 := NB179_186.out
                  have hns118_3 := NB191_186.out
                  have hms118_0 := NB186_178.out
                  have hms118_1 := NB186_179.out
                  have hms118_3 := NB186_191.out
                  have hs119 : w116.cell? ⟨gb186, 2, none⟩ = some (.int .i64 x187002_40) := (blk_cell BK186.out 2).trans rfl
                  have hfs119 := blk_frozen BK186.out 2
                  have hns119_0 := NB178_186.out
                  have hns119_1 := NB179_186.out
                  have hns119_3 := NB191_186.out
                  have hms119_0 := NB186_178.out
                  have hms119_1 := NB186_179.out
                  have hms119_3 := NB186_191.out
                  have hs120 : w116.cell? ⟨gb186, 3, none⟩ = some (.bool x187003_40) := (blk_cell BK186.out 3).trans rfl
                  have hfs120 := blk_frozen BK186.out 3
                  have hns120_0 := NB178_186.out
                  have hns120_1 := NB179_186.out
                  have hns120_3 := NB191_186.out
                  have hms120_0 := NB186_178.out
                  have hms120_1 := NB186_179.out
                  have hms120_3 := NB186_191.out
                  refine skip_ (w1 := ?_) (by rfl) rfl ?_ ?_
                  rotate_left
                  · go_simp
                    rfl
                  refine hK.out _ _ ?_
                  clear hK K
                  refine last_ (i := 7) (N := none) #[true, true, true, true, true, true, true, true] rfl rfl (one_of HT_.out (by kernel_rfl)) (by decide) (fun K hK => ?_)
                  have hs121 : w116.cell? ⟨gb191, 0, none⟩ = some (.int .i64 x192000_40) := (blk_cell BK191.out 0).trans rfl
                  have hfs121 := blk_frozen BK191.out 0
                  have hns121_0 := NB178_191.out
                  have hns121_1 := NB179_191.out
                  have hns121_2 := NB186_191.out
                  have hms121_0 := NB191_178.out
                  have hms121_1 := NB191_179.out
                  have hms121_2 := NB191_186.out
                  have hs122 : w116.cell? ⟨gb191, 1, none⟩ = some (.int .i64 x192001_40) := (blk_cell BK191.out 1).trans rfl
                  have hfs122 := blk_frozen BK191.out 1
                  have hns122_0 := NB178_191.out
                  have hns122_1 := NB179_191.out
                  have hns122_2 := NB186_191.out
                  have hms122_0 := NB191_178.out
                  have hms122_1 := NB191_179.out
                  have hms122_2 := NB191_186.out
                  have hs123 : w116.cell? ⟨gb191, 2, none⟩ = some (.int .i64 x192002_40) := (blk_cell BK191.out 2).trans rfl
                  have hfs123 := blk_frozen BK191.out 2
                  have hns123_0 := NB178_191.out
                  have hns123_1 := NB179_191.out
                  have hns123_2 := NB186_191.out
                  have hms123_0 := NB191_178.out
                  have hms123_1 := NB191_179.out
                  have hms123_2 := NB191_186.out
                  have hs124 : w116.cell? ⟨gb191, 3, none⟩ = some (.bool x192003_40) := (blk_cell BK191.out 3).trans rfl
                  have hfs124 := blk_frozen BK191.out 3
                  have hns124_0 := NB178_191.out
                  have hns124_1 := NB179_191.out
                  have hns124_2 := NB186_191.out
                  have hms124_0 := NB191_178.out
                  have hms124_1 := NB191_179.out
                  have hms124_2 := NB191_186.out
                  refine skip_ (w1 := ?_) (by rfl) rfl ?_ ?_
                  rotate_left
                  · go_simp
                    rfl
                  refine hK.out _ _ ?_
                  clear hK K
                  refine done_ (done_of HT_.out (by kernel_rfl)) ?_
                  have hnb125 := NB186_178.out
                  have hnc125 := NB178_186.out
                  have hnb126 := NB186_179.out
                  have hnc126 := NB179_186.out
                  have hnb127 := NB186_191.out
                  have hnc127 := NB191_186.out
                  have hnb128 := NB186_172.out
                  have hnc128 := NB172_186.out
                  have hcz129_0 : w116.cell? ⟨gb186, 0, none⟩ = some (.int .i64 x187000_40) := (blk_cell BK186.out 0).trans rfl
                  have hcz129_1 : w116.cell? ⟨gb186, 1, none⟩ = some (.int .i64 x187001_40) := (blk_cell BK186.out 1).trans rfl
                  have hcz129_2 : w116.cell? ⟨gb186, 2, none⟩ = some (.int .i64 x187002_40) := (blk_cell BK186.out 2).trans rfl
                  have hcz129_3 : w116.cell? ⟨gb186, 3, none⟩ = some (.bool x187003_40) := (blk_cell BK186.out 3).trans rfl
                  have hfz129_0 := blk_frozen BK186.out 0
                  have hfz129_1 := blk_frozen BK186.out 1
                  have hfz129_2 := blk_frozen BK186.out 2
                  have hfz129_3 := blk_frozen BK186.out 3
                  have hnb130 := NB191_178.out
                  have hnc130 := NB178_191.out
                  have hnb131 := NB191_179.out
                  have hnc131 := NB179_191.out
                  have hnb132 := NB191_172.out
                  have hnc132 := NB172_191.out
                  have hcz133_0 : w116.cell? ⟨gb191, 0, none⟩ = some (.int .i64 x192000_40) := (blk_cell BK191.out 0).trans rfl
                  have hcz133_1 : w116.cell? ⟨gb191, 1, none⟩ = some (.int .i64 x192001_40) := (blk_cell BK191.out 1).trans rfl
                  have hcz133_2 : w116.cell? ⟨gb191, 2, none⟩ = some (.int .i64 x192002_40) := (blk_cell BK191.out 2).trans rfl
                  have hcz133_3 : w116.cell? ⟨gb191, 3, none⟩ = some (.bool x192003_40) := (blk_cell BK191.out 3).trans rfl
                  have hfz133_0 := blk_frozen BK191.out 0
                  have hfz133_1 := blk_frozen BK191.out 1
                  have hfz133_2 := blk_frozen BK191.out 2
                  have hfz133_3 := blk_frozen BK191.out 3
                  try go_wp2
                  go_ret
                  exact ⟨by first | rfl | (simp [errW_none, errW_some] <;> rfl) | (simp [*, errW_none, errW_some] <;> rfl), by repeat (first | (with_reducible first | exact HB.out | apply below_alloc | apply pw_below_drewN | apply below_drew1 | refine below_set ?_ (IsS26.ge HI172.out) | refine below_set ?_ GE178.out | refine below_set ?_ GE179.out | refine below_set ?_ GE186.out | refine below_set ?_ GE191.out) | exact HB.out)⟩
              · rw [if_neg c71] at H
                have c71b0 : (t206 == (wrap64 (-t210))) = false := beq_eq_false_iff_ne.mpr c71
                have c71b1 : (t206 != (wrap64 (-t210))) = true := bne_iff_ne.mpr c71
                obtain rfl := Option.some.inj H
                try go_wp2
                have n0_ := Aside0.mk (blk_drew BK178.out)
                have n1_ := Aside0.mk (blk_drew BK179.out)
                have n2_ := Aside0.mk (blk_drew BK186.out)
                have n3_ := Aside0.mk (blk_drew BK191.out)
                have n4_ := Aside0.mk (IsS26.drew HI172.out)
                have n5_ := Aside0.mk (below_drew1 HB.out)
                clear BK178
                clear BK179
                clear BK186
                clear BK191
                clear HI172
                clear HB
                have BK178 := n0_
                have BK179 := n1_
                have BK186 := n2_
                have BK191 := n3_
                have HI172 := n4_
                have HB := n5_
                clear n0_ n1_ n2_ n3_ n4_ n5_
                refine start_ (n := 8) (S := fun w' => w'.cell? ⟨gb178, 0, none⟩ = some (.int .i64 t173) ∧ w'.cell? ⟨gb178, 1, none⟩ = some (.int .i64 t174) ∧ w'.cell? ⟨gb178, 2, none⟩ = some (.int .i64 t175) ∧ w'.cell? ⟨gb178, 3, none⟩ = some (.int .i64 t176) ∧ w'.cell? ⟨gb186, 0, none⟩ = some (.int .i64 x187000_40) ∧ w'.cell? ⟨gb186, 1, none⟩ = some (.int .i64 x187001_40) ∧ w'.cell? ⟨gb186, 2, none⟩ = some (.int .i64 x187002_40) ∧ w'.cell? ⟨gb186, 3, none⟩ = some (.bool x187003_40) ∧ w'.cell? ⟨gb179, 0, none⟩ = some (.int .i64 (wrap64 (-t174))) ∧ w'.cell? ⟨gb179, 1, none⟩ = some (.int .i64 (wrap64 (-t173))) ∧ w'.cell? ⟨gb179, 2, none⟩ = some (.int .i64 t175) ∧ w'.cell? ⟨gb179, 3, none⟩ = some (.int .i64 t176) ∧ w'.cell? ⟨gb191, 0, none⟩ = some (.int .i64 x192000_40) ∧ w'.cell? ⟨gb191, 1, none⟩ = some (.int .i64 x192001_40) ∧ w'.cell? ⟨gb191, 2, none⟩ = some (.int .i64 x192002_40) ∧ w'.cell? ⟨gb191, 3, none⟩ = some (.bool x192003_40)) (ds := [6, 7]) #[false, false, false, false, false, false, false, false] (by kernel_rfl) rfl rfl ⟨(blk_cell BK178.out 0).trans rfl, (blk_cell BK178.out 1).trans rfl, (blk_cell BK178.out 2).trans rfl, (blk_cell BK178.out 3).trans rfl, (blk_cell BK186.out 0).trans rfl, (blk_cell BK186.out 1).trans rfl, (blk_cell BK186.out 2).trans rfl, (blk_cell BK186.out 3).trans rfl, (blk_cell BK179.out 0).trans rfl, (blk_cell BK179.out 1).trans rfl, (blk_cell BK179.out 2).trans rfl, (blk_cell BK179.out 3).trans rfl, (blk_cell BK191.out 0).trans rfl, (blk_cell BK191.out 1).trans rfl, (blk_cell BK191.out 2).trans rfl, (blk_cell BK191.out 3).trans rfl⟩ (fun hHeld => ?_); refine with_tabW spykeep2_AxisMirror.tab14 spykeep2_AxisMirror.bits14 (fun HT_ HW_ => ?_)
                generalize wc.drew = w134 at BK178 BK179 BK186 BK191 HI172 HB hHeld ⊢
                refine take_ (i := 0) (N := some 58) (v := ?_) (a' := ?_) #[true, false, false, false, false, false, false, false] rfl rfl (take_ofW HT_.out HW_.out (by kernel_rfl)) (fun _ _ _ h => h) (Or.inl ⟨by rfl, ?_⟩) hHeld ?_ ?_
                rotate_left
                · rintro w' ⟨s0, s1, s2, s3, s4, s5, s6, s7, s8, s9, s10, s11, s12, s13, s14, s15⟩
                  go_simp
                  with_reducible rfl
                rotate_left
                · simp only [Act.put, List.setIfInBounds_toArray, List.set_cons_zero, List.set_cons_succ, i64_w, i32_w]
                  rfl
                refine take_ (i := 1) (N := some 59) (v := ?_) (a' := ?_) #[true, true, false, false, false, false, false, false] rfl rfl (take_ofW HT_.out HW_.out (by kernel_rfl)) (fun _ _ _ h => h) (Or.inl ⟨by rfl, ?_⟩) hHeld ?_ ?_
                rotate_left
                · rintro w' ⟨s0, s1, s2, s3, s4, s5, s6, s7, s8, s9, s10, s11, s12, s13, s14, s15⟩
                  go_simp
                  with_reducible rfl
                rotate_left
                · simp only [Act.put, List.setIfInBounds_toArray, List.set_cons_zero, List.set_cons_succ, i64_w, i32_w]
                  rfl
                refine take_ (i := 3) (N := some 61) (v := ?_) (a' := ?_) #[true, true, false, true, false, false, false, false] rfl rfl (take_ofW HT_.out HW_.out (by kernel_rfl)) (fun _ _ _ h => h) (Or.inl ⟨by rfl, ?_⟩) hHeld ?_ ?_
                rotate_left
                · rintro w' ⟨s0, s1, s2, s3, s4, s5, s6, s7, s8, s9, s10, s11, s12, s13, s14, s15⟩
                  go_simp
                  with_reducible rfl
                rotate_left
                · simp only [Act.put, List.setIfInBounds_toArray, List.set_cons_zero, List.set_cons_succ, i64_w, i32_w]
                  rfl
                refine take_ (i := 4) (N := some 62) (v := ?_) (a' := ?_) #[true, true, false, true, true, false, false, false] rfl rfl (take_ofW HT_.out HW_.out (by kernel_rfl)) (fun _ _ _ h => h) (Or.inl ⟨by rfl, ?_⟩) hHeld ?_ ?_
                rotate_left
                · rintro w' ⟨s0, s1, s2, s3, s4, s5, s6, s7, s8, s9, s10, s11, s12, s13, s14, s15⟩
                  go_simp
                  with_reducible rfl
                rotate_left
                · simp only [Act.put, List.setIfInBounds_toArray, List.set_cons_zero, List.set_cons_succ, i64_w, i32_w]
                  rfl
                refine one_ (i := 2) (N := some 60) #[true, true, true, true, true, false, false, false] rfl rfl (one_of HT_.out (by kernel_rfl)) (by decide) (fun K hK => ?_)
                refine goes_ Try.func25 (by kernel_rfl) rfl #[.agg #[.int .i64 t173, .int .i64 t174, .int .i64 t175, .int .i64 t176], .agg #[.int .i64 x187000_40, .int .i64 x187001_40, .int .i64 x187002_40, .bool x187003_40]] (by rfl) rfl rfl (by (try simp only [List.map_toArray, List.map_cons, List.map_nil]); first | done | rfl | (simp only [List.length_drop, List.length_take]; rfl)) ?_
                with_reducible refine (axis_Step.calls kj40 t173 t174 t175 t176 x187000_40 x187001_40 x187002_40 x187003_40 t206 t207 t208 t209 _ A69.out).mono ?_
                rintro e w135 ⟨rfl, hb⟩
                refine ⟨_, rfl, ?_⟩
                have n0_ := Aside0.mk (blk_below (g := gb178) (o := .cells #[.int .i64 t173, .int .i64 t174, .int .i64 t175, .int .i64 t176] 28 (0, 0)) (by (with_reducible repeat (first | refine blk_drewN ?_ _ | refine blk_drew ?_ | refine blk_alloc ?_ _)); exact BK178.out) hb)
                have n1_ := Aside0.mk (blk_below (g := gb179) (o := .cells #[.int .i64 (wrap64 (-t174)), .int .i64 (wrap64 (-t173)), .int .i64 t175, .int .i64 t176] 28 (0, 0)) (by (with_reducible repeat (first | refine blk_drewN ?_ _ | refine blk_drew ?_ | refine blk_alloc ?_ _)); exact BK179.out) hb)
                have n2_ := Aside0.mk (blk_below (g := gb186) (o := .cells #[.int .i64 x187000_40, .int .i64 x187001_40, .int .i64 x187002_40, .bool x187003_40] 45 (0, 0)) (by (with_reducible repeat (first | refine blk_drewN ?_ _ | refine blk_drew ?_ | refine blk_alloc ?_ _)); exact BK186.out) hb)
                have n3_ := Aside0.mk (blk_below (g := gb191) (o := .cells #[.int .i64 x192000_40, .int .i64 x192001_40, .int .i64 x192002_40, .bool x192003_40] 45 (0, 0)) (by (with_reducible repeat (first | refine blk_drewN ?_ _ | refine blk_drew ?_ | refine blk_alloc ?_ _)); exact BK191.out) hb)
                have n4_ := Aside0.mk (IsS26.below (by repeat (first | (with_reducible first | exact HI172.out | apply IsS26.alloc | apply IsS26.drewN | apply IsS26.drew | apply IsS26.set_1 | refine IsS26.far ?_ NB172_178.out _ | refine IsS26.far ?_ NB172_179.out _ | refine IsS26.far ?_ NB172_186.out _ | refine IsS26.far ?_ NB172_191.out _) | exact HI172.out)) hb)
                have n5_ := Aside0.mk (below_step (by repeat (first | (with_reducible first | exact HB.out | apply below_alloc | apply pw_below_drewN | apply below_drew1 | refine below_set ?_ (IsS26.ge HI172.out) | refine below_set ?_ GE178.out | refine below_set ?_ GE179.out | refine below_set ?_ GE186.out | refine below_set ?_ GE191.out) | exact HB.out)) hb)
                clear BK178
                clear BK179
                clear BK186
                clear BK191
                clear HI172
                clear HB
                have BK178 := n0_
                have BK179 := n1_
                have BK186 := n2_
                have BK191 := n3_
                have HI172 := n4_
                have HB := n5_
                clear n0_ n1_ n2_ n3_ n4_ n5_
                (try clear hb)
                (try clear hb2)
                (try clear hk)
                (try clear hi)
                refine hK.out _ _ ⟨(blk_cell BK178.out 0).trans rfl, (blk_cell BK178.out 1).trans rfl, (blk_cell BK178.out 2).trans rfl, (blk_cell BK178.out 3).trans rfl, (blk_cell BK186.out 0).trans rfl, (blk_cell BK186.out 1).trans rfl, (blk_cell BK186.out 2).trans rfl, (blk_cell BK186.out 3).trans rfl, (blk_cell BK179.out 0).trans rfl, (blk_cell BK179.out 1).trans rfl, (blk_cell BK179.out 2).trans rfl, (blk_cell BK179.out 3).trans rfl, (blk_cell BK191.out 0).trans rfl, (blk_cell BK191.out 1).trans rfl, (blk_cell BK191.out 2).trans rfl, (blk_cell BK191.out 3).trans rfl⟩ (fun hHeld => ?_)
                clear hK K
                refine norm_ (a' := ?_) ?_ ?_
                rotate_left
                · show Act.put _ (some 60) _ = _
                  simp only [Act.put, List.setIfInBounds_toArray, List.set_cons_zero, List.set_cons_succ, i64_w, i32_w]
                  rfl
                refine one_ (i := 5) (N := some 63) #[true, true, true, true, true, true, false, false] rfl rfl (one_of HT_.out (by kernel_rfl)) (by decide) (fun K hK => ?_)
                refine goes_ Try.func25 (by kernel_rfl) rfl #[.agg #[.int .i64 (wrap64 (-t174)), .int .i64 (wrap64 (-t173)), .int .i64 t175, .int .i64 t176], .agg #[.int .i64 x192000_40, .int .i64 x192001_40, .int .i64 x192002_40, .bool x192003_40]] (by rfl) rfl rfl (by (try simp only [List.map_toArray, List.map_cons, List.map_nil]); first | done | rfl | (simp only [List.length_drop, List.length_take]; rfl)) ?_
                with_reducible refine (axis_Step.calls kj40 (wrap64 (-t174)) (wrap64 (-t173)) t175 t176 x192000_40 x192001_40 x192002_40 x192003_40 t210 t211 t212 t213 _ A70.out).mono ?_
                rintro e w136 ⟨rfl, hb⟩
                refine ⟨_, rfl, ?_⟩
                have n0_ := Aside0.mk (blk_below (g := gb178) (o := .cells #[.int .i64 t173, .int .i64 t174, .int .i64 t175, .int .i64 t176] 28 (0, 0)) (by (with_reducible repeat (first | refine blk_drewN ?_ _ | refine blk_drew ?_ | refine blk_alloc ?_ _)); exact BK178.out) hb)
                have n1_ := Aside0.mk (blk_below (g := gb179) (o := .cells #[.int .i64 (wrap64 (-t174)), .int .i64 (wrap64 (-t173)), .int .i64 t175, .int .i64 t176] 28 (0, 0)) (by (with_reducible repeat (first | refine blk_drewN ?_ _ | refine blk_drew ?_ | refine blk_alloc ?_ _)); exact BK179.out) hb)
                have n2_ := Aside0.mk (blk_below (g := gb186) (o := .cells #[.int .i64 x187000_40, .int .i64 x187001_40, .int .i64 x187002_40, .bool x187003_40] 45 (0, 0)) (by (with_reducible repeat (first | refine blk_drewN ?_ _ | refine blk_drew ?_ | refine blk_alloc ?_ _)); exact BK186.out) hb)
                have n3_ := Aside0.mk (blk_below (g := gb191) (o := .cells #[.int .i64 x192000_40, .int .i64 x192001_40, .int .i64 x192002_40, .bool x192003_40] 45 (0, 0)) (by (with_reducible repeat (first | refine blk_drewN ?_ _ | refine blk_drew ?_ | refine blk_alloc ?_ _)); exact BK191.out) hb)
                have n4_ := Aside0.mk (IsS26.below (by repeat (first | (with_reducible first | exact HI172.out | apply IsS26.alloc | apply IsS26.drewN | apply IsS26.drew | apply IsS26.set_1 | refine IsS26.far ?_ NB172_178.out _ | refine IsS26.far ?_ NB172_179.out _ | refine IsS26.far ?_ NB172_186.out _ | refine IsS26.far ?_ NB172_191.out _) | exact HI172.out)) hb)
                have n5_ := Aside0.mk (below_step (by repeat (first | (with_reducible first | exact HB.out | apply below_alloc | apply pw_below_drewN | apply below_drew1 | refine below_set ?_ (IsS26.ge HI172.out) | refine below_set ?_ GE178.out | refine below_set ?_ GE179.out | refine below_set ?_ GE186.out | refine below_set ?_ GE191.out) | exact HB.out)) hb)
                clear BK178
                clear BK179
                clear BK186
                clear BK191
                clear HI172
                clear HB
                have BK178 := n0_
                have BK179 := n1_
                have BK186 := n2_
                have BK191 := n3_
                have HI172 := n4_
                have HB := n5_
                clear n0_ n1_ n2_ n3_ n4_ n5_
                (try clear hb)
                (try clear hb2)
                (try clear hk)
                (try clear hi)
                refine hK.out _ _ ⟨(blk_cell BK178.out 0).trans rfl, (blk_cell BK178.out 1).trans rfl, (blk_cell BK178.out 2).trans rfl, (blk_cell BK178.out 3).trans rfl, (blk_cell BK186.out 0).trans rfl, (blk_cell BK186.out 1).trans rfl, (blk_cell BK186.out 2).trans rfl, (blk_cell BK186.out 3).trans rfl, (blk_cell BK179.out 0).trans rfl, (blk_cell BK179.out 1).trans rfl, (blk_cell BK179.out 2).trans rfl, (blk_cell BK179.out 3).trans rfl, (blk_cell BK191.out 0).trans rfl, (blk_cell BK191.out 1).trans rfl, (blk_cell BK191.out 2).trans rfl, (blk_cell BK191.out 3).trans rfl⟩ (fun hHeld => ?_)
                clear hK K
                refine norm_ (a' := ?_) ?_ ?_
                rotate_left
                · show Act.put _ (some 63) _ = _
                  simp only [Act.put, List.setIfInBounds_toArray, List.set_cons_zero, List.set_cons_succ, i64_w, i32_w]
                  rfl
                refine last_ (i := 6) (N := none) #[true, true, true, true, true, true, true, false] rfl rfl (one_of HT_.out (by kernel_rfl)) (by decide) (fun K hK => ?_)
                have hs137 : w136.cell? ⟨gb186, 0, none⟩ = some (.int .i64 x187000_40) := (blk_cell BK186.out 0).trans rfl
                have hfs137 := blk_frozen BK186.out 0
                have hns137_0 := NB178_186.out
                have hns137_1 := NB179_186.out
                have hns137_3 := NB191_186.out
                have hms137_0 := NB186_178.out
                have hms137_1 := NB186_179.out
                have hms137_3 := NB186_191.out
                have hs138 : w136.cell? ⟨gb186, 1, none⟩ = some (.int .i64 x187001_40) := (blk_cell BK186.out 1).trans rfl
                have hfs138 := blk_frozen BK186.out 1
                have hns138_0 := NB178_186.out
                have hns138_1 := NB179_186.out
                have hns138_3 := NB191_186.out
                have hms138_0 := NB186_178.out
                have hms138_1 := NB186_179.out
                have hms138_3 := NB186_191.out
                have hs139 : w136.cell? ⟨gb186, 2, none⟩ = some (.int .i64 x187002_40) := (blk_cell BK186.out 2).trans rfl
                have hfs139 := blk_frozen BK186.out 2
                have hns139_0 := NB178_186.out
                have hns139_1 := NB179_186.out
                have hns139_3 := NB191_186.out
                have hms139_0 := NB186_178.out
                have hms139_1 := NB186_179.out
                have hms139_3 := NB186_191.out
                have hs140 : w136.cell? ⟨gb186, 3, none⟩ = some (.bool x187003_40) := (blk_cell BK186.out 3).trans rfl
                have hfs140 := blk_frozen BK186.out 3
                have hns140_0 := NB178_186.out
                have hns140_1 := NB179_186.out
                have hns140_3 := NB191_186.out
                have hms140_0 := NB186_178.out
                have hms140_1 := NB186_179.out
                have hms140_3 := NB186_191.out
                refine skip_ (w1 := ?_) (by rfl) rfl ?_ ?_
                rotate_left
                · go_simp
                  rfl
                refine hK.out _ _ ?_
                clear hK K
                refine last_ (i := 7) (N := none) #[true, true, true, true, true, true, true, true] rfl rfl (one_of HT_.out (by kernel_rfl)) (by decide) (fun K hK => ?_)
                have hs141 : w136.cell? ⟨gb191, 0, none⟩ = some (.int .i64 x192000_40) := (blk_cell BK191.out 0).trans rfl
                have hfs141 := blk_frozen BK191.out 0
                have hns141_0 := NB178_191.out
                have hns141_1 := NB179_191.out
                have hns141_2 := NB186_191.out
                have hms141_0 := NB191_178.out
                have hms141_1 := NB191_179.out
                have hms141_2 := NB191_186.out
                have hs142 : w136.cell? ⟨gb191, 1, none⟩ = some (.int .i64 x192001_40) := (blk_cell BK191.out 1).trans rfl
                have hfs142 := blk_frozen BK191.out 1
                have hns142_0 := NB178_191.out
                have hns142_1 := NB179_191.out
                have hns142_2 := NB186_191.out
                have hms142_0 := NB191_178.out
                have hms142_1 := NB191_179.out
                have hms142_2 := NB191_186.out
                have hs143 : w136.cell? ⟨gb191, 2, none⟩ = some (.int .i64 x192002_40) := (blk_cell BK191.out 2).trans rfl
                have hfs143 := blk_frozen BK191.out 2
                have hns143_0 := NB178_191.out
                have hns143_1 := NB179_191.out
                have hns143_2 := NB186_191.out
                have hms143_0 := NB191_178.out
                have hms143_1 := NB191_179.out
                have hms143_2 := NB191_186.out
                have hs144 : w136.cell? ⟨gb191, 3, none⟩ = some (.bool x192003_40) := (blk_cell BK191.out 3).trans rfl
                have hfs144 := blk_frozen BK191.out 3
                have hns144_0 := NB178_191.out
                have hns144_1 := NB179_191.out
                have hns144_2 := NB186_191.out
                have hms144_0 := NB191_178.out
                have hms144_1 := NB191_179.out
                have hms144_2 := NB191_186.out
                refine skip_ (w1 := ?_) (by rfl) rfl ?_ ?_
                rotate_left
                · go_simp
                  rfl
                refine hK.out _ _ ?_
                clear hK K
                refine done_ (done_of HT_.out (by kernel_rfl)) ?_
                have hnb145 := NB186_178.out
                have hnc145 := NB178_186.out
                have hnb146 := NB186_179.out
                have hnc146 := NB179_186.out
                have hnb147 := NB186_191.out
                have hnc147 := NB191_186.out
                have hnb148 := NB186_172.out
                have hnc148 := NB172_186.out
                have hcz149_0 : w136.cell? ⟨gb186, 0, none⟩ = some (.int .i64 x187000_40) := (blk_cell BK186.out 0).trans rfl
                have hcz149_1 : w136.cell? ⟨gb186, 1, none⟩ = some (.int .i64 x187001_40) := (blk_cell BK186.out 1).trans rfl
                have hcz149_2 : w136.cell? ⟨gb186, 2, none⟩ = some (.int .i64 x187002_40) := (blk_cell BK186.out 2).trans rfl
                have hcz149_3 : w136.cell? ⟨gb186, 3, none⟩ = some (.bool x187003_40) := (blk_cell BK186.out 3).trans rfl
                have hfz149_0 := blk_frozen BK186.out 0
                have hfz149_1 := blk_frozen BK186.out 1
                have hfz149_2 := blk_frozen BK186.out 2
                have hfz149_3 := blk_frozen BK186.out 3
                have hnb150 := NB191_178.out
                have hnc150 := NB178_191.out
                have hnb151 := NB191_179.out
                have hnc151 := NB179_191.out
                have hnb152 := NB191_172.out
                have hnc152 := NB172_191.out
                have hcz153_0 : w136.cell? ⟨gb191, 0, none⟩ = some (.int .i64 x192000_40) := (blk_cell BK191.out 0).trans rfl
                have hcz153_1 : w136.cell? ⟨gb191, 1, none⟩ = some (.int .i64 x192001_40) := (blk_cell BK191.out 1).trans rfl
                have hcz153_2 : w136.cell? ⟨gb191, 2, none⟩ = some (.int .i64 x192002_40) := (blk_cell BK191.out 2).trans rfl
                have hcz153_3 : w136.cell? ⟨gb191, 3, none⟩ = some (.bool x192003_40) := (blk_cell BK191.out 3).trans rfl
                have hfz153_0 := blk_frozen BK191.out 0
                have hfz153_1 := blk_frozen BK191.out 1
                have hfz153_2 := blk_frozen BK191.out 2
                have hfz153_3 := blk_frozen BK191.out 3
                try go_wp2
                go_ret
                exact ⟨by first | rfl | (simp [errW_none, errW_some] <;> rfl) | (simp [*, errW_none, errW_some] <;> rfl), by repeat (first | (with_reducible first | exact HB.out | apply below_alloc | apply pw_below_drewN | apply below_drew1 | refine below_set ?_ (IsS26.ge HI172.out) | refine below_set ?_ GE178.out | refine below_set ?_ GE179.out | refine below_set ?_ GE186.out | refine below_set ?_ GE191.out) | exact HB.out)⟩
        · rw [if_neg c39] at H
          have c39b0 : decide (x35_1 < 40) = false := decide_eq_false c39
          clear c39
          obtain rfl := Option.some.inj H
          go_wp2
          go_ret
          exact ⟨by first | rfl | (simp [errW_none, errW_some] <;> rfl) | (simp [*, errW_none, errW_some] <;> rfl), by repeat (first | (with_reducible first | exact HB.out | apply below_alloc | apply pw_below_drewN | apply below_drew1 | refine below_set ?_ (IsS26.ge HI172.out) | refine below_set ?_ GE178.out | refine below_set ?_ GE179.out | refine below_set ?_ GE186.out | refine below_set ?_ GE191.out) | exact HB.out)⟩
  · replace c3 := Bool.eq_false_iff.mpr c3
    subst c3
    have H1 : (some false) = some r := by rw [if_neg (show ¬ (false = true) by decide)] at H; exact H
    clear H
    have H := H1
    clear H1
    obtain rfl := Option.some.inj H
    go_enter Try.func6, Try.ntmps6
    go_wp2_with (first | ((with_reducible refine gate_callee (f := 22) rfl ?_); refine goesL_ (some 9) rfl rfl Try.func22 (by kernel_rfl) rfl #[] rfl (by (try simp only [List.map_toArray, List.map_cons, List.map_nil]); first | done | rfl | (simp only [List.length_drop, List.length_take]; rfl)) ?_; (with_reducible refine (spykeep2_goes.calls k  false _ A2.out).mono ?_); rintro e w154 ⟨rfl, hb⟩; refine ⟨_, rfl, ?_⟩; have n0_ := Aside0.mk (below_step (by repeat (first | (with_reducible first | exact HB.out | apply below_alloc | apply pw_below_drewN | apply below_drew1) | exact HB.out)) hb); clear HB; have HB := n0_; clear n0_; (try clear hb); (try clear hb2); (try clear hk); (try clear hi)))
    go_ret
    exact ⟨by first | rfl | (simp [errW_none, errW_some] <;> rfl) | (simp [*, errW_none, errW_some] <;> rfl), by repeat (first | (with_reducible first | exact HB.out | apply below_alloc | apply pw_below_drewN | apply below_drew1) | exact HB.out)⟩

/-- THE ONE PURE STATEMENT of spykeep2_AxisMirror: yours. -/
def spykeep2_AxisMirror.Pure : Prop := ∀ (l0 : List Int), l0.length ≤ maxLen → l0.length * 8 ≤ 140737488351232 → (∀ x ∈ l0, (Lit.int .i64 x).wf = true) → ∃ k, spykeep2_AxisMirror.f k l0 = some true
theorem spykeep2_AxisMirror.walk (P : spykeep2_AxisMirror.Pure) (a0 : Option Addr) (len0 cap0 : Nat) (z0 : List Int) (w : World) (w0 : (a0 = none ∧ len0 = 0 ∧ cap0 = 0 ∧ z0 = []) ∨ ∃ x, a0 = some x ∧ len0 ≤ cap0 ∧ cap0 ≤ maxLen ∧ z0.length = cap0 ∧ (∀ i, i < z0.length → w.cell? (x.add i) = some (.int .i64 (z0.getD i 0))) ∧ ∀ n ∈ z0, (Lit.int .i64 n).wf = true) (y0 : len0 * 8 ≤ 140737488351232) :
    Calls Try.prog 6 #[.slice a0 len0 cap0] w fun e w' => e = .returned (.bool true) ∧ Below w.heap.size w w' := by
  obtain ⟨l0, rfl, hr0, hm0, hw0, hc0⟩ := ReadsInt.ofRowC w0
  obtain ⟨k, h⟩ := P l0 hm0 y0 hw0
  refine (spykeep2_AxisMirror.calls k _ _ l0 true w (Kd.C_of_reads (d := (0 : Int)) (h1 := fun _ => rfl) hr0) hc0 h).mono ?_
  rintro e w' ⟨rfl, hd⟩
  exact ⟨rfl, hd⟩

end Go.Proofs.Ytmdphfjpocmooaa.PAxisMirror
