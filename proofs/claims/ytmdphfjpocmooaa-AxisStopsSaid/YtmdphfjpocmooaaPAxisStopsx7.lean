-- Written by a program of this session out of the translation (wip/tools).
import Derived.Test.YtmdphfjpocmooaaPAxisStopsx0
import Derived.Test.YtmdphfjpocmooaaPAxisStopsx2
import Derived.Test.YtmdphfjpocmooaaPAxisStopsx3
import Derived.Test.YtmdphfjpocmooaaPAxisStopsx5
import Derived.Test.YtmdphfjpocmooaaPAxisStopsx6
namespace Go.Proofs.Ytmdphfjpocmooaa.PAxisStops
open Go.RowKit Go.Proofs.YtmdphfjpocmooaaW.PrintWords Go.Proofs.YtmdphfjpocmooaaW.PrintLast Go.Proofs.YtmdphfjpocmooaaW.PrintMore
attribute [local go_sem] max2_int min2_int max_two min_two max_three min_three max_four min_four   -- for this text's walks alone
set_option linter.unusedVariables false
set_option linter.unusedSimpArgs false

/-! ### spykeep2_AxisStops: function 9 -/
mutual
def spykeep2_AxisStops.l0 : Nat → Int → Int → Int → Int → Int → Int → Int → Int → Int → Int → Bool → Option (Bool)
  | 0, _, _, _, _, _, _, _, _, _, _, _ => none
  | k + 1, x8, x35, x36, x195000, x195001, x195002, x195003, x209000, x209001, x209002, x209003 => if x36 < x35 then ((axis_Step.f k x195000 x195001 x195002 x195003 x209000 x209001 x209002 x209003).bind fun bt210 => (spykeep2_AxisStops.l0 k x8 x35 (wrap64 (x36 + 1)) x195000 x195001 x195002 x195003 bt210.1 bt210.2.1 bt210.2.2.1 bt210.2.2.2)) else ((axis_Stop.f k x195000 x195001 x195002 x195003 x209001).bind fun t214 => (if x209001 < 0 then ((axis_Stop.f k x195000 x195001 x195002 x195003 x209001).bind fun t215 => (spykeep2_AxisStops.j1 k x8 (wrap64 (x209000 - t215)) x195000 x195001 x195002 x195003 x209000 x209001 x209002 x209003)) else (spykeep2_AxisStops.j1 k x8 (wrap64 (x209000 + t214)) x195000 x195001 x195002 x195003 x209000 x209001 x209002 x209003)))
def spykeep2_AxisStops.j1 : Nat → Int → Int → Int → Int → Int → Int → Int → Int → Int → Bool → Option (Bool)
  | 0, _, _, _, _, _, _, _, _, _, _ => none
  | k + 1, x8, x9, x195000, x195001, x195002, x195003, x209000, x209001, x209002, x209003 => (axis_Brake.f k x195000 x195001 x195002 x195003 x209000 x209001 x209002 x209003).bind fun bt216 => ((axis_Run.f k x195000 x195001 x195002 x195003 bt216.1 bt216.2.1 bt216.2.2.1 bt216.2.2.2.1 65).bind fun bt222 => (if x8 = 0 then (if bt216.2.2.2.2 = 0 then (if bt222.2 = 0 then (if (bt222.1.length : Int) = 0 then (some false) else (if 0 ≤ (wrap64 ((bt222.1.length : Int) - 1)) then (if (wrap64 ((bt222.1.length : Int) - 1)) < (bt222.1.length : Int) then ((axis_Resting.f ((rd_T45 bt222.1 (wrap64 ((bt222.1.length : Int) - 1))).f0) ((rd_T45 bt222.1 (wrap64 ((bt222.1.length : Int) - 1))).f1) ((rd_T45 bt222.1 (wrap64 ((bt222.1.length : Int) - 1))).f2) ((rd_T45 bt222.1 (wrap64 ((bt222.1.length : Int) - 1))).f3)).bind fun t228 => (if t228 = true then (some (((rd_T45 bt222.1 (wrap64 ((bt222.1.length : Int) - 1))).f0) == x9)) else (some false))) else (none)) else (none))) else (some false)) else (some false)) else (some false)))
end
def spykeep2_AxisStops.f (k : Nat) (l0 : List Int) (a1 : Int) : Option (Bool) := (spykeep2_goes.f k).bind fun t187 => (if t187 = true then ((spymake_Stream_Axis.f k l0 0).bind fun bt189 => ((spymake_Stream_Inside.f l0 bt189.2.2.2.2 bt189.1 bt189.2.1 bt189.2.2.1 bt189.2.2.2.1).bind fun bt195 => ((axis_Rest.f bt195.1).bind fun bt197 => ((spymake_Stream_Inside.f l0 bt195.2 bt189.1 bt189.2.1 bt189.2.2.1 bt189.2.2.2.1).bind fun bt201 => ((axis_Send.f k bt189.1 bt189.2.1 bt189.2.2.1 bt189.2.2.2.1 bt197.1 bt197.2.1 bt197.2.2.1 bt197.2.2.2 bt201.1).bind fun bt203 => ((spymake_Below.f a1 30).bind fun t209 => (spykeep2_AxisStops.l0 k bt203.2.2.2.2 t209 0 bt189.1 bt189.2.1 bt189.2.2.1 bt189.2.2.2.1 bt203.1 bt203.2.1 bt203.2.2.1 bt203.2.2.2.1))))))) else (some false))
theorem spykeep2_AxisStops.mono_l : ∀ k, (∀ y0 y1 y2 y3 y4 y5 y6 y7 y8 y9 y10, LeO (spykeep2_AxisStops.l0 k y0 y1 y2 y3 y4 y5 y6 y7 y8 y9 y10) (spykeep2_AxisStops.l0 (k + 1) y0 y1 y2 y3 y4 y5 y6 y7 y8 y9 y10)) ∧ (∀ y0 y1 y2 y3 y4 y5 y6 y7 y8 y9, LeO (spykeep2_AxisStops.j1 k y0 y1 y2 y3 y4 y5 y6 y7 y8 y9) (spykeep2_AxisStops.j1 (k + 1) y0 y1 y2 y3 y4 y5 y6 y7 y8 y9))
  | 0 => ⟨fun _ _ _ _ _ _ _ _ _ _ _ r h => by simp [spykeep2_AxisStops.l0] at h, fun _ _ _ _ _ _ _ _ _ _ r h => by simp [spykeep2_AxisStops.j1] at h⟩
  | k + 1 => by
    obtain ⟨ih0, ih1⟩ := spykeep2_AxisStops.mono_l k
    refine ⟨?_, ?_⟩
    · intro y0 y1 y2 y3 y4 y5 y6 y7 y8 y9 y10
      unfold spykeep2_AxisStops.l0
      repeat' first
      | (with_reducible exact ih0 _ _ _ _ _ _ _ _ _ _ _)
      | (with_reducible exact ih1 _ _ _ _ _ _ _ _ _ _)
      | (with_reducible exact axis_Brake.mono _ _ _ _ _ _ _ _ _)
      | (with_reducible exact axis_Run.mono _ _ _ _ _ _ _ _ _ _)
      | (with_reducible exact axis_Send.mono _ _ _ _ _ _ _ _ _ _)
      | (with_reducible exact axis_Step.mono _ _ _ _ _ _ _ _ _)
      | (with_reducible exact axis_Stop.mono _ _ _ _ _ _)
      | (with_reducible exact spykeep2_goes.mono _)
      | (with_reducible exact spymake_Stream_Axis.mono _ _ _)
      | (with_reducible exact LeO.refl _)
      | (with_reducible exact LeO.none _)
      | (with_reducible refine LeO.ite ?_ ?_)
      | (with_reducible refine LeO.bind ?_ (fun _ => ?_))
      | exact ih0 _ _ _ _ _ _ _ _ _ _ _
      | exact ih1 _ _ _ _ _ _ _ _ _ _
      | exact axis_Brake.mono _ _ _ _ _ _ _ _ _
      | exact axis_Run.mono _ _ _ _ _ _ _ _ _ _
      | exact axis_Send.mono _ _ _ _ _ _ _ _ _ _
      | exact axis_Step.mono _ _ _ _ _ _ _ _ _
      | exact axis_Stop.mono _ _ _ _ _ _
      | exact spykeep2_goes.mono _
      | exact spymake_Stream_Axis.mono _ _ _
      | exact LeO.none _
      | refine LeO.ite ?_ ?_
      | refine LeO.bind ?_ (fun _ => ?_)
    · intro y0 y1 y2 y3 y4 y5 y6 y7 y8 y9
      unfold spykeep2_AxisStops.j1
      repeat' first
      | (with_reducible exact ih0 _ _ _ _ _ _ _ _ _ _ _)
      | (with_reducible exact ih1 _ _ _ _ _ _ _ _ _ _)
      | (with_reducible exact axis_Brake.mono _ _ _ _ _ _ _ _ _)
      | (with_reducible exact axis_Run.mono _ _ _ _ _ _ _ _ _ _)
      | (with_reducible exact axis_Send.mono _ _ _ _ _ _ _ _ _ _)
      | (with_reducible exact axis_Step.mono _ _ _ _ _ _ _ _ _)
      | (with_reducible exact axis_Stop.mono _ _ _ _ _ _)
      | (with_reducible exact spykeep2_goes.mono _)
      | (with_reducible exact spymake_Stream_Axis.mono _ _ _)
      | (with_reducible exact LeO.refl _)
      | (with_reducible exact LeO.none _)
      | (with_reducible refine LeO.ite ?_ ?_)
      | (with_reducible refine LeO.bind ?_ (fun _ => ?_))
      | exact ih0 _ _ _ _ _ _ _ _ _ _ _
      | exact ih1 _ _ _ _ _ _ _ _ _ _
      | exact axis_Brake.mono _ _ _ _ _ _ _ _ _
      | exact axis_Run.mono _ _ _ _ _ _ _ _ _ _
      | exact axis_Send.mono _ _ _ _ _ _ _ _ _ _
      | exact axis_Step.mono _ _ _ _ _ _ _ _ _
      | exact axis_Stop.mono _ _ _ _ _ _
      | exact spykeep2_goes.mono _
      | exact spymake_Stream_Axis.mono _ _ _
      | exact LeO.none _
      | refine LeO.ite ?_ ?_
      | refine LeO.bind ?_ (fun _ => ?_)
theorem spykeep2_AxisStops.mono : ∀ a0 a1 k, LeO (spykeep2_AxisStops.f k a0 a1) (spykeep2_AxisStops.f (k + 1) a0 a1) := by
  intro a0 a1 k
  obtain ⟨ih0, ih1⟩ := spykeep2_AxisStops.mono_l k
  unfold spykeep2_AxisStops.f
  repeat' first
      | (with_reducible exact ih0 _ _ _ _ _ _ _ _ _ _ _)
      | (with_reducible exact ih1 _ _ _ _ _ _ _ _ _ _)
      | (with_reducible exact axis_Brake.mono _ _ _ _ _ _ _ _ _)
      | (with_reducible exact axis_Run.mono _ _ _ _ _ _ _ _ _ _)
      | (with_reducible exact axis_Send.mono _ _ _ _ _ _ _ _ _ _)
      | (with_reducible exact axis_Step.mono _ _ _ _ _ _ _ _ _)
      | (with_reducible exact axis_Stop.mono _ _ _ _ _ _)
      | (with_reducible exact spykeep2_goes.mono _)
      | (with_reducible exact spymake_Stream_Axis.mono _ _ _)
      | (with_reducible exact LeO.refl _)
      | (with_reducible exact LeO.none _)
      | (with_reducible refine LeO.ite ?_ ?_)
      | (with_reducible refine LeO.bind ?_ (fun _ => ?_))
      | exact ih0 _ _ _ _ _ _ _ _ _ _ _
      | exact ih1 _ _ _ _ _ _ _ _ _ _
      | exact axis_Brake.mono _ _ _ _ _ _ _ _ _
      | exact axis_Run.mono _ _ _ _ _ _ _ _ _ _
      | exact axis_Send.mono _ _ _ _ _ _ _ _ _ _
      | exact axis_Step.mono _ _ _ _ _ _ _ _ _
      | exact axis_Stop.mono _ _ _ _ _ _
      | exact spykeep2_goes.mono _
      | exact spymake_Stream_Axis.mono _ _ _
      | exact LeO.none _
      | refine LeO.ite ?_ ?_
      | refine LeO.bind ?_ (fun _ => ?_)
def spykeep2_AxisStops.T5 : Bool × List (List Nat × List Nat) := (true, [([], []), ([], []), ([], []), ([1, 2], [1, 2]), ([3, 3], [3]), ([], []), ([], []), ([5, 6, 4], [5, 6]), ([0, 4, 7, 7], [0, 4, 7]), ([8], [8]), ([9], [9]), ([9], [9]), ([], []), ([12, 10, 8, 0, 1, 2, 3, 4, 5, 6, 7, 8, 9, 10, 12], [10, 12]), ([11, 13, 0, 1, 2, 3, 4, 5, 6, 7, 8, 9, 10, 11, 12, 13], [11])])
def spykeep2_AxisStops.B5 : List Nat := [0, 0, 0, 6, 14, 0, 0, 126, 255, 511, 1023, 1023, 0, 6143, 16383]
theorem spykeep2_AxisStops.tab5 : rtab .any (opsOf Try.f9 5) = spykeep2_AxisStops.T5 := by kernel_rfl
theorem spykeep2_AxisStops.bits5 : waitsOk spykeep2_AxisStops.T5.2 spykeep2_AxisStops.B5 = true := by kernel_rfl
def spykeep2_AxisStops.T10 : Bool × List (List Nat × List Nat) := (true, [([], []), ([0], [0]), ([], []), ([], []), ([3], [3]), ([2, 4], [2, 4]), ([1, 5], [1, 5]), ([6, 5, 0, 1, 2, 3, 4, 5, 6], [6])])
def spykeep2_AxisStops.B10 : List Nat := [0, 1, 0, 0, 8, 28, 63, 127]
theorem spykeep2_AxisStops.tab10 : rtab .any (opsOf Try.f9 10) = spykeep2_AxisStops.T10 := by kernel_rfl
theorem spykeep2_AxisStops.bits10 : waitsOk spykeep2_AxisStops.T10.2 spykeep2_AxisStops.B10 = true := by kernel_rfl
def spykeep2_AxisStops.T12 : Bool × List (List Nat × List Nat) := (true, [([], []), ([0], [0]), ([], []), ([], []), ([3], [3]), ([2, 4], [2, 4]), ([1, 5], [1, 5]), ([6, 5, 0, 1, 2, 3, 4, 5, 6], [6])])
def spykeep2_AxisStops.B12 : List Nat := [0, 1, 0, 0, 8, 28, 63, 127]
theorem spykeep2_AxisStops.tab12 : rtab .any (opsOf Try.f9 12) = spykeep2_AxisStops.T12 := by kernel_rfl
theorem spykeep2_AxisStops.bits12 : waitsOk spykeep2_AxisStops.T12.2 spykeep2_AxisStops.B12 = true := by kernel_rfl
set_option maxHeartbeats 8000000 in
set_option maxRecDepth 100000 in
theorem spykeep2_AxisStops.calls (k : Nat) (A0 : Option Addr) (c0 : Nat) (l0 : List Int) (a1 : Int) (r : Bool) (w : World) (hr0 : Kd.C (Kd.int .i64) w A0 l0.length l0) (hc0 : l0.length ≤ c0) (h : spykeep2_AxisStops.f k l0 a1 = some r) :
    Calls Try.prog 9 #[.slice A0 l0.length c0, .int .i64 a1] w fun e w' => e = .returned (.bool r) ∧ Below w.heap.size w w' := by
  have hu26 := Try.underlying26
  have hu28 := Try.underlying28
  have hu45 := Try.underlying45
  have HR0 := Aside0.mk hr0
  have HC0 := Aside0.mk hc0
  clear hr0 hc0
  have HB := Aside0.mk (Below.refl w.heap.size w)
  have H : ((spykeep2_goes.f k).bind fun t187 => (if t187 = true then ((spymake_Stream_Axis.f k l0 0).bind fun bt189 => ((spymake_Stream_Inside.f l0 bt189.2.2.2.2 bt189.1 bt189.2.1 bt189.2.2.1 bt189.2.2.2.1).bind fun bt195 => ((axis_Rest.f bt195.1).bind fun bt197 => ((spymake_Stream_Inside.f l0 bt195.2 bt189.1 bt189.2.1 bt189.2.2.1 bt189.2.2.2.1).bind fun bt201 => ((axis_Send.f k bt189.1 bt189.2.1 bt189.2.2.1 bt189.2.2.2.1 bt197.1 bt197.2.1 bt197.2.2.1 bt197.2.2.2 bt201.1).bind fun bt203 => ((spymake_Below.f a1 30).bind fun t209 => (spykeep2_AxisStops.l0 k bt203.2.2.2.2 t209 0 bt189.1 bt189.2.1 bt189.2.2.1 bt189.2.2.2.1 bt203.1 bt203.2.1 bt203.2.2.1 bt203.2.2.2.1))))))) else (some false))) = some r := h
  clear h
  replace H := Option.bind_eq_some_iff.mp H
  obtain ⟨t187, A30, H⟩ := H
  replace H : (if t187 = true then ((spymake_Stream_Axis.f k l0 0).bind fun bt189 => ((spymake_Stream_Inside.f l0 bt189.2.2.2.2 bt189.1 bt189.2.1 bt189.2.2.1 bt189.2.2.2.1).bind fun bt195 => ((axis_Rest.f bt195.1).bind fun bt197 => ((spymake_Stream_Inside.f l0 bt195.2 bt189.1 bt189.2.1 bt189.2.2.1 bt189.2.2.2.1).bind fun bt201 => ((axis_Send.f k bt189.1 bt189.2.1 bt189.2.2.1 bt189.2.2.2.1 bt197.1 bt197.2.1 bt197.2.2.1 bt197.2.2.2 bt201.1).bind fun bt203 => ((spymake_Below.f a1 30).bind fun t209 => (spykeep2_AxisStops.l0 k bt203.2.2.2.2 t209 0 bt189.1 bt189.2.1 bt189.2.2.1 bt189.2.2.2.1 bt203.1 bt203.2.1 bt203.2.2.1 bt203.2.2.2.1))))))) else (some false)) = some r := H
  have A3 := Aside0.mk A30
  clear A30
  by_cases c4 : t187 = true
  · subst c4
    have H1 : ((spymake_Stream_Axis.f k l0 0).bind fun bt189 => ((spymake_Stream_Inside.f l0 bt189.2.2.2.2 bt189.1 bt189.2.1 bt189.2.2.1 bt189.2.2.2.1).bind fun bt195 => ((axis_Rest.f bt195.1).bind fun bt197 => ((spymake_Stream_Inside.f l0 bt195.2 bt189.1 bt189.2.1 bt189.2.2.1 bt189.2.2.2.1).bind fun bt201 => ((axis_Send.f k bt189.1 bt189.2.1 bt189.2.2.1 bt189.2.2.2.1 bt197.1 bt197.2.1 bt197.2.2.1 bt197.2.2.2 bt201.1).bind fun bt203 => ((spymake_Below.f a1 30).bind fun t209 => (spykeep2_AxisStops.l0 k bt203.2.2.2.2 t209 0 bt189.1 bt189.2.1 bt189.2.2.1 bt189.2.2.2.1 bt203.1 bt203.2.1 bt203.2.2.1 bt203.2.2.2.1))))))) = some r := by rw [if_pos rfl] at H; exact H
    clear H
    have H := H1
    clear H1
    replace H := Option.bind_eq_some_iff.mp H
    obtain ⟨⟨t189, t190, t191, t192, t193⟩, A50, H⟩ := H
    replace H : ((spymake_Stream_Inside.f l0 t193 t189 t190 t191 t192).bind fun bt195 => ((axis_Rest.f bt195.1).bind fun bt197 => ((spymake_Stream_Inside.f l0 bt195.2 t189 t190 t191 t192).bind fun bt201 => ((axis_Send.f k t189 t190 t191 t192 bt197.1 bt197.2.1 bt197.2.2.1 bt197.2.2.2 bt201.1).bind fun bt203 => ((spymake_Below.f a1 30).bind fun t209 => (spykeep2_AxisStops.l0 k bt203.2.2.2.2 t209 0 t189 t190 t191 t192 bt203.1 bt203.2.1 bt203.2.2.1 bt203.2.2.2.1)))))) = some r := H
    have A5 := Aside0.mk A50
    clear A50
    replace H := Option.bind_eq_some_iff.mp H
    obtain ⟨⟨t195, t196⟩, A60, H⟩ := H
    replace H : ((axis_Rest.f t195).bind fun bt197 => ((spymake_Stream_Inside.f l0 t196 t189 t190 t191 t192).bind fun bt201 => ((axis_Send.f k t189 t190 t191 t192 bt197.1 bt197.2.1 bt197.2.2.1 bt197.2.2.2 bt201.1).bind fun bt203 => ((spymake_Below.f a1 30).bind fun t209 => (spykeep2_AxisStops.l0 k bt203.2.2.2.2 t209 0 t189 t190 t191 t192 bt203.1 bt203.2.1 bt203.2.2.1 bt203.2.2.2.1))))) = some r := H
    have A6 := Aside0.mk A60
    clear A60
    replace H := Option.bind_eq_some_iff.mp H
    obtain ⟨⟨t197, t198, t199, t200⟩, A70, H⟩ := H
    replace H : ((spymake_Stream_Inside.f l0 t196 t189 t190 t191 t192).bind fun bt201 => ((axis_Send.f k t189 t190 t191 t192 t197 t198 t199 t200 bt201.1).bind fun bt203 => ((spymake_Below.f a1 30).bind fun t209 => (spykeep2_AxisStops.l0 k bt203.2.2.2.2 t209 0 t189 t190 t191 t192 bt203.1 bt203.2.1 bt203.2.2.1 bt203.2.2.2.1)))) = some r := H
    have A7 := Aside0.mk A70
    clear A70
    replace H := Option.bind_eq_some_iff.mp H
    obtain ⟨⟨t201, t202⟩, A80, H⟩ := H
    replace H : ((axis_Send.f k t189 t190 t191 t192 t197 t198 t199 t200 t201).bind fun bt203 => ((spymake_Below.f a1 30).bind fun t209 => (spykeep2_AxisStops.l0 k bt203.2.2.2.2 t209 0 t189 t190 t191 t192 bt203.1 bt203.2.1 bt203.2.2.1 bt203.2.2.2.1))) = some r := H
    have A8 := Aside0.mk A80
    clear A80
    replace H := Option.bind_eq_some_iff.mp H
    obtain ⟨⟨t203, t204, t205, t206, t207⟩, A90, H⟩ := H
    replace H : ((spymake_Below.f a1 30).bind fun t209 => (spykeep2_AxisStops.l0 k t207 t209 0 t189 t190 t191 t192 t203 t204 t205 t206)) = some r := H
    have A9 := Aside0.mk A90
    clear A90
    replace H := Option.bind_eq_some_iff.mp H
    obtain ⟨t209, A100, H⟩ := H
    replace H : (spykeep2_AxisStops.l0 k t207 t209 0 t189 t190 t191 t192 t203 t204 t205 t206) = some r := H
    have A10 := Aside0.mk A100
    clear A100
    have H' := Aside0.mk H
    clear H
    go_enter Try.func9, Try.ntmps9
    try go_wp2_with (first | ((with_reducible refine gate_callee (f := 22) rfl ?_); refine goesL_ (some 15) rfl rfl Try.func22 (by kernel_rfl) rfl #[] rfl (by (try simp only [List.map_toArray, List.map_cons, List.map_nil]); first | done | rfl | (simp only [List.length_drop, List.length_take]; rfl)) ?_; (with_reducible refine (spykeep2_goes.calls k  true _ A3.out).mono ?_); rintro e w11 ⟨rfl, hb⟩; refine ⟨_, rfl, ?_⟩; have n0_ := Aside0.mk (below_step (by repeat (first | (with_reducible first | exact HB.out | apply below_alloc | apply pw_below_drewN | apply below_drew1) | exact HB.out)) hb); clear HB; have HB := n0_; clear n0_; (try clear hb); (try clear hb2); (try clear hk); (try clear hi)) | ((with_reducible refine gate_dst (N := 19) rfl ?_); (try (refine gate_guard (by rfl) ?_; dsimp only)); refine box_event ?hg (N := 19) ?hd (cs := #[.slice A0 l0.length c0, .int .i64 0]) (t := 26) ?hr ?_; (case hd => rfl); (case hg => rfl); (case hr => first | (go_simp; done) | (go_simp; rfl)); intro gb188 hg w12 hbox hb; have n0_ := Aside0.mk (below_step (by repeat (first | (with_reducible first | exact HB.out | apply below_alloc | apply pw_below_drewN | apply below_drew1) | exact HB.out)) hb); have n1_ := Aside0.mk ((by rw [hg]; exact (below_size (by repeat (first | (with_reducible first | exact HB.out | apply below_alloc | apply pw_below_drewN | apply below_drew1) | exact HB.out))) : w.heap.size ≤ gb188)); have n2_ := Aside0.mk ((by rw [hg]; exact (below_size (by repeat (first | (with_reducible first | exact HB.out | apply below_alloc | apply pw_below_drewN | apply below_drew1) | exact HB.out))) : w.heap.size ≤ gb188)); have n3_ := Aside0.mk ((show IsS26 w w12 gb188 l0 0 from ⟨_, _, hbox, (by rw [hg]; exact (below_size (by repeat (first | (with_reducible first | exact HB.out | apply below_alloc | apply pw_below_drewN | apply below_drew1) | exact HB.out))) : w.heap.size ≤ gb188), HR0.out⟩)); clear HB; have HB := n0_; have GW188 := n1_; have GE188 := n2_; have HI188 := n3_; clear n0_ n1_ n2_ n3_; clear hb hbox hg) | ((with_reducible refine gate_callee (f := 12) rfl ?_); refine goesL_ (some 21) rfl rfl Try.func12 (by kernel_rfl) rfl #[.pointer (some ⟨gb188, 0, none⟩)] rfl (by (try simp only [List.map_toArray, List.map_cons, List.map_nil]); first | done | rfl | (simp only [List.length_drop, List.length_take]; rfl)) ?_; (with_reducible refine (spymake_Stream_Axis.calls k gb188 l0 0 t189 t190 t191 t192 t193 w _ ?side1 ?side2 A5.out).mono ?_); (case side1 => repeat (first | (with_reducible first | exact HI188.out | apply IsS26.alloc | apply IsS26.drewN | apply IsS26.drew | apply IsS26.set_1) | exact HI188.out)); (case side2 => repeat (first | (with_reducible first | exact HB.out | apply below_alloc | apply pw_below_drewN | apply below_drew1 | refine below_set ?_ (IsS26.ge HI188.out)) | exact HB.out)); rintro e w13 ⟨rfl, hi, hb, hk⟩; refine ⟨_, rfl, ?_⟩; have n0_ := Aside0.mk (hb); have n1_ := Aside0.mk (hi); clear HB; clear HI188; have HB := n0_; have HI188 := n1_; clear n0_ n1_; (try clear hb); (try clear hb2); (try clear hk); (try clear hi)) | ((with_reducible refine gate_dst (N := 6) rfl ?_); (try (refine gate_guard (by rfl) ?_; dsimp only)); refine box_event ?hg (N := 6) ?hd (cs := #[.int .i64 0, .int .i64 0, .int .i64 0, .int .i64 0]) (t := 28) ?hr ?_; (case hd => rfl); (case hg => rfl); (case hr => first | (go_simp; done) | (go_simp; rfl)); intro gb194 hg w14 hbox hb; have n0_ := Aside0.mk (IsS26.below (by repeat (first | (with_reducible first | exact HI188.out | apply IsS26.alloc | apply IsS26.drewN | apply IsS26.drew | apply IsS26.set_1) | exact HI188.out)) hb); have n1_ := Aside0.mk (below_step (by repeat (first | (with_reducible first | exact HB.out | apply below_alloc | apply pw_below_drewN | apply below_drew1 | refine below_set ?_ (IsS26.ge HI188.out)) | exact HB.out)) hb); have n2_ := Aside0.mk (hbox); have n3_ := Aside0.mk ((by rw [hg]; exact (below_size (by repeat (first | (with_reducible first | exact HB.out | apply below_alloc | apply pw_below_drewN | apply below_drew1 | refine below_set ?_ (IsS26.ge HI188.out)) | exact HB.out))) : w.heap.size ≤ gb194)); have n4_ := Aside0.mk ((by rw [hg]; exact (below_size (by repeat (first | (with_reducible first | exact HB.out | apply below_alloc | apply pw_below_drewN | apply below_drew1 | refine below_set ?_ (IsS26.ge HI188.out)) | exact HB.out))) : w.heap.size ≤ gb194)); have n5_ := Aside0.mk ((by rw [hg]; exact Nat.ne_of_lt (IsS26.lt (show IsS26 w _ gb188 l0 t193 from by repeat (first | (with_reducible first | exact HI188.out | apply IsS26.alloc | apply IsS26.drewN | apply IsS26.drew | apply IsS26.set_1) | exact HI188.out))) : gb188 ≠ gb194)); have n6_ := Aside0.mk ((by rw [hg]; exact Nat.ne_of_gt (IsS26.lt (show IsS26 w _ gb188 l0 t193 from by repeat (first | (with_reducible first | exact HI188.out | apply IsS26.alloc | apply IsS26.drewN | apply IsS26.drew | apply IsS26.set_1) | exact HI188.out))) : gb194 ≠ gb188)); clear HI188; clear HB; have HI188 := n0_; have HB := n1_; have BK194 := n2_; have GW194 := n3_; have GE194 := n4_; have NB188_194 := n5_; have NB194_188 := n6_; clear n0_ n1_ n2_ n3_ n4_ n5_ n6_; clear hb hbox hg; have hnb15 := NB194_188.out; have hnc15 := NB188_194.out; have hcz16_0 : w14.cell? ⟨gb194, 0, none⟩ = some (.int .i64 0) := (blk_cell BK194.out 0).trans rfl; have hcz16_1 : w14.cell? ⟨gb194, 1, none⟩ = some (.int .i64 0) := (blk_cell BK194.out 1).trans rfl; have hcz16_2 : w14.cell? ⟨gb194, 2, none⟩ = some (.int .i64 0) := (blk_cell BK194.out 2).trans rfl; have hcz16_3 : w14.cell? ⟨gb194, 3, none⟩ = some (.int .i64 0) := (blk_cell BK194.out 3).trans rfl; have hfz16_0 := blk_frozen BK194.out 0; have hfz16_1 := blk_frozen BK194.out 1; have hfz16_2 := blk_frozen BK194.out 2; have hfz16_3 := blk_frozen BK194.out 3) | ((with_reducible refine gate_store (t := 28) (p := 6) rfl ?_); refine store_event (t := 28) (p := 6) (v := ?vo_w17) (w1 := ((((w14.setCell ⟨gb194, 0, none⟩ (.int .i64 t189)).setCell ⟨gb194, 1, none⟩ (.int .i64 t190)).setCell ⟨gb194, 2, none⟩ (.int .i64 t191)).setCell ⟨gb194, 3, none⟩ (.int .i64 t192))) ?hg ?ho ?hn ?hr ?_; (case ho => rfl); (case hg => rfl); (case hn => rfl); (case hr => first | (go_simp; done) | (go_simp; rfl)); intro w17 hw; have n0_ : Aside0 (w17.heap[gb194]? = some (.cells #[.int .i64 t189, .int .i64 t190, .int .i64 t191, .int .i64 t192] 28 (0, 0))) := ⟨(by rw [hw]; exact (by (with_reducible repeat (first | refine blk_drewN ?_ _ | refine blk_drew ?_ | refine blk_alloc ?_ _)); refine blk_put (cs := #[.int .i64 t189, .int .i64 t190, .int .i64 t191, .int .i64 0]) ?_ 3 _ rfl; (with_reducible repeat (first | refine blk_drewN ?_ _ | refine blk_drew ?_ | refine blk_alloc ?_ _)); refine blk_put (cs := #[.int .i64 t189, .int .i64 t190, .int .i64 0, .int .i64 0]) ?_ 2 _ rfl; (with_reducible repeat (first | refine blk_drewN ?_ _ | refine blk_drew ?_ | refine blk_alloc ?_ _)); refine blk_put (cs := #[.int .i64 t189, .int .i64 0, .int .i64 0, .int .i64 0]) ?_ 1 _ rfl; (with_reducible repeat (first | refine blk_drewN ?_ _ | refine blk_drew ?_ | refine blk_alloc ?_ _)); refine blk_put (cs := #[.int .i64 0, .int .i64 0, .int .i64 0, .int .i64 0]) ?_ 0 _ rfl; (with_reducible repeat (first | refine blk_drewN ?_ _ | refine blk_drew ?_ | refine blk_alloc ?_ _)); exact BK194.out))⟩; have n1_ : Aside0 (IsS26 w w17 gb188 l0 t193) := ⟨(by rw [hw]; exact (by repeat (first | (with_reducible first | exact HI188.out | apply IsS26.alloc | apply IsS26.drewN | apply IsS26.drew | apply IsS26.set_1 | refine IsS26.far ?_ NB188_194.out _) | exact HI188.out)))⟩; have n2_ : Aside0 (Below w.heap.size w w17) := ⟨(by rw [hw]; exact (by repeat (first | (with_reducible first | exact HB.out | apply below_alloc | apply pw_below_drewN | apply below_drew1 | refine below_set ?_ (IsS26.ge HI188.out) | refine below_set ?_ GE194.out) | exact HB.out)))⟩; clear hw; clear BK194; clear HI188; clear HB; have BK194 := n0_; have HI188 := n1_; have HB := n2_; clear n0_ n1_ n2_))
    have n0_ := Aside0.mk (blk_drew BK194.out)
    have n1_ := Aside0.mk (IsS26.drew HI188.out)
    have n2_ := Aside0.mk (below_drew1 HB.out)
    clear BK194
    clear HI188
    clear HB
    have BK194 := n0_
    have HI188 := n1_
    have HB := n2_
    clear n0_ n1_ n2_
    refine start_ (n := 15) (S := fun w' => w'.cell? ⟨gb194, 0, none⟩ = some (.int .i64 t189) ∧ w'.cell? ⟨gb194, 1, none⟩ = some (.int .i64 t190) ∧ w'.cell? ⟨gb194, 2, none⟩ = some (.int .i64 t191) ∧ w'.cell? ⟨gb194, 3, none⟩ = some (.int .i64 t192)) (ds := []) #[false, false, false, false, false, false, false, false, false, false, false, false, false, false, false] (by kernel_rfl) rfl rfl ⟨(blk_cell BK194.out 0).trans rfl, (blk_cell BK194.out 1).trans rfl, (blk_cell BK194.out 2).trans rfl, (blk_cell BK194.out 3).trans rfl⟩ (fun hHeld => ?_); refine with_tabW spykeep2_AxisStops.tab5 spykeep2_AxisStops.bits5 (fun HT_ HW_ => ?_)
    generalize w17.drew = w18 at BK194 HI188 HB hHeld ⊢
    refine pure_ (i := 1) (N := some 24) (v := ?_) (a' := ?_) #[false, true, false, false, false, false, false, false, false, false, false, false, false, false, false] rfl rfl (any_of HT_.out (by kernel_rfl)) (fun _ _ _ h => h) (Or.inl ⟨by rfl, ?_⟩) ?_ ?_
    rotate_left
    · intro w'
      go_simp
      with_reducible rfl
    rotate_left
    · simp only [Act.put, List.setIfInBounds_toArray, List.set_cons_zero, List.set_cons_succ, i64_w, i32_w]
      rfl
    refine pure_ (i := 5) (N := some 28) (v := ?_) (a' := ?_) #[false, true, false, false, false, true, false, false, false, false, false, false, false, false, false] rfl rfl (any_of HT_.out (by kernel_rfl)) (fun _ _ _ h => h) (Or.inl ⟨by rfl, ?_⟩) ?_ ?_
    rotate_left
    · intro w'
      go_simp
      with_reducible rfl
    rotate_left
    · simp only [Act.put, List.setIfInBounds_toArray, List.set_cons_zero, List.set_cons_succ, i64_w, i32_w]
      rfl
    refine take_ (i := 0) (N := some 23) (v := ?_) (a' := ?_) #[true, true, false, false, false, true, false, false, false, false, false, false, false, false, false] rfl rfl (take_ofW HT_.out HW_.out (by kernel_rfl)) (fun _ _ _ h => h) (Or.inl ⟨by rfl, ?_⟩) hHeld ?_ ?_
    rotate_left
    · rintro w' ⟨s0, s1, s2, s3⟩
      go_simp
      with_reducible rfl
    rotate_left
    · simp only [Act.put, List.setIfInBounds_toArray, List.set_cons_zero, List.set_cons_succ, i64_w, i32_w]
      rfl
    refine take_ (i := 2) (N := some 25) (v := ?_) (a' := ?_) #[true, true, true, false, false, true, false, false, false, false, false, false, false, false, false] rfl rfl (take_ofW HT_.out HW_.out (by kernel_rfl)) (fun _ _ _ h => h) (Or.inl ⟨by rfl, ?_⟩) hHeld ?_ ?_
    rotate_left
    · rintro w' ⟨s0, s1, s2, s3⟩
      go_simp
      with_reducible rfl
    rotate_left
    · simp only [Act.put, List.setIfInBounds_toArray, List.set_cons_zero, List.set_cons_succ, i64_w, i32_w]
      rfl
    refine take_ (i := 6) (N := some 29) (v := ?_) (a' := ?_) #[true, true, true, false, false, true, true, false, false, false, false, false, false, false, false] rfl rfl (take_ofW HT_.out HW_.out (by kernel_rfl)) (fun _ _ _ h => h) (Or.inl ⟨by rfl, ?_⟩) hHeld ?_ ?_
    rotate_left
    · rintro w' ⟨s0, s1, s2, s3⟩
      go_simp
      with_reducible rfl
    rotate_left
    · simp only [Act.put, List.setIfInBounds_toArray, List.set_cons_zero, List.set_cons_succ, i64_w, i32_w]
      rfl
    refine join_ (σ := Nat) 2 #[true, true, true, true, true, true, true, true, true, true, true, true, true, false, false] (fun s_ => [(26, .int .i64 t195), (27, .agg #[.int .i64 t197, .int .i64 t198, .int .i64 t199, .bool t200]), (30, .int .i64 t201), (31, .tuple #[.agg #[.int .i64 t203, .int .i64 t204, .int .i64 t205, .bool t206], .int .i64 t207]), (7, .pointer (some ⟨s_, 0, none⟩)), (22, .tuple #[.agg #[.int .i64 t203, .int .i64 t204, .int .i64 t205, .bool t206], .int .i64 t207]), (32, .agg #[.int .i64 t203, .int .i64 t204, .int .i64 t205, .bool t206]), (33, .int .i64 t207)]) (fun s_ w' => (w'.cell? ⟨gb194, 0, none⟩ = some (.int .i64 t189) ∧ w'.cell? ⟨gb194, 1, none⟩ = some (.int .i64 t190) ∧ w'.cell? ⟨gb194, 2, none⟩ = some (.int .i64 t191) ∧ w'.cell? ⟨gb194, 3, none⟩ = some (.int .i64 t192)) ∧ (w'.heap[gb194]? = some (.cells #[.int .i64 t189, .int .i64 t190, .int .i64 t191, .int .i64 t192] 28 (0, 0))) ∧ (w'.heap[s_]? = some (.cells #[.int .i64 0, .int .i64 0, .int .i64 0, .bool false] 45 (0, 0))) ∧ (w.heap.size ≤ s_) ∧ (w.heap.size ≤ s_) ∧ (gb188 ≠ s_) ∧ (s_ ≠ gb188) ∧ (gb194 ≠ s_) ∧ (s_ ≠ gb194) ∧ (IsS26 w w' gb188 l0 t202) ∧ (Below w.heap.size w w')) ?_ ?_
    rotate_left
    · intro hJ3_4_7_8_12
      refine join_ (σ := Unit) 3 #[true, true, true, true, true, true, true, true, true, true, true, true, false, false, false] (fun s_ => [(26, .int .i64 t195), (27, .agg #[.int .i64 t197, .int .i64 t198, .int .i64 t199, .bool t200]), (30, .int .i64 t201), (31, .tuple #[.agg #[.int .i64 t203, .int .i64 t204, .int .i64 t205, .bool t206], .int .i64 t207]), (22, .tuple #[.agg #[.int .i64 t203, .int .i64 t204, .int .i64 t205, .bool t206], .int .i64 t207]), (32, .agg #[.int .i64 t203, .int .i64 t204, .int .i64 t205, .bool t206]), (33, .int .i64 t207)]) (fun s_ w' => (w'.cell? ⟨gb194, 0, none⟩ = some (.int .i64 t189) ∧ w'.cell? ⟨gb194, 1, none⟩ = some (.int .i64 t190) ∧ w'.cell? ⟨gb194, 2, none⟩ = some (.int .i64 t191) ∧ w'.cell? ⟨gb194, 3, none⟩ = some (.int .i64 t192)) ∧ (w'.heap[gb194]? = some (.cells #[.int .i64 t189, .int .i64 t190, .int .i64 t191, .int .i64 t192] 28 (0, 0))) ∧ (IsS26 w w' gb188 l0 t202) ∧ (Below w.heap.size w w')) ?_ ?_
      rotate_left
      · intro hJ3_4_7_8
        refine join_ (σ := Nat) 6 #[true, true, true, true, true, true, true, true, false, false, false, false, true, false, false] (fun s_ => [(26, .int .i64 t195), (27, .agg #[.int .i64 t197, .int .i64 t198, .int .i64 t199, .bool t200]), (30, .int .i64 t201), (7, .pointer (some ⟨s_, 0, none⟩))]) (fun s_ w' => (w'.cell? ⟨gb194, 0, none⟩ = some (.int .i64 t189) ∧ w'.cell? ⟨gb194, 1, none⟩ = some (.int .i64 t190) ∧ w'.cell? ⟨gb194, 2, none⟩ = some (.int .i64 t191) ∧ w'.cell? ⟨gb194, 3, none⟩ = some (.int .i64 t192)) ∧ (w'.heap[gb194]? = some (.cells #[.int .i64 t189, .int .i64 t190, .int .i64 t191, .int .i64 t192] 28 (0, 0))) ∧ (w'.heap[s_]? = some (.cells #[.int .i64 0, .int .i64 0, .int .i64 0, .bool false] 45 (0, 0))) ∧ (w.heap.size ≤ s_) ∧ (w.heap.size ≤ s_) ∧ (gb188 ≠ s_) ∧ (s_ ≠ gb188) ∧ (gb194 ≠ s_) ∧ (s_ ≠ gb194) ∧ (IsS26 w w' gb188 l0 t202) ∧ (Below w.heap.size w w')) ?_ ?_
        rotate_left
        · intro hJ3_4_7_12
          refine join_ (σ := Unit) 7 #[true, true, true, true, true, true, true, true, false, false, false, false, false, false, false] (fun s_ => [(26, .int .i64 t195), (27, .agg #[.int .i64 t197, .int .i64 t198, .int .i64 t199, .bool t200]), (30, .int .i64 t201)]) (fun s_ w' => (w'.cell? ⟨gb194, 0, none⟩ = some (.int .i64 t189) ∧ w'.cell? ⟨gb194, 1, none⟩ = some (.int .i64 t190) ∧ w'.cell? ⟨gb194, 2, none⟩ = some (.int .i64 t191) ∧ w'.cell? ⟨gb194, 3, none⟩ = some (.int .i64 t192)) ∧ (w'.heap[gb194]? = some (.cells #[.int .i64 t189, .int .i64 t190, .int .i64 t191, .int .i64 t192] 28 (0, 0))) ∧ (IsS26 w w' gb188 l0 t202) ∧ (Below w.heap.size w w')) ?_ ?_
          rotate_left
          · intro hJ3_4_7
            refine join_ (σ := Nat) 7 #[true, true, true, true, true, true, true, false, false, false, false, false, true, false, false] (fun s_ => [(26, .int .i64 t195), (27, .agg #[.int .i64 t197, .int .i64 t198, .int .i64 t199, .bool t200]), (7, .pointer (some ⟨s_, 0, none⟩))]) (fun s_ w' => (w'.cell? ⟨gb194, 0, none⟩ = some (.int .i64 t189) ∧ w'.cell? ⟨gb194, 1, none⟩ = some (.int .i64 t190) ∧ w'.cell? ⟨gb194, 2, none⟩ = some (.int .i64 t191) ∧ w'.cell? ⟨gb194, 3, none⟩ = some (.int .i64 t192)) ∧ (w'.heap[gb194]? = some (.cells #[.int .i64 t189, .int .i64 t190, .int .i64 t191, .int .i64 t192] 28 (0, 0))) ∧ (w'.heap[s_]? = some (.cells #[.int .i64 0, .int .i64 0, .int .i64 0, .bool false] 45 (0, 0))) ∧ (w.heap.size ≤ s_) ∧ (w.heap.size ≤ s_) ∧ (gb188 ≠ s_) ∧ (s_ ≠ gb188) ∧ (gb194 ≠ s_) ∧ (s_ ≠ gb194) ∧ (IsS26 w w' gb188 l0 t196) ∧ (Below w.heap.size w w')) ?_ ?_
            rotate_left
            · intro hJ3_4_12
              refine join_ (σ := Unit) 8 #[true, true, true, true, true, true, true, false, false, false, false, false, false, false, false] (fun s_ => [(26, .int .i64 t195), (27, .agg #[.int .i64 t197, .int .i64 t198, .int .i64 t199, .bool t200])]) (fun s_ w' => (w'.cell? ⟨gb194, 0, none⟩ = some (.int .i64 t189) ∧ w'.cell? ⟨gb194, 1, none⟩ = some (.int .i64 t190) ∧ w'.cell? ⟨gb194, 2, none⟩ = some (.int .i64 t191) ∧ w'.cell? ⟨gb194, 3, none⟩ = some (.int .i64 t192)) ∧ (w'.heap[gb194]? = some (.cells #[.int .i64 t189, .int .i64 t190, .int .i64 t191, .int .i64 t192] 28 (0, 0))) ∧ (IsS26 w w' gb188 l0 t196) ∧ (Below w.heap.size w w')) ?_ ?_
              rotate_left
              · intro hJ3_4
                refine join_ (σ := Nat) 8 #[true, true, true, true, false, true, true, false, false, false, false, false, true, false, false] (fun s_ => [(26, .int .i64 t195), (7, .pointer (some ⟨s_, 0, none⟩))]) (fun s_ w' => (w'.cell? ⟨gb194, 0, none⟩ = some (.int .i64 t189) ∧ w'.cell? ⟨gb194, 1, none⟩ = some (.int .i64 t190) ∧ w'.cell? ⟨gb194, 2, none⟩ = some (.int .i64 t191) ∧ w'.cell? ⟨gb194, 3, none⟩ = some (.int .i64 t192)) ∧ (w'.heap[gb194]? = some (.cells #[.int .i64 t189, .int .i64 t190, .int .i64 t191, .int .i64 t192] 28 (0, 0))) ∧ (w'.heap[s_]? = some (.cells #[.int .i64 0, .int .i64 0, .int .i64 0, .bool false] 45 (0, 0))) ∧ (w.heap.size ≤ s_) ∧ (w.heap.size ≤ s_) ∧ (gb188 ≠ s_) ∧ (s_ ≠ gb188) ∧ (gb194 ≠ s_) ∧ (s_ ≠ gb194) ∧ (IsS26 w w' gb188 l0 t196) ∧ (Below w.heap.size w w')) ?_ ?_
                rotate_left
                · intro hJ3_12
                  refine join_ (σ := Unit) 9 #[true, true, true, true, false, true, true, false, false, false, false, false, false, false, false] (fun s_ => [(26, .int .i64 t195)]) (fun s_ w' => (w'.cell? ⟨gb194, 0, none⟩ = some (.int .i64 t189) ∧ w'.cell? ⟨gb194, 1, none⟩ = some (.int .i64 t190) ∧ w'.cell? ⟨gb194, 2, none⟩ = some (.int .i64 t191) ∧ w'.cell? ⟨gb194, 3, none⟩ = some (.int .i64 t192)) ∧ (w'.heap[gb194]? = some (.cells #[.int .i64 t189, .int .i64 t190, .int .i64 t191, .int .i64 t192] 28 (0, 0))) ∧ (IsS26 w w' gb188 l0 t196) ∧ (Below w.heap.size w w')) ?_ ?_
                  rotate_left
                  · intro hJ3
                    refine join_ (σ := Nat) 9 #[true, true, true, false, false, true, true, false, false, false, false, false, true, false, false] (fun s_ => [(7, .pointer (some ⟨s_, 0, none⟩))]) (fun s_ w' => (w'.cell? ⟨gb194, 0, none⟩ = some (.int .i64 t189) ∧ w'.cell? ⟨gb194, 1, none⟩ = some (.int .i64 t190) ∧ w'.cell? ⟨gb194, 2, none⟩ = some (.int .i64 t191) ∧ w'.cell? ⟨gb194, 3, none⟩ = some (.int .i64 t192)) ∧ (w'.heap[gb194]? = some (.cells #[.int .i64 t189, .int .i64 t190, .int .i64 t191, .int .i64 t192] 28 (0, 0))) ∧ (w'.heap[s_]? = some (.cells #[.int .i64 0, .int .i64 0, .int .i64 0, .bool false] 45 (0, 0))) ∧ (w.heap.size ≤ s_) ∧ (w.heap.size ≤ s_) ∧ (gb188 ≠ s_) ∧ (s_ ≠ gb188) ∧ (gb194 ≠ s_) ∧ (s_ ≠ gb194) ∧ (IsS26 w w' gb188 l0 t193) ∧ (Below w.heap.size w w')) ?_ ?_
                    rotate_left
                    · intro hJ12
                      refine two_ (i := 3) (j := 12) (Ni := some 26) (Nj := some 7) #[true, true, true, true, false, true, true, false, false, false, false, false, false, false, false] #[true, true, true, false, false, true, true, false, false, false, false, false, true, false, false] rfl rfl rfl rfl (two_of HT_.out (by kernel_rfl)) (by decide) (by decide) (fun K hK => ?_) (fun K hK => ?_)
                      · skip
                        refine goes_ Try.func13 (by kernel_rfl) rfl #[.pointer (some ⟨gb188, 0, none⟩), .agg #[.int .i64 t189, .int .i64 t190, .int .i64 t191, .int .i64 t192]] (by rfl) rfl rfl (by (try simp only [List.map_toArray, List.map_cons, List.map_nil]); first | done | rfl | (simp only [List.length_drop, List.length_take]; rfl)) ?_
                        with_reducible refine (spymake_Stream_Inside.calls gb188 l0 t193 t189 t190 t191 t192 t195 t196 w _ ?side1 ?side2 A6.out).mono ?_
                        (case side1 => repeat (first | (with_reducible first | exact HI188.out | apply IsS26.alloc | apply IsS26.drewN | apply IsS26.drew | apply IsS26.set_1 | refine IsS26.far ?_ NB188_194.out _) | exact HI188.out))
                        (case side2 => repeat (first | (with_reducible first | exact HB.out | apply below_alloc | apply pw_below_drewN | apply below_drew1 | refine below_set ?_ (IsS26.ge HI188.out) | refine below_set ?_ GE194.out) | exact HB.out))
                        rintro e w19 ⟨rfl, hi, hb, hk⟩
                        refine ⟨_, rfl, ?_⟩
                        have n0_ := Aside0.mk (KeepBut.blk hk (g' := gb194) (o := .cells #[.int .i64 t189, .int .i64 t190, .int .i64 t191, .int .i64 t192] 28 (0, 0)) (by (with_reducible repeat (first | refine blk_drewN ?_ _ | refine blk_drew ?_ | refine blk_alloc ?_ _)); exact BK194.out) NB194_188.out (by simp))
                        have n1_ := Aside0.mk (hb)
                        have n2_ := Aside0.mk (hi)
                        clear BK194
                        clear HB
                        clear HI188
                        have BK194 := n0_
                        have HB := n1_
                        have HI188 := n2_
                        clear n0_ n1_ n2_
                        (try clear hb)
                        (try clear hb2)
                        (try clear hk)
                        (try clear hi)
                        refine hK.out _ _ ⟨(blk_cell BK194.out 0).trans rfl, (blk_cell BK194.out 1).trans rfl, (blk_cell BK194.out 2).trans rfl, (blk_cell BK194.out 3).trans rfl⟩ (fun hHeld => ?_)
                        clear hK K
                        refine norm_ (a' := ?_) ?_ ?_
                        rotate_left
                        · show Act.put _ (some 26) _ = _
                          simp only [Act.put, List.setIfInBounds_toArray, List.set_cons_zero, List.set_cons_succ, i64_w, i32_w]
                          rfl
                        exact norm_ (by first | (simp only [putAll, Act.put, List.setIfInBounds_toArray, List.set_cons_zero, List.set_cons_succ]; done) | (simp only [putAll, Act.put, List.setIfInBounds_toArray, List.set_cons_zero, List.set_cons_succ]; rfl)) (hJ3 () _ ⟨hHeld, (by (with_reducible repeat (first | refine blk_drewN ?_ _ | refine blk_drew ?_ | refine blk_alloc ?_ _)); exact BK194.out), (by repeat (first | (with_reducible first | exact HI188.out | apply IsS26.alloc | apply IsS26.drewN | apply IsS26.drew | apply IsS26.set_1 | refine IsS26.far ?_ NB188_194.out _) | exact HI188.out)), (by repeat (first | (with_reducible first | exact HB.out | apply below_alloc | apply pw_below_drewN | apply below_drew1 | refine below_set ?_ (IsS26.ge HI188.out) | refine below_set ?_ GE194.out) | exact HB.out))⟩)
                      · skip
                        refine box_step ?hg (N := 7) ?hd (cs := #[.int .i64 0, .int .i64 0, .int .i64 0, .bool false]) (t := 45) ?hr ?_; (case hd => rfl); (case hg => rfl); (case hr => first | (go_simp; done) | (go_simp; rfl))
                        intro gb208 hg w19 hbox hb
                        have n0_ := Aside0.mk (IsS26.below (by repeat (first | (with_reducible first | exact HI188.out | apply IsS26.alloc | apply IsS26.drewN | apply IsS26.drew | apply IsS26.set_1 | refine IsS26.far ?_ NB188_194.out _) | exact HI188.out)) hb)
                        have n1_ := Aside0.mk (blk_below (g := gb194) (o := .cells #[.int .i64 t189, .int .i64 t190, .int .i64 t191, .int .i64 t192] 28 (0, 0)) (by (with_reducible repeat (first | refine blk_drewN ?_ _ | refine blk_drew ?_ | refine blk_alloc ?_ _)); exact BK194.out) hb)
                        have n2_ := Aside0.mk (below_step (by repeat (first | (with_reducible first | exact HB.out | apply below_alloc | apply pw_below_drewN | apply below_drew1 | refine below_set ?_ (IsS26.ge HI188.out) | refine below_set ?_ GE194.out) | exact HB.out)) hb)
                        have n3_ := Aside0.mk (hbox)
                        have n4_ := Aside0.mk ((by rw [hg]; exact (below_size (by repeat (first | (with_reducible first | exact HB.out | apply below_alloc | apply pw_below_drewN | apply below_drew1 | refine below_set ?_ (IsS26.ge HI188.out) | refine below_set ?_ GE194.out) | exact HB.out))) : w.heap.size ≤ gb208))
                        have n5_ := Aside0.mk ((by rw [hg]; exact (below_size (by repeat (first | (with_reducible first | exact HB.out | apply below_alloc | apply pw_below_drewN | apply below_drew1 | refine below_set ?_ (IsS26.ge HI188.out) | refine below_set ?_ GE194.out) | exact HB.out))) : w.heap.size ≤ gb208))
                        have n6_ := Aside0.mk ((by rw [hg]; exact Nat.ne_of_lt (blk_lt (g := gb194) (o := .cells #[.int .i64 t189, .int .i64 t190, .int .i64 t191, .int .i64 t192] 28 (0, 0)) (by (with_reducible repeat (first | refine blk_drewN ?_ _ | refine blk_drew ?_ | refine blk_alloc ?_ _)); exact BK194.out)) : gb194 ≠ gb208))
                        have n7_ := Aside0.mk ((by rw [hg]; exact Nat.ne_of_gt (blk_lt (g := gb194) (o := .cells #[.int .i64 t189, .int .i64 t190, .int .i64 t191, .int .i64 t192] 28 (0, 0)) (by (with_reducible repeat (first | refine blk_drewN ?_ _ | refine blk_drew ?_ | refine blk_alloc ?_ _)); exact BK194.out)) : gb208 ≠ gb194))
                        have n8_ := Aside0.mk ((by rw [hg]; exact Nat.ne_of_lt (IsS26.lt (show IsS26 w _ gb188 l0 t193 from by repeat (first | (with_reducible first | exact HI188.out | apply IsS26.alloc | apply IsS26.drewN | apply IsS26.drew | apply IsS26.set_1 | refine IsS26.far ?_ NB188_194.out _) | exact HI188.out))) : gb188 ≠ gb208))
                        have n9_ := Aside0.mk ((by rw [hg]; exact Nat.ne_of_gt (IsS26.lt (show IsS26 w _ gb188 l0 t193 from by repeat (first | (with_reducible first | exact HI188.out | apply IsS26.alloc | apply IsS26.drewN | apply IsS26.drew | apply IsS26.set_1 | refine IsS26.far ?_ NB188_194.out _) | exact HI188.out))) : gb208 ≠ gb188))
                        clear HI188
                        clear BK194
                        clear HB
                        have HI188 := n0_
                        have BK194 := n1_
                        have HB := n2_
                        have BK208 := n3_
                        have GW208 := n4_
                        have GE208 := n5_
                        have NB194_208 := n6_
                        have NB208_194 := n7_
                        have NB188_208 := n8_
                        have NB208_188 := n9_
                        clear n0_ n1_ n2_ n3_ n4_ n5_ n6_ n7_ n8_ n9_
                        clear hb hbox hg
                        refine hK.out _ _ ⟨(blk_cell BK194.out 0).trans rfl, (blk_cell BK194.out 1).trans rfl, (blk_cell BK194.out 2).trans rfl, (blk_cell BK194.out 3).trans rfl⟩ (fun hHeld => ?_)
                        clear hK K
                        refine norm_ (a' := ?_) ?_ ?_
                        rotate_left
                        · show Act.put _ (some 7) _ = _
                          simp only [Act.put, List.setIfInBounds_toArray, List.set_cons_zero, List.set_cons_succ, i64_w, i32_w]
                          rfl
                        exact norm_ (by first | (simp only [putAll, Act.put, List.setIfInBounds_toArray, List.set_cons_zero, List.set_cons_succ]; done) | (simp only [putAll, Act.put, List.setIfInBounds_toArray, List.set_cons_zero, List.set_cons_succ]; rfl)) (hJ12 (gb208) _ ⟨hHeld, (by (with_reducible repeat (first | refine blk_drewN ?_ _ | refine blk_drew ?_ | refine blk_alloc ?_ _)); exact BK194.out), (by (with_reducible repeat (first | refine blk_drewN ?_ _ | refine blk_drew ?_ | refine blk_alloc ?_ _)); exact BK208.out), GW208.out, GE208.out, NB188_208.out, NB208_188.out, NB194_208.out, NB208_194.out, (by repeat (first | (with_reducible first | exact HI188.out | apply IsS26.alloc | apply IsS26.drewN | apply IsS26.drew | apply IsS26.set_1 | refine IsS26.far ?_ NB188_194.out _ | refine IsS26.far ?_ NB188_208.out _) | exact HI188.out)), (by repeat (first | (with_reducible first | exact HB.out | apply below_alloc | apply pw_below_drewN | apply below_drew1 | refine below_set ?_ (IsS26.ge HI188.out) | refine below_set ?_ GE194.out | refine below_set ?_ GE208.out) | exact HB.out))⟩)
                    · skip
                      rintro gb208 w20 ⟨hS_, h0_, h1_, h2_, h3_, h4_, h5_, h6_, h7_, h8_, h9_⟩
                      have n0_ : Aside0 (w20.heap[gb194]? = some (.cells #[.int .i64 t189, .int .i64 t190, .int .i64 t191, .int .i64 t192] 28 (0, 0))) := ⟨h0_⟩
                      have n1_ : Aside0 (w20.heap[gb208]? = some (.cells #[.int .i64 0, .int .i64 0, .int .i64 0, .bool false] 45 (0, 0))) := ⟨h1_⟩
                      have n2_ : Aside0 (w.heap.size ≤ gb208) := ⟨h2_⟩
                      have n3_ : Aside0 (w.heap.size ≤ gb208) := ⟨h3_⟩
                      have n4_ : Aside0 (gb188 ≠ gb208) := ⟨h4_⟩
                      have n5_ : Aside0 (gb208 ≠ gb188) := ⟨h5_⟩
                      have n6_ : Aside0 (gb194 ≠ gb208) := ⟨h6_⟩
                      have n7_ : Aside0 (gb208 ≠ gb194) := ⟨h7_⟩
                      have n8_ : Aside0 (IsS26 w w20 gb188 l0 t193) := ⟨h8_⟩
                      have n9_ : Aside0 (Below w.heap.size w w20) := ⟨h9_⟩
                      clear BK194
                      clear HI188
                      clear HB
                      clear h0_ h1_ h2_ h3_ h4_ h5_ h6_ h7_ h8_ h9_
                      have BK194 := n0_
                      have BK208 := n1_
                      have GW208 := n2_
                      have GE208 := n3_
                      have NB188_208 := n4_
                      have NB208_188 := n5_
                      have NB194_208 := n6_
                      have NB208_194 := n7_
                      have HI188 := n8_
                      have HB := n9_
                      clear n0_ n1_ n2_ n3_ n4_ n5_ n6_ n7_ n8_ n9_
                      have hHeld : w20.cell? ⟨gb194, 0, none⟩ = some (.int .i64 t189) ∧ w20.cell? ⟨gb194, 1, none⟩ = some (.int .i64 t190) ∧ w20.cell? ⟨gb194, 2, none⟩ = some (.int .i64 t191) ∧ w20.cell? ⟨gb194, 3, none⟩ = some (.int .i64 t192) := hS_
                      refine norm_ (a' := ?_) ?_ ?_
                      rotate_left
                      · simp only [putAll, Act.put, List.setIfInBounds_toArray, List.set_cons_zero, List.set_cons_succ]
                        rfl
                      refine one_ (i := 3) (N := some 26) #[true, true, true, true, false, true, true, false, false, false, false, false, true, false, false] rfl rfl (one_of HT_.out (by kernel_rfl)) (by decide) (fun K hK => ?_)
                      refine goes_ Try.func13 (by kernel_rfl) rfl #[.pointer (some ⟨gb188, 0, none⟩), .agg #[.int .i64 t189, .int .i64 t190, .int .i64 t191, .int .i64 t192]] (by rfl) rfl rfl (by (try simp only [List.map_toArray, List.map_cons, List.map_nil]); first | done | rfl | (simp only [List.length_drop, List.length_take]; rfl)) ?_
                      with_reducible refine (spymake_Stream_Inside.calls gb188 l0 t193 t189 t190 t191 t192 t195 t196 w _ ?side1 ?side2 A6.out).mono ?_
                      (case side1 => repeat (first | (with_reducible first | exact HI188.out | apply IsS26.alloc | apply IsS26.drewN | apply IsS26.drew | apply IsS26.set_1 | refine IsS26.far ?_ NB188_194.out _ | refine IsS26.far ?_ NB188_208.out _) | exact HI188.out))
                      (case side2 => repeat (first | (with_reducible first | exact HB.out | apply below_alloc | apply pw_below_drewN | apply below_drew1 | refine below_set ?_ (IsS26.ge HI188.out) | refine below_set ?_ GE194.out | refine below_set ?_ GE208.out) | exact HB.out))
                      rintro e w21 ⟨rfl, hi, hb, hk⟩
                      refine ⟨_, rfl, ?_⟩
                      have n0_ := Aside0.mk (KeepBut.blk hk (g' := gb194) (o := .cells #[.int .i64 t189, .int .i64 t190, .int .i64 t191, .int .i64 t192] 28 (0, 0)) (by (with_reducible repeat (first | refine blk_drewN ?_ _ | refine blk_drew ?_ | refine blk_alloc ?_ _)); exact BK194.out) NB194_188.out (by simp))
                      have n1_ := Aside0.mk (KeepBut.blk hk (g' := gb208) (o := .cells #[.int .i64 0, .int .i64 0, .int .i64 0, .bool false] 45 (0, 0)) (by (with_reducible repeat (first | refine blk_drewN ?_ _ | refine blk_drew ?_ | refine blk_alloc ?_ _)); exact BK208.out) NB208_188.out (by simp))
                      have n2_ := Aside0.mk (hb)
                      have n3_ := Aside0.mk (hi)
                      clear BK194
                      clear BK208
                      clear HB
                      clear HI188
                      have BK194 := n0_
                      have BK208 := n1_
                      have HB := n2_
                      have HI188 := n3_
                      clear n0_ n1_ n2_ n3_
                      (try clear hb)
                      (try clear hb2)
                      (try clear hk)
                      (try clear hi)
                      refine hK.out _ _ ⟨(blk_cell BK194.out 0).trans rfl, (blk_cell BK194.out 1).trans rfl, (blk_cell BK194.out 2).trans rfl, (blk_cell BK194.out 3).trans rfl⟩ (fun hHeld => ?_)
                      clear hK K
                      refine norm_ (a' := ?_) ?_ ?_
                      rotate_left
                      · show Act.put _ (some 26) _ = _
                        simp only [Act.put, List.setIfInBounds_toArray, List.set_cons_zero, List.set_cons_succ, i64_w, i32_w]
                        rfl
                      exact norm_ (by first | (simp only [putAll, Act.put, List.setIfInBounds_toArray, List.set_cons_zero, List.set_cons_succ]; done) | (simp only [putAll, Act.put, List.setIfInBounds_toArray, List.set_cons_zero, List.set_cons_succ]; rfl)) (hJ3_12 (gb208) _ ⟨hHeld, (by (with_reducible repeat (first | refine blk_drewN ?_ _ | refine blk_drew ?_ | refine blk_alloc ?_ _)); exact BK194.out), (by (with_reducible repeat (first | refine blk_drewN ?_ _ | refine blk_drew ?_ | refine blk_alloc ?_ _)); exact BK208.out), GW208.out, GE208.out, NB188_208.out, NB208_188.out, NB194_208.out, NB208_194.out, (by repeat (first | (with_reducible first | exact HI188.out | apply IsS26.alloc | apply IsS26.drewN | apply IsS26.drew | apply IsS26.set_1 | refine IsS26.far ?_ NB188_194.out _ | refine IsS26.far ?_ NB188_208.out _) | exact HI188.out)), (by repeat (first | (with_reducible first | exact HB.out | apply below_alloc | apply pw_below_drewN | apply below_drew1 | refine below_set ?_ (IsS26.ge HI188.out) | refine below_set ?_ GE194.out | refine below_set ?_ GE208.out) | exact HB.out))⟩)
                  · skip
                    rintro _ w20 ⟨hS_, h0_, h1_, h2_⟩
                    have n0_ : Aside0 (w20.heap[gb194]? = some (.cells #[.int .i64 t189, .int .i64 t190, .int .i64 t191, .int .i64 t192] 28 (0, 0))) := ⟨h0_⟩
                    have n1_ : Aside0 (IsS26 w w20 gb188 l0 t196) := ⟨h1_⟩
                    have n2_ : Aside0 (Below w.heap.size w w20) := ⟨h2_⟩
                    clear BK194
                    clear HI188
                    clear HB
                    clear h0_ h1_ h2_
                    have BK194 := n0_
                    have HI188 := n1_
                    have HB := n2_
                    clear n0_ n1_ n2_
                    have hHeld : w20.cell? ⟨gb194, 0, none⟩ = some (.int .i64 t189) ∧ w20.cell? ⟨gb194, 1, none⟩ = some (.int .i64 t190) ∧ w20.cell? ⟨gb194, 2, none⟩ = some (.int .i64 t191) ∧ w20.cell? ⟨gb194, 3, none⟩ = some (.int .i64 t192) := hS_
                    refine norm_ (a' := ?_) ?_ ?_
                    rotate_left
                    · simp only [putAll, Act.put, List.setIfInBounds_toArray, List.set_cons_zero, List.set_cons_succ]
                      rfl
                    refine two_ (i := 4) (j := 12) (Ni := some 27) (Nj := some 7) #[true, true, true, true, true, true, true, false, false, false, false, false, false, false, false] #[true, true, true, true, false, true, true, false, false, false, false, false, true, false, false] rfl rfl rfl rfl (two_of HT_.out (by kernel_rfl)) (by decide) (by decide) (fun K hK => ?_) (fun K hK => ?_)
                    · skip
                      refine goes_ Try.func23 (by kernel_rfl) rfl #[.int .i64 t195] (by rfl) rfl rfl (by (try simp only [List.map_toArray, List.map_cons, List.map_nil]); first | done | rfl | (simp only [List.length_drop, List.length_take]; rfl)) ?_
                      with_reducible refine (axis_Rest.calls t195 t197 t198 t199 t200 _ A7.out).mono ?_
                      rintro e w21 ⟨rfl, hb⟩
                      refine ⟨_, rfl, ?_⟩
                      have n0_ := Aside0.mk (IsS26.below (by repeat (first | (with_reducible first | exact HI188.out | apply IsS26.alloc | apply IsS26.drewN | apply IsS26.drew | apply IsS26.set_1 | refine IsS26.far ?_ NB188_194.out _) | exact HI188.out)) hb)
                      have n1_ := Aside0.mk (blk_below (g := gb194) (o := .cells #[.int .i64 t189, .int .i64 t190, .int .i64 t191, .int .i64 t192] 28 (0, 0)) (by (with_reducible repeat (first | refine blk_drewN ?_ _ | refine blk_drew ?_ | refine blk_alloc ?_ _)); exact BK194.out) hb)
                      have n2_ := Aside0.mk (below_step (by repeat (first | (with_reducible first | exact HB.out | apply below_alloc | apply pw_below_drewN | apply below_drew1 | refine below_set ?_ (IsS26.ge HI188.out) | refine below_set ?_ GE194.out) | exact HB.out)) hb)
                      clear HI188
                      clear BK194
                      clear HB
                      have HI188 := n0_
                      have BK194 := n1_
                      have HB := n2_
                      clear n0_ n1_ n2_
                      (try clear hb)
                      (try clear hb2)
                      (try clear hk)
                      (try clear hi)
                      refine hK.out _ _ ⟨(blk_cell BK194.out 0).trans rfl, (blk_cell BK194.out 1).trans rfl, (blk_cell BK194.out 2).trans rfl, (blk_cell BK194.out 3).trans rfl⟩ (fun hHeld => ?_)
                      clear hK K
                      refine norm_ (a' := ?_) ?_ ?_
                      rotate_left
                      · show Act.put _ (some 27) _ = _
                        simp only [Act.put, List.setIfInBounds_toArray, List.set_cons_zero, List.set_cons_succ, i64_w, i32_w]
                        rfl
                      exact norm_ (by first | (simp only [putAll, Act.put, List.setIfInBounds_toArray, List.set_cons_zero, List.set_cons_succ]; done) | (simp only [putAll, Act.put, List.setIfInBounds_toArray, List.set_cons_zero, List.set_cons_succ]; rfl)) (hJ3_4 () _ ⟨hHeld, (by (with_reducible repeat (first | refine blk_drewN ?_ _ | refine blk_drew ?_ | refine blk_alloc ?_ _)); exact BK194.out), (by repeat (first | (with_reducible first | exact HI188.out | apply IsS26.alloc | apply IsS26.drewN | apply IsS26.drew | apply IsS26.set_1 | refine IsS26.far ?_ NB188_194.out _) | exact HI188.out)), (by repeat (first | (with_reducible first | exact HB.out | apply below_alloc | apply pw_below_drewN | apply below_drew1 | refine below_set ?_ (IsS26.ge HI188.out) | refine below_set ?_ GE194.out) | exact HB.out))⟩)
                    · skip
                      refine box_step ?hg (N := 7) ?hd (cs := #[.int .i64 0, .int .i64 0, .int .i64 0, .bool false]) (t := 45) ?hr ?_; (case hd => rfl); (case hg => rfl); (case hr => first | (go_simp; done) | (go_simp; rfl))
                      intro gb208 hg w21 hbox hb
                      have n0_ := Aside0.mk (IsS26.below (by repeat (first | (with_reducible first | exact HI188.out | apply IsS26.alloc | apply IsS26.drewN | apply IsS26.drew | apply IsS26.set_1 | refine IsS26.far ?_ NB188_194.out _) | exact HI188.out)) hb)
                      have n1_ := Aside0.mk (blk_below (g := gb194) (o := .cells #[.int .i64 t189, .int .i64 t190, .int .i64 t191, .int .i64 t192] 28 (0, 0)) (by (with_reducible repeat (first | refine blk_drewN ?_ _ | refine blk_drew ?_ | refine blk_alloc ?_ _)); exact BK194.out) hb)
                      have n2_ := Aside0.mk (below_step (by repeat (first | (with_reducible first | exact HB.out | apply below_alloc | apply pw_below_drewN | apply below_drew1 | refine below_set ?_ (IsS26.ge HI188.out) | refine below_set ?_ GE194.out) | exact HB.out)) hb)
                      have n3_ := Aside0.mk (hbox)
                      have n4_ := Aside0.mk ((by rw [hg]; exact (below_size (by repeat (first | (with_reducible first | exact HB.out | apply below_alloc | apply pw_below_drewN | apply below_drew1 | refine below_set ?_ (IsS26.ge HI188.out) | refine below_set ?_ GE194.out) | exact HB.out))) : w.heap.size ≤ gb208))
                      have n5_ := Aside0.mk ((by rw [hg]; exact (below_size (by repeat (first | (with_reducible first | exact HB.out | apply below_alloc | apply pw_below_drewN | apply below_drew1 | refine below_set ?_ (IsS26.ge HI188.out) | refine below_set ?_ GE194.out) | exact HB.out))) : w.heap.size ≤ gb208))
                      have n6_ := Aside0.mk ((by rw [hg]; exact Nat.ne_of_lt (blk_lt (g := gb194) (o := .cells #[.int .i64 t189, .int .i64 t190, .int .i64 t191, .int .i64 t192] 28 (0, 0)) (by (with_reducible repeat (first | refine blk_drewN ?_ _ | refine blk_drew ?_ | refine blk_alloc ?_ _)); exact BK194.out)) : gb194 ≠ gb208))
                      have n7_ := Aside0.mk ((by rw [hg]; exact Nat.ne_of_gt (blk_lt (g := gb194) (o := .cells #[.int .i64 t189, .int .i64 t190, .int .i64 t191, .int .i64 t192] 28 (0, 0)) (by (with_reducible repeat (first | refine blk_drewN ?_ _ | refine blk_drew ?_ | refine blk_alloc ?_ _)); exact BK194.out)) : gb208 ≠ gb194))
                      have n8_ := Aside0.mk ((by rw [hg]; exact Nat.ne_of_lt (IsS26.lt (show IsS26 w _ gb188 l0 t196 from by repeat (first | (with_reducible first | exact HI188.out | apply IsS26.alloc | apply IsS26.drewN | apply IsS26.drew | apply IsS26.set_1 | refine IsS26.far ?_ NB188_194.out _) | exact HI188.out))) : gb188 ≠ gb208))
                      have n9_ := Aside0.mk ((by rw [hg]; exact Nat.ne_of_gt (IsS26.lt (show IsS26 w _ gb188 l0 t196 from by repeat (first | (with_reducible first | exact HI188.out | apply IsS26.alloc | apply IsS26.drewN | apply IsS26.drew | apply IsS26.set_1 | refine IsS26.far ?_ NB188_194.out _) | exact HI188.out))) : gb208 ≠ gb188))
                      clear HI188
                      clear BK194
                      clear HB
                      have HI188 := n0_
                      have BK194 := n1_
                      have HB := n2_
                      have BK208 := n3_
                      have GW208 := n4_
                      have GE208 := n5_
                      have NB194_208 := n6_
                      have NB208_194 := n7_
                      have NB188_208 := n8_
                      have NB208_188 := n9_
                      clear n0_ n1_ n2_ n3_ n4_ n5_ n6_ n7_ n8_ n9_
                      clear hb hbox hg
                      refine hK.out _ _ ⟨(blk_cell BK194.out 0).trans rfl, (blk_cell BK194.out 1).trans rfl, (blk_cell BK194.out 2).trans rfl, (blk_cell BK194.out 3).trans rfl⟩ (fun hHeld => ?_)
                      clear hK K
                      refine norm_ (a' := ?_) ?_ ?_
                      rotate_left
                      · show Act.put _ (some 7) _ = _
                        simp only [Act.put, List.setIfInBounds_toArray, List.set_cons_zero, List.set_cons_succ, i64_w, i32_w]
                        rfl
                      exact norm_ (by first | (simp only [putAll, Act.put, List.setIfInBounds_toArray, List.set_cons_zero, List.set_cons_succ]; done) | (simp only [putAll, Act.put, List.setIfInBounds_toArray, List.set_cons_zero, List.set_cons_succ]; rfl)) (hJ3_12 (gb208) _ ⟨hHeld, (by (with_reducible repeat (first | refine blk_drewN ?_ _ | refine blk_drew ?_ | refine blk_alloc ?_ _)); exact BK194.out), (by (with_reducible repeat (first | refine blk_drewN ?_ _ | refine blk_drew ?_ | refine blk_alloc ?_ _)); exact BK208.out), GW208.out, GE208.out, NB188_208.out, NB208_188.out, NB194_208.out, NB208_194.out, (by repeat (first | (with_reducible first | exact HI188.out | apply IsS26.alloc | apply IsS26.drewN | apply IsS26.drew | apply IsS26.set_1 | refine IsS26.far ?_ NB188_194.out _ | refine IsS26.far ?_ NB188_208.out _) | exact HI188.out)), (by repeat (first | (with_reducible first | exact HB.out | apply below_alloc | apply pw_below_drewN | apply below_drew1 | refine below_set ?_ (IsS26.ge HI188.out) | refine below_set ?_ GE194.out | refine below_set ?_ GE208.out) | exact HB.out))⟩)
                · skip
                  rintro gb208 w21 ⟨hS_, h0_, h1_, h2_, h3_, h4_, h5_, h6_, h7_, h8_, h9_⟩
                  have n0_ : Aside0 (w21.heap[gb194]? = some (.cells #[.int .i64 t189, .int .i64 t190, .int .i64 t191, .int .i64 t192] 28 (0, 0))) := ⟨h0_⟩
                  have n1_ : Aside0 (w21.heap[gb208]? = some (.cells #[.int .i64 0, .int .i64 0, .int .i64 0, .bool false] 45 (0, 0))) := ⟨h1_⟩
                  have n2_ : Aside0 (w.heap.size ≤ gb208) := ⟨h2_⟩
                  have n3_ : Aside0 (w.heap.size ≤ gb208) := ⟨h3_⟩
                  have n4_ : Aside0 (gb188 ≠ gb208) := ⟨h4_⟩
                  have n5_ : Aside0 (gb208 ≠ gb188) := ⟨h5_⟩
                  have n6_ : Aside0 (gb194 ≠ gb208) := ⟨h6_⟩
                  have n7_ : Aside0 (gb208 ≠ gb194) := ⟨h7_⟩
                  have n8_ : Aside0 (IsS26 w w21 gb188 l0 t196) := ⟨h8_⟩
                  have n9_ : Aside0 (Below w.heap.size w w21) := ⟨h9_⟩
                  clear BK194
                  clear HI188
                  clear HB
                  clear h0_ h1_ h2_ h3_ h4_ h5_ h6_ h7_ h8_ h9_
                  have BK194 := n0_
                  have BK208 := n1_
                  have GW208 := n2_
                  have GE208 := n3_
                  have NB188_208 := n4_
                  have NB208_188 := n5_
                  have NB194_208 := n6_
                  have NB208_194 := n7_
                  have HI188 := n8_
                  have HB := n9_
                  clear n0_ n1_ n2_ n3_ n4_ n5_ n6_ n7_ n8_ n9_
                  have hHeld : w21.cell? ⟨gb194, 0, none⟩ = some (.int .i64 t189) ∧ w21.cell? ⟨gb194, 1, none⟩ = some (.int .i64 t190) ∧ w21.cell? ⟨gb194, 2, none⟩ = some (.int .i64 t191) ∧ w21.cell? ⟨gb194, 3, none⟩ = some (.int .i64 t192) := hS_
                  refine norm_ (a' := ?_) ?_ ?_
                  rotate_left
                  · simp only [putAll, Act.put, List.setIfInBounds_toArray, List.set_cons_zero, List.set_cons_succ]
                    rfl
                  refine one_ (i := 4) (N := some 27) #[true, true, true, true, true, true, true, false, false, false, false, false, true, false, false] rfl rfl (one_of HT_.out (by kernel_rfl)) (by decide) (fun K hK => ?_)
                  refine goes_ Try.func23 (by kernel_rfl) rfl #[.int .i64 t195] (by rfl) rfl rfl (by (try simp only [List.map_toArray, List.map_cons, List.map_nil]); first | done | rfl | (simp only [List.length_drop, List.length_take]; rfl)) ?_
                  with_reducible refine (axis_Rest.calls t195 t197 t198 t199 t200 _ A7.out).mono ?_
                  rintro e w22 ⟨rfl, hb⟩
                  refine ⟨_, rfl, ?_⟩
                  have n0_ := Aside0.mk (IsS26.below (by repeat (first | (with_reducible first | exact HI188.out | apply IsS26.alloc | apply IsS26.drewN | apply IsS26.drew | apply IsS26.set_1 | refine IsS26.far ?_ NB188_194.out _ | refine IsS26.far ?_ NB188_208.out _) | exact HI188.out)) hb)
                  have n1_ := Aside0.mk (blk_below (g := gb194) (o := .cells #[.int .i64 t189, .int .i64 t190, .int .i64 t191, .int .i64 t192] 28 (0, 0)) (by (with_reducible repeat (first | refine blk_drewN ?_ _ | refine blk_drew ?_ | refine blk_alloc ?_ _)); exact BK194.out) hb)
                  have n2_ := Aside0.mk (blk_below (g := gb208) (o := .cells #[.int .i64 0, .int .i64 0, .int .i64 0, .bool false] 45 (0, 0)) (by (with_reducible repeat (first | refine blk_drewN ?_ _ | refine blk_drew ?_ | refine blk_alloc ?_ _)); exact BK208.out) hb)
                  have n3_ := Aside0.mk (below_step (by repeat (first | (with_reducible first | exact HB.out | apply below_alloc | apply pw_below_drewN | apply below_drew1 | refine below_set ?_ (IsS26.ge HI188.out) | refine below_set ?_ GE194.out | refine below_set ?_ GE208.out) | exact HB.out)) hb)
                  clear HI188
                  clear BK194
                  clear BK208
                  clear HB
                  have HI188 := n0_
                  have BK194 := n1_
                  have BK208 := n2_
                  have HB := n3_
                  clear n0_ n1_ n2_ n3_
                  (try clear hb)
                  (try clear hb2)
                  (try clear hk)
                  (try clear hi)
                  refine hK.out _ _ ⟨(blk_cell BK194.out 0).trans rfl, (blk_cell BK194.out 1).trans rfl, (blk_cell BK194.out 2).trans rfl, (blk_cell BK194.out 3).trans rfl⟩ (fun hHeld => ?_)
                  clear hK K
                  refine norm_ (a' := ?_) ?_ ?_
                  rotate_left
                  · show Act.put _ (some 27) _ = _
                    simp only [Act.put, List.setIfInBounds_toArray, List.set_cons_zero, List.set_cons_succ, i64_w, i32_w]
                    rfl
                  exact norm_ (by first | (simp only [putAll, Act.put, List.setIfInBounds_toArray, List.set_cons_zero, List.set_cons_succ]; done) | (simp only [putAll, Act.put, List.setIfInBounds_toArray, List.set_cons_zero, List.set_cons_succ]; rfl)) (hJ3_4_12 (gb208) _ ⟨hHeld, (by (with_reducible repeat (first | refine blk_drewN ?_ _ | refine blk_drew ?_ | refine blk_alloc ?_ _)); exact BK194.out), (by (with_reducible repeat (first | refine blk_drewN ?_ _ | refine blk_drew ?_ | refine blk_alloc ?_ _)); exact BK208.out), GW208.out, GE208.out, NB188_208.out, NB208_188.out, NB194_208.out, NB208_194.out, (by repeat (first | (with_reducible first | exact HI188.out | apply IsS26.alloc | apply IsS26.drewN | apply IsS26.drew | apply IsS26.set_1 | refine IsS26.far ?_ NB188_194.out _ | refine IsS26.far ?_ NB188_208.out _) | exact HI188.out)), (by repeat (first | (with_reducible first | exact HB.out | apply below_alloc | apply pw_below_drewN | apply below_drew1 | refine below_set ?_ (IsS26.ge HI188.out) | refine below_set ?_ GE194.out | refine below_set ?_ GE208.out) | exact HB.out))⟩)
              · skip
                rintro _ w21 ⟨hS_, h0_, h1_, h2_⟩
                have n0_ : Aside0 (w21.heap[gb194]? = some (.cells #[.int .i64 t189, .int .i64 t190, .int .i64 t191, .int .i64 t192] 28 (0, 0))) := ⟨h0_⟩
                have n1_ : Aside0 (IsS26 w w21 gb188 l0 t196) := ⟨h1_⟩
                have n2_ : Aside0 (Below w.heap.size w w21) := ⟨h2_⟩
                clear BK194
                clear HI188
                clear HB
                clear h0_ h1_ h2_
                have BK194 := n0_
                have HI188 := n1_
                have HB := n2_
                clear n0_ n1_ n2_
                have hHeld : w21.cell? ⟨gb194, 0, none⟩ = some (.int .i64 t189) ∧ w21.cell? ⟨gb194, 1, none⟩ = some (.int .i64 t190) ∧ w21.cell? ⟨gb194, 2, none⟩ = some (.int .i64 t191) ∧ w21.cell? ⟨gb194, 3, none⟩ = some (.int .i64 t192) := hS_
                refine norm_ (a' := ?_) ?_ ?_
                rotate_left
                · simp only [putAll, Act.put, List.setIfInBounds_toArray, List.set_cons_zero, List.set_cons_succ]
                  rfl
                refine two_ (i := 7) (j := 12) (Ni := some 30) (Nj := some 7) #[true, true, true, true, true, true, true, true, false, false, false, false, false, false, false] #[true, true, true, true, true, true, true, false, false, false, false, false, true, false, false] rfl rfl rfl rfl (two_of HT_.out (by kernel_rfl)) (by decide) (by decide) (fun K hK => ?_) (fun K hK => ?_)
                · skip
                  refine goes_ Try.func13 (by kernel_rfl) rfl #[.pointer (some ⟨gb188, 0, none⟩), .agg #[.int .i64 t189, .int .i64 t190, .int .i64 t191, .int .i64 t192]] (by rfl) rfl rfl (by (try simp only [List.map_toArray, List.map_cons, List.map_nil]); first | done | rfl | (simp only [List.length_drop, List.length_take]; rfl)) ?_
                  with_reducible refine (spymake_Stream_Inside.calls gb188 l0 t196 t189 t190 t191 t192 t201 t202 w _ ?side1 ?side2 A8.out).mono ?_
                  (case side1 => repeat (first | (with_reducible first | exact HI188.out | apply IsS26.alloc | apply IsS26.drewN | apply IsS26.drew | apply IsS26.set_1 | refine IsS26.far ?_ NB188_194.out _) | exact HI188.out))
                  (case side2 => repeat (first | (with_reducible first | exact HB.out | apply below_alloc | apply pw_below_drewN | apply below_drew1 | refine below_set ?_ (IsS26.ge HI188.out) | refine below_set ?_ GE194.out) | exact HB.out))
                  rintro e w22 ⟨rfl, hi, hb, hk⟩
                  refine ⟨_, rfl, ?_⟩
                  have n0_ := Aside0.mk (KeepBut.blk hk (g' := gb194) (o := .cells #[.int .i64 t189, .int .i64 t190, .int .i64 t191, .int .i64 t192] 28 (0, 0)) (by (with_reducible repeat (first | refine blk_drewN ?_ _ | refine blk_drew ?_ | refine blk_alloc ?_ _)); exact BK194.out) NB194_188.out (by simp))
                  have n1_ := Aside0.mk (hb)
                  have n2_ := Aside0.mk (hi)
                  clear BK194
                  clear HB
                  clear HI188
                  have BK194 := n0_
                  have HB := n1_
                  have HI188 := n2_
                  clear n0_ n1_ n2_
                  (try clear hb)
                  (try clear hb2)
                  (try clear hk)
                  (try clear hi)
                  refine hK.out _ _ ⟨(blk_cell BK194.out 0).trans rfl, (blk_cell BK194.out 1).trans rfl, (blk_cell BK194.out 2).trans rfl, (blk_cell BK194.out 3).trans rfl⟩ (fun hHeld => ?_)
                  clear hK K
                  refine norm_ (a' := ?_) ?_ ?_
                  rotate_left
                  · show Act.put _ (some 30) _ = _
                    simp only [Act.put, List.setIfInBounds_toArray, List.set_cons_zero, List.set_cons_succ, i64_w, i32_w]
                    rfl
                  exact norm_ (by first | (simp only [putAll, Act.put, List.setIfInBounds_toArray, List.set_cons_zero, List.set_cons_succ]; done) | (simp only [putAll, Act.put, List.setIfInBounds_toArray, List.set_cons_zero, List.set_cons_succ]; rfl)) (hJ3_4_7 () _ ⟨hHeld, (by (with_reducible repeat (first | refine blk_drewN ?_ _ | refine blk_drew ?_ | refine blk_alloc ?_ _)); exact BK194.out), (by repeat (first | (with_reducible first | exact HI188.out | apply IsS26.alloc | apply IsS26.drewN | apply IsS26.drew | apply IsS26.set_1 | refine IsS26.far ?_ NB188_194.out _) | exact HI188.out)), (by repeat (first | (with_reducible first | exact HB.out | apply below_alloc | apply pw_below_drewN | apply below_drew1 | refine below_set ?_ (IsS26.ge HI188.out) | refine below_set ?_ GE194.out) | exact HB.out))⟩)
                · skip
                  refine box_step ?hg (N := 7) ?hd (cs := #[.int .i64 0, .int .i64 0, .int .i64 0, .bool false]) (t := 45) ?hr ?_; (case hd => rfl); (case hg => rfl); (case hr => first | (go_simp; done) | (go_simp; rfl))
                  intro gb208 hg w22 hbox hb
                  have n0_ := Aside0.mk (IsS26.below (by repeat (first | (with_reducible first | exact HI188.out | apply IsS26.alloc | apply IsS26.drewN | apply IsS26.drew | apply IsS26.set_1 | refine IsS26.far ?_ NB188_194.out _) | exact HI188.out)) hb)
                  have n1_ := Aside0.mk (blk_below (g := gb194) (o := .cells #[.int .i64 t189, .int .i64 t190, .int .i64 t191, .int .i64 t192] 28 (0, 0)) (by (with_reducible repeat (first | refine blk_drewN ?_ _ | refine blk_drew ?_ | refine blk_alloc ?_ _)); exact BK194.out) hb)
                  have n2_ := Aside0.mk (below_step (by repeat (first | (with_reducible first | exact HB.out | apply below_alloc | apply pw_below_drewN | apply below_drew1 | refine below_set ?_ (IsS26.ge HI188.out) | refine below_set ?_ GE194.out) | exact HB.out)) hb)
                  have n3_ := Aside0.mk (hbox)
                  have n4_ := Aside0.mk ((by rw [hg]; exact (below_size (by repeat (first | (with_reducible first | exact HB.out | apply below_alloc | apply pw_below_drewN | apply below_drew1 | refine below_set ?_ (IsS26.ge HI188.out) | refine below_set ?_ GE194.out) | exact HB.out))) : w.heap.size ≤ gb208))
                  have n5_ := Aside0.mk ((by rw [hg]; exact (below_size (by repeat (first | (with_reducible first | exact HB.out | apply below_alloc | apply pw_below_drewN | apply below_drew1 | refine below_set ?_ (IsS26.ge HI188.out) | refine below_set ?_ GE194.out) | exact HB.out))) : w.heap.size ≤ gb208))
                  have n6_ := Aside0.mk ((by rw [hg]; exact Nat.ne_of_lt (blk_lt (g := gb194) (o := .cells #[.int .i64 t189, .int .i64 t190, .int .i64 t191, .int .i64 t192] 28 (0, 0)) (by (with_reducible repeat (first | refine blk_drewN ?_ _ | refine blk_drew ?_ | refine blk_alloc ?_ _)); exact BK194.out)) : gb194 ≠ gb208))
                  have n7_ := Aside0.mk ((by rw [hg]; exact Nat.ne_of_gt (blk_lt (g := gb194) (o := .cells #[.int .i64 t189, .int .i64 t190, .int .i64 t191, .int .i64 t192] 28 (0, 0)) (by (with_reducible repeat (first | refine blk_drewN ?_ _ | refine blk_drew ?_ | refine blk_alloc ?_ _)); exact BK194.out)) : gb208 ≠ gb194))
                  have n8_ := Aside0.mk ((by rw [hg]; exact Nat.ne_of_lt (IsS26.lt (show IsS26 w _ gb188 l0 t196 from by repeat (first | (with_reducible first | exact HI188.out | apply IsS26.alloc | apply IsS26.drewN | apply IsS26.drew | apply IsS26.set_1 | refine IsS26.far ?_ NB188_194.out _) | exact HI188.out))) : gb188 ≠ gb208))
                  have n9_ := Aside0.mk ((by rw [hg]; exact Nat.ne_of_gt (IsS26.lt (show IsS26 w _ gb188 l0 t196 from by repeat (first | (with_reducible first | exact HI188.out | apply IsS26.alloc | apply IsS26.drewN | apply IsS26.drew | apply IsS26.set_1 | refine IsS26.far ?_ NB188_194.out _) | exact HI188.out))) : gb208 ≠ gb188))
                  clear HI188
                  clear BK194
                  clear HB
                  have HI188 := n0_
                  have BK194 := n1_
                  have HB := n2_
                  have BK208 := n3_
                  have GW208 := n4_
                  have GE208 := n5_
                  have NB194_208 := n6_
                  have NB208_194 := n7_
                  have NB188_208 := n8_
                  have NB208_188 := n9_
                  clear n0_ n1_ n2_ n3_ n4_ n5_ n6_ n7_ n8_ n9_
                  clear hb hbox hg
                  refine hK.out _ _ ⟨(blk_cell BK194.out 0).trans rfl, (blk_cell BK194.out 1).trans rfl, (blk_cell BK194.out 2).trans rfl, (blk_cell BK194.out 3).trans rfl⟩ (fun hHeld => ?_)
                  clear hK K
                  refine norm_ (a' := ?_) ?_ ?_
                  rotate_left
                  · show Act.put _ (some 7) _ = _
                    simp only [Act.put, List.setIfInBounds_toArray, List.set_cons_zero, List.set_cons_succ, i64_w, i32_w]
                    rfl
                  exact norm_ (by first | (simp only [putAll, Act.put, List.setIfInBounds_toArray, List.set_cons_zero, List.set_cons_succ]; done) | (simp only [putAll, Act.put, List.setIfInBounds_toArray, List.set_cons_zero, List.set_cons_succ]; rfl)) (hJ3_4_12 (gb208) _ ⟨hHeld, (by (with_reducible repeat (first | refine blk_drewN ?_ _ | refine blk_drew ?_ | refine blk_alloc ?_ _)); exact BK194.out), (by (with_reducible repeat (first | refine blk_drewN ?_ _ | refine blk_drew ?_ | refine blk_alloc ?_ _)); exact BK208.out), GW208.out, GE208.out, NB188_208.out, NB208_188.out, NB194_208.out, NB208_194.out, (by repeat (first | (with_reducible first | exact HI188.out | apply IsS26.alloc | apply IsS26.drewN | apply IsS26.drew | apply IsS26.set_1 | refine IsS26.far ?_ NB188_194.out _ | refine IsS26.far ?_ NB188_208.out _) | exact HI188.out)), (by repeat (first | (with_reducible first | exact HB.out | apply below_alloc | apply pw_below_drewN | apply below_drew1 | refine below_set ?_ (IsS26.ge HI188.out) | refine below_set ?_ GE194.out | refine below_set ?_ GE208.out) | exact HB.out))⟩)
            · skip
              rintro gb208 w22 ⟨hS_, h0_, h1_, h2_, h3_, h4_, h5_, h6_, h7_, h8_, h9_⟩
              have n0_ : Aside0 (w22.heap[gb194]? = some (.cells #[.int .i64 t189, .int .i64 t190, .int .i64 t191, .int .i64 t192] 28 (0, 0))) := ⟨h0_⟩
              have n1_ : Aside0 (w22.heap[gb208]? = some (.cells #[.int .i64 0, .int .i64 0, .int .i64 0, .bool false] 45 (0, 0))) := ⟨h1_⟩
              have n2_ : Aside0 (w.heap.size ≤ gb208) := ⟨h2_⟩
              have n3_ : Aside0 (w.heap.size ≤ gb208) := ⟨h3_⟩
              have n4_ : Aside0 (gb188 ≠ gb208) := ⟨h4_⟩
              have n5_ : Aside0 (gb208 ≠ gb188) := ⟨h5_⟩
              have n6_ : Aside0 (gb194 ≠ gb208) := ⟨h6_⟩
              have n7_ : Aside0 (gb208 ≠ gb194) := ⟨h7_⟩
              have n8_ : Aside0 (IsS26 w w22 gb188 l0 t196) := ⟨h8_⟩
              have n9_ : Aside0 (Below w.heap.size w w22) := ⟨h9_⟩
              clear BK194
              clear HI188
              clear HB
              clear h0_ h1_ h2_ h3_ h4_ h5_ h6_ h7_ h8_ h9_
              have BK194 := n0_
              have BK208 := n1_
              have GW208 := n2_
              have GE208 := n3_
              have NB188_208 := n4_
              have NB208_188 := n5_
              have NB194_208 := n6_
              have NB208_194 := n7_
              have HI188 := n8_
              have HB := n9_
              clear n0_ n1_ n2_ n3_ n4_ n5_ n6_ n7_ n8_ n9_
              have hHeld : w22.cell? ⟨gb194, 0, none⟩ = some (.int .i64 t189) ∧ w22.cell? ⟨gb194, 1, none⟩ = some (.int .i64 t190) ∧ w22.cell? ⟨gb194, 2, none⟩ = some (.int .i64 t191) ∧ w22.cell? ⟨gb194, 3, none⟩ = some (.int .i64 t192) := hS_
              refine norm_ (a' := ?_) ?_ ?_
              rotate_left
              · simp only [putAll, Act.put, List.setIfInBounds_toArray, List.set_cons_zero, List.set_cons_succ]
                rfl
              refine one_ (i := 7) (N := some 30) #[true, true, true, true, true, true, true, true, false, false, false, false, true, false, false] rfl rfl (one_of HT_.out (by kernel_rfl)) (by decide) (fun K hK => ?_)
              refine goes_ Try.func13 (by kernel_rfl) rfl #[.pointer (some ⟨gb188, 0, none⟩), .agg #[.int .i64 t189, .int .i64 t190, .int .i64 t191, .int .i64 t192]] (by rfl) rfl rfl (by (try simp only [List.map_toArray, List.map_cons, List.map_nil]); first | done | rfl | (simp only [List.length_drop, List.length_take]; rfl)) ?_
              with_reducible refine (spymake_Stream_Inside.calls gb188 l0 t196 t189 t190 t191 t192 t201 t202 w _ ?side1 ?side2 A8.out).mono ?_
              (case side1 => repeat (first | (with_reducible first | exact HI188.out | apply IsS26.alloc | apply IsS26.drewN | apply IsS26.drew | apply IsS26.set_1 | refine IsS26.far ?_ NB188_194.out _ | refine IsS26.far ?_ NB188_208.out _) | exact HI188.out))
              (case side2 => repeat (first | (with_reducible first | exact HB.out | apply below_alloc | apply pw_below_drewN | apply below_drew1 | refine below_set ?_ (IsS26.ge HI188.out) | refine below_set ?_ GE194.out | refine below_set ?_ GE208.out) | exact HB.out))
              rintro e w23 ⟨rfl, hi, hb, hk⟩
              refine ⟨_, rfl, ?_⟩
              have n0_ := Aside0.mk (KeepBut.blk hk (g' := gb194) (o := .cells #[.int .i64 t189, .int .i64 t190, .int .i64 t191, .int .i64 t192] 28 (0, 0)) (by (with_reducible repeat (first | refine blk_drewN ?_ _ | refine blk_drew ?_ | refine blk_alloc ?_ _)); exact BK194.out) NB194_188.out (by simp))
              have n1_ := Aside0.mk (KeepBut.blk hk (g' := gb208) (o := .cells #[.int .i64 0, .int .i64 0, .int .i64 0, .bool false] 45 (0, 0)) (by (with_reducible repeat (first | refine blk_drewN ?_ _ | refine blk_drew ?_ | refine blk_alloc ?_ _)); exact BK208.out) NB208_188.out (by simp))
              have n2_ := Aside0.mk (hb)
              have n3_ := Aside0.mk (hi)
              clear BK194
              clear BK208
              clear HB
              clear HI188
              have BK194 := n0_
              have BK208 := n1_
              have HB := n2_
              have HI188 := n3_
              clear n0_ n1_ n2_ n3_
              (try clear hb)
              (try clear hb2)
              (try clear hk)
              (try clear hi)
              refine hK.out _ _ ⟨(blk_cell BK194.out 0).trans rfl, (blk_cell BK194.out 1).trans rfl, (blk_cell BK194.out 2).trans rfl, (blk_cell BK194.out 3).trans rfl⟩ (fun hHeld => ?_)
              clear hK K
              refine norm_ (a' := ?_) ?_ ?_
              rotate_left
              · show Act.put _ (some 30) _ = _
                simp only [Act.put, List.setIfInBounds_toArray, List.set_cons_zero, List.set_cons_succ, i64_w, i32_w]
                rfl
              exact norm_ (by first | (simp only [putAll, Act.put, List.setIfInBounds_toArray, List.set_cons_zero, List.set_cons_succ]; done) | (simp only [putAll, Act.put, List.setIfInBounds_toArray, List.set_cons_zero, List.set_cons_succ]; rfl)) (hJ3_4_7_12 (gb208) _ ⟨hHeld, (by (with_reducible repeat (first | refine blk_drewN ?_ _ | refine blk_drew ?_ | refine blk_alloc ?_ _)); exact BK194.out), (by (with_reducible repeat (first | refine blk_drewN ?_ _ | refine blk_drew ?_ | refine blk_alloc ?_ _)); exact BK208.out), GW208.out, GE208.out, NB188_208.out, NB208_188.out, NB194_208.out, NB208_194.out, (by repeat (first | (with_reducible first | exact HI188.out | apply IsS26.alloc | apply IsS26.drewN | apply IsS26.drew | apply IsS26.set_1 | refine IsS26.far ?_ NB188_194.out _ | refine IsS26.far ?_ NB188_208.out _) | exact HI188.out)), (by repeat (first | (with_reducible first | exact HB.out | apply below_alloc | apply pw_below_drewN | apply below_drew1 | refine below_set ?_ (IsS26.ge HI188.out) | refine below_set ?_ GE194.out | refine below_set ?_ GE208.out) | exact HB.out))⟩)
          · skip
            rintro _ w22 ⟨hS_, h0_, h1_, h2_⟩
            have n0_ : Aside0 (w22.heap[gb194]? = some (.cells #[.int .i64 t189, .int .i64 t190, .int .i64 t191, .int .i64 t192] 28 (0, 0))) := ⟨h0_⟩
            have n1_ : Aside0 (IsS26 w w22 gb188 l0 t202) := ⟨h1_⟩
            have n2_ : Aside0 (Below w.heap.size w w22) := ⟨h2_⟩
            clear BK194
            clear HI188
            clear HB
            clear h0_ h1_ h2_
            have BK194 := n0_
            have HI188 := n1_
            have HB := n2_
            clear n0_ n1_ n2_
            have hHeld : w22.cell? ⟨gb194, 0, none⟩ = some (.int .i64 t189) ∧ w22.cell? ⟨gb194, 1, none⟩ = some (.int .i64 t190) ∧ w22.cell? ⟨gb194, 2, none⟩ = some (.int .i64 t191) ∧ w22.cell? ⟨gb194, 3, none⟩ = some (.int .i64 t192) := hS_
            refine norm_ (a' := ?_) ?_ ?_
            rotate_left
            · simp only [putAll, Act.put, List.setIfInBounds_toArray, List.set_cons_zero, List.set_cons_succ]
              rfl
            refine two_ (i := 8) (j := 12) (Ni := some 31) (Nj := some 7) #[true, true, true, true, true, true, true, true, true, false, false, false, false, false, false] #[true, true, true, true, true, true, true, true, false, false, false, false, true, false, false] rfl rfl rfl rfl (two_of HT_.out (by kernel_rfl)) (by decide) (by decide) (fun K hK => ?_) (fun K hK => ?_)
            · skip
              refine goes_ Try.func24 (by kernel_rfl) rfl #[.agg #[.int .i64 t189, .int .i64 t190, .int .i64 t191, .int .i64 t192], .agg #[.int .i64 t197, .int .i64 t198, .int .i64 t199, .bool t200], .int .i64 t201] (by rfl) rfl rfl (by (try simp only [List.map_toArray, List.map_cons, List.map_nil]); first | done | rfl | (simp only [List.length_drop, List.length_take]; rfl)) ?_
              with_reducible refine (axis_Send.calls k t189 t190 t191 t192 t197 t198 t199 t200 t201 t203 t204 t205 t206 t207 _ A9.out).mono ?_
              rintro e w23 ⟨rfl, hb⟩
              refine ⟨_, rfl, ?_⟩
              have n0_ := Aside0.mk (IsS26.below (by repeat (first | (with_reducible first | exact HI188.out | apply IsS26.alloc | apply IsS26.drewN | apply IsS26.drew | apply IsS26.set_1 | refine IsS26.far ?_ NB188_194.out _) | exact HI188.out)) hb)
              have n1_ := Aside0.mk (blk_below (g := gb194) (o := .cells #[.int .i64 t189, .int .i64 t190, .int .i64 t191, .int .i64 t192] 28 (0, 0)) (by (with_reducible repeat (first | refine blk_drewN ?_ _ | refine blk_drew ?_ | refine blk_alloc ?_ _)); exact BK194.out) hb)
              have n2_ := Aside0.mk (below_step (by repeat (first | (with_reducible first | exact HB.out | apply below_alloc | apply pw_below_drewN | apply below_drew1 | refine below_set ?_ (IsS26.ge HI188.out) | refine below_set ?_ GE194.out) | exact HB.out)) hb)
              clear HI188
              clear BK194
              clear HB
              have HI188 := n0_
              have BK194 := n1_
              have HB := n2_
              clear n0_ n1_ n2_
              (try clear hb)
              (try clear hb2)
              (try clear hk)
              (try clear hi)
              refine hK.out _ _ ⟨(blk_cell BK194.out 0).trans rfl, (blk_cell BK194.out 1).trans rfl, (blk_cell BK194.out 2).trans rfl, (blk_cell BK194.out 3).trans rfl⟩ (fun hHeld => ?_)
              clear hK K
              refine norm_ (a' := ?_) ?_ ?_
              rotate_left
              · show Act.put _ (some 31) _ = _
                simp only [Act.put, List.setIfInBounds_toArray, List.set_cons_zero, List.set_cons_succ, i64_w, i32_w]
                rfl
              refine pure_ (i := 9) (N := some 22) (v := ?_) (a' := ?_) #[true, true, true, true, true, true, true, true, true, true, false, false, false, false, false] rfl rfl (any_of HT_.out (by kernel_rfl)) (fun _ _ _ h => h) (Or.inl ⟨by rfl, ?_⟩) ?_ ?_
              rotate_left
              · intro w'
                go_simp
                with_reducible rfl
              rotate_left
              · simp only [Act.put, List.setIfInBounds_toArray, List.set_cons_zero, List.set_cons_succ, i64_w, i32_w]
                rfl
              refine pure_ (i := 10) (N := some 32) (v := ?_) (a' := ?_) #[true, true, true, true, true, true, true, true, true, true, true, false, false, false, false] rfl rfl (any_of HT_.out (by kernel_rfl)) (fun _ _ _ h => h) (Or.inl ⟨by rfl, ?_⟩) ?_ ?_
              rotate_left
              · intro w'
                go_simp
                with_reducible rfl
              rotate_left
              · simp only [Act.put, List.setIfInBounds_toArray, List.set_cons_zero, List.set_cons_succ, i64_w, i32_w]
                rfl
              refine pure_ (i := 11) (N := some 33) (v := ?_) (a' := ?_) #[true, true, true, true, true, true, true, true, true, true, true, true, false, false, false] rfl rfl (any_of HT_.out (by kernel_rfl)) (fun _ _ _ h => h) (Or.inl ⟨by rfl, ?_⟩) ?_ ?_
              rotate_left
              · intro w'
                go_simp
                with_reducible rfl
              rotate_left
              · simp only [Act.put, List.setIfInBounds_toArray, List.set_cons_zero, List.set_cons_succ, i64_w, i32_w]
                rfl
              exact norm_ (by first | (simp only [putAll, Act.put, List.setIfInBounds_toArray, List.set_cons_zero, List.set_cons_succ]; done) | (simp only [putAll, Act.put, List.setIfInBounds_toArray, List.set_cons_zero, List.set_cons_succ]; rfl)) (hJ3_4_7_8 () _ ⟨hHeld, (by (with_reducible repeat (first | refine blk_drewN ?_ _ | refine blk_drew ?_ | refine blk_alloc ?_ _)); exact BK194.out), (by repeat (first | (with_reducible first | exact HI188.out | apply IsS26.alloc | apply IsS26.drewN | apply IsS26.drew | apply IsS26.set_1 | refine IsS26.far ?_ NB188_194.out _) | exact HI188.out)), (by repeat (first | (with_reducible first | exact HB.out | apply below_alloc | apply pw_below_drewN | apply below_drew1 | refine below_set ?_ (IsS26.ge HI188.out) | refine below_set ?_ GE194.out) | exact HB.out))⟩)
            · skip
              refine box_step ?hg (N := 7) ?hd (cs := #[.int .i64 0, .int .i64 0, .int .i64 0, .bool false]) (t := 45) ?hr ?_; (case hd => rfl); (case hg => rfl); (case hr => first | (go_simp; done) | (go_simp; rfl))
              intro gb208 hg w23 hbox hb
              have n0_ := Aside0.mk (IsS26.below (by repeat (first | (with_reducible first | exact HI188.out | apply IsS26.alloc | apply IsS26.drewN | apply IsS26.drew | apply IsS26.set_1 | refine IsS26.far ?_ NB188_194.out _) | exact HI188.out)) hb)
              have n1_ := Aside0.mk (blk_below (g := gb194) (o := .cells #[.int .i64 t189, .int .i64 t190, .int .i64 t191, .int .i64 t192] 28 (0, 0)) (by (with_reducible repeat (first | refine blk_drewN ?_ _ | refine blk_drew ?_ | refine blk_alloc ?_ _)); exact BK194.out) hb)
              have n2_ := Aside0.mk (below_step (by repeat (first | (with_reducible first | exact HB.out | apply below_alloc | apply pw_below_drewN | apply below_drew1 | refine below_set ?_ (IsS26.ge HI188.out) | refine below_set ?_ GE194.out) | exact HB.out)) hb)
              have n3_ := Aside0.mk (hbox)
              have n4_ := Aside0.mk ((by rw [hg]; exact (below_size (by repeat (first | (with_reducible first | exact HB.out | apply below_alloc | apply pw_below_drewN | apply below_drew1 | refine below_set ?_ (IsS26.ge HI188.out) | refine below_set ?_ GE194.out) | exact HB.out))) : w.heap.size ≤ gb208))
              have n5_ := Aside0.mk ((by rw [hg]; exact (below_size (by repeat (first | (with_reducible first | exact HB.out | apply below_alloc | apply pw_below_drewN | apply below_drew1 | refine below_set ?_ (IsS26.ge HI188.out) | refine below_set ?_ GE194.out) | exact HB.out))) : w.heap.size ≤ gb208))
              have n6_ := Aside0.mk ((by rw [hg]; exact Nat.ne_of_lt (blk_lt (g := gb194) (o := .cells #[.int .i64 t189, .int .i64 t190, .int .i64 t191, .int .i64 t192] 28 (0, 0)) (by (with_reducible repeat (first | refine blk_drewN ?_ _ | refine blk_drew ?_ | refine blk_alloc ?_ _)); exact BK194.out)) : gb194 ≠ gb208))
              have n7_ := Aside0.mk ((by rw [hg]; exact Nat.ne_of_gt (blk_lt (g := gb194) (o := .cells #[.int .i64 t189, .int .i64 t190, .int .i64 t191, .int .i64 t192] 28 (0, 0)) (by (with_reducible repeat (first | refine blk_drewN ?_ _ | refine blk_drew ?_ | refine blk_alloc ?_ _)); exact BK194.out)) : gb208 ≠ gb194))
              have n8_ := Aside0.mk ((by rw [hg]; exact Nat.ne_of_lt (IsS26.lt (show IsS26 w _ gb188 l0 t202 from by repeat (first | (with_reducible first | exact HI188.out | apply IsS26.alloc | apply IsS26.drewN | apply IsS26.drew | apply IsS26.set_1 | refine IsS26.far ?_ NB188_194.out _) | exact HI188.out))) : gb188 ≠ gb208))
              have n9_ := Aside0.mk ((by rw [hg]; exact Nat.ne_of_gt (IsS26.lt (show IsS26 w _ gb188 l0 t202 from by repeat (first | (with_reducible first | exact HI188.out | apply IsS26.alloc | apply IsS26.drewN | apply IsS26.drew | apply IsS26.set_1 | refine IsS26.far ?_ NB188_194.out _) | exact HI188.out))) : gb208 ≠ gb188))
              clear HI188
              clear BK194
              clear HB
              have HI188 := n0_
              have BK194 := n1_
              have HB := n2_
              have BK208 := n3_
              have GW208 := n4_
              have GE208 := n5_
              have NB194_208 := n6_
              have NB208_194 := n7_
              have NB188_208 := n8_
              have NB208_188 := n9_
              clear n0_ n1_ n2_ n3_ n4_ n5_ n6_ n7_ n8_ n9_
              clear hb hbox hg
              refine hK.out _ _ ⟨(blk_cell BK194.out 0).trans rfl, (blk_cell BK194.out 1).trans rfl, (blk_cell BK194.out 2).trans rfl, (blk_cell BK194.out 3).trans rfl⟩ (fun hHeld => ?_)
              clear hK K
              refine norm_ (a' := ?_) ?_ ?_
              rotate_left
              · show Act.put _ (some 7) _ = _
                simp only [Act.put, List.setIfInBounds_toArray, List.set_cons_zero, List.set_cons_succ, i64_w, i32_w]
                rfl
              exact norm_ (by first | (simp only [putAll, Act.put, List.setIfInBounds_toArray, List.set_cons_zero, List.set_cons_succ]; done) | (simp only [putAll, Act.put, List.setIfInBounds_toArray, List.set_cons_zero, List.set_cons_succ]; rfl)) (hJ3_4_7_12 (gb208) _ ⟨hHeld, (by (with_reducible repeat (first | refine blk_drewN ?_ _ | refine blk_drew ?_ | refine blk_alloc ?_ _)); exact BK194.out), (by (with_reducible repeat (first | refine blk_drewN ?_ _ | refine blk_drew ?_ | refine blk_alloc ?_ _)); exact BK208.out), GW208.out, GE208.out, NB188_208.out, NB208_188.out, NB194_208.out, NB208_194.out, (by repeat (first | (with_reducible first | exact HI188.out | apply IsS26.alloc | apply IsS26.drewN | apply IsS26.drew | apply IsS26.set_1 | refine IsS26.far ?_ NB188_194.out _ | refine IsS26.far ?_ NB188_208.out _) | exact HI188.out)), (by repeat (first | (with_reducible first | exact HB.out | apply below_alloc | apply pw_below_drewN | apply below_drew1 | refine below_set ?_ (IsS26.ge HI188.out) | refine below_set ?_ GE194.out | refine below_set ?_ GE208.out) | exact HB.out))⟩)
        · skip
          rintro gb208 w23 ⟨hS_, h0_, h1_, h2_, h3_, h4_, h5_, h6_, h7_, h8_, h9_⟩
          have n0_ : Aside0 (w23.heap[gb194]? = some (.cells #[.int .i64 t189, .int .i64 t190, .int .i64 t191, .int .i64 t192] 28 (0, 0))) := ⟨h0_⟩
          have n1_ : Aside0 (w23.heap[gb208]? = some (.cells #[.int .i64 0, .int .i64 0, .int .i64 0, .bool false] 45 (0, 0))) := ⟨h1_⟩
          have n2_ : Aside0 (w.heap.size ≤ gb208) := ⟨h2_⟩
          have n3_ : Aside0 (w.heap.size ≤ gb208) := ⟨h3_⟩
          have n4_ : Aside0 (gb188 ≠ gb208) := ⟨h4_⟩
          have n5_ : Aside0 (gb208 ≠ gb188) := ⟨h5_⟩
          have n6_ : Aside0 (gb194 ≠ gb208) := ⟨h6_⟩
          have n7_ : Aside0 (gb208 ≠ gb194) := ⟨h7_⟩
          have n8_ : Aside0 (IsS26 w w23 gb188 l0 t202) := ⟨h8_⟩
          have n9_ : Aside0 (Below w.heap.size w w23) := ⟨h9_⟩
          clear BK194
          clear HI188
          clear HB
          clear h0_ h1_ h2_ h3_ h4_ h5_ h6_ h7_ h8_ h9_
          have BK194 := n0_
          have BK208 := n1_
          have GW208 := n2_
          have GE208 := n3_
          have NB188_208 := n4_
          have NB208_188 := n5_
          have NB194_208 := n6_
          have NB208_194 := n7_
          have HI188 := n8_
          have HB := n9_
          clear n0_ n1_ n2_ n3_ n4_ n5_ n6_ n7_ n8_ n9_
          have hHeld : w23.cell? ⟨gb194, 0, none⟩ = some (.int .i64 t189) ∧ w23.cell? ⟨gb194, 1, none⟩ = some (.int .i64 t190) ∧ w23.cell? ⟨gb194, 2, none⟩ = some (.int .i64 t191) ∧ w23.cell? ⟨gb194, 3, none⟩ = some (.int .i64 t192) := hS_
          refine norm_ (a' := ?_) ?_ ?_
          rotate_left
          · simp only [putAll, Act.put, List.setIfInBounds_toArray, List.set_cons_zero, List.set_cons_succ]
            rfl
          refine one_ (i := 8) (N := some 31) #[true, true, true, true, true, true, true, true, true, false, false, false, true, false, false] rfl rfl (one_of HT_.out (by kernel_rfl)) (by decide) (fun K hK => ?_)
          refine goes_ Try.func24 (by kernel_rfl) rfl #[.agg #[.int .i64 t189, .int .i64 t190, .int .i64 t191, .int .i64 t192], .agg #[.int .i64 t197, .int .i64 t198, .int .i64 t199, .bool t200], .int .i64 t201] (by rfl) rfl rfl (by (try simp only [List.map_toArray, List.map_cons, List.map_nil]); first | done | rfl | (simp only [List.length_drop, List.length_take]; rfl)) ?_
          with_reducible refine (axis_Send.calls k t189 t190 t191 t192 t197 t198 t199 t200 t201 t203 t204 t205 t206 t207 _ A9.out).mono ?_
          rintro e w24 ⟨rfl, hb⟩
          refine ⟨_, rfl, ?_⟩
          have n0_ := Aside0.mk (IsS26.below (by repeat (first | (with_reducible first | exact HI188.out | apply IsS26.alloc | apply IsS26.drewN | apply IsS26.drew | apply IsS26.set_1 | refine IsS26.far ?_ NB188_194.out _ | refine IsS26.far ?_ NB188_208.out _) | exact HI188.out)) hb)
          have n1_ := Aside0.mk (blk_below (g := gb194) (o := .cells #[.int .i64 t189, .int .i64 t190, .int .i64 t191, .int .i64 t192] 28 (0, 0)) (by (with_reducible repeat (first | refine blk_drewN ?_ _ | refine blk_drew ?_ | refine blk_alloc ?_ _)); exact BK194.out) hb)
          have n2_ := Aside0.mk (blk_below (g := gb208) (o := .cells #[.int .i64 0, .int .i64 0, .int .i64 0, .bool false] 45 (0, 0)) (by (with_reducible repeat (first | refine blk_drewN ?_ _ | refine blk_drew ?_ | refine blk_alloc ?_ _)); exact BK208.out) hb)
          have n3_ := Aside0.mk (below_step (by repeat (first | (with_reducible first | exact HB.out | apply below_alloc | apply pw_below_drewN | apply below_drew1 | refine below_set ?_ (IsS26.ge HI188.out) | refine below_set ?_ GE194.out | refine below_set ?_ GE208.out) | exact HB.out)) hb)
          clear HI188
          clear BK194
          clear BK208
          clear HB
          have HI188 := n0_
          have BK194 := n1_
          have BK208 := n2_
          have HB := n3_
          clear n0_ n1_ n2_ n3_
          (try clear hb)
          (try clear hb2)
          (try clear hk)
          (try clear hi)
          refine hK.out _ _ ⟨(blk_cell BK194.out 0).trans rfl, (blk_cell BK194.out 1).trans rfl, (blk_cell BK194.out 2).trans rfl, (blk_cell BK194.out 3).trans rfl⟩ (fun hHeld => ?_)
          clear hK K
          refine norm_ (a' := ?_) ?_ ?_
          rotate_left
          · show Act.put _ (some 31) _ = _
            simp only [Act.put, List.setIfInBounds_toArray, List.set_cons_zero, List.set_cons_succ, i64_w, i32_w]
            rfl
          refine pure_ (i := 9) (N := some 22) (v := ?_) (a' := ?_) #[true, true, true, true, true, true, true, true, true, true, false, false, true, false, false] rfl rfl (any_of HT_.out (by kernel_rfl)) (fun _ _ _ h => h) (Or.inl ⟨by rfl, ?_⟩) ?_ ?_
          rotate_left
          · intro w'
            go_simp
            with_reducible rfl
          rotate_left
          · simp only [Act.put, List.setIfInBounds_toArray, List.set_cons_zero, List.set_cons_succ, i64_w, i32_w]
            rfl
          refine pure_ (i := 10) (N := some 32) (v := ?_) (a' := ?_) #[true, true, true, true, true, true, true, true, true, true, true, false, true, false, false] rfl rfl (any_of HT_.out (by kernel_rfl)) (fun _ _ _ h => h) (Or.inl ⟨by rfl, ?_⟩) ?_ ?_
          rotate_left
          · intro w'
            go_simp
            with_reducible rfl
          rotate_left
          · simp only [Act.put, List.setIfInBounds_toArray, List.set_cons_zero, List.set_cons_succ, i64_w, i32_w]
            rfl
          refine pure_ (i := 11) (N := some 33) (v := ?_) (a' := ?_) #[true, true, true, true, true, true, true, true, true, true, true, true, true, false, false] rfl rfl (any_of HT_.out (by kernel_rfl)) (fun _ _ _ h => h) (Or.inl ⟨by rfl, ?_⟩) ?_ ?_
          rotate_left
          · intro w'
            go_simp
            with_reducible rfl
          rotate_left
          · simp only [Act.put, List.setIfInBounds_toArray, List.set_cons_zero, List.set_cons_succ, i64_w, i32_w]
            rfl
          exact norm_ (by first | (simp only [putAll, Act.put, List.setIfInBounds_toArray, List.set_cons_zero, List.set_cons_succ]; done) | (simp only [putAll, Act.put, List.setIfInBounds_toArray, List.set_cons_zero, List.set_cons_succ]; rfl)) (hJ3_4_7_8_12 (gb208) _ ⟨hHeld, (by (with_reducible repeat (first | refine blk_drewN ?_ _ | refine blk_drew ?_ | refine blk_alloc ?_ _)); exact BK194.out), (by (with_reducible repeat (first | refine blk_drewN ?_ _ | refine blk_drew ?_ | refine blk_alloc ?_ _)); exact BK208.out), GW208.out, GE208.out, NB188_208.out, NB208_188.out, NB194_208.out, NB208_194.out, (by repeat (first | (with_reducible first | exact HI188.out | apply IsS26.alloc | apply IsS26.drewN | apply IsS26.drew | apply IsS26.set_1 | refine IsS26.far ?_ NB188_194.out _ | refine IsS26.far ?_ NB188_208.out _) | exact HI188.out)), (by repeat (first | (with_reducible first | exact HB.out | apply below_alloc | apply pw_below_drewN | apply below_drew1 | refine below_set ?_ (IsS26.ge HI188.out) | refine below_set ?_ GE194.out | refine below_set ?_ GE208.out) | exact HB.out))⟩)
      · skip
        rintro _ w23 ⟨hS_, h0_, h1_, h2_⟩
        have n0_ : Aside0 (w23.heap[gb194]? = some (.cells #[.int .i64 t189, .int .i64 t190, .int .i64 t191, .int .i64 t192] 28 (0, 0))) := ⟨h0_⟩
        have n1_ : Aside0 (IsS26 w w23 gb188 l0 t202) := ⟨h1_⟩
        have n2_ : Aside0 (Below w.heap.size w w23) := ⟨h2_⟩
        clear BK194
        clear HI188
        clear HB
        clear h0_ h1_ h2_
        have BK194 := n0_
        have HI188 := n1_
        have HB := n2_
        clear n0_ n1_ n2_
        have hHeld : w23.cell? ⟨gb194, 0, none⟩ = some (.int .i64 t189) ∧ w23.cell? ⟨gb194, 1, none⟩ = some (.int .i64 t190) ∧ w23.cell? ⟨gb194, 2, none⟩ = some (.int .i64 t191) ∧ w23.cell? ⟨gb194, 3, none⟩ = some (.int .i64 t192) := hS_
        refine norm_ (a' := ?_) ?_ ?_
        rotate_left
        · simp only [putAll, Act.put, List.setIfInBounds_toArray, List.set_cons_zero, List.set_cons_succ]
          rfl
        refine one_ (i := 12) (N := some 7) #[true, true, true, true, true, true, true, true, true, true, true, true, true, false, false] rfl rfl (one_of HT_.out (by kernel_rfl)) (by decide) (fun K hK => ?_)
        refine box_step ?hg (N := 7) ?hd (cs := #[.int .i64 0, .int .i64 0, .int .i64 0, .bool false]) (t := 45) ?hr ?_; (case hd => rfl); (case hg => rfl); (case hr => first | (go_simp; done) | (go_simp; rfl))
        intro gb208 hg w24 hbox hb
        have n0_ := Aside0.mk (IsS26.below (by repeat (first | (with_reducible first | exact HI188.out | apply IsS26.alloc | apply IsS26.drewN | apply IsS26.drew | apply IsS26.set_1 | refine IsS26.far ?_ NB188_194.out _) | exact HI188.out)) hb)
        have n1_ := Aside0.mk (blk_below (g := gb194) (o := .cells #[.int .i64 t189, .int .i64 t190, .int .i64 t191, .int .i64 t192] 28 (0, 0)) (by (with_reducible repeat (first | refine blk_drewN ?_ _ | refine blk_drew ?_ | refine blk_alloc ?_ _)); exact BK194.out) hb)
        have n2_ := Aside0.mk (below_step (by repeat (first | (with_reducible first | exact HB.out | apply below_alloc | apply pw_below_drewN | apply below_drew1 | refine below_set ?_ (IsS26.ge HI188.out) | refine below_set ?_ GE194.out) | exact HB.out)) hb)
        have n3_ := Aside0.mk (hbox)
        have n4_ := Aside0.mk ((by rw [hg]; exact (below_size (by repeat (first | (with_reducible first | exact HB.out | apply below_alloc | apply pw_below_drewN | apply below_drew1 | refine below_set ?_ (IsS26.ge HI188.out) | refine below_set ?_ GE194.out) | exact HB.out))) : w.heap.size ≤ gb208))
        have n5_ := Aside0.mk ((by rw [hg]; exact (below_size (by repeat (first | (with_reducible first | exact HB.out | apply below_alloc | apply pw_below_drewN | apply below_drew1 | refine below_set ?_ (IsS26.ge HI188.out) | refine below_set ?_ GE194.out) | exact HB.out))) : w.heap.size ≤ gb208))
        have n6_ := Aside0.mk ((by rw [hg]; exact Nat.ne_of_lt (blk_lt (g := gb194) (o := .cells #[.int .i64 t189, .int .i64 t190, .int .i64 t191, .int .i64 t192] 28 (0, 0)) (by (with_reducible repeat (first | refine blk_drewN ?_ _ | refine blk_drew ?_ | refine blk_alloc ?_ _)); exact BK194.out)) : gb194 ≠ gb208))
        have n7_ := Aside0.mk ((by rw [hg]; exact Nat.ne_of_gt (blk_lt (g := gb194) (o := .cells #[.int .i64 t189, .int .i64 t190, .int .i64 t191, .int .i64 t192] 28 (0, 0)) (by (with_reducible repeat (first | refine blk_drewN ?_ _ | refine blk_drew ?_ | refine blk_alloc ?_ _)); exact BK194.out)) : gb208 ≠ gb194))
        have n8_ := Aside0.mk ((by rw [hg]; exact Nat.ne_of_lt (IsS26.lt (show IsS26 w _ gb188 l0 t202 from by repeat (first | (with_reducible first | exact HI188.out | apply IsS26.alloc | apply IsS26.drewN | apply IsS26.drew | apply IsS26.set_1 | refine IsS26.far ?_ NB188_194.out _) | exact HI188.out))) : gb188 ≠ gb208))
        have n9_ := Aside0.mk ((by rw [hg]; exact Nat.ne_of_gt (IsS26.lt (show IsS26 w _ gb188 l0 t202 from by repeat (first | (with_reducible first | exact HI188.out | apply IsS26.alloc | apply IsS26.drewN | apply IsS26.drew | apply IsS26.set_1 | refine IsS26.far ?_ NB188_194.out _) | exact HI188.out))) : gb208 ≠ gb188))
        clear HI188
        clear BK194
        clear HB
        have HI188 := n0_
        have BK194 := n1_
        have HB := n2_
        have BK208 := n3_
        have GW208 := n4_
        have GE208 := n5_
        have NB194_208 := n6_
        have NB208_194 := n7_
        have NB188_208 := n8_
        have NB208_188 := n9_
        clear n0_ n1_ n2_ n3_ n4_ n5_ n6_ n7_ n8_ n9_
        clear hb hbox hg
        refine hK.out _ _ ⟨(blk_cell BK194.out 0).trans rfl, (blk_cell BK194.out 1).trans rfl, (blk_cell BK194.out 2).trans rfl, (blk_cell BK194.out 3).trans rfl⟩ (fun hHeld => ?_)
        clear hK K
        refine norm_ (a' := ?_) ?_ ?_
        rotate_left
        · show Act.put _ (some 7) _ = _
          simp only [Act.put, List.setIfInBounds_toArray, List.set_cons_zero, List.set_cons_succ, i64_w, i32_w]
          rfl
        exact norm_ (by first | (simp only [putAll, Act.put, List.setIfInBounds_toArray, List.set_cons_zero, List.set_cons_succ]; done) | (simp only [putAll, Act.put, List.setIfInBounds_toArray, List.set_cons_zero, List.set_cons_succ]; rfl)) (hJ3_4_7_8_12 (gb208) _ ⟨hHeld, (by (with_reducible repeat (first | refine blk_drewN ?_ _ | refine blk_drew ?_ | refine blk_alloc ?_ _)); exact BK194.out), (by (with_reducible repeat (first | refine blk_drewN ?_ _ | refine blk_drew ?_ | refine blk_alloc ?_ _)); exact BK208.out), GW208.out, GE208.out, NB188_208.out, NB208_188.out, NB194_208.out, NB208_194.out, (by repeat (first | (with_reducible first | exact HI188.out | apply IsS26.alloc | apply IsS26.drewN | apply IsS26.drew | apply IsS26.set_1 | refine IsS26.far ?_ NB188_194.out _ | refine IsS26.far ?_ NB188_208.out _) | exact HI188.out)), (by repeat (first | (with_reducible first | exact HB.out | apply below_alloc | apply pw_below_drewN | apply below_drew1 | refine below_set ?_ (IsS26.ge HI188.out) | refine below_set ?_ GE194.out | refine below_set ?_ GE208.out) | exact HB.out))⟩)
    rintro gb208 w24 ⟨hS_, h0_, h1_, h2_, h3_, h4_, h5_, h6_, h7_, h8_, h9_⟩
    have n0_ : Aside0 (w24.heap[gb194]? = some (.cells #[.int .i64 t189, .int .i64 t190, .int .i64 t191, .int .i64 t192] 28 (0, 0))) := ⟨h0_⟩
    have n1_ : Aside0 (w24.heap[gb208]? = some (.cells #[.int .i64 0, .int .i64 0, .int .i64 0, .bool false] 45 (0, 0))) := ⟨h1_⟩
    have n2_ : Aside0 (w.heap.size ≤ gb208) := ⟨h2_⟩
    have n3_ : Aside0 (w.heap.size ≤ gb208) := ⟨h3_⟩
    have n4_ : Aside0 (gb188 ≠ gb208) := ⟨h4_⟩
    have n5_ : Aside0 (gb208 ≠ gb188) := ⟨h5_⟩
    have n6_ : Aside0 (gb194 ≠ gb208) := ⟨h6_⟩
    have n7_ : Aside0 (gb208 ≠ gb194) := ⟨h7_⟩
    have n8_ : Aside0 (IsS26 w w24 gb188 l0 t202) := ⟨h8_⟩
    have n9_ : Aside0 (Below w.heap.size w w24) := ⟨h9_⟩
    clear BK194
    clear HI188
    clear HB
    clear h0_ h1_ h2_ h3_ h4_ h5_ h6_ h7_ h8_ h9_
    have BK194 := n0_
    have BK208 := n1_
    have GW208 := n2_
    have GE208 := n3_
    have NB188_208 := n4_
    have NB208_188 := n5_
    have NB194_208 := n6_
    have NB208_194 := n7_
    have HI188 := n8_
    have HB := n9_
    clear n0_ n1_ n2_ n3_ n4_ n5_ n6_ n7_ n8_ n9_
    have hHeld : w24.cell? ⟨gb194, 0, none⟩ = some (.int .i64 t189) ∧ w24.cell? ⟨gb194, 1, none⟩ = some (.int .i64 t190) ∧ w24.cell? ⟨gb194, 2, none⟩ = some (.int .i64 t191) ∧ w24.cell? ⟨gb194, 3, none⟩ = some (.int .i64 t192) := hS_
    refine norm_ (a' := ?_) ?_ ?_
    rotate_left
    · simp only [putAll, Act.put, List.setIfInBounds_toArray, List.set_cons_zero, List.set_cons_succ]
      rfl
    refine one_ (i := 13) (N := none) #[true, true, true, true, true, true, true, true, true, true, true, true, true, true, false] rfl rfl (one_of HT_.out (by kernel_rfl)) (by decide) (fun K hK => ?_)
    have hs25 : w24.cell? ⟨gb208, 0, none⟩ = some (.int .i64 0) := (blk_cell BK208.out 0).trans rfl
    have hfs25 := blk_frozen BK208.out 0
    have hns25_0 := NB194_208.out
    have hms25_0 := NB208_194.out
    have hs26 : w24.cell? ⟨gb208, 1, none⟩ = some (.int .i64 0) := (blk_cell BK208.out 1).trans rfl
    have hfs26 := blk_frozen BK208.out 1
    have hns26_0 := NB194_208.out
    have hms26_0 := NB208_194.out
    have hs27 : w24.cell? ⟨gb208, 2, none⟩ = some (.int .i64 0) := (blk_cell BK208.out 2).trans rfl
    have hfs27 := blk_frozen BK208.out 2
    have hns27_0 := NB194_208.out
    have hms27_0 := NB208_194.out
    have hs28 : w24.cell? ⟨gb208, 3, none⟩ = some (.bool false) := (blk_cell BK208.out 3).trans rfl
    have hfs28 := blk_frozen BK208.out 3
    have hns28_0 := NB194_208.out
    have hms28_0 := NB208_194.out
    refine skip_ (w1 := ?_) (by rfl) rfl ?_ ?_
    rotate_left
    · go_simp
      rfl
    refine hK.out _ _ ⟨((cell_far (p := ⟨gb208, _, none⟩) NB194_208.out _).trans (((cell_far (p := ⟨gb208, _, none⟩) NB194_208.out _).trans (((cell_far (p := ⟨gb208, _, none⟩) NB194_208.out _).trans (((cell_far (p := ⟨gb208, _, none⟩) NB194_208.out _).trans (hHeld.1)))))))), ((cell_far (p := ⟨gb208, _, none⟩) NB194_208.out _).trans (((cell_far (p := ⟨gb208, _, none⟩) NB194_208.out _).trans (((cell_far (p := ⟨gb208, _, none⟩) NB194_208.out _).trans (((cell_far (p := ⟨gb208, _, none⟩) NB194_208.out _).trans (hHeld.2.1)))))))), ((cell_far (p := ⟨gb208, _, none⟩) NB194_208.out _).trans (((cell_far (p := ⟨gb208, _, none⟩) NB194_208.out _).trans (((cell_far (p := ⟨gb208, _, none⟩) NB194_208.out _).trans (((cell_far (p := ⟨gb208, _, none⟩) NB194_208.out _).trans (hHeld.2.2.1)))))))), ((cell_far (p := ⟨gb208, _, none⟩) NB194_208.out _).trans (((cell_far (p := ⟨gb208, _, none⟩) NB194_208.out _).trans (((cell_far (p := ⟨gb208, _, none⟩) NB194_208.out _).trans (((cell_far (p := ⟨gb208, _, none⟩) NB194_208.out _).trans (hHeld.2.2.2))))))))⟩ (fun hHeld => ?_)
    clear hK K
    refine pure_ (i := 14) (N := some 8) (v := ?_) (a' := ?_) #[true, true, true, true, true, true, true, true, true, true, true, true, true, true, true] rfl rfl (any_of HT_.out (by kernel_rfl)) (fun _ _ _ h => h) (Or.inl ⟨by rfl, ?_⟩) ?_ ?_
    rotate_left
    · intro w'
      go_simp
      with_reducible rfl
    rotate_left
    · simp only [Act.put, List.setIfInBounds_toArray, List.set_cons_zero, List.set_cons_succ, i64_w, i32_w]
      rfl
    refine done_ (done_of HT_.out (by kernel_rfl)) ?_
    try go_wp2_with (first | ((with_reducible refine gate_callee (f := 18) rfl ?_); refine goesL_ (some 35) rfl rfl Try.func18 (by kernel_rfl) rfl #[.int .i64 a1, .int .i64 30] rfl (by (try simp only [List.map_toArray, List.map_cons, List.map_nil]); first | done | rfl | (simp only [List.length_drop, List.length_take]; rfl)) ?_; (with_reducible refine (spymake_Below.calls a1 30 t209 _ A10.out).mono ?_); rintro e w' ⟨rfl, ⟨nd, rfl⟩⟩; refine ⟨_, rfl, ?_⟩))
    go_loopg [36] k (fun kq v36 w' => ∃ (x36_1 : Int) (x209000_1 : Int) (x209001_1 : Int) (x209002_1 : Int) (x209003_1 : Bool), v36 = .int .i64 x36_1 ∧ Aside0 (spykeep2_AxisStops.l0 kq t207 t209 x36_1 t189 t190 t191 t192 x209000_1 x209001_1 x209002_1 x209003_1 = some r) ∧ Aside0 (kq ≤ k) ∧ Aside0 (w'.heap[gb194]? = some (.cells #[.int .i64 t189, .int .i64 t190, .int .i64 t191, .int .i64 t192] 28 (0, 0))) ∧ Aside0 (w'.heap[gb208]? = some (.cells #[.int .i64 x209000_1, .int .i64 x209001_1, .int .i64 x209002_1, .bool x209003_1] 45 (0, 0))) ∧ Aside0 (Below w.heap.size w w'))
    case atStart => exact ⟨(0), (t203), (t204), (t205), (t206), (by first | rfl | (simp; done) | (simp [*]; done)), H', ⟨Nat.le_refl _⟩, ⟨by (with_reducible repeat (first | refine blk_drewN ?_ _ | refine blk_drew ?_ | refine blk_alloc ?_ _)); refine blk_far ?_ NB194_208.out _; (with_reducible repeat (first | refine blk_drewN ?_ _ | refine blk_drew ?_ | refine blk_alloc ?_ _)); refine blk_far ?_ NB194_208.out _; (with_reducible repeat (first | refine blk_drewN ?_ _ | refine blk_drew ?_ | refine blk_alloc ?_ _)); refine blk_far ?_ NB194_208.out _; (with_reducible repeat (first | refine blk_drewN ?_ _ | refine blk_drew ?_ | refine blk_alloc ?_ _)); refine blk_far ?_ NB194_208.out _; (with_reducible repeat (first | refine blk_drewN ?_ _ | refine blk_drew ?_ | refine blk_alloc ?_ _)); exact BK194.out⟩, ⟨by (with_reducible repeat (first | refine blk_drewN ?_ _ | refine blk_drew ?_ | refine blk_alloc ?_ _)); refine blk_put (cs := #[.int .i64 t203, .int .i64 t204, .int .i64 t205, .bool false]) ?_ 3 _ rfl; (with_reducible repeat (first | refine blk_drewN ?_ _ | refine blk_drew ?_ | refine blk_alloc ?_ _)); refine blk_put (cs := #[.int .i64 t203, .int .i64 t204, .int .i64 0, .bool false]) ?_ 2 _ rfl; (with_reducible repeat (first | refine blk_drewN ?_ _ | refine blk_drew ?_ | refine blk_alloc ?_ _)); refine blk_put (cs := #[.int .i64 t203, .int .i64 0, .int .i64 0, .bool false]) ?_ 1 _ rfl; (with_reducible repeat (first | refine blk_drewN ?_ _ | refine blk_drew ?_ | refine blk_alloc ?_ _)); refine blk_put (cs := #[.int .i64 0, .int .i64 0, .int .i64 0, .bool false]) ?_ 0 _ rfl; (with_reducible repeat (first | refine blk_drewN ?_ _ | refine blk_drew ?_ | refine blk_alloc ?_ _)); exact BK208.out⟩, ⟨by repeat (first | (with_reducible first | exact HB.out | apply below_alloc | apply pw_below_drewN | apply below_drew1 | refine below_set ?_ (IsS26.ge HI188.out) | refine below_set ?_ GE194.out | refine below_set ?_ GE208.out) | exact HB.out)⟩⟩
    case round =>
      clear H'
      try clear c1
      try clear c2
      try clear p2
      try clear c13
      try clear c18
      try clear c23
      try clear c24
      obtain ⟨x36_1, x209000_1, x209001_1, x209002_1, x209003_1, rfl, HA, HK1, BK194, BK208, HB⟩ := hrel
      cases gk with
      | zero => exact absurd HA.out (by simp [spykeep2_AxisStops.l0])
      | succ k1 =>
        have H := HA.out
        clear HA
        simp only [spykeep2_AxisStops.l0] at H
        by_cases c29 : x36_1 < t209
        · rw [if_pos c29] at H
          have c29b0 : decide (x36_1 < t209) = true := decide_eq_true c29
          clear c29
          replace H := Option.bind_eq_some_iff.mp H
          obtain ⟨⟨t210, t211, t212, t213⟩, A300, H⟩ := H
          replace H : (spykeep2_AxisStops.l0 k1 t207 t209 (wrap64 (x36_1 + 1)) t189 t190 t191 t192 t210 t211 t212 t213) = some r := H
          have A30 := Aside0.mk A300
          clear A300
          have H' := Aside0.mk H
          clear H
          have hnb31 := NB194_208.out
          have hnc31 := NB208_194.out
          have hcz32_0 : wr.cell? ⟨gb194, 0, none⟩ = some (.int .i64 t189) := (blk_cell BK194.out 0).trans rfl
          have hcz32_1 : wr.cell? ⟨gb194, 1, none⟩ = some (.int .i64 t190) := (blk_cell BK194.out 1).trans rfl
          have hcz32_2 : wr.cell? ⟨gb194, 2, none⟩ = some (.int .i64 t191) := (blk_cell BK194.out 2).trans rfl
          have hcz32_3 : wr.cell? ⟨gb194, 3, none⟩ = some (.int .i64 t192) := (blk_cell BK194.out 3).trans rfl
          have hfz32_0 := blk_frozen BK194.out 0
          have hfz32_1 := blk_frozen BK194.out 1
          have hfz32_2 := blk_frozen BK194.out 2
          have hfz32_3 := blk_frozen BK194.out 3
          have hcz33_0 : wr.cell? ⟨gb208, 0, none⟩ = some (.int .i64 x209000_1) := (blk_cell BK208.out 0).trans rfl
          have hcz33_1 : wr.cell? ⟨gb208, 1, none⟩ = some (.int .i64 x209001_1) := (blk_cell BK208.out 1).trans rfl
          have hcz33_2 : wr.cell? ⟨gb208, 2, none⟩ = some (.int .i64 x209002_1) := (blk_cell BK208.out 2).trans rfl
          have hcz33_3 : wr.cell? ⟨gb208, 3, none⟩ = some (.bool x209003_1) := (blk_cell BK208.out 3).trans rfl
          have hfz33_0 := blk_frozen BK208.out 0
          have hfz33_1 := blk_frozen BK208.out 1
          have hfz33_2 := blk_frozen BK208.out 2
          have hfz33_3 := blk_frozen BK208.out 3
          go_wp2_with (first | ((with_reducible refine gate_callee (f := 25) rfl ?_); refine goesL_ (some 40) rfl rfl Try.func25 (by kernel_rfl) rfl #[.agg #[.int .i64 t189, .int .i64 t190, .int .i64 t191, .int .i64 t192], .agg #[.int .i64 x209000_1, .int .i64 x209001_1, .int .i64 x209002_1, .bool x209003_1]] rfl (by (try simp only [List.map_toArray, List.map_cons, List.map_nil]); first | done | rfl | (simp only [List.length_drop, List.length_take]; rfl)) ?_; (with_reducible refine (axis_Step.calls k1 t189 t190 t191 t192 x209000_1 x209001_1 x209002_1 x209003_1 t210 t211 t212 t213 _ A30.out).mono ?_); rintro e w34 ⟨rfl, hb⟩; refine ⟨_, rfl, ?_⟩; have n0_ := Aside0.mk (blk_below (g := gb194) (o := .cells #[.int .i64 t189, .int .i64 t190, .int .i64 t191, .int .i64 t192] 28 (0, 0)) (by (with_reducible repeat (first | refine blk_drewN ?_ _ | refine blk_drew ?_ | refine blk_alloc ?_ _)); exact BK194.out) hb); have n1_ := Aside0.mk (blk_below (g := gb208) (o := .cells #[.int .i64 x209000_1, .int .i64 x209001_1, .int .i64 x209002_1, .bool x209003_1] 45 (0, 0)) (by (with_reducible repeat (first | refine blk_drewN ?_ _ | refine blk_drew ?_ | refine blk_alloc ?_ _)); exact BK208.out) hb); have n2_ := Aside0.mk (below_step (by repeat (first | (with_reducible first | exact HB.out | apply below_alloc | apply pw_below_drewN | apply below_drew1 | refine below_set ?_ GE194.out | refine below_set ?_ GE208.out) | exact HB.out)) hb); clear BK194; clear BK208; clear HB; have BK194 := n0_; have BK208 := n1_; have HB := n2_; clear n0_ n1_ n2_; (try clear hb); (try clear hb2); (try clear hk); (try clear hi); have hcz35_0 : w34.cell? ⟨gb208, 0, none⟩ = some (.int .i64 x209000_1) := (blk_cell BK208.out 0).trans rfl; have hcz35_1 : w34.cell? ⟨gb208, 1, none⟩ = some (.int .i64 x209001_1) := (blk_cell BK208.out 1).trans rfl; have hcz35_2 : w34.cell? ⟨gb208, 2, none⟩ = some (.int .i64 x209002_1) := (blk_cell BK208.out 2).trans rfl; have hcz35_3 : w34.cell? ⟨gb208, 3, none⟩ = some (.bool x209003_1) := (blk_cell BK208.out 3).trans rfl; have hfz35_0 := blk_frozen BK208.out 0; have hfz35_1 := blk_frozen BK208.out 1; have hfz35_2 := blk_frozen BK208.out 2; have hfz35_3 := blk_frozen BK208.out 3) | ((with_reducible refine gate_store (t := 45) (p := 7) rfl ?_); refine store_event (t := 45) (p := 7) (v := ?vo_w36) (w1 := ((((w34.setCell ⟨gb208, 0, none⟩ (.int .i64 t210)).setCell ⟨gb208, 1, none⟩ (.int .i64 t211)).setCell ⟨gb208, 2, none⟩ (.int .i64 t212)).setCell ⟨gb208, 3, none⟩ (.bool t213))) ?hg ?ho ?hn ?hr ?_; (case ho => rfl); (case hg => rfl); (case hn => rfl); (case hr => first | (go_simp; done) | (go_simp; rfl)); intro w36 hw; have n0_ : Aside0 (w36.heap[gb194]? = some (.cells #[.int .i64 t189, .int .i64 t190, .int .i64 t191, .int .i64 t192] 28 (0, 0))) := ⟨(by rw [hw]; exact (by (with_reducible repeat (first | refine blk_drewN ?_ _ | refine blk_drew ?_ | refine blk_alloc ?_ _)); refine blk_far ?_ NB194_208.out _; (with_reducible repeat (first | refine blk_drewN ?_ _ | refine blk_drew ?_ | refine blk_alloc ?_ _)); refine blk_far ?_ NB194_208.out _; (with_reducible repeat (first | refine blk_drewN ?_ _ | refine blk_drew ?_ | refine blk_alloc ?_ _)); refine blk_far ?_ NB194_208.out _; (with_reducible repeat (first | refine blk_drewN ?_ _ | refine blk_drew ?_ | refine blk_alloc ?_ _)); refine blk_far ?_ NB194_208.out _; (with_reducible repeat (first | refine blk_drewN ?_ _ | refine blk_drew ?_ | refine blk_alloc ?_ _)); exact BK194.out))⟩; have n1_ : Aside0 (w36.heap[gb208]? = some (.cells #[.int .i64 t210, .int .i64 t211, .int .i64 t212, .bool t213] 45 (0, 0))) := ⟨(by rw [hw]; exact (by (with_reducible repeat (first | refine blk_drewN ?_ _ | refine blk_drew ?_ | refine blk_alloc ?_ _)); refine blk_put (cs := #[.int .i64 t210, .int .i64 t211, .int .i64 t212, .bool x209003_1]) ?_ 3 _ rfl; (with_reducible repeat (first | refine blk_drewN ?_ _ | refine blk_drew ?_ | refine blk_alloc ?_ _)); refine blk_put (cs := #[.int .i64 t210, .int .i64 t211, .int .i64 x209002_1, .bool x209003_1]) ?_ 2 _ rfl; (with_reducible repeat (first | refine blk_drewN ?_ _ | refine blk_drew ?_ | refine blk_alloc ?_ _)); refine blk_put (cs := #[.int .i64 t210, .int .i64 x209001_1, .int .i64 x209002_1, .bool x209003_1]) ?_ 1 _ rfl; (with_reducible repeat (first | refine blk_drewN ?_ _ | refine blk_drew ?_ | refine blk_alloc ?_ _)); refine blk_put (cs := #[.int .i64 x209000_1, .int .i64 x209001_1, .int .i64 x209002_1, .bool x209003_1]) ?_ 0 _ rfl; (with_reducible repeat (first | refine blk_drewN ?_ _ | refine blk_drew ?_ | refine blk_alloc ?_ _)); exact BK208.out))⟩; have n2_ : Aside0 (Below w.heap.size w w36) := ⟨(by rw [hw]; exact (by repeat (first | (with_reducible first | exact HB.out | apply below_alloc | apply pw_below_drewN | apply below_drew1 | refine below_set ?_ GE194.out | refine below_set ?_ GE208.out) | exact HB.out)))⟩; clear hw; clear BK194; clear BK208; clear HB; have BK194 := n0_; have BK208 := n1_; have HB := n2_; clear n0_ n1_ n2_))
          go_roundg k1
          case measure => have := HK1.out; omega
          case rel => exact ⟨(wrap64 (x36_1 + 1)), (t210), (t211), (t212), (t213), (by first | rfl | (simp; done) | (simp [*]; done)), H', ⟨by have := HK1.out; omega⟩, ⟨by (with_reducible repeat (first | refine blk_drewN ?_ _ | refine blk_drew ?_ | refine blk_alloc ?_ _)); exact BK194.out⟩, ⟨by (with_reducible repeat (first | refine blk_drewN ?_ _ | refine blk_drew ?_ | refine blk_alloc ?_ _)); exact BK208.out⟩, ⟨by repeat (first | (with_reducible first | exact HB.out | apply below_alloc | apply pw_below_drewN | apply below_drew1 | refine below_set ?_ GE194.out | refine below_set ?_ GE208.out) | exact HB.out)⟩⟩
        · rw [if_neg c29] at H
          have c29b0 : decide (x36_1 < t209) = false := decide_eq_false c29
          clear c29
          replace H := Option.bind_eq_some_iff.mp H
          obtain ⟨t214, A370, H⟩ := H
          replace H : (if x209001_1 < 0 then ((axis_Stop.f k1 t189 t190 t191 t192 x209001_1).bind fun t215 => (spykeep2_AxisStops.j1 k1 t207 (wrap64 (x209000_1 - t215)) t189 t190 t191 t192 x209000_1 x209001_1 x209002_1 x209003_1)) else (spykeep2_AxisStops.j1 k1 t207 (wrap64 (x209000_1 + t214)) t189 t190 t191 t192 x209000_1 x209001_1 x209002_1 x209003_1)) = some r := H
          have A37 := Aside0.mk A370
          clear A370
          have HC38 := Aside0.mk H
          clear H
          try go_wp2
          have n0_ := Aside0.mk (blk_drew BK194.out)
          have n1_ := Aside0.mk (blk_drew BK208.out)
          have n2_ := Aside0.mk (below_drew1 HB.out)
          clear BK194
          clear BK208
          clear HB
          have BK194 := n0_
          have BK208 := n1_
          have HB := n2_
          clear n0_ n1_ n2_
          refine start_ (n := 8) (S := fun w' => w'.cell? ⟨gb208, 0, none⟩ = some (.int .i64 x209000_1) ∧ w'.cell? ⟨gb208, 1, none⟩ = some (.int .i64 x209001_1) ∧ w'.cell? ⟨gb208, 2, none⟩ = some (.int .i64 x209002_1) ∧ w'.cell? ⟨gb208, 3, none⟩ = some (.bool x209003_1) ∧ w'.cell? ⟨gb194, 0, none⟩ = some (.int .i64 t189) ∧ w'.cell? ⟨gb194, 1, none⟩ = some (.int .i64 t190) ∧ w'.cell? ⟨gb194, 2, none⟩ = some (.int .i64 t191) ∧ w'.cell? ⟨gb194, 3, none⟩ = some (.int .i64 t192)) (ds := []) #[false, false, false, false, false, false, false, false] (by kernel_rfl) rfl rfl ⟨(blk_cell BK208.out 0).trans rfl, (blk_cell BK208.out 1).trans rfl, (blk_cell BK208.out 2).trans rfl, (blk_cell BK208.out 3).trans rfl, (blk_cell BK194.out 0).trans rfl, (blk_cell BK194.out 1).trans rfl, (blk_cell BK194.out 2).trans rfl, (blk_cell BK194.out 3).trans rfl⟩ (fun hHeld => ?_); refine with_tabW spykeep2_AxisStops.tab10 spykeep2_AxisStops.bits10 (fun HT_ HW_ => ?_)
          generalize wr.drew = w39 at BK194 BK208 HB hHeld ⊢
          refine pure_ (i := 0) (N := some 42) (v := ?_) (a' := ?_) #[true, false, false, false, false, false, false, false] rfl rfl (any_of HT_.out (by kernel_rfl)) (fun _ _ _ h => h) (Or.inl ⟨by rfl, ?_⟩) ?_ ?_
          rotate_left
          · intro w'
            go_simp
            with_reducible rfl
          rotate_left
          · simp only [Act.put, List.setIfInBounds_toArray, List.set_cons_zero, List.set_cons_succ, i64_w, i32_w]
            rfl
          refine pure_ (i := 3) (N := some 45) (v := ?_) (a' := ?_) #[true, false, false, true, false, false, false, false] rfl rfl (any_of HT_.out (by kernel_rfl)) (fun _ _ _ h => h) (Or.inl ⟨by rfl, ?_⟩) ?_ ?_
          rotate_left
          · intro w'
            go_simp
            with_reducible rfl
          rotate_left
          · simp only [Act.put, List.setIfInBounds_toArray, List.set_cons_zero, List.set_cons_succ, i64_w, i32_w]
            rfl
          refine take_ (i := 1) (N := some 43) (v := ?_) (a' := ?_) #[true, true, false, true, false, false, false, false] rfl rfl (take_ofW HT_.out HW_.out (by kernel_rfl)) (fun _ _ _ h => h) (Or.inl ⟨by rfl, ?_⟩) hHeld ?_ ?_
          rotate_left
          · rintro w' ⟨s0, s1, s2, s3, s4, s5, s6, s7⟩
            go_simp
            with_reducible rfl
          rotate_left
          · simp only [Act.put, List.setIfInBounds_toArray, List.set_cons_zero, List.set_cons_succ, i64_w, i32_w]
            rfl
          refine take_ (i := 2) (N := some 44) (v := ?_) (a' := ?_) #[true, true, true, true, false, false, false, false] rfl rfl (take_ofW HT_.out HW_.out (by kernel_rfl)) (fun _ _ _ h => h) (Or.inl ⟨by rfl, ?_⟩) hHeld ?_ ?_
          rotate_left
          · rintro w' ⟨s0, s1, s2, s3, s4, s5, s6, s7⟩
            go_simp
            with_reducible rfl
          rotate_left
          · simp only [Act.put, List.setIfInBounds_toArray, List.set_cons_zero, List.set_cons_succ, i64_w, i32_w]
            rfl
          refine take_ (i := 4) (N := some 46) (v := ?_) (a' := ?_) #[true, true, true, true, true, false, false, false] rfl rfl (take_ofW HT_.out HW_.out (by kernel_rfl)) (fun _ _ _ h => h) (Or.inl ⟨by rfl, ?_⟩) hHeld ?_ ?_
          rotate_left
          · rintro w' ⟨s0, s1, s2, s3, s4, s5, s6, s7⟩
            go_simp
            with_reducible rfl
          rotate_left
          · simp only [Act.put, List.setIfInBounds_toArray, List.set_cons_zero, List.set_cons_succ, i64_w, i32_w]
            rfl
          refine one_ (i := 5) (N := some 47) #[true, true, true, true, true, true, false, false] rfl rfl (one_of HT_.out (by kernel_rfl)) (by decide) (fun K hK => ?_)
          refine goes_ Try.func30 (by kernel_rfl) rfl #[.agg #[.int .i64 t189, .int .i64 t190, .int .i64 t191, .int .i64 t192], .int .i64 x209001_1] (by rfl) rfl rfl (by (try simp only [List.map_toArray, List.map_cons, List.map_nil]); first | done | rfl | (simp only [List.length_drop, List.length_take]; rfl)) ?_
          with_reducible refine (axis_Stop.calls k1 t189 t190 t191 t192 x209001_1 t214 _ A37.out).mono ?_
          rintro e w40 ⟨rfl, hb⟩
          refine ⟨_, rfl, ?_⟩
          have n0_ := Aside0.mk (blk_below (g := gb194) (o := .cells #[.int .i64 t189, .int .i64 t190, .int .i64 t191, .int .i64 t192] 28 (0, 0)) (by (with_reducible repeat (first | refine blk_drewN ?_ _ | refine blk_drew ?_ | refine blk_alloc ?_ _)); exact BK194.out) hb)
          have n1_ := Aside0.mk (blk_below (g := gb208) (o := .cells #[.int .i64 x209000_1, .int .i64 x209001_1, .int .i64 x209002_1, .bool x209003_1] 45 (0, 0)) (by (with_reducible repeat (first | refine blk_drewN ?_ _ | refine blk_drew ?_ | refine blk_alloc ?_ _)); exact BK208.out) hb)
          have n2_ := Aside0.mk (below_step (by repeat (first | (with_reducible first | exact HB.out | apply below_alloc | apply pw_below_drewN | apply below_drew1 | refine below_set ?_ GE194.out | refine below_set ?_ GE208.out) | exact HB.out)) hb)
          clear BK194
          clear BK208
          clear HB
          have BK194 := n0_
          have BK208 := n1_
          have HB := n2_
          clear n0_ n1_ n2_
          (try clear hb)
          (try clear hb2)
          (try clear hk)
          (try clear hi)
          refine hK.out _ _ ⟨(blk_cell BK208.out 0).trans rfl, (blk_cell BK208.out 1).trans rfl, (blk_cell BK208.out 2).trans rfl, (blk_cell BK208.out 3).trans rfl, (blk_cell BK194.out 0).trans rfl, (blk_cell BK194.out 1).trans rfl, (blk_cell BK194.out 2).trans rfl, (blk_cell BK194.out 3).trans rfl⟩ (fun hHeld => ?_)
          clear hK K
          refine norm_ (a' := ?_) ?_ ?_
          rotate_left
          · show Act.put _ (some 47) _ = _
            simp only [Act.put, List.setIfInBounds_toArray, List.set_cons_zero, List.set_cons_succ, i64_w, i32_w]
            rfl
          refine pure_ (i := 6) (N := some 48) (v := ?_) (a' := ?_) #[true, true, true, true, true, true, true, false] rfl rfl (any_of HT_.out (by kernel_rfl)) (fun _ _ _ h => h) (Or.inl ⟨by rfl, ?_⟩) ?_ ?_
          rotate_left
          · intro w'
            go_simp
            with_reducible rfl
          rotate_left
          · simp only [Act.put, List.setIfInBounds_toArray, List.set_cons_zero, List.set_cons_succ, i64_w, i32_w]
            rfl
          refine pure_ (i := 7) (N := some 9) (v := ?_) (a' := ?_) #[true, true, true, true, true, true, true, true] rfl rfl (any_of HT_.out (by kernel_rfl)) (fun _ _ _ h => h) (Or.inl ⟨by rfl, ?_⟩) ?_ ?_
          rotate_left
          · intro w'
            go_simp
            with_reducible rfl
          rotate_left
          · simp only [Act.put, List.setIfInBounds_toArray, List.set_cons_zero, List.set_cons_succ, i64_w, i32_w]
            rfl
          refine done_ (done_of HT_.out (by kernel_rfl)) ?_
          have hnb41 := NB208_194.out
          have hnc41 := NB194_208.out
          have hcz42_0 : w40.cell? ⟨gb208, 0, none⟩ = some (.int .i64 x209000_1) := (blk_cell BK208.out 0).trans rfl
          have hcz42_1 : w40.cell? ⟨gb208, 1, none⟩ = some (.int .i64 x209001_1) := (blk_cell BK208.out 1).trans rfl
          have hcz42_2 : w40.cell? ⟨gb208, 2, none⟩ = some (.int .i64 x209002_1) := (blk_cell BK208.out 2).trans rfl
          have hcz42_3 : w40.cell? ⟨gb208, 3, none⟩ = some (.bool x209003_1) := (blk_cell BK208.out 3).trans rfl
          have hfz42_0 := blk_frozen BK208.out 0
          have hfz42_1 := blk_frozen BK208.out 1
          have hfz42_2 := blk_frozen BK208.out 2
          have hfz42_3 := blk_frozen BK208.out 3
          go_upto_if 51 with (fail)
          go_cut [9] (fun v9 wc => ∃ (kq : Nat) (x9_37 : Int), v9 = .int .i64 x9_37 ∧ Aside0 (spykeep2_AxisStops.j1 kq t207 x9_37 t189 t190 t191 t192 x209000_1 x209001_1 x209002_1 x209003_1 = some r) ∧ Aside0 (kq ≤ k1) ∧ Aside0 (wc.heap[gb194]? = some (.cells #[.int .i64 t189, .int .i64 t190, .int .i64 t191, .int .i64 t192] 28 (0, 0))) ∧ Aside0 (wc.heap[gb208]? = some (.cells #[.int .i64 x209000_1, .int .i64 x209001_1, .int .i64 x209002_1, .bool x209003_1] 45 (0, 0))) ∧ Aside0 (Below w.heap.size w wc))
          case first =>
            have H := HC38.out
            clear HC38
            by_cases c43 : x209001_1 < 0
            · rw [if_pos c43] at H
              have c43b0 : decide (x209001_1 < 0) = true := decide_eq_true c43
              clear c43
              (first | rw [c43b0] | (simp only [i64_w, i32_w]; rw [c43b0]) | skip)
              replace H := Option.bind_eq_some_iff.mp H
              obtain ⟨t215, A440, H⟩ := H
              replace H : (spykeep2_AxisStops.j1 k1 t207 (wrap64 (x209000_1 - t215)) t189 t190 t191 t192 x209000_1 x209001_1 x209002_1 x209003_1) = some r := H
              have A44 := Aside0.mk A440
              clear A440
              have H' := Aside0.mk H
              clear H
              try go_wp2
              have n0_ := Aside0.mk (blk_drew BK194.out)
              have n1_ := Aside0.mk (blk_drew BK208.out)
              have n2_ := Aside0.mk (below_drew1 HB.out)
              clear BK194
              clear BK208
              clear HB
              have BK194 := n0_
              have BK208 := n1_
              have HB := n2_
              clear n0_ n1_ n2_
              refine start_ (n := 8) (S := fun w' => w'.cell? ⟨gb208, 0, none⟩ = some (.int .i64 x209000_1) ∧ w'.cell? ⟨gb208, 1, none⟩ = some (.int .i64 x209001_1) ∧ w'.cell? ⟨gb208, 2, none⟩ = some (.int .i64 x209002_1) ∧ w'.cell? ⟨gb208, 3, none⟩ = some (.bool x209003_1) ∧ w'.cell? ⟨gb194, 0, none⟩ = some (.int .i64 t189) ∧ w'.cell? ⟨gb194, 1, none⟩ = some (.int .i64 t190) ∧ w'.cell? ⟨gb194, 2, none⟩ = some (.int .i64 t191) ∧ w'.cell? ⟨gb194, 3, none⟩ = some (.int .i64 t192)) (ds := []) #[false, false, false, false, false, false, false, false] (by kernel_rfl) rfl rfl ⟨(blk_cell BK208.out 0).trans rfl, (blk_cell BK208.out 1).trans rfl, (blk_cell BK208.out 2).trans rfl, (blk_cell BK208.out 3).trans rfl, (blk_cell BK194.out 0).trans rfl, (blk_cell BK194.out 1).trans rfl, (blk_cell BK194.out 2).trans rfl, (blk_cell BK194.out 3).trans rfl⟩ (fun hHeld => ?_); refine with_tabW spykeep2_AxisStops.tab12 spykeep2_AxisStops.bits12 (fun HT_ HW_ => ?_)
              generalize w40.drew = w45 at BK194 BK208 HB hHeld ⊢
              refine pure_ (i := 0) (N := some 52) (v := ?_) (a' := ?_) #[true, false, false, false, false, false, false, false] rfl rfl (any_of HT_.out (by kernel_rfl)) (fun _ _ _ h => h) (Or.inl ⟨by rfl, ?_⟩) ?_ ?_
              rotate_left
              · intro w'
                go_simp
                with_reducible rfl
              rotate_left
              · simp only [Act.put, List.setIfInBounds_toArray, List.set_cons_zero, List.set_cons_succ, i64_w, i32_w]
                rfl
              refine pure_ (i := 3) (N := some 55) (v := ?_) (a' := ?_) #[true, false, false, true, false, false, false, false] rfl rfl (any_of HT_.out (by kernel_rfl)) (fun _ _ _ h => h) (Or.inl ⟨by rfl, ?_⟩) ?_ ?_
              rotate_left
              · intro w'
                go_simp
                with_reducible rfl
              rotate_left
              · simp only [Act.put, List.setIfInBounds_toArray, List.set_cons_zero, List.set_cons_succ, i64_w, i32_w]
                rfl
              refine take_ (i := 1) (N := some 53) (v := ?_) (a' := ?_) #[true, true, false, true, false, false, false, false] rfl rfl (take_ofW HT_.out HW_.out (by kernel_rfl)) (fun _ _ _ h => h) (Or.inl ⟨by rfl, ?_⟩) hHeld ?_ ?_
              rotate_left
              · rintro w' ⟨s0, s1, s2, s3, s4, s5, s6, s7⟩
                go_simp
                with_reducible rfl
              rotate_left
              · simp only [Act.put, List.setIfInBounds_toArray, List.set_cons_zero, List.set_cons_succ, i64_w, i32_w]
                rfl
              refine take_ (i := 2) (N := some 54) (v := ?_) (a' := ?_) #[true, true, true, true, false, false, false, false] rfl rfl (take_ofW HT_.out HW_.out (by kernel_rfl)) (fun _ _ _ h => h) (Or.inl ⟨by rfl, ?_⟩) hHeld ?_ ?_
              rotate_left
              · rintro w' ⟨s0, s1, s2, s3, s4, s5, s6, s7⟩
                go_simp
                with_reducible rfl
              rotate_left
              · simp only [Act.put, List.setIfInBounds_toArray, List.set_cons_zero, List.set_cons_succ, i64_w, i32_w]
                rfl
              refine take_ (i := 4) (N := some 56) (v := ?_) (a' := ?_) #[true, true, true, true, true, false, false, false] rfl rfl (take_ofW HT_.out HW_.out (by kernel_rfl)) (fun _ _ _ h => h) (Or.inl ⟨by rfl, ?_⟩) hHeld ?_ ?_
              rotate_left
              · rintro w' ⟨s0, s1, s2, s3, s4, s5, s6, s7⟩
                go_simp
                with_reducible rfl
              rotate_left
              · simp only [Act.put, List.setIfInBounds_toArray, List.set_cons_zero, List.set_cons_succ, i64_w, i32_w]
                rfl
              refine one_ (i := 5) (N := some 57) #[true, true, true, true, true, true, false, false] rfl rfl (one_of HT_.out (by kernel_rfl)) (by decide) (fun K hK => ?_)
              refine goes_ Try.func30 (by kernel_rfl) rfl #[.agg #[.int .i64 t189, .int .i64 t190, .int .i64 t191, .int .i64 t192], .int .i64 x209001_1] (by rfl) rfl rfl (by (try simp only [List.map_toArray, List.map_cons, List.map_nil]); first | done | rfl | (simp only [List.length_drop, List.length_take]; rfl)) ?_
              with_reducible refine (axis_Stop.calls k1 t189 t190 t191 t192 x209001_1 t215 _ A44.out).mono ?_
              rintro e w46 ⟨rfl, hb⟩
              refine ⟨_, rfl, ?_⟩
              have n0_ := Aside0.mk (blk_below (g := gb194) (o := .cells #[.int .i64 t189, .int .i64 t190, .int .i64 t191, .int .i64 t192] 28 (0, 0)) (by (with_reducible repeat (first | refine blk_drewN ?_ _ | refine blk_drew ?_ | refine blk_alloc ?_ _)); exact BK194.out) hb)
              have n1_ := Aside0.mk (blk_below (g := gb208) (o := .cells #[.int .i64 x209000_1, .int .i64 x209001_1, .int .i64 x209002_1, .bool x209003_1] 45 (0, 0)) (by (with_reducible repeat (first | refine blk_drewN ?_ _ | refine blk_drew ?_ | refine blk_alloc ?_ _)); exact BK208.out) hb)
              have n2_ := Aside0.mk (below_step (by repeat (first | (with_reducible first | exact HB.out | apply below_alloc | apply pw_below_drewN | apply below_drew1 | refine below_set ?_ GE194.out | refine below_set ?_ GE208.out) | exact HB.out)) hb)
              clear BK194
              clear BK208
              clear HB
              have BK194 := n0_
              have BK208 := n1_
              have HB := n2_
              clear n0_ n1_ n2_
              (try clear hb)
              (try clear hb2)
              (try clear hk)
              (try clear hi)
              refine hK.out _ _ ⟨(blk_cell BK208.out 0).trans rfl, (blk_cell BK208.out 1).trans rfl, (blk_cell BK208.out 2).trans rfl, (blk_cell BK208.out 3).trans rfl, (blk_cell BK194.out 0).trans rfl, (blk_cell BK194.out 1).trans rfl, (blk_cell BK194.out 2).trans rfl, (blk_cell BK194.out 3).trans rfl⟩ (fun hHeld => ?_)
              clear hK K
              refine norm_ (a' := ?_) ?_ ?_
              rotate_left
              · show Act.put _ (some 57) _ = _
                simp only [Act.put, List.setIfInBounds_toArray, List.set_cons_zero, List.set_cons_succ, i64_w, i32_w]
                rfl
              refine pure_ (i := 6) (N := some 58) (v := ?_) (a' := ?_) #[true, true, true, true, true, true, true, false] rfl rfl (any_of HT_.out (by kernel_rfl)) (fun _ _ _ h => h) (Or.inl ⟨by rfl, ?_⟩) ?_ ?_
              rotate_left
              · intro w'
                go_simp
                with_reducible rfl
              rotate_left
              · simp only [Act.put, List.setIfInBounds_toArray, List.set_cons_zero, List.set_cons_succ, i64_w, i32_w]
                rfl
              refine pure_ (i := 7) (N := some 9) (v := ?_) (a' := ?_) #[true, true, true, true, true, true, true, true] rfl rfl (any_of HT_.out (by kernel_rfl)) (fun _ _ _ h => h) (Or.inl ⟨by rfl, ?_⟩) ?_ ?_
              rotate_left
              · intro w'
                go_simp
                with_reducible rfl
              rotate_left
              · simp only [Act.put, List.setIfInBounds_toArray, List.set_cons_zero, List.set_cons_succ, i64_w, i32_w]
                rfl
              refine done_ (done_of HT_.out (by kernel_rfl)) ?_
              try go_wp2
              go_meet
              case rel => exact ⟨_, (wrap64 (x209000_1 - t215)), (by first | rfl | (simp; done) | (simp [*]; done)), H', ⟨by have := HK1.out; first | omega | exact Nat.le_refl _⟩, ⟨by (with_reducible repeat (first | refine blk_drewN ?_ _ | refine blk_drew ?_ | refine blk_alloc ?_ _)); exact BK194.out⟩, ⟨by (with_reducible repeat (first | refine blk_drewN ?_ _ | refine blk_drew ?_ | refine blk_alloc ?_ _)); exact BK208.out⟩, ⟨by repeat (first | (with_reducible first | exact HB.out | apply below_alloc | apply pw_below_drewN | apply below_drew1 | refine below_set ?_ GE194.out | refine below_set ?_ GE208.out) | exact HB.out)⟩⟩
            · rw [if_neg c43] at H
              have c43b0 : decide (x209001_1 < 0) = false := decide_eq_false c43
              clear c43
              (first | rw [c43b0] | (simp only [i64_w, i32_w]; rw [c43b0]) | skip)
              have H' := Aside0.mk H
              clear H
              go_wp2
              go_meet
              case rel => exact ⟨_, (wrap64 (x209000_1 + t214)), (by first | rfl | (simp; done) | (simp [*]; done)), H', ⟨by have := HK1.out; first | omega | exact Nat.le_refl _⟩, ⟨by (with_reducible repeat (first | refine blk_drewN ?_ _ | refine blk_drew ?_ | refine blk_alloc ?_ _)); exact BK194.out⟩, ⟨by (with_reducible repeat (first | refine blk_drewN ?_ _ | refine blk_drew ?_ | refine blk_alloc ?_ _)); exact BK208.out⟩, ⟨by repeat (first | (with_reducible first | exact HB.out | apply below_alloc | apply pw_below_drewN | apply below_drew1 | refine below_set ?_ GE194.out | refine below_set ?_ GE208.out) | exact HB.out)⟩⟩
          case rest =>
            clear HC38
            try clear c1
            try clear c2
            try clear p2
            try clear c3
            try clear c4
            try clear p6
            try clear c13
            try clear c18
            try clear c23
            try clear c24
            try clear c25
            try clear c29
            try clear c29b0
            try clear c30
            try clear c31
            try clear c41
            try clear c43
            try clear c43b0
            try clear hcz32_0
            try clear hcz32_1
            try clear hcz32_2
            try clear hcz32_3
            try clear hcz33_0
            try clear hcz33_1
            try clear hcz33_2
            try clear hcz33_3
            try clear hcz35_0
            try clear hcz35_1
            try clear hcz35_2
            try clear hcz35_3
            try clear hcz42_0
            try clear hcz42_1
            try clear hcz42_2
            try clear hcz42_3
            try clear hfz32_0
            try clear hfz32_1
            try clear hfz32_2
            try clear hfz32_3
            try clear hfz33_0
            try clear hfz33_1
            try clear hfz33_2
            try clear hfz33_3
            try clear hfz35_0
            try clear hfz35_1
            try clear hfz35_2
            try clear hfz35_3
            try clear hfz42_0
            try clear hfz42_1
            try clear hfz42_2
            try clear hfz42_3
            try clear p2
            obtain ⟨kq, x9_37, rfl, HA, HJ37, BK194, BK208, HB⟩ := hcut
            cases kq with
            | zero => exact absurd HA.out (by simp [spykeep2_AxisStops.j1])
            | succ kj37 =>
              have H := HA.out
              clear HA
              simp only [spykeep2_AxisStops.j1] at H
              replace H := Option.bind_eq_some_iff.mp H
              obtain ⟨⟨t216, t217, t218, t219, t220⟩, A470, H⟩ := H
              replace H : ((axis_Run.f kj37 t189 t190 t191 t192 t216 t217 t218 t219 65).bind fun bt222 => (if t207 = 0 then (if t220 = 0 then (if bt222.2 = 0 then (if (bt222.1.length : Int) = 0 then (some false) else (if 0 ≤ (wrap64 ((bt222.1.length : Int) - 1)) then (if (wrap64 ((bt222.1.length : Int) - 1)) < (bt222.1.length : Int) then ((axis_Resting.f ((rd_T45 bt222.1 (wrap64 ((bt222.1.length : Int) - 1))).f0) ((rd_T45 bt222.1 (wrap64 ((bt222.1.length : Int) - 1))).f1) ((rd_T45 bt222.1 (wrap64 ((bt222.1.length : Int) - 1))).f2) ((rd_T45 bt222.1 (wrap64 ((bt222.1.length : Int) - 1))).f3)).bind fun t228 => (if t228 = true then (some (((rd_T45 bt222.1 (wrap64 ((bt222.1.length : Int) - 1))).f0) == x9_37)) else (some false))) else (none)) else (none))) else (some false)) else (some false)) else (some false))) = some r := H
              have A47 := Aside0.mk A470
              clear A470
              replace H := Option.bind_eq_some_iff.mp H
              obtain ⟨⟨t222, t225⟩, A480, H⟩ := H
              replace H : (if t207 = 0 then (if t220 = 0 then (if t225 = 0 then (if (t222.length : Int) = 0 then (some false) else (if 0 ≤ (wrap64 ((t222.length : Int) - 1)) then (if (wrap64 ((t222.length : Int) - 1)) < (t222.length : Int) then ((axis_Resting.f ((rd_T45 t222 (wrap64 ((t222.length : Int) - 1))).f0) ((rd_T45 t222 (wrap64 ((t222.length : Int) - 1))).f1) ((rd_T45 t222 (wrap64 ((t222.length : Int) - 1))).f2) ((rd_T45 t222 (wrap64 ((t222.length : Int) - 1))).f3)).bind fun t228 => (if t228 = true then (some (((rd_T45 t222 (wrap64 ((t222.length : Int) - 1))).f0) == x9_37)) else (some false))) else (none)) else (none))) else (some false)) else (some false)) else (some false)) = some r := H
              have A48 := Aside0.mk A480
              clear A480
              by_cases c49 : t207 = 0
              · rw [if_pos c49] at H
                have c49b0 : (t207 == 0) = true := beq_iff_eq.mpr c49
                have c49b1 : (t207 != 0) = false := bne_eq_false_iff_eq.mpr c49
                clear c49
                by_cases c50 : t220 = 0
                · rw [if_pos c50] at H
                  have c50b0 : (t220 == 0) = true := beq_iff_eq.mpr c50
                  have c50b1 : (t220 != 0) = false := bne_eq_false_iff_eq.mpr c50
                  clear c50
                  by_cases c51 : t225 = 0
                  · rw [if_pos c51] at H
                    have c51b0 : (t225 == 0) = true := beq_iff_eq.mpr c51
                    have c51b1 : (t225 != 0) = false := bne_eq_false_iff_eq.mpr c51
                    clear c51
                    by_cases c52 : (t222.length : Int) = 0
                    · rw [if_pos c52] at H
                      have c52b0 : ((t222.length : Int) == 0) = true := beq_iff_eq.mpr c52
                      have c52b1 : ((t222.length : Int) != 0) = false := bne_eq_false_iff_eq.mpr c52
                      clear c52
                      obtain rfl := Option.some.inj H
                      have hnb53 := NB194_208.out
                      have hnc53 := NB208_194.out
                      have hcz54_0 : wc.cell? ⟨gb194, 0, none⟩ = some (.int .i64 t189) := (blk_cell BK194.out 0).trans rfl
                      have hcz54_1 : wc.cell? ⟨gb194, 1, none⟩ = some (.int .i64 t190) := (blk_cell BK194.out 1).trans rfl
                      have hcz54_2 : wc.cell? ⟨gb194, 2, none⟩ = some (.int .i64 t191) := (blk_cell BK194.out 2).trans rfl
                      have hcz54_3 : wc.cell? ⟨gb194, 3, none⟩ = some (.int .i64 t192) := (blk_cell BK194.out 3).trans rfl
                      have hfz54_0 := blk_frozen BK194.out 0
                      have hfz54_1 := blk_frozen BK194.out 1
                      have hfz54_2 := blk_frozen BK194.out 2
                      have hfz54_3 := blk_frozen BK194.out 3
                      have hcz55_0 : wc.cell? ⟨gb208, 0, none⟩ = some (.int .i64 x209000_1) := (blk_cell BK208.out 0).trans rfl
                      have hcz55_1 : wc.cell? ⟨gb208, 1, none⟩ = some (.int .i64 x209001_1) := (blk_cell BK208.out 1).trans rfl
                      have hcz55_2 : wc.cell? ⟨gb208, 2, none⟩ = some (.int .i64 x209002_1) := (blk_cell BK208.out 2).trans rfl
                      have hcz55_3 : wc.cell? ⟨gb208, 3, none⟩ = some (.bool x209003_1) := (blk_cell BK208.out 3).trans rfl
                      have hfz55_0 := blk_frozen BK208.out 0
                      have hfz55_1 := blk_frozen BK208.out 1
                      have hfz55_2 := blk_frozen BK208.out 2
                      have hfz55_3 := blk_frozen BK208.out 3
                      go_wp2_with (first | ((with_reducible refine gate_callee (f := 26) rfl ?_); refine goesL_ (some 62) rfl rfl Try.func26 (by kernel_rfl) rfl #[.agg #[.int .i64 t189, .int .i64 t190, .int .i64 t191, .int .i64 t192], .agg #[.int .i64 x209000_1, .int .i64 x209001_1, .int .i64 x209002_1, .bool x209003_1]] rfl (by (try simp only [List.map_toArray, List.map_cons, List.map_nil]); first | done | rfl | (simp only [List.length_drop, List.length_take]; rfl)) ?_; (with_reducible refine (axis_Brake.calls kj37 t189 t190 t191 t192 x209000_1 x209001_1 x209002_1 x209003_1 t216 t217 t218 t219 t220 _ A47.out).mono ?_); rintro e w56 ⟨rfl, hb⟩; refine ⟨_, rfl, ?_⟩; have n0_ := Aside0.mk (blk_below (g := gb194) (o := .cells #[.int .i64 t189, .int .i64 t190, .int .i64 t191, .int .i64 t192] 28 (0, 0)) (by (with_reducible repeat (first | refine blk_drewN ?_ _ | refine blk_drew ?_ | refine blk_alloc ?_ _)); exact BK194.out) hb); have n1_ := Aside0.mk (blk_below (g := gb208) (o := .cells #[.int .i64 x209000_1, .int .i64 x209001_1, .int .i64 x209002_1, .bool x209003_1] 45 (0, 0)) (by (with_reducible repeat (first | refine blk_drewN ?_ _ | refine blk_drew ?_ | refine blk_alloc ?_ _)); exact BK208.out) hb); have n2_ := Aside0.mk (below_step (by repeat (first | (with_reducible first | exact HB.out | apply below_alloc | apply pw_below_drewN | apply below_drew1 | refine below_set ?_ GE194.out | refine below_set ?_ GE208.out) | exact HB.out)) hb); clear BK194; clear BK208; clear HB; have BK194 := n0_; have BK208 := n1_; have HB := n2_; clear n0_ n1_ n2_; (try clear hb); (try clear hb2); (try clear hk); (try clear hi)) | ((with_reducible refine gate_dst (N := 10) rfl ?_); (try (refine gate_guard (by rfl) ?_; dsimp only)); refine box_event ?hg (N := 10) ?hd (cs := #[.int .i64 0, .int .i64 0, .int .i64 0, .bool false]) (t := 45) ?hr ?_; (case hd => rfl); (case hg => rfl); (case hr => first | (go_simp; done) | (go_simp; rfl)); intro gb221 hg w57 hbox hb; have n0_ := Aside0.mk (blk_below (g := gb194) (o := .cells #[.int .i64 t189, .int .i64 t190, .int .i64 t191, .int .i64 t192] 28 (0, 0)) (by (with_reducible repeat (first | refine blk_drewN ?_ _ | refine blk_drew ?_ | refine blk_alloc ?_ _)); exact BK194.out) hb); have n1_ := Aside0.mk (blk_below (g := gb208) (o := .cells #[.int .i64 x209000_1, .int .i64 x209001_1, .int .i64 x209002_1, .bool x209003_1] 45 (0, 0)) (by (with_reducible repeat (first | refine blk_drewN ?_ _ | refine blk_drew ?_ | refine blk_alloc ?_ _)); exact BK208.out) hb); have n2_ := Aside0.mk (below_step (by repeat (first | (with_reducible first | exact HB.out | apply below_alloc | apply pw_below_drewN | apply below_drew1 | refine below_set ?_ GE194.out | refine below_set ?_ GE208.out) | exact HB.out)) hb); have n3_ := Aside0.mk (hbox); have n4_ := Aside0.mk ((by rw [hg]; exact (below_size (by repeat (first | (with_reducible first | exact HB.out | apply below_alloc | apply pw_below_drewN | apply below_drew1 | refine below_set ?_ GE194.out | refine below_set ?_ GE208.out) | exact HB.out))) : w.heap.size ≤ gb221)); have n5_ := Aside0.mk ((by rw [hg]; exact (below_size (by repeat (first | (with_reducible first | exact HB.out | apply below_alloc | apply pw_below_drewN | apply below_drew1 | refine below_set ?_ GE194.out | refine below_set ?_ GE208.out) | exact HB.out))) : w.heap.size ≤ gb221)); have n6_ := Aside0.mk ((by rw [hg]; exact Nat.ne_of_lt (blk_lt (g := gb194) (o := .cells #[.int .i64 t189, .int .i64 t190, .int .i64 t191, .int .i64 t192] 28 (0, 0)) (by (with_reducible repeat (first | refine blk_drewN ?_ _ | refine blk_drew ?_ | refine blk_alloc ?_ _)); exact BK194.out)) : gb194 ≠ gb221)); have n7_ := Aside0.mk ((by rw [hg]; exact Nat.ne_of_gt (blk_lt (g := gb194) (o := .cells #[.int .i64 t189, .int .i64 t190, .int .i64 t191, .int .i64 t192] 28 (0, 0)) (by (with_reducible repeat (first | refine blk_drewN ?_ _ | refine blk_drew ?_ | refine blk_alloc ?_ _)); exact BK194.out)) : gb221 ≠ gb194)); have n8_ := Aside0.mk ((by rw [hg]; exact Nat.ne_of_lt (blk_lt (g := gb208) (o := .cells #[.int .i64 x209000_1, .int .i64 x209001_1, .int .i64 x209002_1, .bool x209003_1] 45 (0, 0)) (by (with_reducible repeat (first | refine blk_drewN ?_ _ | refine blk_drew ?_ | refine blk_alloc ?_ _)); exact BK208.out)) : gb208 ≠ gb221)); have n9_ := Aside0.mk ((by rw [hg]; exact Nat.ne_of_gt (blk_lt (g := gb208) (o := .cells #[.int .i64 x209000_1, .int .i64 x209001_1, .int .i64 x209002_1, .bool x209003_1] 45 (0, 0)) (by (with_reducible repeat (first | refine blk_drewN ?_ _ | refine blk_drew ?_ | refine blk_alloc ?_ _)); exact BK208.out)) : gb221 ≠ gb208)); clear BK194; clear BK208; clear HB; have BK194 := n0_; have BK208 := n1_; have HB := n2_; have BK221 := n3_; have GW221 := n4_; have GE221 := n5_; have NB194_221 := n6_; have NB221_194 := n7_; have NB208_221 := n8_; have NB221_208 := n9_; clear n0_ n1_ n2_ n3_ n4_ n5_ n6_ n7_ n8_ n9_; clear hb hbox hg; have hnb58 := NB221_194.out; have hnc58 := NB194_221.out; have hnb59 := NB221_208.out; have hnc59 := NB208_221.out; have hcz60_0 : w57.cell? ⟨gb221, 0, none⟩ = some (.int .i64 0) := (blk_cell BK221.out 0).trans rfl; have hcz60_1 : w57.cell? ⟨gb221, 1, none⟩ = some (.int .i64 0) := (blk_cell BK221.out 1).trans rfl; have hcz60_2 : w57.cell? ⟨gb221, 2, none⟩ = some (.int .i64 0) := (blk_cell BK221.out 2).trans rfl; have hcz60_3 : w57.cell? ⟨gb221, 3, none⟩ = some (.bool false) := (blk_cell BK221.out 3).trans rfl; have hfz60_0 := blk_frozen BK221.out 0; have hfz60_1 := blk_frozen BK221.out 1; have hfz60_2 := blk_frozen BK221.out 2; have hfz60_3 := blk_frozen BK221.out 3) | ((with_reducible refine gate_store (t := 45) (p := 10) rfl ?_); refine store_event (t := 45) (p := 10) (v := ?vo_w61) (w1 := ((((w57.setCell ⟨gb221, 0, none⟩ (.int .i64 t216)).setCell ⟨gb221, 1, none⟩ (.int .i64 t217)).setCell ⟨gb221, 2, none⟩ (.int .i64 t218)).setCell ⟨gb221, 3, none⟩ (.bool t219))) ?hg ?ho ?hn ?hr ?_; (case ho => rfl); (case hg => rfl); (case hn => rfl); (case hr => first | (go_simp; done) | (go_simp; rfl)); intro w61 hw; have n0_ : Aside0 (w61.heap[gb194]? = some (.cells #[.int .i64 t189, .int .i64 t190, .int .i64 t191, .int .i64 t192] 28 (0, 0))) := ⟨(by rw [hw]; exact (by (with_reducible repeat (first | refine blk_drewN ?_ _ | refine blk_drew ?_ | refine blk_alloc ?_ _)); refine blk_far ?_ NB194_221.out _; (with_reducible repeat (first | refine blk_drewN ?_ _ | refine blk_drew ?_ | refine blk_alloc ?_ _)); refine blk_far ?_ NB194_221.out _; (with_reducible repeat (first | refine blk_drewN ?_ _ | refine blk_drew ?_ | refine blk_alloc ?_ _)); refine blk_far ?_ NB194_221.out _; (with_reducible repeat (first | refine blk_drewN ?_ _ | refine blk_drew ?_ | refine blk_alloc ?_ _)); refine blk_far ?_ NB194_221.out _; (with_reducible repeat (first | refine blk_drewN ?_ _ | refine blk_drew ?_ | refine blk_alloc ?_ _)); exact BK194.out))⟩; have n1_ : Aside0 (w61.heap[gb208]? = some (.cells #[.int .i64 x209000_1, .int .i64 x209001_1, .int .i64 x209002_1, .bool x209003_1] 45 (0, 0))) := ⟨(by rw [hw]; exact (by (with_reducible repeat (first | refine blk_drewN ?_ _ | refine blk_drew ?_ | refine blk_alloc ?_ _)); refine blk_far ?_ NB208_221.out _; (with_reducible repeat (first | refine blk_drewN ?_ _ | refine blk_drew ?_ | refine blk_alloc ?_ _)); refine blk_far ?_ NB208_221.out _; (with_reducible repeat (first | refine blk_drewN ?_ _ | refine blk_drew ?_ | refine blk_alloc ?_ _)); refine blk_far ?_ NB208_221.out _; (with_reducible repeat (first | refine blk_drewN ?_ _ | refine blk_drew ?_ | refine blk_alloc ?_ _)); refine blk_far ?_ NB208_221.out _; (with_reducible repeat (first | refine blk_drewN ?_ _ | refine blk_drew ?_ | refine blk_alloc ?_ _)); exact BK208.out))⟩; have n2_ : Aside0 (w61.heap[gb221]? = some (.cells #[.int .i64 t216, .int .i64 t217, .int .i64 t218, .bool t219] 45 (0, 0))) := ⟨(by rw [hw]; exact (by (with_reducible repeat (first | refine blk_drewN ?_ _ | refine blk_drew ?_ | refine blk_alloc ?_ _)); refine blk_put (cs := #[.int .i64 t216, .int .i64 t217, .int .i64 t218, .bool false]) ?_ 3 _ rfl; (with_reducible repeat (first | refine blk_drewN ?_ _ | refine blk_drew ?_ | refine blk_alloc ?_ _)); refine blk_put (cs := #[.int .i64 t216, .int .i64 t217, .int .i64 0, .bool false]) ?_ 2 _ rfl; (with_reducible repeat (first | refine blk_drewN ?_ _ | refine blk_drew ?_ | refine blk_alloc ?_ _)); refine blk_put (cs := #[.int .i64 t216, .int .i64 0, .int .i64 0, .bool false]) ?_ 1 _ rfl; (with_reducible repeat (first | refine blk_drewN ?_ _ | refine blk_drew ?_ | refine blk_alloc ?_ _)); refine blk_put (cs := #[.int .i64 0, .int .i64 0, .int .i64 0, .bool false]) ?_ 0 _ rfl; (with_reducible repeat (first | refine blk_drewN ?_ _ | refine blk_drew ?_ | refine blk_alloc ?_ _)); exact BK221.out))⟩; have n3_ : Aside0 (Below w.heap.size w w61) := ⟨(by rw [hw]; exact (by repeat (first | (with_reducible first | exact HB.out | apply below_alloc | apply pw_below_drewN | apply below_drew1 | refine below_set ?_ GE194.out | refine below_set ?_ GE208.out | refine below_set ?_ GE221.out) | exact HB.out)))⟩; clear hw; clear BK194; clear BK208; clear BK221; clear HB; have BK194 := n0_; have BK208 := n1_; have BK221 := n2_; have HB := n3_; clear n0_ n1_ n2_ n3_; have hcz62_0 : w61.cell? ⟨gb194, 0, none⟩ = some (.int .i64 t189) := (blk_cell BK194.out 0).trans rfl; have hcz62_1 : w61.cell? ⟨gb194, 1, none⟩ = some (.int .i64 t190) := (blk_cell BK194.out 1).trans rfl; have hcz62_2 : w61.cell? ⟨gb194, 2, none⟩ = some (.int .i64 t191) := (blk_cell BK194.out 2).trans rfl; have hcz62_3 : w61.cell? ⟨gb194, 3, none⟩ = some (.int .i64 t192) := (blk_cell BK194.out 3).trans rfl; have hfz62_0 := blk_frozen BK194.out 0; have hfz62_1 := blk_frozen BK194.out 1; have hfz62_2 := blk_frozen BK194.out 2; have hfz62_3 := blk_frozen BK194.out 3; have hcz63_0 : w61.cell? ⟨gb221, 0, none⟩ = some (.int .i64 t216) := (blk_cell BK221.out 0).trans rfl; have hcz63_1 : w61.cell? ⟨gb221, 1, none⟩ = some (.int .i64 t217) := (blk_cell BK221.out 1).trans rfl; have hcz63_2 : w61.cell? ⟨gb221, 2, none⟩ = some (.int .i64 t218) := (blk_cell BK221.out 2).trans rfl; have hcz63_3 : w61.cell? ⟨gb221, 3, none⟩ = some (.bool t219) := (blk_cell BK221.out 3).trans rfl; have hfz63_0 := blk_frozen BK221.out 0; have hfz63_1 := blk_frozen BK221.out 1; have hfz63_2 := blk_frozen BK221.out 2; have hfz63_3 := blk_frozen BK221.out 3) | ((with_reducible refine gate_callee (f := 31) rfl ?_); refine goesL_ (some 68) rfl rfl Try.func31 (by kernel_rfl) rfl #[.agg #[.int .i64 t189, .int .i64 t190, .int .i64 t191, .int .i64 t192], .agg #[.int .i64 t216, .int .i64 t217, .int .i64 t218, .bool t219], .int .i64 65] rfl (by (try simp only [List.map_toArray, List.map_cons, List.map_nil]); first | done | rfl | (simp only [List.length_drop, List.length_take]; rfl)) ?_; (with_reducible refine (axis_Run.calls kj37 t189 t190 t191 t192 t216 t217 t218 t219 65 t222 t225 _ A48.out).mono ?_); rintro e w64 ⟨v223, rfl, ho0, hb⟩; refine ⟨_, rfl, ?_⟩; have n0_ := Aside0.mk (Kd.R_lower (Kd.R_newB (Kd.R_newB ho0 (g := gb208) (o := .cells #[.int .i64 x209000_1, .int .i64 x209001_1, .int .i64 x209002_1, .bool x209003_1] 45 (0, 0)) (by (with_reducible repeat (first | refine blk_drewN ?_ _ | refine blk_drew ?_ | refine blk_alloc ?_ _)); exact BK208.out)) (g := gb221) (o := .cells #[.int .i64 t216, .int .i64 t217, .int .i64 t218, .bool t219] 45 (0, 0)) (by (with_reducible repeat (first | refine blk_drewN ?_ _ | refine blk_drew ?_ | refine blk_alloc ?_ _)); exact BK221.out)) (below_size (by repeat (first | (with_reducible first | exact HB.out | apply below_alloc | apply pw_below_drewN | apply below_drew1 | refine below_set ?_ GE194.out | refine below_set ?_ GE208.out | refine below_set ?_ GE221.out) | exact HB.out)))); have n1_ := Aside0.mk (blk_below (g := gb194) (o := .cells #[.int .i64 t189, .int .i64 t190, .int .i64 t191, .int .i64 t192] 28 (0, 0)) (by (with_reducible repeat (first | refine blk_drewN ?_ _ | refine blk_drew ?_ | refine blk_alloc ?_ _)); exact BK194.out) hb); have n2_ := Aside0.mk (blk_below (g := gb208) (o := .cells #[.int .i64 x209000_1, .int .i64 x209001_1, .int .i64 x209002_1, .bool x209003_1] 45 (0, 0)) (by (with_reducible repeat (first | refine blk_drewN ?_ _ | refine blk_drew ?_ | refine blk_alloc ?_ _)); exact BK208.out) hb); have n3_ := Aside0.mk (blk_below (g := gb221) (o := .cells #[.int .i64 t216, .int .i64 t217, .int .i64 t218, .bool t219] 45 (0, 0)) (by (with_reducible repeat (first | refine blk_drewN ?_ _ | refine blk_drew ?_ | refine blk_alloc ?_ _)); exact BK221.out) hb); have n4_ := Aside0.mk (below_step (by repeat (first | (with_reducible first | exact HB.out | apply below_alloc | apply pw_below_drewN | apply below_drew1 | refine below_set ?_ GE194.out | refine below_set ?_ GE208.out | refine below_set ?_ GE221.out) | exact HB.out)) hb); clear BK194; clear BK208; clear BK221; clear HB; have HO224 := n0_; have BK194 := n1_; have BK208 := n2_; have BK221 := n3_; have HB := n4_; clear n0_ n1_ n2_ n3_ n4_; (try clear hb); (try clear hb2); (try clear hk); (try clear hi); (try clear ho0); obtain ⟨Ao65, co65, eo65⟩ := Kd.R_slice HO224.out; subst eo65))
                      go_ret
                      exact ⟨by first | rfl | (simp [errW_none, errW_some] <;> rfl) | (simp [*, errW_none, errW_some] <;> rfl), by repeat (first | (with_reducible first | exact HB.out | apply below_alloc | apply pw_below_drewN | apply below_drew1 | refine below_set ?_ GE194.out | refine below_set ?_ GE208.out | refine below_set ?_ GE221.out) | exact HB.out)⟩
                    · rw [if_neg c52] at H
                      have c52b0 : ((t222.length : Int) == 0) = false := beq_eq_false_iff_ne.mpr c52
                      have c52b1 : ((t222.length : Int) != 0) = true := bne_iff_ne.mpr c52
                      have c52b2 : ¬ (t222 = []) := fun h_ => c52 (by rw [h_]; rfl)
                      obtain ⟨ji66, hji66⟩ : ∃ j_ : Int, (wrap64 ((t222.length : Int) - 1)) = j_ := ⟨_, rfl⟩
                      replace H : (if 0 ≤ (ji66) then (if (ji66) < (t222.length : Int) then ((axis_Resting.f ((rd_T45 t222 (ji66)).f0) ((rd_T45 t222 (ji66)).f1) ((rd_T45 t222 (ji66)).f2) ((rd_T45 t222 (ji66)).f3)).bind fun t228 => (if t228 = true then (some (((rd_T45 t222 (ji66)).f0) == x9_37)) else (some false))) else (none)) else (none)) = some r := by first | (rw [hji66] at H; exact H) | (simp only [hji66] at H ⊢; exact H)
                      (try rw [hji66] at A47)
                      (try rw [hji66] at A48)
                      have hji66w : (IntKind.i64.wrap ((t222.length : Int) - 1)) = ji66 := (i64_w _).trans hji66
                      by_cases c67 : 0 ≤ (ji66)
                      · rw [if_pos c67] at H
                        have c67b0 : decide (0 ≤ (ji66)) = true := decide_eq_true c67
                        clear c67
                        by_cases c68 : (ji66) < (t222.length : Int)
                        · rw [if_pos c68] at H
                          have c68b0 : decide ((ji66) < (t222.length : Int)) = true := decide_eq_true c68
                          clear c68
                          replace H := Option.bind_eq_some_iff.mp H
                          obtain ⟨t228, A690, H⟩ := H
                          replace H : (if t228 = true then (some (((rd_T45 t222 (ji66)).f0) == x9_37)) else (some false)) = some r := H
                          have A69 := Aside0.mk A690
                          clear A690
                          by_cases c70 : t228 = true
                          · subst c70
                            have H1 : (some (((rd_T45 t222 (ji66)).f0) == x9_37)) = some r := by rw [if_pos rfl] at H; exact H
                            clear H
                            have H := H1
                            clear H1
                            obtain rfl := Option.some.inj H
                            have hnb71 := NB194_208.out
                            have hnc71 := NB208_194.out
                            have hcz72_0 : wc.cell? ⟨gb194, 0, none⟩ = some (.int .i64 t189) := (blk_cell BK194.out 0).trans rfl
                            have hcz72_1 : wc.cell? ⟨gb194, 1, none⟩ = some (.int .i64 t190) := (blk_cell BK194.out 1).trans rfl
                            have hcz72_2 : wc.cell? ⟨gb194, 2, none⟩ = some (.int .i64 t191) := (blk_cell BK194.out 2).trans rfl
                            have hcz72_3 : wc.cell? ⟨gb194, 3, none⟩ = some (.int .i64 t192) := (blk_cell BK194.out 3).trans rfl
                            have hfz72_0 := blk_frozen BK194.out 0
                            have hfz72_1 := blk_frozen BK194.out 1
                            have hfz72_2 := blk_frozen BK194.out 2
                            have hfz72_3 := blk_frozen BK194.out 3
                            have hcz73_0 : wc.cell? ⟨gb208, 0, none⟩ = some (.int .i64 x209000_1) := (blk_cell BK208.out 0).trans rfl
                            have hcz73_1 : wc.cell? ⟨gb208, 1, none⟩ = some (.int .i64 x209001_1) := (blk_cell BK208.out 1).trans rfl
                            have hcz73_2 : wc.cell? ⟨gb208, 2, none⟩ = some (.int .i64 x209002_1) := (blk_cell BK208.out 2).trans rfl
                            have hcz73_3 : wc.cell? ⟨gb208, 3, none⟩ = some (.bool x209003_1) := (blk_cell BK208.out 3).trans rfl
                            have hfz73_0 := blk_frozen BK208.out 0
                            have hfz73_1 := blk_frozen BK208.out 1
                            have hfz73_2 := blk_frozen BK208.out 2
                            have hfz73_3 := blk_frozen BK208.out 3
                            go_wp2_with (first | ((with_reducible refine gate_callee (f := 26) rfl ?_); refine goesL_ (some 62) rfl rfl Try.func26 (by kernel_rfl) rfl #[.agg #[.int .i64 t189, .int .i64 t190, .int .i64 t191, .int .i64 t192], .agg #[.int .i64 x209000_1, .int .i64 x209001_1, .int .i64 x209002_1, .bool x209003_1]] rfl (by (try simp only [List.map_toArray, List.map_cons, List.map_nil]); first | done | rfl | (simp only [List.length_drop, List.length_take]; rfl)) ?_; (with_reducible refine (axis_Brake.calls kj37 t189 t190 t191 t192 x209000_1 x209001_1 x209002_1 x209003_1 t216 t217 t218 t219 t220 _ A47.out).mono ?_); rintro e w74 ⟨rfl, hb⟩; refine ⟨_, rfl, ?_⟩; have n0_ := Aside0.mk (blk_below (g := gb194) (o := .cells #[.int .i64 t189, .int .i64 t190, .int .i64 t191, .int .i64 t192] 28 (0, 0)) (by (with_reducible repeat (first | refine blk_drewN ?_ _ | refine blk_drew ?_ | refine blk_alloc ?_ _)); exact BK194.out) hb); have n1_ := Aside0.mk (blk_below (g := gb208) (o := .cells #[.int .i64 x209000_1, .int .i64 x209001_1, .int .i64 x209002_1, .bool x209003_1] 45 (0, 0)) (by (with_reducible repeat (first | refine blk_drewN ?_ _ | refine blk_drew ?_ | refine blk_alloc ?_ _)); exact BK208.out) hb); have n2_ := Aside0.mk (below_step (by repeat (first | (with_reducible first | exact HB.out | apply below_alloc | apply pw_below_drewN | apply below_drew1 | refine below_set ?_ GE194.out | refine below_set ?_ GE208.out) | exact HB.out)) hb); clear BK194; clear BK208; clear HB; have BK194 := n0_; have BK208 := n1_; have HB := n2_; clear n0_ n1_ n2_; (try clear hb); (try clear hb2); (try clear hk); (try clear hi)) | ((with_reducible refine gate_dst (N := 10) rfl ?_); (try (refine gate_guard (by rfl) ?_; dsimp only)); refine box_event ?hg (N := 10) ?hd (cs := #[.int .i64 0, .int .i64 0, .int .i64 0, .bool false]) (t := 45) ?hr ?_; (case hd => rfl); (case hg => rfl); (case hr => first | (go_simp; done) | (go_simp; rfl)); intro gb221 hg w75 hbox hb; have n0_ := Aside0.mk (blk_below (g := gb194) (o := .cells #[.int .i64 t189, .int .i64 t190, .int .i64 t191, .int .i64 t192] 28 (0, 0)) (by (with_reducible repeat (first | refine blk_drewN ?_ _ | refine blk_drew ?_ | refine blk_alloc ?_ _)); exact BK194.out) hb); have n1_ := Aside0.mk (blk_below (g := gb208) (o := .cells #[.int .i64 x209000_1, .int .i64 x209001_1, .int .i64 x209002_1, .bool x209003_1] 45 (0, 0)) (by (with_reducible repeat (first | refine blk_drewN ?_ _ | refine blk_drew ?_ | refine blk_alloc ?_ _)); exact BK208.out) hb); have n2_ := Aside0.mk (below_step (by repeat (first | (with_reducible first | exact HB.out | apply below_alloc | apply pw_below_drewN | apply below_drew1 | refine below_set ?_ GE194.out | refine below_set ?_ GE208.out) | exact HB.out)) hb); have n3_ := Aside0.mk (hbox); have n4_ := Aside0.mk ((by rw [hg]; exact (below_size (by repeat (first | (with_reducible first | exact HB.out | apply below_alloc | apply pw_below_drewN | apply below_drew1 | refine below_set ?_ GE194.out | refine below_set ?_ GE208.out) | exact HB.out))) : w.heap.size ≤ gb221)); have n5_ := Aside0.mk ((by rw [hg]; exact (below_size (by repeat (first | (with_reducible first | exact HB.out | apply below_alloc | apply pw_below_drewN | apply below_drew1 | refine below_set ?_ GE194.out | refine below_set ?_ GE208.out) | exact HB.out))) : w.heap.size ≤ gb221)); have n6_ := Aside0.mk ((by rw [hg]; exact Nat.ne_of_lt (blk_lt (g := gb194) (o := .cells #[.int .i64 t189, .int .i64 t190, .int .i64 t191, .int .i64 t192] 28 (0, 0)) (by (with_reducible repeat (first | refine blk_drewN ?_ _ | refine blk_drew ?_ | refine blk_alloc ?_ _)); exact BK194.out)) : gb194 ≠ gb221)); have n7_ := Aside0.mk ((by rw [hg]; exact Nat.ne_of_gt (blk_lt (g := gb194) (o := .cells #[.int .i64 t189, .int .i64 t190, .int .i64 t191, .int .i64 t192] 28 (0, 0)) (by (with_reducible repeat (first | refine blk_drewN ?_ _ | refine blk_drew ?_ | refine blk_alloc ?_ _)); exact BK194.out)) : gb221 ≠ gb194)); have n8_ := Aside0.mk ((by rw [hg]; exact Nat.ne_of_lt (blk_lt (g := gb208) (o := .cells #[.int .i64 x209000_1, .int .i64 x209001_1, .int .i64 x209002_1, .bool x209003_1] 45 (0, 0)) (by (with_reducible repeat (first | refine blk_drewN ?_ _ | refine blk_drew ?_ | refine blk_alloc ?_ _)); exact BK208.out)) : gb208 ≠ gb221)); have n9_ := Aside0.mk ((by rw [hg]; exact Nat.ne_of_gt (blk_lt (g := gb208) (o := .cells #[.int .i64 x209000_1, .int .i64 x209001_1, .int .i64 x209002_1, .bool x209003_1] 45 (0, 0)) (by (with_reducible repeat (first | refine blk_drewN ?_ _ | refine blk_drew ?_ | refine blk_alloc ?_ _)); exact BK208.out)) : gb221 ≠ gb208)); clear BK194; clear BK208; clear HB; have BK194 := n0_; have BK208 := n1_; have HB := n2_; have BK221 := n3_; have GW221 := n4_; have GE221 := n5_; have NB194_221 := n6_; have NB221_194 := n7_; have NB208_221 := n8_; have NB221_208 := n9_; clear n0_ n1_ n2_ n3_ n4_ n5_ n6_ n7_ n8_ n9_; clear hb hbox hg; have hnb76 := NB221_194.out; have hnc76 := NB194_221.out; have hnb77 := NB221_208.out; have hnc77 := NB208_221.out; have hcz78_0 : w75.cell? ⟨gb221, 0, none⟩ = some (.int .i64 0) := (blk_cell BK221.out 0).trans rfl; have hcz78_1 : w75.cell? ⟨gb221, 1, none⟩ = some (.int .i64 0) := (blk_cell BK221.out 1).trans rfl; have hcz78_2 : w75.cell? ⟨gb221, 2, none⟩ = some (.int .i64 0) := (blk_cell BK221.out 2).trans rfl; have hcz78_3 : w75.cell? ⟨gb221, 3, none⟩ = some (.bool false) := (blk_cell BK221.out 3).trans rfl; have hfz78_0 := blk_frozen BK221.out 0; have hfz78_1 := blk_frozen BK221.out 1; have hfz78_2 := blk_frozen BK221.out 2; have hfz78_3 := blk_frozen BK221.out 3) | ((with_reducible refine gate_store (t := 45) (p := 10) rfl ?_); refine store_event (t := 45) (p := 10) (v := ?vo_w79) (w1 := ((((w75.setCell ⟨gb221, 0, none⟩ (.int .i64 t216)).setCell ⟨gb221, 1, none⟩ (.int .i64 t217)).setCell ⟨gb221, 2, none⟩ (.int .i64 t218)).setCell ⟨gb221, 3, none⟩ (.bool t219))) ?hg ?ho ?hn ?hr ?_; (case ho => rfl); (case hg => rfl); (case hn => rfl); (case hr => first | (go_simp; done) | (go_simp; rfl)); intro w79 hw; have n0_ : Aside0 (w79.heap[gb194]? = some (.cells #[.int .i64 t189, .int .i64 t190, .int .i64 t191, .int .i64 t192] 28 (0, 0))) := ⟨(by rw [hw]; exact (by (with_reducible repeat (first | refine blk_drewN ?_ _ | refine blk_drew ?_ | refine blk_alloc ?_ _)); refine blk_far ?_ NB194_221.out _; (with_reducible repeat (first | refine blk_drewN ?_ _ | refine blk_drew ?_ | refine blk_alloc ?_ _)); refine blk_far ?_ NB194_221.out _; (with_reducible repeat (first | refine blk_drewN ?_ _ | refine blk_drew ?_ | refine blk_alloc ?_ _)); refine blk_far ?_ NB194_221.out _; (with_reducible repeat (first | refine blk_drewN ?_ _ | refine blk_drew ?_ | refine blk_alloc ?_ _)); refine blk_far ?_ NB194_221.out _; (with_reducible repeat (first | refine blk_drewN ?_ _ | refine blk_drew ?_ | refine blk_alloc ?_ _)); exact BK194.out))⟩; have n1_ : Aside0 (w79.heap[gb208]? = some (.cells #[.int .i64 x209000_1, .int .i64 x209001_1, .int .i64 x209002_1, .bool x209003_1] 45 (0, 0))) := ⟨(by rw [hw]; exact (by (with_reducible repeat (first | refine blk_drewN ?_ _ | refine blk_drew ?_ | refine blk_alloc ?_ _)); refine blk_far ?_ NB208_221.out _; (with_reducible repeat (first | refine blk_drewN ?_ _ | refine blk_drew ?_ | refine blk_alloc ?_ _)); refine blk_far ?_ NB208_221.out _; (with_reducible repeat (first | refine blk_drewN ?_ _ | refine blk_drew ?_ | refine blk_alloc ?_ _)); refine blk_far ?_ NB208_221.out _; (with_reducible repeat (first | refine blk_drewN ?_ _ | refine blk_drew ?_ | refine blk_alloc ?_ _)); refine blk_far ?_ NB208_221.out _; (with_reducible repeat (first | refine blk_drewN ?_ _ | refine blk_drew ?_ | refine blk_alloc ?_ _)); exact BK208.out))⟩; have n2_ : Aside0 (w79.heap[gb221]? = some (.cells #[.int .i64 t216, .int .i64 t217, .int .i64 t218, .bool t219] 45 (0, 0))) := ⟨(by rw [hw]; exact (by (with_reducible repeat (first | refine blk_drewN ?_ _ | refine blk_drew ?_ | refine blk_alloc ?_ _)); refine blk_put (cs := #[.int .i64 t216, .int .i64 t217, .int .i64 t218, .bool false]) ?_ 3 _ rfl; (with_reducible repeat (first | refine blk_drewN ?_ _ | refine blk_drew ?_ | refine blk_alloc ?_ _)); refine blk_put (cs := #[.int .i64 t216, .int .i64 t217, .int .i64 0, .bool false]) ?_ 2 _ rfl; (with_reducible repeat (first | refine blk_drewN ?_ _ | refine blk_drew ?_ | refine blk_alloc ?_ _)); refine blk_put (cs := #[.int .i64 t216, .int .i64 0, .int .i64 0, .bool false]) ?_ 1 _ rfl; (with_reducible repeat (first | refine blk_drewN ?_ _ | refine blk_drew ?_ | refine blk_alloc ?_ _)); refine blk_put (cs := #[.int .i64 0, .int .i64 0, .int .i64 0, .bool false]) ?_ 0 _ rfl; (with_reducible repeat (first | refine blk_drewN ?_ _ | refine blk_drew ?_ | refine blk_alloc ?_ _)); exact BK221.out))⟩; have n3_ : Aside0 (Below w.heap.size w w79) := ⟨(by rw [hw]; exact (by repeat (first | (with_reducible first | exact HB.out | apply below_alloc | apply pw_below_drewN | apply below_drew1 | refine below_set ?_ GE194.out | refine below_set ?_ GE208.out | refine below_set ?_ GE221.out) | exact HB.out)))⟩; clear hw; clear BK194; clear BK208; clear BK221; clear HB; have BK194 := n0_; have BK208 := n1_; have BK221 := n2_; have HB := n3_; clear n0_ n1_ n2_ n3_; have hcz80_0 : w79.cell? ⟨gb194, 0, none⟩ = some (.int .i64 t189) := (blk_cell BK194.out 0).trans rfl; have hcz80_1 : w79.cell? ⟨gb194, 1, none⟩ = some (.int .i64 t190) := (blk_cell BK194.out 1).trans rfl; have hcz80_2 : w79.cell? ⟨gb194, 2, none⟩ = some (.int .i64 t191) := (blk_cell BK194.out 2).trans rfl; have hcz80_3 : w79.cell? ⟨gb194, 3, none⟩ = some (.int .i64 t192) := (blk_cell BK194.out 3).trans rfl; have hfz80_0 := blk_frozen BK194.out 0; have hfz80_1 := blk_frozen BK194.out 1; have hfz80_2 := blk_frozen BK194.out 2; have hfz80_3 := blk_frozen BK194.out 3; have hcz81_0 : w79.cell? ⟨gb221, 0, none⟩ = some (.int .i64 t216) := (blk_cell BK221.out 0).trans rfl; have hcz81_1 : w79.cell? ⟨gb221, 1, none⟩ = some (.int .i64 t217) := (blk_cell BK221.out 1).trans rfl; have hcz81_2 : w79.cell? ⟨gb221, 2, none⟩ = some (.int .i64 t218) := (blk_cell BK221.out 2).trans rfl; have hcz81_3 : w79.cell? ⟨gb221, 3, none⟩ = some (.bool t219) := (blk_cell BK221.out 3).trans rfl; have hfz81_0 := blk_frozen BK221.out 0; have hfz81_1 := blk_frozen BK221.out 1; have hfz81_2 := blk_frozen BK221.out 2; have hfz81_3 := blk_frozen BK221.out 3) | ((with_reducible refine gate_callee (f := 31) rfl ?_); refine goesL_ (some 68) rfl rfl Try.func31 (by kernel_rfl) rfl #[.agg #[.int .i64 t189, .int .i64 t190, .int .i64 t191, .int .i64 t192], .agg #[.int .i64 t216, .int .i64 t217, .int .i64 t218, .bool t219], .int .i64 65] rfl (by (try simp only [List.map_toArray, List.map_cons, List.map_nil]); first | done | rfl | (simp only [List.length_drop, List.length_take]; rfl)) ?_; (with_reducible refine (axis_Run.calls kj37 t189 t190 t191 t192 t216 t217 t218 t219 65 t222 t225 _ A48.out).mono ?_); rintro e w82 ⟨v223, rfl, ho0, hb⟩; refine ⟨_, rfl, ?_⟩; have n0_ := Aside0.mk (Kd.R_lower (Kd.R_newB (Kd.R_newB ho0 (g := gb208) (o := .cells #[.int .i64 x209000_1, .int .i64 x209001_1, .int .i64 x209002_1, .bool x209003_1] 45 (0, 0)) (by (with_reducible repeat (first | refine blk_drewN ?_ _ | refine blk_drew ?_ | refine blk_alloc ?_ _)); exact BK208.out)) (g := gb221) (o := .cells #[.int .i64 t216, .int .i64 t217, .int .i64 t218, .bool t219] 45 (0, 0)) (by (with_reducible repeat (first | refine blk_drewN ?_ _ | refine blk_drew ?_ | refine blk_alloc ?_ _)); exact BK221.out)) (below_size (by repeat (first | (with_reducible first | exact HB.out | apply below_alloc | apply pw_below_drewN | apply below_drew1 | refine below_set ?_ GE194.out | refine below_set ?_ GE208.out | refine below_set ?_ GE221.out) | exact HB.out)))); have n1_ := Aside0.mk (blk_below (g := gb194) (o := .cells #[.int .i64 t189, .int .i64 t190, .int .i64 t191, .int .i64 t192] 28 (0, 0)) (by (with_reducible repeat (first | refine blk_drewN ?_ _ | refine blk_drew ?_ | refine blk_alloc ?_ _)); exact BK194.out) hb); have n2_ := Aside0.mk (blk_below (g := gb208) (o := .cells #[.int .i64 x209000_1, .int .i64 x209001_1, .int .i64 x209002_1, .bool x209003_1] 45 (0, 0)) (by (with_reducible repeat (first | refine blk_drewN ?_ _ | refine blk_drew ?_ | refine blk_alloc ?_ _)); exact BK208.out) hb); have n3_ := Aside0.mk (blk_below (g := gb221) (o := .cells #[.int .i64 t216, .int .i64 t217, .int .i64 t218, .bool t219] 45 (0, 0)) (by (with_reducible repeat (first | refine blk_drewN ?_ _ | refine blk_drew ?_ | refine blk_alloc ?_ _)); exact BK221.out) hb); have n4_ := Aside0.mk (below_step (by repeat (first | (with_reducible first | exact HB.out | apply below_alloc | apply pw_below_drewN | apply below_drew1 | refine below_set ?_ GE194.out | refine below_set ?_ GE208.out | refine below_set ?_ GE221.out) | exact HB.out)) hb); clear BK194; clear BK208; clear BK221; clear HB; have HO224 := n0_; have BK194 := n1_; have BK208 := n2_; have BK221 := n3_; have HB := n4_; clear n0_ n1_ n2_ n3_ n4_; (try clear hb); (try clear hb2); (try clear hk); (try clear hi); (try clear ho0); obtain ⟨Ao83, co83, eo83⟩ := Kd.R_slice HO224.out; subst eo83; have p226 : 0 ≤ ((ji66) : Int) := of_decide_eq_true (by first | (with_reducible assumption) | assumption); have q226 : (ji66) < (t222.length : Int) := of_decide_eq_true (by first | (with_reducible assumption) | assumption); obtain ⟨ad226, e226, hx226_0, hx226_1, hx226_2, hx226_3⟩ := at_T45 (Kd.R_reads' HO224.out).2.2 (ji66) p226 q226; cases e226; replace p226 := eq_true p226; replace q226 := eq_true q226) | ((with_reducible refine gate_dst (N := 14) rfl ?_); (try (refine gate_guard (by rfl) ?_; dsimp only)); refine box_event ?hg (N := 14) ?hd (cs := #[.int .i64 0, .int .i64 0, .int .i64 0, .bool false]) (t := 45) ?hr ?_; (case hd => rfl); (case hg => rfl); (case hr => first | (go_simp; done) | (go_simp; rfl)); intro gb227 hg w84 hbox hb; have n0_ := Aside0.mk (Kd.R_below (Kd.R_elderB (by (with_reducible repeat (first | apply Kd.R_alloc | apply Kd.R_drewN | apply Kd.R_drew)); exact HO224.out) gb227 (Nat.le_of_eq hg.symm)) hb); have n1_ := Aside0.mk (blk_below (g := gb194) (o := .cells #[.int .i64 t189, .int .i64 t190, .int .i64 t191, .int .i64 t192] 28 (0, 0)) (by (with_reducible repeat (first | refine blk_drewN ?_ _ | refine blk_drew ?_ | refine blk_alloc ?_ _)); exact BK194.out) hb); have n2_ := Aside0.mk (blk_below (g := gb208) (o := .cells #[.int .i64 x209000_1, .int .i64 x209001_1, .int .i64 x209002_1, .bool x209003_1] 45 (0, 0)) (by (with_reducible repeat (first | refine blk_drewN ?_ _ | refine blk_drew ?_ | refine blk_alloc ?_ _)); exact BK208.out) hb); have n3_ := Aside0.mk (blk_below (g := gb221) (o := .cells #[.int .i64 t216, .int .i64 t217, .int .i64 t218, .bool t219] 45 (0, 0)) (by (with_reducible repeat (first | refine blk_drewN ?_ _ | refine blk_drew ?_ | refine blk_alloc ?_ _)); exact BK221.out) hb); have n4_ := Aside0.mk (below_step (by repeat (first | (with_reducible first | exact HB.out | apply below_alloc | apply pw_below_drewN | apply below_drew1 | refine below_set ?_ GE194.out | refine below_set ?_ GE208.out | refine below_set ?_ GE221.out) | exact HB.out)) hb); have n5_ := Aside0.mk (hbox); have n6_ := Aside0.mk ((by rw [hg]; exact (below_size (by repeat (first | (with_reducible first | exact HB.out | apply below_alloc | apply pw_below_drewN | apply below_drew1 | refine below_set ?_ GE194.out | refine below_set ?_ GE208.out | refine below_set ?_ GE221.out) | exact HB.out))) : w.heap.size ≤ gb227)); have n7_ := Aside0.mk ((by rw [hg]; exact (below_size (by repeat (first | (with_reducible first | exact HB.out | apply below_alloc | apply pw_below_drewN | apply below_drew1 | refine below_set ?_ GE194.out | refine below_set ?_ GE208.out | refine below_set ?_ GE221.out) | exact HB.out))) : w.heap.size ≤ gb227)); have n8_ := Aside0.mk ((by rw [hg]; exact Nat.ne_of_lt (blk_lt (g := gb194) (o := .cells #[.int .i64 t189, .int .i64 t190, .int .i64 t191, .int .i64 t192] 28 (0, 0)) (by (with_reducible repeat (first | refine blk_drewN ?_ _ | refine blk_drew ?_ | refine blk_alloc ?_ _)); exact BK194.out)) : gb194 ≠ gb227)); have n9_ := Aside0.mk ((by rw [hg]; exact Nat.ne_of_gt (blk_lt (g := gb194) (o := .cells #[.int .i64 t189, .int .i64 t190, .int .i64 t191, .int .i64 t192] 28 (0, 0)) (by (with_reducible repeat (first | refine blk_drewN ?_ _ | refine blk_drew ?_ | refine blk_alloc ?_ _)); exact BK194.out)) : gb227 ≠ gb194)); have n10_ := Aside0.mk ((by rw [hg]; exact Nat.ne_of_lt (blk_lt (g := gb208) (o := .cells #[.int .i64 x209000_1, .int .i64 x209001_1, .int .i64 x209002_1, .bool x209003_1] 45 (0, 0)) (by (with_reducible repeat (first | refine blk_drewN ?_ _ | refine blk_drew ?_ | refine blk_alloc ?_ _)); exact BK208.out)) : gb208 ≠ gb227)); have n11_ := Aside0.mk ((by rw [hg]; exact Nat.ne_of_gt (blk_lt (g := gb208) (o := .cells #[.int .i64 x209000_1, .int .i64 x209001_1, .int .i64 x209002_1, .bool x209003_1] 45 (0, 0)) (by (with_reducible repeat (first | refine blk_drewN ?_ _ | refine blk_drew ?_ | refine blk_alloc ?_ _)); exact BK208.out)) : gb227 ≠ gb208)); have n12_ := Aside0.mk ((by rw [hg]; exact Nat.ne_of_lt (blk_lt (g := gb221) (o := .cells #[.int .i64 t216, .int .i64 t217, .int .i64 t218, .bool t219] 45 (0, 0)) (by (with_reducible repeat (first | refine blk_drewN ?_ _ | refine blk_drew ?_ | refine blk_alloc ?_ _)); exact BK221.out)) : gb221 ≠ gb227)); have n13_ := Aside0.mk ((by rw [hg]; exact Nat.ne_of_gt (blk_lt (g := gb221) (o := .cells #[.int .i64 t216, .int .i64 t217, .int .i64 t218, .bool t219] 45 (0, 0)) (by (with_reducible repeat (first | refine blk_drewN ?_ _ | refine blk_drew ?_ | refine blk_alloc ?_ _)); exact BK221.out)) : gb227 ≠ gb221)); clear HO224; clear BK194; clear BK208; clear BK221; clear HB; have HO224 := n0_; have BK194 := n1_; have BK208 := n2_; have BK221 := n3_; have HB := n4_; have BK227 := n5_; have GW227 := n6_; have GE227 := n7_; have NB194_227 := n8_; have NB227_194 := n9_; have NB208_227 := n10_; have NB227_208 := n11_; have NB221_227 := n12_; have NB227_221 := n13_; clear n0_ n1_ n2_ n3_ n4_ n5_ n6_ n7_ n8_ n9_ n10_ n11_ n12_ n13_; clear hb hbox hg; have hnb85 := NB227_194.out; have hnc85 := NB194_227.out; have hnb86 := NB227_208.out; have hnc86 := NB208_227.out; have hnb87 := NB227_221.out; have hnc87 := NB221_227.out; have hcz88_0 : w84.cell? ⟨gb227, 0, none⟩ = some (.int .i64 0) := (blk_cell BK227.out 0).trans rfl; have hcz88_1 : w84.cell? ⟨gb227, 1, none⟩ = some (.int .i64 0) := (blk_cell BK227.out 1).trans rfl; have hcz88_2 : w84.cell? ⟨gb227, 2, none⟩ = some (.int .i64 0) := (blk_cell BK227.out 2).trans rfl; have hcz88_3 : w84.cell? ⟨gb227, 3, none⟩ = some (.bool false) := (blk_cell BK227.out 3).trans rfl; have hfz88_0 := blk_frozen BK227.out 0; have hfz88_1 := blk_frozen BK227.out 1; have hfz88_2 := blk_frozen BK227.out 2; have hfz88_3 := blk_frozen BK227.out 3) | ((with_reducible refine gate_store (t := 45) (p := 14) rfl ?_); refine store_event (t := 45) (p := 14) (v := ?vo_w89) (w1 := ((((w84.setCell ⟨gb227, 0, none⟩ (.int .i64 ((rd_T45 t222 (ji66)).f0))).setCell ⟨gb227, 1, none⟩ (.int .i64 ((rd_T45 t222 (ji66)).f1))).setCell ⟨gb227, 2, none⟩ (.int .i64 ((rd_T45 t222 (ji66)).f2))).setCell ⟨gb227, 3, none⟩ (.bool ((rd_T45 t222 (ji66)).f3)))) ?hg ?ho ?hn ?hr ?_; (case ho => rfl); (case hg => rfl); (case hn => rfl); (case hr => first | (go_simp; done) | (go_simp; rfl)); intro w89 hw; have n0_ : Aside0 (Kd.R k45 45 w89 w.heap.size (fun k_ => k_ ≠ gb208 ∧ k_ ≠ gb221 ∧ k_ ≠ gb227) (.slice (some ad226) t222.length co83) t222) := ⟨(by rw [hw]; exact (by (with_reducible repeat (first | apply Kd.R_alloc | apply Kd.R_drewN | apply Kd.R_drew)); exact Kd.R_mono (Kd.R_far (p := ⟨gb227, 3, none⟩) (Kd.R_far (p := ⟨gb227, 2, none⟩) (Kd.R_far (p := ⟨gb227, 1, none⟩) (Kd.R_far (p := ⟨gb227, 0, none⟩) (Kd.R_mono HO224.out (fun k_ hk => (⟨hk, hk.2⟩ : _ ∧ k_ ≠ gb227))) (fun _ hk => hk.2) (.int .i64 ((rd_T45 t222 (ji66)).f0))) (fun _ hk => hk.2) (.int .i64 ((rd_T45 t222 (ji66)).f1))) (fun _ hk => hk.2) (.int .i64 ((rd_T45 t222 (ji66)).f2))) (fun _ hk => hk.2) (.bool ((rd_T45 t222 (ji66)).f3))) (fun _ hk => ⟨hk.1.1.1.2, ⟨hk.1.1.2, hk.1.2⟩⟩)))⟩; have n1_ : Aside0 (w89.heap[gb194]? = some (.cells #[.int .i64 t189, .int .i64 t190, .int .i64 t191, .int .i64 t192] 28 (0, 0))) := ⟨(by rw [hw]; exact (by (with_reducible repeat (first | refine blk_drewN ?_ _ | refine blk_drew ?_ | refine blk_alloc ?_ _)); refine blk_far ?_ NB194_227.out _; (with_reducible repeat (first | refine blk_drewN ?_ _ | refine blk_drew ?_ | refine blk_alloc ?_ _)); refine blk_far ?_ NB194_227.out _; (with_reducible repeat (first | refine blk_drewN ?_ _ | refine blk_drew ?_ | refine blk_alloc ?_ _)); refine blk_far ?_ NB194_227.out _; (with_reducible repeat (first | refine blk_drewN ?_ _ | refine blk_drew ?_ | refine blk_alloc ?_ _)); refine blk_far ?_ NB194_227.out _; (with_reducible repeat (first | refine blk_drewN ?_ _ | refine blk_drew ?_ | refine blk_alloc ?_ _)); exact BK194.out))⟩; have n2_ : Aside0 (w89.heap[gb208]? = some (.cells #[.int .i64 x209000_1, .int .i64 x209001_1, .int .i64 x209002_1, .bool x209003_1] 45 (0, 0))) := ⟨(by rw [hw]; exact (by (with_reducible repeat (first | refine blk_drewN ?_ _ | refine blk_drew ?_ | refine blk_alloc ?_ _)); refine blk_far ?_ NB208_227.out _; (with_reducible repeat (first | refine blk_drewN ?_ _ | refine blk_drew ?_ | refine blk_alloc ?_ _)); refine blk_far ?_ NB208_227.out _; (with_reducible repeat (first | refine blk_drewN ?_ _ | refine blk_drew ?_ | refine blk_alloc ?_ _)); refine blk_far ?_ NB208_227.out _; (with_reducible repeat (first | refine blk_drewN ?_ _ | refine blk_drew ?_ | refine blk_alloc ?_ _)); refine blk_far ?_ NB208_227.out _; (with_reducible repeat (first | refine blk_drewN ?_ _ | refine blk_drew ?_ | refine blk_alloc ?_ _)); exact BK208.out))⟩; have n3_ : Aside0 (w89.heap[gb221]? = some (.cells #[.int .i64 t216, .int .i64 t217, .int .i64 t218, .bool t219] 45 (0, 0))) := ⟨(by rw [hw]; exact (by (with_reducible repeat (first | refine blk_drewN ?_ _ | refine blk_drew ?_ | refine blk_alloc ?_ _)); refine blk_far ?_ NB221_227.out _; (with_reducible repeat (first | refine blk_drewN ?_ _ | refine blk_drew ?_ | refine blk_alloc ?_ _)); refine blk_far ?_ NB221_227.out _; (with_reducible repeat (first | refine blk_drewN ?_ _ | refine blk_drew ?_ | refine blk_alloc ?_ _)); refine blk_far ?_ NB221_227.out _; (with_reducible repeat (first | refine blk_drewN ?_ _ | refine blk_drew ?_ | refine blk_alloc ?_ _)); refine blk_far ?_ NB221_227.out _; (with_reducible repeat (first | refine blk_drewN ?_ _ | refine blk_drew ?_ | refine blk_alloc ?_ _)); exact BK221.out))⟩; have n4_ : Aside0 (w89.heap[gb227]? = some (.cells #[.int .i64 ((rd_T45 t222 (ji66)).f0), .int .i64 ((rd_T45 t222 (ji66)).f1), .int .i64 ((rd_T45 t222 (ji66)).f2), .bool ((rd_T45 t222 (ji66)).f3)] 45 (0, 0))) := ⟨(by rw [hw]; exact (by (with_reducible repeat (first | refine blk_drewN ?_ _ | refine blk_drew ?_ | refine blk_alloc ?_ _)); refine blk_put (cs := #[.int .i64 ((rd_T45 t222 (ji66)).f0), .int .i64 ((rd_T45 t222 (ji66)).f1), .int .i64 ((rd_T45 t222 (ji66)).f2), .bool false]) ?_ 3 _ rfl; (with_reducible repeat (first | refine blk_drewN ?_ _ | refine blk_drew ?_ | refine blk_alloc ?_ _)); refine blk_put (cs := #[.int .i64 ((rd_T45 t222 (ji66)).f0), .int .i64 ((rd_T45 t222 (ji66)).f1), .int .i64 0, .bool false]) ?_ 2 _ rfl; (with_reducible repeat (first | refine blk_drewN ?_ _ | refine blk_drew ?_ | refine blk_alloc ?_ _)); refine blk_put (cs := #[.int .i64 ((rd_T45 t222 (ji66)).f0), .int .i64 0, .int .i64 0, .bool false]) ?_ 1 _ rfl; (with_reducible repeat (first | refine blk_drewN ?_ _ | refine blk_drew ?_ | refine blk_alloc ?_ _)); refine blk_put (cs := #[.int .i64 0, .int .i64 0, .int .i64 0, .bool false]) ?_ 0 _ rfl; (with_reducible repeat (first | refine blk_drewN ?_ _ | refine blk_drew ?_ | refine blk_alloc ?_ _)); exact BK227.out))⟩; have n5_ : Aside0 (Below w.heap.size w w89) := ⟨(by rw [hw]; exact (by repeat (first | (with_reducible first | exact HB.out | apply below_alloc | apply pw_below_drewN | apply below_drew1 | refine below_set ?_ GE194.out | refine below_set ?_ GE208.out | refine below_set ?_ GE221.out | refine below_set ?_ GE227.out) | exact HB.out)))⟩; clear hw; clear HO224; clear BK194; clear BK208; clear BK221; clear BK227; clear HB; have HO224 := n0_; have BK194 := n1_; have BK208 := n2_; have BK221 := n3_; have BK227 := n4_; have HB := n5_; clear n0_ n1_ n2_ n3_ n4_ n5_; have hcz90_0 : w89.cell? ⟨gb227, 0, none⟩ = some (.int .i64 ((rd_T45 t222 (ji66)).f0)) := (blk_cell BK227.out 0).trans rfl; have hcz90_1 : w89.cell? ⟨gb227, 1, none⟩ = some (.int .i64 ((rd_T45 t222 (ji66)).f1)) := (blk_cell BK227.out 1).trans rfl; have hcz90_2 : w89.cell? ⟨gb227, 2, none⟩ = some (.int .i64 ((rd_T45 t222 (ji66)).f2)) := (blk_cell BK227.out 2).trans rfl; have hcz90_3 : w89.cell? ⟨gb227, 3, none⟩ = some (.bool ((rd_T45 t222 (ji66)).f3)) := (blk_cell BK227.out 3).trans rfl; have hfz90_0 := blk_frozen BK227.out 0; have hfz90_1 := blk_frozen BK227.out 1; have hfz90_2 := blk_frozen BK227.out 2; have hfz90_3 := blk_frozen BK227.out 3) | ((with_reducible refine gate_callee (f := 32) rfl ?_); refine goesL_ (some 93) rfl rfl Try.func32 (by kernel_rfl) rfl #[.agg #[.int .i64 ((rd_T45 t222 (ji66)).f0), .int .i64 ((rd_T45 t222 (ji66)).f1), .int .i64 ((rd_T45 t222 (ji66)).f2), .bool ((rd_T45 t222 (ji66)).f3)]] rfl (by (try simp only [List.map_toArray, List.map_cons, List.map_nil]); first | done | (simp only [hji66]; rfl) | rfl | (simp only [List.length_drop, List.length_take]; rfl)) ?_; (with_reducible refine (axis_Resting.calls ((rd_T45 t222 (ji66)).f0) ((rd_T45 t222 (ji66)).f1) ((rd_T45 t222 (ji66)).f2) ((rd_T45 t222 (ji66)).f3) true _ A69.out).mono ?_); rintro e w91 ⟨rfl, hb⟩; refine ⟨_, rfl, ?_⟩; have n0_ := Aside0.mk (Kd.R_below (by (with_reducible repeat (first | apply Kd.R_alloc | apply Kd.R_drewN | apply Kd.R_drew)); exact HO224.out) hb); have n1_ := Aside0.mk (blk_below (g := gb194) (o := .cells #[.int .i64 t189, .int .i64 t190, .int .i64 t191, .int .i64 t192] 28 (0, 0)) (by (with_reducible repeat (first | refine blk_drewN ?_ _ | refine blk_drew ?_ | refine blk_alloc ?_ _)); exact BK194.out) hb); have n2_ := Aside0.mk (blk_below (g := gb208) (o := .cells #[.int .i64 x209000_1, .int .i64 x209001_1, .int .i64 x209002_1, .bool x209003_1] 45 (0, 0)) (by (with_reducible repeat (first | refine blk_drewN ?_ _ | refine blk_drew ?_ | refine blk_alloc ?_ _)); exact BK208.out) hb); have n3_ := Aside0.mk (blk_below (g := gb221) (o := .cells #[.int .i64 t216, .int .i64 t217, .int .i64 t218, .bool t219] 45 (0, 0)) (by (with_reducible repeat (first | refine blk_drewN ?_ _ | refine blk_drew ?_ | refine blk_alloc ?_ _)); exact BK221.out) hb); have n4_ := Aside0.mk (blk_below (g := gb227) (o := .cells #[.int .i64 ((rd_T45 t222 (ji66)).f0), .int .i64 ((rd_T45 t222 (ji66)).f1), .int .i64 ((rd_T45 t222 (ji66)).f2), .bool ((rd_T45 t222 (ji66)).f3)] 45 (0, 0)) (by (with_reducible repeat (first | refine blk_drewN ?_ _ | refine blk_drew ?_ | refine blk_alloc ?_ _)); exact BK227.out) hb); have n5_ := Aside0.mk (below_step (by repeat (first | (with_reducible first | exact HB.out | apply below_alloc | apply pw_below_drewN | apply below_drew1 | refine below_set ?_ GE194.out | refine below_set ?_ GE208.out | refine below_set ?_ GE221.out | refine below_set ?_ GE227.out) | exact HB.out)) hb); clear HO224; clear BK194; clear BK208; clear BK221; clear BK227; clear HB; have HO224 := n0_; have BK194 := n1_; have BK208 := n2_; have BK221 := n3_; have BK227 := n4_; have HB := n5_; clear n0_ n1_ n2_ n3_ n4_ n5_; (try clear hb); (try clear hb2); (try clear hk); (try clear hi); have hcz92_0 : w91.cell? ⟨gb227, 0, none⟩ = some (.int .i64 ((rd_T45 t222 (ji66)).f0)) := (blk_cell BK227.out 0).trans rfl; have hcz92_1 : w91.cell? ⟨gb227, 1, none⟩ = some (.int .i64 ((rd_T45 t222 (ji66)).f1)) := (blk_cell BK227.out 1).trans rfl; have hcz92_2 : w91.cell? ⟨gb227, 2, none⟩ = some (.int .i64 ((rd_T45 t222 (ji66)).f2)) := (blk_cell BK227.out 2).trans rfl; have hcz92_3 : w91.cell? ⟨gb227, 3, none⟩ = some (.bool ((rd_T45 t222 (ji66)).f3)) := (blk_cell BK227.out 3).trans rfl; have hfz92_0 := blk_frozen BK227.out 0; have hfz92_1 := blk_frozen BK227.out 1; have hfz92_2 := blk_frozen BK227.out 2; have hfz92_3 := blk_frozen BK227.out 3))
                            go_ret
                            exact ⟨by first | rfl | (simp [errW_none, errW_some] <;> rfl) | (simp only [← hji66]; first | rfl | (simp [errW_none, errW_some] <;> rfl)) | (simp [*, errW_none, errW_some] <;> rfl), by repeat (first | (with_reducible first | exact HB.out | apply below_alloc | apply pw_below_drewN | apply below_drew1 | refine below_set ?_ GE194.out | refine below_set ?_ GE208.out | refine below_set ?_ GE221.out | refine below_set ?_ GE227.out) | exact HB.out)⟩
                          · replace c70 := Bool.eq_false_iff.mpr c70
                            subst c70
                            have H1 : (some false) = some r := by rw [if_neg (show ¬ (false = true) by decide)] at H; exact H
                            clear H
                            have H := H1
                            clear H1
                            obtain rfl := Option.some.inj H
                            have hnb93 := NB194_208.out
                            have hnc93 := NB208_194.out
                            have hcz94_0 : wc.cell? ⟨gb194, 0, none⟩ = some (.int .i64 t189) := (blk_cell BK194.out 0).trans rfl
                            have hcz94_1 : wc.cell? ⟨gb194, 1, none⟩ = some (.int .i64 t190) := (blk_cell BK194.out 1).trans rfl
                            have hcz94_2 : wc.cell? ⟨gb194, 2, none⟩ = some (.int .i64 t191) := (blk_cell BK194.out 2).trans rfl
                            have hcz94_3 : wc.cell? ⟨gb194, 3, none⟩ = some (.int .i64 t192) := (blk_cell BK194.out 3).trans rfl
                            have hfz94_0 := blk_frozen BK194.out 0
                            have hfz94_1 := blk_frozen BK194.out 1
                            have hfz94_2 := blk_frozen BK194.out 2
                            have hfz94_3 := blk_frozen BK194.out 3
                            have hcz95_0 : wc.cell? ⟨gb208, 0, none⟩ = some (.int .i64 x209000_1) := (blk_cell BK208.out 0).trans rfl
                            have hcz95_1 : wc.cell? ⟨gb208, 1, none⟩ = some (.int .i64 x209001_1) := (blk_cell BK208.out 1).trans rfl
                            have hcz95_2 : wc.cell? ⟨gb208, 2, none⟩ = some (.int .i64 x209002_1) := (blk_cell BK208.out 2).trans rfl
                            have hcz95_3 : wc.cell? ⟨gb208, 3, none⟩ = some (.bool x209003_1) := (blk_cell BK208.out 3).trans rfl
                            have hfz95_0 := blk_frozen BK208.out 0
                            have hfz95_1 := blk_frozen BK208.out 1
                            have hfz95_2 := blk_frozen BK208.out 2
                            have hfz95_3 := blk_frozen BK208.out 3
                            go_wp2_with (first | ((with_reducible refine gate_callee (f := 26) rfl ?_); refine goesL_ (some 62) rfl rfl Try.func26 (by kernel_rfl) rfl #[.agg #[.int .i64 t189, .int .i64 t190, .int .i64 t191, .int .i64 t192], .agg #[.int .i64 x209000_1, .int .i64 x209001_1, .int .i64 x209002_1, .bool x209003_1]] rfl (by (try simp only [List.map_toArray, List.map_cons, List.map_nil]); first | done | rfl | (simp only [List.length_drop, List.length_take]; rfl)) ?_; (with_reducible refine (axis_Brake.calls kj37 t189 t190 t191 t192 x209000_1 x209001_1 x209002_1 x209003_1 t216 t217 t218 t219 t220 _ A47.out).mono ?_); rintro e w96 ⟨rfl, hb⟩; refine ⟨_, rfl, ?_⟩; have n0_ := Aside0.mk (blk_below (g := gb194) (o := .cells #[.int .i64 t189, .int .i64 t190, .int .i64 t191, .int .i64 t192] 28 (0, 0)) (by (with_reducible repeat (first | refine blk_drewN ?_ _ | refine blk_drew ?_ | refine blk_alloc ?_ _)); exact BK194.out) hb); have n1_ := Aside0.mk (blk_below (g := gb208) (o := .cells #[.int .i64 x209000_1, .int .i64 x209001_1, .int .i64 x209002_1, .bool x209003_1] 45 (0, 0)) (by (with_reducible repeat (first | refine blk_drewN ?_ _ | refine blk_drew ?_ | refine blk_alloc ?_ _)); exact BK208.out) hb); have n2_ := Aside0.mk (below_step (by repeat (first | (with_reducible first | exact HB.out | apply below_alloc | apply pw_below_drewN | apply below_drew1 | refine below_set ?_ GE194.out | refine below_set ?_ GE208.out) | exact HB.out)) hb); clear BK194; clear BK208; clear HB; have BK194 := n0_; have BK208 := n1_; have HB := n2_; clear n0_ n1_ n2_; (try clear hb); (try clear hb2); (try clear hk); (try clear hi)) | ((with_reducible refine gate_dst (N := 10) rfl ?_); (try (refine gate_guard (by rfl) ?_; dsimp only)); refine box_event ?hg (N := 10) ?hd (cs := #[.int .i64 0, .int .i64 0, .int .i64 0, .bool false]) (t := 45) ?hr ?_; (case hd => rfl); (case hg => rfl); (case hr => first | (go_simp; done) | (go_simp; rfl)); intro gb221 hg w97 hbox hb; have n0_ := Aside0.mk (blk_below (g := gb194) (o := .cells #[.int .i64 t189, .int .i64 t190, .int .i64 t191, .int .i64 t192] 28 (0, 0)) (by (with_reducible repeat (first | refine blk_drewN ?_ _ | refine blk_drew ?_ | refine blk_alloc ?_ _)); exact BK194.out) hb); have n1_ := Aside0.mk (blk_below (g := gb208) (o := .cells #[.int .i64 x209000_1, .int .i64 x209001_1, .int .i64 x209002_1, .bool x209003_1] 45 (0, 0)) (by (with_reducible repeat (first | refine blk_drewN ?_ _ | refine blk_drew ?_ | refine blk_alloc ?_ _)); exact BK208.out) hb); have n2_ := Aside0.mk (below_step (by repeat (first | (with_reducible first | exact HB.out | apply below_alloc | apply pw_below_drewN | apply below_drew1 | refine below_set ?_ GE194.out | refine below_set ?_ GE208.out) | exact HB.out)) hb); have n3_ := Aside0.mk (hbox); have n4_ := Aside0.mk ((by rw [hg]; exact (below_size (by repeat (first | (with_reducible first | exact HB.out | apply below_alloc | apply pw_below_drewN | apply below_drew1 | refine below_set ?_ GE194.out | refine below_set ?_ GE208.out) | exact HB.out))) : w.heap.size ≤ gb221)); have n5_ := Aside0.mk ((by rw [hg]; exact (below_size (by repeat (first | (with_reducible first | exact HB.out | apply below_alloc | apply pw_below_drewN | apply below_drew1 | refine below_set ?_ GE194.out | refine below_set ?_ GE208.out) | exact HB.out))) : w.heap.size ≤ gb221)); have n6_ := Aside0.mk ((by rw [hg]; exact Nat.ne_of_lt (blk_lt (g := gb194) (o := .cells #[.int .i64 t189, .int .i64 t190, .int .i64 t191, .int .i64 t192] 28 (0, 0)) (by (with_reducible repeat (first | refine blk_drewN ?_ _ | refine blk_drew ?_ | refine blk_alloc ?_ _)); exact BK194.out)) : gb194 ≠ gb221)); have n7_ := Aside0.mk ((by rw [hg]; exact Nat.ne_of_gt (blk_lt (g := gb194) (o := .cells #[.int .i64 t189, .int .i64 t190, .int .i64 t191, .int .i64 t192] 28 (0, 0)) (by (with_reducible repeat (first | refine blk_drewN ?_ _ | refine blk_drew ?_ | refine blk_alloc ?_ _)); exact BK194.out)) : gb221 ≠ gb194)); have n8_ := Aside0.mk ((by rw [hg]; exact Nat.ne_of_lt (blk_lt (g := gb208) (o := .cells #[.int .i64 x209000_1, .int .i64 x209001_1, .int .i64 x209002_1, .bool x209003_1] 45 (0, 0)) (by (with_reducible repeat (first | refine blk_drewN ?_ _ | refine blk_drew ?_ | refine blk_alloc ?_ _)); exact BK208.out)) : gb208 ≠ gb221)); have n9_ := Aside0.mk ((by rw [hg]; exact Nat.ne_of_gt (blk_lt (g := gb208) (o := .cells #[.int .i64 x209000_1, .int .i64 x209001_1, .int .i64 x209002_1, .bool x209003_1] 45 (0, 0)) (by (with_reducible repeat (first | refine blk_drewN ?_ _ | refine blk_drew ?_ | refine blk_alloc ?_ _)); exact BK208.out)) : gb221 ≠ gb208)); clear BK194; clear BK208; clear HB; have BK194 := n0_; have BK208 := n1_; have HB := n2_; have BK221 := n3_; have GW221 := n4_; have GE221 := n5_; have NB194_221 := n6_; have NB221_194 := n7_; have NB208_221 := n8_; have NB221_208 := n9_; clear n0_ n1_ n2_ n3_ n4_ n5_ n6_ n7_ n8_ n9_; clear hb hbox hg; have hnb98 := NB221_194.out; have hnc98 := NB194_221.out; have hnb99 := NB221_208.out; have hnc99 := NB208_221.out; have hcz100_0 : w97.cell? ⟨gb221, 0, none⟩ = some (.int .i64 0) := (blk_cell BK221.out 0).trans rfl; have hcz100_1 : w97.cell? ⟨gb221, 1, none⟩ = some (.int .i64 0) := (blk_cell BK221.out 1).trans rfl; have hcz100_2 : w97.cell? ⟨gb221, 2, none⟩ = some (.int .i64 0) := (blk_cell BK221.out 2).trans rfl; have hcz100_3 : w97.cell? ⟨gb221, 3, none⟩ = some (.bool false) := (blk_cell BK221.out 3).trans rfl; have hfz100_0 := blk_frozen BK221.out 0; have hfz100_1 := blk_frozen BK221.out 1; have hfz100_2 := blk_frozen BK221.out 2; have hfz100_3 := blk_frozen BK221.out 3) | ((with_reducible refine gate_store (t := 45) (p := 10) rfl ?_); refine store_event (t := 45) (p := 10) (v := ?vo_w101) (w1 := ((((w97.setCell ⟨gb221, 0, none⟩ (.int .i64 t216)).setCell ⟨gb221, 1, none⟩ (.int .i64 t217)).setCell ⟨gb221, 2, none⟩ (.int .i64 t218)).setCell ⟨gb221, 3, none⟩ (.bool t219))) ?hg ?ho ?hn ?hr ?_; (case ho => rfl); (case hg => rfl); (case hn => rfl); (case hr => first | (go_simp; done) | (go_simp; rfl)); intro w101 hw; have n0_ : Aside0 (w101.heap[gb194]? = some (.cells #[.int .i64 t189, .int .i64 t190, .int .i64 t191, .int .i64 t192] 28 (0, 0))) := ⟨(by rw [hw]; exact (by (with_reducible repeat (first | refine blk_drewN ?_ _ | refine blk_drew ?_ | refine blk_alloc ?_ _)); refine blk_far ?_ NB194_221.out _; (with_reducible repeat (first | refine blk_drewN ?_ _ | refine blk_drew ?_ | refine blk_alloc ?_ _)); refine blk_far ?_ NB194_221.out _; (with_reducible repeat (first | refine blk_drewN ?_ _ | refine blk_drew ?_ | refine blk_alloc ?_ _)); refine blk_far ?_ NB194_221.out _; (with_reducible repeat (first | refine blk_drewN ?_ _ | refine blk_drew ?_ | refine blk_alloc ?_ _)); refine blk_far ?_ NB194_221.out _; (with_reducible repeat (first | refine blk_drewN ?_ _ | refine blk_drew ?_ | refine blk_alloc ?_ _)); exact BK194.out))⟩; have n1_ : Aside0 (w101.heap[gb208]? = some (.cells #[.int .i64 x209000_1, .int .i64 x209001_1, .int .i64 x209002_1, .bool x209003_1] 45 (0, 0))) := ⟨(by rw [hw]; exact (by (with_reducible repeat (first | refine blk_drewN ?_ _ | refine blk_drew ?_ | refine blk_alloc ?_ _)); refine blk_far ?_ NB208_221.out _; (with_reducible repeat (first | refine blk_drewN ?_ _ | refine blk_drew ?_ | refine blk_alloc ?_ _)); refine blk_far ?_ NB208_221.out _; (with_reducible repeat (first | refine blk_drewN ?_ _ | refine blk_drew ?_ | refine blk_alloc ?_ _)); refine blk_far ?_ NB208_221.out _; (with_reducible repeat (first | refine blk_drewN ?_ _ | refine blk_drew ?_ | refine blk_alloc ?_ _)); refine blk_far ?_ NB208_221.out _; (with_reducible repeat (first | refine blk_drewN ?_ _ | refine blk_drew ?_ | refine blk_alloc ?_ _)); exact BK208.out))⟩; have n2_ : Aside0 (w101.heap[gb221]? = some (.cells #[.int .i64 t216, .int .i64 t217, .int .i64 t218, .bool t219] 45 (0, 0))) := ⟨(by rw [hw]; exact (by (with_reducible repeat (first | refine blk_drewN ?_ _ | refine blk_drew ?_ | refine blk_alloc ?_ _)); refine blk_put (cs := #[.int .i64 t216, .int .i64 t217, .int .i64 t218, .bool false]) ?_ 3 _ rfl; (with_reducible repeat (first | refine blk_drewN ?_ _ | refine blk_drew ?_ | refine blk_alloc ?_ _)); refine blk_put (cs := #[.int .i64 t216, .int .i64 t217, .int .i64 0, .bool false]) ?_ 2 _ rfl; (with_reducible repeat (first | refine blk_drewN ?_ _ | refine blk_drew ?_ | refine blk_alloc ?_ _)); refine blk_put (cs := #[.int .i64 t216, .int .i64 0, .int .i64 0, .bool false]) ?_ 1 _ rfl; (with_reducible repeat (first | refine blk_drewN ?_ _ | refine blk_drew ?_ | refine blk_alloc ?_ _)); refine blk_put (cs := #[.int .i64 0, .int .i64 0, .int .i64 0, .bool false]) ?_ 0 _ rfl; (with_reducible repeat (first | refine blk_drewN ?_ _ | refine blk_drew ?_ | refine blk_alloc ?_ _)); exact BK221.out))⟩; have n3_ : Aside0 (Below w.heap.size w w101) := ⟨(by rw [hw]; exact (by repeat (first | (with_reducible first | exact HB.out | apply below_alloc | apply pw_below_drewN | apply below_drew1 | refine below_set ?_ GE194.out | refine below_set ?_ GE208.out | refine below_set ?_ GE221.out) | exact HB.out)))⟩; clear hw; clear BK194; clear BK208; clear BK221; clear HB; have BK194 := n0_; have BK208 := n1_; have BK221 := n2_; have HB := n3_; clear n0_ n1_ n2_ n3_; have hcz102_0 : w101.cell? ⟨gb194, 0, none⟩ = some (.int .i64 t189) := (blk_cell BK194.out 0).trans rfl; have hcz102_1 : w101.cell? ⟨gb194, 1, none⟩ = some (.int .i64 t190) := (blk_cell BK194.out 1).trans rfl; have hcz102_2 : w101.cell? ⟨gb194, 2, none⟩ = some (.int .i64 t191) := (blk_cell BK194.out 2).trans rfl; have hcz102_3 : w101.cell? ⟨gb194, 3, none⟩ = some (.int .i64 t192) := (blk_cell BK194.out 3).trans rfl; have hfz102_0 := blk_frozen BK194.out 0; have hfz102_1 := blk_frozen BK194.out 1; have hfz102_2 := blk_frozen BK194.out 2; have hfz102_3 := blk_frozen BK194.out 3; have hcz103_0 : w101.cell? ⟨gb221, 0, none⟩ = some (.int .i64 t216) := (blk_cell BK221.out 0).trans rfl; have hcz103_1 : w101.cell? ⟨gb221, 1, none⟩ = some (.int .i64 t217) := (blk_cell BK221.out 1).trans rfl; have hcz103_2 : w101.cell? ⟨gb221, 2, none⟩ = some (.int .i64 t218) := (blk_cell BK221.out 2).trans rfl; have hcz103_3 : w101.cell? ⟨gb221, 3, none⟩ = some (.bool t219) := (blk_cell BK221.out 3).trans rfl; have hfz103_0 := blk_frozen BK221.out 0; have hfz103_1 := blk_frozen BK221.out 1; have hfz103_2 := blk_frozen BK221.out 2; have hfz103_3 := blk_frozen BK221.out 3) | ((with_reducible refine gate_callee (f := 31) rfl ?_); refine goesL_ (some 68) rfl rfl Try.func31 (by kernel_rfl) rfl #[.agg #[.int .i64 t189, .int .i64 t190, .int .i64 t191, .int .i64 t192], .agg #[.int .i64 t216, .int .i64 t217, .int .i64 t218, .bool t219], .int .i64 65] rfl (by (try simp only [List.map_toArray, List.map_cons, List.map_nil]); first | done | rfl | (simp only [List.length_drop, List.length_take]; rfl)) ?_; (with_reducible refine (axis_Run.calls kj37 t189 t190 t191 t192 t216 t217 t218 t219 65 t222 t225 _ A48.out).mono ?_); rintro e w104 ⟨v223, rfl, ho0, hb⟩; refine ⟨_, rfl, ?_⟩; have n0_ := Aside0.mk (Kd.R_lower (Kd.R_newB (Kd.R_newB ho0 (g := gb208) (o := .cells #[.int .i64 x209000_1, .int .i64 x209001_1, .int .i64 x209002_1, .bool x209003_1] 45 (0, 0)) (by (with_reducible repeat (first | refine blk_drewN ?_ _ | refine blk_drew ?_ | refine blk_alloc ?_ _)); exact BK208.out)) (g := gb221) (o := .cells #[.int .i64 t216, .int .i64 t217, .int .i64 t218, .bool t219] 45 (0, 0)) (by (with_reducible repeat (first | refine blk_drewN ?_ _ | refine blk_drew ?_ | refine blk_alloc ?_ _)); exact BK221.out)) (below_size (by repeat (first | (with_reducible first | exact HB.out | apply below_alloc | apply pw_below_drewN | apply below_drew1 | refine below_set ?_ GE194.out | refine below_set ?_ GE208.out | refine below_set ?_ GE221.out) | exact HB.out)))); have n1_ := Aside0.mk (blk_below (g := gb194) (o := .cells #[.int .i64 t189, .int .i64 t190, .int .i64 t191, .int .i64 t192] 28 (0, 0)) (by (with_reducible repeat (first | refine blk_drewN ?_ _ | refine blk_drew ?_ | refine blk_alloc ?_ _)); exact BK194.out) hb); have n2_ := Aside0.mk (blk_below (g := gb208) (o := .cells #[.int .i64 x209000_1, .int .i64 x209001_1, .int .i64 x209002_1, .bool x209003_1] 45 (0, 0)) (by (with_reducible repeat (first | refine blk_drewN ?_ _ | refine blk_drew ?_ | refine blk_alloc ?_ _)); exact BK208.out) hb); have n3_ := Aside0.mk (blk_below (g := gb221) (o := .cells #[.int .i64 t216, .int .i64 t217, .int .i64 t218, .bool t219] 45 (0, 0)) (by (with_reducible repeat (first | refine blk_drewN ?_ _ | refine blk_drew ?_ | refine blk_alloc ?_ _)); exact BK221.out) hb); have n4_ := Aside0.mk (below_step (by repeat (first | (with_reducible first | exact HB.out | apply below_alloc | apply pw_below_drewN | apply below_drew1 | refine below_set ?_ GE194.out | refine below_set ?_ GE208.out | refine below_set ?_ GE221.out) | exact HB.out)) hb); clear BK194; clear BK208; clear BK221; clear HB; have HO224 := n0_; have BK194 := n1_; have BK208 := n2_; have BK221 := n3_; have HB := n4_; clear n0_ n1_ n2_ n3_ n4_; (try clear hb); (try clear hb2); (try clear hk); (try clear hi); (try clear ho0); obtain ⟨Ao105, co105, eo105⟩ := Kd.R_slice HO224.out; subst eo105; have p226 : 0 ≤ ((ji66) : Int) := of_decide_eq_true (by first | (with_reducible assumption) | assumption); have q226 : (ji66) < (t222.length : Int) := of_decide_eq_true (by first | (with_reducible assumption) | assumption); obtain ⟨ad226, e226, hx226_0, hx226_1, hx226_2, hx226_3⟩ := at_T45 (Kd.R_reads' HO224.out).2.2 (ji66) p226 q226; cases e226; replace p226 := eq_true p226; replace q226 := eq_true q226) | ((with_reducible refine gate_dst (N := 14) rfl ?_); (try (refine gate_guard (by rfl) ?_; dsimp only)); refine box_event ?hg (N := 14) ?hd (cs := #[.int .i64 0, .int .i64 0, .int .i64 0, .bool false]) (t := 45) ?hr ?_; (case hd => rfl); (case hg => rfl); (case hr => first | (go_simp; done) | (go_simp; rfl)); intro gb227 hg w106 hbox hb; have n0_ := Aside0.mk (Kd.R_below (Kd.R_elderB (by (with_reducible repeat (first | apply Kd.R_alloc | apply Kd.R_drewN | apply Kd.R_drew)); exact HO224.out) gb227 (Nat.le_of_eq hg.symm)) hb); have n1_ := Aside0.mk (blk_below (g := gb194) (o := .cells #[.int .i64 t189, .int .i64 t190, .int .i64 t191, .int .i64 t192] 28 (0, 0)) (by (with_reducible repeat (first | refine blk_drewN ?_ _ | refine blk_drew ?_ | refine blk_alloc ?_ _)); exact BK194.out) hb); have n2_ := Aside0.mk (blk_below (g := gb208) (o := .cells #[.int .i64 x209000_1, .int .i64 x209001_1, .int .i64 x209002_1, .bool x209003_1] 45 (0, 0)) (by (with_reducible repeat (first | refine blk_drewN ?_ _ | refine blk_drew ?_ | refine blk_alloc ?_ _)); exact BK208.out) hb); have n3_ := Aside0.mk (blk_below (g := gb221) (o := .cells #[.int .i64 t216, .int .i64 t217, .int .i64 t218, .bool t219] 45 (0, 0)) (by (with_reducible repeat (first | refine blk_drewN ?_ _ | refine blk_drew ?_ | refine blk_alloc ?_ _)); exact BK221.out) hb); have n4_ := Aside0.mk (below_step (by repeat (first | (with_reducible first | exact HB.out | apply below_alloc | apply pw_below_drewN | apply below_drew1 | refine below_set ?_ GE194.out | refine below_set ?_ GE208.out | refine below_set ?_ GE221.out) | exact HB.out)) hb); have n5_ := Aside0.mk (hbox); have n6_ := Aside0.mk ((by rw [hg]; exact (below_size (by repeat (first | (with_reducible first | exact HB.out | apply below_alloc | apply pw_below_drewN | apply below_drew1 | refine below_set ?_ GE194.out | refine below_set ?_ GE208.out | refine below_set ?_ GE221.out) | exact HB.out))) : w.heap.size ≤ gb227)); have n7_ := Aside0.mk ((by rw [hg]; exact (below_size (by repeat (first | (with_reducible first | exact HB.out | apply below_alloc | apply pw_below_drewN | apply below_drew1 | refine below_set ?_ GE194.out | refine below_set ?_ GE208.out | refine below_set ?_ GE221.out) | exact HB.out))) : w.heap.size ≤ gb227)); have n8_ := Aside0.mk ((by rw [hg]; exact Nat.ne_of_lt (blk_lt (g := gb194) (o := .cells #[.int .i64 t189, .int .i64 t190, .int .i64 t191, .int .i64 t192] 28 (0, 0)) (by (with_reducible repeat (first | refine blk_drewN ?_ _ | refine blk_drew ?_ | refine blk_alloc ?_ _)); exact BK194.out)) : gb194 ≠ gb227)); have n9_ := Aside0.mk ((by rw [hg]; exact Nat.ne_of_gt (blk_lt (g := gb194) (o := .cells #[.int .i64 t189, .int .i64 t190, .int .i64 t191, .int .i64 t192] 28 (0, 0)) (by (with_reducible repeat (first | refine blk_drewN ?_ _ | refine blk_drew ?_ | refine blk_alloc ?_ _)); exact BK194.out)) : gb227 ≠ gb194)); have n10_ := Aside0.mk ((by rw [hg]; exact Nat.ne_of_lt (blk_lt (g := gb208) (o := .cells #[.int .i64 x209000_1, .int .i64 x209001_1, .int .i64 x209002_1, .bool x209003_1] 45 (0, 0)) (by (with_reducible repeat (first | refine blk_drewN ?_ _ | refine blk_drew ?_ | refine blk_alloc ?_ _)); exact BK208.out)) : gb208 ≠ gb227)); have n11_ := Aside0.mk ((by rw [hg]; exact Nat.ne_of_gt (blk_lt (g := gb208) (o := .cells #[.int .i64 x209000_1, .int .i64 x209001_1, .int .i64 x209002_1, .bool x209003_1] 45 (0, 0)) (by (with_reducible repeat (first | refine blk_drewN ?_ _ | refine blk_drew ?_ | refine blk_alloc ?_ _)); exact BK208.out)) : gb227 ≠ gb208)); have n12_ := Aside0.mk ((by rw [hg]; exact Nat.ne_of_lt (blk_lt (g := gb221) (o := .cells #[.int .i64 t216, .int .i64 t217, .int .i64 t218, .bool t219] 45 (0, 0)) (by (with_reducible repeat (first | refine blk_drewN ?_ _ | refine blk_drew ?_ | refine blk_alloc ?_ _)); exact BK221.out)) : gb221 ≠ gb227)); have n13_ := Aside0.mk ((by rw [hg]; exact Nat.ne_of_gt (blk_lt (g := gb221) (o := .cells #[.int .i64 t216, .int .i64 t217, .int .i64 t218, .bool t219] 45 (0, 0)) (by (with_reducible repeat (first | refine blk_drewN ?_ _ | refine blk_drew ?_ | refine blk_alloc ?_ _)); exact BK221.out)) : gb227 ≠ gb221)); clear HO224; clear BK194; clear BK208; clear BK221; clear HB; have HO224 := n0_; have BK194 := n1_; have BK208 := n2_; have BK221 := n3_; have HB := n4_; have BK227 := n5_; have GW227 := n6_; have GE227 := n7_; have NB194_227 := n8_; have NB227_194 := n9_; have NB208_227 := n10_; have NB227_208 := n11_; have NB221_227 := n12_; have NB227_221 := n13_; clear n0_ n1_ n2_ n3_ n4_ n5_ n6_ n7_ n8_ n9_ n10_ n11_ n12_ n13_; clear hb hbox hg; have hnb107 := NB227_194.out; have hnc107 := NB194_227.out; have hnb108 := NB227_208.out; have hnc108 := NB208_227.out; have hnb109 := NB227_221.out; have hnc109 := NB221_227.out; have hcz110_0 : w106.cell? ⟨gb227, 0, none⟩ = some (.int .i64 0) := (blk_cell BK227.out 0).trans rfl; have hcz110_1 : w106.cell? ⟨gb227, 1, none⟩ = some (.int .i64 0) := (blk_cell BK227.out 1).trans rfl; have hcz110_2 : w106.cell? ⟨gb227, 2, none⟩ = some (.int .i64 0) := (blk_cell BK227.out 2).trans rfl; have hcz110_3 : w106.cell? ⟨gb227, 3, none⟩ = some (.bool false) := (blk_cell BK227.out 3).trans rfl; have hfz110_0 := blk_frozen BK227.out 0; have hfz110_1 := blk_frozen BK227.out 1; have hfz110_2 := blk_frozen BK227.out 2; have hfz110_3 := blk_frozen BK227.out 3) | ((with_reducible refine gate_store (t := 45) (p := 14) rfl ?_); refine store_event (t := 45) (p := 14) (v := ?vo_w111) (w1 := ((((w106.setCell ⟨gb227, 0, none⟩ (.int .i64 ((rd_T45 t222 (ji66)).f0))).setCell ⟨gb227, 1, none⟩ (.int .i64 ((rd_T45 t222 (ji66)).f1))).setCell ⟨gb227, 2, none⟩ (.int .i64 ((rd_T45 t222 (ji66)).f2))).setCell ⟨gb227, 3, none⟩ (.bool ((rd_T45 t222 (ji66)).f3)))) ?hg ?ho ?hn ?hr ?_; (case ho => rfl); (case hg => rfl); (case hn => rfl); (case hr => first | (go_simp; done) | (go_simp; rfl)); intro w111 hw; have n0_ : Aside0 (Kd.R k45 45 w111 w.heap.size (fun k_ => k_ ≠ gb208 ∧ k_ ≠ gb221 ∧ k_ ≠ gb227) (.slice (some ad226) t222.length co105) t222) := ⟨(by rw [hw]; exact (by (with_reducible repeat (first | apply Kd.R_alloc | apply Kd.R_drewN | apply Kd.R_drew)); exact Kd.R_mono (Kd.R_far (p := ⟨gb227, 3, none⟩) (Kd.R_far (p := ⟨gb227, 2, none⟩) (Kd.R_far (p := ⟨gb227, 1, none⟩) (Kd.R_far (p := ⟨gb227, 0, none⟩) (Kd.R_mono HO224.out (fun k_ hk => (⟨hk, hk.2⟩ : _ ∧ k_ ≠ gb227))) (fun _ hk => hk.2) (.int .i64 ((rd_T45 t222 (ji66)).f0))) (fun _ hk => hk.2) (.int .i64 ((rd_T45 t222 (ji66)).f1))) (fun _ hk => hk.2) (.int .i64 ((rd_T45 t222 (ji66)).f2))) (fun _ hk => hk.2) (.bool ((rd_T45 t222 (ji66)).f3))) (fun _ hk => ⟨hk.1.1.1.2, ⟨hk.1.1.2, hk.1.2⟩⟩)))⟩; have n1_ : Aside0 (w111.heap[gb194]? = some (.cells #[.int .i64 t189, .int .i64 t190, .int .i64 t191, .int .i64 t192] 28 (0, 0))) := ⟨(by rw [hw]; exact (by (with_reducible repeat (first | refine blk_drewN ?_ _ | refine blk_drew ?_ | refine blk_alloc ?_ _)); refine blk_far ?_ NB194_227.out _; (with_reducible repeat (first | refine blk_drewN ?_ _ | refine blk_drew ?_ | refine blk_alloc ?_ _)); refine blk_far ?_ NB194_227.out _; (with_reducible repeat (first | refine blk_drewN ?_ _ | refine blk_drew ?_ | refine blk_alloc ?_ _)); refine blk_far ?_ NB194_227.out _; (with_reducible repeat (first | refine blk_drewN ?_ _ | refine blk_drew ?_ | refine blk_alloc ?_ _)); refine blk_far ?_ NB194_227.out _; (with_reducible repeat (first | refine blk_drewN ?_ _ | refine blk_drew ?_ | refine blk_alloc ?_ _)); exact BK194.out))⟩; have n2_ : Aside0 (w111.heap[gb208]? = some (.cells #[.int .i64 x209000_1, .int .i64 x209001_1, .int .i64 x209002_1, .bool x209003_1] 45 (0, 0))) := ⟨(by rw [hw]; exact (by (with_reducible repeat (first | refine blk_drewN ?_ _ | refine blk_drew ?_ | refine blk_alloc ?_ _)); refine blk_far ?_ NB208_227.out _; (with_reducible repeat (first | refine blk_drewN ?_ _ | refine blk_drew ?_ | refine blk_alloc ?_ _)); refine blk_far ?_ NB208_227.out _; (with_reducible repeat (first | refine blk_drewN ?_ _ | refine blk_drew ?_ | refine blk_alloc ?_ _)); refine blk_far ?_ NB208_227.out _; (with_reducible repeat (first | refine blk_drewN ?_ _ | refine blk_drew ?_ | refine blk_alloc ?_ _)); refine blk_far ?_ NB208_227.out _; (with_reducible repeat (first | refine blk_drewN ?_ _ | refine blk_drew ?_ | refine blk_alloc ?_ _)); exact BK208.out))⟩; have n3_ : Aside0 (w111.heap[gb221]? = some (.cells #[.int .i64 t216, .int .i64 t217, .int .i64 t218, .bool t219] 45 (0, 0))) := ⟨(by rw [hw]; exact (by (with_reducible repeat (first | refine blk_drewN ?_ _ | refine blk_drew ?_ | refine blk_alloc ?_ _)); refine blk_far ?_ NB221_227.out _; (with_reducible repeat (first | refine blk_drewN ?_ _ | refine blk_drew ?_ | refine blk_alloc ?_ _)); refine blk_far ?_ NB221_227.out _; (with_reducible repeat (first | refine blk_drewN ?_ _ | refine blk_drew ?_ | refine blk_alloc ?_ _)); refine blk_far ?_ NB221_227.out _; (with_reducible repeat (first | refine blk_drewN ?_ _ | refine blk_drew ?_ | refine blk_alloc ?_ _)); refine blk_far ?_ NB221_227.out _; (with_reducible repeat (first | refine blk_drewN ?_ _ | refine blk_drew ?_ | refine blk_alloc ?_ _)); exact BK221.out))⟩; have n4_ : Aside0 (w111.heap[gb227]? = some (.cells #[.int .i64 ((rd_T45 t222 (ji66)).f0), .int .i64 ((rd_T45 t222 (ji66)).f1), .int .i64 ((rd_T45 t222 (ji66)).f2), .bool ((rd_T45 t222 (ji66)).f3)] 45 (0, 0))) := ⟨(by rw [hw]; exact (by (with_reducible repeat (first | refine blk_drewN ?_ _ | refine blk_drew ?_ | refine blk_alloc ?_ _)); refine blk_put (cs := #[.int .i64 ((rd_T45 t222 (ji66)).f0), .int .i64 ((rd_T45 t222 (ji66)).f1), .int .i64 ((rd_T45 t222 (ji66)).f2), .bool false]) ?_ 3 _ rfl; (with_reducible repeat (first | refine blk_drewN ?_ _ | refine blk_drew ?_ | refine blk_alloc ?_ _)); refine blk_put (cs := #[.int .i64 ((rd_T45 t222 (ji66)).f0), .int .i64 ((rd_T45 t222 (ji66)).f1), .int .i64 0, .bool false]) ?_ 2 _ rfl; (with_reducible repeat (first | refine blk_drewN ?_ _ | refine blk_drew ?_ | refine blk_alloc ?_ _)); refine blk_put (cs := #[.int .i64 ((rd_T45 t222 (ji66)).f0), .int .i64 0, .int .i64 0, .bool false]) ?_ 1 _ rfl; (with_reducible repeat (first | refine blk_drewN ?_ _ | refine blk_drew ?_ | refine blk_alloc ?_ _)); refine blk_put (cs := #[.int .i64 0, .int .i64 0, .int .i64 0, .bool false]) ?_ 0 _ rfl; (with_reducible repeat (first | refine blk_drewN ?_ _ | refine blk_drew ?_ | refine blk_alloc ?_ _)); exact BK227.out))⟩; have n5_ : Aside0 (Below w.heap.size w w111) := ⟨(by rw [hw]; exact (by repeat (first | (with_reducible first | exact HB.out | apply below_alloc | apply pw_below_drewN | apply below_drew1 | refine below_set ?_ GE194.out | refine below_set ?_ GE208.out | refine below_set ?_ GE221.out | refine below_set ?_ GE227.out) | exact HB.out)))⟩; clear hw; clear HO224; clear BK194; clear BK208; clear BK221; clear BK227; clear HB; have HO224 := n0_; have BK194 := n1_; have BK208 := n2_; have BK221 := n3_; have BK227 := n4_; have HB := n5_; clear n0_ n1_ n2_ n3_ n4_ n5_; have hcz112_0 : w111.cell? ⟨gb227, 0, none⟩ = some (.int .i64 ((rd_T45 t222 (ji66)).f0)) := (blk_cell BK227.out 0).trans rfl; have hcz112_1 : w111.cell? ⟨gb227, 1, none⟩ = some (.int .i64 ((rd_T45 t222 (ji66)).f1)) := (blk_cell BK227.out 1).trans rfl; have hcz112_2 : w111.cell? ⟨gb227, 2, none⟩ = some (.int .i64 ((rd_T45 t222 (ji66)).f2)) := (blk_cell BK227.out 2).trans rfl; have hcz112_3 : w111.cell? ⟨gb227, 3, none⟩ = some (.bool ((rd_T45 t222 (ji66)).f3)) := (blk_cell BK227.out 3).trans rfl; have hfz112_0 := blk_frozen BK227.out 0; have hfz112_1 := blk_frozen BK227.out 1; have hfz112_2 := blk_frozen BK227.out 2; have hfz112_3 := blk_frozen BK227.out 3) | ((with_reducible refine gate_callee (f := 32) rfl ?_); refine goesL_ (some 93) rfl rfl Try.func32 (by kernel_rfl) rfl #[.agg #[.int .i64 ((rd_T45 t222 (ji66)).f0), .int .i64 ((rd_T45 t222 (ji66)).f1), .int .i64 ((rd_T45 t222 (ji66)).f2), .bool ((rd_T45 t222 (ji66)).f3)]] rfl (by (try simp only [List.map_toArray, List.map_cons, List.map_nil]); first | done | (simp only [hji66]; rfl) | rfl | (simp only [List.length_drop, List.length_take]; rfl)) ?_; (with_reducible refine (axis_Resting.calls ((rd_T45 t222 (ji66)).f0) ((rd_T45 t222 (ji66)).f1) ((rd_T45 t222 (ji66)).f2) ((rd_T45 t222 (ji66)).f3) false _ A69.out).mono ?_); rintro e w113 ⟨rfl, hb⟩; refine ⟨_, rfl, ?_⟩; have n0_ := Aside0.mk (Kd.R_below (by (with_reducible repeat (first | apply Kd.R_alloc | apply Kd.R_drewN | apply Kd.R_drew)); exact HO224.out) hb); have n1_ := Aside0.mk (blk_below (g := gb194) (o := .cells #[.int .i64 t189, .int .i64 t190, .int .i64 t191, .int .i64 t192] 28 (0, 0)) (by (with_reducible repeat (first | refine blk_drewN ?_ _ | refine blk_drew ?_ | refine blk_alloc ?_ _)); exact BK194.out) hb); have n2_ := Aside0.mk (blk_below (g := gb208) (o := .cells #[.int .i64 x209000_1, .int .i64 x209001_1, .int .i64 x209002_1, .bool x209003_1] 45 (0, 0)) (by (with_reducible repeat (first | refine blk_drewN ?_ _ | refine blk_drew ?_ | refine blk_alloc ?_ _)); exact BK208.out) hb); have n3_ := Aside0.mk (blk_below (g := gb221) (o := .cells #[.int .i64 t216, .int .i64 t217, .int .i64 t218, .bool t219] 45 (0, 0)) (by (with_reducible repeat (first | refine blk_drewN ?_ _ | refine blk_drew ?_ | refine blk_alloc ?_ _)); exact BK221.out) hb); have n4_ := Aside0.mk (blk_below (g := gb227) (o := .cells #[.int .i64 ((rd_T45 t222 (ji66)).f0), .int .i64 ((rd_T45 t222 (ji66)).f1), .int .i64 ((rd_T45 t222 (ji66)).f2), .bool ((rd_T45 t222 (ji66)).f3)] 45 (0, 0)) (by (with_reducible repeat (first | refine blk_drewN ?_ _ | refine blk_drew ?_ | refine blk_alloc ?_ _)); exact BK227.out) hb); have n5_ := Aside0.mk (below_step (by repeat (first | (with_reducible first | exact HB.out | apply below_alloc | apply pw_below_drewN | apply below_drew1 | refine below_set ?_ GE194.out | refine below_set ?_ GE208.out | refine below_set ?_ GE221.out | refine below_set ?_ GE227.out) | exact HB.out)) hb); clear HO224; clear BK194; clear BK208; clear BK221; clear BK227; clear HB; have HO224 := n0_; have BK194 := n1_; have BK208 := n2_; have BK221 := n3_; have BK227 := n4_; have HB := n5_; clear n0_ n1_ n2_ n3_ n4_ n5_; (try clear hb); (try clear hb2); (try clear hk); (try clear hi)))
                            go_ret
                            exact ⟨by first | rfl | (simp [errW_none, errW_some] <;> rfl) | (simp only [← hji66]; first | rfl | (simp [errW_none, errW_some] <;> rfl)) | (simp [*, errW_none, errW_some] <;> rfl), by repeat (first | (with_reducible first | exact HB.out | apply below_alloc | apply pw_below_drewN | apply below_drew1 | refine below_set ?_ GE194.out | refine below_set ?_ GE208.out | refine below_set ?_ GE221.out | refine below_set ?_ GE227.out) | exact HB.out)⟩
                        · rw [if_neg c68] at H
                          exact absurd H (by simp)
                      · rw [if_neg c67] at H
                        exact absurd H (by simp)
                  · rw [if_neg c51] at H
                    have c51b0 : (t225 == 0) = false := beq_eq_false_iff_ne.mpr c51
                    have c51b1 : (t225 != 0) = true := bne_iff_ne.mpr c51
                    obtain rfl := Option.some.inj H
                    have hnb114 := NB194_208.out
                    have hnc114 := NB208_194.out
                    have hcz115_0 : wc.cell? ⟨gb194, 0, none⟩ = some (.int .i64 t189) := (blk_cell BK194.out 0).trans rfl
                    have hcz115_1 : wc.cell? ⟨gb194, 1, none⟩ = some (.int .i64 t190) := (blk_cell BK194.out 1).trans rfl
                    have hcz115_2 : wc.cell? ⟨gb194, 2, none⟩ = some (.int .i64 t191) := (blk_cell BK194.out 2).trans rfl
                    have hcz115_3 : wc.cell? ⟨gb194, 3, none⟩ = some (.int .i64 t192) := (blk_cell BK194.out 3).trans rfl
                    have hfz115_0 := blk_frozen BK194.out 0
                    have hfz115_1 := blk_frozen BK194.out 1
                    have hfz115_2 := blk_frozen BK194.out 2
                    have hfz115_3 := blk_frozen BK194.out 3
                    have hcz116_0 : wc.cell? ⟨gb208, 0, none⟩ = some (.int .i64 x209000_1) := (blk_cell BK208.out 0).trans rfl
                    have hcz116_1 : wc.cell? ⟨gb208, 1, none⟩ = some (.int .i64 x209001_1) := (blk_cell BK208.out 1).trans rfl
                    have hcz116_2 : wc.cell? ⟨gb208, 2, none⟩ = some (.int .i64 x209002_1) := (blk_cell BK208.out 2).trans rfl
                    have hcz116_3 : wc.cell? ⟨gb208, 3, none⟩ = some (.bool x209003_1) := (blk_cell BK208.out 3).trans rfl
                    have hfz116_0 := blk_frozen BK208.out 0
                    have hfz116_1 := blk_frozen BK208.out 1
                    have hfz116_2 := blk_frozen BK208.out 2
                    have hfz116_3 := blk_frozen BK208.out 3
                    go_wp2_with (first | ((with_reducible refine gate_callee (f := 26) rfl ?_); refine goesL_ (some 62) rfl rfl Try.func26 (by kernel_rfl) rfl #[.agg #[.int .i64 t189, .int .i64 t190, .int .i64 t191, .int .i64 t192], .agg #[.int .i64 x209000_1, .int .i64 x209001_1, .int .i64 x209002_1, .bool x209003_1]] rfl (by (try simp only [List.map_toArray, List.map_cons, List.map_nil]); first | done | rfl | (simp only [List.length_drop, List.length_take]; rfl)) ?_; (with_reducible refine (axis_Brake.calls kj37 t189 t190 t191 t192 x209000_1 x209001_1 x209002_1 x209003_1 t216 t217 t218 t219 t220 _ A47.out).mono ?_); rintro e w117 ⟨rfl, hb⟩; refine ⟨_, rfl, ?_⟩; have n0_ := Aside0.mk (blk_below (g := gb194) (o := .cells #[.int .i64 t189, .int .i64 t190, .int .i64 t191, .int .i64 t192] 28 (0, 0)) (by (with_reducible repeat (first | refine blk_drewN ?_ _ | refine blk_drew ?_ | refine blk_alloc ?_ _)); exact BK194.out) hb); have n1_ := Aside0.mk (blk_below (g := gb208) (o := .cells #[.int .i64 x209000_1, .int .i64 x209001_1, .int .i64 x209002_1, .bool x209003_1] 45 (0, 0)) (by (with_reducible repeat (first | refine blk_drewN ?_ _ | refine blk_drew ?_ | refine blk_alloc ?_ _)); exact BK208.out) hb); have n2_ := Aside0.mk (below_step (by repeat (first | (with_reducible first | exact HB.out | apply below_alloc | apply pw_below_drewN | apply below_drew1 | refine below_set ?_ GE194.out | refine below_set ?_ GE208.out) | exact HB.out)) hb); clear BK194; clear BK208; clear HB; have BK194 := n0_; have BK208 := n1_; have HB := n2_; clear n0_ n1_ n2_; (try clear hb); (try clear hb2); (try clear hk); (try clear hi)) | ((with_reducible refine gate_dst (N := 10) rfl ?_); (try (refine gate_guard (by rfl) ?_; dsimp only)); refine box_event ?hg (N := 10) ?hd (cs := #[.int .i64 0, .int .i64 0, .int .i64 0, .bool false]) (t := 45) ?hr ?_; (case hd => rfl); (case hg => rfl); (case hr => first | (go_simp; done) | (go_simp; rfl)); intro gb221 hg w118 hbox hb; have n0_ := Aside0.mk (blk_below (g := gb194) (o := .cells #[.int .i64 t189, .int .i64 t190, .int .i64 t191, .int .i64 t192] 28 (0, 0)) (by (with_reducible repeat (first | refine blk_drewN ?_ _ | refine blk_drew ?_ | refine blk_alloc ?_ _)); exact BK194.out) hb); have n1_ := Aside0.mk (blk_below (g := gb208) (o := .cells #[.int .i64 x209000_1, .int .i64 x209001_1, .int .i64 x209002_1, .bool x209003_1] 45 (0, 0)) (by (with_reducible repeat (first | refine blk_drewN ?_ _ | refine blk_drew ?_ | refine blk_alloc ?_ _)); exact BK208.out) hb); have n2_ := Aside0.mk (below_step (by repeat (first | (with_reducible first | exact HB.out | apply below_alloc | apply pw_below_drewN | apply below_drew1 | refine below_set ?_ GE194.out | refine below_set ?_ GE208.out) | exact HB.out)) hb); have n3_ := Aside0.mk (hbox); have n4_ := Aside0.mk ((by rw [hg]; exact (below_size (by repeat (first | (with_reducible first | exact HB.out | apply below_alloc | apply pw_below_drewN | apply below_drew1 | refine below_set ?_ GE194.out | refine below_set ?_ GE208.out) | exact HB.out))) : w.heap.size ≤ gb221)); have n5_ := Aside0.mk ((by rw [hg]; exact (below_size (by repeat (first | (with_reducible first | exact HB.out | apply below_alloc | apply pw_below_drewN | apply below_drew1 | refine below_set ?_ GE194.out | refine below_set ?_ GE208.out) | exact HB.out))) : w.heap.size ≤ gb221)); have n6_ := Aside0.mk ((by rw [hg]; exact Nat.ne_of_lt (blk_lt (g := gb194) (o := .cells #[.int .i64 t189, .int .i64 t190, .int .i64 t191, .int .i64 t192] 28 (0, 0)) (by (with_reducible repeat (first | refine blk_drewN ?_ _ | refine blk_drew ?_ | refine blk_alloc ?_ _)); exact BK194.out)) : gb194 ≠ gb221)); have n7_ := Aside0.mk ((by rw [hg]; exact Nat.ne_of_gt (blk_lt (g := gb194) (o := .cells #[.int .i64 t189, .int .i64 t190, .int .i64 t191, .int .i64 t192] 28 (0, 0)) (by (with_reducible repeat (first | refine blk_drewN ?_ _ | refine blk_drew ?_ | refine blk_alloc ?_ _)); exact BK194.out)) : gb221 ≠ gb194)); have n8_ := Aside0.mk ((by rw [hg]; exact Nat.ne_of_lt (blk_lt (g := gb208) (o := .cells #[.int .i64 x209000_1, .int .i64 x209001_1, .int .i64 x209002_1, .bool x209003_1] 45 (0, 0)) (by (with_reducible repeat (first | refine blk_drewN ?_ _ | refine blk_drew ?_ | refine blk_alloc ?_ _)); exact BK208.out)) : gb208 ≠ gb221)); have n9_ := Aside0.mk ((by rw [hg]; exact Nat.ne_of_gt (blk_lt (g := gb208) (o := .cells #[.int .i64 x209000_1, .int .i64 x209001_1, .int .i64 x209002_1, .bool x209003_1] 45 (0, 0)) (by (with_reducible repeat (first | refine blk_drewN ?_ _ | refine blk_drew ?_ | refine blk_alloc ?_ _)); exact BK208.out)) : gb221 ≠ gb208)); clear BK194; clear BK208; clear HB; have BK194 := n0_; have BK208 := n1_; have HB := n2_; have BK221 := n3_; have GW221 := n4_; have GE221 := n5_; have NB194_221 := n6_; have NB221_194 := n7_; have NB208_221 := n8_; have NB221_208 := n9_; clear n0_ n1_ n2_ n3_ n4_ n5_ n6_ n7_ n8_ n9_; clear hb hbox hg; have hnb119 := NB221_194.out; have hnc119 := NB194_221.out; have hnb120 := NB221_208.out; have hnc120 := NB208_221.out; have hcz121_0 : w118.cell? ⟨gb221, 0, none⟩ = some (.int .i64 0) := (blk_cell BK221.out 0).trans rfl; have hcz121_1 : w118.cell? ⟨gb221, 1, none⟩ = some (.int .i64 0) := (blk_cell BK221.out 1).trans rfl; have hcz121_2 : w118.cell? ⟨gb221, 2, none⟩ = some (.int .i64 0) := (blk_cell BK221.out 2).trans rfl; have hcz121_3 : w118.cell? ⟨gb221, 3, none⟩ = some (.bool false) := (blk_cell BK221.out 3).trans rfl; have hfz121_0 := blk_frozen BK221.out 0; have hfz121_1 := blk_frozen BK221.out 1; have hfz121_2 := blk_frozen BK221.out 2; have hfz121_3 := blk_frozen BK221.out 3) | ((with_reducible refine gate_store (t := 45) (p := 10) rfl ?_); refine store_event (t := 45) (p := 10) (v := ?vo_w122) (w1 := ((((w118.setCell ⟨gb221, 0, none⟩ (.int .i64 t216)).setCell ⟨gb221, 1, none⟩ (.int .i64 t217)).setCell ⟨gb221, 2, none⟩ (.int .i64 t218)).setCell ⟨gb221, 3, none⟩ (.bool t219))) ?hg ?ho ?hn ?hr ?_; (case ho => rfl); (case hg => rfl); (case hn => rfl); (case hr => first | (go_simp; done) | (go_simp; rfl)); intro w122 hw; have n0_ : Aside0 (w122.heap[gb194]? = some (.cells #[.int .i64 t189, .int .i64 t190, .int .i64 t191, .int .i64 t192] 28 (0, 0))) := ⟨(by rw [hw]; exact (by (with_reducible repeat (first | refine blk_drewN ?_ _ | refine blk_drew ?_ | refine blk_alloc ?_ _)); refine blk_far ?_ NB194_221.out _; (with_reducible repeat (first | refine blk_drewN ?_ _ | refine blk_drew ?_ | refine blk_alloc ?_ _)); refine blk_far ?_ NB194_221.out _; (with_reducible repeat (first | refine blk_drewN ?_ _ | refine blk_drew ?_ | refine blk_alloc ?_ _)); refine blk_far ?_ NB194_221.out _; (with_reducible repeat (first | refine blk_drewN ?_ _ | refine blk_drew ?_ | refine blk_alloc ?_ _)); refine blk_far ?_ NB194_221.out _; (with_reducible repeat (first | refine blk_drewN ?_ _ | refine blk_drew ?_ | refine blk_alloc ?_ _)); exact BK194.out))⟩; have n1_ : Aside0 (w122.heap[gb208]? = some (.cells #[.int .i64 x209000_1, .int .i64 x209001_1, .int .i64 x209002_1, .bool x209003_1] 45 (0, 0))) := ⟨(by rw [hw]; exact (by (with_reducible repeat (first | refine blk_drewN ?_ _ | refine blk_drew ?_ | refine blk_alloc ?_ _)); refine blk_far ?_ NB208_221.out _; (with_reducible repeat (first | refine blk_drewN ?_ _ | refine blk_drew ?_ | refine blk_alloc ?_ _)); refine blk_far ?_ NB208_221.out _; (with_reducible repeat (first | refine blk_drewN ?_ _ | refine blk_drew ?_ | refine blk_alloc ?_ _)); refine blk_far ?_ NB208_221.out _; (with_reducible repeat (first | refine blk_drewN ?_ _ | refine blk_drew ?_ | refine blk_alloc ?_ _)); refine blk_far ?_ NB208_221.out _; (with_reducible repeat (first | refine blk_drewN ?_ _ | refine blk_drew ?_ | refine blk_alloc ?_ _)); exact BK208.out))⟩; have n2_ : Aside0 (w122.heap[gb221]? = some (.cells #[.int .i64 t216, .int .i64 t217, .int .i64 t218, .bool t219] 45 (0, 0))) := ⟨(by rw [hw]; exact (by (with_reducible repeat (first | refine blk_drewN ?_ _ | refine blk_drew ?_ | refine blk_alloc ?_ _)); refine blk_put (cs := #[.int .i64 t216, .int .i64 t217, .int .i64 t218, .bool false]) ?_ 3 _ rfl; (with_reducible repeat (first | refine blk_drewN ?_ _ | refine blk_drew ?_ | refine blk_alloc ?_ _)); refine blk_put (cs := #[.int .i64 t216, .int .i64 t217, .int .i64 0, .bool false]) ?_ 2 _ rfl; (with_reducible repeat (first | refine blk_drewN ?_ _ | refine blk_drew ?_ | refine blk_alloc ?_ _)); refine blk_put (cs := #[.int .i64 t216, .int .i64 0, .int .i64 0, .bool false]) ?_ 1 _ rfl; (with_reducible repeat (first | refine blk_drewN ?_ _ | refine blk_drew ?_ | refine blk_alloc ?_ _)); refine blk_put (cs := #[.int .i64 0, .int .i64 0, .int .i64 0, .bool false]) ?_ 0 _ rfl; (with_reducible repeat (first | refine blk_drewN ?_ _ | refine blk_drew ?_ | refine blk_alloc ?_ _)); exact BK221.out))⟩; have n3_ : Aside0 (Below w.heap.size w w122) := ⟨(by rw [hw]; exact (by repeat (first | (with_reducible first | exact HB.out | apply below_alloc | apply pw_below_drewN | apply below_drew1 | refine below_set ?_ GE194.out | refine below_set ?_ GE208.out | refine below_set ?_ GE221.out) | exact HB.out)))⟩; clear hw; clear BK194; clear BK208; clear BK221; clear HB; have BK194 := n0_; have BK208 := n1_; have BK221 := n2_; have HB := n3_; clear n0_ n1_ n2_ n3_; have hcz123_0 : w122.cell? ⟨gb194, 0, none⟩ = some (.int .i64 t189) := (blk_cell BK194.out 0).trans rfl; have hcz123_1 : w122.cell? ⟨gb194, 1, none⟩ = some (.int .i64 t190) := (blk_cell BK194.out 1).trans rfl; have hcz123_2 : w122.cell? ⟨gb194, 2, none⟩ = some (.int .i64 t191) := (blk_cell BK194.out 2).trans rfl; have hcz123_3 : w122.cell? ⟨gb194, 3, none⟩ = some (.int .i64 t192) := (blk_cell BK194.out 3).trans rfl; have hfz123_0 := blk_frozen BK194.out 0; have hfz123_1 := blk_frozen BK194.out 1; have hfz123_2 := blk_frozen BK194.out 2; have hfz123_3 := blk_frozen BK194.out 3; have hcz124_0 : w122.cell? ⟨gb221, 0, none⟩ = some (.int .i64 t216) := (blk_cell BK221.out 0).trans rfl; have hcz124_1 : w122.cell? ⟨gb221, 1, none⟩ = some (.int .i64 t217) := (blk_cell BK221.out 1).trans rfl; have hcz124_2 : w122.cell? ⟨gb221, 2, none⟩ = some (.int .i64 t218) := (blk_cell BK221.out 2).trans rfl; have hcz124_3 : w122.cell? ⟨gb221, 3, none⟩ = some (.bool t219) := (blk_cell BK221.out 3).trans rfl; have hfz124_0 := blk_frozen BK221.out 0; have hfz124_1 := blk_frozen BK221.out 1; have hfz124_2 := blk_frozen BK221.out 2; have hfz124_3 := blk_frozen BK221.out 3) | ((with_reducible refine gate_callee (f := 31) rfl ?_); refine goesL_ (some 68) rfl rfl Try.func31 (by kernel_rfl) rfl #[.agg #[.int .i64 t189, .int .i64 t190, .int .i64 t191, .int .i64 t192], .agg #[.int .i64 t216, .int .i64 t217, .int .i64 t218, .bool t219], .int .i64 65] rfl (by (try simp only [List.map_toArray, List.map_cons, List.map_nil]); first | done | rfl | (simp only [List.length_drop, List.length_take]; rfl)) ?_; (with_reducible refine (axis_Run.calls kj37 t189 t190 t191 t192 t216 t217 t218 t219 65 t222 t225 _ A48.out).mono ?_); rintro e w125 ⟨v223, rfl, ho0, hb⟩; refine ⟨_, rfl, ?_⟩; have n0_ := Aside0.mk (Kd.R_lower (Kd.R_newB (Kd.R_newB ho0 (g := gb208) (o := .cells #[.int .i64 x209000_1, .int .i64 x209001_1, .int .i64 x209002_1, .bool x209003_1] 45 (0, 0)) (by (with_reducible repeat (first | refine blk_drewN ?_ _ | refine blk_drew ?_ | refine blk_alloc ?_ _)); exact BK208.out)) (g := gb221) (o := .cells #[.int .i64 t216, .int .i64 t217, .int .i64 t218, .bool t219] 45 (0, 0)) (by (with_reducible repeat (first | refine blk_drewN ?_ _ | refine blk_drew ?_ | refine blk_alloc ?_ _)); exact BK221.out)) (below_size (by repeat (first | (with_reducible first | exact HB.out | apply below_alloc | apply pw_below_drewN | apply below_drew1 | refine below_set ?_ GE194.out | refine below_set ?_ GE208.out | refine below_set ?_ GE221.out) | exact HB.out)))); have n1_ := Aside0.mk (blk_below (g := gb194) (o := .cells #[.int .i64 t189, .int .i64 t190, .int .i64 t191, .int .i64 t192] 28 (0, 0)) (by (with_reducible repeat (first | refine blk_drewN ?_ _ | refine blk_drew ?_ | refine blk_alloc ?_ _)); exact BK194.out) hb); have n2_ := Aside0.mk (blk_below (g := gb208) (o := .cells #[.int .i64 x209000_1, .int .i64 x209001_1, .int .i64 x209002_1, .bool x209003_1] 45 (0, 0)) (by (with_reducible repeat (first | refine blk_drewN ?_ _ | refine blk_drew ?_ | refine blk_alloc ?_ _)); exact BK208.out) hb); have n3_ := Aside0.mk (blk_below (g := gb221) (o := .cells #[.int .i64 t216, .int .i64 t217, .int .i64 t218, .bool t219] 45 (0, 0)) (by (with_reducible repeat (first | refine blk_drewN ?_ _ | refine blk_drew ?_ | refine blk_alloc ?_ _)); exact BK221.out) hb); have n4_ := Aside0.mk (below_step (by repeat (first | (with_reducible first | exact HB.out | apply below_alloc | apply pw_below_drewN | apply below_drew1 | refine below_set ?_ GE194.out | refine below_set ?_ GE208.out | refine below_set ?_ GE221.out) | exact HB.out)) hb); clear BK194; clear BK208; clear BK221; clear HB; have HO224 := n0_; have BK194 := n1_; have BK208 := n2_; have BK221 := n3_; have HB := n4_; clear n0_ n1_ n2_ n3_ n4_; (try clear hb); (try clear hb2); (try clear hk); (try clear hi); (try clear ho0)))
                    go_ret
                    exact ⟨by first | rfl | (simp [errW_none, errW_some] <;> rfl) | (simp [*, errW_none, errW_some] <;> rfl), by repeat (first | (with_reducible first | exact HB.out | apply below_alloc | apply pw_below_drewN | apply below_drew1 | refine below_set ?_ GE194.out | refine below_set ?_ GE208.out | refine below_set ?_ GE221.out) | exact HB.out)⟩
                · rw [if_neg c50] at H
                  have c50b0 : (t220 == 0) = false := beq_eq_false_iff_ne.mpr c50
                  have c50b1 : (t220 != 0) = true := bne_iff_ne.mpr c50
                  obtain rfl := Option.some.inj H
                  have hnb126 := NB194_208.out
                  have hnc126 := NB208_194.out
                  have hcz127_0 : wc.cell? ⟨gb194, 0, none⟩ = some (.int .i64 t189) := (blk_cell BK194.out 0).trans rfl
                  have hcz127_1 : wc.cell? ⟨gb194, 1, none⟩ = some (.int .i64 t190) := (blk_cell BK194.out 1).trans rfl
                  have hcz127_2 : wc.cell? ⟨gb194, 2, none⟩ = some (.int .i64 t191) := (blk_cell BK194.out 2).trans rfl
                  have hcz127_3 : wc.cell? ⟨gb194, 3, none⟩ = some (.int .i64 t192) := (blk_cell BK194.out 3).trans rfl
                  have hfz127_0 := blk_frozen BK194.out 0
                  have hfz127_1 := blk_frozen BK194.out 1
                  have hfz127_2 := blk_frozen BK194.out 2
                  have hfz127_3 := blk_frozen BK194.out 3
                  have hcz128_0 : wc.cell? ⟨gb208, 0, none⟩ = some (.int .i64 x209000_1) := (blk_cell BK208.out 0).trans rfl
                  have hcz128_1 : wc.cell? ⟨gb208, 1, none⟩ = some (.int .i64 x209001_1) := (blk_cell BK208.out 1).trans rfl
                  have hcz128_2 : wc.cell? ⟨gb208, 2, none⟩ = some (.int .i64 x209002_1) := (blk_cell BK208.out 2).trans rfl
                  have hcz128_3 : wc.cell? ⟨gb208, 3, none⟩ = some (.bool x209003_1) := (blk_cell BK208.out 3).trans rfl
                  have hfz128_0 := blk_frozen BK208.out 0
                  have hfz128_1 := blk_frozen BK208.out 1
                  have hfz128_2 := blk_frozen BK208.out 2
                  have hfz128_3 := blk_frozen BK208.out 3
                  go_wp2_with (first | ((with_reducible refine gate_callee (f := 26) rfl ?_); refine goesL_ (some 62) rfl rfl Try.func26 (by kernel_rfl) rfl #[.agg #[.int .i64 t189, .int .i64 t190, .int .i64 t191, .int .i64 t192], .agg #[.int .i64 x209000_1, .int .i64 x209001_1, .int .i64 x209002_1, .bool x209003_1]] rfl (by (try simp only [List.map_toArray, List.map_cons, List.map_nil]); first | done | rfl | (simp only [List.length_drop, List.length_take]; rfl)) ?_; (with_reducible refine (axis_Brake.calls kj37 t189 t190 t191 t192 x209000_1 x209001_1 x209002_1 x209003_1 t216 t217 t218 t219 t220 _ A47.out).mono ?_); rintro e w129 ⟨rfl, hb⟩; refine ⟨_, rfl, ?_⟩; have n0_ := Aside0.mk (blk_below (g := gb194) (o := .cells #[.int .i64 t189, .int .i64 t190, .int .i64 t191, .int .i64 t192] 28 (0, 0)) (by (with_reducible repeat (first | refine blk_drewN ?_ _ | refine blk_drew ?_ | refine blk_alloc ?_ _)); exact BK194.out) hb); have n1_ := Aside0.mk (blk_below (g := gb208) (o := .cells #[.int .i64 x209000_1, .int .i64 x209001_1, .int .i64 x209002_1, .bool x209003_1] 45 (0, 0)) (by (with_reducible repeat (first | refine blk_drewN ?_ _ | refine blk_drew ?_ | refine blk_alloc ?_ _)); exact BK208.out) hb); have n2_ := Aside0.mk (below_step (by repeat (first | (with_reducible first | exact HB.out | apply below_alloc | apply pw_below_drewN | apply below_drew1 | refine below_set ?_ GE194.out | refine below_set ?_ GE208.out) | exact HB.out)) hb); clear BK194; clear BK208; clear HB; have BK194 := n0_; have BK208 := n1_; have HB := n2_; clear n0_ n1_ n2_; (try clear hb); (try clear hb2); (try clear hk); (try clear hi)) | ((with_reducible refine gate_dst (N := 10) rfl ?_); (try (refine gate_guard (by rfl) ?_; dsimp only)); refine box_event ?hg (N := 10) ?hd (cs := #[.int .i64 0, .int .i64 0, .int .i64 0, .bool false]) (t := 45) ?hr ?_; (case hd => rfl); (case hg => rfl); (case hr => first | (go_simp; done) | (go_simp; rfl)); intro gb221 hg w130 hbox hb; have n0_ := Aside0.mk (blk_below (g := gb194) (o := .cells #[.int .i64 t189, .int .i64 t190, .int .i64 t191, .int .i64 t192] 28 (0, 0)) (by (with_reducible repeat (first | refine blk_drewN ?_ _ | refine blk_drew ?_ | refine blk_alloc ?_ _)); exact BK194.out) hb); have n1_ := Aside0.mk (blk_below (g := gb208) (o := .cells #[.int .i64 x209000_1, .int .i64 x209001_1, .int .i64 x209002_1, .bool x209003_1] 45 (0, 0)) (by (with_reducible repeat (first | refine blk_drewN ?_ _ | refine blk_drew ?_ | refine blk_alloc ?_ _)); exact BK208.out) hb); have n2_ := Aside0.mk (below_step (by repeat (first | (with_reducible first | exact HB.out | apply below_alloc | apply pw_below_drewN | apply below_drew1 | refine below_set ?_ GE194.out | refine below_set ?_ GE208.out) | exact HB.out)) hb); have n3_ := Aside0.mk (hbox); have n4_ := Aside0.mk ((by rw [hg]; exact (below_size (by repeat (first | (with_reducible first | exact HB.out | apply below_alloc | apply pw_below_drewN | apply below_drew1 | refine below_set ?_ GE194.out | refine below_set ?_ GE208.out) | exact HB.out))) : w.heap.size ≤ gb221)); have n5_ := Aside0.mk ((by rw [hg]; exact (below_size (by repeat (first | (with_reducible first | exact HB.out | apply below_alloc | apply pw_below_drewN | apply below_drew1 | refine below_set ?_ GE194.out | refine below_set ?_ GE208.out) | exact HB.out))) : w.heap.size ≤ gb221)); have n6_ := Aside0.mk ((by rw [hg]; exact Nat.ne_of_lt (blk_lt (g := gb194) (o := .cells #[.int .i64 t189, .int .i64 t190, .int .i64 t191, .int .i64 t192] 28 (0, 0)) (by (with_reducible repeat (first | refine blk_drewN ?_ _ | refine blk_drew ?_ | refine blk_alloc ?_ _)); exact BK194.out)) : gb194 ≠ gb221)); have n7_ := Aside0.mk ((by rw [hg]; exact Nat.ne_of_gt (blk_lt (g := gb194) (o := .cells #[.int .i64 t189, .int .i64 t190, .int .i64 t191, .int .i64 t192] 28 (0, 0)) (by (with_reducible repeat (first | refine blk_drewN ?_ _ | refine blk_drew ?_ | refine blk_alloc ?_ _)); exact BK194.out)) : gb221 ≠ gb194)); have n8_ := Aside0.mk ((by rw [hg]; exact Nat.ne_of_lt (blk_lt (g := gb208) (o := .cells #[.int .i64 x209000_1, .int .i64 x209001_1, .int .i64 x209002_1, .bool x209003_1] 45 (0, 0)) (by (with_reducible repeat (first | refine blk_drewN ?_ _ | refine blk_drew ?_ | refine blk_alloc ?_ _)); exact BK208.out)) : gb208 ≠ gb221)); have n9_ := Aside0.mk ((by rw [hg]; exact Nat.ne_of_gt (blk_lt (g := gb208) (o := .cells #[.int .i64 x209000_1, .int .i64 x209001_1, .int .i64 x209002_1, .bool x209003_1] 45 (0, 0)) (by (with_reducible repeat (first | refine blk_drewN ?_ _ | refine blk_drew ?_ | refine blk_alloc ?_ _)); exact BK208.out)) : gb221 ≠ gb208)); clear BK194; clear BK208; clear HB; have BK194 := n0_; have BK208 := n1_; have HB := n2_; have BK221 := n3_; have GW221 := n4_; have GE221 := n5_; have NB194_221 := n6_; have NB221_194 := n7_; have NB208_221 := n8_; have NB221_208 := n9_; clear n0_ n1_ n2_ n3_ n4_ n5_ n6_ n7_ n8_ n9_; clear hb hbox hg; have hnb131 := NB221_194.out; have hnc131 := NB194_221.out; have hnb132 := NB221_208.out; have hnc132 := NB208_221.out; have hcz133_0 : w130.cell? ⟨gb221, 0, none⟩ = some (.int .i64 0) := (blk_cell BK221.out 0).trans rfl; have hcz133_1 : w130.cell? ⟨gb221, 1, none⟩ = some (.int .i64 0) := (blk_cell BK221.out 1).trans rfl; have hcz133_2 : w130.cell? ⟨gb221, 2, none⟩ = some (.int .i64 0) := (blk_cell BK221.out 2).trans rfl; have hcz133_3 : w130.cell? ⟨gb221, 3, none⟩ = some (.bool false) := (blk_cell BK221.out 3).trans rfl; have hfz133_0 := blk_frozen BK221.out 0; have hfz133_1 := blk_frozen BK221.out 1; have hfz133_2 := blk_frozen BK221.out 2; have hfz133_3 := blk_frozen BK221.out 3) | ((with_reducible refine gate_store (t := 45) (p := 10) rfl ?_); refine store_event (t := 45) (p := 10) (v := ?vo_w134) (w1 := ((((w130.setCell ⟨gb221, 0, none⟩ (.int .i64 t216)).setCell ⟨gb221, 1, none⟩ (.int .i64 t217)).setCell ⟨gb221, 2, none⟩ (.int .i64 t218)).setCell ⟨gb221, 3, none⟩ (.bool t219))) ?hg ?ho ?hn ?hr ?_; (case ho => rfl); (case hg => rfl); (case hn => rfl); (case hr => first | (go_simp; done) | (go_simp; rfl)); intro w134 hw; have n0_ : Aside0 (w134.heap[gb194]? = some (.cells #[.int .i64 t189, .int .i64 t190, .int .i64 t191, .int .i64 t192] 28 (0, 0))) := ⟨(by rw [hw]; exact (by (with_reducible repeat (first | refine blk_drewN ?_ _ | refine blk_drew ?_ | refine blk_alloc ?_ _)); refine blk_far ?_ NB194_221.out _; (with_reducible repeat (first | refine blk_drewN ?_ _ | refine blk_drew ?_ | refine blk_alloc ?_ _)); refine blk_far ?_ NB194_221.out _; (with_reducible repeat (first | refine blk_drewN ?_ _ | refine blk_drew ?_ | refine blk_alloc ?_ _)); refine blk_far ?_ NB194_221.out _; (with_reducible repeat (first | refine blk_drewN ?_ _ | refine blk_drew ?_ | refine blk_alloc ?_ _)); refine blk_far ?_ NB194_221.out _; (with_reducible repeat (first | refine blk_drewN ?_ _ | refine blk_drew ?_ | refine blk_alloc ?_ _)); exact BK194.out))⟩; have n1_ : Aside0 (w134.heap[gb208]? = some (.cells #[.int .i64 x209000_1, .int .i64 x209001_1, .int .i64 x209002_1, .bool x209003_1] 45 (0, 0))) := ⟨(by rw [hw]; exact (by (with_reducible repeat (first | refine blk_drewN ?_ _ | refine blk_drew ?_ | refine blk_alloc ?_ _)); refine blk_far ?_ NB208_221.out _; (with_reducible repeat (first | refine blk_drewN ?_ _ | refine blk_drew ?_ | refine blk_alloc ?_ _)); refine blk_far ?_ NB208_221.out _; (with_reducible repeat (first | refine blk_drewN ?_ _ | refine blk_drew ?_ | refine blk_alloc ?_ _)); refine blk_far ?_ NB208_221.out _; (with_reducible repeat (first | refine blk_drewN ?_ _ | refine blk_drew ?_ | refine blk_alloc ?_ _)); refine blk_far ?_ NB208_221.out _; (with_reducible repeat (first | refine blk_drewN ?_ _ | refine blk_drew ?_ | refine blk_alloc ?_ _)); exact BK208.out))⟩; have n2_ : Aside0 (w134.heap[gb221]? = some (.cells #[.int .i64 t216, .int .i64 t217, .int .i64 t218, .bool t219] 45 (0, 0))) := ⟨(by rw [hw]; exact (by (with_reducible repeat (first | refine blk_drewN ?_ _ | refine blk_drew ?_ | refine blk_alloc ?_ _)); refine blk_put (cs := #[.int .i64 t216, .int .i64 t217, .int .i64 t218, .bool false]) ?_ 3 _ rfl; (with_reducible repeat (first | refine blk_drewN ?_ _ | refine blk_drew ?_ | refine blk_alloc ?_ _)); refine blk_put (cs := #[.int .i64 t216, .int .i64 t217, .int .i64 0, .bool false]) ?_ 2 _ rfl; (with_reducible repeat (first | refine blk_drewN ?_ _ | refine blk_drew ?_ | refine blk_alloc ?_ _)); refine blk_put (cs := #[.int .i64 t216, .int .i64 0, .int .i64 0, .bool false]) ?_ 1 _ rfl; (with_reducible repeat (first | refine blk_drewN ?_ _ | refine blk_drew ?_ | refine blk_alloc ?_ _)); refine blk_put (cs := #[.int .i64 0, .int .i64 0, .int .i64 0, .bool false]) ?_ 0 _ rfl; (with_reducible repeat (first | refine blk_drewN ?_ _ | refine blk_drew ?_ | refine blk_alloc ?_ _)); exact BK221.out))⟩; have n3_ : Aside0 (Below w.heap.size w w134) := ⟨(by rw [hw]; exact (by repeat (first | (with_reducible first | exact HB.out | apply below_alloc | apply pw_below_drewN | apply below_drew1 | refine below_set ?_ GE194.out | refine below_set ?_ GE208.out | refine below_set ?_ GE221.out) | exact HB.out)))⟩; clear hw; clear BK194; clear BK208; clear BK221; clear HB; have BK194 := n0_; have BK208 := n1_; have BK221 := n2_; have HB := n3_; clear n0_ n1_ n2_ n3_; have hcz135_0 : w134.cell? ⟨gb194, 0, none⟩ = some (.int .i64 t189) := (blk_cell BK194.out 0).trans rfl; have hcz135_1 : w134.cell? ⟨gb194, 1, none⟩ = some (.int .i64 t190) := (blk_cell BK194.out 1).trans rfl; have hcz135_2 : w134.cell? ⟨gb194, 2, none⟩ = some (.int .i64 t191) := (blk_cell BK194.out 2).trans rfl; have hcz135_3 : w134.cell? ⟨gb194, 3, none⟩ = some (.int .i64 t192) := (blk_cell BK194.out 3).trans rfl; have hfz135_0 := blk_frozen BK194.out 0; have hfz135_1 := blk_frozen BK194.out 1; have hfz135_2 := blk_frozen BK194.out 2; have hfz135_3 := blk_frozen BK194.out 3; have hcz136_0 : w134.cell? ⟨gb221, 0, none⟩ = some (.int .i64 t216) := (blk_cell BK221.out 0).trans rfl; have hcz136_1 : w134.cell? ⟨gb221, 1, none⟩ = some (.int .i64 t217) := (blk_cell BK221.out 1).trans rfl; have hcz136_2 : w134.cell? ⟨gb221, 2, none⟩ = some (.int .i64 t218) := (blk_cell BK221.out 2).trans rfl; have hcz136_3 : w134.cell? ⟨gb221, 3, none⟩ = some (.bool t219) := (blk_cell BK221.out 3).trans rfl; have hfz136_0 := blk_frozen BK221.out 0; have hfz136_1 := blk_frozen BK221.out 1; have hfz136_2 := blk_frozen BK221.out 2; have hfz136_3 := blk_frozen BK221.out 3) | ((with_reducible refine gate_callee (f := 31) rfl ?_); refine goesL_ (some 68) rfl rfl Try.func31 (by kernel_rfl) rfl #[.agg #[.int .i64 t189, .int .i64 t190, .int .i64 t191, .int .i64 t192], .agg #[.int .i64 t216, .int .i64 t217, .int .i64 t218, .bool t219], .int .i64 65] rfl (by (try simp only [List.map_toArray, List.map_cons, List.map_nil]); first | done | rfl | (simp only [List.length_drop, List.length_take]; rfl)) ?_; (with_reducible refine (axis_Run.calls kj37 t189 t190 t191 t192 t216 t217 t218 t219 65 t222 t225 _ A48.out).mono ?_); rintro e w137 ⟨v223, rfl, ho0, hb⟩; refine ⟨_, rfl, ?_⟩; have n0_ := Aside0.mk (Kd.R_lower (Kd.R_newB (Kd.R_newB ho0 (g := gb208) (o := .cells #[.int .i64 x209000_1, .int .i64 x209001_1, .int .i64 x209002_1, .bool x209003_1] 45 (0, 0)) (by (with_reducible repeat (first | refine blk_drewN ?_ _ | refine blk_drew ?_ | refine blk_alloc ?_ _)); exact BK208.out)) (g := gb221) (o := .cells #[.int .i64 t216, .int .i64 t217, .int .i64 t218, .bool t219] 45 (0, 0)) (by (with_reducible repeat (first | refine blk_drewN ?_ _ | refine blk_drew ?_ | refine blk_alloc ?_ _)); exact BK221.out)) (below_size (by repeat (first | (with_reducible first | exact HB.out | apply below_alloc | apply pw_below_drewN | apply below_drew1 | refine below_set ?_ GE194.out | refine below_set ?_ GE208.out | refine below_set ?_ GE221.out) | exact HB.out)))); have n1_ := Aside0.mk (blk_below (g := gb194) (o := .cells #[.int .i64 t189, .int .i64 t190, .int .i64 t191, .int .i64 t192] 28 (0, 0)) (by (with_reducible repeat (first | refine blk_drewN ?_ _ | refine blk_drew ?_ | refine blk_alloc ?_ _)); exact BK194.out) hb); have n2_ := Aside0.mk (blk_below (g := gb208) (o := .cells #[.int .i64 x209000_1, .int .i64 x209001_1, .int .i64 x209002_1, .bool x209003_1] 45 (0, 0)) (by (with_reducible repeat (first | refine blk_drewN ?_ _ | refine blk_drew ?_ | refine blk_alloc ?_ _)); exact BK208.out) hb); have n3_ := Aside0.mk (blk_below (g := gb221) (o := .cells #[.int .i64 t216, .int .i64 t217, .int .i64 t218, .bool t219] 45 (0, 0)) (by (with_reducible repeat (first | refine blk_drewN ?_ _ | refine blk_drew ?_ | refine blk_alloc ?_ _)); exact BK221.out) hb); have n4_ := Aside0.mk (below_step (by repeat (first | (with_reducible first | exact HB.out | apply below_alloc | apply pw_below_drewN | apply below_drew1 | refine below_set ?_ GE194.out | refine below_set ?_ GE208.out | refine below_set ?_ GE221.out) | exact HB.out)) hb); clear BK194; clear BK208; clear BK221; clear HB; have HO224 := n0_; have BK194 := n1_; have BK208 := n2_; have BK221 := n3_; have HB := n4_; clear n0_ n1_ n2_ n3_ n4_; (try clear hb); (try clear hb2); (try clear hk); (try clear hi); (try clear ho0)))
                  go_ret
                  exact ⟨by first | rfl | (simp [errW_none, errW_some] <;> rfl) | (simp [*, errW_none, errW_some] <;> rfl), by repeat (first | (with_reducible first | exact HB.out | apply below_alloc | apply pw_below_drewN | apply below_drew1 | refine below_set ?_ GE194.out | refine below_set ?_ GE208.out | refine below_set ?_ GE221.out) | exact HB.out)⟩
              · rw [if_neg c49] at H
                have c49b0 : (t207 == 0) = false := beq_eq_false_iff_ne.mpr c49
                have c49b1 : (t207 != 0) = true := bne_iff_ne.mpr c49
                obtain rfl := Option.some.inj H
                have hnb138 := NB194_208.out
                have hnc138 := NB208_194.out
                have hcz139_0 : wc.cell? ⟨gb194, 0, none⟩ = some (.int .i64 t189) := (blk_cell BK194.out 0).trans rfl
                have hcz139_1 : wc.cell? ⟨gb194, 1, none⟩ = some (.int .i64 t190) := (blk_cell BK194.out 1).trans rfl
                have hcz139_2 : wc.cell? ⟨gb194, 2, none⟩ = some (.int .i64 t191) := (blk_cell BK194.out 2).trans rfl
                have hcz139_3 : wc.cell? ⟨gb194, 3, none⟩ = some (.int .i64 t192) := (blk_cell BK194.out 3).trans rfl
                have hfz139_0 := blk_frozen BK194.out 0
                have hfz139_1 := blk_frozen BK194.out 1
                have hfz139_2 := blk_frozen BK194.out 2
                have hfz139_3 := blk_frozen BK194.out 3
                have hcz140_0 : wc.cell? ⟨gb208, 0, none⟩ = some (.int .i64 x209000_1) := (blk_cell BK208.out 0).trans rfl
                have hcz140_1 : wc.cell? ⟨gb208, 1, none⟩ = some (.int .i64 x209001_1) := (blk_cell BK208.out 1).trans rfl
                have hcz140_2 : wc.cell? ⟨gb208, 2, none⟩ = some (.int .i64 x209002_1) := (blk_cell BK208.out 2).trans rfl
                have hcz140_3 : wc.cell? ⟨gb208, 3, none⟩ = some (.bool x209003_1) := (blk_cell BK208.out 3).trans rfl
                have hfz140_0 := blk_frozen BK208.out 0
                have hfz140_1 := blk_frozen BK208.out 1
                have hfz140_2 := blk_frozen BK208.out 2
                have hfz140_3 := blk_frozen BK208.out 3
                go_wp2_with (first | ((with_reducible refine gate_callee (f := 26) rfl ?_); refine goesL_ (some 62) rfl rfl Try.func26 (by kernel_rfl) rfl #[.agg #[.int .i64 t189, .int .i64 t190, .int .i64 t191, .int .i64 t192], .agg #[.int .i64 x209000_1, .int .i64 x209001_1, .int .i64 x209002_1, .bool x209003_1]] rfl (by (try simp only [List.map_toArray, List.map_cons, List.map_nil]); first | done | rfl | (simp only [List.length_drop, List.length_take]; rfl)) ?_; (with_reducible refine (axis_Brake.calls kj37 t189 t190 t191 t192 x209000_1 x209001_1 x209002_1 x209003_1 t216 t217 t218 t219 t220 _ A47.out).mono ?_); rintro e w141 ⟨rfl, hb⟩; refine ⟨_, rfl, ?_⟩; have n0_ := Aside0.mk (blk_below (g := gb194) (o := .cells #[.int .i64 t189, .int .i64 t190, .int .i64 t191, .int .i64 t192] 28 (0, 0)) (by (with_reducible repeat (first | refine blk_drewN ?_ _ | refine blk_drew ?_ | refine blk_alloc ?_ _)); exact BK194.out) hb); have n1_ := Aside0.mk (blk_below (g := gb208) (o := .cells #[.int .i64 x209000_1, .int .i64 x209001_1, .int .i64 x209002_1, .bool x209003_1] 45 (0, 0)) (by (with_reducible repeat (first | refine blk_drewN ?_ _ | refine blk_drew ?_ | refine blk_alloc ?_ _)); exact BK208.out) hb); have n2_ := Aside0.mk (below_step (by repeat (first | (with_reducible first | exact HB.out | apply below_alloc | apply pw_below_drewN | apply below_drew1 | refine below_set ?_ GE194.out | refine below_set ?_ GE208.out) | exact HB.out)) hb); clear BK194; clear BK208; clear HB; have BK194 := n0_; have BK208 := n1_; have HB := n2_; clear n0_ n1_ n2_; (try clear hb); (try clear hb2); (try clear hk); (try clear hi)) | ((with_reducible refine gate_dst (N := 10) rfl ?_); (try (refine gate_guard (by rfl) ?_; dsimp only)); refine box_event ?hg (N := 10) ?hd (cs := #[.int .i64 0, .int .i64 0, .int .i64 0, .bool false]) (t := 45) ?hr ?_; (case hd => rfl); (case hg => rfl); (case hr => first | (go_simp; done) | (go_simp; rfl)); intro gb221 hg w142 hbox hb; have n0_ := Aside0.mk (blk_below (g := gb194) (o := .cells #[.int .i64 t189, .int .i64 t190, .int .i64 t191, .int .i64 t192] 28 (0, 0)) (by (with_reducible repeat (first | refine blk_drewN ?_ _ | refine blk_drew ?_ | refine blk_alloc ?_ _)); exact BK194.out) hb); have n1_ := Aside0.mk (blk_below (g := gb208) (o := .cells #[.int .i64 x209000_1, .int .i64 x209001_1, .int .i64 x209002_1, .bool x209003_1] 45 (0, 0)) (by (with_reducible repeat (first | refine blk_drewN ?_ _ | refine blk_drew ?_ | refine blk_alloc ?_ _)); exact BK208.out) hb); have n2_ := Aside0.mk (below_step (by repeat (first | (with_reducible first | exact HB.out | apply below_alloc | apply pw_below_drewN | apply below_drew1 | refine below_set ?_ GE194.out | refine below_set ?_ GE208.out) | exact HB.out)) hb); have n3_ := Aside0.mk (hbox); have n4_ := Aside0.mk ((by rw [hg]; exact (below_size (by repeat (first | (with_reducible first | exact HB.out | apply below_alloc | apply pw_below_drewN | apply below_drew1 | refine below_set ?_ GE194.out | refine below_set ?_ GE208.out) | exact HB.out))) : w.heap.size ≤ gb221)); have n5_ := Aside0.mk ((by rw [hg]; exact (below_size (by repeat (first | (with_reducible first | exact HB.out | apply below_alloc | apply pw_below_drewN | apply below_drew1 | refine below_set ?_ GE194.out | refine below_set ?_ GE208.out) | exact HB.out))) : w.heap.size ≤ gb221)); have n6_ := Aside0.mk ((by rw [hg]; exact Nat.ne_of_lt (blk_lt (g := gb194) (o := .cells #[.int .i64 t189, .int .i64 t190, .int .i64 t191, .int .i64 t192] 28 (0, 0)) (by (with_reducible repeat (first | refine blk_drewN ?_ _ | refine blk_drew ?_ | refine blk_alloc ?_ _)); exact BK194.out)) : gb194 ≠ gb221)); have n7_ := Aside0.mk ((by rw [hg]; exact Nat.ne_of_gt (blk_lt (g := gb194) (o := .cells #[.int .i64 t189, .int .i64 t190, .int .i64 t191, .int .i64 t192] 28 (0, 0)) (by (with_reducible repeat (first | refine blk_drewN ?_ _ | refine blk_drew ?_ | refine blk_alloc ?_ _)); exact BK194.out)) : gb221 ≠ gb194)); have n8_ := Aside0.mk ((by rw [hg]; exact Nat.ne_of_lt (blk_lt (g := gb208) (o := .cells #[.int .i64 x209000_1, .int .i64 x209001_1, .int .i64 x209002_1, .bool x209003_1] 45 (0, 0)) (by (with_reducible repeat (first | refine blk_drewN ?_ _ | refine blk_drew ?_ | refine blk_alloc ?_ _)); exact BK208.out)) : gb208 ≠ gb221)); have n9_ := Aside0.mk ((by rw [hg]; exact Nat.ne_of_gt (blk_lt (g := gb208) (o := .cells #[.int .i64 x209000_1, .int .i64 x209001_1, .int .i64 x209002_1, .bool x209003_1] 45 (0, 0)) (by (with_reducible repeat (first | refine blk_drewN ?_ _ | refine blk_drew ?_ | refine blk_alloc ?_ _)); exact BK208.out)) : gb221 ≠ gb208)); clear BK194; clear BK208; clear HB; have BK194 := n0_; have BK208 := n1_; have HB := n2_; have BK221 := n3_; have GW221 := n4_; have GE221 := n5_; have NB194_221 := n6_; have NB221_194 := n7_; have NB208_221 := n8_; have NB221_208 := n9_; clear n0_ n1_ n2_ n3_ n4_ n5_ n6_ n7_ n8_ n9_; clear hb hbox hg; have hnb143 := NB221_194.out; have hnc143 := NB194_221.out; have hnb144 := NB221_208.out; have hnc144 := NB208_221.out; have hcz145_0 : w142.cell? ⟨gb221, 0, none⟩ = some (.int .i64 0) := (blk_cell BK221.out 0).trans rfl; have hcz145_1 : w142.cell? ⟨gb221, 1, none⟩ = some (.int .i64 0) := (blk_cell BK221.out 1).trans rfl; have hcz145_2 : w142.cell? ⟨gb221, 2, none⟩ = some (.int .i64 0) := (blk_cell BK221.out 2).trans rfl; have hcz145_3 : w142.cell? ⟨gb221, 3, none⟩ = some (.bool false) := (blk_cell BK221.out 3).trans rfl; have hfz145_0 := blk_frozen BK221.out 0; have hfz145_1 := blk_frozen BK221.out 1; have hfz145_2 := blk_frozen BK221.out 2; have hfz145_3 := blk_frozen BK221.out 3) | ((with_reducible refine gate_store (t := 45) (p := 10) rfl ?_); refine store_event (t := 45) (p := 10) (v := ?vo_w146) (w1 := ((((w142.setCell ⟨gb221, 0, none⟩ (.int .i64 t216)).setCell ⟨gb221, 1, none⟩ (.int .i64 t217)).setCell ⟨gb221, 2, none⟩ (.int .i64 t218)).setCell ⟨gb221, 3, none⟩ (.bool t219))) ?hg ?ho ?hn ?hr ?_; (case ho => rfl); (case hg => rfl); (case hn => rfl); (case hr => first | (go_simp; done) | (go_simp; rfl)); intro w146 hw; have n0_ : Aside0 (w146.heap[gb194]? = some (.cells #[.int .i64 t189, .int .i64 t190, .int .i64 t191, .int .i64 t192] 28 (0, 0))) := ⟨(by rw [hw]; exact (by (with_reducible repeat (first | refine blk_drewN ?_ _ | refine blk_drew ?_ | refine blk_alloc ?_ _)); refine blk_far ?_ NB194_221.out _; (with_reducible repeat (first | refine blk_drewN ?_ _ | refine blk_drew ?_ | refine blk_alloc ?_ _)); refine blk_far ?_ NB194_221.out _; (with_reducible repeat (first | refine blk_drewN ?_ _ | refine blk_drew ?_ | refine blk_alloc ?_ _)); refine blk_far ?_ NB194_221.out _; (with_reducible repeat (first | refine blk_drewN ?_ _ | refine blk_drew ?_ | refine blk_alloc ?_ _)); refine blk_far ?_ NB194_221.out _; (with_reducible repeat (first | refine blk_drewN ?_ _ | refine blk_drew ?_ | refine blk_alloc ?_ _)); exact BK194.out))⟩; have n1_ : Aside0 (w146.heap[gb208]? = some (.cells #[.int .i64 x209000_1, .int .i64 x209001_1, .int .i64 x209002_1, .bool x209003_1] 45 (0, 0))) := ⟨(by rw [hw]; exact (by (with_reducible repeat (first | refine blk_drewN ?_ _ | refine blk_drew ?_ | refine blk_alloc ?_ _)); refine blk_far ?_ NB208_221.out _; (with_reducible repeat (first | refine blk_drewN ?_ _ | refine blk_drew ?_ | refine blk_alloc ?_ _)); refine blk_far ?_ NB208_221.out _; (with_reducible repeat (first | refine blk_drewN ?_ _ | refine blk_drew ?_ | refine blk_alloc ?_ _)); refine blk_far ?_ NB208_221.out _; (with_reducible repeat (first | refine blk_drewN ?_ _ | refine blk_drew ?_ | refine blk_alloc ?_ _)); refine blk_far ?_ NB208_221.out _; (with_reducible repeat (first | refine blk_drewN ?_ _ | refine blk_drew ?_ | refine blk_alloc ?_ _)); exact BK208.out))⟩; have n2_ : Aside0 (w146.heap[gb221]? = some (.cells #[.int .i64 t216, .int .i64 t217, .int .i64 t218, .bool t219] 45 (0, 0))) := ⟨(by rw [hw]; exact (by (with_reducible repeat (first | refine blk_drewN ?_ _ | refine blk_drew ?_ | refine blk_alloc ?_ _)); refine blk_put (cs := #[.int .i64 t216, .int .i64 t217, .int .i64 t218, .bool false]) ?_ 3 _ rfl; (with_reducible repeat (first | refine blk_drewN ?_ _ | refine blk_drew ?_ | refine blk_alloc ?_ _)); refine blk_put (cs := #[.int .i64 t216, .int .i64 t217, .int .i64 0, .bool false]) ?_ 2 _ rfl; (with_reducible repeat (first | refine blk_drewN ?_ _ | refine blk_drew ?_ | refine blk_alloc ?_ _)); refine blk_put (cs := #[.int .i64 t216, .int .i64 0, .int .i64 0, .bool false]) ?_ 1 _ rfl; (with_reducible repeat (first | refine blk_drewN ?_ _ | refine blk_drew ?_ | refine blk_alloc ?_ _)); refine blk_put (cs := #[.int .i64 0, .int .i64 0, .int .i64 0, .bool false]) ?_ 0 _ rfl; (with_reducible repeat (first | refine blk_drewN ?_ _ | refine blk_drew ?_ | refine blk_alloc ?_ _)); exact BK221.out))⟩; have n3_ : Aside0 (Below w.heap.size w w146) := ⟨(by rw [hw]; exact (by repeat (first | (with_reducible first | exact HB.out | apply below_alloc | apply pw_below_drewN | apply below_drew1 | refine below_set ?_ GE194.out | refine below_set ?_ GE208.out | refine below_set ?_ GE221.out) | exact HB.out)))⟩; clear hw; clear BK194; clear BK208; clear BK221; clear HB; have BK194 := n0_; have BK208 := n1_; have BK221 := n2_; have HB := n3_; clear n0_ n1_ n2_ n3_; have hcz147_0 : w146.cell? ⟨gb194, 0, none⟩ = some (.int .i64 t189) := (blk_cell BK194.out 0).trans rfl; have hcz147_1 : w146.cell? ⟨gb194, 1, none⟩ = some (.int .i64 t190) := (blk_cell BK194.out 1).trans rfl; have hcz147_2 : w146.cell? ⟨gb194, 2, none⟩ = some (.int .i64 t191) := (blk_cell BK194.out 2).trans rfl; have hcz147_3 : w146.cell? ⟨gb194, 3, none⟩ = some (.int .i64 t192) := (blk_cell BK194.out 3).trans rfl; have hfz147_0 := blk_frozen BK194.out 0; have hfz147_1 := blk_frozen BK194.out 1; have hfz147_2 := blk_frozen BK194.out 2; have hfz147_3 := blk_frozen BK194.out 3; have hcz148_0 : w146.cell? ⟨gb221, 0, none⟩ = some (.int .i64 t216) := (blk_cell BK221.out 0).trans rfl; have hcz148_1 : w146.cell? ⟨gb221, 1, none⟩ = some (.int .i64 t217) := (blk_cell BK221.out 1).trans rfl; have hcz148_2 : w146.cell? ⟨gb221, 2, none⟩ = some (.int .i64 t218) := (blk_cell BK221.out 2).trans rfl; have hcz148_3 : w146.cell? ⟨gb221, 3, none⟩ = some (.bool t219) := (blk_cell BK221.out 3).trans rfl; have hfz148_0 := blk_frozen BK221.out 0; have hfz148_1 := blk_frozen BK221.out 1; have hfz148_2 := blk_frozen BK221.out 2; have hfz148_3 := blk_frozen BK221.out 3) | ((with_reducible refine gate_callee (f := 31) rfl ?_); refine goesL_ (some 68) rfl rfl Try.func31 (by kernel_rfl) rfl #[.agg #[.int .i64 t189, .int .i64 t190, .int .i64 t191, .int .i64 t192], .agg #[.int .i64 t216, .int .i64 t217, .int .i64 t218, .bool t219], .int .i64 65] rfl (by (try simp only [List.map_toArray, List.map_cons, List.map_nil]); first | done | rfl | (simp only [List.length_drop, List.length_take]; rfl)) ?_; (with_reducible refine (axis_Run.calls kj37 t189 t190 t191 t192 t216 t217 t218 t219 65 t222 t225 _ A48.out).mono ?_); rintro e w149 ⟨v223, rfl, ho0, hb⟩; refine ⟨_, rfl, ?_⟩; have n0_ := Aside0.mk (Kd.R_lower (Kd.R_newB (Kd.R_newB ho0 (g := gb208) (o := .cells #[.int .i64 x209000_1, .int .i64 x209001_1, .int .i64 x209002_1, .bool x209003_1] 45 (0, 0)) (by (with_reducible repeat (first | refine blk_drewN ?_ _ | refine blk_drew ?_ | refine blk_alloc ?_ _)); exact BK208.out)) (g := gb221) (o := .cells #[.int .i64 t216, .int .i64 t217, .int .i64 t218, .bool t219] 45 (0, 0)) (by (with_reducible repeat (first | refine blk_drewN ?_ _ | refine blk_drew ?_ | refine blk_alloc ?_ _)); exact BK221.out)) (below_size (by repeat (first | (with_reducible first | exact HB.out | apply below_alloc | apply pw_below_drewN | apply below_drew1 | refine below_set ?_ GE194.out | refine below_set ?_ GE208.out | refine below_set ?_ GE221.out) | exact HB.out)))); have n1_ := Aside0.mk (blk_below (g := gb194) (o := .cells #[.int .i64 t189, .int .i64 t190, .int .i64 t191, .int .i64 t192] 28 (0, 0)) (by (with_reducible repeat (first | refine blk_drewN ?_ _ | refine blk_drew ?_ | refine blk_alloc ?_ _)); exact BK194.out) hb); have n2_ := Aside0.mk (blk_below (g := gb208) (o := .cells #[.int .i64 x209000_1, .int .i64 x209001_1, .int .i64 x209002_1, .bool x209003_1] 45 (0, 0)) (by (with_reducible repeat (first | refine blk_drewN ?_ _ | refine blk_drew ?_ | refine blk_alloc ?_ _)); exact BK208.out) hb); have n3_ := Aside0.mk (blk_below (g := gb221) (o := .cells #[.int .i64 t216, .int .i64 t217, .int .i64 t218, .bool t219] 45 (0, 0)) (by (with_reducible repeat (first | refine blk_drewN ?_ _ | refine blk_drew ?_ | refine blk_alloc ?_ _)); exact BK221.out) hb); have n4_ := Aside0.mk (below_step (by repeat (first | (with_reducible first | exact HB.out | apply below_alloc | apply pw_below_drewN | apply below_drew1 | refine below_set ?_ GE194.out | refine below_set ?_ GE208.out | refine below_set ?_ GE221.out) | exact HB.out)) hb); clear BK194; clear BK208; clear BK221; clear HB; have HO224 := n0_; have BK194 := n1_; have BK208 := n2_; have BK221 := n3_; have HB := n4_; clear n0_ n1_ n2_ n3_ n4_; (try clear hb); (try clear hb2); (try clear hk); (try clear hi); (try clear ho0)))
                go_ret
                exact ⟨by first | rfl | (simp [errW_none, errW_some] <;> rfl) | (simp [*, errW_none, errW_some] <;> rfl), by repeat (first | (with_reducible first | exact HB.out | apply below_alloc | apply pw_below_drewN | apply below_drew1 | refine below_set ?_ GE194.out | refine below_set ?_ GE208.out | refine below_set ?_ GE221.out) | exact HB.out)⟩
  · replace c4 := Bool.eq_false_iff.mpr c4
    subst c4
    have H1 : (some false) = some r := by rw [if_neg (show ¬ (false = true) by decide)] at H; exact H
    clear H
    have H := H1
    clear H1
    obtain rfl := Option.some.inj H
    go_enter Try.func9, Try.ntmps9
    go_wp2_with (first | ((with_reducible refine gate_callee (f := 22) rfl ?_); refine goesL_ (some 15) rfl rfl Try.func22 (by kernel_rfl) rfl #[] rfl (by (try simp only [List.map_toArray, List.map_cons, List.map_nil]); first | done | rfl | (simp only [List.length_drop, List.length_take]; rfl)) ?_; (with_reducible refine (spykeep2_goes.calls k  false _ A3.out).mono ?_); rintro e w150 ⟨rfl, hb⟩; refine ⟨_, rfl, ?_⟩; have n0_ := Aside0.mk (below_step (by repeat (first | (with_reducible first | exact HB.out | apply below_alloc | apply pw_below_drewN | apply below_drew1) | exact HB.out)) hb); clear HB; have HB := n0_; clear n0_; (try clear hb); (try clear hb2); (try clear hk); (try clear hi)))
    go_ret
    exact ⟨by first | rfl | (simp [errW_none, errW_some] <;> rfl) | (simp [*, errW_none, errW_some] <;> rfl), by repeat (first | (with_reducible first | exact HB.out | apply below_alloc | apply pw_below_drewN | apply below_drew1) | exact HB.out)⟩

/-- THE ONE PURE STATEMENT of spykeep2_AxisStops: yours. -/
def spykeep2_AxisStops.Pure : Prop := ∀ (l0 : List Int) (a1 : Int), l0.length ≤ maxLen → l0.length * 8 ≤ 140737488351232 → (∀ x ∈ l0, (Lit.int .i64 x).wf = true) → (Lit.int .i64 a1).wf = true → ∃ k, spykeep2_AxisStops.f k l0 a1 = some true
theorem spykeep2_AxisStops.walk (P : spykeep2_AxisStops.Pure) (a0 : Option Addr) (len0 cap0 : Nat) (z0 : List Int) (a1 : Int) (w : World) (w0 : (a0 = none ∧ len0 = 0 ∧ cap0 = 0 ∧ z0 = []) ∨ ∃ x, a0 = some x ∧ len0 ≤ cap0 ∧ cap0 ≤ maxLen ∧ z0.length = cap0 ∧ (∀ i, i < z0.length → w.cell? (x.add i) = some (.int .i64 (z0.getD i 0))) ∧ ∀ n ∈ z0, (Lit.int .i64 n).wf = true) (y0 : len0 * 8 ≤ 140737488351232) (w1 : (Lit.int .i64 a1).wf = true) :
    Calls Try.prog 9 #[.slice a0 len0 cap0, .int .i64 a1] w fun e w' => e = .returned (.bool true) ∧ Below w.heap.size w w' := by
  obtain ⟨l0, rfl, hr0, hm0, hw0, hc0⟩ := ReadsInt.ofRowC w0
  obtain ⟨k, h⟩ := P l0 a1 hm0 y0 hw0 w1
  refine (spykeep2_AxisStops.calls k _ _ l0 a1 true w (Kd.C_of_reads (d := (0 : Int)) (h1 := fun _ => rfl) hr0) hc0 h).mono ?_
  rintro e w' ⟨rfl, hd⟩
  exact ⟨rfl, hd⟩

end Go.Proofs.Ytmdphfjpocmooaa.PAxisStops
