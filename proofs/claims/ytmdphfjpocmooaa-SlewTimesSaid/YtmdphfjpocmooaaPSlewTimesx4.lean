-- Written by a program of this session out of the translation (wip/tools).
import Derived.Test.YtmdphfjpocmooaaPSlewTimesx0
import Derived.Test.YtmdphfjpocmooaaPSlewTimesx2
import Derived.Test.YtmdphfjpocmooaaPSlewTimesx3
namespace Go.Proofs.Ytmdphfjpocmooaa.PSlewTimes
open Go.RowKit Go.Proofs.YtmdphfjpocmooaaW.PrintWords Go.Proofs.YtmdphfjpocmooaaW.PrintLast Go.Proofs.YtmdphfjpocmooaaW.PrintMore
attribute [local go_sem] max2_int min2_int max_two min_two max_three min_three max_four min_four   -- for this text's walks alone
set_option linter.unusedVariables false
set_option linter.unusedSimpArgs false

/-! ### spykeep2_SlewTimes: function 4 -/
def spykeep2_SlewTimes.j0 : Nat → Int → Int → Bool → Int → Int → Int → Int → Option (Bool)
  | 0, _, _, _, _, _, _, _ => none
  | k + 1, x7, x8, x79, x167000, x167001, x167002, x167003 => if x79 = true then (some false) else (if x7 = 0 then (some (x8 == 0)) else (if x167003 = 0 then (none) else (if x167002 = 0 then (none) else (if x8 ≥ (wrap64 ((wrap64 (Int.tdiv (wrap64 ((wrap64 (x7 + x167002)) - 1)) x167002)) + 1)) then (some (decide (x8 ≤ (wrap64 ((wrap64 ((wrap64 (Int.tdiv x7 x167002)) + (wrap64 (2 * (wrap64 (Int.tdiv (wrap64 ((wrap64 (x167002 + x167003)) - 1)) x167003)))))) + 3))))) else (some false)))))
def spykeep2_SlewTimes.f (k : Nat) (l0 : List Int) : Option (Bool) := (spykeep2_slews.f k).bind fun t159 => (if t159 = true then ((spymake_Stream_Axis.f k l0 0).bind fun bt161 => ((spymake_Stream_Inside.f l0 bt161.2.2.2.2 bt161.1 bt161.2.1 bt161.2.2.1 bt161.2.2.2.1).bind fun bt167 => ((spymake_Stream_Inside.f l0 bt167.2 bt161.1 bt161.2.1 bt161.2.2.1 bt161.2.2.2.1).bind fun bt169 => ((slew_Steps.f k bt161.1 bt161.2.1 bt161.2.2.1 bt161.2.2.2.1 bt167.1 bt169.1).bind fun bt171 => ((slew_Steps.f k bt161.1 bt161.2.1 bt161.2.2.1 bt161.2.2.2.1 bt169.1 bt167.1).bind fun bt173 => ((slew_Steps.f k bt161.1 bt161.2.1 bt161.2.2.1 bt161.2.2.2.1 bt161.1 (wrap64 (bt161.1 + (mx (wrap64 (bt169.1 - bt167.1)) (wrap64 (bt167.1 - bt169.1)))))).bind fun bt175 => (if bt171.2 = 0 then (if bt173.2 = 0 then (if bt175.2 = 0 then (if bt171.1 = bt173.1 then (spykeep2_SlewTimes.j0 k (mx (wrap64 (bt169.1 - bt167.1)) (wrap64 (bt167.1 - bt169.1))) bt171.1 (bt171.1 != bt175.1) bt161.1 bt161.2.1 bt161.2.2.1 bt161.2.2.2.1) else (spykeep2_SlewTimes.j0 k (mx (wrap64 (bt169.1 - bt167.1)) (wrap64 (bt167.1 - bt169.1))) bt171.1 true bt161.1 bt161.2.1 bt161.2.2.1 bt161.2.2.2.1)) else (spykeep2_SlewTimes.j0 k (mx (wrap64 (bt169.1 - bt167.1)) (wrap64 (bt167.1 - bt169.1))) bt171.1 true bt161.1 bt161.2.1 bt161.2.2.1 bt161.2.2.2.1)) else (spykeep2_SlewTimes.j0 k (mx (wrap64 (bt169.1 - bt167.1)) (wrap64 (bt167.1 - bt169.1))) bt171.1 true bt161.1 bt161.2.1 bt161.2.2.1 bt161.2.2.2.1)) else (spykeep2_SlewTimes.j0 k (mx (wrap64 (bt169.1 - bt167.1)) (wrap64 (bt167.1 - bt169.1))) bt171.1 true bt161.1 bt161.2.1 bt161.2.2.1 bt161.2.2.2.1)))))))) else (some false))
theorem spykeep2_SlewTimes.mono_l : ∀ k, (∀ y0 y1 y2 y3 y4 y5 y6, LeO (spykeep2_SlewTimes.j0 k y0 y1 y2 y3 y4 y5 y6) (spykeep2_SlewTimes.j0 (k + 1) y0 y1 y2 y3 y4 y5 y6))
  | 0 => fun _ _ _ _ _ _ _ r h => by simp [spykeep2_SlewTimes.j0] at h
  | k + 1 => by
    have ih0 := spykeep2_SlewTimes.mono_l k
    · intro y0 y1 y2 y3 y4 y5 y6
      unfold spykeep2_SlewTimes.j0
      repeat' first
      | (with_reducible exact ih0 _ _ _ _ _ _ _)
      | (with_reducible exact slew_Steps.mono _ _ _ _ _ _ _)
      | (with_reducible exact spykeep2_slews.mono _)
      | (with_reducible exact spymake_Stream_Axis.mono _ _ _)
      | (with_reducible exact LeO.refl _)
      | (with_reducible exact LeO.none _)
      | (with_reducible refine LeO.ite ?_ ?_)
      | (with_reducible refine LeO.bind ?_ (fun _ => ?_))
      | exact ih0 _ _ _ _ _ _ _
      | exact slew_Steps.mono _ _ _ _ _ _ _
      | exact spykeep2_slews.mono _
      | exact spymake_Stream_Axis.mono _ _ _
      | exact LeO.none _
      | refine LeO.ite ?_ ?_
      | refine LeO.bind ?_ (fun _ => ?_)
theorem spykeep2_SlewTimes.mono : ∀ a0 k, LeO (spykeep2_SlewTimes.f k a0) (spykeep2_SlewTimes.f (k + 1) a0) := by
  intro a0 k
  have ih0 := spykeep2_SlewTimes.mono_l k
  unfold spykeep2_SlewTimes.f
  repeat' first
      | (with_reducible exact ih0 _ _ _ _ _ _ _)
      | (with_reducible exact slew_Steps.mono _ _ _ _ _ _ _)
      | (with_reducible exact spykeep2_slews.mono _)
      | (with_reducible exact spymake_Stream_Axis.mono _ _ _)
      | (with_reducible exact LeO.refl _)
      | (with_reducible exact LeO.none _)
      | (with_reducible refine LeO.ite ?_ ?_)
      | (with_reducible refine LeO.bind ?_ (fun _ => ?_))
      | exact ih0 _ _ _ _ _ _ _
      | exact slew_Steps.mono _ _ _ _ _ _ _
      | exact spykeep2_slews.mono _
      | exact spymake_Stream_Axis.mono _ _ _
      | exact LeO.none _
      | refine LeO.ite ?_ ?_
      | refine LeO.bind ?_ (fun _ => ?_)
def spykeep2_SlewTimes.T5 : Bool × List (List Nat × List Nat) := (true, [([], []), ([], []), ([0, 1], [0, 1]), ([], []), ([], []), ([3, 4, 2], [3, 4]), ([2, 5, 0, 1, 2], [2]), ([5, 6, 0, 1, 2, 3, 4, 5, 6], [5])])
def spykeep2_SlewTimes.B5 : List Nat := [0, 0, 3, 0, 0, 31, 63, 127]
theorem spykeep2_SlewTimes.tab5 : rtab .any (opsOf Try.f4 5) = spykeep2_SlewTimes.T5 := by kernel_rfl
theorem spykeep2_SlewTimes.bits5 : waitsOk spykeep2_SlewTimes.T5.2 spykeep2_SlewTimes.B5 = true := by kernel_rfl
set_option maxHeartbeats 8000000 in
set_option maxRecDepth 100000 in
theorem spykeep2_SlewTimes.calls (k : Nat) (A0 : Option Addr) (c0 : Nat) (l0 : List Int) (r : Bool) (w : World) (hr0 : Kd.C (Kd.int .i64) w A0 l0.length l0) (hc0 : l0.length ≤ c0) (h : spykeep2_SlewTimes.f k l0 = some r) :
    Calls Try.prog 4 #[.slice A0 l0.length c0] w fun e w' => e = .returned (.bool r) ∧ Below w.heap.size w w' := by
  have hu26 := Try.underlying26
  have hu28 := Try.underlying28
  have HR0 := Aside0.mk hr0
  have HC0 := Aside0.mk hc0
  clear hr0 hc0
  have HB := Aside0.mk (Below.refl w.heap.size w)
  have H : ((spykeep2_slews.f k).bind fun t159 => (if t159 = true then ((spymake_Stream_Axis.f k l0 0).bind fun bt161 => ((spymake_Stream_Inside.f l0 bt161.2.2.2.2 bt161.1 bt161.2.1 bt161.2.2.1 bt161.2.2.2.1).bind fun bt167 => ((spymake_Stream_Inside.f l0 bt167.2 bt161.1 bt161.2.1 bt161.2.2.1 bt161.2.2.2.1).bind fun bt169 => ((slew_Steps.f k bt161.1 bt161.2.1 bt161.2.2.1 bt161.2.2.2.1 bt167.1 bt169.1).bind fun bt171 => ((slew_Steps.f k bt161.1 bt161.2.1 bt161.2.2.1 bt161.2.2.2.1 bt169.1 bt167.1).bind fun bt173 => ((slew_Steps.f k bt161.1 bt161.2.1 bt161.2.2.1 bt161.2.2.2.1 bt161.1 (wrap64 (bt161.1 + (mx (wrap64 (bt169.1 - bt167.1)) (wrap64 (bt167.1 - bt169.1)))))).bind fun bt175 => (if bt171.2 = 0 then (if bt173.2 = 0 then (if bt175.2 = 0 then (if bt171.1 = bt173.1 then (spykeep2_SlewTimes.j0 k (mx (wrap64 (bt169.1 - bt167.1)) (wrap64 (bt167.1 - bt169.1))) bt171.1 (bt171.1 != bt175.1) bt161.1 bt161.2.1 bt161.2.2.1 bt161.2.2.2.1) else (spykeep2_SlewTimes.j0 k (mx (wrap64 (bt169.1 - bt167.1)) (wrap64 (bt167.1 - bt169.1))) bt171.1 true bt161.1 bt161.2.1 bt161.2.2.1 bt161.2.2.2.1)) else (spykeep2_SlewTimes.j0 k (mx (wrap64 (bt169.1 - bt167.1)) (wrap64 (bt167.1 - bt169.1))) bt171.1 true bt161.1 bt161.2.1 bt161.2.2.1 bt161.2.2.2.1)) else (spykeep2_SlewTimes.j0 k (mx (wrap64 (bt169.1 - bt167.1)) (wrap64 (bt167.1 - bt169.1))) bt171.1 true bt161.1 bt161.2.1 bt161.2.2.1 bt161.2.2.2.1)) else (spykeep2_SlewTimes.j0 k (mx (wrap64 (bt169.1 - bt167.1)) (wrap64 (bt167.1 - bt169.1))) bt171.1 true bt161.1 bt161.2.1 bt161.2.2.1 bt161.2.2.2.1)))))))) else (some false))) = some r := h
  clear h
  replace H := Option.bind_eq_some_iff.mp H
  obtain ⟨t159, A20, H⟩ := H
  replace H : (if t159 = true then ((spymake_Stream_Axis.f k l0 0).bind fun bt161 => ((spymake_Stream_Inside.f l0 bt161.2.2.2.2 bt161.1 bt161.2.1 bt161.2.2.1 bt161.2.2.2.1).bind fun bt167 => ((spymake_Stream_Inside.f l0 bt167.2 bt161.1 bt161.2.1 bt161.2.2.1 bt161.2.2.2.1).bind fun bt169 => ((slew_Steps.f k bt161.1 bt161.2.1 bt161.2.2.1 bt161.2.2.2.1 bt167.1 bt169.1).bind fun bt171 => ((slew_Steps.f k bt161.1 bt161.2.1 bt161.2.2.1 bt161.2.2.2.1 bt169.1 bt167.1).bind fun bt173 => ((slew_Steps.f k bt161.1 bt161.2.1 bt161.2.2.1 bt161.2.2.2.1 bt161.1 (wrap64 (bt161.1 + (mx (wrap64 (bt169.1 - bt167.1)) (wrap64 (bt167.1 - bt169.1)))))).bind fun bt175 => (if bt171.2 = 0 then (if bt173.2 = 0 then (if bt175.2 = 0 then (if bt171.1 = bt173.1 then (spykeep2_SlewTimes.j0 k (mx (wrap64 (bt169.1 - bt167.1)) (wrap64 (bt167.1 - bt169.1))) bt171.1 (bt171.1 != bt175.1) bt161.1 bt161.2.1 bt161.2.2.1 bt161.2.2.2.1) else (spykeep2_SlewTimes.j0 k (mx (wrap64 (bt169.1 - bt167.1)) (wrap64 (bt167.1 - bt169.1))) bt171.1 true bt161.1 bt161.2.1 bt161.2.2.1 bt161.2.2.2.1)) else (spykeep2_SlewTimes.j0 k (mx (wrap64 (bt169.1 - bt167.1)) (wrap64 (bt167.1 - bt169.1))) bt171.1 true bt161.1 bt161.2.1 bt161.2.2.1 bt161.2.2.2.1)) else (spykeep2_SlewTimes.j0 k (mx (wrap64 (bt169.1 - bt167.1)) (wrap64 (bt167.1 - bt169.1))) bt171.1 true bt161.1 bt161.2.1 bt161.2.2.1 bt161.2.2.2.1)) else (spykeep2_SlewTimes.j0 k (mx (wrap64 (bt169.1 - bt167.1)) (wrap64 (bt167.1 - bt169.1))) bt171.1 true bt161.1 bt161.2.1 bt161.2.2.1 bt161.2.2.2.1)))))))) else (some false)) = some r := H
  have A2 := Aside0.mk A20
  clear A20
  by_cases c3 : t159 = true
  · subst c3
    have H1 : ((spymake_Stream_Axis.f k l0 0).bind fun bt161 => ((spymake_Stream_Inside.f l0 bt161.2.2.2.2 bt161.1 bt161.2.1 bt161.2.2.1 bt161.2.2.2.1).bind fun bt167 => ((spymake_Stream_Inside.f l0 bt167.2 bt161.1 bt161.2.1 bt161.2.2.1 bt161.2.2.2.1).bind fun bt169 => ((slew_Steps.f k bt161.1 bt161.2.1 bt161.2.2.1 bt161.2.2.2.1 bt167.1 bt169.1).bind fun bt171 => ((slew_Steps.f k bt161.1 bt161.2.1 bt161.2.2.1 bt161.2.2.2.1 bt169.1 bt167.1).bind fun bt173 => ((slew_Steps.f k bt161.1 bt161.2.1 bt161.2.2.1 bt161.2.2.2.1 bt161.1 (wrap64 (bt161.1 + (mx (wrap64 (bt169.1 - bt167.1)) (wrap64 (bt167.1 - bt169.1)))))).bind fun bt175 => (if bt171.2 = 0 then (if bt173.2 = 0 then (if bt175.2 = 0 then (if bt171.1 = bt173.1 then (spykeep2_SlewTimes.j0 k (mx (wrap64 (bt169.1 - bt167.1)) (wrap64 (bt167.1 - bt169.1))) bt171.1 (bt171.1 != bt175.1) bt161.1 bt161.2.1 bt161.2.2.1 bt161.2.2.2.1) else (spykeep2_SlewTimes.j0 k (mx (wrap64 (bt169.1 - bt167.1)) (wrap64 (bt167.1 - bt169.1))) bt171.1 true bt161.1 bt161.2.1 bt161.2.2.1 bt161.2.2.2.1)) else (spykeep2_SlewTimes.j0 k (mx (wrap64 (bt169.1 - bt167.1)) (wrap64 (bt167.1 - bt169.1))) bt171.1 true bt161.1 bt161.2.1 bt161.2.2.1 bt161.2.2.2.1)) else (spykeep2_SlewTimes.j0 k (mx (wrap64 (bt169.1 - bt167.1)) (wrap64 (bt167.1 - bt169.1))) bt171.1 true bt161.1 bt161.2.1 bt161.2.2.1 bt161.2.2.2.1)) else (spykeep2_SlewTimes.j0 k (mx (wrap64 (bt169.1 - bt167.1)) (wrap64 (bt167.1 - bt169.1))) bt171.1 true bt161.1 bt161.2.1 bt161.2.2.1 bt161.2.2.2.1)))))))) = some r := by rw [if_pos rfl] at H; exact H
    clear H
    have H := H1
    clear H1
    replace H := Option.bind_eq_some_iff.mp H
    obtain ⟨⟨t161, t162, t163, t164, t165⟩, A40, H⟩ := H
    replace H : ((spymake_Stream_Inside.f l0 t165 t161 t162 t163 t164).bind fun bt167 => ((spymake_Stream_Inside.f l0 bt167.2 t161 t162 t163 t164).bind fun bt169 => ((slew_Steps.f k t161 t162 t163 t164 bt167.1 bt169.1).bind fun bt171 => ((slew_Steps.f k t161 t162 t163 t164 bt169.1 bt167.1).bind fun bt173 => ((slew_Steps.f k t161 t162 t163 t164 t161 (wrap64 (t161 + (mx (wrap64 (bt169.1 - bt167.1)) (wrap64 (bt167.1 - bt169.1)))))).bind fun bt175 => (if bt171.2 = 0 then (if bt173.2 = 0 then (if bt175.2 = 0 then (if bt171.1 = bt173.1 then (spykeep2_SlewTimes.j0 k (mx (wrap64 (bt169.1 - bt167.1)) (wrap64 (bt167.1 - bt169.1))) bt171.1 (bt171.1 != bt175.1) t161 t162 t163 t164) else (spykeep2_SlewTimes.j0 k (mx (wrap64 (bt169.1 - bt167.1)) (wrap64 (bt167.1 - bt169.1))) bt171.1 true t161 t162 t163 t164)) else (spykeep2_SlewTimes.j0 k (mx (wrap64 (bt169.1 - bt167.1)) (wrap64 (bt167.1 - bt169.1))) bt171.1 true t161 t162 t163 t164)) else (spykeep2_SlewTimes.j0 k (mx (wrap64 (bt169.1 - bt167.1)) (wrap64 (bt167.1 - bt169.1))) bt171.1 true t161 t162 t163 t164)) else (spykeep2_SlewTimes.j0 k (mx (wrap64 (bt169.1 - bt167.1)) (wrap64 (bt167.1 - bt169.1))) bt171.1 true t161 t162 t163 t164))))))) = some r := H
    have A4 := Aside0.mk A40
    clear A40
    replace H := Option.bind_eq_some_iff.mp H
    obtain ⟨⟨t167, t168⟩, A50, H⟩ := H
    replace H : ((spymake_Stream_Inside.f l0 t168 t161 t162 t163 t164).bind fun bt169 => ((slew_Steps.f k t161 t162 t163 t164 t167 bt169.1).bind fun bt171 => ((slew_Steps.f k t161 t162 t163 t164 bt169.1 t167).bind fun bt173 => ((slew_Steps.f k t161 t162 t163 t164 t161 (wrap64 (t161 + (mx (wrap64 (bt169.1 - t167)) (wrap64 (t167 - bt169.1)))))).bind fun bt175 => (if bt171.2 = 0 then (if bt173.2 = 0 then (if bt175.2 = 0 then (if bt171.1 = bt173.1 then (spykeep2_SlewTimes.j0 k (mx (wrap64 (bt169.1 - t167)) (wrap64 (t167 - bt169.1))) bt171.1 (bt171.1 != bt175.1) t161 t162 t163 t164) else (spykeep2_SlewTimes.j0 k (mx (wrap64 (bt169.1 - t167)) (wrap64 (t167 - bt169.1))) bt171.1 true t161 t162 t163 t164)) else (spykeep2_SlewTimes.j0 k (mx (wrap64 (bt169.1 - t167)) (wrap64 (t167 - bt169.1))) bt171.1 true t161 t162 t163 t164)) else (spykeep2_SlewTimes.j0 k (mx (wrap64 (bt169.1 - t167)) (wrap64 (t167 - bt169.1))) bt171.1 true t161 t162 t163 t164)) else (spykeep2_SlewTimes.j0 k (mx (wrap64 (bt169.1 - t167)) (wrap64 (t167 - bt169.1))) bt171.1 true t161 t162 t163 t164)))))) = some r := H
    have A5 := Aside0.mk A50
    clear A50
    replace H := Option.bind_eq_some_iff.mp H
    obtain ⟨⟨t169, t170⟩, A60, H⟩ := H
    replace H : ((slew_Steps.f k t161 t162 t163 t164 t167 t169).bind fun bt171 => ((slew_Steps.f k t161 t162 t163 t164 t169 t167).bind fun bt173 => ((slew_Steps.f k t161 t162 t163 t164 t161 (wrap64 (t161 + (mx (wrap64 (t169 - t167)) (wrap64 (t167 - t169)))))).bind fun bt175 => (if bt171.2 = 0 then (if bt173.2 = 0 then (if bt175.2 = 0 then (if bt171.1 = bt173.1 then (spykeep2_SlewTimes.j0 k (mx (wrap64 (t169 - t167)) (wrap64 (t167 - t169))) bt171.1 (bt171.1 != bt175.1) t161 t162 t163 t164) else (spykeep2_SlewTimes.j0 k (mx (wrap64 (t169 - t167)) (wrap64 (t167 - t169))) bt171.1 true t161 t162 t163 t164)) else (spykeep2_SlewTimes.j0 k (mx (wrap64 (t169 - t167)) (wrap64 (t167 - t169))) bt171.1 true t161 t162 t163 t164)) else (spykeep2_SlewTimes.j0 k (mx (wrap64 (t169 - t167)) (wrap64 (t167 - t169))) bt171.1 true t161 t162 t163 t164)) else (spykeep2_SlewTimes.j0 k (mx (wrap64 (t169 - t167)) (wrap64 (t167 - t169))) bt171.1 true t161 t162 t163 t164))))) = some r := H
    have A6 := Aside0.mk A60
    clear A60
    obtain ⟨ji7, hji7⟩ : ∃ j_ : Int, (mx (wrap64 (t169 - t167)) (wrap64 (t167 - t169))) = j_ := ⟨_, rfl⟩
    replace H : ((slew_Steps.f k t161 t162 t163 t164 t167 t169).bind fun bt171 => ((slew_Steps.f k t161 t162 t163 t164 t169 t167).bind fun bt173 => ((slew_Steps.f k t161 t162 t163 t164 t161 (wrap64 (t161 + (ji7)))).bind fun bt175 => (if bt171.2 = 0 then (if bt173.2 = 0 then (if bt175.2 = 0 then (if bt171.1 = bt173.1 then (spykeep2_SlewTimes.j0 k ji7 bt171.1 (bt171.1 != bt175.1) t161 t162 t163 t164) else (spykeep2_SlewTimes.j0 k ji7 bt171.1 true t161 t162 t163 t164)) else (spykeep2_SlewTimes.j0 k ji7 bt171.1 true t161 t162 t163 t164)) else (spykeep2_SlewTimes.j0 k ji7 bt171.1 true t161 t162 t163 t164)) else (spykeep2_SlewTimes.j0 k ji7 bt171.1 true t161 t162 t163 t164))))) = some r := by first | (rw [hji7] at H; exact H) | (simp only [hji7] at H ⊢; exact H)
    (try rw [hji7] at A2)
    (try rw [hji7] at A4)
    (try rw [hji7] at A5)
    (try rw [hji7] at A6)
    have hji7_ : (if (wrap64 (t169 - t167)) < (wrap64 (t167 - t169)) then (wrap64 (t167 - t169)) else (wrap64 (t169 - t167))) = ji7 := hji7
    replace H := Option.bind_eq_some_iff.mp H
    obtain ⟨⟨t171, t172⟩, A80, H⟩ := H
    replace H : ((slew_Steps.f k t161 t162 t163 t164 t169 t167).bind fun bt173 => ((slew_Steps.f k t161 t162 t163 t164 t161 (wrap64 (t161 + (ji7)))).bind fun bt175 => (if t172 = 0 then (if bt173.2 = 0 then (if bt175.2 = 0 then (if t171 = bt173.1 then (spykeep2_SlewTimes.j0 k ji7 t171 (t171 != bt175.1) t161 t162 t163 t164) else (spykeep2_SlewTimes.j0 k ji7 t171 true t161 t162 t163 t164)) else (spykeep2_SlewTimes.j0 k ji7 t171 true t161 t162 t163 t164)) else (spykeep2_SlewTimes.j0 k ji7 t171 true t161 t162 t163 t164)) else (spykeep2_SlewTimes.j0 k ji7 t171 true t161 t162 t163 t164)))) = some r := H
    have A8 := Aside0.mk A80
    clear A80
    replace H := Option.bind_eq_some_iff.mp H
    obtain ⟨⟨t173, t174⟩, A90, H⟩ := H
    replace H : ((slew_Steps.f k t161 t162 t163 t164 t161 (wrap64 (t161 + (ji7)))).bind fun bt175 => (if t172 = 0 then (if t174 = 0 then (if bt175.2 = 0 then (if t171 = t173 then (spykeep2_SlewTimes.j0 k ji7 t171 (t171 != bt175.1) t161 t162 t163 t164) else (spykeep2_SlewTimes.j0 k ji7 t171 true t161 t162 t163 t164)) else (spykeep2_SlewTimes.j0 k ji7 t171 true t161 t162 t163 t164)) else (spykeep2_SlewTimes.j0 k ji7 t171 true t161 t162 t163 t164)) else (spykeep2_SlewTimes.j0 k ji7 t171 true t161 t162 t163 t164))) = some r := H
    have A9 := Aside0.mk A90
    clear A90
    replace H := Option.bind_eq_some_iff.mp H
    obtain ⟨⟨t175, t176⟩, A100, H⟩ := H
    replace H : (if t172 = 0 then (if t174 = 0 then (if t176 = 0 then (if t171 = t173 then (spykeep2_SlewTimes.j0 k ji7 t171 (t171 != t175) t161 t162 t163 t164) else (spykeep2_SlewTimes.j0 k ji7 t171 true t161 t162 t163 t164)) else (spykeep2_SlewTimes.j0 k ji7 t171 true t161 t162 t163 t164)) else (spykeep2_SlewTimes.j0 k ji7 t171 true t161 t162 t163 t164)) else (spykeep2_SlewTimes.j0 k ji7 t171 true t161 t162 t163 t164)) = some r := H
    have A10 := Aside0.mk A100
    clear A100
    have HC11 := Aside0.mk H
    clear H
    go_enter Try.func4, Try.ntmps4
    try go_wp2_with (first | ((with_reducible refine gate_callee (f := 11) rfl ?_); refine goesL_ (some 15) rfl rfl Try.func11 (by kernel_rfl) rfl #[] rfl (by (try simp only [List.map_toArray, List.map_cons, List.map_nil]); first | done | rfl | (simp only [List.length_drop, List.length_take]; rfl)) ?_; (with_reducible refine (spykeep2_slews.calls k  true _ A2.out).mono ?_); rintro e w12 ⟨rfl, hb⟩; refine ⟨_, rfl, ?_⟩; have n0_ := Aside0.mk (below_step (by repeat (first | (with_reducible first | exact HB.out | apply below_alloc | apply pw_below_drewN | apply below_drew1) | exact HB.out)) hb); clear HB; have HB := n0_; clear n0_; (try clear hb); (try clear hb2); (try clear hk); (try clear hi)) | ((with_reducible refine gate_dst (N := 19) rfl ?_); refine box_event ?hg (N := 19) ?hd (cs := #[.slice A0 l0.length c0, .int .i64 0]) (t := 26) ?hr ?_; (case hd => rfl); (case hg => rfl); (case hr => first | (go_simp; done) | (go_simp; rfl)); intro gb160 hg w13 hbox hb; have n0_ := Aside0.mk (below_step (by repeat (first | (with_reducible first | exact HB.out | apply below_alloc | apply pw_below_drewN | apply below_drew1) | exact HB.out)) hb); have n1_ := Aside0.mk ((by rw [hg]; exact (below_size (by repeat (first | (with_reducible first | exact HB.out | apply below_alloc | apply pw_below_drewN | apply below_drew1) | exact HB.out))) : w.heap.size ≤ gb160)); have n2_ := Aside0.mk ((by rw [hg]; exact (below_size (by repeat (first | (with_reducible first | exact HB.out | apply below_alloc | apply pw_below_drewN | apply below_drew1) | exact HB.out))) : w.heap.size ≤ gb160)); have n3_ := Aside0.mk ((show IsS26 w w13 gb160 l0 0 from ⟨_, _, hbox, (by rw [hg]; exact (below_size (by repeat (first | (with_reducible first | exact HB.out | apply below_alloc | apply pw_below_drewN | apply below_drew1) | exact HB.out))) : w.heap.size ≤ gb160), HR0.out⟩)); clear HB; have HB := n0_; have GW160 := n1_; have GE160 := n2_; have HI160 := n3_; clear n0_ n1_ n2_ n3_; clear hb hbox hg) | ((with_reducible refine gate_callee (f := 12) rfl ?_); refine goesL_ (some 21) rfl rfl Try.func12 (by kernel_rfl) rfl #[.pointer (some ⟨gb160, 0, none⟩)] rfl (by (try simp only [List.map_toArray, List.map_cons, List.map_nil]); first | done | rfl | (simp only [List.length_drop, List.length_take]; rfl)) ?_; (with_reducible refine (spymake_Stream_Axis.calls k gb160 l0 0 t161 t162 t163 t164 t165 w _ ?side1 ?side2 A4.out).mono ?_); (case side1 => repeat (first | (with_reducible first | exact HI160.out | apply IsS26.alloc | apply IsS26.drewN | apply IsS26.drew | apply IsS26.set_1) | exact HI160.out)); (case side2 => repeat (first | (with_reducible first | exact HB.out | apply below_alloc | apply pw_below_drewN | apply below_drew1 | refine below_set ?_ (IsS26.ge HI160.out)) | exact HB.out)); rintro e w14 ⟨rfl, hi, hb, hk⟩; refine ⟨_, rfl, ?_⟩; have n0_ := Aside0.mk (hb); have n1_ := Aside0.mk (hi); clear HB; clear HI160; have HB := n0_; have HI160 := n1_; clear n0_ n1_; (try clear hb); (try clear hb2); (try clear hk); (try clear hi)) | ((with_reducible refine gate_dst (N := 4) rfl ?_); refine box_event ?hg (N := 4) ?hd (cs := #[.int .i64 0, .int .i64 0, .int .i64 0, .int .i64 0]) (t := 28) ?hr ?_; (case hd => rfl); (case hg => rfl); (case hr => first | (go_simp; done) | (go_simp; rfl)); intro gb166 hg w15 hbox hb; have n0_ := Aside0.mk (IsS26.below (by repeat (first | (with_reducible first | exact HI160.out | apply IsS26.alloc | apply IsS26.drewN | apply IsS26.drew | apply IsS26.set_1) | exact HI160.out)) hb); have n1_ := Aside0.mk (below_step (by repeat (first | (with_reducible first | exact HB.out | apply below_alloc | apply pw_below_drewN | apply below_drew1 | refine below_set ?_ (IsS26.ge HI160.out)) | exact HB.out)) hb); have n2_ := Aside0.mk (hbox); have n3_ := Aside0.mk ((by rw [hg]; exact (below_size (by repeat (first | (with_reducible first | exact HB.out | apply below_alloc | apply pw_below_drewN | apply below_drew1 | refine below_set ?_ (IsS26.ge HI160.out)) | exact HB.out))) : w.heap.size ≤ gb166)); have n4_ := Aside0.mk ((by rw [hg]; exact (below_size (by repeat (first | (with_reducible first | exact HB.out | apply below_alloc | apply pw_below_drewN | apply below_drew1 | refine below_set ?_ (IsS26.ge HI160.out)) | exact HB.out))) : w.heap.size ≤ gb166)); have n5_ := Aside0.mk ((by rw [hg]; exact Nat.ne_of_lt (IsS26.lt (show IsS26 w _ gb160 l0 t165 from by repeat (first | (with_reducible first | exact HI160.out | apply IsS26.alloc | apply IsS26.drewN | apply IsS26.drew | apply IsS26.set_1) | exact HI160.out))) : gb160 ≠ gb166)); have n6_ := Aside0.mk ((by rw [hg]; exact Nat.ne_of_gt (IsS26.lt (show IsS26 w _ gb160 l0 t165 from by repeat (first | (with_reducible first | exact HI160.out | apply IsS26.alloc | apply IsS26.drewN | apply IsS26.drew | apply IsS26.set_1) | exact HI160.out))) : gb166 ≠ gb160)); clear HI160; clear HB; have HI160 := n0_; have HB := n1_; have BK166 := n2_; have GW166 := n3_; have GE166 := n4_; have NB160_166 := n5_; have NB166_160 := n6_; clear n0_ n1_ n2_ n3_ n4_ n5_ n6_; clear hb hbox hg; have hnb16 := NB166_160.out; have hnc16 := NB160_166.out; have hcz17_0 : w15.cell? ⟨gb166, 0, none⟩ = some (.int .i64 0) := (blk_cell BK166.out 0).trans rfl; have hcz17_1 : w15.cell? ⟨gb166, 1, none⟩ = some (.int .i64 0) := (blk_cell BK166.out 1).trans rfl; have hcz17_2 : w15.cell? ⟨gb166, 2, none⟩ = some (.int .i64 0) := (blk_cell BK166.out 2).trans rfl; have hcz17_3 : w15.cell? ⟨gb166, 3, none⟩ = some (.int .i64 0) := (blk_cell BK166.out 3).trans rfl; have hfz17_0 := blk_frozen BK166.out 0; have hfz17_1 := blk_frozen BK166.out 1; have hfz17_2 := blk_frozen BK166.out 2; have hfz17_3 := blk_frozen BK166.out 3) | ((with_reducible refine gate_store (t := 28) (p := 4) rfl ?_); refine store_event (t := 28) (p := 4) (v := ?vo_w18) (w1 := ((((w15.setCell ⟨gb166, 0, none⟩ (.int .i64 t161)).setCell ⟨gb166, 1, none⟩ (.int .i64 t162)).setCell ⟨gb166, 2, none⟩ (.int .i64 t163)).setCell ⟨gb166, 3, none⟩ (.int .i64 t164))) ?hg ?ho ?hn ?hr ?_; (case ho => rfl); (case hg => rfl); (case hn => rfl); (case hr => first | (go_simp; done) | (go_simp; rfl)); intro w18 hw; have n0_ : Aside0 (w18.heap[gb166]? = some (.cells #[.int .i64 t161, .int .i64 t162, .int .i64 t163, .int .i64 t164] 28 (0, 0))) := ⟨(by rw [hw]; exact (by (with_reducible repeat (first | refine blk_drewN ?_ _ | refine blk_drew ?_ | refine blk_alloc ?_ _)); refine blk_put (cs := #[.int .i64 t161, .int .i64 t162, .int .i64 t163, .int .i64 0]) ?_ 3 _ rfl; (with_reducible repeat (first | refine blk_drewN ?_ _ | refine blk_drew ?_ | refine blk_alloc ?_ _)); refine blk_put (cs := #[.int .i64 t161, .int .i64 t162, .int .i64 0, .int .i64 0]) ?_ 2 _ rfl; (with_reducible repeat (first | refine blk_drewN ?_ _ | refine blk_drew ?_ | refine blk_alloc ?_ _)); refine blk_put (cs := #[.int .i64 t161, .int .i64 0, .int .i64 0, .int .i64 0]) ?_ 1 _ rfl; (with_reducible repeat (first | refine blk_drewN ?_ _ | refine blk_drew ?_ | refine blk_alloc ?_ _)); refine blk_put (cs := #[.int .i64 0, .int .i64 0, .int .i64 0, .int .i64 0]) ?_ 0 _ rfl; (with_reducible repeat (first | refine blk_drewN ?_ _ | refine blk_drew ?_ | refine blk_alloc ?_ _)); exact BK166.out))⟩; have n1_ : Aside0 (IsS26 w w18 gb160 l0 t165) := ⟨(by rw [hw]; exact (by repeat (first | (with_reducible first | exact HI160.out | apply IsS26.alloc | apply IsS26.drewN | apply IsS26.drew | apply IsS26.set_1 | refine IsS26.far ?_ NB160_166.out _) | exact HI160.out)))⟩; have n2_ : Aside0 (Below w.heap.size w w18) := ⟨(by rw [hw]; exact (by repeat (first | (with_reducible first | exact HB.out | apply below_alloc | apply pw_below_drewN | apply below_drew1 | refine below_set ?_ (IsS26.ge HI160.out) | refine below_set ?_ GE166.out) | exact HB.out)))⟩; clear hw; clear BK166; clear HI160; clear HB; have BK166 := n0_; have HI160 := n1_; have HB := n2_; clear n0_ n1_ n2_))
    have n0_ := Aside0.mk (blk_drew BK166.out)
    have n1_ := Aside0.mk (IsS26.drew HI160.out)
    have n2_ := Aside0.mk (below_drew1 HB.out)
    clear BK166
    clear HI160
    clear HB
    have BK166 := n0_
    have HI160 := n1_
    have HB := n2_
    clear n0_ n1_ n2_
    refine start_ (n := 8) (S := fun w' => w'.cell? ⟨gb166, 0, none⟩ = some (.int .i64 t161) ∧ w'.cell? ⟨gb166, 1, none⟩ = some (.int .i64 t162) ∧ w'.cell? ⟨gb166, 2, none⟩ = some (.int .i64 t163) ∧ w'.cell? ⟨gb166, 3, none⟩ = some (.int .i64 t164)) (ds := []) #[false, false, false, false, false, false, false, false] (by kernel_rfl) rfl rfl ⟨(blk_cell BK166.out 0).trans rfl, (blk_cell BK166.out 1).trans rfl, (blk_cell BK166.out 2).trans rfl, (blk_cell BK166.out 3).trans rfl⟩ (fun hHeld => ?_); refine with_tabW spykeep2_SlewTimes.tab5 spykeep2_SlewTimes.bits5 (fun HT_ HW_ => ?_)
    generalize w18.drew = w19 at BK166 HI160 HB hHeld ⊢
    refine pure_ (i := 0) (N := some 22) (v := ?_) (a' := ?_) #[true, false, false, false, false, false, false, false] rfl rfl (any_of HT_.out (by kernel_rfl)) (fun _ _ _ h => h) (Or.inl ⟨by rfl, ?_⟩) ?_ ?_
    rotate_left
    · intro w'
      go_simp
      with_reducible rfl
    rotate_left
    · simp only [Act.put, List.setIfInBounds_toArray, List.set_cons_zero, List.set_cons_succ, i64_w, i32_w]
      rfl
    refine pure_ (i := 3) (N := some 25) (v := ?_) (a' := ?_) #[true, false, false, true, false, false, false, false] rfl rfl (any_of HT_.out (by kernel_rfl)) (fun _ _ _ h => h) (Or.inl ⟨by rfl, ?_⟩) ?_ ?_
    rotate_left
    · intro w'
      go_simp
      with_reducible rfl
    rotate_left
    · simp only [Act.put, List.setIfInBounds_toArray, List.set_cons_zero, List.set_cons_succ, i64_w, i32_w]
      rfl
    refine take_ (i := 1) (N := some 23) (v := ?_) (a' := ?_) #[true, true, false, true, false, false, false, false] rfl rfl (take_ofW HT_.out HW_.out (by kernel_rfl)) (fun _ _ _ h => h) (Or.inl ⟨by rfl, ?_⟩) hHeld ?_ ?_
    rotate_left
    · rintro w' ⟨s0, s1, s2, s3⟩
      go_simp
      with_reducible rfl
    rotate_left
    · simp only [Act.put, List.setIfInBounds_toArray, List.set_cons_zero, List.set_cons_succ, i64_w, i32_w]
      rfl
    refine take_ (i := 4) (N := some 26) (v := ?_) (a' := ?_) #[true, true, false, true, true, false, false, false] rfl rfl (take_ofW HT_.out HW_.out (by kernel_rfl)) (fun _ _ _ h => h) (Or.inl ⟨by rfl, ?_⟩) hHeld ?_ ?_
    rotate_left
    · rintro w' ⟨s0, s1, s2, s3⟩
      go_simp
      with_reducible rfl
    rotate_left
    · simp only [Act.put, List.setIfInBounds_toArray, List.set_cons_zero, List.set_cons_succ, i64_w, i32_w]
      rfl
    refine one_ (i := 2) (N := some 24) #[true, true, true, true, true, false, false, false] rfl rfl (one_of HT_.out (by kernel_rfl)) (by decide) (fun K hK => ?_)
    refine goes_ Try.func13 (by kernel_rfl) rfl #[.pointer (some ⟨gb160, 0, none⟩), .agg #[.int .i64 t161, .int .i64 t162, .int .i64 t163, .int .i64 t164]] (by rfl) rfl rfl (by (try simp only [List.map_toArray, List.map_cons, List.map_nil]); first | done | rfl | (simp only [List.length_drop, List.length_take]; rfl)) ?_
    with_reducible refine (spymake_Stream_Inside.calls gb160 l0 t165 t161 t162 t163 t164 t167 t168 w _ ?side1 ?side2 A5.out).mono ?_
    (case side1 => repeat (first | (with_reducible first | exact HI160.out | apply IsS26.alloc | apply IsS26.drewN | apply IsS26.drew | apply IsS26.set_1 | refine IsS26.far ?_ NB160_166.out _) | exact HI160.out))
    (case side2 => repeat (first | (with_reducible first | exact HB.out | apply below_alloc | apply pw_below_drewN | apply below_drew1 | refine below_set ?_ (IsS26.ge HI160.out) | refine below_set ?_ GE166.out) | exact HB.out))
    rintro e w20 ⟨rfl, hi, hb, hk⟩
    refine ⟨_, rfl, ?_⟩
    have n0_ := Aside0.mk (KeepBut.blk hk (g' := gb166) (o := .cells #[.int .i64 t161, .int .i64 t162, .int .i64 t163, .int .i64 t164] 28 (0, 0)) (by (with_reducible repeat (first | refine blk_drewN ?_ _ | refine blk_drew ?_ | refine blk_alloc ?_ _)); exact BK166.out) NB166_160.out (by simp))
    have n1_ := Aside0.mk (hb)
    have n2_ := Aside0.mk (hi)
    clear BK166
    clear HB
    clear HI160
    have BK166 := n0_
    have HB := n1_
    have HI160 := n2_
    clear n0_ n1_ n2_
    (try clear hb)
    (try clear hb2)
    (try clear hk)
    (try clear hi)
    refine hK.out _ _ ⟨(blk_cell BK166.out 0).trans rfl, (blk_cell BK166.out 1).trans rfl, (blk_cell BK166.out 2).trans rfl, (blk_cell BK166.out 3).trans rfl⟩ (fun hHeld => ?_)
    clear hK K
    refine norm_ (a' := ?_) ?_ ?_
    rotate_left
    · show Act.put _ (some 24) _ = _
      simp only [Act.put, List.setIfInBounds_toArray, List.set_cons_zero, List.set_cons_succ, i64_w, i32_w]
      rfl
    refine one_ (i := 5) (N := some 27) #[true, true, true, true, true, true, false, false] rfl rfl (one_of HT_.out (by kernel_rfl)) (by decide) (fun K hK => ?_)
    refine goes_ Try.func13 (by kernel_rfl) rfl #[.pointer (some ⟨gb160, 0, none⟩), .agg #[.int .i64 t161, .int .i64 t162, .int .i64 t163, .int .i64 t164]] (by rfl) rfl rfl (by (try simp only [List.map_toArray, List.map_cons, List.map_nil]); first | done | rfl | (simp only [List.length_drop, List.length_take]; rfl)) ?_
    with_reducible refine (spymake_Stream_Inside.calls gb160 l0 t168 t161 t162 t163 t164 t169 t170 w _ ?side1 ?side2 A6.out).mono ?_
    (case side1 => repeat (first | (with_reducible first | exact HI160.out | apply IsS26.alloc | apply IsS26.drewN | apply IsS26.drew | apply IsS26.set_1 | refine IsS26.far ?_ NB160_166.out _) | exact HI160.out))
    (case side2 => repeat (first | (with_reducible first | exact HB.out | apply below_alloc | apply pw_below_drewN | apply below_drew1 | refine below_set ?_ (IsS26.ge HI160.out) | refine below_set ?_ GE166.out) | exact HB.out))
    rintro e w21 ⟨rfl, hi, hb, hk⟩
    refine ⟨_, rfl, ?_⟩
    have n0_ := Aside0.mk (KeepBut.blk hk (g' := gb166) (o := .cells #[.int .i64 t161, .int .i64 t162, .int .i64 t163, .int .i64 t164] 28 (0, 0)) (by (with_reducible repeat (first | refine blk_drewN ?_ _ | refine blk_drew ?_ | refine blk_alloc ?_ _)); exact BK166.out) NB166_160.out (by simp))
    have n1_ := Aside0.mk (hb)
    have n2_ := Aside0.mk (hi)
    clear BK166
    clear HB
    clear HI160
    have BK166 := n0_
    have HB := n1_
    have HI160 := n2_
    clear n0_ n1_ n2_
    (try clear hb)
    (try clear hb2)
    (try clear hk)
    (try clear hi)
    refine hK.out _ _ ⟨(blk_cell BK166.out 0).trans rfl, (blk_cell BK166.out 1).trans rfl, (blk_cell BK166.out 2).trans rfl, (blk_cell BK166.out 3).trans rfl⟩ (fun hHeld => ?_)
    clear hK K
    refine norm_ (a' := ?_) ?_ ?_
    rotate_left
    · show Act.put _ (some 27) _ = _
      simp only [Act.put, List.setIfInBounds_toArray, List.set_cons_zero, List.set_cons_succ, i64_w, i32_w]
      rfl
    refine pure_ (i := 6) (N := some 5) (v := ?_) (a' := ?_) #[true, true, true, true, true, true, true, false] rfl rfl (any_of HT_.out (by kernel_rfl)) (fun _ _ _ h => h) (Or.inl ⟨by rfl, ?_⟩) ?_ ?_
    rotate_left
    · intro w'
      go_simp
      with_reducible rfl
    rotate_left
    · simp only [Act.put, List.setIfInBounds_toArray, List.set_cons_zero, List.set_cons_succ, i64_w, i32_w]
      rfl
    refine pure_ (i := 7) (N := some 6) (v := ?_) (a' := ?_) #[true, true, true, true, true, true, true, true] rfl rfl (any_of HT_.out (by kernel_rfl)) (fun _ _ _ h => h) (Or.inl ⟨by rfl, ?_⟩) ?_ ?_
    rotate_left
    · intro w'
      go_simp
      with_reducible rfl
    rotate_left
    · simp only [Act.put, List.setIfInBounds_toArray, List.set_cons_zero, List.set_cons_succ, i64_w, i32_w]
      rfl
    refine done_ (done_of HT_.out (by kernel_rfl)) ?_
    have hcz22_0 : w21.cell? ⟨gb166, 0, none⟩ = some (.int .i64 t161) := (blk_cell BK166.out 0).trans rfl
    have hcz22_1 : w21.cell? ⟨gb166, 1, none⟩ = some (.int .i64 t162) := (blk_cell BK166.out 1).trans rfl
    have hcz22_2 : w21.cell? ⟨gb166, 2, none⟩ = some (.int .i64 t163) := (blk_cell BK166.out 2).trans rfl
    have hcz22_3 : w21.cell? ⟨gb166, 3, none⟩ = some (.int .i64 t164) := (blk_cell BK166.out 3).trans rfl
    have hfz22_0 := blk_frozen BK166.out 0
    have hfz22_1 := blk_frozen BK166.out 1
    have hfz22_2 := blk_frozen BK166.out 2
    have hfz22_3 := blk_frozen BK166.out 3
    go_upto_region 10 with (first | ((with_reducible refine gate_callee (f := 17) rfl ?_); refine goesL_ (some 39) rfl rfl Try.func17 (by kernel_rfl) rfl #[.agg #[.int .i64 t161, .int .i64 t162, .int .i64 t163, .int .i64 t164], .int .i64 t167, .int .i64 t169] rfl (by (try simp only [List.map_toArray, List.map_cons, List.map_nil]); first | done | rfl | (simp only [List.length_drop, List.length_take]; rfl)) ?_; (with_reducible refine (slew_Steps.calls k t161 t162 t163 t164 t167 t169 t171 t172 _ A8.out).mono ?_); rintro e w23 ⟨rfl, hb⟩; refine ⟨_, rfl, ?_⟩; have n0_ := Aside0.mk (IsS26.below (by repeat (first | (with_reducible first | exact HI160.out | apply IsS26.alloc | apply IsS26.drewN | apply IsS26.drew | apply IsS26.set_1 | refine IsS26.far ?_ NB160_166.out _) | exact HI160.out)) hb); have n1_ := Aside0.mk (blk_below (g := gb166) (o := .cells #[.int .i64 t161, .int .i64 t162, .int .i64 t163, .int .i64 t164] 28 (0, 0)) (by (with_reducible repeat (first | refine blk_drewN ?_ _ | refine blk_drew ?_ | refine blk_alloc ?_ _)); exact BK166.out) hb); have n2_ := Aside0.mk (below_step (by repeat (first | (with_reducible first | exact HB.out | apply below_alloc | apply pw_below_drewN | apply below_drew1 | refine below_set ?_ (IsS26.ge HI160.out) | refine below_set ?_ GE166.out) | exact HB.out)) hb); clear HI160; clear BK166; clear HB; have HI160 := n0_; have BK166 := n1_; have HB := n2_; clear n0_ n1_ n2_; (try clear hb); (try clear hb2); (try clear hk); (try clear hi); have hcz24_0 : w23.cell? ⟨gb166, 0, none⟩ = some (.int .i64 t161) := (blk_cell BK166.out 0).trans rfl; have hcz24_1 : w23.cell? ⟨gb166, 1, none⟩ = some (.int .i64 t162) := (blk_cell BK166.out 1).trans rfl; have hcz24_2 : w23.cell? ⟨gb166, 2, none⟩ = some (.int .i64 t163) := (blk_cell BK166.out 2).trans rfl; have hcz24_3 : w23.cell? ⟨gb166, 3, none⟩ = some (.int .i64 t164) := (blk_cell BK166.out 3).trans rfl; have hfz24_0 := blk_frozen BK166.out 0; have hfz24_1 := blk_frozen BK166.out 1; have hfz24_2 := blk_frozen BK166.out 2; have hfz24_3 := blk_frozen BK166.out 3) | ((with_reducible refine gate_callee (f := 17) rfl ?_); refine goesL_ (some 46) rfl rfl Try.func17 (by kernel_rfl) rfl #[.agg #[.int .i64 t161, .int .i64 t162, .int .i64 t163, .int .i64 t164], .int .i64 t169, .int .i64 t167] rfl (by (try simp only [List.map_toArray, List.map_cons, List.map_nil]); first | done | rfl | (simp only [List.length_drop, List.length_take]; rfl)) ?_; (with_reducible refine (slew_Steps.calls k t161 t162 t163 t164 t169 t167 t173 t174 _ A9.out).mono ?_); rintro e w25 ⟨rfl, hb⟩; refine ⟨_, rfl, ?_⟩; have n0_ := Aside0.mk (IsS26.below (by repeat (first | (with_reducible first | exact HI160.out | apply IsS26.alloc | apply IsS26.drewN | apply IsS26.drew | apply IsS26.set_1 | refine IsS26.far ?_ NB160_166.out _) | exact HI160.out)) hb); have n1_ := Aside0.mk (blk_below (g := gb166) (o := .cells #[.int .i64 t161, .int .i64 t162, .int .i64 t163, .int .i64 t164] 28 (0, 0)) (by (with_reducible repeat (first | refine blk_drewN ?_ _ | refine blk_drew ?_ | refine blk_alloc ?_ _)); exact BK166.out) hb); have n2_ := Aside0.mk (below_step (by repeat (first | (with_reducible first | exact HB.out | apply below_alloc | apply pw_below_drewN | apply below_drew1 | refine below_set ?_ (IsS26.ge HI160.out) | refine below_set ?_ GE166.out) | exact HB.out)) hb); clear HI160; clear BK166; clear HB; have HI160 := n0_; have BK166 := n1_; have HB := n2_; clear n0_ n1_ n2_; (try clear hb); (try clear hb2); (try clear hk); (try clear hi); have hcz26_0 : w25.cell? ⟨gb166, 0, none⟩ = some (.int .i64 t161) := (blk_cell BK166.out 0).trans rfl; have hcz26_1 : w25.cell? ⟨gb166, 1, none⟩ = some (.int .i64 t162) := (blk_cell BK166.out 1).trans rfl; have hcz26_2 : w25.cell? ⟨gb166, 2, none⟩ = some (.int .i64 t163) := (blk_cell BK166.out 2).trans rfl; have hcz26_3 : w25.cell? ⟨gb166, 3, none⟩ = some (.int .i64 t164) := (blk_cell BK166.out 3).trans rfl; have hfz26_0 := blk_frozen BK166.out 0; have hfz26_1 := blk_frozen BK166.out 1; have hfz26_2 := blk_frozen BK166.out 2; have hfz26_3 := blk_frozen BK166.out 3) | ((with_reducible refine gate_callee (f := 17) rfl ?_); refine goesL_ (some 57) rfl rfl Try.func17 (by kernel_rfl) rfl #[.agg #[.int .i64 t161, .int .i64 t162, .int .i64 t163, .int .i64 t164], .int .i64 t161, .int .i64 (wrap64 (t161 + (ji7)))] rfl (by (try simp only [List.map_toArray, List.map_cons, List.map_nil]); first | done | (simp only [hji7]; rfl) | rfl | (simp only [List.length_drop, List.length_take]; rfl)) ?_; (with_reducible refine (slew_Steps.calls k t161 t162 t163 t164 t161 (wrap64 (t161 + (ji7))) t175 t176 _ A10.out).mono ?_); rintro e w27 ⟨rfl, hb⟩; refine ⟨_, rfl, ?_⟩; have n0_ := Aside0.mk (IsS26.below (by repeat (first | (with_reducible first | exact HI160.out | apply IsS26.alloc | apply IsS26.drewN | apply IsS26.drew | apply IsS26.set_1 | refine IsS26.far ?_ NB160_166.out _) | exact HI160.out)) hb); have n1_ := Aside0.mk (blk_below (g := gb166) (o := .cells #[.int .i64 t161, .int .i64 t162, .int .i64 t163, .int .i64 t164] 28 (0, 0)) (by (with_reducible repeat (first | refine blk_drewN ?_ _ | refine blk_drew ?_ | refine blk_alloc ?_ _)); exact BK166.out) hb); have n2_ := Aside0.mk (below_step (by repeat (first | (with_reducible first | exact HB.out | apply below_alloc | apply pw_below_drewN | apply below_drew1 | refine below_set ?_ (IsS26.ge HI160.out) | refine below_set ?_ GE166.out) | exact HB.out)) hb); clear HI160; clear BK166; clear HB; have HI160 := n0_; have BK166 := n1_; have HB := n2_; clear n0_ n1_ n2_; (try clear hb); (try clear hb2); (try clear hk); (try clear hi)))
    (try simp only [Act.put, List.setIfInBounds_toArray, List.set_cons_zero, List.set_cons_succ])
    go_cut [79] (fun v79 wc => ∃ (kq : Nat) (x79_10 : Bool), v79 = .bool x79_10 ∧ Aside0 (spykeep2_SlewTimes.j0 kq ji7 t171 x79_10 t161 t162 t163 t164 = some r) ∧ Aside0 (kq ≤ k) ∧ Aside0 (wc.heap[gb166]? = some (.cells #[.int .i64 t161, .int .i64 t162, .int .i64 t163, .int .i64 t164] 28 (0, 0))) ∧ Aside0 (Below w.heap.size w wc))
    case first =>
      have H := HC11.out
      clear HC11
      by_cases c28 : t172 = 0
      · rw [if_pos c28] at H
        have c28b0 : (t172 == 0) = true := beq_iff_eq.mpr c28
        have c28b1 : (t172 != 0) = false := bne_eq_false_iff_eq.mpr c28
        clear c28
        (first | rw [c28b0] | (simp only [i64_w, i32_w]; rw [c28b0]) | skip)
        by_cases c29 : t174 = 0
        · rw [if_pos c29] at H
          have c29b0 : (t174 == 0) = true := beq_iff_eq.mpr c29
          have c29b1 : (t174 != 0) = false := bne_eq_false_iff_eq.mpr c29
          clear c29
          by_cases c30 : t176 = 0
          · rw [if_pos c30] at H
            have c30b0 : (t176 == 0) = true := beq_iff_eq.mpr c30
            have c30b1 : (t176 != 0) = false := bne_eq_false_iff_eq.mpr c30
            clear c30
            by_cases c31 : t171 = t173
            · rw [if_pos c31] at H
              have c31b0 : (t171 == t173) = true := beq_iff_eq.mpr c31
              have c31b1 : (t171 != t173) = false := bne_eq_false_iff_eq.mpr c31
              clear c31
              have H' := Aside0.mk H
              clear H
              go_wp2
              go_meet
              case rel => exact ⟨_, ((t171 != t175)), (by first | rfl | (simp; done) | (simp [*]; done)), H', ⟨by first | omega | exact Nat.le_refl _⟩, ⟨by (with_reducible repeat (first | refine blk_drewN ?_ _ | refine blk_drew ?_ | refine blk_alloc ?_ _)); exact BK166.out⟩, ⟨by repeat (first | (with_reducible first | exact HB.out | apply below_alloc | apply pw_below_drewN | apply below_drew1 | refine below_set ?_ (IsS26.ge HI160.out) | refine below_set ?_ GE166.out) | exact HB.out)⟩⟩
            · rw [if_neg c31] at H
              have c31b0 : (t171 == t173) = false := beq_eq_false_iff_ne.mpr c31
              have c31b1 : (t171 != t173) = true := bne_iff_ne.mpr c31
              have H' := Aside0.mk H
              clear H
              go_wp2
              go_meet
              case rel => exact ⟨_, (true), (by first | rfl | (simp; done) | (simp [*]; done)), H', ⟨by first | omega | exact Nat.le_refl _⟩, ⟨by (with_reducible repeat (first | refine blk_drewN ?_ _ | refine blk_drew ?_ | refine blk_alloc ?_ _)); exact BK166.out⟩, ⟨by repeat (first | (with_reducible first | exact HB.out | apply below_alloc | apply pw_below_drewN | apply below_drew1 | refine below_set ?_ (IsS26.ge HI160.out) | refine below_set ?_ GE166.out) | exact HB.out)⟩⟩
          · rw [if_neg c30] at H
            have c30b0 : (t176 == 0) = false := beq_eq_false_iff_ne.mpr c30
            have c30b1 : (t176 != 0) = true := bne_iff_ne.mpr c30
            have H' := Aside0.mk H
            clear H
            go_wp2
            go_meet
            case rel => exact ⟨_, (true), (by first | rfl | (simp; done) | (simp [*]; done)), H', ⟨by first | omega | exact Nat.le_refl _⟩, ⟨by (with_reducible repeat (first | refine blk_drewN ?_ _ | refine blk_drew ?_ | refine blk_alloc ?_ _)); exact BK166.out⟩, ⟨by repeat (first | (with_reducible first | exact HB.out | apply below_alloc | apply pw_below_drewN | apply below_drew1 | refine below_set ?_ (IsS26.ge HI160.out) | refine below_set ?_ GE166.out) | exact HB.out)⟩⟩
        · rw [if_neg c29] at H
          have c29b0 : (t174 == 0) = false := beq_eq_false_iff_ne.mpr c29
          have c29b1 : (t174 != 0) = true := bne_iff_ne.mpr c29
          have H' := Aside0.mk H
          clear H
          go_wp2
          go_meet
          case rel => exact ⟨_, (true), (by first | rfl | (simp; done) | (simp [*]; done)), H', ⟨by first | omega | exact Nat.le_refl _⟩, ⟨by (with_reducible repeat (first | refine blk_drewN ?_ _ | refine blk_drew ?_ | refine blk_alloc ?_ _)); exact BK166.out⟩, ⟨by repeat (first | (with_reducible first | exact HB.out | apply below_alloc | apply pw_below_drewN | apply below_drew1 | refine below_set ?_ (IsS26.ge HI160.out) | refine below_set ?_ GE166.out) | exact HB.out)⟩⟩
      · rw [if_neg c28] at H
        have c28b0 : (t172 == 0) = false := beq_eq_false_iff_ne.mpr c28
        have c28b1 : (t172 != 0) = true := bne_iff_ne.mpr c28
        (first | rw [c28b0] | (simp only [i64_w, i32_w]; rw [c28b0]) | skip)
        have H' := Aside0.mk H
        clear H
        go_wp2
        go_meet
        case rel => exact ⟨_, (true), (by first | rfl | (simp; done) | (simp [*]; done)), H', ⟨by first | omega | exact Nat.le_refl _⟩, ⟨by (with_reducible repeat (first | refine blk_drewN ?_ _ | refine blk_drew ?_ | refine blk_alloc ?_ _)); exact BK166.out⟩, ⟨by repeat (first | (with_reducible first | exact HB.out | apply below_alloc | apply pw_below_drewN | apply below_drew1 | refine below_set ?_ (IsS26.ge HI160.out) | refine below_set ?_ GE166.out) | exact HB.out)⟩⟩
    case rest =>
      clear HC11
      try clear c1
      try clear c2
      try clear p2
      try clear c3
      try clear c4
      try clear p6
      try clear c11
      try clear c12
      try clear c13
      try clear c16
      try clear c17
      try clear c28
      try clear c28b0
      try clear c28b1
      try clear c29
      try clear c29b0
      try clear c29b1
      try clear c30
      try clear c30b0
      try clear c30b1
      try clear c31
      try clear c31b0
      try clear c31b1
      try clear hcz17_0
      try clear hcz17_1
      try clear hcz17_2
      try clear hcz17_3
      try clear hcz22_0
      try clear hcz22_1
      try clear hcz22_2
      try clear hcz22_3
      try clear hcz24_0
      try clear hcz24_1
      try clear hcz24_2
      try clear hcz24_3
      try clear hcz26_0
      try clear hcz26_1
      try clear hcz26_2
      try clear hcz26_3
      try clear hfz17_0
      try clear hfz17_1
      try clear hfz17_2
      try clear hfz17_3
      try clear hfz22_0
      try clear hfz22_1
      try clear hfz22_2
      try clear hfz22_3
      try clear hfz24_0
      try clear hfz24_1
      try clear hfz24_2
      try clear hfz24_3
      try clear hfz26_0
      try clear hfz26_1
      try clear hfz26_2
      try clear hfz26_3
      obtain ⟨kq, x79_10, rfl, HA, HJ10, BK166, HB⟩ := hcut
      cases kq with
      | zero => exact absurd HA.out (by simp [spykeep2_SlewTimes.j0])
      | succ kj10 =>
        have H := HA.out
        clear HA
        simp only [spykeep2_SlewTimes.j0] at H
        by_cases c32 : x79_10 = true
        · subst c32
          have H1 : (some false) = some r := by rw [if_pos rfl] at H; exact H
          clear H
          have H := H1
          clear H1
          obtain rfl := Option.some.inj H
          go_wp2
          go_ret
          exact ⟨by first | rfl | (simp [errW_none, errW_some] <;> rfl) | (simp only [← hji7]; first | rfl | (simp [errW_none, errW_some] <;> rfl)) | (simp [*, errW_none, errW_some] <;> rfl), by repeat (first | (with_reducible first | exact HB.out | apply below_alloc | apply pw_below_drewN | apply below_drew1 | refine below_set ?_ GE166.out) | exact HB.out)⟩
        · replace c32 := Bool.eq_false_iff.mpr c32
          subst c32
          have H1 : (if ji7 = 0 then (some (t171 == 0)) else (if t164 = 0 then (none) else (if t163 = 0 then (none) else (if t171 ≥ (wrap64 ((wrap64 (Int.tdiv (wrap64 ((wrap64 (ji7 + t163)) - 1)) t163)) + 1)) then (some (decide (t171 ≤ (wrap64 ((wrap64 ((wrap64 (Int.tdiv ji7 t163)) + (wrap64 (2 * (wrap64 (Int.tdiv (wrap64 ((wrap64 (t163 + t164)) - 1)) t164)))))) + 3))))) else (some false))))) = some r := by rw [if_neg (show ¬ (false = true) by decide)] at H; exact H
          clear H
          have H := H1
          clear H1
          by_cases c33 : ji7 = 0
          · rw [if_pos c33] at H
            have c33b0 : (ji7 == 0) = true := beq_iff_eq.mpr c33
            have c33b1 : (ji7 != 0) = false := bne_eq_false_iff_eq.mpr c33
            clear c33
            obtain rfl := Option.some.inj H
            go_wp2
            go_ret
            exact ⟨by first | rfl | (simp [errW_none, errW_some] <;> rfl) | (simp only [← hji7]; first | rfl | (simp [errW_none, errW_some] <;> rfl)) | (simp [*, errW_none, errW_some] <;> rfl), by repeat (first | (with_reducible first | exact HB.out | apply below_alloc | apply pw_below_drewN | apply below_drew1 | refine below_set ?_ GE166.out) | exact HB.out)⟩
          · rw [if_neg c33] at H
            have c33b0 : (ji7 == 0) = false := beq_eq_false_iff_ne.mpr c33
            have c33b1 : (ji7 != 0) = true := bne_iff_ne.mpr c33
            clear c33
            by_cases c34 : t164 = 0
            · rw [if_pos c34] at H
              exact absurd H (by simp)
            · rw [if_neg c34] at H
              have c34b0 : (t164 == 0) = false := beq_eq_false_iff_ne.mpr c34
              have c34b1 : (t164 != 0) = true := bne_iff_ne.mpr c34
              by_cases c35 : t163 = 0
              · rw [if_pos c35] at H
                exact absurd H (by simp)
              · rw [if_neg c35] at H
                have c35b0 : (t163 == 0) = false := beq_eq_false_iff_ne.mpr c35
                have c35b1 : (t163 != 0) = true := bne_iff_ne.mpr c35
                by_cases c36 : t171 ≥ (wrap64 ((wrap64 (Int.tdiv (wrap64 ((wrap64 (ji7 + t163)) - 1)) t163)) + 1))
                · rw [if_pos c36] at H
                  have c36b0 : decide ((wrap64 ((wrap64 (Int.tdiv (wrap64 ((wrap64 (ji7 + t163)) - 1)) t163)) + 1)) ≤ t171) = true := decide_eq_true c36
                  clear c36
                  obtain rfl := Option.some.inj H
                  have hcz37_0 : wc.cell? ⟨gb166, 0, none⟩ = some (.int .i64 t161) := (blk_cell BK166.out 0).trans rfl
                  have hcz37_1 : wc.cell? ⟨gb166, 1, none⟩ = some (.int .i64 t162) := (blk_cell BK166.out 1).trans rfl
                  have hcz37_2 : wc.cell? ⟨gb166, 2, none⟩ = some (.int .i64 t163) := (blk_cell BK166.out 2).trans rfl
                  have hcz37_3 : wc.cell? ⟨gb166, 3, none⟩ = some (.int .i64 t164) := (blk_cell BK166.out 3).trans rfl
                  have hfz37_0 := blk_frozen BK166.out 0
                  have hfz37_1 := blk_frozen BK166.out 1
                  have hfz37_2 := blk_frozen BK166.out 2
                  have hfz37_3 := blk_frozen BK166.out 3
                  go_wp2
                  go_ret
                  exact ⟨by first | rfl | (simp [errW_none, errW_some] <;> rfl) | (simp only [← hji7]; first | rfl | (simp [errW_none, errW_some] <;> rfl)) | (simp [*, errW_none, errW_some] <;> rfl), by repeat (first | (with_reducible first | exact HB.out | apply below_alloc | apply pw_below_drewN | apply below_drew1 | refine below_set ?_ GE166.out) | exact HB.out)⟩
                · rw [if_neg c36] at H
                  have c36b0 : decide ((wrap64 ((wrap64 (Int.tdiv (wrap64 ((wrap64 (ji7 + t163)) - 1)) t163)) + 1)) ≤ t171) = false := decide_eq_false c36
                  clear c36
                  obtain rfl := Option.some.inj H
                  have hcz38_0 : wc.cell? ⟨gb166, 0, none⟩ = some (.int .i64 t161) := (blk_cell BK166.out 0).trans rfl
                  have hcz38_1 : wc.cell? ⟨gb166, 1, none⟩ = some (.int .i64 t162) := (blk_cell BK166.out 1).trans rfl
                  have hcz38_2 : wc.cell? ⟨gb166, 2, none⟩ = some (.int .i64 t163) := (blk_cell BK166.out 2).trans rfl
                  have hcz38_3 : wc.cell? ⟨gb166, 3, none⟩ = some (.int .i64 t164) := (blk_cell BK166.out 3).trans rfl
                  have hfz38_0 := blk_frozen BK166.out 0
                  have hfz38_1 := blk_frozen BK166.out 1
                  have hfz38_2 := blk_frozen BK166.out 2
                  have hfz38_3 := blk_frozen BK166.out 3
                  go_wp2
                  go_ret
                  exact ⟨by first | rfl | (simp [errW_none, errW_some] <;> rfl) | (simp only [← hji7]; first | rfl | (simp [errW_none, errW_some] <;> rfl)) | (simp [*, errW_none, errW_some] <;> rfl), by repeat (first | (with_reducible first | exact HB.out | apply below_alloc | apply pw_below_drewN | apply below_drew1 | refine below_set ?_ GE166.out) | exact HB.out)⟩
  · replace c3 := Bool.eq_false_iff.mpr c3
    subst c3
    have H1 : (some false) = some r := by rw [if_neg (show ¬ (false = true) by decide)] at H; exact H
    clear H
    have H := H1
    clear H1
    obtain rfl := Option.some.inj H
    go_enter Try.func4, Try.ntmps4
    go_wp2_with (first | ((with_reducible refine gate_callee (f := 11) rfl ?_); refine goesL_ (some 15) rfl rfl Try.func11 (by kernel_rfl) rfl #[] rfl (by (try simp only [List.map_toArray, List.map_cons, List.map_nil]); first | done | rfl | (simp only [List.length_drop, List.length_take]; rfl)) ?_; (with_reducible refine (spykeep2_slews.calls k  false _ A2.out).mono ?_); rintro e w39 ⟨rfl, hb⟩; refine ⟨_, rfl, ?_⟩; have n0_ := Aside0.mk (below_step (by repeat (first | (with_reducible first | exact HB.out | apply below_alloc | apply pw_below_drewN | apply below_drew1) | exact HB.out)) hb); clear HB; have HB := n0_; clear n0_; (try clear hb); (try clear hb2); (try clear hk); (try clear hi)))
    go_ret
    exact ⟨by first | rfl | (simp [errW_none, errW_some] <;> rfl) | (simp [*, errW_none, errW_some] <;> rfl), by repeat (first | (with_reducible first | exact HB.out | apply below_alloc | apply pw_below_drewN | apply below_drew1) | exact HB.out)⟩

/-- THE ONE PURE STATEMENT of spykeep2_SlewTimes: yours. -/
def spykeep2_SlewTimes.Pure : Prop := ∀ (l0 : List Int), l0.length ≤ maxLen → l0.length * 8 ≤ 140737488351232 → (∀ x ∈ l0, (Lit.int .i64 x).wf = true) → ∃ k, spykeep2_SlewTimes.f k l0 = some true
theorem spykeep2_SlewTimes.walk (P : spykeep2_SlewTimes.Pure) (a0 : Option Addr) (len0 cap0 : Nat) (z0 : List Int) (w : World) (w0 : (a0 = none ∧ len0 = 0 ∧ cap0 = 0 ∧ z0 = []) ∨ ∃ x, a0 = some x ∧ len0 ≤ cap0 ∧ cap0 ≤ maxLen ∧ z0.length = cap0 ∧ (∀ i, i < z0.length → w.cell? (x.add i) = some (.int .i64 (z0.getD i 0))) ∧ ∀ n ∈ z0, (Lit.int .i64 n).wf = true) (y0 : len0 * 8 ≤ 140737488351232) :
    Calls Try.prog 4 #[.slice a0 len0 cap0] w fun e w' => e = .returned (.bool true) ∧ Below w.heap.size w w' := by
  obtain ⟨l0, rfl, hr0, hm0, hw0, hc0⟩ := ReadsInt.ofRowC w0
  obtain ⟨k, h⟩ := P l0 hm0 y0 hw0
  refine (spykeep2_SlewTimes.calls k _ _ l0 true w (Kd.C_of_reads (d := (0 : Int)) (h1 := fun _ => rfl) hr0) hc0 h).mono ?_
  rintro e w' ⟨rfl, hd⟩
  exact ⟨rfl, hd⟩

end Go.Proofs.Ytmdphfjpocmooaa.PSlewTimes
