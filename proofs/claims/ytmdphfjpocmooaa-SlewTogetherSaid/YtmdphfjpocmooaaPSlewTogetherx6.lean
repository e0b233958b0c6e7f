-- Written by a program of this session out of the translation (wip/tools).
import Derived.Test.YtmdphfjpocmooaaPSlewTogetherx0
import Derived.Test.YtmdphfjpocmooaaPSlewTogetherx1
import Derived.Test.YtmdphfjpocmooaaPSlewTogetherx2
import Derived.Test.YtmdphfjpocmooaaPSlewTogetherx3
import Derived.Test.YtmdphfjpocmooaaPSlewTogetherx4
import Derived.Test.YtmdphfjpocmooaaPSlewTogetherx5
namespace Go.Proofs.Ytmdphfjpocmooaa.PSlewTogether
open Go.RowKit Go.Proofs.YtmdphfjpocmooaaW.PrintWords Go.Proofs.YtmdphfjpocmooaaW.PrintLast Go.Proofs.YtmdphfjpocmooaaW.PrintMore
attribute [local go_sem] max2_int min2_int max_two min_two max_three min_three max_four min_four   -- for this text's walks alone
set_option linter.unusedVariables false
set_option linter.unusedSimpArgs false

attribute [local go_sem high] eqA53
/-! ### spykeep2_SlewTogether: function 8 -/
def spykeep2_SlewTogether.j0 : Nat → Int → Int → Int → Int → Bool → Int → Int → Int → Int → Int → Int → Int → Int → Int → Int → Int → Int → Int → Int → Option (Bool)
  | 0, _, _, _, _, _, _, _, _, _, _, _, _, _, _, _, _, _, _, _ => none
  | k + 1, x11, x12, x13, x15, x70, x215000, x215001, x215002, x215003, x215004, x215005, x215006, x215007, x215008, x215009, x220000, x220001, x225000, x225001 => if x70 = true then (if x12 = 4 then (if x11 = 0 then (some (x225000 == 0 && (x225001 == 0))) else (some false)) else (some false)) else ((slew_Steps.f k x215000 x215001 x215002 x215003 x220000 x13).bind fun bt229 => ((slew_Steps.f k x215004 x215005 x215006 x215007 x220001 x15).bind fun bt231 => (if x12 = 0 then (if (x225000 == x13 && (x225001 == x15)) = true then (some (x11 == (mx bt229.1 bt231.1))) else (some false)) else (some false))))
def spykeep2_SlewTogether.f (k : Nat) (l0 : List Int) (a1 : Int) (a2 : Int) : Option (Bool) := (spykeep2_slews.f k).bind fun t201 => (if t201 = true then ((spymake_Stream_Mount.f k l0 0).bind fun bt203 => ((spymake_Stream_Inside.f l0 bt203.2.2.2.2.2.2.2.2.2.2 bt203.1 bt203.2.1 bt203.2.2.1 bt203.2.2.2.1).bind fun bt215 => ((spymake_Stream_Inside.f l0 bt215.2 bt203.2.2.2.2.1 bt203.2.2.2.2.2.1 bt203.2.2.2.2.2.2.1 bt203.2.2.2.2.2.2.2.1).bind fun bt217 => ((slew_To.f k bt203.1 bt203.2.1 bt203.2.2.1 bt203.2.2.2.1 bt203.2.2.2.2.1 bt203.2.2.2.2.2.1 bt203.2.2.2.2.2.2.1 bt203.2.2.2.2.2.2.2.1 bt203.2.2.2.2.2.2.2.2.1 bt203.2.2.2.2.2.2.2.2.2.1 bt215.1 bt217.1 a1 a2).bind fun bt220 => ((slew_Target.f k bt203.1 bt203.2.1 bt203.2.2.1 bt203.2.2.2.1 bt215.1 a1).bind fun bt225 => ((slew_Target.f k bt203.2.2.2.2.1 bt203.2.2.2.2.2.1 bt203.2.2.2.2.2.2.1 bt203.2.2.2.2.2.2.2.1 bt217.1 a2).bind fun bt227 => (if bt225.2 = 0 then (spykeep2_SlewTogether.j0 k bt220.2.2.1 bt220.2.2.2 bt225.1 bt227.1 (bt227.2 != 0) bt203.1 bt203.2.1 bt203.2.2.1 bt203.2.2.2.1 bt203.2.2.2.2.1 bt203.2.2.2.2.2.1 bt203.2.2.2.2.2.2.1 bt203.2.2.2.2.2.2.2.1 bt203.2.2.2.2.2.2.2.2.1 bt203.2.2.2.2.2.2.2.2.2.1 bt215.1 bt217.1 bt220.1 bt220.2.1) else (spykeep2_SlewTogether.j0 k bt220.2.2.1 bt220.2.2.2 bt225.1 bt227.1 true bt203.1 bt203.2.1 bt203.2.2.1 bt203.2.2.2.1 bt203.2.2.2.2.1 bt203.2.2.2.2.2.1 bt203.2.2.2.2.2.2.1 bt203.2.2.2.2.2.2.2.1 bt203.2.2.2.2.2.2.2.2.1 bt203.2.2.2.2.2.2.2.2.2.1 bt215.1 bt217.1 bt220.1 bt220.2.1)))))))) else (some false))
theorem spykeep2_SlewTogether.mono_l : ∀ k, (∀ y0 y1 y2 y3 y4 y5 y6 y7 y8 y9 y10 y11 y12 y13 y14 y15 y16 y17 y18, LeO (spykeep2_SlewTogether.j0 k y0 y1 y2 y3 y4 y5 y6 y7 y8 y9 y10 y11 y12 y13 y14 y15 y16 y17 y18) (spykeep2_SlewTogether.j0 (k + 1) y0 y1 y2 y3 y4 y5 y6 y7 y8 y9 y10 y11 y12 y13 y14 y15 y16 y17 y18))
  | 0 => fun _ _ _ _ _ _ _ _ _ _ _ _ _ _ _ _ _ _ _ r h => by simp [spykeep2_SlewTogether.j0] at h
  | k + 1 => by
    have ih0 := spykeep2_SlewTogether.mono_l k
    · intro y0 y1 y2 y3 y4 y5 y6 y7 y8 y9 y10 y11 y12 y13 y14 y15 y16 y17 y18
      unfold spykeep2_SlewTogether.j0
      repeat' first
      | (with_reducible exact ih0 _ _ _ _ _ _ _ _ _ _ _ _ _ _ _ _ _ _ _)
      | (with_reducible exact slew_Steps.mono _ _ _ _ _ _ _)
      | (with_reducible exact slew_Target.mono _ _ _ _ _ _ _)
      | (with_reducible exact slew_To.mono _ _ _ _ _ _ _ _ _ _ _ _ _ _ _)
      | (with_reducible exact spykeep2_slews.mono _)
      | (with_reducible exact spymake_Stream_Mount.mono _ _ _)
      | (with_reducible exact LeO.refl _)
      | (with_reducible exact LeO.none _)
      | (with_reducible refine LeO.ite ?_ ?_)
      | (with_reducible refine LeO.bind ?_ (fun _ => ?_))
      | exact ih0 _ _ _ _ _ _ _ _ _ _ _ _ _ _ _ _ _ _ _
      | exact slew_Steps.mono _ _ _ _ _ _ _
      | exact slew_Target.mono _ _ _ _ _ _ _
      | exact slew_To.mono _ _ _ _ _ _ _ _ _ _ _ _ _ _ _
      | exact spykeep2_slews.mono _
      | exact spymake_Stream_Mount.mono _ _ _
      | exact LeO.none _
      | refine LeO.ite ?_ ?_
      | refine LeO.bind ?_ (fun _ => ?_)
theorem spykeep2_SlewTogether.mono : ∀ a0 a1 a2 k, LeO (spykeep2_SlewTogether.f k a0 a1 a2) (spykeep2_SlewTogether.f (k + 1) a0 a1 a2) := by
  intro a0 a1 a2 k
  have ih0 := spykeep2_SlewTogether.mono_l k
  unfold spykeep2_SlewTogether.f
  repeat' first
      | (with_reducible exact ih0 _ _ _ _ _ _ _ _ _ _ _ _ _ _ _ _ _ _ _)
      | (with_reducible exact slew_Steps.mono _ _ _ _ _ _ _)
      | (with_reducible exact slew_Target.mono _ _ _ _ _ _ _)
      | (with_reducible exact slew_To.mono _ _ _ _ _ _ _ _ _ _ _ _ _ _ _)
      | (with_reducible exact spykeep2_slews.mono _)
      | (with_reducible exact spymake_Stream_Mount.mono _ _ _)
      | (with_reducible exact LeO.refl _)
      | (with_reducible exact LeO.none _)
      | (with_reducible refine LeO.ite ?_ ?_)
      | (with_reducible refine LeO.bind ?_ (fun _ => ?_))
      | exact ih0 _ _ _ _ _ _ _ _ _ _ _ _ _ _ _ _ _ _ _
      | exact slew_Steps.mono _ _ _ _ _ _ _
      | exact slew_Target.mono _ _ _ _ _ _ _
      | exact slew_To.mono _ _ _ _ _ _ _ _ _ _ _ _ _ _ _
      | exact spykeep2_slews.mono _
      | exact spymake_Stream_Mount.mono _ _ _
      | exact LeO.none _
      | refine LeO.ite ?_ ?_
      | refine LeO.bind ?_ (fun _ => ?_)
def spykeep2_SlewTogether.T5 : Bool × List (List Nat × List Nat) := (true, [([], []), ([], []), ([1], [1]), ([0, 2], [0, 2]), ([], []), ([], []), ([5], [5]), ([4, 6, 3], [4, 6]), ([3, 7], [3, 7]), ([], []), ([9, 8, 7, 0, 1, 2, 3, 4, 5, 6, 7, 8, 9], [8, 9])])
def spykeep2_SlewTogether.B5 : List Nat := [0, 0, 2, 7, 0, 0, 32, 127, 255, 0, 1023]
theorem spykeep2_SlewTogether.tab5 : rtab .any (opsOf Try.f8 5) = spykeep2_SlewTogether.T5 := by kernel_rfl
theorem spykeep2_SlewTogether.bits5 : waitsOk spykeep2_SlewTogether.T5.2 spykeep2_SlewTogether.B5 = true := by kernel_rfl
set_option maxHeartbeats 8000000 in
set_option maxRecDepth 100000 in
theorem spykeep2_SlewTogether.calls (k : Nat) (A0 : Option Addr) (c0 : Nat) (l0 : List Int) (a1 : Int) (a2 : Int) (r : Bool) (w : World) (hr0 : Kd.C (Kd.int .i64) w A0 l0.length l0) (hc0 : l0.length ≤ c0) (h : spykeep2_SlewTogether.f k l0 a1 a2 = some r) :
    Calls Try.prog 8 #[.slice A0 l0.length c0, .int .i64 a1, .int .i64 a2] w fun e w' => e = .returned (.bool r) ∧ Below w.heap.size w w' := by
  have hu26 := Try.underlying26
  have hu55 := Try.underlying55
  have hu28 := Try.underlying28
  have hu53 := Try.underlying53
  have HR0 := Aside0.mk hr0
  have HC0 := Aside0.mk hc0
  clear hr0 hc0
  have HB := Aside0.mk (Below.refl w.heap.size w)
  have H : ((spykeep2_slews.f k).bind fun t201 => (if t201 = true then ((spymake_Stream_Mount.f k l0 0).bind fun bt203 => ((spymake_Stream_Inside.f l0 bt203.2.2.2.2.2.2.2.2.2.2 bt203.1 bt203.2.1 bt203.2.2.1 bt203.2.2.2.1).bind fun bt215 => ((spymake_Stream_Inside.f l0 bt215.2 bt203.2.2.2.2.1 bt203.2.2.2.2.2.1 bt203.2.2.2.2.2.2.1 bt203.2.2.2.2.2.2.2.1).bind fun bt217 => ((slew_To.f k bt203.1 bt203.2.1 bt203.2.2.1 bt203.2.2.2.1 bt203.2.2.2.2.1 bt203.2.2.2.2.2.1 bt203.2.2.2.2.2.2.1 bt203.2.2.2.2.2.2.2.1 bt203.2.2.2.2.2.2.2.2.1 bt203.2.2.2.2.2.2.2.2.2.1 bt215.1 bt217.1 a1 a2).bind fun bt220 => ((slew_Target.f k bt203.1 bt203.2.1 bt203.2.2.1 bt203.2.2.2.1 bt215.1 a1).bind fun bt225 => ((slew_Target.f k bt203.2.2.2.2.1 bt203.2.2.2.2.2.1 bt203.2.2.2.2.2.2.1 bt203.2.2.2.2.2.2.2.1 bt217.1 a2).bind fun bt227 => (if bt225.2 = 0 then (spykeep2_SlewTogether.j0 k bt220.2.2.1 bt220.2.2.2 bt225.1 bt227.1 (bt227.2 != 0) bt203.1 bt203.2.1 bt203.2.2.1 bt203.2.2.2.1 bt203.2.2.2.2.1 bt203.2.2.2.2.2.1 bt203.2.2.2.2.2.2.1 bt203.2.2.2.2.2.2.2.1 bt203.2.2.2.2.2.2.2.2.1 bt203.2.2.2.2.2.2.2.2.2.1 bt215.1 bt217.1 bt220.1 bt220.2.1) else (spykeep2_SlewTogether.j0 k bt220.2.2.1 bt220.2.2.2 bt225.1 bt227.1 true bt203.1 bt203.2.1 bt203.2.2.1 bt203.2.2.2.1 bt203.2.2.2.2.1 bt203.2.2.2.2.2.1 bt203.2.2.2.2.2.2.1 bt203.2.2.2.2.2.2.2.1 bt203.2.2.2.2.2.2.2.2.1 bt203.2.2.2.2.2.2.2.2.2.1 bt215.1 bt217.1 bt220.1 bt220.2.1)))))))) else (some false))) = some r := h
  clear h
  replace H := Option.bind_eq_some_iff.mp H
  obtain ⟨t201, A40, H⟩ := H
  replace H : (if t201 = true then ((spymake_Stream_Mount.f k l0 0).bind fun bt203 => ((spymake_Stream_Inside.f l0 bt203.2.2.2.2.2.2.2.2.2.2 bt203.1 bt203.2.1 bt203.2.2.1 bt203.2.2.2.1).bind fun bt215 => ((spymake_Stream_Inside.f l0 bt215.2 bt203.2.2.2.2.1 bt203.2.2.2.2.2.1 bt203.2.2.2.2.2.2.1 bt203.2.2.2.2.2.2.2.1).bind fun bt217 => ((slew_To.f k bt203.1 bt203.2.1 bt203.2.2.1 bt203.2.2.2.1 bt203.2.2.2.2.1 bt203.2.2.2.2.2.1 bt203.2.2.2.2.2.2.1 bt203.2.2.2.2.2.2.2.1 bt203.2.2.2.2.2.2.2.2.1 bt203.2.2.2.2.2.2.2.2.2.1 bt215.1 bt217.1 a1 a2).bind fun bt220 => ((slew_Target.f k bt203.1 bt203.2.1 bt203.2.2.1 bt203.2.2.2.1 bt215.1 a1).bind fun bt225 => ((slew_Target.f k bt203.2.2.2.2.1 bt203.2.2.2.2.2.1 bt203.2.2.2.2.2.2.1 bt203.2.2.2.2.2.2.2.1 bt217.1 a2).bind fun bt227 => (if bt225.2 = 0 then (spykeep2_SlewTogether.j0 k bt220.2.2.1 bt220.2.2.2 bt225.1 bt227.1 (bt227.2 != 0) bt203.1 bt203.2.1 bt203.2.2.1 bt203.2.2.2.1 bt203.2.2.2.2.1 bt203.2.2.2.2.2.1 bt203.2.2.2.2.2.2.1 bt203.2.2.2.2.2.2.2.1 bt203.2.2.2.2.2.2.2.2.1 bt203.2.2.2.2.2.2.2.2.2.1 bt215.1 bt217.1 bt220.1 bt220.2.1) else (spykeep2_SlewTogether.j0 k bt220.2.2.1 bt220.2.2.2 bt225.1 bt227.1 true bt203.1 bt203.2.1 bt203.2.2.1 bt203.2.2.2.1 bt203.2.2.2.2.1 bt203.2.2.2.2.2.1 bt203.2.2.2.2.2.2.1 bt203.2.2.2.2.2.2.2.1 bt203.2.2.2.2.2.2.2.2.1 bt203.2.2.2.2.2.2.2.2.2.1 bt215.1 bt217.1 bt220.1 bt220.2.1)))))))) else (some false)) = some r := H
  have A4 := Aside0.mk A40
  clear A40
  by_cases c5 : t201 = true
  · subst c5
    have H1 : ((spymake_Stream_Mount.f k l0 0).bind fun bt203 => ((spymake_Stream_Inside.f l0 bt203.2.2.2.2.2.2.2.2.2.2 bt203.1 bt203.2.1 bt203.2.2.1 bt203.2.2.2.1).bind fun bt215 => ((spymake_Stream_Inside.f l0 bt215.2 bt203.2.2.2.2.1 bt203.2.2.2.2.2.1 bt203.2.2.2.2.2.2.1 bt203.2.2.2.2.2.2.2.1).bind fun bt217 => ((slew_To.f k bt203.1 bt203.2.1 bt203.2.2.1 bt203.2.2.2.1 bt203.2.2.2.2.1 bt203.2.2.2.2.2.1 bt203.2.2.2.2.2.2.1 bt203.2.2.2.2.2.2.2.1 bt203.2.2.2.2.2.2.2.2.1 bt203.2.2.2.2.2.2.2.2.2.1 bt215.1 bt217.1 a1 a2).bind fun bt220 => ((slew_Target.f k bt203.1 bt203.2.1 bt203.2.2.1 bt203.2.2.2.1 bt215.1 a1).bind fun bt225 => ((slew_Target.f k bt203.2.2.2.2.1 bt203.2.2.2.2.2.1 bt203.2.2.2.2.2.2.1 bt203.2.2.2.2.2.2.2.1 bt217.1 a2).bind fun bt227 => (if bt225.2 = 0 then (spykeep2_SlewTogether.j0 k bt220.2.2.1 bt220.2.2.2 bt225.1 bt227.1 (bt227.2 != 0) bt203.1 bt203.2.1 bt203.2.2.1 bt203.2.2.2.1 bt203.2.2.2.2.1 bt203.2.2.2.2.2.1 bt203.2.2.2.2.2.2.1 bt203.2.2.2.2.2.2.2.1 bt203.2.2.2.2.2.2.2.2.1 bt203.2.2.2.2.2.2.2.2.2.1 bt215.1 bt217.1 bt220.1 bt220.2.1) else (spykeep2_SlewTogether.j0 k bt220.2.2.1 bt220.2.2.2 bt225.1 bt227.1 true bt203.1 bt203.2.1 bt203.2.2.1 bt203.2.2.2.1 bt203.2.2.2.2.1 bt203.2.2.2.2.2.1 bt203.2.2.2.2.2.2.1 bt203.2.2.2.2.2.2.2.1 bt203.2.2.2.2.2.2.2.2.1 bt203.2.2.2.2.2.2.2.2.2.1 bt215.1 bt217.1 bt220.1 bt220.2.1)))))))) = some r := by rw [if_pos rfl] at H; exact H
    clear H
    have H := H1
    clear H1
    replace H := Option.bind_eq_some_iff.mp H
    obtain ⟨⟨t203, t204, t205, t206, t207, t208, t209, t210, t211, t212, t213⟩, A60, H⟩ := H
    replace H : ((spymake_Stream_Inside.f l0 t213 t203 t204 t205 t206).bind fun bt215 => ((spymake_Stream_Inside.f l0 bt215.2 t207 t208 t209 t210).bind fun bt217 => ((slew_To.f k t203 t204 t205 t206 t207 t208 t209 t210 t211 t212 bt215.1 bt217.1 a1 a2).bind fun bt220 => ((slew_Target.f k t203 t204 t205 t206 bt215.1 a1).bind fun bt225 => ((slew_Target.f k t207 t208 t209 t210 bt217.1 a2).bind fun bt227 => (if bt225.2 = 0 then (spykeep2_SlewTogether.j0 k bt220.2.2.1 bt220.2.2.2 bt225.1 bt227.1 (bt227.2 != 0) t203 t204 t205 t206 t207 t208 t209 t210 t211 t212 bt215.1 bt217.1 bt220.1 bt220.2.1) else (spykeep2_SlewTogether.j0 k bt220.2.2.1 bt220.2.2.2 bt225.1 bt227.1 true t203 t204 t205 t206 t207 t208 t209 t210 t211 t212 bt215.1 bt217.1 bt220.1 bt220.2.1))))))) = some r := H
    have A6 := Aside0.mk A60
    clear A60
    replace H := Option.bind_eq_some_iff.mp H
    obtain ⟨⟨t215, t216⟩, A70, H⟩ := H
    replace H : ((spymake_Stream_Inside.f l0 t216 t207 t208 t209 t210).bind fun bt217 => ((slew_To.f k t203 t204 t205 t206 t207 t208 t209 t210 t211 t212 t215 bt217.1 a1 a2).bind fun bt220 => ((slew_Target.f k t203 t204 t205 t206 t215 a1).bind fun bt225 => ((slew_Target.f k t207 t208 t209 t210 bt217.1 a2).bind fun bt227 => (if bt225.2 = 0 then (spykeep2_SlewTogether.j0 k bt220.2.2.1 bt220.2.2.2 bt225.1 bt227.1 (bt227.2 != 0) t203 t204 t205 t206 t207 t208 t209 t210 t211 t212 t215 bt217.1 bt220.1 bt220.2.1) else (spykeep2_SlewTogether.j0 k bt220.2.2.1 bt220.2.2.2 bt225.1 bt227.1 true t203 t204 t205 t206 t207 t208 t209 t210 t211 t212 t215 bt217.1 bt220.1 bt220.2.1)))))) = some r := H
    have A7 := Aside0.mk A70
    clear A70
    replace H := Option.bind_eq_some_iff.mp H
    obtain ⟨⟨t217, t218⟩, A80, H⟩ := H
    replace H : ((slew_To.f k t203 t204 t205 t206 t207 t208 t209 t210 t211 t212 t215 t217 a1 a2).bind fun bt220 => ((slew_Target.f k t203 t204 t205 t206 t215 a1).bind fun bt225 => ((slew_Target.f k t207 t208 t209 t210 t217 a2).bind fun bt227 => (if bt225.2 = 0 then (spykeep2_SlewTogether.j0 k bt220.2.2.1 bt220.2.2.2 bt225.1 bt227.1 (bt227.2 != 0) t203 t204 t205 t206 t207 t208 t209 t210 t211 t212 t215 t217 bt220.1 bt220.2.1) else (spykeep2_SlewTogether.j0 k bt220.2.2.1 bt220.2.2.2 bt225.1 bt227.1 true t203 t204 t205 t206 t207 t208 t209 t210 t211 t212 t215 t217 bt220.1 bt220.2.1))))) = some r := H
    have A8 := Aside0.mk A80
    clear A80
    replace H := Option.bind_eq_some_iff.mp H
    obtain ⟨⟨t220, t221, t222, t223⟩, A90, H⟩ := H
    replace H : ((slew_Target.f k t203 t204 t205 t206 t215 a1).bind fun bt225 => ((slew_Target.f k t207 t208 t209 t210 t217 a2).bind fun bt227 => (if bt225.2 = 0 then (spykeep2_SlewTogether.j0 k t222 t223 bt225.1 bt227.1 (bt227.2 != 0) t203 t204 t205 t206 t207 t208 t209 t210 t211 t212 t215 t217 t220 t221) else (spykeep2_SlewTogether.j0 k t222 t223 bt225.1 bt227.1 true t203 t204 t205 t206 t207 t208 t209 t210 t211 t212 t215 t217 t220 t221)))) = some r := H
    have A9 := Aside0.mk A90
    clear A90
    replace H := Option.bind_eq_some_iff.mp H
    obtain ⟨⟨t225, t226⟩, A100, H⟩ := H
    replace H : ((slew_Target.f k t207 t208 t209 t210 t217 a2).bind fun bt227 => (if t226 = 0 then (spykeep2_SlewTogether.j0 k t222 t223 t225 bt227.1 (bt227.2 != 0) t203 t204 t205 t206 t207 t208 t209 t210 t211 t212 t215 t217 t220 t221) else (spykeep2_SlewTogether.j0 k t222 t223 t225 bt227.1 true t203 t204 t205 t206 t207 t208 t209 t210 t211 t212 t215 t217 t220 t221))) = some r := H
    have A10 := Aside0.mk A100
    clear A100
    replace H := Option.bind_eq_some_iff.mp H
    obtain ⟨⟨t227, t228⟩, A110, H⟩ := H
    replace H : (if t226 = 0 then (spykeep2_SlewTogether.j0 k t222 t223 t225 t227 (t228 != 0) t203 t204 t205 t206 t207 t208 t209 t210 t211 t212 t215 t217 t220 t221) else (spykeep2_SlewTogether.j0 k t222 t223 t225 t227 true t203 t204 t205 t206 t207 t208 t209 t210 t211 t212 t215 t217 t220 t221)) = some r := H
    have A11 := Aside0.mk A110
    clear A110
    have HC12 := Aside0.mk H
    clear H
    go_enter Try.func8, Try.ntmps8
    try go_wp2_with (first | ((with_reducible refine gate_callee (f := 11) rfl ?_); refine goesL_ (some 21) rfl rfl Try.func11 (by kernel_rfl) rfl #[] rfl (by (try simp only [List.map_toArray, List.map_cons, List.map_nil]); first | done | rfl | (simp only [List.length_drop, List.length_take]; rfl)) ?_; (with_reducible refine (spykeep2_slews.calls k  true _ A4.out).mono ?_); rintro e w13 ⟨rfl, hb⟩; refine ⟨_, rfl, ?_⟩; have n0_ := Aside0.mk (below_step (by repeat (first | (with_reducible first | exact HB.out | apply below_alloc | apply pw_below_drewN | apply below_drew1) | exact HB.out)) hb); clear HB; have HB := n0_; clear n0_; (try clear hb); (try clear hb2); (try clear hk); (try clear hi)) | ((with_reducible refine gate_dst (N := 25) rfl ?_); (try (refine gate_guard (by rfl) ?_; dsimp only)); refine box_event ?hg (N := 25) ?hd (cs := #[.slice A0 l0.length c0, .int .i64 0]) (t := 26) ?hr ?_; (case hd => rfl); (case hg => rfl); (case hr => first | (go_simp; done) | (go_simp; rfl)); intro gb202 hg w14 hbox hb; have n0_ := Aside0.mk (below_step (by repeat (first | (with_reducible first | exact HB.out | apply below_alloc | apply pw_below_drewN | apply below_drew1) | exact HB.out)) hb); have n1_ := Aside0.mk ((by rw [hg]; exact (below_size (by repeat (first | (with_reducible first | exact HB.out | apply below_alloc | apply pw_below_drewN | apply below_drew1) | exact HB.out))) : w.heap.size ≤ gb202)); have n2_ := Aside0.mk ((by rw [hg]; exact (below_size (by repeat (first | (with_reducible first | exact HB.out | apply below_alloc | apply pw_below_drewN | apply below_drew1) | exact HB.out))) : w.heap.size ≤ gb202)); have n3_ := Aside0.mk ((show IsS26 w w14 gb202 l0 0 from ⟨_, _, hbox, (by rw [hg]; exact (below_size (by repeat (first | (with_reducible first | exact HB.out | apply below_alloc | apply pw_below_drewN | apply below_drew1) | exact HB.out))) : w.heap.size ≤ gb202), HR0.out⟩)); clear HB; have HB := n0_; have GW202 := n1_; have GE202 := n2_; have HI202 := n3_; clear n0_ n1_ n2_ n3_; clear hb hbox hg) | ((with_reducible refine gate_callee (f := 28) rfl ?_); refine goesL_ (some 27) rfl rfl Try.func28 (by kernel_rfl) rfl #[.pointer (some ⟨gb202, 0, none⟩)] rfl (by (try simp only [List.map_toArray, List.map_cons, List.map_nil]); first | done | rfl | (simp only [List.length_drop, List.length_take]; rfl)) ?_; (with_reducible refine (spymake_Stream_Mount.calls k gb202 l0 0 t203 t204 t205 t206 t207 t208 t209 t210 t211 t212 t213 w _ ?side1 ?side2 A6.out).mono ?_); (case side1 => repeat (first | (with_reducible first | exact HI202.out | apply IsS26.alloc | apply IsS26.drewN | apply IsS26.drew | apply IsS26.set_1) | exact HI202.out)); (case side2 => repeat (first | (with_reducible first | exact HB.out | apply below_alloc | apply pw_below_drewN | apply below_drew1 | refine below_set ?_ (IsS26.ge HI202.out)) | exact HB.out)); rintro e w15 ⟨rfl, hi, hb, hk⟩; refine ⟨_, rfl, ?_⟩; have n0_ := Aside0.mk (hb); have n1_ := Aside0.mk (hi); clear HB; clear HI202; have HB := n0_; have HI202 := n1_; clear n0_ n1_; (try clear hb); (try clear hb2); (try clear hk); (try clear hi)) | ((with_reducible refine gate_dst (N := 8) rfl ?_); (try (refine gate_guard (by rfl) ?_; dsimp only)); refine box_event ?hg (N := 8) ?hd (cs := #[.int .i64 0, .int .i64 0, .int .i64 0, .int .i64 0, .int .i64 0, .int .i64 0, .int .i64 0, .int .i64 0, .int .i64 0, .int .i64 0]) (t := 55) ?hr ?_; (case hd => rfl); (case hg => rfl); (case hr => first | (go_simp; done) | (go_simp; rfl)); intro gb214 hg w16 hbox hb; have n0_ := Aside0.mk (IsS26.below (by repeat (first | (with_reducible first | exact HI202.out | apply IsS26.alloc | apply IsS26.drewN | apply IsS26.drew | apply IsS26.set_1) | exact HI202.out)) hb); have n1_ := Aside0.mk (below_step (by repeat (first | (with_reducible first | exact HB.out | apply below_alloc | apply pw_below_drewN | apply below_drew1 | refine below_set ?_ (IsS26.ge HI202.out)) | exact HB.out)) hb); have n2_ := Aside0.mk (hbox); have n3_ := Aside0.mk ((by rw [hg]; exact (below_size (by repeat (first | (with_reducible first | exact HB.out | apply below_alloc | apply pw_below_drewN | apply below_drew1 | refine below_set ?_ (IsS26.ge HI202.out)) | exact HB.out))) : w.heap.size ≤ gb214)); have n4_ := Aside0.mk ((by rw [hg]; exact (below_size (by repeat (first | (with_reducible first | exact HB.out | apply below_alloc | apply pw_below_drewN | apply below_drew1 | refine below_set ?_ (IsS26.ge HI202.out)) | exact HB.out))) : w.heap.size ≤ gb214)); have n5_ := Aside0.mk ((by rw [hg]; exact Nat.ne_of_lt (IsS26.lt (show IsS26 w _ gb202 l0 t213 from by repeat (first | (with_reducible first | exact HI202.out | apply IsS26.alloc | apply IsS26.drewN | apply IsS26.drew | apply IsS26.set_1) | exact HI202.out))) : gb202 ≠ gb214)); have n6_ := Aside0.mk ((by rw [hg]; exact Nat.ne_of_gt (IsS26.lt (show IsS26 w _ gb202 l0 t213 from by repeat (first | (with_reducible first | exact HI202.out | apply IsS26.alloc | apply IsS26.drewN | apply IsS26.drew | apply IsS26.set_1) | exact HI202.out))) : gb214 ≠ gb202)); clear HI202; clear HB; have HI202 := n0_; have HB := n1_; have BK214 := n2_; have GW214 := n3_; have GE214 := n4_; have NB202_214 := n5_; have NB214_202 := n6_; clear n0_ n1_ n2_ n3_ n4_ n5_ n6_; clear hb hbox hg; have hnb17 := NB214_202.out; have hnc17 := NB202_214.out; have hcz18_0 : w16.cell? ⟨gb214, 0, none⟩ = some (.int .i64 0) := (blk_cell BK214.out 0).trans rfl; have hcz18_1 : w16.cell? ⟨gb214, 1, none⟩ = some (.int .i64 0) := (blk_cell BK214.out 1).trans rfl; have hcz18_2 : w16.cell? ⟨gb214, 2, none⟩ = some (.int .i64 0) := (blk_cell BK214.out 2).trans rfl; have hcz18_3 : w16.cell? ⟨gb214, 3, none⟩ = some (.int .i64 0) := (blk_cell BK214.out 3).trans rfl; have hcz18_4 : w16.cell? ⟨gb214, 4, none⟩ = some (.int .i64 0) := (blk_cell BK214.out 4).trans rfl; have hcz18_5 : w16.cell? ⟨gb214, 5, none⟩ = some (.int .i64 0) := (blk_cell BK214.out 5).trans rfl; have hcz18_6 : w16.cell? ⟨gb214, 6, none⟩ = some (.int .i64 0) := (blk_cell BK214.out 6).trans rfl; have hcz18_7 : w16.cell? ⟨gb214, 7, none⟩ = some (.int .i64 0) := (blk_cell BK214.out 7).trans rfl; have hcz18_8 : w16.cell? ⟨gb214, 8, none⟩ = some (.int .i64 0) := (blk_cell BK214.out 8).trans rfl; have hcz18_9 : w16.cell? ⟨gb214, 9, none⟩ = some (.int .i64 0) := (blk_cell BK214.out 9).trans rfl; have hfz18_0 := blk_frozen BK214.out 0; have hfz18_1 := blk_frozen BK214.out 1; have hfz18_2 := blk_frozen BK214.out 2; have hfz18_3 := blk_frozen BK214.out 3; have hfz18_4 := blk_frozen BK214.out 4; have hfz18_5 := blk_frozen BK214.out 5; have hfz18_6 := blk_frozen BK214.out 6; have hfz18_7 := blk_frozen BK214.out 7; have hfz18_8 := blk_frozen BK214.out 8; have hfz18_9 := blk_frozen BK214.out 9) | ((with_reducible refine gate_store (t := 55) (p := 8) rfl ?_); refine store_event (t := 55) (p := 8) (v := ?vo_w19) (w1 := ((((((((((w16.setCell ⟨gb214, 0, none⟩ (.int .i64 t203)).setCell ⟨gb214, 1, none⟩ (.int .i64 t204)).setCell ⟨gb214, 2, none⟩ (.int .i64 t205)).setCell ⟨gb214, 3, none⟩ (.int .i64 t206)).setCell ⟨gb214, 4, none⟩ (.int .i64 t207)).setCell ⟨gb214, 5, none⟩ (.int .i64 t208)).setCell ⟨gb214, 6, none⟩ (.int .i64 t209)).setCell ⟨gb214, 7, none⟩ (.int .i64 t210)).setCell ⟨gb214, 8, none⟩ (.int .i64 t211)).setCell ⟨gb214, 9, none⟩ (.int .i64 t212))) ?hg ?ho ?hn ?hr ?_; (case ho => rfl); (case hg => rfl); (case hn => rfl); (case hr => first | (go_simp; done) | (go_simp; rfl)); intro w19 hw; have n0_ : Aside0 (w19.heap[gb214]? = some (.cells #[.int .i64 t203, .int .i64 t204, .int .i64 t205, .int .i64 t206, .int .i64 t207, .int .i64 t208, .int .i64 t209, .int .i64 t210, .int .i64 t211, .int .i64 t212] 55 (0, 0))) := ⟨(by rw [hw]; exact (by (with_reducible repeat (first | refine blk_drewN ?_ _ | refine blk_drew ?_ | refine blk_alloc ?_ _)); refine blk_put (cs := #[.int .i64 t203, .int .i64 t204, .int .i64 t205, .int .i64 t206, .int .i64 t207, .int .i64 t208, .int .i64 t209, .int .i64 t210, .int .i64 t211, .int .i64 0]) ?_ 9 _ rfl; (with_reducible repeat (first | refine blk_drewN ?_ _ | refine blk_drew ?_ | refine blk_alloc ?_ _)); refine blk_put (cs := #[.int .i64 t203, .int .i64 t204, .int .i64 t205, .int .i64 t206, .int .i64 t207, .int .i64 t208, .int .i64 t209, .int .i64 t210, .int .i64 0, .int .i64 0]) ?_ 8 _ rfl; (with_reducible repeat (first | refine blk_drewN ?_ _ | refine blk_drew ?_ | refine blk_alloc ?_ _)); refine blk_put (cs := #[.int .i64 t203, .int .i64 t204, .int .i64 t205, .int .i64 t206, .int .i64 t207, .int .i64 t208, .int .i64 t209, .int .i64 0, .int .i64 0, .int .i64 0]) ?_ 7 _ rfl; (with_reducible repeat (first | refine blk_drewN ?_ _ | refine blk_drew ?_ | refine blk_alloc ?_ _)); refine blk_put (cs := #[.int .i64 t203, .int .i64 t204, .int .i64 t205, .int .i64 t206, .int .i64 t207, .int .i64 t208, .int .i64 0, .int .i64 0, .int .i64 0, .int .i64 0]) ?_ 6 _ rfl; (with_reducible repeat (first | refine blk_drewN ?_ _ | refine blk_drew ?_ | refine blk_alloc ?_ _)); refine blk_put (cs := #[.int .i64 t203, .int .i64 t204, .int .i64 t205, .int .i64 t206, .int .i64 t207, .int .i64 0, .int .i64 0, .int .i64 0, .int .i64 0, .int .i64 0]) ?_ 5 _ rfl; (with_reducible repeat (first | refine blk_drewN ?_ _ | refine blk_drew ?_ | refine blk_alloc ?_ _)); refine blk_put (cs := #[.int .i64 t203, .int .i64 t204, .int .i64 t205, .int .i64 t206, .int .i64 0, .int .i64 0, .int .i64 0, .int .i64 0, .int .i64 0, .int .i64 0]) ?_ 4 _ rfl; (with_reducible repeat (first | refine blk_drewN ?_ _ | refine blk_drew ?_ | refine blk_alloc ?_ _)); refine blk_put (cs := #[.int .i64 t203, .int .i64 t204, .int .i64 t205, .int .i64 0, .int .i64 0, .int .i64 0, .int .i64 0, .int .i64 0, .int .i64 0, .int .i64 0]) ?_ 3 _ rfl; (with_reducible repeat (first | refine blk_drewN ?_ _ | refine blk_drew ?_ | refine blk_alloc ?_ _)); refine blk_put (cs := #[.int .i64 t203, .int .i64 t204, .int .i64 0, .int .i64 0, .int .i64 0, .int .i64 0, .int .i64 0, .int .i64 0, .int .i64 0, .int .i64 0]) ?_ 2 _ rfl; (with_reducible repeat (first | refine blk_drewN ?_ _ | refine blk_drew ?_ | refine blk_alloc ?_ _)); refine blk_put (cs := #[.int .i64 t203, .int .i64 0, .int .i64 0, .int .i64 0, .int .i64 0, .int .i64 0, .int .i64 0, .int .i64 0, .int .i64 0, .int .i64 0]) ?_ 1 _ rfl; (with_reducible repeat (first | refine blk_drewN ?_ _ | refine blk_drew ?_ | refine blk_alloc ?_ _)); refine blk_put (cs := #[.int .i64 0, .int .i64 0, .int .i64 0, .int .i64 0, .int .i64 0, .int .i64 0, .int .i64 0, .int .i64 0, .int .i64 0, .int .i64 0]) ?_ 0 _ rfl; (with_reducible repeat (first | refine blk_drewN ?_ _ | refine blk_drew ?_ | refine blk_alloc ?_ _)); exact BK214.out))⟩; have n1_ : Aside0 (IsS26 w w19 gb202 l0 t213) := ⟨(by rw [hw]; exact (by repeat (first | (with_reducible first | exact HI202.out | apply IsS26.alloc | apply IsS26.drewN | apply IsS26.drew | apply IsS26.set_1 | refine IsS26.far ?_ NB202_214.out _) | exact HI202.out)))⟩; have n2_ : Aside0 (Below w.heap.size w w19) := ⟨(by rw [hw]; exact (by repeat (first | (with_reducible first | exact HB.out | apply below_alloc | apply pw_below_drewN | apply below_drew1 | refine below_set ?_ (IsS26.ge HI202.out) | refine below_set ?_ GE214.out) | exact HB.out)))⟩; clear hw; clear BK214; clear HI202; clear HB; have BK214 := n0_; have HI202 := n1_; have HB := n2_; clear n0_ n1_ n2_))
    have n0_ := Aside0.mk (blk_drew BK214.out)
    have n1_ := Aside0.mk (IsS26.drew HI202.out)
    have n2_ := Aside0.mk (below_drew1 HB.out)
    clear BK214
    clear HI202
    clear HB
    have BK214 := n0_
    have HI202 := n1_
    have HB := n2_
    clear n0_ n1_ n2_
    refine start_ (n := 11) (S := fun w' => w'.cell? ⟨gb214, 0, none⟩ = some (.int .i64 t203) ∧ w'.cell? ⟨gb214, 1, none⟩ = some (.int .i64 t204) ∧ w'.cell? ⟨gb214, 2, none⟩ = some (.int .i64 t205) ∧ w'.cell? ⟨gb214, 3, none⟩ = some (.int .i64 t206) ∧ w'.cell? ⟨gb214, 4, none⟩ = some (.int .i64 t207) ∧ w'.cell? ⟨gb214, 5, none⟩ = some (.int .i64 t208) ∧ w'.cell? ⟨gb214, 6, none⟩ = some (.int .i64 t209) ∧ w'.cell? ⟨gb214, 7, none⟩ = some (.int .i64 t210) ∧ w'.cell? ⟨gb214, 8, none⟩ = some (.int .i64 t211) ∧ w'.cell? ⟨gb214, 9, none⟩ = some (.int .i64 t212)) (ds := []) #[false, false, false, false, false, false, false, false, false, false, false] (by kernel_rfl) rfl rfl ⟨(blk_cell BK214.out 0).trans rfl, (blk_cell BK214.out 1).trans rfl, (blk_cell BK214.out 2).trans rfl, (blk_cell BK214.out 3).trans rfl, (blk_cell BK214.out 4).trans rfl, (blk_cell BK214.out 5).trans rfl, (blk_cell BK214.out 6).trans rfl, (blk_cell BK214.out 7).trans rfl, (blk_cell BK214.out 8).trans rfl, (blk_cell BK214.out 9).trans rfl⟩ (fun hHeld => ?_); refine with_tabW spykeep2_SlewTogether.tab5 spykeep2_SlewTogether.bits5 (fun HT_ HW_ => ?_)
    generalize w19.drew = w20 at BK214 HI202 HB hHeld ⊢
    refine pure_ (i := 0) (N := some 28) (v := ?_) (a' := ?_) #[true, false, false, false, false, false, false, false, false, false, false] rfl rfl (any_of HT_.out (by kernel_rfl)) (fun _ _ _ h => h) (Or.inl ⟨by rfl, ?_⟩) ?_ ?_
    rotate_left
    · intro w'
      go_simp
      with_reducible rfl
    rotate_left
    · simp only [Act.put, List.setIfInBounds_toArray, List.set_cons_zero, List.set_cons_succ, i64_w, i32_w]
      rfl
    refine pure_ (i := 1) (N := some 29) (v := ?_) (a' := ?_) #[true, true, false, false, false, false, false, false, false, false, false] rfl rfl (any_of HT_.out (by kernel_rfl)) (fun _ _ _ h => h) (Or.inl ⟨by rfl, ?_⟩) ?_ ?_
    rotate_left
    · intro w'
      go_simp
      with_reducible rfl
    rotate_left
    · simp only [Act.put, List.setIfInBounds_toArray, List.set_cons_zero, List.set_cons_succ, i64_w, i32_w]
      rfl
    refine pure_ (i := 4) (N := some 32) (v := ?_) (a' := ?_) #[true, true, false, false, true, false, false, false, false, false, false] rfl rfl (any_of HT_.out (by kernel_rfl)) (fun _ _ _ h => h) (Or.inl ⟨by rfl, ?_⟩) ?_ ?_
    rotate_left
    · intro w'
      go_simp
      with_reducible rfl
    rotate_left
    · simp only [Act.put, List.setIfInBounds_toArray, List.set_cons_zero, List.set_cons_succ, i64_w, i32_w]
      rfl
    refine pure_ (i := 5) (N := some 33) (v := ?_) (a' := ?_) #[true, true, false, false, true, true, false, false, false, false, false] rfl rfl (any_of HT_.out (by kernel_rfl)) (fun _ _ _ h => h) (Or.inl ⟨by rfl, ?_⟩) ?_ ?_
    rotate_left
    · intro w'
      go_simp
      with_reducible rfl
    rotate_left
    · simp only [Act.put, List.setIfInBounds_toArray, List.set_cons_zero, List.set_cons_succ, i64_w, i32_w]
      rfl
    refine take_ (i := 2) (N := some 30) (v := ?_) (a' := ?_) #[true, true, true, false, true, true, false, false, false, false, false] rfl rfl (take_ofW HT_.out HW_.out (by kernel_rfl)) (fun _ _ _ h => h) (Or.inl ⟨by rfl, ?_⟩) hHeld ?_ ?_
    rotate_left
    · rintro w' ⟨s0, s1, s2, s3, s4, s5, s6, s7, s8, s9⟩
      go_simp
      with_reducible rfl
    rotate_left
    · simp only [Act.put, List.setIfInBounds_toArray, List.set_cons_zero, List.set_cons_succ, i64_w, i32_w]
      rfl
    refine take_ (i := 6) (N := some 34) (v := ?_) (a' := ?_) #[true, true, true, false, true, true, true, false, false, false, false] rfl rfl (take_ofW HT_.out HW_.out (by kernel_rfl)) (fun _ _ _ h => h) (Or.inl ⟨by rfl, ?_⟩) hHeld ?_ ?_
    rotate_left
    · rintro w' ⟨s0, s1, s2, s3, s4, s5, s6, s7, s8, s9⟩
      go_simp
      with_reducible rfl
    rotate_left
    · simp only [Act.put, List.setIfInBounds_toArray, List.set_cons_zero, List.set_cons_succ, i64_w, i32_w]
      rfl
    refine join_ (σ := Nat) 1 #[true, true, true, true, true, true, true, true, true, true, false] (fun s_ => [(31, .int .i64 t215), (35, .int .i64 t217), (9, .pointer (some ⟨s_, 0, none⟩)), (36, .agg #[.int .i64 t215, .int .i64 t217])]) (fun s_ w' => (w'.cell? ⟨gb214, 0, none⟩ = some (.int .i64 t203) ∧ w'.cell? ⟨gb214, 1, none⟩ = some (.int .i64 t204) ∧ w'.cell? ⟨gb214, 2, none⟩ = some (.int .i64 t205) ∧ w'.cell? ⟨gb214, 3, none⟩ = some (.int .i64 t206) ∧ w'.cell? ⟨gb214, 4, none⟩ = some (.int .i64 t207) ∧ w'.cell? ⟨gb214, 5, none⟩ = some (.int .i64 t208) ∧ w'.cell? ⟨gb214, 6, none⟩ = some (.int .i64 t209) ∧ w'.cell? ⟨gb214, 7, none⟩ = some (.int .i64 t210) ∧ w'.cell? ⟨gb214, 8, none⟩ = some (.int .i64 t211) ∧ w'.cell? ⟨gb214, 9, none⟩ = some (.int .i64 t212)) ∧ (w'.heap[gb214]? = some (.cells #[.int .i64 t203, .int .i64 t204, .int .i64 t205, .int .i64 t206, .int .i64 t207, .int .i64 t208, .int .i64 t209, .int .i64 t210, .int .i64 t211, .int .i64 t212] 55 (0, 0))) ∧ (w'.heap[s_]? = some (.cells #[.int .i64 0, .int .i64 0] 53 (0, 0))) ∧ (w.heap.size ≤ s_) ∧ (w.heap.size ≤ s_) ∧ (gb202 ≠ s_) ∧ (s_ ≠ gb202) ∧ (gb214 ≠ s_) ∧ (s_ ≠ gb214) ∧ (IsS26 w w' gb202 l0 t218) ∧ (Below w.heap.size w w')) ?_ ?_
    rotate_left
    · intro hCont
      refine two_ (i := 3) (j := 9) (Ni := some 31) (Nj := some 9) #[true, true, true, true, true, true, true, false, false, false, false] #[true, true, true, false, true, true, true, false, false, true, false] rfl rfl rfl rfl (two_of HT_.out (by kernel_rfl)) (by decide) (by decide) (fun K hK => ?_) (fun K hK => ?_)
      · skip
        refine goes_ Try.func13 (by kernel_rfl) rfl #[.pointer (some ⟨gb202, 0, none⟩), .agg #[.int .i64 t203, .int .i64 t204, .int .i64 t205, .int .i64 t206]] (by rfl) rfl rfl (by (try simp only [List.map_toArray, List.map_cons, List.map_nil]); first | done | rfl | (simp only [List.length_drop, List.length_take]; rfl)) ?_
        with_reducible refine (spymake_Stream_Inside.calls gb202 l0 t213 t203 t204 t205 t206 t215 t216 w _ ?side1 ?side2 A7.out).mono ?_
        (case side1 => repeat (first | (with_reducible first | exact HI202.out | apply IsS26.alloc | apply IsS26.drewN | apply IsS26.drew | apply IsS26.set_1 | refine IsS26.far ?_ NB202_214.out _) | exact HI202.out))
        (case side2 => repeat (first | (with_reducible first | exact HB.out | apply below_alloc | apply pw_below_drewN | apply below_drew1 | refine below_set ?_ (IsS26.ge HI202.out) | refine below_set ?_ GE214.out) | exact HB.out))
        rintro e w21 ⟨rfl, hi, hb, hk⟩
        refine ⟨_, rfl, ?_⟩
        have n0_ := Aside0.mk (KeepBut.blk hk (g' := gb214) (o := .cells #[.int .i64 t203, .int .i64 t204, .int .i64 t205, .int .i64 t206, .int .i64 t207, .int .i64 t208, .int .i64 t209, .int .i64 t210, .int .i64 t211, .int .i64 t212] 55 (0, 0)) (by (with_reducible repeat (first | refine blk_drewN ?_ _ | refine blk_drew ?_ | refine blk_alloc ?_ _)); exact BK214.out) NB214_202.out (by simp))
        have n1_ := Aside0.mk (hb)
        have n2_ := Aside0.mk (hi)
        clear BK214
        clear HB
        clear HI202
        have BK214 := n0_
        have HB := n1_
        have HI202 := n2_
        clear n0_ n1_ n2_
        (try clear hb)
        (try clear hb2)
        (try clear hk)
        (try clear hi)
        refine hK.out _ _ ⟨(blk_cell BK214.out 0).trans rfl, (blk_cell BK214.out 1).trans rfl, (blk_cell BK214.out 2).trans rfl, (blk_cell BK214.out 3).trans rfl, (blk_cell BK214.out 4).trans rfl, (blk_cell BK214.out 5).trans rfl, (blk_cell BK214.out 6).trans rfl, (blk_cell BK214.out 7).trans rfl, (blk_cell BK214.out 8).trans rfl, (blk_cell BK214.out 9).trans rfl⟩ (fun hHeld => ?_)
        clear hK K
        refine norm_ (a' := ?_) ?_ ?_
        rotate_left
        · show Act.put _ (some 31) _ = _
          simp only [Act.put, List.setIfInBounds_toArray, List.set_cons_zero, List.set_cons_succ, i64_w, i32_w]
          rfl
        refine two_ (i := 7) (j := 9) (Ni := some 35) (Nj := some 9) #[true, true, true, true, true, true, true, true, false, false, false] #[true, true, true, true, true, true, true, false, false, true, false] rfl rfl rfl rfl (two_of HT_.out (by kernel_rfl)) (by decide) (by decide) (fun K hK => ?_) (fun K hK => ?_)
        · skip
          refine goes_ Try.func13 (by kernel_rfl) rfl #[.pointer (some ⟨gb202, 0, none⟩), .agg #[.int .i64 t207, .int .i64 t208, .int .i64 t209, .int .i64 t210]] (by rfl) rfl rfl (by (try simp only [List.map_toArray, List.map_cons, List.map_nil]); first | done | rfl | (simp only [List.length_drop, List.length_take]; rfl)) ?_
          with_reducible refine (spymake_Stream_Inside.calls gb202 l0 t216 t207 t208 t209 t210 t217 t218 w _ ?side1 ?side2 A8.out).mono ?_
          (case side1 => repeat (first | (with_reducible first | exact HI202.out | apply IsS26.alloc | apply IsS26.drewN | apply IsS26.drew | apply IsS26.set_1 | refine IsS26.far ?_ NB202_214.out _) | exact HI202.out))
          (case side2 => repeat (first | (with_reducible first | exact HB.out | apply below_alloc | apply pw_below_drewN | apply below_drew1 | refine below_set ?_ (IsS26.ge HI202.out) | refine below_set ?_ GE214.out) | exact HB.out))
          rintro e w22 ⟨rfl, hi, hb, hk⟩
          refine ⟨_, rfl, ?_⟩
          have n0_ := Aside0.mk (KeepBut.blk hk (g' := gb214) (o := .cells #[.int .i64 t203, .int .i64 t204, .int .i64 t205, .int .i64 t206, .int .i64 t207, .int .i64 t208, .int .i64 t209, .int .i64 t210, .int .i64 t211, .int .i64 t212] 55 (0, 0)) (by (with_reducible repeat (first | refine blk_drewN ?_ _ | refine blk_drew ?_ | refine blk_alloc ?_ _)); exact BK214.out) NB214_202.out (by simp))
          have n1_ := Aside0.mk (hb)
          have n2_ := Aside0.mk (hi)
          clear BK214
          clear HB
          clear HI202
          have BK214 := n0_
          have HB := n1_
          have HI202 := n2_
          clear n0_ n1_ n2_
          (try clear hb)
          (try clear hb2)
          (try clear hk)
          (try clear hi)
          refine hK.out _ _ ⟨(blk_cell BK214.out 0).trans rfl, (blk_cell BK214.out 1).trans rfl, (blk_cell BK214.out 2).trans rfl, (blk_cell BK214.out 3).trans rfl, (blk_cell BK214.out 4).trans rfl, (blk_cell BK214.out 5).trans rfl, (blk_cell BK214.out 6).trans rfl, (blk_cell BK214.out 7).trans rfl, (blk_cell BK214.out 8).trans rfl, (blk_cell BK214.out 9).trans rfl⟩ (fun hHeld => ?_)
          clear hK K
          refine norm_ (a' := ?_) ?_ ?_
          rotate_left
          · show Act.put _ (some 35) _ = _
            simp only [Act.put, List.setIfInBounds_toArray, List.set_cons_zero, List.set_cons_succ, i64_w, i32_w]
            rfl
          refine pure_ (i := 8) (N := some 36) (v := ?_) (a' := ?_) #[true, true, true, true, true, true, true, true, true, false, false] rfl rfl (any_of HT_.out (by kernel_rfl)) (fun _ _ _ h => h) (Or.inl ⟨by rfl, ?_⟩) ?_ ?_
          rotate_left
          · intro w'
            go_simp
            with_reducible rfl
          rotate_left
          · simp only [Act.put, List.setIfInBounds_toArray, List.set_cons_zero, List.set_cons_succ, i64_w, i32_w]
            rfl
          refine one_ (i := 9) (N := some 9) #[true, true, true, true, true, true, true, true, true, true, false] rfl rfl (one_of HT_.out (by kernel_rfl)) (by decide) (fun K hK => ?_)
          refine box_step ?hg (N := 9) ?hd (cs := #[.int .i64 0, .int .i64 0]) (t := 53) ?hr ?_; (case hd => rfl); (case hg => rfl); (case hr => first | (go_simp; done) | (go_simp; rfl))
          intro gb219 hg w23 hbox hb
          have n0_ := Aside0.mk (IsS26.below (by repeat (first | (with_reducible first | exact HI202.out | apply IsS26.alloc | apply IsS26.drewN | apply IsS26.drew | apply IsS26.set_1 | refine IsS26.far ?_ NB202_214.out _) | exact HI202.out)) hb)
          have n1_ := Aside0.mk (blk_below (g := gb214) (o := .cells #[.int .i64 t203, .int .i64 t204, .int .i64 t205, .int .i64 t206, .int .i64 t207, .int .i64 t208, .int .i64 t209, .int .i64 t210, .int .i64 t211, .int .i64 t212] 55 (0, 0)) (by (with_reducible repeat (first | refine blk_drewN ?_ _ | refine blk_drew ?_ | refine blk_alloc ?_ _)); exact BK214.out) hb)
          have n2_ := Aside0.mk (below_step (by repeat (first | (with_reducible first | exact HB.out | apply below_alloc | apply pw_below_drewN | apply below_drew1 | refine below_set ?_ (IsS26.ge HI202.out) | refine below_set ?_ GE214.out) | exact HB.out)) hb)
          have n3_ := Aside0.mk (hbox)
          have n4_ := Aside0.mk ((by rw [hg]; exact (below_size (by repeat (first | (with_reducible first | exact HB.out | apply below_alloc | apply pw_below_drewN | apply below_drew1 | refine below_set ?_ (IsS26.ge HI202.out) | refine below_set ?_ GE214.out) | exact HB.out))) : w.heap.size ≤ gb219))
          have n5_ := Aside0.mk ((by rw [hg]; exact (below_size (by repeat (first | (with_reducible first | exact HB.out | apply below_alloc | apply pw_below_drewN | apply below_drew1 | refine below_set ?_ (IsS26.ge HI202.out) | refine below_set ?_ GE214.out) | exact HB.out))) : w.heap.size ≤ gb219))
          have n6_ := Aside0.mk ((by rw [hg]; exact Nat.ne_of_lt (blk_lt (g := gb214) (o := .cells #[.int .i64 t203, .int .i64 t204, .int .i64 t205, .int .i64 t206, .int .i64 t207, .int .i64 t208, .int .i64 t209, .int .i64 t210, .int .i64 t211, .int .i64 t212] 55 (0, 0)) (by (with_reducible repeat (first | refine blk_drewN ?_ _ | refine blk_drew ?_ | refine blk_alloc ?_ _)); exact BK214.out)) : gb214 ≠ gb219))
          have n7_ := Aside0.mk ((by rw [hg]; exact Nat.ne_of_gt (blk_lt (g := gb214) (o := .cells #[.int .i64 t203, .int .i64 t204, .int .i64 t205, .int .i64 t206, .int .i64 t207, .int .i64 t208, .int .i64 t209, .int .i64 t210, .int .i64 t211, .int .i64 t212] 55 (0, 0)) (by (with_reducible repeat (first | refine blk_drewN ?_ _ | refine blk_drew ?_ | refine blk_alloc ?_ _)); exact BK214.out)) : gb219 ≠ gb214))
          have n8_ := Aside0.mk ((by rw [hg]; exact Nat.ne_of_lt (IsS26.lt (show IsS26 w _ gb202 l0 t218 from by repeat (first | (with_reducible first | exact HI202.out | apply IsS26.alloc | apply IsS26.drewN | apply IsS26.drew | apply IsS26.set_1 | refine IsS26.far ?_ NB202_214.out _) | exact HI202.out))) : gb202 ≠ gb219))
          have n9_ := Aside0.mk ((by rw [hg]; exact Nat.ne_of_gt (IsS26.lt (show IsS26 w _ gb202 l0 t218 from by repeat (first | (with_reducible first | exact HI202.out | apply IsS26.alloc | apply IsS26.drewN | apply IsS26.drew | apply IsS26.set_1 | refine IsS26.far ?_ NB202_214.out _) | exact HI202.out))) : gb219 ≠ gb202))
          clear HI202
          clear BK214
          clear HB
          have HI202 := n0_
          have BK214 := n1_
          have HB := n2_
          have BK219 := n3_
          have GW219 := n4_
          have GE219 := n5_
          have NB214_219 := n6_
          have NB219_214 := n7_
          have NB202_219 := n8_
          have NB219_202 := n9_
          clear n0_ n1_ n2_ n3_ n4_ n5_ n6_ n7_ n8_ n9_
          clear hb hbox hg
          refine hK.out _ _ ⟨(blk_cell BK214.out 0).trans rfl, (blk_cell BK214.out 1).trans rfl, (blk_cell BK214.out 2).trans rfl, (blk_cell BK214.out 3).trans rfl, (blk_cell BK214.out 4).trans rfl, (blk_cell BK214.out 5).trans rfl, (blk_cell BK214.out 6).trans rfl, (blk_cell BK214.out 7).trans rfl, (blk_cell BK214.out 8).trans rfl, (blk_cell BK214.out 9).trans rfl⟩ (fun hHeld => ?_)
          clear hK K
          refine norm_ (a' := ?_) ?_ ?_
          rotate_left
          · show Act.put _ (some 9) _ = _
            simp only [Act.put, List.setIfInBounds_toArray, List.set_cons_zero, List.set_cons_succ, i64_w, i32_w]
            rfl
          exact norm_ (by simp only [putAll, Act.put, List.setIfInBounds_toArray, List.set_cons_zero, List.set_cons_succ]) (hCont (gb219) _ ⟨hHeld, (by (with_reducible repeat (first | refine blk_drewN ?_ _ | refine blk_drew ?_ | refine blk_alloc ?_ _)); exact BK214.out), (by (with_reducible repeat (first | refine blk_drewN ?_ _ | refine blk_drew ?_ | refine blk_alloc ?_ _)); exact BK219.out), GW219.out, GE219.out, NB202_219.out, NB219_202.out, NB214_219.out, NB219_214.out, (by repeat (first | (with_reducible first | exact HI202.out | apply IsS26.alloc | apply IsS26.drewN | apply IsS26.drew | apply IsS26.set_1 | refine IsS26.far ?_ NB202_214.out _ | refine IsS26.far ?_ NB202_219.out _) | exact HI202.out)), (by repeat (first | (with_reducible first | exact HB.out | apply below_alloc | apply pw_below_drewN | apply below_drew1 | refine below_set ?_ (IsS26.ge HI202.out) | refine below_set ?_ GE214.out | refine below_set ?_ GE219.out) | exact HB.out))⟩)
        · skip
          refine box_step ?hg (N := 9) ?hd (cs := #[.int .i64 0, .int .i64 0]) (t := 53) ?hr ?_; (case hd => rfl); (case hg => rfl); (case hr => first | (go_simp; done) | (go_simp; rfl))
          intro gb219 hg w22 hbox hb
          have n0_ := Aside0.mk (IsS26.below (by repeat (first | (with_reducible first | exact HI202.out | apply IsS26.alloc | apply IsS26.drewN | apply IsS26.drew | apply IsS26.set_1 | refine IsS26.far ?_ NB202_214.out _) | exact HI202.out)) hb)
          have n1_ := Aside0.mk (blk_below (g := gb214) (o := .cells #[.int .i64 t203, .int .i64 t204, .int .i64 t205, .int .i64 t206, .int .i64 t207, .int .i64 t208, .int .i64 t209, .int .i64 t210, .int .i64 t211, .int .i64 t212] 55 (0, 0)) (by (with_reducible repeat (first | refine blk_drewN ?_ _ | refine blk_drew ?_ | refine blk_alloc ?_ _)); exact BK214.out) hb)
          have n2_ := Aside0.mk (below_step (by repeat (first | (with_reducible first | exact HB.out | apply below_alloc | apply pw_below_drewN | apply below_drew1 | refine below_set ?_ (IsS26.ge HI202.out) | refine below_set ?_ GE214.out) | exact HB.out)) hb)
          have n3_ := Aside0.mk (hbox)
          have n4_ := Aside0.mk ((by rw [hg]; exact (below_size (by repeat (first | (with_reducible first | exact HB.out | apply below_alloc | apply pw_below_drewN | apply below_drew1 | refine below_set ?_ (IsS26.ge HI202.out) | refine below_set ?_ GE214.out) | exact HB.out))) : w.heap.size ≤ gb219))
          have n5_ := Aside0.mk ((by rw [hg]; exact (below_size (by repeat (first | (with_reducible first | exact HB.out | apply below_alloc | apply pw_below_drewN | apply below_drew1 | refine below_set ?_ (IsS26.ge HI202.out) | refine below_set ?_ GE214.out) | exact HB.out))) : w.heap.size ≤ gb219))
          have n6_ := Aside0.mk ((by rw [hg]; exact Nat.ne_of_lt (blk_lt (g := gb214) (o := .cells #[.int .i64 t203, .int .i64 t204, .int .i64 t205, .int .i64 t206, .int .i64 t207, .int .i64 t208, .int .i64 t209, .int .i64 t210, .int .i64 t211, .int .i64 t212] 55 (0, 0)) (by (with_reducible repeat (first | refine blk_drewN ?_ _ | refine blk_drew ?_ | refine blk_alloc ?_ _)); exact BK214.out)) : gb214 ≠ gb219))
          have n7_ := Aside0.mk ((by rw [hg]; exact Nat.ne_of_gt (blk_lt (g := gb214) (o := .cells #[.int .i64 t203, .int .i64 t204, .int .i64 t205, .int .i64 t206, .int .i64 t207, .int .i64 t208, .int .i64 t209, .int .i64 t210, .int .i64 t211, .int .i64 t212] 55 (0, 0)) (by (with_reducible repeat (first | refine blk_drewN ?_ _ | refine blk_drew ?_ | refine blk_alloc ?_ _)); exact BK214.out)) : gb219 ≠ gb214))
          have n8_ := Aside0.mk ((by rw [hg]; exact Nat.ne_of_lt (IsS26.lt (show IsS26 w _ gb202 l0 t216 from by repeat (first | (with_reducible first | exact HI202.out | apply IsS26.alloc | apply IsS26.drewN | apply IsS26.drew | apply IsS26.set_1 | refine IsS26.far ?_ NB202_214.out _) | exact HI202.out))) : gb202 ≠ gb219))
          have n9_ := Aside0.mk ((by rw [hg]; exact Nat.ne_of_gt (IsS26.lt (show IsS26 w _ gb202 l0 t216 from by repeat (first | (with_reducible first | exact HI202.out | apply IsS26.alloc | apply IsS26.drewN | apply IsS26.drew | apply IsS26.set_1 | refine IsS26.far ?_ NB202_214.out _) | exact HI202.out))) : gb219 ≠ gb202))
          clear HI202
          clear BK214
          clear HB
          have HI202 := n0_
          have BK214 := n1_
          have HB := n2_
          have BK219 := n3_
          have GW219 := n4_
          have GE219 := n5_
          have NB214_219 := n6_
          have NB219_214 := n7_
          have NB202_219 := n8_
          have NB219_202 := n9_
          clear n0_ n1_ n2_ n3_ n4_ n5_ n6_ n7_ n8_ n9_
          clear hb hbox hg
          refine hK.out _ _ ⟨(blk_cell BK214.out 0).trans rfl, (blk_cell BK214.out 1).trans rfl, (blk_cell BK214.out 2).trans rfl, (blk_cell BK214.out 3).trans rfl, (blk_cell BK214.out 4).trans rfl, (blk_cell BK214.out 5).trans rfl, (blk_cell BK214.out 6).trans rfl, (blk_cell BK214.out 7).trans rfl, (blk_cell BK214.out 8).trans rfl, (blk_cell BK214.out 9).trans rfl⟩ (fun hHeld => ?_)
          clear hK K
          refine norm_ (a' := ?_) ?_ ?_
          rotate_left
          · show Act.put _ (some 9) _ = _
            simp only [Act.put, List.setIfInBounds_toArray, List.set_cons_zero, List.set_cons_succ, i64_w, i32_w]
            rfl
          refine one_ (i := 7) (N := some 35) #[true, true, true, true, true, true, true, true, false, true, false] rfl rfl (one_of HT_.out (by kernel_rfl)) (by decide) (fun K hK => ?_)
          refine goes_ Try.func13 (by kernel_rfl) rfl #[.pointer (some ⟨gb202, 0, none⟩), .agg #[.int .i64 t207, .int .i64 t208, .int .i64 t209, .int .i64 t210]] (by rfl) rfl rfl (by (try simp only [List.map_toArray, List.map_cons, List.map_nil]); first | done | rfl | (simp only [List.length_drop, List.length_take]; rfl)) ?_
          with_reducible refine (spymake_Stream_Inside.calls gb202 l0 t216 t207 t208 t209 t210 t217 t218 w _ ?side1 ?side2 A8.out).mono ?_
          (case side1 => repeat (first | (with_reducible first | exact HI202.out | apply IsS26.alloc | apply IsS26.drewN | apply IsS26.drew | apply IsS26.set_1 | refine IsS26.far ?_ NB202_214.out _ | refine IsS26.far ?_ NB202_219.out _) | exact HI202.out))
          (case side2 => repeat (first | (with_reducible first | exact HB.out | apply below_alloc | apply pw_below_drewN | apply below_drew1 | refine below_set ?_ (IsS26.ge HI202.out) | refine below_set ?_ GE214.out | refine below_set ?_ GE219.out) | exact HB.out))
          rintro e w23 ⟨rfl, hi, hb, hk⟩
          refine ⟨_, rfl, ?_⟩
          have n0_ := Aside0.mk (KeepBut.blk hk (g' := gb214) (o := .cells #[.int .i64 t203, .int .i64 t204, .int .i64 t205, .int .i64 t206, .int .i64 t207, .int .i64 t208, .int .i64 t209, .int .i64 t210, .int .i64 t211, .int .i64 t212] 55 (0, 0)) (by (with_reducible repeat (first | refine blk_drewN ?_ _ | refine blk_drew ?_ | refine blk_alloc ?_ _)); exact BK214.out) NB214_202.out (by simp))
          have n1_ := Aside0.mk (KeepBut.blk hk (g' := gb219) (o := .cells #[.int .i64 0, .int .i64 0] 53 (0, 0)) (by (with_reducible repeat (first | refine blk_drewN ?_ _ | refine blk_drew ?_ | refine blk_alloc ?_ _)); exact BK219.out) NB219_202.out (by simp))
          have n2_ := Aside0.mk (hb)
          have n3_ := Aside0.mk (hi)
          clear BK214
          clear BK219
          clear HB
          clear HI202
          have BK214 := n0_
          have BK219 := n1_
          have HB := n2_
          have HI202 := n3_
          clear n0_ n1_ n2_ n3_
          (try clear hb)
          (try clear hb2)
          (try clear hk)
          (try clear hi)
          refine hK.out _ _ ⟨(blk_cell BK214.out 0).trans rfl, (blk_cell BK214.out 1).trans rfl, (blk_cell BK214.out 2).trans rfl, (blk_cell BK214.out 3).trans rfl, (blk_cell BK214.out 4).trans rfl, (blk_cell BK214.out 5).trans rfl, (blk_cell BK214.out 6).trans rfl, (blk_cell BK214.out 7).trans rfl, (blk_cell BK214.out 8).trans rfl, (blk_cell BK214.out 9).trans rfl⟩ (fun hHeld => ?_)
          clear hK K
          refine norm_ (a' := ?_) ?_ ?_
          rotate_left
          · show Act.put _ (some 35) _ = _
            simp only [Act.put, List.setIfInBounds_toArray, List.set_cons_zero, List.set_cons_succ, i64_w, i32_w]
            rfl
          refine pure_ (i := 8) (N := some 36) (v := ?_) (a' := ?_) #[true, true, true, true, true, true, true, true, true, true, false] rfl rfl (any_of HT_.out (by kernel_rfl)) (fun _ _ _ h => h) (Or.inl ⟨by rfl, ?_⟩) ?_ ?_
          rotate_left
          · intro w'
            go_simp
            with_reducible rfl
          rotate_left
          · simp only [Act.put, List.setIfInBounds_toArray, List.set_cons_zero, List.set_cons_succ, i64_w, i32_w]
            rfl
          exact norm_ (by simp only [putAll, Act.put, List.setIfInBounds_toArray, List.set_cons_zero, List.set_cons_succ]) (hCont (gb219) _ ⟨hHeld, (by (with_reducible repeat (first | refine blk_drewN ?_ _ | refine blk_drew ?_ | refine blk_alloc ?_ _)); exact BK214.out), (by (with_reducible repeat (first | refine blk_drewN ?_ _ | refine blk_drew ?_ | refine blk_alloc ?_ _)); exact BK219.out), GW219.out, GE219.out, NB202_219.out, NB219_202.out, NB214_219.out, NB219_214.out, (by repeat (first | (with_reducible first | exact HI202.out | apply IsS26.alloc | apply IsS26.drewN | apply IsS26.drew | apply IsS26.set_1 | refine IsS26.far ?_ NB202_214.out _ | refine IsS26.far ?_ NB202_219.out _) | exact HI202.out)), (by repeat (first | (with_reducible first | exact HB.out | apply below_alloc | apply pw_below_drewN | apply below_drew1 | refine below_set ?_ (IsS26.ge HI202.out) | refine below_set ?_ GE214.out | refine below_set ?_ GE219.out) | exact HB.out))⟩)
      · skip
        refine box_step ?hg (N := 9) ?hd (cs := #[.int .i64 0, .int .i64 0]) (t := 53) ?hr ?_; (case hd => rfl); (case hg => rfl); (case hr => first | (go_simp; done) | (go_simp; rfl))
        intro gb219 hg w21 hbox hb
        have n0_ := Aside0.mk (IsS26.below (by repeat (first | (with_reducible first | exact HI202.out | apply IsS26.alloc | apply IsS26.drewN | apply IsS26.drew | apply IsS26.set_1 | refine IsS26.far ?_ NB202_214.out _) | exact HI202.out)) hb)
        have n1_ := Aside0.mk (blk_below (g := gb214) (o := .cells #[.int .i64 t203, .int .i64 t204, .int .i64 t205, .int .i64 t206, .int .i64 t207, .int .i64 t208, .int .i64 t209, .int .i64 t210, .int .i64 t211, .int .i64 t212] 55 (0, 0)) (by (with_reducible repeat (first | refine blk_drewN ?_ _ | refine blk_drew ?_ | refine blk_alloc ?_ _)); exact BK214.out) hb)
        have n2_ := Aside0.mk (below_step (by repeat (first | (with_reducible first | exact HB.out | apply below_alloc | apply pw_below_drewN | apply below_drew1 | refine below_set ?_ (IsS26.ge HI202.out) | refine below_set ?_ GE214.out) | exact HB.out)) hb)
        have n3_ := Aside0.mk (hbox)
        have n4_ := Aside0.mk ((by rw [hg]; exact (below_size (by repeat (first | (with_reducible first | exact HB.out | apply below_alloc | apply pw_below_drewN | apply below_drew1 | refine below_set ?_ (IsS26.ge HI202.out) | refine below_set ?_ GE214.out) | exact HB.out))) : w.heap.size ≤ gb219))
        have n5_ := Aside0.mk ((by rw [hg]; exact (below_size (by repeat (first | (with_reducible first | exact HB.out | apply below_alloc | apply pw_below_drewN | apply below_drew1 | refine below_set ?_ (IsS26.ge HI202.out) | refine below_set ?_ GE214.out) | exact HB.out))) : w.heap.size ≤ gb219))
        have n6_ := Aside0.mk ((by rw [hg]; exact Nat.ne_of_lt (blk_lt (g := gb214) (o := .cells #[.int .i64 t203, .int .i64 t204, .int .i64 t205, .int .i64 t206, .int .i64 t207, .int .i64 t208, .int .i64 t209, .int .i64 t210, .int .i64 t211, .int .i64 t212] 55 (0, 0)) (by (with_reducible repeat (first | refine blk_drewN ?_ _ | refine blk_drew ?_ | refine blk_alloc ?_ _)); exact BK214.out)) : gb214 ≠ gb219))
        have n7_ := Aside0.mk ((by rw [hg]; exact Nat.ne_of_gt (blk_lt (g := gb214) (o := .cells #[.int .i64 t203, .int .i64 t204, .int .i64 t205, .int .i64 t206, .int .i64 t207, .int .i64 t208, .int .i64 t209, .int .i64 t210, .int .i64 t211, .int .i64 t212] 55 (0, 0)) (by (with_reducible repeat (first | refine blk_drewN ?_ _ | refine blk_drew ?_ | refine blk_alloc ?_ _)); exact BK214.out)) : gb219 ≠ gb214))
        have n8_ := Aside0.mk ((by rw [hg]; exact Nat.ne_of_lt (IsS26.lt (show IsS26 w _ gb202 l0 t213 from by repeat (first | (with_reducible first | exact HI202.out | apply IsS26.alloc | apply IsS26.drewN | apply IsS26.drew | apply IsS26.set_1 | refine IsS26.far ?_ NB202_214.out _) | exact HI202.out))) : gb202 ≠ gb219))
        have n9_ := Aside0.mk ((by rw [hg]; exact Nat.ne_of_gt (IsS26.lt (show IsS26 w _ gb202 l0 t213 from by repeat (first | (with_reducible first | exact HI202.out | apply IsS26.alloc | apply IsS26.drewN | apply IsS26.drew | apply IsS26.set_1 | refine IsS26.far ?_ NB202_214.out _) | exact HI202.out))) : gb219 ≠ gb202))
        clear HI202
        clear BK214
        clear HB
        have HI202 := n0_
        have BK214 := n1_
        have HB := n2_
        have BK219 := n3_
        have GW219 := n4_
        have GE219 := n5_
        have NB214_219 := n6_
        have NB219_214 := n7_
        have NB202_219 := n8_
        have NB219_202 := n9_
        clear n0_ n1_ n2_ n3_ n4_ n5_ n6_ n7_ n8_ n9_
        clear hb hbox hg
        refine hK.out _ _ ⟨(blk_cell BK214.out 0).trans rfl, (blk_cell BK214.out 1).trans rfl, (blk_cell BK214.out 2).trans rfl, (blk_cell BK214.out 3).trans rfl, (blk_cell BK214.out 4).trans rfl, (blk_cell BK214.out 5).trans rfl, (blk_cell BK214.out 6).trans rfl, (blk_cell BK214.out 7).trans rfl, (blk_cell BK214.out 8).trans rfl, (blk_cell BK214.out 9).trans rfl⟩ (fun hHeld => ?_)
        clear hK K
        refine norm_ (a' := ?_) ?_ ?_
        rotate_left
        · show Act.put _ (some 9) _ = _
          simp only [Act.put, List.setIfInBounds_toArray, List.set_cons_zero, List.set_cons_succ, i64_w, i32_w]
          rfl
        refine one_ (i := 3) (N := some 31) #[true, true, true, true, true, true, true, false, false, true, false] rfl rfl (one_of HT_.out (by kernel_rfl)) (by decide) (fun K hK => ?_)
        refine goes_ Try.func13 (by kernel_rfl) rfl #[.pointer (some ⟨gb202, 0, none⟩), .agg #[.int .i64 t203, .int .i64 t204, .int .i64 t205, .int .i64 t206]] (by rfl) rfl rfl (by (try simp only [List.map_toArray, List.map_cons, List.map_nil]); first | done | rfl | (simp only [List.length_drop, List.length_take]; rfl)) ?_
        with_reducible refine (spymake_Stream_Inside.calls gb202 l0 t213 t203 t204 t205 t206 t215 t216 w _ ?side1 ?side2 A7.out).mono ?_
        (case side1 => repeat (first | (with_reducible first | exact HI202.out | apply IsS26.alloc | apply IsS26.drewN | apply IsS26.drew | apply IsS26.set_1 | refine IsS26.far ?_ NB202_214.out _ | refine IsS26.far ?_ NB202_219.out _) | exact HI202.out))
        (case side2 => repeat (first | (with_reducible first | exact HB.out | apply below_alloc | apply pw_below_drewN | apply below_drew1 | refine below_set ?_ (IsS26.ge HI202.out) | refine below_set ?_ GE214.out | refine below_set ?_ GE219.out) | exact HB.out))
        rintro e w22 ⟨rfl, hi, hb, hk⟩
        refine ⟨_, rfl, ?_⟩
        have n0_ := Aside0.mk (KeepBut.blk hk (g' := gb214) (o := .cells #[.int .i64 t203, .int .i64 t204, .int .i64 t205, .int .i64 t206, .int .i64 t207, .int .i64 t208, .int .i64 t209, .int .i64 t210, .int .i64 t211, .int .i64 t212] 55 (0, 0)) (by (with_reducible repeat (first | refine blk_drewN ?_ _ | refine blk_drew ?_ | refine blk_alloc ?_ _)); exact BK214.out) NB214_202.out (by simp))
        have n1_ := Aside0.mk (KeepBut.blk hk (g' := gb219) (o := .cells #[.int .i64 0, .int .i64 0] 53 (0, 0)) (by (with_reducible repeat (first | refine blk_drewN ?_ _ | refine blk_drew ?_ | refine blk_alloc ?_ _)); exact BK219.out) NB219_202.out (by simp))
        have n2_ := Aside0.mk (hb)
        have n3_ := Aside0.mk (hi)
        clear BK214
        clear BK219
        clear HB
        clear HI202
        have BK214 := n0_
        have BK219 := n1_
        have HB := n2_
        have HI202 := n3_
        clear n0_ n1_ n2_ n3_
        (try clear hb)
        (try clear hb2)
        (try clear hk)
        (try clear hi)
        refine hK.out _ _ ⟨(blk_cell BK214.out 0).trans rfl, (blk_cell BK214.out 1).trans rfl, (blk_cell BK214.out 2).trans rfl, (blk_cell BK214.out 3).trans rfl, (blk_cell BK214.out 4).trans rfl, (blk_cell BK214.out 5).trans rfl, (blk_cell BK214.out 6).trans rfl, (blk_cell BK214.out 7).trans rfl, (blk_cell BK214.out 8).trans rfl, (blk_cell BK214.out 9).trans rfl⟩ (fun hHeld => ?_)
        clear hK K
        refine norm_ (a' := ?_) ?_ ?_
        rotate_left
        · show Act.put _ (some 31) _ = _
          simp only [Act.put, List.setIfInBounds_toArray, List.set_cons_zero, List.set_cons_succ, i64_w, i32_w]
          rfl
        refine one_ (i := 7) (N := some 35) #[true, true, true, true, true, true, true, true, false, true, false] rfl rfl (one_of HT_.out (by kernel_rfl)) (by decide) (fun K hK => ?_)
        refine goes_ Try.func13 (by kernel_rfl) rfl #[.pointer (some ⟨gb202, 0, none⟩), .agg #[.int .i64 t207, .int .i64 t208, .int .i64 t209, .int .i64 t210]] (by rfl) rfl rfl (by (try simp only [List.map_toArray, List.map_cons, List.map_nil]); first | done | rfl | (simp only [List.length_drop, List.length_take]; rfl)) ?_
        with_reducible refine (spymake_Stream_Inside.calls gb202 l0 t216 t207 t208 t209 t210 t217 t218 w _ ?side1 ?side2 A8.out).mono ?_
        (case side1 => repeat (first | (with_reducible first | exact HI202.out | apply IsS26.alloc | apply IsS26.drewN | apply IsS26.drew | apply IsS26.set_1 | refine IsS26.far ?_ NB202_214.out _ | refine IsS26.far ?_ NB202_219.out _) | exact HI202.out))
        (case side2 => repeat (first | (with_reducible first | exact HB.out | apply below_alloc | apply pw_below_drewN | apply below_drew1 | refine below_set ?_ (IsS26.ge HI202.out) | refine below_set ?_ GE214.out | refine below_set ?_ GE219.out) | exact HB.out))
        rintro e w23 ⟨rfl, hi, hb, hk⟩
        refine ⟨_, rfl, ?_⟩
        have n0_ := Aside0.mk (KeepBut.blk hk (g' := gb214) (o := .cells #[.int .i64 t203, .int .i64 t204, .int .i64 t205, .int .i64 t206, .int .i64 t207, .int .i64 t208, .int .i64 t209, .int .i64 t210, .int .i64 t211, .int .i64 t212] 55 (0, 0)) (by (with_reducible repeat (first | refine blk_drewN ?_ _ | refine blk_drew ?_ | refine blk_alloc ?_ _)); exact BK214.out) NB214_202.out (by simp))
        have n1_ := Aside0.mk (KeepBut.blk hk (g' := gb219) (o := .cells #[.int .i64 0, .int .i64 0] 53 (0, 0)) (by (with_reducible repeat (first | refine blk_drewN ?_ _ | refine blk_drew ?_ | refine blk_alloc ?_ _)); exact BK219.out) NB219_202.out (by simp))
        have n2_ := Aside0.mk (hb)
        have n3_ := Aside0.mk (hi)
        clear BK214
        clear BK219
        clear HB
        clear HI202
        have BK214 := n0_
        have BK219 := n1_
        have HB := n2_
        have HI202 := n3_
        clear n0_ n1_ n2_ n3_
        (try clear hb)
        (try clear hb2)
        (try clear hk)
        (try clear hi)
        refine hK.out _ _ ⟨(blk_cell BK214.out 0).trans rfl, (blk_cell BK214.out 1).trans rfl, (blk_cell BK214.out 2).trans rfl, (blk_cell BK214.out 3).trans rfl, (blk_cell BK214.out 4).trans rfl, (blk_cell BK214.out 5).trans rfl, (blk_cell BK214.out 6).trans rfl, (blk_cell BK214.out 7).trans rfl, (blk_cell BK214.out 8).trans rfl, (blk_cell BK214.out 9).trans rfl⟩ (fun hHeld => ?_)
        clear hK K
        refine norm_ (a' := ?_) ?_ ?_
        rotate_left
        · show Act.put _ (some 35) _ = _
          simp only [Act.put, List.setIfInBounds_toArray, List.set_cons_zero, List.set_cons_succ, i64_w, i32_w]
          rfl
        refine pure_ (i := 8) (N := some 36) (v := ?_) (a' := ?_) #[true, true, true, true, true, true, true, true, true, true, false] rfl rfl (any_of HT_.out (by kernel_rfl)) (fun _ _ _ h => h) (Or.inl ⟨by rfl, ?_⟩) ?_ ?_
        rotate_left
        · intro w'
          go_simp
          with_reducible rfl
        rotate_left
        · simp only [Act.put, List.setIfInBounds_toArray, List.set_cons_zero, List.set_cons_succ, i64_w, i32_w]
          rfl
        exact norm_ (by simp only [putAll, Act.put, List.setIfInBounds_toArray, List.set_cons_zero, List.set_cons_succ]) (hCont (gb219) _ ⟨hHeld, (by (with_reducible repeat (first | refine blk_drewN ?_ _ | refine blk_drew ?_ | refine blk_alloc ?_ _)); exact BK214.out), (by (with_reducible repeat (first | refine blk_drewN ?_ _ | refine blk_drew ?_ | refine blk_alloc ?_ _)); exact BK219.out), GW219.out, GE219.out, NB202_219.out, NB219_202.out, NB214_219.out, NB219_214.out, (by repeat (first | (with_reducible first | exact HI202.out | apply IsS26.alloc | apply IsS26.drewN | apply IsS26.drew | apply IsS26.set_1 | refine IsS26.far ?_ NB202_214.out _ | refine IsS26.far ?_ NB202_219.out _) | exact HI202.out)), (by repeat (first | (with_reducible first | exact HB.out | apply below_alloc | apply pw_below_drewN | apply below_drew1 | refine below_set ?_ (IsS26.ge HI202.out) | refine below_set ?_ GE214.out | refine below_set ?_ GE219.out) | exact HB.out))⟩)
    rintro gb219 w24 ⟨hS_, h0_, h1_, h2_, h3_, h4_, h5_, h6_, h7_, h8_, h9_⟩
    have n0_ : Aside0 (w24.heap[gb214]? = some (.cells #[.int .i64 t203, .int .i64 t204, .int .i64 t205, .int .i64 t206, .int .i64 t207, .int .i64 t208, .int .i64 t209, .int .i64 t210, .int .i64 t211, .int .i64 t212] 55 (0, 0))) := ⟨h0_⟩
    have n1_ : Aside0 (w24.heap[gb219]? = some (.cells #[.int .i64 0, .int .i64 0] 53 (0, 0))) := ⟨h1_⟩
    have n2_ : Aside0 (w.heap.size ≤ gb219) := ⟨h2_⟩
    have n3_ : Aside0 (w.heap.size ≤ gb219) := ⟨h3_⟩
    have n4_ : Aside0 (gb202 ≠ gb219) := ⟨h4_⟩
    have n5_ : Aside0 (gb219 ≠ gb202) := ⟨h5_⟩
    have n6_ : Aside0 (gb214 ≠ gb219) := ⟨h6_⟩
    have n7_ : Aside0 (gb219 ≠ gb214) := ⟨h7_⟩
    have n8_ : Aside0 (IsS26 w w24 gb202 l0 t218) := ⟨h8_⟩
    have n9_ : Aside0 (Below w.heap.size w w24) := ⟨h9_⟩
    clear BK214
    clear HI202
    clear HB
    clear h0_ h1_ h2_ h3_ h4_ h5_ h6_ h7_ h8_ h9_
    have BK214 := n0_
    have BK219 := n1_
    have GW219 := n2_
    have GE219 := n3_
    have NB202_219 := n4_
    have NB219_202 := n5_
    have NB214_219 := n6_
    have NB219_214 := n7_
    have HI202 := n8_
    have HB := n9_
    clear n0_ n1_ n2_ n3_ n4_ n5_ n6_ n7_ n8_ n9_
    have hHeld : w24.cell? ⟨gb214, 0, none⟩ = some (.int .i64 t203) ∧ w24.cell? ⟨gb214, 1, none⟩ = some (.int .i64 t204) ∧ w24.cell? ⟨gb214, 2, none⟩ = some (.int .i64 t205) ∧ w24.cell? ⟨gb214, 3, none⟩ = some (.int .i64 t206) ∧ w24.cell? ⟨gb214, 4, none⟩ = some (.int .i64 t207) ∧ w24.cell? ⟨gb214, 5, none⟩ = some (.int .i64 t208) ∧ w24.cell? ⟨gb214, 6, none⟩ = some (.int .i64 t209) ∧ w24.cell? ⟨gb214, 7, none⟩ = some (.int .i64 t210) ∧ w24.cell? ⟨gb214, 8, none⟩ = some (.int .i64 t211) ∧ w24.cell? ⟨gb214, 9, none⟩ = some (.int .i64 t212) := hS_
    refine norm_ (a' := ?_) ?_ ?_
    rotate_left
    · simp only [putAll, Act.put, List.setIfInBounds_toArray, List.set_cons_zero, List.set_cons_succ]
      rfl
    refine one_ (i := 10) (N := none) #[true, true, true, true, true, true, true, true, true, true, true] rfl rfl (one_of HT_.out (by kernel_rfl)) (by decide) (fun K hK => ?_)
    have hs25 : w24.cell? ⟨gb219, 0, none⟩ = some (.int .i64 0) := (blk_cell BK219.out 0).trans rfl
    have hfs25 := blk_frozen BK219.out 0
    have hns25_0 := NB214_219.out
    have hms25_0 := NB219_214.out
    have hs26 : w24.cell? ⟨gb219, 1, none⟩ = some (.int .i64 0) := (blk_cell BK219.out 1).trans rfl
    have hfs26 := blk_frozen BK219.out 1
    have hns26_0 := NB214_219.out
    have hms26_0 := NB219_214.out
    refine skip_ (w1 := ?_) (by rfl) rfl ?_ ?_
    rotate_left
    · go_simp
      rfl
    refine hK.out _ _ ⟨((cell_far (p := ⟨gb219, _, none⟩) NB214_219.out _).trans (((cell_far (p := ⟨gb219, _, none⟩) NB214_219.out _).trans (hHeld.1)))), ((cell_far (p := ⟨gb219, _, none⟩) NB214_219.out _).trans (((cell_far (p := ⟨gb219, _, none⟩) NB214_219.out _).trans (hHeld.2.1)))), ((cell_far (p := ⟨gb219, _, none⟩) NB214_219.out _).trans (((cell_far (p := ⟨gb219, _, none⟩) NB214_219.out _).trans (hHeld.2.2.1)))), ((cell_far (p := ⟨gb219, _, none⟩) NB214_219.out _).trans (((cell_far (p := ⟨gb219, _, none⟩) NB214_219.out _).trans (hHeld.2.2.2.1)))), ((cell_far (p := ⟨gb219, _, none⟩) NB214_219.out _).trans (((cell_far (p := ⟨gb219, _, none⟩) NB214_219.out _).trans (hHeld.2.2.2.2.1)))), ((cell_far (p := ⟨gb219, _, none⟩) NB214_219.out _).trans (((cell_far (p := ⟨gb219, _, none⟩) NB214_219.out _).trans (hHeld.2.2.2.2.2.1)))), ((cell_far (p := ⟨gb219, _, none⟩) NB214_219.out _).trans (((cell_far (p := ⟨gb219, _, none⟩) NB214_219.out _).trans (hHeld.2.2.2.2.2.2.1)))), ((cell_far (p := ⟨gb219, _, none⟩) NB214_219.out _).trans (((cell_far (p := ⟨gb219, _, none⟩) NB214_219.out _).trans (hHeld.2.2.2.2.2.2.2.1)))), ((cell_far (p := ⟨gb219, _, none⟩) NB214_219.out _).trans (((cell_far (p := ⟨gb219, _, none⟩) NB214_219.out _).trans (hHeld.2.2.2.2.2.2.2.2.1)))), ((cell_far (p := ⟨gb219, _, none⟩) NB214_219.out _).trans (((cell_far (p := ⟨gb219, _, none⟩) NB214_219.out _).trans (hHeld.2.2.2.2.2.2.2.2.2))))⟩ (fun hHeld => ?_)
    clear hK K
    refine done_ (done_of HT_.out (by kernel_rfl)) ?_
    have hnb27 := NB214_219.out
    have hnc27 := NB219_214.out
    have hcz28_0 : w24.cell? ⟨gb214, 0, none⟩ = some (.int .i64 t203) := (blk_cell BK214.out 0).trans rfl
    have hcz28_1 : w24.cell? ⟨gb214, 1, none⟩ = some (.int .i64 t204) := (blk_cell BK214.out 1).trans rfl
    have hcz28_2 : w24.cell? ⟨gb214, 2, none⟩ = some (.int .i64 t205) := (blk_cell BK214.out 2).trans rfl
    have hcz28_3 : w24.cell? ⟨gb214, 3, none⟩ = some (.int .i64 t206) := (blk_cell BK214.out 3).trans rfl
    have hcz28_4 : w24.cell? ⟨gb214, 4, none⟩ = some (.int .i64 t207) := (blk_cell BK214.out 4).trans rfl
    have hcz28_5 : w24.cell? ⟨gb214, 5, none⟩ = some (.int .i64 t208) := (blk_cell BK214.out 5).trans rfl
    have hcz28_6 : w24.cell? ⟨gb214, 6, none⟩ = some (.int .i64 t209) := (blk_cell BK214.out 6).trans rfl
    have hcz28_7 : w24.cell? ⟨gb214, 7, none⟩ = some (.int .i64 t210) := (blk_cell BK214.out 7).trans rfl
    have hcz28_8 : w24.cell? ⟨gb214, 8, none⟩ = some (.int .i64 t211) := (blk_cell BK214.out 8).trans rfl
    have hcz28_9 : w24.cell? ⟨gb214, 9, none⟩ = some (.int .i64 t212) := (blk_cell BK214.out 9).trans rfl
    have hfz28_0 := blk_frozen BK214.out 0
    have hfz28_1 := blk_frozen BK214.out 1
    have hfz28_2 := blk_frozen BK214.out 2
    have hfz28_3 := blk_frozen BK214.out 3
    have hfz28_4 := blk_frozen BK214.out 4
    have hfz28_5 := blk_frozen BK214.out 5
    have hfz28_6 := blk_frozen BK214.out 6
    have hfz28_7 := blk_frozen BK214.out 7
    have hfz28_8 := blk_frozen BK214.out 8
    have hfz28_9 := blk_frozen BK214.out 9
    have hnb29 := NB219_202.out
    have hnc29 := NB202_219.out
    have hcz30_0 : w24.cell? ⟨gb219, 0, none⟩ = some (.int .i64 0) := (blk_cell BK219.out 0).trans rfl
    have hcz30_1 : w24.cell? ⟨gb219, 1, none⟩ = some (.int .i64 0) := (blk_cell BK219.out 1).trans rfl
    have hfz30_0 := blk_frozen BK219.out 0
    have hfz30_1 := blk_frozen BK219.out 1
    go_upto_region 9 with (first | ((with_reducible refine gate_callee (f := 29) rfl ?_); refine goesL_ (some 43) rfl rfl Try.func29 (by kernel_rfl) rfl #[.agg #[.int .i64 t203, .int .i64 t204, .int .i64 t205, .int .i64 t206, .int .i64 t207, .int .i64 t208, .int .i64 t209, .int .i64 t210, .int .i64 t211, .int .i64 t212], .agg #[.int .i64 t215, .int .i64 t217], .agg #[.int .i64 a1, .int .i64 a2]] rfl (by (try simp only [List.map_toArray, List.map_cons, List.map_nil]); first | done | rfl | (simp only [List.length_drop, List.length_take]; rfl)) ?_; (with_reducible refine (slew_To.calls k t203 t204 t205 t206 t207 t208 t209 t210 t211 t212 t215 t217 a1 a2 t220 t221 t222 t223 _ A9.out).mono ?_); rintro e w31 ⟨rfl, hb⟩; refine ⟨_, rfl, ?_⟩; have n0_ := Aside0.mk (IsS26.below (show IsS26 w ((w24.setCell ⟨gb219, 0, none⟩ (.int .i64 t215)).setCell ⟨gb219, 1, none⟩ (.int .i64 t217)) gb202 l0 t218 from by repeat (first | (with_reducible first | exact HI202.out | apply IsS26.alloc | apply IsS26.drewN | apply IsS26.drew | apply IsS26.set_1 | refine IsS26.far ?_ NB202_214.out _ | refine IsS26.far ?_ NB202_219.out _) | exact HI202.out)) hb); have n1_ := Aside0.mk (blk_below (g := gb214) (o := .cells #[.int .i64 t203, .int .i64 t204, .int .i64 t205, .int .i64 t206, .int .i64 t207, .int .i64 t208, .int .i64 t209, .int .i64 t210, .int .i64 t211, .int .i64 t212] 55 (0, 0)) (by (with_reducible repeat (first | refine blk_drewN ?_ _ | refine blk_drew ?_ | refine blk_alloc ?_ _)); refine blk_far ?_ NB214_219.out _; (with_reducible repeat (first | refine blk_drewN ?_ _ | refine blk_drew ?_ | refine blk_alloc ?_ _)); refine blk_far ?_ NB214_219.out _; (with_reducible repeat (first | refine blk_drewN ?_ _ | refine blk_drew ?_ | refine blk_alloc ?_ _)); exact BK214.out) hb); have n2_ := Aside0.mk (blk_below (g := gb219) (o := .cells #[.int .i64 t215, .int .i64 t217] 53 (0, 0)) (by (with_reducible repeat (first | refine blk_drewN ?_ _ | refine blk_drew ?_ | refine blk_alloc ?_ _)); refine blk_put (cs := #[.int .i64 t215, .int .i64 0]) ?_ 1 _ rfl; (with_reducible repeat (first | refine blk_drewN ?_ _ | refine blk_drew ?_ | refine blk_alloc ?_ _)); refine blk_put (cs := #[.int .i64 0, .int .i64 0]) ?_ 0 _ rfl; (with_reducible repeat (first | refine blk_drewN ?_ _ | refine blk_drew ?_ | refine blk_alloc ?_ _)); exact BK219.out) hb); have n3_ := Aside0.mk (below_step (by repeat (first | (with_reducible first | exact HB.out | apply below_alloc | apply pw_below_drewN | apply below_drew1 | refine below_set ?_ (IsS26.ge HI202.out) | refine below_set ?_ GE214.out | refine below_set ?_ GE219.out) | exact HB.out)) hb); clear HI202; clear BK214; clear BK219; clear HB; have HI202 := n0_; have BK214 := n1_; have BK219 := n2_; have HB := n3_; clear n0_ n1_ n2_ n3_; (try clear hb); (try clear hb2); (try clear hk); (try clear hi)) | ((with_reducible refine gate_dst (N := 10) rfl ?_); (try (refine gate_guard (by rfl) ?_; dsimp only)); refine box_event ?hg (N := 10) ?hd (cs := #[.int .i64 0, .int .i64 0]) (t := 53) ?hr ?_; (case hd => rfl); (case hg => rfl); (case hr => first | (go_simp; done) | (go_simp; rfl)); intro gb224 hg w32 hbox hb; have n0_ := Aside0.mk (IsS26.below (by repeat (first | (with_reducible first | exact HI202.out | apply IsS26.alloc | apply IsS26.drewN | apply IsS26.drew | apply IsS26.set_1 | refine IsS26.far ?_ NB202_214.out _ | refine IsS26.far ?_ NB202_219.out _) | exact HI202.out)) hb); have n1_ := Aside0.mk (blk_below (g := gb214) (o := .cells #[.int .i64 t203, .int .i64 t204, .int .i64 t205, .int .i64 t206, .int .i64 t207, .int .i64 t208, .int .i64 t209, .int .i64 t210, .int .i64 t211, .int .i64 t212] 55 (0, 0)) (by (with_reducible repeat (first | refine blk_drewN ?_ _ | refine blk_drew ?_ | refine blk_alloc ?_ _)); exact BK214.out) hb); have n2_ := Aside0.mk (blk_below (g := gb219) (o := .cells #[.int .i64 t215, .int .i64 t217] 53 (0, 0)) (by (with_reducible repeat (first | refine blk_drewN ?_ _ | refine blk_drew ?_ | refine blk_alloc ?_ _)); exact BK219.out) hb); have n3_ := Aside0.mk (below_step (by repeat (first | (with_reducible first | exact HB.out | apply below_alloc | apply pw_below_drewN | apply below_drew1 | refine below_set ?_ (IsS26.ge HI202.out) | refine below_set ?_ GE214.out | refine below_set ?_ GE219.out) | exact HB.out)) hb); have n4_ := Aside0.mk (hbox); have n5_ := Aside0.mk ((by rw [hg]; exact (below_size (by repeat (first | (with_reducible first | exact HB.out | apply below_alloc | apply pw_below_drewN | apply below_drew1 | refine below_set ?_ (IsS26.ge HI202.out) | refine below_set ?_ GE214.out | refine below_set ?_ GE219.out) | exact HB.out))) : w.heap.size ≤ gb224)); have n6_ := Aside0.mk ((by rw [hg]; exact (below_size (by repeat (first | (with_reducible first | exact HB.out | apply below_alloc | apply pw_below_drewN | apply below_drew1 | refine below_set ?_ (IsS26.ge HI202.out) | refine below_set ?_ GE214.out | refine below_set ?_ GE219.out) | exact HB.out))) : w.heap.size ≤ gb224)); have n7_ := Aside0.mk ((by rw [hg]; exact Nat.ne_of_lt (blk_lt (g := gb214) (o := .cells #[.int .i64 t203, .int .i64 t204, .int .i64 t205, .int .i64 t206, .int .i64 t207, .int .i64 t208, .int .i64 t209, .int .i64 t210, .int .i64 t211, .int .i64 t212] 55 (0, 0)) (by (with_reducible repeat (first | refine blk_drewN ?_ _ | refine blk_drew ?_ | refine blk_alloc ?_ _)); exact BK214.out)) : gb214 ≠ gb224)); have n8_ := Aside0.mk ((by rw [hg]; exact Nat.ne_of_gt (blk_lt (g := gb214) (o := .cells #[.int .i64 t203, .int .i64 t204, .int .i64 t205, .int .i64 t206, .int .i64 t207, .int .i64 t208, .int .i64 t209, .int .i64 t210, .int .i64 t211, .int .i64 t212] 55 (0, 0)) (by (with_reducible repeat (first | refine blk_drewN ?_ _ | refine blk_drew ?_ | refine blk_alloc ?_ _)); exact BK214.out)) : gb224 ≠ gb214)); have n9_ := Aside0.mk ((by rw [hg]; exact Nat.ne_of_lt (blk_lt (g := gb219) (o := .cells #[.int .i64 t215, .int .i64 t217] 53 (0, 0)) (by (with_reducible repeat (first | refine blk_drewN ?_ _ | refine blk_drew ?_ | refine blk_alloc ?_ _)); exact BK219.out)) : gb219 ≠ gb224)); have n10_ := Aside0.mk ((by rw [hg]; exact Nat.ne_of_gt (blk_lt (g := gb219) (o := .cells #[.int .i64 t215, .int .i64 t217] 53 (0, 0)) (by (with_reducible repeat (first | refine blk_drewN ?_ _ | refine blk_drew ?_ | refine blk_alloc ?_ _)); exact BK219.out)) : gb224 ≠ gb219)); have n11_ := Aside0.mk ((by rw [hg]; exact Nat.ne_of_lt (IsS26.lt (show IsS26 w _ gb202 l0 t218 from by repeat (first | (with_reducible first | exact HI202.out | apply IsS26.alloc | apply IsS26.drewN | apply IsS26.drew | apply IsS26.set_1 | refine IsS26.far ?_ NB202_214.out _ | refine IsS26.far ?_ NB202_219.out _) | exact HI202.out))) : gb202 ≠ gb224)); have n12_ := Aside0.mk ((by rw [hg]; exact Nat.ne_of_gt (IsS26.lt (show IsS26 w _ gb202 l0 t218 from by repeat (first | (with_reducible first | exact HI202.out | apply IsS26.alloc | apply IsS26.drewN | apply IsS26.drew | apply IsS26.set_1 | refine IsS26.far ?_ NB202_214.out _ | refine IsS26.far ?_ NB202_219.out _) | exact HI202.out))) : gb224 ≠ gb202)); clear HI202; clear BK214; clear BK219; clear HB; have HI202 := n0_; have BK214 := n1_; have BK219 := n2_; have HB := n3_; have BK224 := n4_; have GW224 := n5_; have GE224 := n6_; have NB214_224 := n7_; have NB224_214 := n8_; have NB219_224 := n9_; have NB224_219 := n10_; have NB202_224 := n11_; have NB224_202 := n12_; clear n0_ n1_ n2_ n3_ n4_ n5_ n6_ n7_ n8_ n9_ n10_ n11_ n12_; clear hb hbox hg; have hnb33 := NB224_214.out; have hnc33 := NB214_224.out; have hnb34 := NB224_219.out; have hnc34 := NB219_224.out; have hnb35 := NB224_202.out; have hnc35 := NB202_224.out; have hcz36_0 : w32.cell? ⟨gb224, 0, none⟩ = some (.int .i64 0) := (blk_cell BK224.out 0).trans rfl; have hcz36_1 : w32.cell? ⟨gb224, 1, none⟩ = some (.int .i64 0) := (blk_cell BK224.out 1).trans rfl; have hfz36_0 := blk_frozen BK224.out 0; have hfz36_1 := blk_frozen BK224.out 1; have hcz37_0 : w32.cell? ⟨gb214, 0, none⟩ = some (.int .i64 t203) := (blk_cell BK214.out 0).trans rfl; have hcz37_1 : w32.cell? ⟨gb214, 1, none⟩ = some (.int .i64 t204) := (blk_cell BK214.out 1).trans rfl; have hcz37_2 : w32.cell? ⟨gb214, 2, none⟩ = some (.int .i64 t205) := (blk_cell BK214.out 2).trans rfl; have hcz37_3 : w32.cell? ⟨gb214, 3, none⟩ = some (.int .i64 t206) := (blk_cell BK214.out 3).trans rfl; have hcz37_4 : w32.cell? ⟨gb214, 4, none⟩ = some (.int .i64 t207) := (blk_cell BK214.out 4).trans rfl; have hcz37_5 : w32.cell? ⟨gb214, 5, none⟩ = some (.int .i64 t208) := (blk_cell BK214.out 5).trans rfl; have hcz37_6 : w32.cell? ⟨gb214, 6, none⟩ = some (.int .i64 t209) := (blk_cell BK214.out 6).trans rfl; have hcz37_7 : w32.cell? ⟨gb214, 7, none⟩ = some (.int .i64 t210) := (blk_cell BK214.out 7).trans rfl; have hcz37_8 : w32.cell? ⟨gb214, 8, none⟩ = some (.int .i64 t211) := (blk_cell BK214.out 8).trans rfl; have hcz37_9 : w32.cell? ⟨gb214, 9, none⟩ = some (.int .i64 t212) := (blk_cell BK214.out 9).trans rfl; have hfz37_0 := blk_frozen BK214.out 0; have hfz37_1 := blk_frozen BK214.out 1; have hfz37_2 := blk_frozen BK214.out 2; have hfz37_3 := blk_frozen BK214.out 3; have hfz37_4 := blk_frozen BK214.out 4; have hfz37_5 := blk_frozen BK214.out 5; have hfz37_6 := blk_frozen BK214.out 6; have hfz37_7 := blk_frozen BK214.out 7; have hfz37_8 := blk_frozen BK214.out 8; have hfz37_9 := blk_frozen BK214.out 9; have hcz38_0 : w32.cell? ⟨gb219, 0, none⟩ = some (.int .i64 t215) := (blk_cell BK219.out 0).trans rfl; have hcz38_1 : w32.cell? ⟨gb219, 1, none⟩ = some (.int .i64 t217) := (blk_cell BK219.out 1).trans rfl; have hfz38_0 := blk_frozen BK219.out 0; have hfz38_1 := blk_frozen BK219.out 1) | ((with_reducible refine gate_callee (f := 14) rfl ?_); refine goesL_ (some 53) rfl rfl Try.func14 (by kernel_rfl) rfl #[.agg #[.int .i64 t203, .int .i64 t204, .int .i64 t205, .int .i64 t206], .int .i64 t215, .int .i64 a1] rfl (by (try simp only [List.map_toArray, List.map_cons, List.map_nil]); first | done | rfl | (simp only [List.length_drop, List.length_take]; rfl)) ?_; (with_reducible refine (slew_Target.calls k t203 t204 t205 t206 t215 a1 t225 t226 _ A10.out).mono ?_); rintro e w39 ⟨rfl, hb⟩; refine ⟨_, rfl, ?_⟩; have n0_ := Aside0.mk (IsS26.below (show IsS26 w ((w32.setCell ⟨gb224, 0, none⟩ (.int .i64 t220)).setCell ⟨gb224, 1, none⟩ (.int .i64 t221)) gb202 l0 t218 from by repeat (first | (with_reducible first | exact HI202.out | apply IsS26.alloc | apply IsS26.drewN | apply IsS26.drew | apply IsS26.set_1 | refine IsS26.far ?_ NB202_214.out _ | refine IsS26.far ?_ NB202_219.out _ | refine IsS26.far ?_ NB202_224.out _) | exact HI202.out)) hb); have n1_ := Aside0.mk (blk_below (g := gb214) (o := .cells #[.int .i64 t203, .int .i64 t204, .int .i64 t205, .int .i64 t206, .int .i64 t207, .int .i64 t208, .int .i64 t209, .int .i64 t210, .int .i64 t211, .int .i64 t212] 55 (0, 0)) (by (with_reducible repeat (first | refine blk_drewN ?_ _ | refine blk_drew ?_ | refine blk_alloc ?_ _)); refine blk_far ?_ NB214_224.out _; (with_reducible repeat (first | refine blk_drewN ?_ _ | refine blk_drew ?_ | refine blk_alloc ?_ _)); refine blk_far ?_ NB214_224.out _; (with_reducible repeat (first | refine blk_drewN ?_ _ | refine blk_drew ?_ | refine blk_alloc ?_ _)); exact BK214.out) hb); have n2_ := Aside0.mk (blk_below (g := gb219) (o := .cells #[.int .i64 t215, .int .i64 t217] 53 (0, 0)) (by (with_reducible repeat (first | refine blk_drewN ?_ _ | refine blk_drew ?_ | refine blk_alloc ?_ _)); refine blk_far ?_ NB219_224.out _; (with_reducible repeat (first | refine blk_drewN ?_ _ | refine blk_drew ?_ | refine blk_alloc ?_ _)); refine blk_far ?_ NB219_224.out _; (with_reducible repeat (first | refine blk_drewN ?_ _ | refine blk_drew ?_ | refine blk_alloc ?_ _)); exact BK219.out) hb); have n3_ := Aside0.mk (blk_below (g := gb224) (o := .cells #[.int .i64 t220, .int .i64 t221] 53 (0, 0)) (by (with_reducible repeat (first | refine blk_drewN ?_ _ | refine blk_drew ?_ | refine blk_alloc ?_ _)); refine blk_put (cs := #[.int .i64 t220, .int .i64 0]) ?_ 1 _ rfl; (with_reducible repeat (first | refine blk_drewN ?_ _ | refine blk_drew ?_ | refine blk_alloc ?_ _)); refine blk_put (cs := #[.int .i64 0, .int .i64 0]) ?_ 0 _ rfl; (with_reducible repeat (first | refine blk_drewN ?_ _ | refine blk_drew ?_ | refine blk_alloc ?_ _)); exact BK224.out) hb); have n4_ := Aside0.mk (below_step (by repeat (first | (with_reducible first | exact HB.out | apply below_alloc | apply pw_below_drewN | apply below_drew1 | refine below_set ?_ (IsS26.ge HI202.out) | refine below_set ?_ GE214.out | refine below_set ?_ GE219.out | refine below_set ?_ GE224.out) | exact HB.out)) hb); clear HI202; clear BK214; clear BK219; clear BK224; clear HB; have HI202 := n0_; have BK214 := n1_; have BK219 := n2_; have BK224 := n3_; have HB := n4_; clear n0_ n1_ n2_ n3_ n4_; (try clear hb); (try clear hb2); (try clear hk); (try clear hi); have hcz40_0 : w39.cell? ⟨gb214, 0, none⟩ = some (.int .i64 t203) := (blk_cell BK214.out 0).trans rfl; have hcz40_1 : w39.cell? ⟨gb214, 1, none⟩ = some (.int .i64 t204) := (blk_cell BK214.out 1).trans rfl; have hcz40_2 : w39.cell? ⟨gb214, 2, none⟩ = some (.int .i64 t205) := (blk_cell BK214.out 2).trans rfl; have hcz40_3 : w39.cell? ⟨gb214, 3, none⟩ = some (.int .i64 t206) := (blk_cell BK214.out 3).trans rfl; have hcz40_4 : w39.cell? ⟨gb214, 4, none⟩ = some (.int .i64 t207) := (blk_cell BK214.out 4).trans rfl; have hcz40_5 : w39.cell? ⟨gb214, 5, none⟩ = some (.int .i64 t208) := (blk_cell BK214.out 5).trans rfl; have hcz40_6 : w39.cell? ⟨gb214, 6, none⟩ = some (.int .i64 t209) := (blk_cell BK214.out 6).trans rfl; have hcz40_7 : w39.cell? ⟨gb214, 7, none⟩ = some (.int .i64 t210) := (blk_cell BK214.out 7).trans rfl; have hcz40_8 : w39.cell? ⟨gb214, 8, none⟩ = some (.int .i64 t211) := (blk_cell BK214.out 8).trans rfl; have hcz40_9 : w39.cell? ⟨gb214, 9, none⟩ = some (.int .i64 t212) := (blk_cell BK214.out 9).trans rfl; have hfz40_0 := blk_frozen BK214.out 0; have hfz40_1 := blk_frozen BK214.out 1; have hfz40_2 := blk_frozen BK214.out 2; have hfz40_3 := blk_frozen BK214.out 3; have hfz40_4 := blk_frozen BK214.out 4; have hfz40_5 := blk_frozen BK214.out 5; have hfz40_6 := blk_frozen BK214.out 6; have hfz40_7 := blk_frozen BK214.out 7; have hfz40_8 := blk_frozen BK214.out 8; have hfz40_9 := blk_frozen BK214.out 9; have hcz41_0 : w39.cell? ⟨gb219, 0, none⟩ = some (.int .i64 t215) := (blk_cell BK219.out 0).trans rfl; have hcz41_1 : w39.cell? ⟨gb219, 1, none⟩ = some (.int .i64 t217) := (blk_cell BK219.out 1).trans rfl; have hfz41_0 := blk_frozen BK219.out 0; have hfz41_1 := blk_frozen BK219.out 1) | ((with_reducible refine gate_callee (f := 14) rfl ?_); refine goesL_ (some 62) rfl rfl Try.func14 (by kernel_rfl) rfl #[.agg #[.int .i64 t207, .int .i64 t208, .int .i64 t209, .int .i64 t210], .int .i64 t217, .int .i64 a2] rfl (by (try simp only [List.map_toArray, List.map_cons, List.map_nil]); first | done | rfl | (simp only [List.length_drop, List.length_take]; rfl)) ?_; (with_reducible refine (slew_Target.calls k t207 t208 t209 t210 t217 a2 t227 t228 _ A11.out).mono ?_); rintro e w42 ⟨rfl, hb⟩; refine ⟨_, rfl, ?_⟩; have n0_ := Aside0.mk (IsS26.below (by repeat (first | (with_reducible first | exact HI202.out | apply IsS26.alloc | apply IsS26.drewN | apply IsS26.drew | apply IsS26.set_1 | refine IsS26.far ?_ NB202_214.out _ | refine IsS26.far ?_ NB202_219.out _ | refine IsS26.far ?_ NB202_224.out _) | exact HI202.out)) hb); have n1_ := Aside0.mk (blk_below (g := gb214) (o := .cells #[.int .i64 t203, .int .i64 t204, .int .i64 t205, .int .i64 t206, .int .i64 t207, .int .i64 t208, .int .i64 t209, .int .i64 t210, .int .i64 t211, .int .i64 t212] 55 (0, 0)) (by (with_reducible repeat (first | refine blk_drewN ?_ _ | refine blk_drew ?_ | refine blk_alloc ?_ _)); exact BK214.out) hb); have n2_ := Aside0.mk (blk_below (g := gb219) (o := .cells #[.int .i64 t215, .int .i64 t217] 53 (0, 0)) (by (with_reducible repeat (first | refine blk_drewN ?_ _ | refine blk_drew ?_ | refine blk_alloc ?_ _)); exact BK219.out) hb); have n3_ := Aside0.mk (blk_below (g := gb224) (o := .cells #[.int .i64 t220, .int .i64 t221] 53 (0, 0)) (by (with_reducible repeat (first | refine blk_drewN ?_ _ | refine blk_drew ?_ | refine blk_alloc ?_ _)); exact BK224.out) hb); have n4_ := Aside0.mk (below_step (by repeat (first | (with_reducible first | exact HB.out | apply below_alloc | apply pw_below_drewN | apply below_drew1 | refine below_set ?_ (IsS26.ge HI202.out) | refine below_set ?_ GE214.out | refine below_set ?_ GE219.out | refine below_set ?_ GE224.out) | exact HB.out)) hb); clear HI202; clear BK214; clear BK219; clear BK224; clear HB; have HI202 := n0_; have BK214 := n1_; have BK219 := n2_; have BK224 := n3_; have HB := n4_; clear n0_ n1_ n2_ n3_ n4_; (try clear hb); (try clear hb2); (try clear hk); (try clear hi)))
    (try simp only [Act.put, List.setIfInBounds_toArray, List.set_cons_zero, List.set_cons_succ])
    go_cut [70] (fun v70 wc => ∃ (kq : Nat) (x70_11 : Bool), v70 = .bool x70_11 ∧ Aside0 (spykeep2_SlewTogether.j0 kq t222 t223 t225 t227 x70_11 t203 t204 t205 t206 t207 t208 t209 t210 t211 t212 t215 t217 t220 t221 = some r) ∧ Aside0 (kq ≤ k) ∧ Aside0 (wc.heap[gb214]? = some (.cells #[.int .i64 t203, .int .i64 t204, .int .i64 t205, .int .i64 t206, .int .i64 t207, .int .i64 t208, .int .i64 t209, .int .i64 t210, .int .i64 t211, .int .i64 t212] 55 (0, 0))) ∧ Aside0 (wc.heap[gb219]? = some (.cells #[.int .i64 t215, .int .i64 t217] 53 (0, 0))) ∧ Aside0 (wc.heap[gb224]? = some (.cells #[.int .i64 t220, .int .i64 t221] 53 (0, 0))) ∧ Aside0 (Below w.heap.size w wc))
    case first =>
      have H := HC12.out
      clear HC12
      by_cases c43 : t226 = 0
      · rw [if_pos c43] at H
        have c43b0 : (t226 == 0) = true := beq_iff_eq.mpr c43
        have c43b1 : (t226 != 0) = false := bne_eq_false_iff_eq.mpr c43
        clear c43
        (first | rw [c43b0] | (simp only [i64_w, i32_w]; rw [c43b0]) | skip)
        have H' := Aside0.mk H
        clear H
        go_wp2
        go_meet
        case rel => exact ⟨_, ((t228 != 0)), (by first | rfl | (simp; done) | (simp [*]; done)), H', ⟨by first | omega | exact Nat.le_refl _⟩, ⟨by (with_reducible repeat (first | refine blk_drewN ?_ _ | refine blk_drew ?_ | refine blk_alloc ?_ _)); exact BK214.out⟩, ⟨by (with_reducible repeat (first | refine blk_drewN ?_ _ | refine blk_drew ?_ | refine blk_alloc ?_ _)); exact BK219.out⟩, ⟨by (with_reducible repeat (first | refine blk_drewN ?_ _ | refine blk_drew ?_ | refine blk_alloc ?_ _)); exact BK224.out⟩, ⟨by repeat (first | (with_reducible first | exact HB.out | apply below_alloc | apply pw_below_drewN | apply below_drew1 | refine below_set ?_ (IsS26.ge HI202.out) | refine below_set ?_ GE214.out | refine below_set ?_ GE219.out | refine below_set ?_ GE224.out) | exact HB.out)⟩⟩
      · rw [if_neg c43] at H
        have c43b0 : (t226 == 0) = false := beq_eq_false_iff_ne.mpr c43
        have c43b1 : (t226 != 0) = true := bne_iff_ne.mpr c43
        (first | rw [c43b0] | (simp only [i64_w, i32_w]; rw [c43b0]) | skip)
        have H' := Aside0.mk H
        clear H
        go_wp2
        go_meet
        case rel => exact ⟨_, (true), (by first | rfl | (simp; done) | (simp [*]; done)), H', ⟨by first | omega | exact Nat.le_refl _⟩, ⟨by (with_reducible repeat (first | refine blk_drewN ?_ _ | refine blk_drew ?_ | refine blk_alloc ?_ _)); exact BK214.out⟩, ⟨by (with_reducible repeat (first | refine blk_drewN ?_ _ | refine blk_drew ?_ | refine blk_alloc ?_ _)); exact BK219.out⟩, ⟨by (with_reducible repeat (first | refine blk_drewN ?_ _ | refine blk_drew ?_ | refine blk_alloc ?_ _)); exact BK224.out⟩, ⟨by repeat (first | (with_reducible first | exact HB.out | apply below_alloc | apply pw_below_drewN | apply below_drew1 | refine below_set ?_ (IsS26.ge HI202.out) | refine below_set ?_ GE214.out | refine below_set ?_ GE219.out | refine below_set ?_ GE224.out) | exact HB.out)⟩⟩
    case rest =>
      clear HC12
      try clear c1
      try clear c2
      try clear p2
      try clear c3
      try clear c4
      try clear c5
      try clear c8
      try clear c11
      try clear c13
      try clear c14
      try clear c17
      try clear c27
      try clear c28
      try clear c29
      try clear c33
      try clear c34
      try clear c35
      try clear c43
      try clear c43b0
      try clear c43b1
      try clear hcz18_0
      try clear hcz18_1
      try clear hcz18_2
      try clear hcz18_3
      try clear hcz18_4
      try clear hcz18_5
      try clear hcz18_6
      try clear hcz18_7
      try clear hcz18_8
      try clear hcz18_9
      try clear hcz28_0
      try clear hcz28_1
      try clear hcz28_2
      try clear hcz28_3
      try clear hcz28_4
      try clear hcz28_5
      try clear hcz28_6
      try clear hcz28_7
      try clear hcz28_8
      try clear hcz28_9
      try clear hcz30_0
      try clear hcz30_1
      try clear hcz36_0
      try clear hcz36_1
      try clear hcz37_0
      try clear hcz37_1
      try clear hcz37_2
      try clear hcz37_3
      try clear hcz37_4
      try clear hcz37_5
      try clear hcz37_6
      try clear hcz37_7
      try clear hcz37_8
      try clear hcz37_9
      try clear hcz38_0
      try clear hcz38_1
      try clear hcz40_0
      try clear hcz40_1
      try clear hcz40_2
      try clear hcz40_3
      try clear hcz40_4
      try clear hcz40_5
      try clear hcz40_6
      try clear hcz40_7
      try clear hcz40_8
      try clear hcz40_9
      try clear hcz41_0
      try clear hcz41_1
      try clear hfz18_0
      try clear hfz18_1
      try clear hfz18_2
      try clear hfz18_3
      try clear hfz18_4
      try clear hfz18_5
      try clear hfz18_6
      try clear hfz18_7
      try clear hfz18_8
      try clear hfz18_9
      try clear hfz28_0
      try clear hfz28_1
      try clear hfz28_2
      try clear hfz28_3
      try clear hfz28_4
      try clear hfz28_5
      try clear hfz28_6
      try clear hfz28_7
      try clear hfz28_8
      try clear hfz28_9
      try clear hfz30_0
      try clear hfz30_1
      try clear hfz36_0
      try clear hfz36_1
      try clear hfz37_0
      try clear hfz37_1
      try clear hfz37_2
      try clear hfz37_3
      try clear hfz37_4
      try clear hfz37_5
      try clear hfz37_6
      try clear hfz37_7
      try clear hfz37_8
      try clear hfz37_9
      try clear hfz38_0
      try clear hfz38_1
      try clear hfz40_0
      try clear hfz40_1
      try clear hfz40_2
      try clear hfz40_3
      try clear hfz40_4
      try clear hfz40_5
      try clear hfz40_6
      try clear hfz40_7
      try clear hfz40_8
      try clear hfz40_9
      try clear hfz41_0
      try clear hfz41_1
      obtain ⟨kq, x70_11, rfl, HA, HJ11, BK214, BK219, BK224, HB⟩ := hcut
      cases kq with
      | zero => exact absurd HA.out (by simp [spykeep2_SlewTogether.j0])
      | succ kj11 =>
        have H := HA.out
        clear HA
        simp only [spykeep2_SlewTogether.j0] at H
        by_cases c44 : x70_11 = true
        · subst c44
          have H1 : (if t223 = 4 then (if t222 = 0 then (some (t220 == 0 && (t221 == 0))) else (some false)) else (some false)) = some r := by rw [if_pos rfl] at H; exact H
          clear H
          have H := H1
          clear H1
          by_cases c45 : t223 = 4
          · rw [if_pos c45] at H
            have c45b0 : (t223 == 4) = true := beq_iff_eq.mpr c45
            have c45b1 : (t223 != 4) = false := bne_eq_false_iff_eq.mpr c45
            clear c45
            by_cases c46 : t222 = 0
            · rw [if_pos c46] at H
              have c46b0 : (t222 == 0) = true := beq_iff_eq.mpr c46
              have c46b1 : (t222 != 0) = false := bne_eq_false_iff_eq.mpr c46
              clear c46
              obtain rfl := Option.some.inj H
              have hnb47 := NB224_214.out
              have hnc47 := NB214_224.out
              have hnb48 := NB224_219.out
              have hnc48 := NB219_224.out
              have hcz49_0 : wc.cell? ⟨gb224, 0, none⟩ = some (.int .i64 t220) := (blk_cell BK224.out 0).trans rfl
              have hcz49_1 : wc.cell? ⟨gb224, 1, none⟩ = some (.int .i64 t221) := (blk_cell BK224.out 1).trans rfl
              have hfz49_0 := blk_frozen BK224.out 0
              have hfz49_1 := blk_frozen BK224.out 1
              go_wp2
              go_ret
              exact ⟨by first | rfl | (simp [errW_none, errW_some] <;> rfl) | (simp [*, errW_none, errW_some] <;> rfl), by repeat (first | (with_reducible first | exact HB.out | apply below_alloc | apply pw_below_drewN | apply below_drew1 | refine below_set ?_ GE214.out | refine below_set ?_ GE219.out | refine below_set ?_ GE224.out) | exact HB.out)⟩
            · rw [if_neg c46] at H
              have c46b0 : (t222 == 0) = false := beq_eq_false_iff_ne.mpr c46
              have c46b1 : (t222 != 0) = true := bne_iff_ne.mpr c46
              obtain rfl := Option.some.inj H
              go_wp2
              go_ret
              exact ⟨by first | rfl | (simp [errW_none, errW_some] <;> rfl) | (simp [*, errW_none, errW_some] <;> rfl), by repeat (first | (with_reducible first | exact HB.out | apply below_alloc | apply pw_below_drewN | apply below_drew1 | refine below_set ?_ GE214.out | refine below_set ?_ GE219.out | refine below_set ?_ GE224.out) | exact HB.out)⟩
          · rw [if_neg c45] at H
            have c45b0 : (t223 == 4) = false := beq_eq_false_iff_ne.mpr c45
            have c45b1 : (t223 != 4) = true := bne_iff_ne.mpr c45
            obtain rfl := Option.some.inj H
            go_wp2
            go_ret
            exact ⟨by first | rfl | (simp [errW_none, errW_some] <;> rfl) | (simp [*, errW_none, errW_some] <;> rfl), by repeat (first | (with_reducible first | exact HB.out | apply below_alloc | apply pw_below_drewN | apply below_drew1 | refine below_set ?_ GE214.out | refine below_set ?_ GE219.out | refine below_set ?_ GE224.out) | exact HB.out)⟩
        · replace c44 := Bool.eq_false_iff.mpr c44
          subst c44
          have H1 : ((slew_Steps.f kj11 t203 t204 t205 t206 t215 t225).bind fun bt229 => ((slew_Steps.f kj11 t207 t208 t209 t210 t217 t227).bind fun bt231 => (if t223 = 0 then (if (t220 == t225 && (t221 == t227)) = true then (some (t222 == (mx bt229.1 bt231.1))) else (some false)) else (some false)))) = some r := by rw [if_neg (show ¬ (false = true) by decide)] at H; exact H
          clear H
          have H := H1
          clear H1
          replace H := Option.bind_eq_some_iff.mp H
          obtain ⟨⟨t229, t230⟩, A500, H⟩ := H
          replace H : ((slew_Steps.f kj11 t207 t208 t209 t210 t217 t227).bind fun bt231 => (if t223 = 0 then (if (t220 == t225 && (t221 == t227)) = true then (some (t222 == (mx t229 bt231.1))) else (some false)) else (some false))) = some r := H
          have A50 := Aside0.mk A500
          clear A500
          replace H := Option.bind_eq_some_iff.mp H
          obtain ⟨⟨t231, t232⟩, A510, H⟩ := H
          replace H : (if t223 = 0 then (if (t220 == t225 && (t221 == t227)) = true then (some (t222 == (mx t229 t231))) else (some false)) else (some false)) = some r := H
          have A51 := Aside0.mk A510
          clear A510
          by_cases c52 : t223 = 0
          · rw [if_pos c52] at H
            have c52b0 : (t223 == 0) = true := beq_iff_eq.mpr c52
            have c52b1 : (t223 != 0) = false := bne_eq_false_iff_eq.mpr c52
            clear c52
            by_cases c53 : (t220 == t225 && (t221 == t227)) = true
            · rw [if_pos c53] at H
              have c53b0 : (t220 == t225 && (t221 == t227)) = true := c53
              (try (have c53b1 : decide (t220 = t225 && (t221 == t227)) = true := by simpa using c53))
              (try (have c53b2 : (t220 == t225 && (t221 == t227)) = true := by simpa using c53))
              clear c53
              obtain ⟨ji54, hji54⟩ : ∃ j_ : Int, (mx t229 t231) = j_ := ⟨_, rfl⟩
              replace H : (some (t222 == (ji54))) = some r := by first | (rw [hji54] at H; exact H) | (simp only [hji54] at H ⊢; exact H)
              (try rw [hji54] at A50)
              (try rw [hji54] at A51)
              have hji54_ : (if t229 < t231 then t231 else t229) = ji54 := hji54
              obtain rfl := Option.some.inj H
              have hnb55 := NB214_219.out
              have hnc55 := NB219_214.out
              have hnb56 := NB214_224.out
              have hnc56 := NB224_214.out
              have hcz57_0 : wc.cell? ⟨gb214, 0, none⟩ = some (.int .i64 t203) := (blk_cell BK214.out 0).trans rfl
              have hcz57_1 : wc.cell? ⟨gb214, 1, none⟩ = some (.int .i64 t204) := (blk_cell BK214.out 1).trans rfl
              have hcz57_2 : wc.cell? ⟨gb214, 2, none⟩ = some (.int .i64 t205) := (blk_cell BK214.out 2).trans rfl
              have hcz57_3 : wc.cell? ⟨gb214, 3, none⟩ = some (.int .i64 t206) := (blk_cell BK214.out 3).trans rfl
              have hcz57_4 : wc.cell? ⟨gb214, 4, none⟩ = some (.int .i64 t207) := (blk_cell BK214.out 4).trans rfl
              have hcz57_5 : wc.cell? ⟨gb214, 5, none⟩ = some (.int .i64 t208) := (blk_cell BK214.out 5).trans rfl
              have hcz57_6 : wc.cell? ⟨gb214, 6, none⟩ = some (.int .i64 t209) := (blk_cell BK214.out 6).trans rfl
              have hcz57_7 : wc.cell? ⟨gb214, 7, none⟩ = some (.int .i64 t210) := (blk_cell BK214.out 7).trans rfl
              have hcz57_8 : wc.cell? ⟨gb214, 8, none⟩ = some (.int .i64 t211) := (blk_cell BK214.out 8).trans rfl
              have hcz57_9 : wc.cell? ⟨gb214, 9, none⟩ = some (.int .i64 t212) := (blk_cell BK214.out 9).trans rfl
              have hfz57_0 := blk_frozen BK214.out 0
              have hfz57_1 := blk_frozen BK214.out 1
              have hfz57_2 := blk_frozen BK214.out 2
              have hfz57_3 := blk_frozen BK214.out 3
              have hfz57_4 := blk_frozen BK214.out 4
              have hfz57_5 := blk_frozen BK214.out 5
              have hfz57_6 := blk_frozen BK214.out 6
              have hfz57_7 := blk_frozen BK214.out 7
              have hfz57_8 := blk_frozen BK214.out 8
              have hfz57_9 := blk_frozen BK214.out 9
              have hnb58 := NB219_224.out
              have hnc58 := NB224_219.out
              have hcz59_0 : wc.cell? ⟨gb219, 0, none⟩ = some (.int .i64 t215) := (blk_cell BK219.out 0).trans rfl
              have hcz59_1 : wc.cell? ⟨gb219, 1, none⟩ = some (.int .i64 t217) := (blk_cell BK219.out 1).trans rfl
              have hfz59_0 := blk_frozen BK219.out 0
              have hfz59_1 := blk_frozen BK219.out 1
              go_wp2_with (first | ((with_reducible refine gate_callee (f := 17) rfl ?_); refine goesL_ (some 88) rfl rfl Try.func17 (by kernel_rfl) rfl #[.agg #[.int .i64 t203, .int .i64 t204, .int .i64 t205, .int .i64 t206], .int .i64 t215, .int .i64 t225] rfl (by (try simp only [List.map_toArray, List.map_cons, List.map_nil]); first | done | rfl | (simp only [List.length_drop, List.length_take]; rfl)) ?_; (with_reducible refine (slew_Steps.calls kj11 t203 t204 t205 t206 t215 t225 t229 t230 _ A50.out).mono ?_); rintro e w60 ⟨rfl, hb⟩; refine ⟨_, rfl, ?_⟩; have n0_ := Aside0.mk (blk_below (g := gb214) (o := .cells #[.int .i64 t203, .int .i64 t204, .int .i64 t205, .int .i64 t206, .int .i64 t207, .int .i64 t208, .int .i64 t209, .int .i64 t210, .int .i64 t211, .int .i64 t212] 55 (0, 0)) (by (with_reducible repeat (first | refine blk_drewN ?_ _ | refine blk_drew ?_ | refine blk_alloc ?_ _)); exact BK214.out) hb); have n1_ := Aside0.mk (blk_below (g := gb219) (o := .cells #[.int .i64 t215, .int .i64 t217] 53 (0, 0)) (by (with_reducible repeat (first | refine blk_drewN ?_ _ | refine blk_drew ?_ | refine blk_alloc ?_ _)); exact BK219.out) hb); have n2_ := Aside0.mk (blk_below (g := gb224) (o := .cells #[.int .i64 t220, .int .i64 t221] 53 (0, 0)) (by (with_reducible repeat (first | refine blk_drewN ?_ _ | refine blk_drew ?_ | refine blk_alloc ?_ _)); exact BK224.out) hb); have n3_ := Aside0.mk (below_step (by repeat (first | (with_reducible first | exact HB.out | apply below_alloc | apply pw_below_drewN | apply below_drew1 | refine below_set ?_ GE214.out | refine below_set ?_ GE219.out | refine below_set ?_ GE224.out) | exact HB.out)) hb); clear BK214; clear BK219; clear BK224; clear HB; have BK214 := n0_; have BK219 := n1_; have BK224 := n2_; have HB := n3_; clear n0_ n1_ n2_ n3_; (try clear hb); (try clear hb2); (try clear hk); (try clear hi); have hcz61_0 : w60.cell? ⟨gb214, 0, none⟩ = some (.int .i64 t203) := (blk_cell BK214.out 0).trans rfl; have hcz61_1 : w60.cell? ⟨gb214, 1, none⟩ = some (.int .i64 t204) := (blk_cell BK214.out 1).trans rfl; have hcz61_2 : w60.cell? ⟨gb214, 2, none⟩ = some (.int .i64 t205) := (blk_cell BK214.out 2).trans rfl; have hcz61_3 : w60.cell? ⟨gb214, 3, none⟩ = some (.int .i64 t206) := (blk_cell BK214.out 3).trans rfl; have hcz61_4 : w60.cell? ⟨gb214, 4, none⟩ = some (.int .i64 t207) := (blk_cell BK214.out 4).trans rfl; have hcz61_5 : w60.cell? ⟨gb214, 5, none⟩ = some (.int .i64 t208) := (blk_cell BK214.out 5).trans rfl; have hcz61_6 : w60.cell? ⟨gb214, 6, none⟩ = some (.int .i64 t209) := (blk_cell BK214.out 6).trans rfl; have hcz61_7 : w60.cell? ⟨gb214, 7, none⟩ = some (.int .i64 t210) := (blk_cell BK214.out 7).trans rfl; have hcz61_8 : w60.cell? ⟨gb214, 8, none⟩ = some (.int .i64 t211) := (blk_cell BK214.out 8).trans rfl; have hcz61_9 : w60.cell? ⟨gb214, 9, none⟩ = some (.int .i64 t212) := (blk_cell BK214.out 9).trans rfl; have hfz61_0 := blk_frozen BK214.out 0; have hfz61_1 := blk_frozen BK214.out 1; have hfz61_2 := blk_frozen BK214.out 2; have hfz61_3 := blk_frozen BK214.out 3; have hfz61_4 := blk_frozen BK214.out 4; have hfz61_5 := blk_frozen BK214.out 5; have hfz61_6 := blk_frozen BK214.out 6; have hfz61_7 := blk_frozen BK214.out 7; have hfz61_8 := blk_frozen BK214.out 8; have hfz61_9 := blk_frozen BK214.out 9; have hcz62_0 : w60.cell? ⟨gb219, 0, none⟩ = some (.int .i64 t215) := (blk_cell BK219.out 0).trans rfl; have hcz62_1 : w60.cell? ⟨gb219, 1, none⟩ = some (.int .i64 t217) := (blk_cell BK219.out 1).trans rfl; have hfz62_0 := blk_frozen BK219.out 0; have hfz62_1 := blk_frozen BK219.out 1) | ((with_reducible refine gate_callee (f := 17) rfl ?_); refine goesL_ (some 97) rfl rfl Try.func17 (by kernel_rfl) rfl #[.agg #[.int .i64 t207, .int .i64 t208, .int .i64 t209, .int .i64 t210], .int .i64 t217, .int .i64 t227] rfl (by (try simp only [List.map_toArray, List.map_cons, List.map_nil]); first | done | rfl | (simp only [List.length_drop, List.length_take]; rfl)) ?_; (with_reducible refine (slew_Steps.calls kj11 t207 t208 t209 t210 t217 t227 t231 t232 _ A51.out).mono ?_); rintro e w63 ⟨rfl, hb⟩; refine ⟨_, rfl, ?_⟩; have n0_ := Aside0.mk (blk_below (g := gb214) (o := .cells #[.int .i64 t203, .int .i64 t204, .int .i64 t205, .int .i64 t206, .int .i64 t207, .int .i64 t208, .int .i64 t209, .int .i64 t210, .int .i64 t211, .int .i64 t212] 55 (0, 0)) (by (with_reducible repeat (first | refine blk_drewN ?_ _ | refine blk_drew ?_ | refine blk_alloc ?_ _)); exact BK214.out) hb); have n1_ := Aside0.mk (blk_below (g := gb219) (o := .cells #[.int .i64 t215, .int .i64 t217] 53 (0, 0)) (by (with_reducible repeat (first | refine blk_drewN ?_ _ | refine blk_drew ?_ | refine blk_alloc ?_ _)); exact BK219.out) hb); have n2_ := Aside0.mk (blk_below (g := gb224) (o := .cells #[.int .i64 t220, .int .i64 t221] 53 (0, 0)) (by (with_reducible repeat (first | refine blk_drewN ?_ _ | refine blk_drew ?_ | refine blk_alloc ?_ _)); exact BK224.out) hb); have n3_ := Aside0.mk (below_step (by repeat (first | (with_reducible first | exact HB.out | apply below_alloc | apply pw_below_drewN | apply below_drew1 | refine below_set ?_ GE214.out | refine below_set ?_ GE219.out | refine below_set ?_ GE224.out) | exact HB.out)) hb); clear BK214; clear BK219; clear BK224; clear HB; have BK214 := n0_; have BK219 := n1_; have BK224 := n2_; have HB := n3_; clear n0_ n1_ n2_ n3_; (try clear hb); (try clear hb2); (try clear hk); (try clear hi); have hcz64_0 : w63.cell? ⟨gb224, 0, none⟩ = some (.int .i64 t220) := (blk_cell BK224.out 0).trans rfl; have hcz64_1 : w63.cell? ⟨gb224, 1, none⟩ = some (.int .i64 t221) := (blk_cell BK224.out 1).trans rfl; have hfz64_0 := blk_frozen BK224.out 0; have hfz64_1 := blk_frozen BK224.out 1))
              go_ret
              exact ⟨by first | rfl | (simp [errW_none, errW_some] <;> rfl) | (simp only [← hji54]; first | rfl | (simp [errW_none, errW_some] <;> rfl)) | (simp [*, errW_none, errW_some] <;> rfl), by repeat (first | (with_reducible first | exact HB.out | apply below_alloc | apply pw_below_drewN | apply below_drew1 | refine below_set ?_ GE214.out | refine below_set ?_ GE219.out | refine below_set ?_ GE224.out) | exact HB.out)⟩
            · rw [if_neg c53] at H
              have c53b0 : (t220 == t225 && (t221 == t227)) = false := by simpa using c53
              (try (have c53b1 : decide (t220 = t225 && (t221 == t227)) = false := by simpa using c53))
              (try (have c53b2 : (t220 == t225 && (t221 == t227)) = false := by simpa using c53))
              (try (have c53b3 : ¬ (t220 = t225 && (t221 == t227)) := by simpa using c53))
              clear c53
              obtain rfl := Option.some.inj H
              have hnb65 := NB214_219.out
              have hnc65 := NB219_214.out
              have hnb66 := NB214_224.out
              have hnc66 := NB224_214.out
              have hcz67_0 : wc.cell? ⟨gb214, 0, none⟩ = some (.int .i64 t203) := (blk_cell BK214.out 0).trans rfl
              have hcz67_1 : wc.cell? ⟨gb214, 1, none⟩ = some (.int .i64 t204) := (blk_cell BK214.out 1).trans rfl
              have hcz67_2 : wc.cell? ⟨gb214, 2, none⟩ = some (.int .i64 t205) := (blk_cell BK214.out 2).trans rfl
              have hcz67_3 : wc.cell? ⟨gb214, 3, none⟩ = some (.int .i64 t206) := (blk_cell BK214.out 3).trans rfl
              have hcz67_4 : wc.cell? ⟨gb214, 4, none⟩ = some (.int .i64 t207) := (blk_cell BK214.out 4).trans rfl
              have hcz67_5 : wc.cell? ⟨gb214, 5, none⟩ = some (.int .i64 t208) := (blk_cell BK214.out 5).trans rfl
              have hcz67_6 : wc.cell? ⟨gb214, 6, none⟩ = some (.int .i64 t209) := (blk_cell BK214.out 6).trans rfl
              have hcz67_7 : wc.cell? ⟨gb214, 7, none⟩ = some (.int .i64 t210) := (blk_cell BK214.out 7).trans rfl
              have hcz67_8 : wc.cell? ⟨gb214, 8, none⟩ = some (.int .i64 t211) := (blk_cell BK214.out 8).trans rfl
              have hcz67_9 : wc.cell? ⟨gb214, 9, none⟩ = some (.int .i64 t212) := (blk_cell BK214.out 9).trans rfl
              have hfz67_0 := blk_frozen BK214.out 0
              have hfz67_1 := blk_frozen BK214.out 1
              have hfz67_2 := blk_frozen BK214.out 2
              have hfz67_3 := blk_frozen BK214.out 3
              have hfz67_4 := blk_frozen BK214.out 4
              have hfz67_5 := blk_frozen BK214.out 5
              have hfz67_6 := blk_frozen BK214.out 6
              have hfz67_7 := blk_frozen BK214.out 7
              have hfz67_8 := blk_frozen BK214.out 8
              have hfz67_9 := blk_frozen BK214.out 9
              have hnb68 := NB219_224.out
              have hnc68 := NB224_219.out
              have hcz69_0 : wc.cell? ⟨gb219, 0, none⟩ = some (.int .i64 t215) := (blk_cell BK219.out 0).trans rfl
              have hcz69_1 : wc.cell? ⟨gb219, 1, none⟩ = some (.int .i64 t217) := (blk_cell BK219.out 1).trans rfl
              have hfz69_0 := blk_frozen BK219.out 0
              have hfz69_1 := blk_frozen BK219.out 1
              go_wp2_with (first | ((with_reducible refine gate_callee (f := 17) rfl ?_); refine goesL_ (some 88) rfl rfl Try.func17 (by kernel_rfl) rfl #[.agg #[.int .i64 t203, .int .i64 t204, .int .i64 t205, .int .i64 t206], .int .i64 t215, .int .i64 t225] rfl (by (try simp only [List.map_toArray, List.map_cons, List.map_nil]); first | done | rfl | (simp only [List.length_drop, List.length_take]; rfl)) ?_; (with_reducible refine (slew_Steps.calls kj11 t203 t204 t205 t206 t215 t225 t229 t230 _ A50.out).mono ?_); rintro e w70 ⟨rfl, hb⟩; refine ⟨_, rfl, ?_⟩; have n0_ := Aside0.mk (blk_below (g := gb214) (o := .cells #[.int .i64 t203, .int .i64 t204, .int .i64 t205, .int .i64 t206, .int .i64 t207, .int .i64 t208, .int .i64 t209, .int .i64 t210, .int .i64 t211, .int .i64 t212] 55 (0, 0)) (by (with_reducible repeat (first | refine blk_drewN ?_ _ | refine blk_drew ?_ | refine blk_alloc ?_ _)); exact BK214.out) hb); have n1_ := Aside0.mk (blk_below (g := gb219) (o := .cells #[.int .i64 t215, .int .i64 t217] 53 (0, 0)) (by (with_reducible repeat (first | refine blk_drewN ?_ _ | refine blk_drew ?_ | refine blk_alloc ?_ _)); exact BK219.out) hb); have n2_ := Aside0.mk (blk_below (g := gb224) (o := .cells #[.int .i64 t220, .int .i64 t221] 53 (0, 0)) (by (with_reducible repeat (first | refine blk_drewN ?_ _ | refine blk_drew ?_ | refine blk_alloc ?_ _)); exact BK224.out) hb); have n3_ := Aside0.mk (below_step (by repeat (first | (with_reducible first | exact HB.out | apply below_alloc | apply pw_below_drewN | apply below_drew1 | refine below_set ?_ GE214.out | refine below_set ?_ GE219.out | refine below_set ?_ GE224.out) | exact HB.out)) hb); clear BK214; clear BK219; clear BK224; clear HB; have BK214 := n0_; have BK219 := n1_; have BK224 := n2_; have HB := n3_; clear n0_ n1_ n2_ n3_; (try clear hb); (try clear hb2); (try clear hk); (try clear hi); have hcz71_0 : w70.cell? ⟨gb214, 0, none⟩ = some (.int .i64 t203) := (blk_cell BK214.out 0).trans rfl; have hcz71_1 : w70.cell? ⟨gb214, 1, none⟩ = some (.int .i64 t204) := (blk_cell BK214.out 1).trans rfl; have hcz71_2 : w70.cell? ⟨gb214, 2, none⟩ = some (.int .i64 t205) := (blk_cell BK214.out 2).trans rfl; have hcz71_3 : w70.cell? ⟨gb214, 3, none⟩ = some (.int .i64 t206) := (blk_cell BK214.out 3).trans rfl; have hcz71_4 : w70.cell? ⟨gb214, 4, none⟩ = some (.int .i64 t207) := (blk_cell BK214.out 4).trans rfl; have hcz71_5 : w70.cell? ⟨gb214, 5, none⟩ = some (.int .i64 t208) := (blk_cell BK214.out 5).trans rfl; have hcz71_6 : w70.cell? ⟨gb214, 6, none⟩ = some (.int .i64 t209) := (blk_cell BK214.out 6).trans rfl; have hcz71_7 : w70.cell? ⟨gb214, 7, none⟩ = some (.int .i64 t210) := (blk_cell BK214.out 7).trans rfl; have hcz71_8 : w70.cell? ⟨gb214, 8, none⟩ = some (.int .i64 t211) := (blk_cell BK214.out 8).trans rfl; have hcz71_9 : w70.cell? ⟨gb214, 9, none⟩ = some (.int .i64 t212) := (blk_cell BK214.out 9).trans rfl; have hfz71_0 := blk_frozen BK214.out 0; have hfz71_1 := blk_frozen BK214.out 1; have hfz71_2 := blk_frozen BK214.out 2; have hfz71_3 := blk_frozen BK214.out 3; have hfz71_4 := blk_frozen BK214.out 4; have hfz71_5 := blk_frozen BK214.out 5; have hfz71_6 := blk_frozen BK214.out 6; have hfz71_7 := blk_frozen BK214.out 7; have hfz71_8 := blk_frozen BK214.out 8; have hfz71_9 := blk_frozen BK214.out 9; have hcz72_0 : w70.cell? ⟨gb219, 0, none⟩ = some (.int .i64 t215) := (blk_cell BK219.out 0).trans rfl; have hcz72_1 : w70.cell? ⟨gb219, 1, none⟩ = some (.int .i64 t217) := (blk_cell BK219.out 1).trans rfl; have hfz72_0 := blk_frozen BK219.out 0; have hfz72_1 := blk_frozen BK219.out 1) | ((with_reducible refine gate_callee (f := 17) rfl ?_); refine goesL_ (some 97) rfl rfl Try.func17 (by kernel_rfl) rfl #[.agg #[.int .i64 t207, .int .i64 t208, .int .i64 t209, .int .i64 t210], .int .i64 t217, .int .i64 t227] rfl (by (try simp only [List.map_toArray, List.map_cons, List.map_nil]); first | done | rfl | (simp only [List.length_drop, List.length_take]; rfl)) ?_; (with_reducible refine (slew_Steps.calls kj11 t207 t208 t209 t210 t217 t227 t231 t232 _ A51.out).mono ?_); rintro e w73 ⟨rfl, hb⟩; refine ⟨_, rfl, ?_⟩; have n0_ := Aside0.mk (blk_below (g := gb214) (o := .cells #[.int .i64 t203, .int .i64 t204, .int .i64 t205, .int .i64 t206, .int .i64 t207, .int .i64 t208, .int .i64 t209, .int .i64 t210, .int .i64 t211, .int .i64 t212] 55 (0, 0)) (by (with_reducible repeat (first | refine blk_drewN ?_ _ | refine blk_drew ?_ | refine blk_alloc ?_ _)); exact BK214.out) hb); have n1_ := Aside0.mk (blk_below (g := gb219) (o := .cells #[.int .i64 t215, .int .i64 t217] 53 (0, 0)) (by (with_reducible repeat (first | refine blk_drewN ?_ _ | refine blk_drew ?_ | refine blk_alloc ?_ _)); exact BK219.out) hb); have n2_ := Aside0.mk (blk_below (g := gb224) (o := .cells #[.int .i64 t220, .int .i64 t221] 53 (0, 0)) (by (with_reducible repeat (first | refine blk_drewN ?_ _ | refine blk_drew ?_ | refine blk_alloc ?_ _)); exact BK224.out) hb); have n3_ := Aside0.mk (below_step (by repeat (first | (with_reducible first | exact HB.out | apply below_alloc | apply pw_below_drewN | apply below_drew1 | refine below_set ?_ GE214.out | refine below_set ?_ GE219.out | refine below_set ?_ GE224.out) | exact HB.out)) hb); clear BK214; clear BK219; clear BK224; clear HB; have BK214 := n0_; have BK219 := n1_; have BK224 := n2_; have HB := n3_; clear n0_ n1_ n2_ n3_; (try clear hb); (try clear hb2); (try clear hk); (try clear hi); have hcz74_0 : w73.cell? ⟨gb224, 0, none⟩ = some (.int .i64 t220) := (blk_cell BK224.out 0).trans rfl; have hcz74_1 : w73.cell? ⟨gb224, 1, none⟩ = some (.int .i64 t221) := (blk_cell BK224.out 1).trans rfl; have hfz74_0 := blk_frozen BK224.out 0; have hfz74_1 := blk_frozen BK224.out 1))
              go_ret
              exact ⟨by first | rfl | (simp [errW_none, errW_some] <;> rfl) | (simp [*, errW_none, errW_some] <;> rfl), by repeat (first | (with_reducible first | exact HB.out | apply below_alloc | apply pw_below_drewN | apply below_drew1 | refine below_set ?_ GE214.out | refine below_set ?_ GE219.out | refine below_set ?_ GE224.out) | exact HB.out)⟩
          · rw [if_neg c52] at H
            have c52b0 : (t223 == 0) = false := beq_eq_false_iff_ne.mpr c52
            have c52b1 : (t223 != 0) = true := bne_iff_ne.mpr c52
            obtain rfl := Option.some.inj H
            have hnb75 := NB214_219.out
            have hnc75 := NB219_214.out
            have hnb76 := NB214_224.out
            have hnc76 := NB224_214.out
            have hcz77_0 : wc.cell? ⟨gb214, 0, none⟩ = some (.int .i64 t203) := (blk_cell BK214.out 0).trans rfl
            have hcz77_1 : wc.cell? ⟨gb214, 1, none⟩ = some (.int .i64 t204) := (blk_cell BK214.out 1).trans rfl
            have hcz77_2 : wc.cell? ⟨gb214, 2, none⟩ = some (.int .i64 t205) := (blk_cell BK214.out 2).trans rfl
            have hcz77_3 : wc.cell? ⟨gb214, 3, none⟩ = some (.int .i64 t206) := (blk_cell BK214.out 3).trans rfl
            have hcz77_4 : wc.cell? ⟨gb214, 4, none⟩ = some (.int .i64 t207) := (blk_cell BK214.out 4).trans rfl
            have hcz77_5 : wc.cell? ⟨gb214, 5, none⟩ = some (.int .i64 t208) := (blk_cell BK214.out 5).trans rfl
            have hcz77_6 : wc.cell? ⟨gb214, 6, none⟩ = some (.int .i64 t209) := (blk_cell BK214.out 6).trans rfl
            have hcz77_7 : wc.cell? ⟨gb214, 7, none⟩ = some (.int .i64 t210) := (blk_cell BK214.out 7).trans rfl
            have hcz77_8 : wc.cell? ⟨gb214, 8, none⟩ = some (.int .i64 t211) := (blk_cell BK214.out 8).trans rfl
            have hcz77_9 : wc.cell? ⟨gb214, 9, none⟩ = some (.int .i64 t212) := (blk_cell BK214.out 9).trans rfl
            have hfz77_0 := blk_frozen BK214.out 0
            have hfz77_1 := blk_frozen BK214.out 1
            have hfz77_2 := blk_frozen BK214.out 2
            have hfz77_3 := blk_frozen BK214.out 3
            have hfz77_4 := blk_frozen BK214.out 4
            have hfz77_5 := blk_frozen BK214.out 5
            have hfz77_6 := blk_frozen BK214.out 6
            have hfz77_7 := blk_frozen BK214.out 7
            have hfz77_8 := blk_frozen BK214.out 8
            have hfz77_9 := blk_frozen BK214.out 9
            have hnb78 := NB219_224.out
            have hnc78 := NB224_219.out
            have hcz79_0 : wc.cell? ⟨gb219, 0, none⟩ = some (.int .i64 t215) := (blk_cell BK219.out 0).trans rfl
            have hcz79_1 : wc.cell? ⟨gb219, 1, none⟩ = some (.int .i64 t217) := (blk_cell BK219.out 1).trans rfl
            have hfz79_0 := blk_frozen BK219.out 0
            have hfz79_1 := blk_frozen BK219.out 1
            go_wp2_with (first | ((with_reducible refine gate_callee (f := 17) rfl ?_); refine goesL_ (some 88) rfl rfl Try.func17 (by kernel_rfl) rfl #[.agg #[.int .i64 t203, .int .i64 t204, .int .i64 t205, .int .i64 t206], .int .i64 t215, .int .i64 t225] rfl (by (try simp only [List.map_toArray, List.map_cons, List.map_nil]); first | done | rfl | (simp only [List.length_drop, List.length_take]; rfl)) ?_; (with_reducible refine (slew_Steps.calls kj11 t203 t204 t205 t206 t215 t225 t229 t230 _ A50.out).mono ?_); rintro e w80 ⟨rfl, hb⟩; refine ⟨_, rfl, ?_⟩; have n0_ := Aside0.mk (blk_below (g := gb214) (o := .cells #[.int .i64 t203, .int .i64 t204, .int .i64 t205, .int .i64 t206, .int .i64 t207, .int .i64 t208, .int .i64 t209, .int .i64 t210, .int .i64 t211, .int .i64 t212] 55 (0, 0)) (by (with_reducible repeat (first | refine blk_drewN ?_ _ | refine blk_drew ?_ | refine blk_alloc ?_ _)); exact BK214.out) hb); have n1_ := Aside0.mk (blk_below (g := gb219) (o := .cells #[.int .i64 t215, .int .i64 t217] 53 (0, 0)) (by (with_reducible repeat (first | refine blk_drewN ?_ _ | refine blk_drew ?_ | refine blk_alloc ?_ _)); exact BK219.out) hb); have n2_ := Aside0.mk (blk_below (g := gb224) (o := .cells #[.int .i64 t220, .int .i64 t221] 53 (0, 0)) (by (with_reducible repeat (first | refine blk_drewN ?_ _ | refine blk_drew ?_ | refine blk_alloc ?_ _)); exact BK224.out) hb); have n3_ := Aside0.mk (below_step (by repeat (first | (with_reducible first | exact HB.out | apply below_alloc | apply pw_below_drewN | apply below_drew1 | refine below_set ?_ GE214.out | refine below_set ?_ GE219.out | refine below_set ?_ GE224.out) | exact HB.out)) hb); clear BK214; clear BK219; clear BK224; clear HB; have BK214 := n0_; have BK219 := n1_; have BK224 := n2_; have HB := n3_; clear n0_ n1_ n2_ n3_; (try clear hb); (try clear hb2); (try clear hk); (try clear hi); have hcz81_0 : w80.cell? ⟨gb214, 0, none⟩ = some (.int .i64 t203) := (blk_cell BK214.out 0).trans rfl; have hcz81_1 : w80.cell? ⟨gb214, 1, none⟩ = some (.int .i64 t204) := (blk_cell BK214.out 1).trans rfl; have hcz81_2 : w80.cell? ⟨gb214, 2, none⟩ = some (.int .i64 t205) := (blk_cell BK214.out 2).trans rfl; have hcz81_3 : w80.cell? ⟨gb214, 3, none⟩ = some (.int .i64 t206) := (blk_cell BK214.out 3).trans rfl; have hcz81_4 : w80.cell? ⟨gb214, 4, none⟩ = some (.int .i64 t207) := (blk_cell BK214.out 4).trans rfl; have hcz81_5 : w80.cell? ⟨gb214, 5, none⟩ = some (.int .i64 t208) := (blk_cell BK214.out 5).trans rfl; have hcz81_6 : w80.cell? ⟨gb214, 6, none⟩ = some (.int .i64 t209) := (blk_cell BK214.out 6).trans rfl; have hcz81_7 : w80.cell? ⟨gb214, 7, none⟩ = some (.int .i64 t210) := (blk_cell BK214.out 7).trans rfl; have hcz81_8 : w80.cell? ⟨gb214, 8, none⟩ = some (.int .i64 t211) := (blk_cell BK214.out 8).trans rfl; have hcz81_9 : w80.cell? ⟨gb214, 9, none⟩ = some (.int .i64 t212) := (blk_cell BK214.out 9).trans rfl; have hfz81_0 := blk_frozen BK214.out 0; have hfz81_1 := blk_frozen BK214.out 1; have hfz81_2 := blk_frozen BK214.out 2; have hfz81_3 := blk_frozen BK214.out 3; have hfz81_4 := blk_frozen BK214.out 4; have hfz81_5 := blk_frozen BK214.out 5; have hfz81_6 := blk_frozen BK214.out 6; have hfz81_7 := blk_frozen BK214.out 7; have hfz81_8 := blk_frozen BK214.out 8; have hfz81_9 := blk_frozen BK214.out 9; have hcz82_0 : w80.cell? ⟨gb219, 0, none⟩ = some (.int .i64 t215) := (blk_cell BK219.out 0).trans rfl; have hcz82_1 : w80.cell? ⟨gb219, 1, none⟩ = some (.int .i64 t217) := (blk_cell BK219.out 1).trans rfl; have hfz82_0 := blk_frozen BK219.out 0; have hfz82_1 := blk_frozen BK219.out 1) | ((with_reducible refine gate_callee (f := 17) rfl ?_); refine goesL_ (some 97) rfl rfl Try.func17 (by kernel_rfl) rfl #[.agg #[.int .i64 t207, .int .i64 t208, .int .i64 t209, .int .i64 t210], .int .i64 t217, .int .i64 t227] rfl (by (try simp only [List.map_toArray, List.map_cons, List.map_nil]); first | done | rfl | (simp only [List.length_drop, List.length_take]; rfl)) ?_; (with_reducible refine (slew_Steps.calls kj11 t207 t208 t209 t210 t217 t227 t231 t232 _ A51.out).mono ?_); rintro e w83 ⟨rfl, hb⟩; refine ⟨_, rfl, ?_⟩; have n0_ := Aside0.mk (blk_below (g := gb214) (o := .cells #[.int .i64 t203, .int .i64 t204, .int .i64 t205, .int .i64 t206, .int .i64 t207, .int .i64 t208, .int .i64 t209, .int .i64 t210, .int .i64 t211, .int .i64 t212] 55 (0, 0)) (by (with_reducible repeat (first | refine blk_drewN ?_ _ | refine blk_drew ?_ | refine blk_alloc ?_ _)); exact BK214.out) hb); have n1_ := Aside0.mk (blk_below (g := gb219) (o := .cells #[.int .i64 t215, .int .i64 t217] 53 (0, 0)) (by (with_reducible repeat (first | refine blk_drewN ?_ _ | refine blk_drew ?_ | refine blk_alloc ?_ _)); exact BK219.out) hb); have n2_ := Aside0.mk (blk_below (g := gb224) (o := .cells #[.int .i64 t220, .int .i64 t221] 53 (0, 0)) (by (with_reducible repeat (first | refine blk_drewN ?_ _ | refine blk_drew ?_ | refine blk_alloc ?_ _)); exact BK224.out) hb); have n3_ := Aside0.mk (below_step (by repeat (first | (with_reducible first | exact HB.out | apply below_alloc | apply pw_below_drewN | apply below_drew1 | refine below_set ?_ GE214.out | refine below_set ?_ GE219.out | refine below_set ?_ GE224.out) | exact HB.out)) hb); clear BK214; clear BK219; clear BK224; clear HB; have BK214 := n0_; have BK219 := n1_; have BK224 := n2_; have HB := n3_; clear n0_ n1_ n2_ n3_; (try clear hb); (try clear hb2); (try clear hk); (try clear hi)))
            go_ret
            exact ⟨by first | rfl | (simp [errW_none, errW_some] <;> rfl) | (simp [*, errW_none, errW_some] <;> rfl), by repeat (first | (with_reducible first | exact HB.out | apply below_alloc | apply pw_below_drewN | apply below_drew1 | refine below_set ?_ GE214.out | refine below_set ?_ GE219.out | refine below_set ?_ GE224.out) | exact HB.out)⟩
  · replace c5 := Bool.eq_false_iff.mpr c5
    subst c5
    have H1 : (some false) = some r := by rw [if_neg (show ¬ (false = true) by decide)] at H; exact H
    clear H
    have H := H1
    clear H1
    obtain rfl := Option.some.inj H
    go_enter Try.func8, Try.ntmps8
    go_wp2_with (first | ((with_reducible refine gate_callee (f := 11) rfl ?_); refine goesL_ (some 21) rfl rfl Try.func11 (by kernel_rfl) rfl #[] rfl (by (try simp only [List.map_toArray, List.map_cons, List.map_nil]); first | done | rfl | (simp only [List.length_drop, List.length_take]; rfl)) ?_; (with_reducible refine (spykeep2_slews.calls k  false _ A4.out).mono ?_); rintro e w84 ⟨rfl, hb⟩; refine ⟨_, rfl, ?_⟩; have n0_ := Aside0.mk (below_step (by repeat (first | (with_reducible first | exact HB.out | apply below_alloc | apply pw_below_drewN | apply below_drew1) | exact HB.out)) hb); clear HB; have HB := n0_; clear n0_; (try clear hb); (try clear hb2); (try clear hk); (try clear hi)))
    go_ret
    exact ⟨by first | rfl | (simp [errW_none, errW_some] <;> rfl) | (simp [*, errW_none, errW_some] <;> rfl), by repeat (first | (with_reducible first | exact HB.out | apply below_alloc | apply pw_below_drewN | apply below_drew1) | exact HB.out)⟩

/-- THE ONE PURE STATEMENT of spykeep2_SlewTogether: yours. -/
def spykeep2_SlewTogether.Pure : Prop := ∀ (l0 : List Int) (a1 : Int) (a2 : Int), l0.length ≤ maxLen → l0.length * 8 ≤ 140737488351232 → (∀ x ∈ l0, (Lit.int .i64 x).wf = true) → (Lit.int .i64 a1).wf = true → (Lit.int .i64 a2).wf = true → ∃ k, spykeep2_SlewTogether.f k l0 a1 a2 = some true
theorem spykeep2_SlewTogether.walk (P : spykeep2_SlewTogether.Pure) (a0 : Option Addr) (len0 cap0 : Nat) (z0 : List Int) (a1 : Int) (a2 : Int) (w : World) (w0 : (a0 = none ∧ len0 = 0 ∧ cap0 = 0 ∧ z0 = []) ∨ ∃ x, a0 = some x ∧ len0 ≤ cap0 ∧ cap0 ≤ maxLen ∧ z0.length = cap0 ∧ (∀ i, i < z0.length → w.cell? (x.add i) = some (.int .i64 (z0.getD i 0))) ∧ ∀ n ∈ z0, (Lit.int .i64 n).wf = true) (y0 : len0 * 8 ≤ 140737488351232) (w1 : (Lit.int .i64 a1).wf = true) (w2 : (Lit.int .i64 a2).wf = true) :
    Calls Try.prog 8 #[.slice a0 len0 cap0, .int .i64 a1, .int .i64 a2] w fun e w' => e = .returned (.bool true) ∧ Below w.heap.size w w' := by
  obtain ⟨l0, rfl, hr0, hm0, hw0, hc0⟩ := ReadsInt.ofRowC w0
  obtain ⟨k, h⟩ := P l0 a1 a2 hm0 y0 hw0 w1 w2
  refine (spykeep2_SlewTogether.calls k _ _ l0 a1 a2 true w (Kd.C_of_reads (d := (0 : Int)) (h1 := fun _ => rfl) hr0) hc0 h).mono ?_
  rintro e w' ⟨rfl, hd⟩
  exact ⟨rfl, hd⟩

end Go.Proofs.Ytmdphfjpocmooaa.PSlewTogether
