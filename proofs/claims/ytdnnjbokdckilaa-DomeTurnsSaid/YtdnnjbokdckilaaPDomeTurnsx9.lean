-- Written by a program of this session out of the translation (wip/tools).
import Derived.Test.YtdnnjbokdckilaaPDomeTurnsx0
import Derived.Test.YtdnnjbokdckilaaPDomeTurnsx1
import Derived.Test.YtdnnjbokdckilaaPDomeTurnsx3
import Derived.Test.YtdnnjbokdckilaaPDomeTurnsx5
import Derived.Test.YtdnnjbokdckilaaPDomeTurnsx7
import Derived.Test.YtdnnjbokdckilaaPDomeTurnsx8
namespace Go.Proofs.Ytdnnjbokdckilaa.PDomeTurns
open Go.RowKit Go.Proofs.YtdnnjbokdckilaaW.PrintWords Go.Proofs.YtdnnjbokdckilaaW.PrintLast Go.Proofs.YtdnnjbokdckilaaW.PrintMore
attribute [local go_sem] max2_int min2_int max_two min_two max_three min_three max_four min_four   -- for this text's walks alone
set_option linter.unusedVariables false
set_option linter.unusedSimpArgs false

/-! ### spykeep2_DomeTurns: function 9 -/
mutual
def spykeep2_DomeTurns.j0 : Nat → Int → List (S28) → Bool → Int → Int → Int → Int → Int → Int → Bool → Bool → Int → Int → Int → Bool → Int → Int → Bool → Bool → Int → Int → Int → Bool → Option (Bool)
  | 0, _, _, _, _, _, _, _, _, _, _, _, _, _, _, _, _, _, _, _, _, _, _, _ => none
  | k + 1, x1, x10, x45, x231000, x231001, x231002, x231003, x238000, x238001, x238002, x238003, x238004, x238005, x238006, x238007, x248000, x248001, x248002, x248003, x248004, x248005, x248006, x248007 => if x45 = true then (some false) else (spykeep2_DomeTurns.l0 k x1 (x10.length : Int) 0 x231000 x231001 x231002 x231003 x238000 x238001 x238002 x238003 x238004 x238005 x238006 x238007 x248000 x248001 x248002 x248003 x248004 x248005 x248006 x248007)
def spykeep2_DomeTurns.l0 : Nat → Int → Int → Int → Int → Int → Int → Int → Int → Int → Bool → Bool → Int → Int → Int → Bool → Int → Int → Bool → Bool → Int → Int → Int → Bool → Option (Bool)
  | 0, _, _, _, _, _, _, _, _, _, _, _, _, _, _, _, _, _, _, _, _, _, _, _ => none
  | k + 1, x1, x47, x48, x231000, x231001, x231002, x231003, x238000, x238001, x238002, x238003, x238004, x238005, x238006, x238007, x248000, x248001, x248002, x248003, x248004, x248005, x248006, x248007 => if x48 < x47 then ((dome_Step.f k x248000 x248001 x248002 x248003 x248004 x248005 x248006 x248007).bind fun bt252 => (spykeep2_DomeTurns.l0 k x1 x47 (wrap64 (x48 + 1)) x231000 x231001 x231002 x231003 x238000 x238001 x238002 x238003 x238004 x238005 x238006 x238007 bt252.1 bt252.2.1 bt252.2.2.1 bt252.2.2.2.1 bt252.2.2.2.2.1 bt252.2.2.2.2.2.1 bt252.2.2.2.2.2.2.1 bt252.2.2.2.2.2.2.2)) else ((dome_Covers.f x248000 x248001 x248002 x248003 x248004 x248005 x248006 x248007 x1).bind fun t260 => (if t260 = true then ((axis_Resting.f x248004 x248005 x248006 x248007).bind fun t261 => (if t261 = true then (if (mx (wrap64 (x248004 - x238004)) (wrap64 (x238004 - x248004))) ≤ 2147483648 then (some true) else (if (mx (wrap64 (x248004 - x238004)) (wrap64 (x238004 - x248004))) < 4294967296 then (if x238004 > (wrap64 (x231001 - 2147483648)) then (some true) else (some (decide (x238004 < (wrap64 (x231000 + 2147483648)))))) else (some false))) else (some false))) else (some false)))
end
def spykeep2_DomeTurns.f (k : Nat) (l0 : List Int) (a1 : Int) : Option (Bool) := (spykeep2_turns.f k).bind fun t224 => (if t224 = true then ((dome_Axis.f).bind fun bt226 => ((spymake_Stream_Inside.f l0 0 bt226.1 bt226.2.1 bt226.2.2.1 bt226.2.2.2).bind fun bt231 => ((axis_Rest.f bt231.1).bind fun bt233 => ((dome_Rotate.f k 0 0 false false bt233.1 bt233.2.1 bt233.2.2.1 bt233.2.2.2 a1).bind fun bt238 => (if bt238.2.2.2.2.2.2.2.2 = 0 then ((axis_Run.f k bt226.1 bt226.2.1 bt226.2.2.1 bt226.2.2.2 bt238.2.2.2.2.1 bt238.2.2.2.2.2.1 bt238.2.2.2.2.2.2.1 bt238.2.2.2.2.2.2.2.1 4096).bind fun bt248 => (if bt248.2 = 0 then (spykeep2_DomeTurns.j0 k a1 bt248.1 ((bt248.1.length : Int) == 4096) bt226.1 bt226.2.1 bt226.2.2.1 bt226.2.2.2 0 0 false false bt233.1 bt233.2.1 bt233.2.2.1 bt233.2.2.2 bt238.1 bt238.2.1 bt238.2.2.1 bt238.2.2.2.1 bt238.2.2.2.2.1 bt238.2.2.2.2.2.1 bt238.2.2.2.2.2.2.1 bt238.2.2.2.2.2.2.2.1) else (spykeep2_DomeTurns.j0 k a1 bt248.1 true bt226.1 bt226.2.1 bt226.2.2.1 bt226.2.2.2 0 0 false false bt233.1 bt233.2.1 bt233.2.2.1 bt233.2.2.2 bt238.1 bt238.2.1 bt238.2.2.1 bt238.2.2.2.1 bt238.2.2.2.2.1 bt238.2.2.2.2.2.1 bt238.2.2.2.2.2.2.1 bt238.2.2.2.2.2.2.2.1))) else (some false)))))) else (some false))
theorem spykeep2_DomeTurns.mono_l : ∀ k, (∀ y0 y1 y2 y3 y4 y5 y6 y7 y8 y9 y10 y11 y12 y13 y14 y15 y16 y17 y18 y19 y20 y21 y22, LeO (spykeep2_DomeTurns.j0 k y0 y1 y2 y3 y4 y5 y6 y7 y8 y9 y10 y11 y12 y13 y14 y15 y16 y17 y18 y19 y20 y21 y22) (spykeep2_DomeTurns.j0 (k + 1) y0 y1 y2 y3 y4 y5 y6 y7 y8 y9 y10 y11 y12 y13 y14 y15 y16 y17 y18 y19 y20 y21 y22)) ∧ (∀ y0 y1 y2 y3 y4 y5 y6 y7 y8 y9 y10 y11 y12 y13 y14 y15 y16 y17 y18 y19 y20 y21 y22, LeO (spykeep2_DomeTurns.l0 k y0 y1 y2 y3 y4 y5 y6 y7 y8 y9 y10 y11 y12 y13 y14 y15 y16 y17 y18 y19 y20 y21 y22) (spykeep2_DomeTurns.l0 (k + 1) y0 y1 y2 y3 y4 y5 y6 y7 y8 y9 y10 y11 y12 y13 y14 y15 y16 y17 y18 y19 y20 y21 y22))
  | 0 => ⟨fun _ _ _ _ _ _ _ _ _ _ _ _ _ _ _ _ _ _ _ _ _ _ _ r h => by simp [spykeep2_DomeTurns.j0] at h, fun _ _ _ _ _ _ _ _ _ _ _ _ _ _ _ _ _ _ _ _ _ _ _ r h => by simp [spykeep2_DomeTurns.l0] at h⟩
  | k + 1 => by
    obtain ⟨ih0, ih1⟩ := spykeep2_DomeTurns.mono_l k
    refine ⟨?_, ?_⟩
    · intro y0 y1 y2 y3 y4 y5 y6 y7 y8 y9 y10 y11 y12 y13 y14 y15 y16 y17 y18 y19 y20 y21 y22
      unfold spykeep2_DomeTurns.j0
      repeat' first
      | (with_reducible exact ih0 _ _ _ _ _ _ _ _ _ _ _ _ _ _ _ _ _ _ _ _ _ _ _)
      | (with_reducible exact ih1 _ _ _ _ _ _ _ _ _ _ _ _ _ _ _ _ _ _ _ _ _ _ _)
      | (with_reducible exact axis_Run.mono _ _ _ _ _ _ _ _ _ _)
      | (with_reducible exact dome_Rotate.mono _ _ _ _ _ _ _ _ _ _)
      | (with_reducible exact dome_Step.mono _ _ _ _ _ _ _ _ _)
      | (with_reducible exact spykeep2_turns.mono _)
      | (with_reducible exact LeO.refl _)
      | (with_reducible exact LeO.none _)
      | (with_reducible refine LeO.ite ?_ ?_)
      | (with_reducible refine LeO.bind ?_ (fun _ => ?_))
      | exact ih0 _ _ _ _ _ _ _ _ _ _ _ _ _ _ _ _ _ _ _ _ _ _ _
      | exact ih1 _ _ _ _ _ _ _ _ _ _ _ _ _ _ _ _ _ _ _ _ _ _ _
      | exact axis_Run.mono _ _ _ _ _ _ _ _ _ _
      | exact dome_Rotate.mono _ _ _ _ _ _ _ _ _ _
      | exact dome_Step.mono _ _ _ _ _ _ _ _ _
      | exact spykeep2_turns.mono _
      | exact LeO.none _
      | refine LeO.ite ?_ ?_
      | refine LeO.bind ?_ (fun _ => ?_)
    · intro y0 y1 y2 y3 y4 y5 y6 y7 y8 y9 y10 y11 y12 y13 y14 y15 y16 y17 y18 y19 y20 y21 y22
      unfold spykeep2_DomeTurns.l0
      repeat' first
      | (with_reducible exact ih0 _ _ _ _ _ _ _ _ _ _ _ _ _ _ _ _ _ _ _ _ _ _ _)
      | (with_reducible exact ih1 _ _ _ _ _ _ _ _ _ _ _ _ _ _ _ _ _ _ _ _ _ _ _)
      | (with_reducible exact axis_Run.mono _ _ _ _ _ _ _ _ _ _)
      | (with_reducible exact dome_Rotate.mono _ _ _ _ _ _ _ _ _ _)
      | (with_reducible exact dome_Step.mono _ _ _ _ _ _ _ _ _)
      | (with_reducible exact spykeep2_turns.mono _)
      | (with_reducible exact LeO.refl _)
      | (with_reducible exact LeO.none _)
      | (with_reducible refine LeO.ite ?_ ?_)
      | (with_reducible refine LeO.bind ?_ (fun _ => ?_))
      | exact ih0 _ _ _ _ _ _ _ _ _ _ _ _ _ _ _ _ _ _ _ _ _ _ _
      | exact ih1 _ _ _ _ _ _ _ _ _ _ _ _ _ _ _ _ _ _ _ _ _ _ _
      | exact axis_Run.mono _ _ _ _ _ _ _ _ _ _
      | exact dome_Rotate.mono _ _ _ _ _ _ _ _ _ _
      | exact dome_Step.mono _ _ _ _ _ _ _ _ _
      | exact spykeep2_turns.mono _
      | exact LeO.none _
      | refine LeO.ite ?_ ?_
      | refine LeO.bind ?_ (fun _ => ?_)
theorem spykeep2_DomeTurns.mono : ∀ a0 a1 k, LeO (spykeep2_DomeTurns.f k a0 a1) (spykeep2_DomeTurns.f (k + 1) a0 a1) := by
  intro a0 a1 k
  obtain ⟨ih0, ih1⟩ := spykeep2_DomeTurns.mono_l k
  unfold spykeep2_DomeTurns.f
  repeat' first
      | (with_reducible exact ih0 _ _ _ _ _ _ _ _ _ _ _ _ _ _ _ _ _ _ _ _ _ _ _)
      | (with_reducible exact ih1 _ _ _ _ _ _ _ _ _ _ _ _ _ _ _ _ _ _ _ _ _ _ _)
      | (with_reducible exact axis_Run.mono _ _ _ _ _ _ _ _ _ _)
      | (with_reducible exact dome_Rotate.mono _ _ _ _ _ _ _ _ _ _)
      | (with_reducible exact dome_Step.mono _ _ _ _ _ _ _ _ _)
      | (with_reducible exact spykeep2_turns.mono _)
      | (with_reducible exact LeO.refl _)
      | (with_reducible exact LeO.none _)
      | (with_reducible refine LeO.ite ?_ ?_)
      | (with_reducible refine LeO.bind ?_ (fun _ => ?_))
      | exact ih0 _ _ _ _ _ _ _ _ _ _ _ _ _ _ _ _ _ _ _ _ _ _ _
      | exact ih1 _ _ _ _ _ _ _ _ _ _ _ _ _ _ _ _ _ _ _ _ _ _ _
      | exact axis_Run.mono _ _ _ _ _ _ _ _ _ _
      | exact dome_Rotate.mono _ _ _ _ _ _ _ _ _ _
      | exact dome_Step.mono _ _ _ _ _ _ _ _ _
      | exact spykeep2_turns.mono _
      | exact LeO.none _
      | refine LeO.ite ?_ ?_
      | refine LeO.bind ?_ (fun _ => ?_)
set_option maxHeartbeats 8000000 in
set_option maxRecDepth 100000 in
theorem spykeep2_DomeTurns.calls (k : Nat) (A0 : Option Addr) (c0 : Nat) (l0 : List Int) (a1 : Int) (r : Bool) (w : World) (hr0 : Kd.C (Kd.int .i64) w A0 l0.length l0) (hc0 : l0.length ≤ c0) (h : spykeep2_DomeTurns.f k l0 a1 = some r) :
    Calls Try.prog 9 #[.slice A0 l0.length c0, .int .i64 a1] w fun e w' => e = .returned (.bool r) ∧ Below w.heap.size w w' := by
  have hu26 := Try.underlying26
  have hu60 := Try.underlying60
  have hu30 := Try.underlying30
  have hu28 := Try.underlying28
  have HR0 := Aside0.mk hr0
  have HC0 := Aside0.mk hc0
  clear hr0 hc0
  have HB := Aside0.mk (Below.refl w.heap.size w)
  have H : ((spykeep2_turns.f k).bind fun t224 => (if t224 = true then ((dome_Axis.f).bind fun bt226 => ((spymake_Stream_Inside.f l0 0 bt226.1 bt226.2.1 bt226.2.2.1 bt226.2.2.2).bind fun bt231 => ((axis_Rest.f bt231.1).bind fun bt233 => ((dome_Rotate.f k 0 0 false false bt233.1 bt233.2.1 bt233.2.2.1 bt233.2.2.2 a1).bind fun bt238 => (if bt238.2.2.2.2.2.2.2.2 = 0 then ((axis_Run.f k bt226.1 bt226.2.1 bt226.2.2.1 bt226.2.2.2 bt238.2.2.2.2.1 bt238.2.2.2.2.2.1 bt238.2.2.2.2.2.2.1 bt238.2.2.2.2.2.2.2.1 4096).bind fun bt248 => (if bt248.2 = 0 then (spykeep2_DomeTurns.j0 k a1 bt248.1 ((bt248.1.length : Int) == 4096) bt226.1 bt226.2.1 bt226.2.2.1 bt226.2.2.2 0 0 false false bt233.1 bt233.2.1 bt233.2.2.1 bt233.2.2.2 bt238.1 bt238.2.1 bt238.2.2.1 bt238.2.2.2.1 bt238.2.2.2.2.1 bt238.2.2.2.2.2.1 bt238.2.2.2.2.2.2.1 bt238.2.2.2.2.2.2.2.1) else (spykeep2_DomeTurns.j0 k a1 bt248.1 true bt226.1 bt226.2.1 bt226.2.2.1 bt226.2.2.2 0 0 false false bt233.1 bt233.2.1 bt233.2.2.1 bt233.2.2.2 bt238.1 bt238.2.1 bt238.2.2.1 bt238.2.2.2.1 bt238.2.2.2.2.1 bt238.2.2.2.2.2.1 bt238.2.2.2.2.2.2.1 bt238.2.2.2.2.2.2.2.1))) else (some false)))))) else (some false))) = some r := h
  clear h
  replace H := Option.bind_eq_some_iff.mp H
  obtain ⟨t224, A30, H⟩ := H
  replace H : (if t224 = true then ((dome_Axis.f).bind fun bt226 => ((spymake_Stream_Inside.f l0 0 bt226.1 bt226.2.1 bt226.2.2.1 bt226.2.2.2).bind fun bt231 => ((axis_Rest.f bt231.1).bind fun bt233 => ((dome_Rotate.f k 0 0 false false bt233.1 bt233.2.1 bt233.2.2.1 bt233.2.2.2 a1).bind fun bt238 => (if bt238.2.2.2.2.2.2.2.2 = 0 then ((axis_Run.f k bt226.1 bt226.2.1 bt226.2.2.1 bt226.2.2.2 bt238.2.2.2.2.1 bt238.2.2.2.2.2.1 bt238.2.2.2.2.2.2.1 bt238.2.2.2.2.2.2.2.1 4096).bind fun bt248 => (if bt248.2 = 0 then (spykeep2_DomeTurns.j0 k a1 bt248.1 ((bt248.1.length : Int) == 4096) bt226.1 bt226.2.1 bt226.2.2.1 bt226.2.2.2 0 0 false false bt233.1 bt233.2.1 bt233.2.2.1 bt233.2.2.2 bt238.1 bt238.2.1 bt238.2.2.1 bt238.2.2.2.1 bt238.2.2.2.2.1 bt238.2.2.2.2.2.1 bt238.2.2.2.2.2.2.1 bt238.2.2.2.2.2.2.2.1) else (spykeep2_DomeTurns.j0 k a1 bt248.1 true bt226.1 bt226.2.1 bt226.2.2.1 bt226.2.2.2 0 0 false false bt233.1 bt233.2.1 bt233.2.2.1 bt233.2.2.2 bt238.1 bt238.2.1 bt238.2.2.1 bt238.2.2.2.1 bt238.2.2.2.2.1 bt238.2.2.2.2.2.1 bt238.2.2.2.2.2.2.1 bt238.2.2.2.2.2.2.2.1))) else (some false)))))) else (some false)) = some r := H
  have A3 := Aside0.mk A30
  clear A30
  by_cases c4 : t224 = true
  · subst c4
    have H1 : ((dome_Axis.f).bind fun bt226 => ((spymake_Stream_Inside.f l0 0 bt226.1 bt226.2.1 bt226.2.2.1 bt226.2.2.2).bind fun bt231 => ((axis_Rest.f bt231.1).bind fun bt233 => ((dome_Rotate.f k 0 0 false false bt233.1 bt233.2.1 bt233.2.2.1 bt233.2.2.2 a1).bind fun bt238 => (if bt238.2.2.2.2.2.2.2.2 = 0 then ((axis_Run.f k bt226.1 bt226.2.1 bt226.2.2.1 bt226.2.2.2 bt238.2.2.2.2.1 bt238.2.2.2.2.2.1 bt238.2.2.2.2.2.2.1 bt238.2.2.2.2.2.2.2.1 4096).bind fun bt248 => (if bt248.2 = 0 then (spykeep2_DomeTurns.j0 k a1 bt248.1 ((bt248.1.length : Int) == 4096) bt226.1 bt226.2.1 bt226.2.2.1 bt226.2.2.2 0 0 false false bt233.1 bt233.2.1 bt233.2.2.1 bt233.2.2.2 bt238.1 bt238.2.1 bt238.2.2.1 bt238.2.2.2.1 bt238.2.2.2.2.1 bt238.2.2.2.2.2.1 bt238.2.2.2.2.2.2.1 bt238.2.2.2.2.2.2.2.1) else (spykeep2_DomeTurns.j0 k a1 bt248.1 true bt226.1 bt226.2.1 bt226.2.2.1 bt226.2.2.2 0 0 false false bt233.1 bt233.2.1 bt233.2.2.1 bt233.2.2.2 bt238.1 bt238.2.1 bt238.2.2.1 bt238.2.2.2.1 bt238.2.2.2.2.1 bt238.2.2.2.2.2.1 bt238.2.2.2.2.2.2.1 bt238.2.2.2.2.2.2.2.1))) else (some false)))))) = some r := by rw [if_pos rfl] at H; exact H
    clear H
    have H := H1
    clear H1
    replace H := Option.bind_eq_some_iff.mp H
    obtain ⟨⟨t226, t227, t228, t229⟩, A50, H⟩ := H
    replace H : ((spymake_Stream_Inside.f l0 0 t226 t227 t228 t229).bind fun bt231 => ((axis_Rest.f bt231.1).bind fun bt233 => ((dome_Rotate.f k 0 0 false false bt233.1 bt233.2.1 bt233.2.2.1 bt233.2.2.2 a1).bind fun bt238 => (if bt238.2.2.2.2.2.2.2.2 = 0 then ((axis_Run.f k t226 t227 t228 t229 bt238.2.2.2.2.1 bt238.2.2.2.2.2.1 bt238.2.2.2.2.2.2.1 bt238.2.2.2.2.2.2.2.1 4096).bind fun bt248 => (if bt248.2 = 0 then (spykeep2_DomeTurns.j0 k a1 bt248.1 ((bt248.1.length : Int) == 4096) t226 t227 t228 t229 0 0 false false bt233.1 bt233.2.1 bt233.2.2.1 bt233.2.2.2 bt238.1 bt238.2.1 bt238.2.2.1 bt238.2.2.2.1 bt238.2.2.2.2.1 bt238.2.2.2.2.2.1 bt238.2.2.2.2.2.2.1 bt238.2.2.2.2.2.2.2.1) else (spykeep2_DomeTurns.j0 k a1 bt248.1 true t226 t227 t228 t229 0 0 false false bt233.1 bt233.2.1 bt233.2.2.1 bt233.2.2.2 bt238.1 bt238.2.1 bt238.2.2.1 bt238.2.2.2.1 bt238.2.2.2.2.1 bt238.2.2.2.2.2.1 bt238.2.2.2.2.2.2.1 bt238.2.2.2.2.2.2.2.1))) else (some false))))) = some r := H
    have A5 := Aside0.mk A50
    clear A50
    replace H := Option.bind_eq_some_iff.mp H
    obtain ⟨⟨t231, t232⟩, A60, H⟩ := H
    replace H : ((axis_Rest.f t231).bind fun bt233 => ((dome_Rotate.f k 0 0 false false bt233.1 bt233.2.1 bt233.2.2.1 bt233.2.2.2 a1).bind fun bt238 => (if bt238.2.2.2.2.2.2.2.2 = 0 then ((axis_Run.f k t226 t227 t228 t229 bt238.2.2.2.2.1 bt238.2.2.2.2.2.1 bt238.2.2.2.2.2.2.1 bt238.2.2.2.2.2.2.2.1 4096).bind fun bt248 => (if bt248.2 = 0 then (spykeep2_DomeTurns.j0 k a1 bt248.1 ((bt248.1.length : Int) == 4096) t226 t227 t228 t229 0 0 false false bt233.1 bt233.2.1 bt233.2.2.1 bt233.2.2.2 bt238.1 bt238.2.1 bt238.2.2.1 bt238.2.2.2.1 bt238.2.2.2.2.1 bt238.2.2.2.2.2.1 bt238.2.2.2.2.2.2.1 bt238.2.2.2.2.2.2.2.1) else (spykeep2_DomeTurns.j0 k a1 bt248.1 true t226 t227 t228 t229 0 0 false false bt233.1 bt233.2.1 bt233.2.2.1 bt233.2.2.2 bt238.1 bt238.2.1 bt238.2.2.1 bt238.2.2.2.1 bt238.2.2.2.2.1 bt238.2.2.2.2.2.1 bt238.2.2.2.2.2.2.1 bt238.2.2.2.2.2.2.2.1))) else (some false)))) = some r := H
    have A6 := Aside0.mk A60
    clear A60
    replace H := Option.bind_eq_some_iff.mp H
    obtain ⟨⟨t233, t234, t235, t236⟩, A70, H⟩ := H
    replace H : ((dome_Rotate.f k 0 0 false false t233 t234 t235 t236 a1).bind fun bt238 => (if bt238.2.2.2.2.2.2.2.2 = 0 then ((axis_Run.f k t226 t227 t228 t229 bt238.2.2.2.2.1 bt238.2.2.2.2.2.1 bt238.2.2.2.2.2.2.1 bt238.2.2.2.2.2.2.2.1 4096).bind fun bt248 => (if bt248.2 = 0 then (spykeep2_DomeTurns.j0 k a1 bt248.1 ((bt248.1.length : Int) == 4096) t226 t227 t228 t229 0 0 false false t233 t234 t235 t236 bt238.1 bt238.2.1 bt238.2.2.1 bt238.2.2.2.1 bt238.2.2.2.2.1 bt238.2.2.2.2.2.1 bt238.2.2.2.2.2.2.1 bt238.2.2.2.2.2.2.2.1) else (spykeep2_DomeTurns.j0 k a1 bt248.1 true t226 t227 t228 t229 0 0 false false t233 t234 t235 t236 bt238.1 bt238.2.1 bt238.2.2.1 bt238.2.2.2.1 bt238.2.2.2.2.1 bt238.2.2.2.2.2.1 bt238.2.2.2.2.2.2.1 bt238.2.2.2.2.2.2.2.1))) else (some false))) = some r := H
    have A7 := Aside0.mk A70
    clear A70
    replace H := Option.bind_eq_some_iff.mp H
    obtain ⟨⟨t238, t239, t240, t241, t242, t243, t244, t245, t246⟩, A80, H⟩ := H
    replace H : (if t246 = 0 then ((axis_Run.f k t226 t227 t228 t229 t242 t243 t244 t245 4096).bind fun bt248 => (if bt248.2 = 0 then (spykeep2_DomeTurns.j0 k a1 bt248.1 ((bt248.1.length : Int) == 4096) t226 t227 t228 t229 0 0 false false t233 t234 t235 t236 t238 t239 t240 t241 t242 t243 t244 t245) else (spykeep2_DomeTurns.j0 k a1 bt248.1 true t226 t227 t228 t229 0 0 false false t233 t234 t235 t236 t238 t239 t240 t241 t242 t243 t244 t245))) else (some false)) = some r := H
    have A8 := Aside0.mk A80
    clear A80
    by_cases c9 : t246 = 0
    · rw [if_pos c9] at H
      have c9b0 : (t246 == 0) = true := beq_iff_eq.mpr c9
      have c9b1 : (t246 != 0) = false := bne_eq_false_iff_eq.mpr c9
      clear c9
      replace H := Option.bind_eq_some_iff.mp H
      obtain ⟨⟨t248, t251⟩, A100, H⟩ := H
      replace H : (if t251 = 0 then (spykeep2_DomeTurns.j0 k a1 t248 ((t248.length : Int) == 4096) t226 t227 t228 t229 0 0 false false t233 t234 t235 t236 t238 t239 t240 t241 t242 t243 t244 t245) else (spykeep2_DomeTurns.j0 k a1 t248 true t226 t227 t228 t229 0 0 false false t233 t234 t235 t236 t238 t239 t240 t241 t242 t243 t244 t245)) = some r := H
      have A10 := Aside0.mk A100
      clear A100
      have HC11 := Aside0.mk H
      clear H
      go_enter Try.func9, Try.ntmps9
      go_upto_region 10 with (first | ((with_reducible refine gate_callee (f := 10) rfl ?_); refine goesL_ (some 13) rfl rfl Try.func10 (by kernel_rfl) rfl #[] rfl (by (try simp only [List.map_toArray, List.map_cons, List.map_nil]); first | done | rfl | (simp only [List.length_drop, List.length_take]; rfl)) ?_; (with_reducible refine (spykeep2_turns.calls k  true _ A3.out).mono ?_); rintro e w12 ⟨rfl, hb⟩; refine ⟨_, rfl, ?_⟩; have n0_ := Aside0.mk (below_step (by exact HB.out) hb); clear HB; have HB := n0_; clear n0_; (try clear hb); (try clear hb2); (try clear hk); (try clear hi)) | ((with_reducible refine gate_dst (N := 17) rfl ?_); (try (refine gate_guard (by rfl) ?_; dsimp only)); refine box_event ?hg (N := 17) ?hd (cs := #[.slice A0 l0.length c0, .int .i64 0]) (t := 26) ?hr ?_; (case hd => rfl); (case hg => rfl); (case hr => first | (go_simp; done) | (go_simp; rfl)); intro gb225 hg w13 hbox hb; have n0_ := Aside0.mk (below_step (by exact HB.out) hb); have n1_ := Aside0.mk ((by rw [hg]; exact (below_size (by exact HB.out)) : w.heap.size ≤ gb225)); have n2_ := Aside0.mk ((by rw [hg]; exact (below_size (by exact HB.out)) : w.heap.size ≤ gb225)); have n3_ := Aside0.mk ((show IsS26 w w13 gb225 l0 0 from ⟨_, _, hbox, (by rw [hg]; exact (below_size (by exact HB.out)) : w.heap.size ≤ gb225), HR0.out⟩)); clear HB; have HB := n0_; have GW225 := n1_; have GE225 := n2_; have HI225 := n3_; clear n0_ n1_ n2_ n3_; clear hb hbox hg) | ((with_reducible refine gate_callee (f := 31) rfl ?_); refine goesL_ (some 18) rfl rfl Try.func31 (by kernel_rfl) rfl #[] rfl (by (try simp only [List.map_toArray, List.map_cons, List.map_nil]); first | done | rfl | (simp only [List.length_drop, List.length_take]; rfl)) ?_; (with_reducible refine (dome_Axis.calls  t226 t227 t228 t229 _ A5.out).mono ?_); rintro e w14 ⟨rfl, hb⟩; refine ⟨_, rfl, ?_⟩; have n0_ := Aside0.mk (IsS26.below (by exact HI225.out) hb); have n1_ := Aside0.mk (below_step (by exact HB.out) hb); clear HI225; clear HB; have HI225 := n0_; have HB := n1_; clear n0_ n1_; (try clear hb); (try clear hb2); (try clear hk); (try clear hi)) | ((with_reducible refine gate_dst (N := 6) rfl ?_); (try (refine gate_guard (by rfl) ?_; dsimp only)); refine box_event ?hg (N := 6) ?hd (cs := #[.int .i64 0, .int .i64 0, .int .i64 0, .int .i64 0]) (t := 60) ?hr ?_; (case hd => rfl); (case hg => rfl); (case hr => first | (go_simp; done) | (go_simp; rfl)); intro gb230 hg w15 hbox hb; have n0_ := Aside0.mk (IsS26.below (by exact HI225.out) hb); have n1_ := Aside0.mk (below_step (by exact HB.out) hb); have n2_ := Aside0.mk (hbox); have n3_ := Aside0.mk ((by rw [hg]; exact (below_size (by exact HB.out)) : w.heap.size ≤ gb230)); have n4_ := Aside0.mk ((by rw [hg]; exact (below_size (by exact HB.out)) : w.heap.size ≤ gb230)); have n5_ := Aside0.mk ((by rw [hg]; exact Nat.ne_of_lt (IsS26.lt (show IsS26 w _ gb225 l0 0 from by exact HI225.out)) : gb225 ≠ gb230)); have n6_ := Aside0.mk ((by rw [hg]; exact Nat.ne_of_gt (IsS26.lt (show IsS26 w _ gb225 l0 0 from by exact HI225.out)) : gb230 ≠ gb225)); clear HI225; clear HB; have HI225 := n0_; have HB := n1_; have BK230 := n2_; have GW230 := n3_; have GE230 := n4_; have NB225_230 := n5_; have NB230_225 := n6_; clear n0_ n1_ n2_ n3_ n4_ n5_ n6_; clear hb hbox hg; have hnb16 := NB230_225.out; have hnc16 := NB225_230.out; obtain ⟨hcz17_0, hcz17_1, hcz17_2, hcz17_3, hfz17_0, hfz17_1, hfz17_2, hfz17_3⟩ := tch4 BK230.out) | ((with_reducible refine gate_store (t := 60) (p := 6) rfl ?_); refine store_event (t := 60) (p := 6) (v := ?vo_w18) (w1 := ((((w15.setCell ⟨gb230, 0, none⟩ (.int .i64 t226)).setCell ⟨gb230, 1, none⟩ (.int .i64 t227)).setCell ⟨gb230, 2, none⟩ (.int .i64 t228)).setCell ⟨gb230, 3, none⟩ (.int .i64 t229))) ?hg ?ho ?hn ?hr ?_; (case ho => rfl); (case hg => rfl); (case hn => rfl); (case hr => first | (go_simp; done) | (go_simp; rfl)); intro w18 hw; have n0_ : Aside0 (w18.heap[gb230]? = some (.cells #[.int .i64 t226, .int .i64 t227, .int .i64 t228, .int .i64 t229] 60 (0, 0))) := ⟨(by rw [hw]; exact (by (with_reducible repeat (first | refine blk_drewN ?_ _ | refine blk_drew ?_ | refine blk_alloc ?_ _)); refine blk_put (cs := #[.int .i64 t226, .int .i64 t227, .int .i64 t228, .int .i64 0]) ?_ 3 _ rfl; (with_reducible repeat (first | refine blk_drewN ?_ _ | refine blk_drew ?_ | refine blk_alloc ?_ _)); refine blk_put (cs := #[.int .i64 t226, .int .i64 t227, .int .i64 0, .int .i64 0]) ?_ 2 _ rfl; (with_reducible repeat (first | refine blk_drewN ?_ _ | refine blk_drew ?_ | refine blk_alloc ?_ _)); refine blk_put (cs := #[.int .i64 t226, .int .i64 0, .int .i64 0, .int .i64 0]) ?_ 1 _ rfl; (with_reducible repeat (first | refine blk_drewN ?_ _ | refine blk_drew ?_ | refine blk_alloc ?_ _)); refine blk_put (cs := #[.int .i64 0, .int .i64 0, .int .i64 0, .int .i64 0]) ?_ 0 _ rfl; (with_reducible repeat (first | refine blk_drewN ?_ _ | refine blk_drew ?_ | refine blk_alloc ?_ _)); exact BK230.out))⟩; have n1_ : Aside0 (IsS26 w w18 gb225 l0 0) := ⟨(by rw [hw]; exact (by repeat (first | (with_reducible first | exact HI225.out | apply IsS26.alloc | apply IsS26.drewN | apply IsS26.drew | apply IsS26.set_1 | refine IsS26.far ?_ NB225_230.out _) | exact HI225.out)))⟩; have n2_ : Aside0 (Below w.heap.size w w18) := ⟨(by rw [hw]; exact (by repeat (first | (with_reducible first | exact HB.out | apply below_alloc | apply pw_below_drewN | apply below_drew1 | refine below_set ?_ (IsS26.ge HI225.out) | refine below_set ?_ GE230.out) | exact HB.out)))⟩; clear hw; clear BK230; clear HI225; clear HB; have BK230 := n0_; have HI225 := n1_; have HB := n2_; clear n0_ n1_ n2_; obtain ⟨hcz19_0, hcz19_1, hcz19_2, hcz19_3, hfz19_0, hfz19_1, hfz19_2, hfz19_3⟩ := tch4 BK230.out) | ((with_reducible refine gate_callee (f := 33) rfl ?_); refine goesL_ (some 21) rfl rfl Try.func33 (by kernel_rfl) rfl #[.pointer (some ⟨gb225, 0, none⟩), .agg #[.int .i64 t226, .int .i64 t227, .int .i64 t228, .int .i64 t229]] rfl (by (try simp only [List.map_toArray, List.map_cons, List.map_nil]); first | done | rfl | (simp only [List.length_drop, List.length_take]; rfl)) ?_; (with_reducible refine (spymake_Stream_Inside.calls gb225 l0 0 t226 t227 t228 t229 t231 t232 w _ ?side1 ?side2 A6.out).mono ?_); (case side1 => exact HI225.out); (case side2 => exact HB.out); rintro e w20 ⟨rfl, hi, hb, hk⟩; refine ⟨_, rfl, ?_⟩; have n0_ := Aside0.mk (KeepBut.blk hk BK230.out NB230_225.out (by simp)); have n1_ := Aside0.mk (hb); have n2_ := Aside0.mk (hi); clear BK230; clear HB; clear HI225; have BK230 := n0_; have HB := n1_; have HI225 := n2_; clear n0_ n1_ n2_; (try clear hb); (try clear hb2); (try clear hk); (try clear hi)) | ((with_reducible refine gate_callee (f := 32) rfl ?_); refine goesL_ (some 22) rfl rfl Try.func32 (by kernel_rfl) rfl #[.int .i64 t231] rfl (by (try simp only [List.map_toArray, List.map_cons, List.map_nil]); first | done | rfl | (simp only [List.length_drop, List.length_take]; rfl)) ?_; (with_reducible refine (axis_Rest.calls t231 t233 t234 t235 t236 _ A7.out).mono ?_); rintro e w21 ⟨rfl, hb⟩; refine ⟨_, rfl, ?_⟩; have n0_ := Aside0.mk (IsS26.below (by exact HI225.out) hb); have n1_ := Aside0.mk (blk_below BK230.out hb); have n2_ := Aside0.mk (below_step (by exact HB.out) hb); clear HI225; clear BK230; clear HB; have HI225 := n0_; have BK230 := n1_; have HB := n2_; clear n0_ n1_ n2_; (try clear hb); (try clear hb2); (try clear hk); (try clear hi)) | ((with_reducible refine gate_dst (N := 7) rfl ?_); (try (refine gate_guard (by rfl) ?_; dsimp only)); refine box_event ?hg (N := 7) ?hd (cs := #[.int .i64 0, .int .i64 0, .bool false, .bool false, .int .i64 0, .int .i64 0, .int .i64 0, .bool false]) (t := 30) ?hr ?_; (case hd => rfl); (case hg => rfl); (case hr => first | (go_simp; done) | (go_simp; rfl)); intro gb237 hg w22 hbox hb; have n0_ := Aside0.mk (IsS26.below (by exact HI225.out) hb); have n1_ := Aside0.mk (blk_below BK230.out hb); have n2_ := Aside0.mk (below_step (by exact HB.out) hb); have n3_ := Aside0.mk (hbox); have n4_ := Aside0.mk ((by rw [hg]; exact (below_size (by exact HB.out)) : w.heap.size ≤ gb237)); have n5_ := Aside0.mk ((by rw [hg]; exact (below_size (by exact HB.out)) : w.heap.size ≤ gb237)); have n6_ := Aside0.mk ((by rw [hg]; exact Nat.ne_of_lt (blk_lt BK230.out) : gb230 ≠ gb237)); have n7_ := Aside0.mk ((by rw [hg]; exact Nat.ne_of_gt (blk_lt BK230.out) : gb237 ≠ gb230)); have n8_ := Aside0.mk ((by rw [hg]; exact Nat.ne_of_lt (IsS26.lt (show IsS26 w _ gb225 l0 t232 from by exact HI225.out)) : gb225 ≠ gb237)); have n9_ := Aside0.mk ((by rw [hg]; exact Nat.ne_of_gt (IsS26.lt (show IsS26 w _ gb225 l0 t232 from by exact HI225.out)) : gb237 ≠ gb225)); clear HI225; clear BK230; clear HB; have HI225 := n0_; have BK230 := n1_; have HB := n2_; have BK237 := n3_; have GW237 := n4_; have GE237 := n5_; have NB230_237 := n6_; have NB237_230 := n7_; have NB225_237 := n8_; have NB237_225 := n9_; clear n0_ n1_ n2_ n3_ n4_ n5_ n6_ n7_ n8_ n9_; clear hb hbox hg; have hnb23 := NB237_230.out; have hnc23 := NB230_237.out; have hnb24 := NB237_225.out; have hnc24 := NB225_237.out; obtain ⟨hcz25_0, hcz25_1, hcz25_2, hcz25_3, hcz25_4, hcz25_5, hcz25_6, hcz25_7, hfz25_0, hfz25_1, hfz25_2, hfz25_3, hfz25_4, hfz25_5, hfz25_6, hfz25_7⟩ := tch8 BK237.out) | ((with_reducible refine gate_store (t := 30) (p := 7) rfl ?_); refine store_event (t := 30) (p := 7) (v := ?vo_w26) (w1 := ((((((((w22.setCell ⟨gb237, 0, none⟩ (.int .i64 0)).setCell ⟨gb237, 1, none⟩ (.int .i64 0)).setCell ⟨gb237, 2, none⟩ (.bool false)).setCell ⟨gb237, 3, none⟩ (.bool false)).setCell ⟨gb237, 4, none⟩ (.int .i64 t233)).setCell ⟨gb237, 5, none⟩ (.int .i64 t234)).setCell ⟨gb237, 6, none⟩ (.int .i64 t235)).setCell ⟨gb237, 7, none⟩ (.bool t236))) ?hg ?ho ?hn ?hr ?_; (case ho => rfl); (case hg => rfl); (case hn => rfl); (case hr => first | (go_simp; done) | (go_simp; rfl)); intro w26 hw; have n0_ : Aside0 (w26.heap[gb230]? = some (.cells #[.int .i64 t226, .int .i64 t227, .int .i64 t228, .int .i64 t229] 60 (0, 0))) := ⟨(by rw [hw]; exact (by (with_reducible repeat (first | refine blk_drewN ?_ _ | refine blk_drew ?_ | refine blk_alloc ?_ _)); refine blk_far ?_ NB230_237.out _; (with_reducible repeat (first | refine blk_drewN ?_ _ | refine blk_drew ?_ | refine blk_alloc ?_ _)); refine blk_far ?_ NB230_237.out _; (with_reducible repeat (first | refine blk_drewN ?_ _ | refine blk_drew ?_ | refine blk_alloc ?_ _)); refine blk_far ?_ NB230_237.out _; (with_reducible repeat (first | refine blk_drewN ?_ _ | refine blk_drew ?_ | refine blk_alloc ?_ _)); refine blk_far ?_ NB230_237.out _; (with_reducible repeat (first | refine blk_drewN ?_ _ | refine blk_drew ?_ | refine blk_alloc ?_ _)); refine blk_far ?_ NB230_237.out _; (with_reducible repeat (first | refine blk_drewN ?_ _ | refine blk_drew ?_ | refine blk_alloc ?_ _)); refine blk_far ?_ NB230_237.out _; (with_reducible repeat (first | refine blk_drewN ?_ _ | refine blk_drew ?_ | refine blk_alloc ?_ _)); refine blk_far ?_ NB230_237.out _; (with_reducible repeat (first | refine blk_drewN ?_ _ | refine blk_drew ?_ | refine blk_alloc ?_ _)); refine blk_far ?_ NB230_237.out _; (with_reducible repeat (first | refine blk_drewN ?_ _ | refine blk_drew ?_ | refine blk_alloc ?_ _)); exact BK230.out))⟩; have n1_ : Aside0 (w26.heap[gb237]? = some (.cells #[.int .i64 0, .int .i64 0, .bool false, .bool false, .int .i64 t233, .int .i64 t234, .int .i64 t235, .bool t236] 30 (0, 0))) := ⟨(by rw [hw]; exact (by (with_reducible repeat (first | refine blk_drewN ?_ _ | refine blk_drew ?_ | refine blk_alloc ?_ _)); refine blk_put (cs := #[.int .i64 0, .int .i64 0, .bool false, .bool false, .int .i64 t233, .int .i64 t234, .int .i64 t235, .bool false]) ?_ 7 _ rfl; (with_reducible repeat (first | refine blk_drewN ?_ _ | refine blk_drew ?_ | refine blk_alloc ?_ _)); refine blk_put (cs := #[.int .i64 0, .int .i64 0, .bool false, .bool false, .int .i64 t233, .int .i64 t234, .int .i64 0, .bool false]) ?_ 6 _ rfl; (with_reducible repeat (first | refine blk_drewN ?_ _ | refine blk_drew ?_ | refine blk_alloc ?_ _)); refine blk_put (cs := #[.int .i64 0, .int .i64 0, .bool false, .bool false, .int .i64 t233, .int .i64 0, .int .i64 0, .bool false]) ?_ 5 _ rfl; (with_reducible repeat (first | refine blk_drewN ?_ _ | refine blk_drew ?_ | refine blk_alloc ?_ _)); refine blk_put (cs := #[.int .i64 0, .int .i64 0, .bool false, .bool false, .int .i64 0, .int .i64 0, .int .i64 0, .bool false]) ?_ 4 _ rfl; (with_reducible repeat (first | refine blk_drewN ?_ _ | refine blk_drew ?_ | refine blk_alloc ?_ _)); refine blk_put (cs := #[.int .i64 0, .int .i64 0, .bool false, .bool false, .int .i64 0, .int .i64 0, .int .i64 0, .bool false]) ?_ 3 _ rfl; (with_reducible repeat (first | refine blk_drewN ?_ _ | refine blk_drew ?_ | refine blk_alloc ?_ _)); refine blk_put (cs := #[.int .i64 0, .int .i64 0, .bool false, .bool false, .int .i64 0, .int .i64 0, .int .i64 0, .bool false]) ?_ 2 _ rfl; (with_reducible repeat (first | refine blk_drewN ?_ _ | refine blk_drew ?_ | refine blk_alloc ?_ _)); refine blk_put (cs := #[.int .i64 0, .int .i64 0, .bool false, .bool false, .int .i64 0, .int .i64 0, .int .i64 0, .bool false]) ?_ 1 _ rfl; (with_reducible repeat (first | refine blk_drewN ?_ _ | refine blk_drew ?_ | refine blk_alloc ?_ _)); refine blk_put (cs := #[.int .i64 0, .int .i64 0, .bool false, .bool false, .int .i64 0, .int .i64 0, .int .i64 0, .bool false]) ?_ 0 _ rfl; (with_reducible repeat (first | refine blk_drewN ?_ _ | refine blk_drew ?_ | refine blk_alloc ?_ _)); exact BK237.out))⟩; have n2_ : Aside0 (IsS26 w w26 gb225 l0 t232) := ⟨(by rw [hw]; exact (by repeat (first | (with_reducible first | exact HI225.out | apply IsS26.alloc | apply IsS26.drewN | apply IsS26.drew | apply IsS26.set_1 | refine IsS26.far ?_ NB225_230.out _ | refine IsS26.far ?_ NB225_237.out _) | exact HI225.out)))⟩; have n3_ : Aside0 (Below w.heap.size w w26) := ⟨(by rw [hw]; exact (by repeat (first | (with_reducible first | exact HB.out | apply below_alloc | apply pw_below_drewN | apply below_drew1 | refine below_set ?_ (IsS26.ge HI225.out) | refine below_set ?_ GE230.out | refine below_set ?_ GE237.out) | exact HB.out)))⟩; clear hw; clear BK230; clear BK237; clear HI225; clear HB; have BK230 := n0_; have BK237 := n1_; have HI225 := n2_; have HB := n3_; clear n0_ n1_ n2_ n3_; obtain ⟨hcz27_0, hcz27_1, hcz27_2, hcz27_3, hcz27_4, hcz27_5, hcz27_6, hcz27_7, hfz27_0, hfz27_1, hfz27_2, hfz27_3, hfz27_4, hfz27_5, hfz27_6, hfz27_7⟩ := tch8 BK237.out) | ((with_reducible refine gate_callee (f := 28) rfl ?_); refine goesL_ (some 27) rfl rfl Try.func28 (by kernel_rfl) rfl #[.agg #[.int .i64 0, .int .i64 0, .bool false, .bool false, .int .i64 t233, .int .i64 t234, .int .i64 t235, .bool t236], .int .i64 a1] rfl (by (try simp only [List.map_toArray, List.map_cons, List.map_nil]); first | done | rfl | (simp only [List.length_drop, List.length_take]; rfl)) ?_; (with_reducible refine (dome_Rotate.calls k 0 0 false false t233 t234 t235 t236 a1 t238 t239 t240 t241 t242 t243 t244 t245 t246 _ A8.out).mono ?_); rintro e w28 ⟨rfl, hb⟩; refine ⟨_, rfl, ?_⟩; have n0_ := Aside0.mk (IsS26.below (by exact HI225.out) hb); have n1_ := Aside0.mk (blk_below BK230.out hb); have n2_ := Aside0.mk (blk_below BK237.out hb); have n3_ := Aside0.mk (below_step (by exact HB.out) hb); clear HI225; clear BK230; clear BK237; clear HB; have HI225 := n0_; have BK230 := n1_; have BK237 := n2_; have HB := n3_; clear n0_ n1_ n2_ n3_; (try clear hb); (try clear hb2); (try clear hk); (try clear hi)) | ((with_reducible refine gate_dst (N := 8) rfl ?_); (try (refine gate_guard (by rfl) ?_; dsimp only)); refine box_event ?hg (N := 8) ?hd (cs := #[.int .i64 0, .int .i64 0, .bool false, .bool false, .int .i64 0, .int .i64 0, .int .i64 0, .bool false]) (t := 30) ?hr ?_; (case hd => rfl); (case hg => rfl); (case hr => first | (go_simp; done) | (go_simp; rfl)); intro gb247 hg w29 hbox hb; have n0_ := Aside0.mk (IsS26.below (by exact HI225.out) hb); have n1_ := Aside0.mk (blk_below BK230.out hb); have n2_ := Aside0.mk (blk_below BK237.out hb); have n3_ := Aside0.mk (below_step (by exact HB.out) hb); have n4_ := Aside0.mk (hbox); have n5_ := Aside0.mk ((by rw [hg]; exact (below_size (by exact HB.out)) : w.heap.size ≤ gb247)); have n6_ := Aside0.mk ((by rw [hg]; exact (below_size (by exact HB.out)) : w.heap.size ≤ gb247)); have n7_ := Aside0.mk ((by rw [hg]; exact Nat.ne_of_lt (blk_lt BK230.out) : gb230 ≠ gb247)); have n8_ := Aside0.mk ((by rw [hg]; exact Nat.ne_of_gt (blk_lt BK230.out) : gb247 ≠ gb230)); have n9_ := Aside0.mk ((by rw [hg]; exact Nat.ne_of_lt (blk_lt BK237.out) : gb237 ≠ gb247)); have n10_ := Aside0.mk ((by rw [hg]; exact Nat.ne_of_gt (blk_lt BK237.out) : gb247 ≠ gb237)); have n11_ := Aside0.mk ((by rw [hg]; exact Nat.ne_of_lt (IsS26.lt (show IsS26 w _ gb225 l0 t232 from by exact HI225.out)) : gb225 ≠ gb247)); have n12_ := Aside0.mk ((by rw [hg]; exact Nat.ne_of_gt (IsS26.lt (show IsS26 w _ gb225 l0 t232 from by exact HI225.out)) : gb247 ≠ gb225)); clear HI225; clear BK230; clear BK237; clear HB; have HI225 := n0_; have BK230 := n1_; have BK237 := n2_; have HB := n3_; have BK247 := n4_; have GW247 := n5_; have GE247 := n6_; have NB230_247 := n7_; have NB247_230 := n8_; have NB237_247 := n9_; have NB247_237 := n10_; have NB225_247 := n11_; have NB247_225 := n12_; clear n0_ n1_ n2_ n3_ n4_ n5_ n6_ n7_ n8_ n9_ n10_ n11_ n12_; clear hb hbox hg; have hnb30 := NB247_230.out; have hnc30 := NB230_247.out; have hnb31 := NB247_237.out; have hnc31 := NB237_247.out; have hnb32 := NB247_225.out; have hnc32 := NB225_247.out; obtain ⟨hcz33_0, hcz33_1, hcz33_2, hcz33_3, hcz33_4, hcz33_5, hcz33_6, hcz33_7, hfz33_0, hfz33_1, hfz33_2, hfz33_3, hfz33_4, hfz33_5, hfz33_6, hfz33_7⟩ := tch8 BK247.out) | ((with_reducible refine gate_store (t := 30) (p := 8) rfl ?_); refine store_event (t := 30) (p := 8) (v := ?vo_w34) (w1 := ((((((((w29.setCell ⟨gb247, 0, none⟩ (.int .i64 t238)).setCell ⟨gb247, 1, none⟩ (.int .i64 t239)).setCell ⟨gb247, 2, none⟩ (.bool t240)).setCell ⟨gb247, 3, none⟩ (.bool t241)).setCell ⟨gb247, 4, none⟩ (.int .i64 t242)).setCell ⟨gb247, 5, none⟩ (.int .i64 t243)).setCell ⟨gb247, 6, none⟩ (.int .i64 t244)).setCell ⟨gb247, 7, none⟩ (.bool t245))) ?hg ?ho ?hn ?hr ?_; (case ho => rfl); (case hg => rfl); (case hn => rfl); (case hr => first | (go_simp; done) | (go_simp; rfl)); intro w34 hw; have n0_ : Aside0 (w34.heap[gb230]? = some (.cells #[.int .i64 t226, .int .i64 t227, .int .i64 t228, .int .i64 t229] 60 (0, 0))) := ⟨(by rw [hw]; exact (by (with_reducible repeat (first | refine blk_drewN ?_ _ | refine blk_drew ?_ | refine blk_alloc ?_ _)); refine blk_far ?_ NB230_247.out _; (with_reducible repeat (first | refine blk_drewN ?_ _ | refine blk_drew ?_ | refine blk_alloc ?_ _)); refine blk_far ?_ NB230_247.out _; (with_reducible repeat (first | refine blk_drewN ?_ _ | refine blk_drew ?_ | refine blk_alloc ?_ _)); refine blk_far ?_ NB230_247.out _; (with_reducible repeat (first | refine blk_drewN ?_ _ | refine blk_drew ?_ | refine blk_alloc ?_ _)); refine blk_far ?_ NB230_247.out _; (with_reducible repeat (first | refine blk_drewN ?_ _ | refine blk_drew ?_ | refine blk_alloc ?_ _)); refine blk_far ?_ NB230_247.out _; (with_reducible repeat (first | refine blk_drewN ?_ _ | refine blk_drew ?_ | refine blk_alloc ?_ _)); refine blk_far ?_ NB230_247.out _; (with_reducible repeat (first | refine blk_drewN ?_ _ | refine blk_drew ?_ | refine blk_alloc ?_ _)); refine blk_far ?_ NB230_247.out _; (with_reducible repeat (first | refine blk_drewN ?_ _ | refine blk_drew ?_ | refine blk_alloc ?_ _)); refine blk_far ?_ NB230_247.out _; (with_reducible repeat (first | refine blk_drewN ?_ _ | refine blk_drew ?_ | refine blk_alloc ?_ _)); exact BK230.out))⟩; have n1_ : Aside0 (w34.heap[gb237]? = some (.cells #[.int .i64 0, .int .i64 0, .bool false, .bool false, .int .i64 t233, .int .i64 t234, .int .i64 t235, .bool t236] 30 (0, 0))) := ⟨(by rw [hw]; exact (by (with_reducible repeat (first | refine blk_drewN ?_ _ | refine blk_drew ?_ | refine blk_alloc ?_ _)); refine blk_far ?_ NB237_247.out _; (with_reducible repeat (first | refine blk_drewN ?_ _ | refine blk_drew ?_ | refine blk_alloc ?_ _)); refine blk_far ?_ NB237_247.out _; (with_reducible repeat (first | refine blk_drewN ?_ _ | refine blk_drew ?_ | refine blk_alloc ?_ _)); refine blk_far ?_ NB237_247.out _; (with_reducible repeat (first | refine blk_drewN ?_ _ | refine blk_drew ?_ | refine blk_alloc ?_ _)); refine blk_far ?_ NB237_247.out _; (with_reducible repeat (first | refine blk_drewN ?_ _ | refine blk_drew ?_ | refine blk_alloc ?_ _)); refine blk_far ?_ NB237_247.out _; (with_reducible repeat (first | refine blk_drewN ?_ _ | refine blk_drew ?_ | refine blk_alloc ?_ _)); refine blk_far ?_ NB237_247.out _; (with_reducible repeat (first | refine blk_drewN ?_ _ | refine blk_drew ?_ | refine blk_alloc ?_ _)); refine blk_far ?_ NB237_247.out _; (with_reducible repeat (first | refine blk_drewN ?_ _ | refine blk_drew ?_ | refine blk_alloc ?_ _)); refine blk_far ?_ NB237_247.out _; (with_reducible repeat (first | refine blk_drewN ?_ _ | refine blk_drew ?_ | refine blk_alloc ?_ _)); exact BK237.out))⟩; have n2_ : Aside0 (w34.heap[gb247]? = some (.cells #[.int .i64 t238, .int .i64 t239, .bool t240, .bool t241, .int .i64 t242, .int .i64 t243, .int .i64 t244, .bool t245] 30 (0, 0))) := ⟨(by rw [hw]; exact (by (with_reducible repeat (first | refine blk_drewN ?_ _ | refine blk_drew ?_ | refine blk_alloc ?_ _)); refine blk_put (cs := #[.int .i64 t238, .int .i64 t239, .bool t240, .bool t241, .int .i64 t242, .int .i64 t243, .int .i64 t244, .bool false]) ?_ 7 _ rfl; (with_reducible repeat (first | refine blk_drewN ?_ _ | refine blk_drew ?_ | refine blk_alloc ?_ _)); refine blk_put (cs := #[.int .i64 t238, .int .i64 t239, .bool t240, .bool t241, .int .i64 t242, .int .i64 t243, .int .i64 0, .bool false]) ?_ 6 _ rfl; (with_reducible repeat (first | refine blk_drewN ?_ _ | refine blk_drew ?_ | refine blk_alloc ?_ _)); refine blk_put (cs := #[.int .i64 t238, .int .i64 t239, .bool t240, .bool t241, .int .i64 t242, .int .i64 0, .int .i64 0, .bool false]) ?_ 5 _ rfl; (with_reducible repeat (first | refine blk_drewN ?_ _ | refine blk_drew ?_ | refine blk_alloc ?_ _)); refine blk_put (cs := #[.int .i64 t238, .int .i64 t239, .bool t240, .bool t241, .int .i64 0, .int .i64 0, .int .i64 0, .bool false]) ?_ 4 _ rfl; (with_reducible repeat (first | refine blk_drewN ?_ _ | refine blk_drew ?_ | refine blk_alloc ?_ _)); refine blk_put (cs := #[.int .i64 t238, .int .i64 t239, .bool t240, .bool false, .int .i64 0, .int .i64 0, .int .i64 0, .bool false]) ?_ 3 _ rfl; (with_reducible repeat (first | refine blk_drewN ?_ _ | refine blk_drew ?_ | refine blk_alloc ?_ _)); refine blk_put (cs := #[.int .i64 t238, .int .i64 t239, .bool false, .bool false, .int .i64 0, .int .i64 0, .int .i64 0, .bool false]) ?_ 2 _ rfl; (with_reducible repeat (first | refine blk_drewN ?_ _ | refine blk_drew ?_ | refine blk_alloc ?_ _)); refine blk_put (cs := #[.int .i64 t238, .int .i64 0, .bool false, .bool false, .int .i64 0, .int .i64 0, .int .i64 0, .bool false]) ?_ 1 _ rfl; (with_reducible repeat (first | refine blk_drewN ?_ _ | refine blk_drew ?_ | refine blk_alloc ?_ _)); refine blk_put (cs := #[.int .i64 0, .int .i64 0, .bool false, .bool false, .int .i64 0, .int .i64 0, .int .i64 0, .bool false]) ?_ 0 _ rfl; (with_reducible repeat (first | refine blk_drewN ?_ _ | refine blk_drew ?_ | refine blk_alloc ?_ _)); exact BK247.out))⟩; have n3_ : Aside0 (IsS26 w w34 gb225 l0 t232) := ⟨(by rw [hw]; exact (by repeat (first | (with_reducible first | exact HI225.out | apply IsS26.alloc | apply IsS26.drewN | apply IsS26.drew | apply IsS26.set_1 | refine IsS26.far ?_ NB225_230.out _ | refine IsS26.far ?_ NB225_237.out _ | refine IsS26.far ?_ NB225_247.out _) | exact HI225.out)))⟩; have n4_ : Aside0 (Below w.heap.size w w34) := ⟨(by rw [hw]; exact (by repeat (first | (with_reducible first | exact HB.out | apply below_alloc | apply pw_below_drewN | apply below_drew1 | refine below_set ?_ (IsS26.ge HI225.out) | refine below_set ?_ GE230.out | refine below_set ?_ GE237.out | refine below_set ?_ GE247.out) | exact HB.out)))⟩; clear hw; clear BK230; clear BK237; clear BK247; clear HI225; clear HB; have BK230 := n0_; have BK237 := n1_; have BK247 := n2_; have HI225 := n3_; have HB := n4_; clear n0_ n1_ n2_ n3_ n4_; obtain ⟨hcz35_0, hcz35_1, hcz35_2, hcz35_3, hfz35_0, hfz35_1, hfz35_2, hfz35_3⟩ := tch4 BK230.out; obtain ⟨hcz36_0, hcz36_1, hcz36_2, hcz36_3, hcz36_4, hcz36_5, hcz36_6, hcz36_7, hfz36_0, hfz36_1, hfz36_2, hfz36_3, hfz36_4, hfz36_5, hfz36_6, hfz36_7⟩ := tch8 BK247.out) | ((with_reducible refine gate_callee (f := 34) rfl ?_); refine goesL_ (some 36) rfl rfl Try.func34 (by kernel_rfl) rfl #[.agg #[.int .i64 t226, .int .i64 t227, .int .i64 t228, .int .i64 t229], .agg #[.int .i64 t242, .int .i64 t243, .int .i64 t244, .bool t245], .int .i64 4096] rfl (by (try simp only [List.map_toArray, List.map_cons, List.map_nil]); first | done | rfl | (simp only [List.length_drop, List.length_take]; rfl)) ?_; (with_reducible refine (axis_Run.calls k t226 t227 t228 t229 t242 t243 t244 t245 4096 t248 t251 _ A10.out).mono ?_); rintro e w37 ⟨v249, rfl, ho0, hb⟩; refine ⟨_, rfl, ?_⟩; have n0_ := Aside0.mk (Kd.R_lower ho0 (below_size (by exact HB.out))); have n1_ := Aside0.mk (IsS26.below (by exact HI225.out) hb); have n2_ := Aside0.mk (blk_below BK230.out hb); have n3_ := Aside0.mk (blk_below BK237.out hb); have n4_ := Aside0.mk (blk_below BK247.out hb); have n5_ := Aside0.mk (below_step (by exact HB.out) hb); clear HI225; clear BK230; clear BK237; clear BK247; clear HB; have HO250 := n0_; have HI225 := n1_; have BK230 := n2_; have BK237 := n3_; have BK247 := n4_; have HB := n5_; clear n0_ n1_ n2_ n3_ n4_ n5_; (try clear hb); (try clear hb2); (try clear hk); (try clear hi); (try clear ho0)))
      (try simp only [Act.put, List.setIfInBounds_toArray, List.set_cons_zero, List.set_cons_succ])
      go_cut [45] (fun v45 wc => ∃ (kq : Nat) (x45_10 : Bool), v45 = .bool x45_10 ∧ Aside0 (spykeep2_DomeTurns.j0 kq a1 t248 x45_10 t226 t227 t228 t229 0 0 false false t233 t234 t235 t236 t238 t239 t240 t241 t242 t243 t244 t245 = some r) ∧ Aside0 (kq ≤ k) ∧ Aside0 (Kd.R k28 28 wc w.heap.size (fun _ => True) v249 t248) ∧ Aside0 (wc.heap[gb230]? = some (.cells #[.int .i64 t226, .int .i64 t227, .int .i64 t228, .int .i64 t229] 60 (0, 0))) ∧ Aside0 (wc.heap[gb237]? = some (.cells #[.int .i64 0, .int .i64 0, .bool false, .bool false, .int .i64 t233, .int .i64 t234, .int .i64 t235, .bool t236] 30 (0, 0))) ∧ Aside0 (wc.heap[gb247]? = some (.cells #[.int .i64 t238, .int .i64 t239, .bool t240, .bool t241, .int .i64 t242, .int .i64 t243, .int .i64 t244, .bool t245] 30 (0, 0))) ∧ Aside0 (Below w.heap.size w wc))
      case first =>
        have H := HC11.out
        clear HC11
        by_cases c38 : t251 = 0
        · rw [if_pos c38] at H
          have c38b0 : (t251 == 0) = true := beq_iff_eq.mpr c38
          have c38b1 : (t251 != 0) = false := bne_eq_false_iff_eq.mpr c38
          clear c38
          (first | rw [c38b0] | (simp only [i64_w, i32_w]; rw [c38b0]) | skip)
          have H' := Aside0.mk H
          clear H
          obtain ⟨Ao39, co39, eo39⟩ := Kd.R_slice HO250.out
          subst eo39
          go_wp2
          go_meet
          case rel => exact ⟨_, (((t248.length : Int) == 4096)), (by first | rfl | (simp; done) | (simp [*]; done)), H', ⟨by first | omega | exact Nat.le_refl _⟩, ⟨by (with_reducible repeat (first | apply Kd.R_alloc | apply Kd.R_drewN | apply Kd.R_drew)); exact HO250.out⟩, ⟨by exact BK230.out⟩, ⟨by exact BK237.out⟩, ⟨by exact BK247.out⟩, ⟨by exact HB.out⟩⟩
        · rw [if_neg c38] at H
          have c38b0 : (t251 == 0) = false := beq_eq_false_iff_ne.mpr c38
          have c38b1 : (t251 != 0) = true := bne_iff_ne.mpr c38
          (first | rw [c38b0] | (simp only [i64_w, i32_w]; rw [c38b0]) | skip)
          have H' := Aside0.mk H
          clear H
          go_wp2
          go_meet
          case rel => exact ⟨_, (true), (by first | rfl | (simp; done) | (simp [*]; done)), H', ⟨by first | omega | exact Nat.le_refl _⟩, ⟨by (with_reducible repeat (first | apply Kd.R_alloc | apply Kd.R_drewN | apply Kd.R_drew)); exact HO250.out⟩, ⟨by exact BK230.out⟩, ⟨by exact BK237.out⟩, ⟨by exact BK247.out⟩, ⟨by exact HB.out⟩⟩
      case rest =>
        clear HC11
        try clear c1
        try clear c2
        try clear p2
        try clear c3
        try clear c4
        try clear c9
        try clear c9b0
        try clear c9b1
        try clear c10
        try clear c16
        try clear c23
        try clear c24
        try clear c28
        try clear c30
        try clear c31
        try clear c32
        try clear c33
        try clear c34
        try clear c38
        try clear c38b0
        try clear c38b1
        try clear hcz17_0
        try clear hcz17_1
        try clear hcz17_2
        try clear hcz17_3
        try clear hcz19_0
        try clear hcz19_1
        try clear hcz19_2
        try clear hcz19_3
        try clear hcz25_0
        try clear hcz25_1
        try clear hcz25_2
        try clear hcz25_3
        try clear hcz25_4
        try clear hcz25_5
        try clear hcz25_6
        try clear hcz25_7
        try clear hcz27_0
        try clear hcz27_1
        try clear hcz27_2
        try clear hcz27_3
        try clear hcz27_4
        try clear hcz27_5
        try clear hcz27_6
        try clear hcz27_7
        try clear hcz33_0
        try clear hcz33_1
        try clear hcz33_2
        try clear hcz33_3
        try clear hcz33_4
        try clear hcz33_5
        try clear hcz33_6
        try clear hcz33_7
        try clear hcz35_0
        try clear hcz35_1
        try clear hcz35_2
        try clear hcz35_3
        try clear hcz36_0
        try clear hcz36_1
        try clear hcz36_2
        try clear hcz36_3
        try clear hcz36_4
        try clear hcz36_5
        try clear hcz36_6
        try clear hcz36_7
        try clear hfz17_0
        try clear hfz17_1
        try clear hfz17_2
        try clear hfz17_3
        try clear hfz19_0
        try clear hfz19_1
        try clear hfz19_2
        try clear hfz19_3
        try clear hfz25_0
        try clear hfz25_1
        try clear hfz25_2
        try clear hfz25_3
        try clear hfz25_4
        try clear hfz25_5
        try clear hfz25_6
        try clear hfz25_7
        try clear hfz27_0
        try clear hfz27_1
        try clear hfz27_2
        try clear hfz27_3
        try clear hfz27_4
        try clear hfz27_5
        try clear hfz27_6
        try clear hfz27_7
        try clear hfz33_0
        try clear hfz33_1
        try clear hfz33_2
        try clear hfz33_3
        try clear hfz33_4
        try clear hfz33_5
        try clear hfz33_6
        try clear hfz33_7
        try clear hfz35_0
        try clear hfz35_1
        try clear hfz35_2
        try clear hfz35_3
        try clear hfz36_0
        try clear hfz36_1
        try clear hfz36_2
        try clear hfz36_3
        try clear hfz36_4
        try clear hfz36_5
        try clear hfz36_6
        try clear hfz36_7
        obtain ⟨kq, x45_10, rfl, HA, HJ10, HO_10, BK230, BK237, BK247, HB⟩ := hcut
        cases kq with
        | zero => exact absurd HA.out (by simp [spykeep2_DomeTurns.j0])
        | succ kj10 =>
          have H := HA.out
          clear HA
          simp only [spykeep2_DomeTurns.j0] at H
          by_cases c40 : x45_10 = true
          · subst c40
            have H1 : (some false) = some r := by rw [if_pos rfl] at H; exact H
            clear H
            have H := H1
            clear H1
            obtain rfl := Option.some.inj H
            go_wp2
            go_ret
            exact ⟨by first | rfl | (simp [errW_none, errW_some] <;> rfl) | (simp [*, errW_none, errW_some] <;> rfl), by exact HB.out⟩
          · replace c40 := Bool.eq_false_iff.mpr c40
            subst c40
            have H1 : (spykeep2_DomeTurns.l0 kj10 a1 (t248.length : Int) 0 t226 t227 t228 t229 0 0 false false t233 t234 t235 t236 t238 t239 t240 t241 t242 t243 t244 t245) = some r := by rw [if_neg (show ¬ (false = true) by decide)] at H; exact H
            clear H
            have H := H1
            clear H1
            have H' := Aside0.mk H
            clear H
            obtain ⟨Ao41, co41, eo41⟩ := Kd.R_slice HO_10.out
            subst eo41
            go_wp2
            go_loopg [48] kj10 (fun kq v48 w' => ∃ (x48_2 : Int) (x248000_2 : Int) (x248001_2 : Int) (x248002_2 : Bool) (x248003_2 : Bool) (x248004_2 : Int) (x248005_2 : Int) (x248006_2 : Int) (x248007_2 : Bool), v48 = .int .i64 x48_2 ∧ Aside0 (spykeep2_DomeTurns.l0 kq a1 (t248.length : Int) x48_2 t226 t227 t228 t229 0 0 false false t233 t234 t235 t236 x248000_2 x248001_2 x248002_2 x248003_2 x248004_2 x248005_2 x248006_2 x248007_2 = some r) ∧ Aside0 (kq ≤ kj10) ∧ Aside0 (w'.heap[gb230]? = some (.cells #[.int .i64 t226, .int .i64 t227, .int .i64 t228, .int .i64 t229] 60 (0, 0))) ∧ Aside0 (w'.heap[gb237]? = some (.cells #[.int .i64 0, .int .i64 0, .bool false, .bool false, .int .i64 t233, .int .i64 t234, .int .i64 t235, .bool t236] 30 (0, 0))) ∧ Aside0 (w'.heap[gb247]? = some (.cells #[.int .i64 x248000_2, .int .i64 x248001_2, .bool x248002_2, .bool x248003_2, .int .i64 x248004_2, .int .i64 x248005_2, .int .i64 x248006_2, .bool x248007_2] 30 (0, 0))) ∧ Aside0 (Below w.heap.size w w'))
            case atStart => exact ⟨(0), (t238), (t239), (t240), (t241), (t242), (t243), (t244), (t245), (by first | rfl | (simp; done) | (simp [*]; done)), H', ⟨Nat.le_refl _⟩, ⟨by exact BK230.out⟩, ⟨by exact BK237.out⟩, ⟨by exact BK247.out⟩, ⟨by exact HB.out⟩⟩
            case round =>
              clear H'
              try clear c1
              try clear c2
              try clear p2
              try clear c3
              try clear c4
              try clear c9
              try clear c9b0
              try clear c9b1
              try clear c10
              try clear c16
              try clear c23
              try clear c24
              try clear c28
              try clear c30
              try clear c31
              try clear c32
              try clear c33
              try clear c34
              try clear c38
              try clear c38b0
              try clear c38b1
              try clear c40
              try clear hcz17_0
              try clear hcz17_1
              try clear hcz17_2
              try clear hcz17_3
              try clear hcz19_0
              try clear hcz19_1
              try clear hcz19_2
              try clear hcz19_3
              try clear hcz25_0
              try clear hcz25_1
              try clear hcz25_2
              try clear hcz25_3
              try clear hcz25_4
              try clear hcz25_5
              try clear hcz25_6
              try clear hcz25_7
              try clear hcz27_0
              try clear hcz27_1
              try clear hcz27_2
              try clear hcz27_3
              try clear hcz27_4
              try clear hcz27_5
              try clear hcz27_6
              try clear hcz27_7
              try clear hcz33_0
              try clear hcz33_1
              try clear hcz33_2
              try clear hcz33_3
              try clear hcz33_4
              try clear hcz33_5
              try clear hcz33_6
              try clear hcz33_7
              try clear hcz35_0
              try clear hcz35_1
              try clear hcz35_2
              try clear hcz35_3
              try clear hcz36_0
              try clear hcz36_1
              try clear hcz36_2
              try clear hcz36_3
              try clear hcz36_4
              try clear hcz36_5
              try clear hcz36_6
              try clear hcz36_7
              try clear hfz17_0
              try clear hfz17_1
              try clear hfz17_2
              try clear hfz17_3
              try clear hfz19_0
              try clear hfz19_1
              try clear hfz19_2
              try clear hfz19_3
              try clear hfz25_0
              try clear hfz25_1
              try clear hfz25_2
              try clear hfz25_3
              try clear hfz25_4
              try clear hfz25_5
              try clear hfz25_6
              try clear hfz25_7
              try clear hfz27_0
              try clear hfz27_1
              try clear hfz27_2
              try clear hfz27_3
              try clear hfz27_4
              try clear hfz27_5
              try clear hfz27_6
              try clear hfz27_7
              try clear hfz33_0
              try clear hfz33_1
              try clear hfz33_2
              try clear hfz33_3
              try clear hfz33_4
              try clear hfz33_5
              try clear hfz33_6
              try clear hfz33_7
              try clear hfz35_0
              try clear hfz35_1
              try clear hfz35_2
              try clear hfz35_3
              try clear hfz36_0
              try clear hfz36_1
              try clear hfz36_2
              try clear hfz36_3
              try clear hfz36_4
              try clear hfz36_5
              try clear hfz36_6
              try clear hfz36_7
              try clear p2
              obtain ⟨x48_2, x248000_2, x248001_2, x248002_2, x248003_2, x248004_2, x248005_2, x248006_2, x248007_2, rfl, HA, HK2, BK230, BK237, BK247, HB⟩ := hrel
              cases gk with
              | zero => exact absurd HA.out (by simp [spykeep2_DomeTurns.l0])
              | succ k2 =>
                have H := HA.out
                clear HA
                simp only [spykeep2_DomeTurns.l0] at H
                by_cases c42 : x48_2 < (t248.length : Int)
                · rw [if_pos c42] at H
                  have c42b0 : decide (x48_2 < (t248.length : Int)) = true := decide_eq_true c42
                  clear c42
                  replace H := Option.bind_eq_some_iff.mp H
                  obtain ⟨⟨t252, t253, t254, t255, t256, t257, t258, t259⟩, A430, H⟩ := H
                  replace H : (spykeep2_DomeTurns.l0 k2 a1 (t248.length : Int) (wrap64 (x48_2 + 1)) t226 t227 t228 t229 0 0 false false t233 t234 t235 t236 t252 t253 t254 t255 t256 t257 t258 t259) = some r := H
                  have A43 := Aside0.mk A430
                  clear A430
                  have H' := Aside0.mk H
                  clear H
                  have hnb44 := NB247_230.out
                  have hnc44 := NB230_247.out
                  have hnb45 := NB247_237.out
                  have hnc45 := NB237_247.out
                  obtain ⟨hcz46_0, hcz46_1, hcz46_2, hcz46_3, hcz46_4, hcz46_5, hcz46_6, hcz46_7, hfz46_0, hfz46_1, hfz46_2, hfz46_3, hfz46_4, hfz46_5, hfz46_6, hfz46_7⟩ := tch8 BK247.out
                  go_wp2_with (first | ((with_reducible refine gate_callee (f := 13) rfl ?_); refine goesL_ (some 51) rfl rfl Try.func13 (by kernel_rfl) rfl #[.agg #[.int .i64 x248000_2, .int .i64 x248001_2, .bool x248002_2, .bool x248003_2, .int .i64 x248004_2, .int .i64 x248005_2, .int .i64 x248006_2, .bool x248007_2]] rfl (by (try simp only [List.map_toArray, List.map_cons, List.map_nil]); first | done | rfl | (simp only [List.length_drop, List.length_take]; rfl)) ?_; (with_reducible refine (dome_Step.calls k2 x248000_2 x248001_2 x248002_2 x248003_2 x248004_2 x248005_2 x248006_2 x248007_2 t252 t253 t254 t255 t256 t257 t258 t259 _ A43.out).mono ?_); rintro e w47 ⟨rfl, hb⟩; refine ⟨_, rfl, ?_⟩; have n0_ := Aside0.mk (blk_below BK230.out hb); have n1_ := Aside0.mk (blk_below BK237.out hb); have n2_ := Aside0.mk (blk_below BK247.out hb); have n3_ := Aside0.mk (below_step (by exact HB.out) hb); clear BK230; clear BK237; clear BK247; clear HB; have BK230 := n0_; have BK237 := n1_; have BK247 := n2_; have HB := n3_; clear n0_ n1_ n2_ n3_; (try clear hb); (try clear hb2); (try clear hk); (try clear hi); obtain ⟨hcz48_0, hcz48_1, hcz48_2, hcz48_3, hcz48_4, hcz48_5, hcz48_6, hcz48_7, hfz48_0, hfz48_1, hfz48_2, hfz48_3, hfz48_4, hfz48_5, hfz48_6, hfz48_7⟩ := tch8 BK247.out) | ((with_reducible refine gate_store (t := 30) (p := 8) rfl ?_); refine store_event (t := 30) (p := 8) (v := ?vo_w49) (w1 := ((((((((w47.setCell ⟨gb247, 0, none⟩ (.int .i64 t252)).setCell ⟨gb247, 1, none⟩ (.int .i64 t253)).setCell ⟨gb247, 2, none⟩ (.bool t254)).setCell ⟨gb247, 3, none⟩ (.bool t255)).setCell ⟨gb247, 4, none⟩ (.int .i64 t256)).setCell ⟨gb247, 5, none⟩ (.int .i64 t257)).setCell ⟨gb247, 6, none⟩ (.int .i64 t258)).setCell ⟨gb247, 7, none⟩ (.bool t259))) ?hg ?ho ?hn ?hr ?_; (case ho => rfl); (case hg => rfl); (case hn => rfl); (case hr => first | (go_simp; done) | (go_simp; rfl)); intro w49 hw; have n0_ : Aside0 (w49.heap[gb230]? = some (.cells #[.int .i64 t226, .int .i64 t227, .int .i64 t228, .int .i64 t229] 60 (0, 0))) := ⟨(by rw [hw]; exact (by (with_reducible repeat (first | refine blk_drewN ?_ _ | refine blk_drew ?_ | refine blk_alloc ?_ _)); refine blk_far ?_ NB230_247.out _; (with_reducible repeat (first | refine blk_drewN ?_ _ | refine blk_drew ?_ | refine blk_alloc ?_ _)); refine blk_far ?_ NB230_247.out _; (with_reducible repeat (first | refine blk_drewN ?_ _ | refine blk_drew ?_ | refine blk_alloc ?_ _)); refine blk_far ?_ NB230_247.out _; (with_reducible repeat (first | refine blk_drewN ?_ _ | refine blk_drew ?_ | refine blk_alloc ?_ _)); refine blk_far ?_ NB230_247.out _; (with_reducible repeat (first | refine blk_drewN ?_ _ | refine blk_drew ?_ | refine blk_alloc ?_ _)); refine blk_far ?_ NB230_247.out _; (with_reducible repeat (first | refine blk_drewN ?_ _ | refine blk_drew ?_ | refine blk_alloc ?_ _)); refine blk_far ?_ NB230_247.out _; (with_reducible repeat (first | refine blk_drewN ?_ _ | refine blk_drew ?_ | refine blk_alloc ?_ _)); refine blk_far ?_ NB230_247.out _; (with_reducible repeat (first | refine blk_drewN ?_ _ | refine blk_drew ?_ | refine blk_alloc ?_ _)); refine blk_far ?_ NB230_247.out _; (with_reducible repeat (first | refine blk_drewN ?_ _ | refine blk_drew ?_ | refine blk_alloc ?_ _)); exact BK230.out))⟩; have n1_ : Aside0 (w49.heap[gb237]? = some (.cells #[.int .i64 0, .int .i64 0, .bool false, .bool false, .int .i64 t233, .int .i64 t234, .int .i64 t235, .bool t236] 30 (0, 0))) := ⟨(by rw [hw]; exact (by (with_reducible repeat (first | refine blk_drewN ?_ _ | refine blk_drew ?_ | refine blk_alloc ?_ _)); refine blk_far ?_ NB237_247.out _; (with_reducible repeat (first | refine blk_drewN ?_ _ | refine blk_drew ?_ | refine blk_alloc ?_ _)); refine blk_far ?_ NB237_247.out _; (with_reducible repeat (first | refine blk_drewN ?_ _ | refine blk_drew ?_ | refine blk_alloc ?_ _)); refine blk_far ?_ NB237_247.out _; (with_reducible repeat (first | refine blk_drewN ?_ _ | refine blk_drew ?_ | refine blk_alloc ?_ _)); refine blk_far ?_ NB237_247.out _; (with_reducible repeat (first | refine blk_drewN ?_ _ | refine blk_drew ?_ | refine blk_alloc ?_ _)); refine blk_far ?_ NB237_247.out _; (with_reducible repeat (first | refine blk_drewN ?_ _ | refine blk_drew ?_ | refine blk_alloc ?_ _)); refine blk_far ?_ NB237_247.out _; (with_reducible repeat (first | refine blk_drewN ?_ _ | refine blk_drew ?_ | refine blk_alloc ?_ _)); refine blk_far ?_ NB237_247.out _; (with_reducible repeat (first | refine blk_drewN ?_ _ | refine blk_drew ?_ | refine blk_alloc ?_ _)); refine blk_far ?_ NB237_247.out _; (with_reducible repeat (first | refine blk_drewN ?_ _ | refine blk_drew ?_ | refine blk_alloc ?_ _)); exact BK237.out))⟩; have n2_ : Aside0 (w49.heap[gb247]? = some (.cells #[.int .i64 t252, .int .i64 t253, .bool t254, .bool t255, .int .i64 t256, .int .i64 t257, .int .i64 t258, .bool t259] 30 (0, 0))) := ⟨(by rw [hw]; exact (by (with_reducible repeat (first | refine blk_drewN ?_ _ | refine blk_drew ?_ | refine blk_alloc ?_ _)); refine blk_put (cs := #[.int .i64 t252, .int .i64 t253, .bool t254, .bool t255, .int .i64 t256, .int .i64 t257, .int .i64 t258, .bool x248007_2]) ?_ 7 _ rfl; (with_reducible repeat (first | refine blk_drewN ?_ _ | refine blk_drew ?_ | refine blk_alloc ?_ _)); refine blk_put (cs := #[.int .i64 t252, .int .i64 t253, .bool t254, .bool t255, .int .i64 t256, .int .i64 t257, .int .i64 x248006_2, .bool x248007_2]) ?_ 6 _ rfl; (with_reducible repeat (first | refine blk_drewN ?_ _ | refine blk_drew ?_ | refine blk_alloc ?_ _)); refine blk_put (cs := #[.int .i64 t252, .int .i64 t253, .bool t254, .bool t255, .int .i64 t256, .int .i64 x248005_2, .int .i64 x248006_2, .bool x248007_2]) ?_ 5 _ rfl; (with_reducible repeat (first | refine blk_drewN ?_ _ | refine blk_drew ?_ | refine blk_alloc ?_ _)); refine blk_put (cs := #[.int .i64 t252, .int .i64 t253, .bool t254, .bool t255, .int .i64 x248004_2, .int .i64 x248005_2, .int .i64 x248006_2, .bool x248007_2]) ?_ 4 _ rfl; (with_reducible repeat (first | refine blk_drewN ?_ _ | refine blk_drew ?_ | refine blk_alloc ?_ _)); refine blk_put (cs := #[.int .i64 t252, .int .i64 t253, .bool t254, .bool x248003_2, .int .i64 x248004_2, .int .i64 x248005_2, .int .i64 x248006_2, .bool x248007_2]) ?_ 3 _ rfl; (with_reducible repeat (first | refine blk_drewN ?_ _ | refine blk_drew ?_ | refine blk_alloc ?_ _)); refine blk_put (cs := #[.int .i64 t252, .int .i64 t253, .bool x248002_2, .bool x248003_2, .int .i64 x248004_2, .int .i64 x248005_2, .int .i64 x248006_2, .bool x248007_2]) ?_ 2 _ rfl; (with_reducible repeat (first | refine blk_drewN ?_ _ | refine blk_drew ?_ | refine blk_alloc ?_ _)); refine blk_put (cs := #[.int .i64 t252, .int .i64 x248001_2, .bool x248002_2, .bool x248003_2, .int .i64 x248004_2, .int .i64 x248005_2, .int .i64 x248006_2, .bool x248007_2]) ?_ 1 _ rfl; (with_reducible repeat (first | refine blk_drewN ?_ _ | refine blk_drew ?_ | refine blk_alloc ?_ _)); refine blk_put (cs := #[.int .i64 x248000_2, .int .i64 x248001_2, .bool x248002_2, .bool x248003_2, .int .i64 x248004_2, .int .i64 x248005_2, .int .i64 x248006_2, .bool x248007_2]) ?_ 0 _ rfl; (with_reducible repeat (first | refine blk_drewN ?_ _ | refine blk_drew ?_ | refine blk_alloc ?_ _)); exact BK247.out))⟩; have n3_ : Aside0 (Below w.heap.size w w49) := ⟨(by rw [hw]; exact (by repeat (first | (with_reducible first | exact HB.out | apply below_alloc | apply pw_below_drewN | apply below_drew1 | refine below_set ?_ GE230.out | refine below_set ?_ GE237.out | refine below_set ?_ GE247.out) | exact HB.out)))⟩; clear hw; clear BK230; clear BK237; clear BK247; clear HB; have BK230 := n0_; have BK237 := n1_; have BK247 := n2_; have HB := n3_; clear n0_ n1_ n2_ n3_))
                  go_roundg k2
                  case measure => have := HJ10.out; have := HK2.out; omega
                  case rel => exact ⟨(wrap64 (x48_2 + 1)), (t252), (t253), (t254), (t255), (t256), (t257), (t258), (t259), (by first | rfl | (simp; done) | (simp [*]; done)), H', ⟨by have := HJ10.out; have := HK2.out; omega⟩, ⟨by exact BK230.out⟩, ⟨by exact BK237.out⟩, ⟨by exact BK247.out⟩, ⟨by exact HB.out⟩⟩
                · rw [if_neg c42] at H
                  have c42b0 : decide (x48_2 < (t248.length : Int)) = false := decide_eq_false c42
                  clear c42
                  obtain ⟨ji50, hji50⟩ : ∃ j_ : Int, (mx (wrap64 (x248004_2 - t233)) (wrap64 (t233 - x248004_2))) = j_ := ⟨_, rfl⟩
                  replace H : ((dome_Covers.f x248000_2 x248001_2 x248002_2 x248003_2 x248004_2 x248005_2 x248006_2 x248007_2 a1).bind fun t260 => (if t260 = true then ((axis_Resting.f x248004_2 x248005_2 x248006_2 x248007_2).bind fun t261 => (if t261 = true then (if (ji50) ≤ 2147483648 then (some true) else (if (ji50) < 4294967296 then (if t233 > (wrap64 (t227 - 2147483648)) then (some true) else (some (decide (t233 < (wrap64 (t226 + 2147483648)))))) else (some false))) else (some false))) else (some false))) = some r := by first | (rw [hji50] at H; exact H) | (simp only [hji50] at H ⊢; exact H)
                  have hji50_ : (if (wrap64 (x248004_2 - t233)) < (wrap64 (t233 - x248004_2)) then (wrap64 (t233 - x248004_2)) else (wrap64 (x248004_2 - t233))) = ji50 := hji50
                  replace H := Option.bind_eq_some_iff.mp H
                  obtain ⟨t260, A510, H⟩ := H
                  replace H : (if t260 = true then ((axis_Resting.f x248004_2 x248005_2 x248006_2 x248007_2).bind fun t261 => (if t261 = true then (if (ji50) ≤ 2147483648 then (some true) else (if (ji50) < 4294967296 then (if t233 > (wrap64 (t227 - 2147483648)) then (some true) else (some (decide (t233 < (wrap64 (t226 + 2147483648)))))) else (some false))) else (some false))) else (some false)) = some r := H
                  have A51 := Aside0.mk A510
                  clear A510
                  by_cases c52 : t260 = true
                  · subst c52
                    have H1 : ((axis_Resting.f x248004_2 x248005_2 x248006_2 x248007_2).bind fun t261 => (if t261 = true then (if (ji50) ≤ 2147483648 then (some true) else (if (ji50) < 4294967296 then (if t233 > (wrap64 (t227 - 2147483648)) then (some true) else (some (decide (t233 < (wrap64 (t226 + 2147483648)))))) else (some false))) else (some false))) = some r := by rw [if_pos rfl] at H; exact H
                    clear H
                    have H := H1
                    clear H1
                    replace H := Option.bind_eq_some_iff.mp H
                    obtain ⟨t261, A530, H⟩ := H
                    replace H : (if t261 = true then (if (ji50) ≤ 2147483648 then (some true) else (if (ji50) < 4294967296 then (if t233 > (wrap64 (t227 - 2147483648)) then (some true) else (some (decide (t233 < (wrap64 (t226 + 2147483648)))))) else (some false))) else (some false)) = some r := H
                    have A53 := Aside0.mk A530
                    clear A530
                    by_cases c54 : t261 = true
                    · subst c54
                      have H1 : (if (ji50) ≤ 2147483648 then (some true) else (if (ji50) < 4294967296 then (if t233 > (wrap64 (t227 - 2147483648)) then (some true) else (some (decide (t233 < (wrap64 (t226 + 2147483648)))))) else (some false))) = some r := by rw [if_pos rfl] at H; exact H
                      clear H
                      have H := H1
                      clear H1
                      by_cases c55 : (ji50) ≤ 2147483648
                      · rw [if_pos c55] at H
                        have c55b0 : decide ((ji50) ≤ 2147483648) = true := decide_eq_true c55
                        clear c55
                        obtain rfl := Option.some.inj H
                        have hnb56 := NB247_230.out
                        have hnc56 := NB230_247.out
                        have hnb57 := NB247_237.out
                        have hnc57 := NB237_247.out
                        obtain ⟨hcz58_0, hcz58_1, hcz58_2, hcz58_3, hcz58_4, hcz58_5, hcz58_6, hcz58_7, hfz58_0, hfz58_1, hfz58_2, hfz58_3, hfz58_4, hfz58_5, hfz58_6, hfz58_7⟩ := tch8 BK247.out
                        have hnb59 := NB237_230.out
                        have hnc59 := NB230_237.out
                        obtain ⟨hcz60_0, hcz60_1, hcz60_2, hcz60_3, hcz60_4, hcz60_5, hcz60_6, hcz60_7, hfz60_0, hfz60_1, hfz60_2, hfz60_3, hfz60_4, hfz60_5, hfz60_6, hfz60_7⟩ := tch8 BK237.out
                        go_wp2_with (first | ((with_reducible refine gate_callee (f := 35) rfl ?_); refine goesL_ (some 70) rfl rfl Try.func35 (by kernel_rfl) rfl #[.agg #[.int .i64 x248000_2, .int .i64 x248001_2, .bool x248002_2, .bool x248003_2, .int .i64 x248004_2, .int .i64 x248005_2, .int .i64 x248006_2, .bool x248007_2], .int .i64 a1] rfl (by (try simp only [List.map_toArray, List.map_cons, List.map_nil]); first | done | rfl | (simp only [List.length_drop, List.length_take]; rfl)) ?_; (with_reducible refine (dome_Covers.calls x248000_2 x248001_2 x248002_2 x248003_2 x248004_2 x248005_2 x248006_2 x248007_2 a1 true _ A51.out).mono ?_); rintro e w61 ⟨rfl, hb⟩; refine ⟨_, rfl, ?_⟩; have n0_ := Aside0.mk (blk_below BK230.out hb); have n1_ := Aside0.mk (blk_below BK237.out hb); have n2_ := Aside0.mk (blk_below BK247.out hb); have n3_ := Aside0.mk (below_step (by exact HB.out) hb); clear BK230; clear BK237; clear BK247; clear HB; have BK230 := n0_; have BK237 := n1_; have BK247 := n2_; have HB := n3_; clear n0_ n1_ n2_ n3_; (try clear hb); (try clear hb2); (try clear hk); (try clear hi); obtain ⟨hcz62_0, hcz62_1, hcz62_2, hcz62_3, hcz62_4, hcz62_5, hcz62_6, hcz62_7, hfz62_0, hfz62_1, hfz62_2, hfz62_3, hfz62_4, hfz62_5, hfz62_6, hfz62_7⟩ := tch8 BK247.out) | (go_at_call 36; (with_reducible refine (axis_Resting.calls x248004_2 x248005_2 x248006_2 x248007_2 true _ A53.out).mono ?_); rintro e w63 ⟨rfl, hb⟩; have n0_ := Aside0.mk (blk_below BK230.out hb); have n1_ := Aside0.mk (blk_below BK237.out hb); have n2_ := Aside0.mk (blk_below BK247.out hb); have n3_ := Aside0.mk (below_step (by exact HB.out) hb); clear BK230; clear BK237; clear BK247; clear HB; have BK230 := n0_; have BK237 := n1_; have BK247 := n2_; have HB := n3_; clear n0_ n1_ n2_ n3_; (try clear hb); (try clear hb2); (try clear hk); (try clear hi)))
                        go_ret
                        exact ⟨by first | rfl | (simp [errW_none, errW_some] <;> rfl) | (simp only [← hji50]; first | rfl | (simp [errW_none, errW_some] <;> rfl)) | (simp [*, errW_none, errW_some] <;> rfl), by exact HB.out⟩
                      · rw [if_neg c55] at H
                        have c55b0 : decide ((ji50) ≤ 2147483648) = false := decide_eq_false c55
                        clear c55
                        by_cases c64 : (ji50) < 4294967296
                        · rw [if_pos c64] at H
                          have c64b0 : decide ((ji50) < 4294967296) = true := decide_eq_true c64
                          clear c64
                          by_cases c65 : t233 > (wrap64 (t227 - 2147483648))
                          · rw [if_pos c65] at H
                            have c65b0 : decide ((wrap64 (t227 - 2147483648)) < t233) = true := decide_eq_true c65
                            clear c65
                            obtain rfl := Option.some.inj H
                            have hnb66 := NB247_230.out
                            have hnc66 := NB230_247.out
                            have hnb67 := NB247_237.out
                            have hnc67 := NB237_247.out
                            obtain ⟨hcz68_0, hcz68_1, hcz68_2, hcz68_3, hcz68_4, hcz68_5, hcz68_6, hcz68_7, hfz68_0, hfz68_1, hfz68_2, hfz68_3, hfz68_4, hfz68_5, hfz68_6, hfz68_7⟩ := tch8 BK247.out
                            have hnb69 := NB237_230.out
                            have hnc69 := NB230_237.out
                            obtain ⟨hcz70_0, hcz70_1, hcz70_2, hcz70_3, hcz70_4, hcz70_5, hcz70_6, hcz70_7, hfz70_0, hfz70_1, hfz70_2, hfz70_3, hfz70_4, hfz70_5, hfz70_6, hfz70_7⟩ := tch8 BK237.out
                            go_wp2_with (first | ((with_reducible refine gate_callee (f := 35) rfl ?_); refine goesL_ (some 70) rfl rfl Try.func35 (by kernel_rfl) rfl #[.agg #[.int .i64 x248000_2, .int .i64 x248001_2, .bool x248002_2, .bool x248003_2, .int .i64 x248004_2, .int .i64 x248005_2, .int .i64 x248006_2, .bool x248007_2], .int .i64 a1] rfl (by (try simp only [List.map_toArray, List.map_cons, List.map_nil]); first | done | rfl | (simp only [List.length_drop, List.length_take]; rfl)) ?_; (with_reducible refine (dome_Covers.calls x248000_2 x248001_2 x248002_2 x248003_2 x248004_2 x248005_2 x248006_2 x248007_2 a1 true _ A51.out).mono ?_); rintro e w71 ⟨rfl, hb⟩; refine ⟨_, rfl, ?_⟩; have n0_ := Aside0.mk (blk_below BK230.out hb); have n1_ := Aside0.mk (blk_below BK237.out hb); have n2_ := Aside0.mk (blk_below BK247.out hb); have n3_ := Aside0.mk (below_step (by exact HB.out) hb); clear BK230; clear BK237; clear BK247; clear HB; have BK230 := n0_; have BK237 := n1_; have BK247 := n2_; have HB := n3_; clear n0_ n1_ n2_ n3_; (try clear hb); (try clear hb2); (try clear hk); (try clear hi); obtain ⟨hcz72_0, hcz72_1, hcz72_2, hcz72_3, hcz72_4, hcz72_5, hcz72_6, hcz72_7, hfz72_0, hfz72_1, hfz72_2, hfz72_3, hfz72_4, hfz72_5, hfz72_6, hfz72_7⟩ := tch8 BK247.out) | (go_at_call 36; (with_reducible refine (axis_Resting.calls x248004_2 x248005_2 x248006_2 x248007_2 true _ A53.out).mono ?_); rintro e w73 ⟨rfl, hb⟩; have n0_ := Aside0.mk (blk_below BK230.out hb); have n1_ := Aside0.mk (blk_below BK237.out hb); have n2_ := Aside0.mk (blk_below BK247.out hb); have n3_ := Aside0.mk (below_step (by exact HB.out) hb); clear BK230; clear BK237; clear BK247; clear HB; have BK230 := n0_; have BK237 := n1_; have BK247 := n2_; have HB := n3_; clear n0_ n1_ n2_ n3_; (try clear hb); (try clear hb2); (try clear hk); (try clear hi); obtain ⟨hcz74_0, hcz74_1, hcz74_2, hcz74_3, hcz74_4, hcz74_5, hcz74_6, hcz74_7, hfz74_0, hfz74_1, hfz74_2, hfz74_3, hfz74_4, hfz74_5, hfz74_6, hfz74_7⟩ := tch8 BK237.out; obtain ⟨hcz75_0, hcz75_1, hcz75_2, hcz75_3, hfz75_0, hfz75_1, hfz75_2, hfz75_3⟩ := tch4 BK230.out))
                            go_ret
                            exact ⟨by first | rfl | (simp [errW_none, errW_some] <;> rfl) | (simp only [← hji50]; first | rfl | (simp [errW_none, errW_some] <;> rfl)) | (simp [*, errW_none, errW_some] <;> rfl), by exact HB.out⟩
                          · rw [if_neg c65] at H
                            have c65b0 : decide ((wrap64 (t227 - 2147483648)) < t233) = false := decide_eq_false c65
                            clear c65
                            obtain rfl := Option.some.inj H
                            have hnb76 := NB247_230.out
                            have hnc76 := NB230_247.out
                            have hnb77 := NB247_237.out
                            have hnc77 := NB237_247.out
                            obtain ⟨hcz78_0, hcz78_1, hcz78_2, hcz78_3, hcz78_4, hcz78_5, hcz78_6, hcz78_7, hfz78_0, hfz78_1, hfz78_2, hfz78_3, hfz78_4, hfz78_5, hfz78_6, hfz78_7⟩ := tch8 BK247.out
                            have hnb79 := NB237_230.out
                            have hnc79 := NB230_237.out
                            obtain ⟨hcz80_0, hcz80_1, hcz80_2, hcz80_3, hcz80_4, hcz80_5, hcz80_6, hcz80_7, hfz80_0, hfz80_1, hfz80_2, hfz80_3, hfz80_4, hfz80_5, hfz80_6, hfz80_7⟩ := tch8 BK237.out
                            go_wp2_with (first | ((with_reducible refine gate_callee (f := 35) rfl ?_); refine goesL_ (some 70) rfl rfl Try.func35 (by kernel_rfl) rfl #[.agg #[.int .i64 x248000_2, .int .i64 x248001_2, .bool x248002_2, .bool x248003_2, .int .i64 x248004_2, .int .i64 x248005_2, .int .i64 x248006_2, .bool x248007_2], .int .i64 a1] rfl (by (try simp only [List.map_toArray, List.map_cons, List.map_nil]); first | done | rfl | (simp only [List.length_drop, List.length_take]; rfl)) ?_; (with_reducible refine (dome_Covers.calls x248000_2 x248001_2 x248002_2 x248003_2 x248004_2 x248005_2 x248006_2 x248007_2 a1 true _ A51.out).mono ?_); rintro e w81 ⟨rfl, hb⟩; refine ⟨_, rfl, ?_⟩; have n0_ := Aside0.mk (blk_below BK230.out hb); have n1_ := Aside0.mk (blk_below BK237.out hb); have n2_ := Aside0.mk (blk_below BK247.out hb); have n3_ := Aside0.mk (below_step (by exact HB.out) hb); clear BK230; clear BK237; clear BK247; clear HB; have BK230 := n0_; have BK237 := n1_; have BK247 := n2_; have HB := n3_; clear n0_ n1_ n2_ n3_; (try clear hb); (try clear hb2); (try clear hk); (try clear hi); obtain ⟨hcz82_0, hcz82_1, hcz82_2, hcz82_3, hcz82_4, hcz82_5, hcz82_6, hcz82_7, hfz82_0, hfz82_1, hfz82_2, hfz82_3, hfz82_4, hfz82_5, hfz82_6, hfz82_7⟩ := tch8 BK247.out) | (go_at_call 36; (with_reducible refine (axis_Resting.calls x248004_2 x248005_2 x248006_2 x248007_2 true _ A53.out).mono ?_); rintro e w83 ⟨rfl, hb⟩; have n0_ := Aside0.mk (blk_below BK230.out hb); have n1_ := Aside0.mk (blk_below BK237.out hb); have n2_ := Aside0.mk (blk_below BK247.out hb); have n3_ := Aside0.mk (below_step (by exact HB.out) hb); clear BK230; clear BK237; clear BK247; clear HB; have BK230 := n0_; have BK237 := n1_; have BK247 := n2_; have HB := n3_; clear n0_ n1_ n2_ n3_; (try clear hb); (try clear hb2); (try clear hk); (try clear hi); obtain ⟨hcz84_0, hcz84_1, hcz84_2, hcz84_3, hcz84_4, hcz84_5, hcz84_6, hcz84_7, hfz84_0, hfz84_1, hfz84_2, hfz84_3, hfz84_4, hfz84_5, hfz84_6, hfz84_7⟩ := tch8 BK237.out; obtain ⟨hcz85_0, hcz85_1, hcz85_2, hcz85_3, hfz85_0, hfz85_1, hfz85_2, hfz85_3⟩ := tch4 BK230.out))
                            go_ret
                            exact ⟨by first | rfl | (simp [errW_none, errW_some] <;> rfl) | (simp only [← hji50]; first | rfl | (simp [errW_none, errW_some] <;> rfl)) | (simp [*, errW_none, errW_some] <;> rfl), by exact HB.out⟩
                        · rw [if_neg c64] at H
                          have c64b0 : decide ((ji50) < 4294967296) = false := decide_eq_false c64
                          clear c64
                          obtain rfl := Option.some.inj H
                          have hnb86 := NB247_230.out
                          have hnc86 := NB230_247.out
                          have hnb87 := NB247_237.out
                          have hnc87 := NB237_247.out
                          obtain ⟨hcz88_0, hcz88_1, hcz88_2, hcz88_3, hcz88_4, hcz88_5, hcz88_6, hcz88_7, hfz88_0, hfz88_1, hfz88_2, hfz88_3, hfz88_4, hfz88_5, hfz88_6, hfz88_7⟩ := tch8 BK247.out
                          have hnb89 := NB237_230.out
                          have hnc89 := NB230_237.out
                          obtain ⟨hcz90_0, hcz90_1, hcz90_2, hcz90_3, hcz90_4, hcz90_5, hcz90_6, hcz90_7, hfz90_0, hfz90_1, hfz90_2, hfz90_3, hfz90_4, hfz90_5, hfz90_6, hfz90_7⟩ := tch8 BK237.out
                          go_wp2_with (first | ((with_reducible refine gate_callee (f := 35) rfl ?_); refine goesL_ (some 70) rfl rfl Try.func35 (by kernel_rfl) rfl #[.agg #[.int .i64 x248000_2, .int .i64 x248001_2, .bool x248002_2, .bool x248003_2, .int .i64 x248004_2, .int .i64 x248005_2, .int .i64 x248006_2, .bool x248007_2], .int .i64 a1] rfl (by (try simp only [List.map_toArray, List.map_cons, List.map_nil]); first | done | rfl | (simp only [List.length_drop, List.length_take]; rfl)) ?_; (with_reducible refine (dome_Covers.calls x248000_2 x248001_2 x248002_2 x248003_2 x248004_2 x248005_2 x248006_2 x248007_2 a1 true _ A51.out).mono ?_); rintro e w91 ⟨rfl, hb⟩; refine ⟨_, rfl, ?_⟩; have n0_ := Aside0.mk (blk_below BK230.out hb); have n1_ := Aside0.mk (blk_below BK237.out hb); have n2_ := Aside0.mk (blk_below BK247.out hb); have n3_ := Aside0.mk (below_step (by exact HB.out) hb); clear BK230; clear BK237; clear BK247; clear HB; have BK230 := n0_; have BK237 := n1_; have BK247 := n2_; have HB := n3_; clear n0_ n1_ n2_ n3_; (try clear hb); (try clear hb2); (try clear hk); (try clear hi); obtain ⟨hcz92_0, hcz92_1, hcz92_2, hcz92_3, hcz92_4, hcz92_5, hcz92_6, hcz92_7, hfz92_0, hfz92_1, hfz92_2, hfz92_3, hfz92_4, hfz92_5, hfz92_6, hfz92_7⟩ := tch8 BK247.out) | (go_at_call 36; (with_reducible refine (axis_Resting.calls x248004_2 x248005_2 x248006_2 x248007_2 true _ A53.out).mono ?_); rintro e w93 ⟨rfl, hb⟩; have n0_ := Aside0.mk (blk_below BK230.out hb); have n1_ := Aside0.mk (blk_below BK237.out hb); have n2_ := Aside0.mk (blk_below BK247.out hb); have n3_ := Aside0.mk (below_step (by exact HB.out) hb); clear BK230; clear BK237; clear BK247; clear HB; have BK230 := n0_; have BK237 := n1_; have BK247 := n2_; have HB := n3_; clear n0_ n1_ n2_ n3_; (try clear hb); (try clear hb2); (try clear hk); (try clear hi)))
                          go_ret
                          exact ⟨by first | rfl | (simp [errW_none, errW_some] <;> rfl) | (simp only [← hji50]; first | rfl | (simp [errW_none, errW_some] <;> rfl)) | (simp [*, errW_none, errW_some] <;> rfl), by exact HB.out⟩
                    · replace c54 := Bool.eq_false_iff.mpr c54
                      subst c54
                      have H1 : (some false) = some r := by rw [if_neg (show ¬ (false = true) by decide)] at H; exact H
                      clear H
                      have H := H1
                      clear H1
                      obtain rfl := Option.some.inj H
                      have hnb94 := NB247_230.out
                      have hnc94 := NB230_247.out
                      have hnb95 := NB247_237.out
                      have hnc95 := NB237_247.out
                      obtain ⟨hcz96_0, hcz96_1, hcz96_2, hcz96_3, hcz96_4, hcz96_5, hcz96_6, hcz96_7, hfz96_0, hfz96_1, hfz96_2, hfz96_3, hfz96_4, hfz96_5, hfz96_6, hfz96_7⟩ := tch8 BK247.out
                      have hnb97 := NB237_230.out
                      have hnc97 := NB230_237.out
                      obtain ⟨hcz98_0, hcz98_1, hcz98_2, hcz98_3, hcz98_4, hcz98_5, hcz98_6, hcz98_7, hfz98_0, hfz98_1, hfz98_2, hfz98_3, hfz98_4, hfz98_5, hfz98_6, hfz98_7⟩ := tch8 BK237.out
                      go_wp2_with (first | ((with_reducible refine gate_callee (f := 35) rfl ?_); refine goesL_ (some 70) rfl rfl Try.func35 (by kernel_rfl) rfl #[.agg #[.int .i64 x248000_2, .int .i64 x248001_2, .bool x248002_2, .bool x248003_2, .int .i64 x248004_2, .int .i64 x248005_2, .int .i64 x248006_2, .bool x248007_2], .int .i64 a1] rfl (by (try simp only [List.map_toArray, List.map_cons, List.map_nil]); first | done | rfl | (simp only [List.length_drop, List.length_take]; rfl)) ?_; (with_reducible refine (dome_Covers.calls x248000_2 x248001_2 x248002_2 x248003_2 x248004_2 x248005_2 x248006_2 x248007_2 a1 true _ A51.out).mono ?_); rintro e w99 ⟨rfl, hb⟩; refine ⟨_, rfl, ?_⟩; have n0_ := Aside0.mk (blk_below BK230.out hb); have n1_ := Aside0.mk (blk_below BK237.out hb); have n2_ := Aside0.mk (blk_below BK247.out hb); have n3_ := Aside0.mk (below_step (by exact HB.out) hb); clear BK230; clear BK237; clear BK247; clear HB; have BK230 := n0_; have BK237 := n1_; have BK247 := n2_; have HB := n3_; clear n0_ n1_ n2_ n3_; (try clear hb); (try clear hb2); (try clear hk); (try clear hi); obtain ⟨hcz100_0, hcz100_1, hcz100_2, hcz100_3, hcz100_4, hcz100_5, hcz100_6, hcz100_7, hfz100_0, hfz100_1, hfz100_2, hfz100_3, hfz100_4, hfz100_5, hfz100_6, hfz100_7⟩ := tch8 BK247.out) | (go_at_call 36; (with_reducible refine (axis_Resting.calls x248004_2 x248005_2 x248006_2 x248007_2 false _ A53.out).mono ?_); rintro e w101 ⟨rfl, hb⟩; have n0_ := Aside0.mk (blk_below BK230.out hb); have n1_ := Aside0.mk (blk_below BK237.out hb); have n2_ := Aside0.mk (blk_below BK247.out hb); have n3_ := Aside0.mk (below_step (by exact HB.out) hb); clear BK230; clear BK237; clear BK247; clear HB; have BK230 := n0_; have BK237 := n1_; have BK247 := n2_; have HB := n3_; clear n0_ n1_ n2_ n3_; (try clear hb); (try clear hb2); (try clear hk); (try clear hi)))
                      go_ret
                      exact ⟨by first | rfl | (simp [errW_none, errW_some] <;> rfl) | (simp only [← hji50]; first | rfl | (simp [errW_none, errW_some] <;> rfl)) | (simp [*, errW_none, errW_some] <;> rfl), by exact HB.out⟩
                  · replace c52 := Bool.eq_false_iff.mpr c52
                    subst c52
                    have H1 : (some false) = some r := by rw [if_neg (show ¬ (false = true) by decide)] at H; exact H
                    clear H
                    have H := H1
                    clear H1
                    obtain rfl := Option.some.inj H
                    have hnb102 := NB247_230.out
                    have hnc102 := NB230_247.out
                    have hnb103 := NB247_237.out
                    have hnc103 := NB237_247.out
                    obtain ⟨hcz104_0, hcz104_1, hcz104_2, hcz104_3, hcz104_4, hcz104_5, hcz104_6, hcz104_7, hfz104_0, hfz104_1, hfz104_2, hfz104_3, hfz104_4, hfz104_5, hfz104_6, hfz104_7⟩ := tch8 BK247.out
                    have hnb105 := NB237_230.out
                    have hnc105 := NB230_237.out
                    obtain ⟨hcz106_0, hcz106_1, hcz106_2, hcz106_3, hcz106_4, hcz106_5, hcz106_6, hcz106_7, hfz106_0, hfz106_1, hfz106_2, hfz106_3, hfz106_4, hfz106_5, hfz106_6, hfz106_7⟩ := tch8 BK237.out
                    go_wp2_with (first | ((with_reducible refine gate_callee (f := 35) rfl ?_); refine goesL_ (some 70) rfl rfl Try.func35 (by kernel_rfl) rfl #[.agg #[.int .i64 x248000_2, .int .i64 x248001_2, .bool x248002_2, .bool x248003_2, .int .i64 x248004_2, .int .i64 x248005_2, .int .i64 x248006_2, .bool x248007_2], .int .i64 a1] rfl (by (try simp only [List.map_toArray, List.map_cons, List.map_nil]); first | done | rfl | (simp only [List.length_drop, List.length_take]; rfl)) ?_; (with_reducible refine (dome_Covers.calls x248000_2 x248001_2 x248002_2 x248003_2 x248004_2 x248005_2 x248006_2 x248007_2 a1 false _ A51.out).mono ?_); rintro e w107 ⟨rfl, hb⟩; refine ⟨_, rfl, ?_⟩; have n0_ := Aside0.mk (blk_below BK230.out hb); have n1_ := Aside0.mk (blk_below BK237.out hb); have n2_ := Aside0.mk (blk_below BK247.out hb); have n3_ := Aside0.mk (below_step (by exact HB.out) hb); clear BK230; clear BK237; clear BK247; clear HB; have BK230 := n0_; have BK237 := n1_; have BK247 := n2_; have HB := n3_; clear n0_ n1_ n2_ n3_; (try clear hb); (try clear hb2); (try clear hk); (try clear hi)))
                    go_ret
                    exact ⟨by first | rfl | (simp [errW_none, errW_some] <;> rfl) | (simp only [← hji50]; first | rfl | (simp [errW_none, errW_some] <;> rfl)) | (simp [*, errW_none, errW_some] <;> rfl), by exact HB.out⟩
    · rw [if_neg c9] at H
      have c9b0 : (t246 == 0) = false := beq_eq_false_iff_ne.mpr c9
      have c9b1 : (t246 != 0) = true := bne_iff_ne.mpr c9
      obtain rfl := Option.some.inj H
      go_enter Try.func9, Try.ntmps9
      go_wp2_with (first | ((with_reducible refine gate_callee (f := 10) rfl ?_); refine goesL_ (some 13) rfl rfl Try.func10 (by kernel_rfl) rfl #[] rfl (by (try simp only [List.map_toArray, List.map_cons, List.map_nil]); first | done | rfl | (simp only [List.length_drop, List.length_take]; rfl)) ?_; (with_reducible refine (spykeep2_turns.calls k  true _ A3.out).mono ?_); rintro e w108 ⟨rfl, hb⟩; refine ⟨_, rfl, ?_⟩; have n0_ := Aside0.mk (below_step (by exact HB.out) hb); clear HB; have HB := n0_; clear n0_; (try clear hb); (try clear hb2); (try clear hk); (try clear hi)) | ((with_reducible refine gate_dst (N := 17) rfl ?_); (try (refine gate_guard (by rfl) ?_; dsimp only)); refine box_event ?hg (N := 17) ?hd (cs := #[.slice A0 l0.length c0, .int .i64 0]) (t := 26) ?hr ?_; (case hd => rfl); (case hg => rfl); (case hr => first | (go_simp; done) | (go_simp; rfl)); intro gb225 hg w109 hbox hb; have n0_ := Aside0.mk (below_step (by exact HB.out) hb); have n1_ := Aside0.mk ((by rw [hg]; exact (below_size (by exact HB.out)) : w.heap.size ≤ gb225)); have n2_ := Aside0.mk ((by rw [hg]; exact (below_size (by exact HB.out)) : w.heap.size ≤ gb225)); have n3_ := Aside0.mk ((show IsS26 w w109 gb225 l0 0 from ⟨_, _, hbox, (by rw [hg]; exact (below_size (by exact HB.out)) : w.heap.size ≤ gb225), HR0.out⟩)); clear HB; have HB := n0_; have GW225 := n1_; have GE225 := n2_; have HI225 := n3_; clear n0_ n1_ n2_ n3_; clear hb hbox hg) | ((with_reducible refine gate_callee (f := 31) rfl ?_); refine goesL_ (some 18) rfl rfl Try.func31 (by kernel_rfl) rfl #[] rfl (by (try simp only [List.map_toArray, List.map_cons, List.map_nil]); first | done | rfl | (simp only [List.length_drop, List.length_take]; rfl)) ?_; (with_reducible refine (dome_Axis.calls  t226 t227 t228 t229 _ A5.out).mono ?_); rintro e w110 ⟨rfl, hb⟩; refine ⟨_, rfl, ?_⟩; have n0_ := Aside0.mk (IsS26.below (by exact HI225.out) hb); have n1_ := Aside0.mk (below_step (by exact HB.out) hb); clear HI225; clear HB; have HI225 := n0_; have HB := n1_; clear n0_ n1_; (try clear hb); (try clear hb2); (try clear hk); (try clear hi)) | ((with_reducible refine gate_dst (N := 6) rfl ?_); (try (refine gate_guard (by rfl) ?_; dsimp only)); refine box_event ?hg (N := 6) ?hd (cs := #[.int .i64 0, .int .i64 0, .int .i64 0, .int .i64 0]) (t := 60) ?hr ?_; (case hd => rfl); (case hg => rfl); (case hr => first | (go_simp; done) | (go_simp; rfl)); intro gb230 hg w111 hbox hb; have n0_ := Aside0.mk (IsS26.below (by exact HI225.out) hb); have n1_ := Aside0.mk (below_step (by exact HB.out) hb); have n2_ := Aside0.mk (hbox); have n3_ := Aside0.mk ((by rw [hg]; exact (below_size (by exact HB.out)) : w.heap.size ≤ gb230)); have n4_ := Aside0.mk ((by rw [hg]; exact (below_size (by exact HB.out)) : w.heap.size ≤ gb230)); have n5_ := Aside0.mk ((by rw [hg]; exact Nat.ne_of_lt (IsS26.lt (show IsS26 w _ gb225 l0 0 from by exact HI225.out)) : gb225 ≠ gb230)); have n6_ := Aside0.mk ((by rw [hg]; exact Nat.ne_of_gt (IsS26.lt (show IsS26 w _ gb225 l0 0 from by exact HI225.out)) : gb230 ≠ gb225)); clear HI225; clear HB; have HI225 := n0_; have HB := n1_; have BK230 := n2_; have GW230 := n3_; have GE230 := n4_; have NB225_230 := n5_; have NB230_225 := n6_; clear n0_ n1_ n2_ n3_ n4_ n5_ n6_; clear hb hbox hg; have hnb112 := NB230_225.out; have hnc112 := NB225_230.out; obtain ⟨hcz113_0, hcz113_1, hcz113_2, hcz113_3, hfz113_0, hfz113_1, hfz113_2, hfz113_3⟩ := tch4 BK230.out) | ((with_reducible refine gate_store (t := 60) (p := 6) rfl ?_); refine store_event (t := 60) (p := 6) (v := ?vo_w114) (w1 := ((((w111.setCell ⟨gb230, 0, none⟩ (.int .i64 t226)).setCell ⟨gb230, 1, none⟩ (.int .i64 t227)).setCell ⟨gb230, 2, none⟩ (.int .i64 t228)).setCell ⟨gb230, 3, none⟩ (.int .i64 t229))) ?hg ?ho ?hn ?hr ?_; (case ho => rfl); (case hg => rfl); (case hn => rfl); (case hr => first | (go_simp; done) | (go_simp; rfl)); intro w114 hw; have n0_ : Aside0 (w114.heap[gb230]? = some (.cells #[.int .i64 t226, .int .i64 t227, .int .i64 t228, .int .i64 t229] 60 (0, 0))) := ⟨(by rw [hw]; exact (by (with_reducible repeat (first | refine blk_drewN ?_ _ | refine blk_drew ?_ | refine blk_alloc ?_ _)); refine blk_put (cs := #[.int .i64 t226, .int .i64 t227, .int .i64 t228, .int .i64 0]) ?_ 3 _ rfl; (with_reducible repeat (first | refine blk_drewN ?_ _ | refine blk_drew ?_ | refine blk_alloc ?_ _)); refine blk_put (cs := #[.int .i64 t226, .int .i64 t227, .int .i64 0, .int .i64 0]) ?_ 2 _ rfl; (with_reducible repeat (first | refine blk_drewN ?_ _ | refine blk_drew ?_ | refine blk_alloc ?_ _)); refine blk_put (cs := #[.int .i64 t226, .int .i64 0, .int .i64 0, .int .i64 0]) ?_ 1 _ rfl; (with_reducible repeat (first | refine blk_drewN ?_ _ | refine blk_drew ?_ | refine blk_alloc ?_ _)); refine blk_put (cs := #[.int .i64 0, .int .i64 0, .int .i64 0, .int .i64 0]) ?_ 0 _ rfl; (with_reducible repeat (first | refine blk_drewN ?_ _ | refine blk_drew ?_ | refine blk_alloc ?_ _)); exact BK230.out))⟩; have n1_ : Aside0 (IsS26 w w114 gb225 l0 0) := ⟨(by rw [hw]; exact (by repeat (first | (with_reducible first | exact HI225.out | apply IsS26.alloc | apply IsS26.drewN | apply IsS26.drew | apply IsS26.set_1 | refine IsS26.far ?_ NB225_230.out _) | exact HI225.out)))⟩; have n2_ : Aside0 (Below w.heap.size w w114) := ⟨(by rw [hw]; exact (by repeat (first | (with_reducible first | exact HB.out | apply below_alloc | apply pw_below_drewN | apply below_drew1 | refine below_set ?_ (IsS26.ge HI225.out) | refine below_set ?_ GE230.out) | exact HB.out)))⟩; clear hw; clear BK230; clear HI225; clear HB; have BK230 := n0_; have HI225 := n1_; have HB := n2_; clear n0_ n1_ n2_; obtain ⟨hcz115_0, hcz115_1, hcz115_2, hcz115_3, hfz115_0, hfz115_1, hfz115_2, hfz115_3⟩ := tch4 BK230.out) | ((with_reducible refine gate_callee (f := 33) rfl ?_); refine goesL_ (some 21) rfl rfl Try.func33 (by kernel_rfl) rfl #[.pointer (some ⟨gb225, 0, none⟩), .agg #[.int .i64 t226, .int .i64 t227, .int .i64 t228, .int .i64 t229]] rfl (by (try simp only [List.map_toArray, List.map_cons, List.map_nil]); first | done | rfl | (simp only [List.length_drop, List.length_take]; rfl)) ?_; (with_reducible refine (spymake_Stream_Inside.calls gb225 l0 0 t226 t227 t228 t229 t231 t232 w _ ?side1 ?side2 A6.out).mono ?_); (case side1 => exact HI225.out); (case side2 => exact HB.out); rintro e w116 ⟨rfl, hi, hb, hk⟩; refine ⟨_, rfl, ?_⟩; have n0_ := Aside0.mk (KeepBut.blk hk BK230.out NB230_225.out (by simp)); have n1_ := Aside0.mk (hb); have n2_ := Aside0.mk (hi); clear BK230; clear HB; clear HI225; have BK230 := n0_; have HB := n1_; have HI225 := n2_; clear n0_ n1_ n2_; (try clear hb); (try clear hb2); (try clear hk); (try clear hi)) | ((with_reducible refine gate_callee (f := 32) rfl ?_); refine goesL_ (some 22) rfl rfl Try.func32 (by kernel_rfl) rfl #[.int .i64 t231] rfl (by (try simp only [List.map_toArray, List.map_cons, List.map_nil]); first | done | rfl | (simp only [List.length_drop, List.length_take]; rfl)) ?_; (with_reducible refine (axis_Rest.calls t231 t233 t234 t235 t236 _ A7.out).mono ?_); rintro e w117 ⟨rfl, hb⟩; refine ⟨_, rfl, ?_⟩; have n0_ := Aside0.mk (IsS26.below (by exact HI225.out) hb); have n1_ := Aside0.mk (blk_below BK230.out hb); have n2_ := Aside0.mk (below_step (by exact HB.out) hb); clear HI225; clear BK230; clear HB; have HI225 := n0_; have BK230 := n1_; have HB := n2_; clear n0_ n1_ n2_; (try clear hb); (try clear hb2); (try clear hk); (try clear hi)) | ((with_reducible refine gate_dst (N := 7) rfl ?_); (try (refine gate_guard (by rfl) ?_; dsimp only)); refine box_event ?hg (N := 7) ?hd (cs := #[.int .i64 0, .int .i64 0, .bool false, .bool false, .int .i64 0, .int .i64 0, .int .i64 0, .bool false]) (t := 30) ?hr ?_; (case hd => rfl); (case hg => rfl); (case hr => first | (go_simp; done) | (go_simp; rfl)); intro gb237 hg w118 hbox hb; have n0_ := Aside0.mk (IsS26.below (by exact HI225.out) hb); have n1_ := Aside0.mk (blk_below BK230.out hb); have n2_ := Aside0.mk (below_step (by exact HB.out) hb); have n3_ := Aside0.mk (hbox); have n4_ := Aside0.mk ((by rw [hg]; exact (below_size (by exact HB.out)) : w.heap.size ≤ gb237)); have n5_ := Aside0.mk ((by rw [hg]; exact (below_size (by exact HB.out)) : w.heap.size ≤ gb237)); have n6_ := Aside0.mk ((by rw [hg]; exact Nat.ne_of_lt (blk_lt BK230.out) : gb230 ≠ gb237)); have n7_ := Aside0.mk ((by rw [hg]; exact Nat.ne_of_gt (blk_lt BK230.out) : gb237 ≠ gb230)); have n8_ := Aside0.mk ((by rw [hg]; exact Nat.ne_of_lt (IsS26.lt (show IsS26 w _ gb225 l0 t232 from by exact HI225.out)) : gb225 ≠ gb237)); have n9_ := Aside0.mk ((by rw [hg]; exact Nat.ne_of_gt (IsS26.lt (show IsS26 w _ gb225 l0 t232 from by exact HI225.out)) : gb237 ≠ gb225)); clear HI225; clear BK230; clear HB; have HI225 := n0_; have BK230 := n1_; have HB := n2_; have BK237 := n3_; have GW237 := n4_; have GE237 := n5_; have NB230_237 := n6_; have NB237_230 := n7_; have NB225_237 := n8_; have NB237_225 := n9_; clear n0_ n1_ n2_ n3_ n4_ n5_ n6_ n7_ n8_ n9_; clear hb hbox hg; have hnb119 := NB237_230.out; have hnc119 := NB230_237.out; have hnb120 := NB237_225.out; have hnc120 := NB225_237.out; obtain ⟨hcz121_0, hcz121_1, hcz121_2, hcz121_3, hcz121_4, hcz121_5, hcz121_6, hcz121_7, hfz121_0, hfz121_1, hfz121_2, hfz121_3, hfz121_4, hfz121_5, hfz121_6, hfz121_7⟩ := tch8 BK237.out) | ((with_reducible refine gate_store (t := 30) (p := 7) rfl ?_); refine store_event (t := 30) (p := 7) (v := ?vo_w122) (w1 := ((((((((w118.setCell ⟨gb237, 0, none⟩ (.int .i64 0)).setCell ⟨gb237, 1, none⟩ (.int .i64 0)).setCell ⟨gb237, 2, none⟩ (.bool false)).setCell ⟨gb237, 3, none⟩ (.bool false)).setCell ⟨gb237, 4, none⟩ (.int .i64 t233)).setCell ⟨gb237, 5, none⟩ (.int .i64 t234)).setCell ⟨gb237, 6, none⟩ (.int .i64 t235)).setCell ⟨gb237, 7, none⟩ (.bool t236))) ?hg ?ho ?hn ?hr ?_; (case ho => rfl); (case hg => rfl); (case hn => rfl); (case hr => first | (go_simp; done) | (go_simp; rfl)); intro w122 hw; have n0_ : Aside0 (w122.heap[gb230]? = some (.cells #[.int .i64 t226, .int .i64 t227, .int .i64 t228, .int .i64 t229] 60 (0, 0))) := ⟨(by rw [hw]; exact (by (with_reducible repeat (first | refine blk_drewN ?_ _ | refine blk_drew ?_ | refine blk_alloc ?_ _)); refine blk_far ?_ NB230_237.out _; (with_reducible repeat (first | refine blk_drewN ?_ _ | refine blk_drew ?_ | refine blk_alloc ?_ _)); refine blk_far ?_ NB230_237.out _; (with_reducible repeat (first | refine blk_drewN ?_ _ | refine blk_drew ?_ | refine blk_alloc ?_ _)); refine blk_far ?_ NB230_237.out _; (with_reducible repeat (first | refine blk_drewN ?_ _ | refine blk_drew ?_ | refine blk_alloc ?_ _)); refine blk_far ?_ NB230_237.out _; (with_reducible repeat (first | refine blk_drewN ?_ _ | refine blk_drew ?_ | refine blk_alloc ?_ _)); refine blk_far ?_ NB230_237.out _; (with_reducible repeat (first | refine blk_drewN ?_ _ | refine blk_drew ?_ | refine blk_alloc ?_ _)); refine blk_far ?_ NB230_237.out _; (with_reducible repeat (first | refine blk_drewN ?_ _ | refine blk_drew ?_ | refine blk_alloc ?_ _)); refine blk_far ?_ NB230_237.out _; (with_reducible repeat (first | refine blk_drewN ?_ _ | refine blk_drew ?_ | refine blk_alloc ?_ _)); refine blk_far ?_ NB230_237.out _; (with_reducible repeat (first | refine blk_drewN ?_ _ | refine blk_drew ?_ | refine blk_alloc ?_ _)); exact BK230.out))⟩; have n1_ : Aside0 (w122.heap[gb237]? = some (.cells #[.int .i64 0, .int .i64 0, .bool false, .bool false, .int .i64 t233, .int .i64 t234, .int .i64 t235, .bool t236] 30 (0, 0))) := ⟨(by rw [hw]; exact (by (with_reducible repeat (first | refine blk_drewN ?_ _ | refine blk_drew ?_ | refine blk_alloc ?_ _)); refine blk_put (cs := #[.int .i64 0, .int .i64 0, .bool false, .bool false, .int .i64 t233, .int .i64 t234, .int .i64 t235, .bool false]) ?_ 7 _ rfl; (with_reducible repeat (first | refine blk_drewN ?_ _ | refine blk_drew ?_ | refine blk_alloc ?_ _)); refine blk_put (cs := #[.int .i64 0, .int .i64 0, .bool false, .bool false, .int .i64 t233, .int .i64 t234, .int .i64 0, .bool false]) ?_ 6 _ rfl; (with_reducible repeat (first | refine blk_drewN ?_ _ | refine blk_drew ?_ | refine blk_alloc ?_ _)); refine blk_put (cs := #[.int .i64 0, .int .i64 0, .bool false, .bool false, .int .i64 t233, .int .i64 0, .int .i64 0, .bool false]) ?_ 5 _ rfl; (with_reducible repeat (first | refine blk_drewN ?_ _ | refine blk_drew ?_ | refine blk_alloc ?_ _)); refine blk_put (cs := #[.int .i64 0, .int .i64 0, .bool false, .bool false, .int .i64 0, .int .i64 0, .int .i64 0, .bool false]) ?_ 4 _ rfl; (with_reducible repeat (first | refine blk_drewN ?_ _ | refine blk_drew ?_ | refine blk_alloc ?_ _)); refine blk_put (cs := #[.int .i64 0, .int .i64 0, .bool false, .bool false, .int .i64 0, .int .i64 0, .int .i64 0, .bool false]) ?_ 3 _ rfl; (with_reducible repeat (first | refine blk_drewN ?_ _ | refine blk_drew ?_ | refine blk_alloc ?_ _)); refine blk_put (cs := #[.int .i64 0, .int .i64 0, .bool false, .bool false, .int .i64 0, .int .i64 0, .int .i64 0, .bool false]) ?_ 2 _ rfl; (with_reducible repeat (first | refine blk_drewN ?_ _ | refine blk_drew ?_ | refine blk_alloc ?_ _)); refine blk_put (cs := #[.int .i64 0, .int .i64 0, .bool false, .bool false, .int .i64 0, .int .i64 0, .int .i64 0, .bool false]) ?_ 1 _ rfl; (with_reducible repeat (first | refine blk_drewN ?_ _ | refine blk_drew ?_ | refine blk_alloc ?_ _)); refine blk_put (cs := #[.int .i64 0, .int .i64 0, .bool false, .bool false, .int .i64 0, .int .i64 0, .int .i64 0, .bool false]) ?_ 0 _ rfl; (with_reducible repeat (first | refine blk_drewN ?_ _ | refine blk_drew ?_ | refine blk_alloc ?_ _)); exact BK237.out))⟩; have n2_ : Aside0 (IsS26 w w122 gb225 l0 t232) := ⟨(by rw [hw]; exact (by repeat (first | (with_reducible first | exact HI225.out | apply IsS26.alloc | apply IsS26.drewN | apply IsS26.drew | apply IsS26.set_1 | refine IsS26.far ?_ NB225_230.out _ | refine IsS26.far ?_ NB225_237.out _) | exact HI225.out)))⟩; have n3_ : Aside0 (Below w.heap.size w w122) := ⟨(by rw [hw]; exact (by repeat (first | (with_reducible first | exact HB.out | apply below_alloc | apply pw_below_drewN | apply below_drew1 | refine below_set ?_ (IsS26.ge HI225.out) | refine below_set ?_ GE230.out | refine below_set ?_ GE237.out) | exact HB.out)))⟩; clear hw; clear BK230; clear BK237; clear HI225; clear HB; have BK230 := n0_; have BK237 := n1_; have HI225 := n2_; have HB := n3_; clear n0_ n1_ n2_ n3_; obtain ⟨hcz123_0, hcz123_1, hcz123_2, hcz123_3, hcz123_4, hcz123_5, hcz123_6, hcz123_7, hfz123_0, hfz123_1, hfz123_2, hfz123_3, hfz123_4, hfz123_5, hfz123_6, hfz123_7⟩ := tch8 BK237.out) | ((with_reducible refine gate_callee (f := 28) rfl ?_); refine goesL_ (some 27) rfl rfl Try.func28 (by kernel_rfl) rfl #[.agg #[.int .i64 0, .int .i64 0, .bool false, .bool false, .int .i64 t233, .int .i64 t234, .int .i64 t235, .bool t236], .int .i64 a1] rfl (by (try simp only [List.map_toArray, List.map_cons, List.map_nil]); first | done | rfl | (simp only [List.length_drop, List.length_take]; rfl)) ?_; (with_reducible refine (dome_Rotate.calls k 0 0 false false t233 t234 t235 t236 a1 t238 t239 t240 t241 t242 t243 t244 t245 t246 _ A8.out).mono ?_); rintro e w124 ⟨rfl, hb⟩; refine ⟨_, rfl, ?_⟩; have n0_ := Aside0.mk (IsS26.below (by exact HI225.out) hb); have n1_ := Aside0.mk (blk_below BK230.out hb); have n2_ := Aside0.mk (blk_below BK237.out hb); have n3_ := Aside0.mk (below_step (by exact HB.out) hb); clear HI225; clear BK230; clear BK237; clear HB; have HI225 := n0_; have BK230 := n1_; have BK237 := n2_; have HB := n3_; clear n0_ n1_ n2_ n3_; (try clear hb); (try clear hb2); (try clear hk); (try clear hi)) | ((with_reducible refine gate_dst (N := 8) rfl ?_); (try (refine gate_guard (by rfl) ?_; dsimp only)); refine box_event ?hg (N := 8) ?hd (cs := #[.int .i64 0, .int .i64 0, .bool false, .bool false, .int .i64 0, .int .i64 0, .int .i64 0, .bool false]) (t := 30) ?hr ?_; (case hd => rfl); (case hg => rfl); (case hr => first | (go_simp; done) | (go_simp; rfl)); intro gb247 hg w125 hbox hb; have n0_ := Aside0.mk (IsS26.below (by exact HI225.out) hb); have n1_ := Aside0.mk (blk_below BK230.out hb); have n2_ := Aside0.mk (blk_below BK237.out hb); have n3_ := Aside0.mk (below_step (by exact HB.out) hb); have n4_ := Aside0.mk (hbox); have n5_ := Aside0.mk ((by rw [hg]; exact (below_size (by exact HB.out)) : w.heap.size ≤ gb247)); have n6_ := Aside0.mk ((by rw [hg]; exact (below_size (by exact HB.out)) : w.heap.size ≤ gb247)); have n7_ := Aside0.mk ((by rw [hg]; exact Nat.ne_of_lt (blk_lt BK230.out) : gb230 ≠ gb247)); have n8_ := Aside0.mk ((by rw [hg]; exact Nat.ne_of_gt (blk_lt BK230.out) : gb247 ≠ gb230)); have n9_ := Aside0.mk ((by rw [hg]; exact Nat.ne_of_lt (blk_lt BK237.out) : gb237 ≠ gb247)); have n10_ := Aside0.mk ((by rw [hg]; exact Nat.ne_of_gt (blk_lt BK237.out) : gb247 ≠ gb237)); have n11_ := Aside0.mk ((by rw [hg]; exact Nat.ne_of_lt (IsS26.lt (show IsS26 w _ gb225 l0 t232 from by exact HI225.out)) : gb225 ≠ gb247)); have n12_ := Aside0.mk ((by rw [hg]; exact Nat.ne_of_gt (IsS26.lt (show IsS26 w _ gb225 l0 t232 from by exact HI225.out)) : gb247 ≠ gb225)); clear HI225; clear BK230; clear BK237; clear HB; have HI225 := n0_; have BK230 := n1_; have BK237 := n2_; have HB := n3_; have BK247 := n4_; have GW247 := n5_; have GE247 := n6_; have NB230_247 := n7_; have NB247_230 := n8_; have NB237_247 := n9_; have NB247_237 := n10_; have NB225_247 := n11_; have NB247_225 := n12_; clear n0_ n1_ n2_ n3_ n4_ n5_ n6_ n7_ n8_ n9_ n10_ n11_ n12_; clear hb hbox hg; have hnb126 := NB247_230.out; have hnc126 := NB230_247.out; have hnb127 := NB247_237.out; have hnc127 := NB237_247.out; have hnb128 := NB247_225.out; have hnc128 := NB225_247.out; obtain ⟨hcz129_0, hcz129_1, hcz129_2, hcz129_3, hcz129_4, hcz129_5, hcz129_6, hcz129_7, hfz129_0, hfz129_1, hfz129_2, hfz129_3, hfz129_4, hfz129_5, hfz129_6, hfz129_7⟩ := tch8 BK247.out) | ((with_reducible refine gate_store (t := 30) (p := 8) rfl ?_); refine store_event (t := 30) (p := 8) (v := ?vo_w130) (w1 := ((((((((w125.setCell ⟨gb247, 0, none⟩ (.int .i64 t238)).setCell ⟨gb247, 1, none⟩ (.int .i64 t239)).setCell ⟨gb247, 2, none⟩ (.bool t240)).setCell ⟨gb247, 3, none⟩ (.bool t241)).setCell ⟨gb247, 4, none⟩ (.int .i64 t242)).setCell ⟨gb247, 5, none⟩ (.int .i64 t243)).setCell ⟨gb247, 6, none⟩ (.int .i64 t244)).setCell ⟨gb247, 7, none⟩ (.bool t245))) ?hg ?ho ?hn ?hr ?_; (case ho => rfl); (case hg => rfl); (case hn => rfl); (case hr => first | (go_simp; done) | (go_simp; rfl)); intro w130 hw; have n0_ : Aside0 (w130.heap[gb230]? = some (.cells #[.int .i64 t226, .int .i64 t227, .int .i64 t228, .int .i64 t229] 60 (0, 0))) := ⟨(by rw [hw]; exact (by (with_reducible repeat (first | refine blk_drewN ?_ _ | refine blk_drew ?_ | refine blk_alloc ?_ _)); refine blk_far ?_ NB230_247.out _; (with_reducible repeat (first | refine blk_drewN ?_ _ | refine blk_drew ?_ | refine blk_alloc ?_ _)); refine blk_far ?_ NB230_247.out _; (with_reducible repeat (first | refine blk_drewN ?_ _ | refine blk_drew ?_ | refine blk_alloc ?_ _)); refine blk_far ?_ NB230_247.out _; (with_reducible repeat (first | refine blk_drewN ?_ _ | refine blk_drew ?_ | refine blk_alloc ?_ _)); refine blk_far ?_ NB230_247.out _; (with_reducible repeat (first | refine blk_drewN ?_ _ | refine blk_drew ?_ | refine blk_alloc ?_ _)); refine blk_far ?_ NB230_247.out _; (with_reducible repeat (first | refine blk_drewN ?_ _ | refine blk_drew ?_ | refine blk_alloc ?_ _)); refine blk_far ?_ NB230_247.out _; (with_reducible repeat (first | refine blk_drewN ?_ _ | refine blk_drew ?_ | refine blk_alloc ?_ _)); refine blk_far ?_ NB230_247.out _; (with_reducible repeat (first | refine blk_drewN ?_ _ | refine blk_drew ?_ | refine blk_alloc ?_ _)); refine blk_far ?_ NB230_247.out _; (with_reducible repeat (first | refine blk_drewN ?_ _ | refine blk_drew ?_ | refine blk_alloc ?_ _)); exact BK230.out))⟩; have n1_ : Aside0 (w130.heap[gb237]? = some (.cells #[.int .i64 0, .int .i64 0, .bool false, .bool false, .int .i64 t233, .int .i64 t234, .int .i64 t235, .bool t236] 30 (0, 0))) := ⟨(by rw [hw]; exact (by (with_reducible repeat (first | refine blk_drewN ?_ _ | refine blk_drew ?_ | refine blk_alloc ?_ _)); refine blk_far ?_ NB237_247.out _; (with_reducible repeat (first | refine blk_drewN ?_ _ | refine blk_drew ?_ | refine blk_alloc ?_ _)); refine blk_far ?_ NB237_247.out _; (with_reducible repeat (first | refine blk_drewN ?_ _ | refine blk_drew ?_ | refine blk_alloc ?_ _)); refine blk_far ?_ NB237_247.out _; (with_reducible repeat (first | refine blk_drewN ?_ _ | refine blk_drew ?_ | refine blk_alloc ?_ _)); refine blk_far ?_ NB237_247.out _; (with_reducible repeat (first | refine blk_drewN ?_ _ | refine blk_drew ?_ | refine blk_alloc ?_ _)); refine blk_far ?_ NB237_247.out _; (with_reducible repeat (first | refine blk_drewN ?_ _ | refine blk_drew ?_ | refine blk_alloc ?_ _)); refine blk_far ?_ NB237_247.out _; (with_reducible repeat (first | refine blk_drewN ?_ _ | refine blk_drew ?_ | refine blk_alloc ?_ _)); refine blk_far ?_ NB237_247.out _; (with_reducible repeat (first | refine blk_drewN ?_ _ | refine blk_drew ?_ | refine blk_alloc ?_ _)); refine blk_far ?_ NB237_247.out _; (with_reducible repeat (first | refine blk_drewN ?_ _ | refine blk_drew ?_ | refine blk_alloc ?_ _)); exact BK237.out))⟩; have n2_ : Aside0 (w130.heap[gb247]? = some (.cells #[.int .i64 t238, .int .i64 t239, .bool t240, .bool t241, .int .i64 t242, .int .i64 t243, .int .i64 t244, .bool t245] 30 (0, 0))) := ⟨(by rw [hw]; exact (by (with_reducible repeat (first | refine blk_drewN ?_ _ | refine blk_drew ?_ | refine blk_alloc ?_ _)); refine blk_put (cs := #[.int .i64 t238, .int .i64 t239, .bool t240, .bool t241, .int .i64 t242, .int .i64 t243, .int .i64 t244, .bool false]) ?_ 7 _ rfl; (with_reducible repeat (first | refine blk_drewN ?_ _ | refine blk_drew ?_ | refine blk_alloc ?_ _)); refine blk_put (cs := #[.int .i64 t238, .int .i64 t239, .bool t240, .bool t241, .int .i64 t242, .int .i64 t243, .int .i64 0, .bool false]) ?_ 6 _ rfl; (with_reducible repeat (first | refine blk_drewN ?_ _ | refine blk_drew ?_ | refine blk_alloc ?_ _)); refine blk_put (cs := #[.int .i64 t238, .int .i64 t239, .bool t240, .bool t241, .int .i64 t242, .int .i64 0, .int .i64 0, .bool false]) ?_ 5 _ rfl; (with_reducible repeat (first | refine blk_drewN ?_ _ | refine blk_drew ?_ | refine blk_alloc ?_ _)); refine blk_put (cs := #[.int .i64 t238, .int .i64 t239, .bool t240, .bool t241, .int .i64 0, .int .i64 0, .int .i64 0, .bool false]) ?_ 4 _ rfl; (with_reducible repeat (first | refine blk_drewN ?_ _ | refine blk_drew ?_ | refine blk_alloc ?_ _)); refine blk_put (cs := #[.int .i64 t238, .int .i64 t239, .bool t240, .bool false, .int .i64 0, .int .i64 0, .int .i64 0, .bool false]) ?_ 3 _ rfl; (with_reducible repeat (first | refine blk_drewN ?_ _ | refine blk_drew ?_ | refine blk_alloc ?_ _)); refine blk_put (cs := #[.int .i64 t238, .int .i64 t239, .bool false, .bool false, .int .i64 0, .int .i64 0, .int .i64 0, .bool false]) ?_ 2 _ rfl; (with_reducible repeat (first | refine blk_drewN ?_ _ | refine blk_drew ?_ | refine blk_alloc ?_ _)); refine blk_put (cs := #[.int .i64 t238, .int .i64 0, .bool false, .bool false, .int .i64 0, .int .i64 0, .int .i64 0, .bool false]) ?_ 1 _ rfl; (with_reducible repeat (first | refine blk_drewN ?_ _ | refine blk_drew ?_ | refine blk_alloc ?_ _)); refine blk_put (cs := #[.int .i64 0, .int .i64 0, .bool false, .bool false, .int .i64 0, .int .i64 0, .int .i64 0, .bool false]) ?_ 0 _ rfl; (with_reducible repeat (first | refine blk_drewN ?_ _ | refine blk_drew ?_ | refine blk_alloc ?_ _)); exact BK247.out))⟩; have n3_ : Aside0 (IsS26 w w130 gb225 l0 t232) := ⟨(by rw [hw]; exact (by repeat (first | (with_reducible first | exact HI225.out | apply IsS26.alloc | apply IsS26.drewN | apply IsS26.drew | apply IsS26.set_1 | refine IsS26.far ?_ NB225_230.out _ | refine IsS26.far ?_ NB225_237.out _ | refine IsS26.far ?_ NB225_247.out _) | exact HI225.out)))⟩; have n4_ : Aside0 (Below w.heap.size w w130) := ⟨(by rw [hw]; exact (by repeat (first | (with_reducible first | exact HB.out | apply below_alloc | apply pw_below_drewN | apply below_drew1 | refine below_set ?_ (IsS26.ge HI225.out) | refine below_set ?_ GE230.out | refine below_set ?_ GE237.out | refine below_set ?_ GE247.out) | exact HB.out)))⟩; clear hw; clear BK230; clear BK237; clear BK247; clear HI225; clear HB; have BK230 := n0_; have BK237 := n1_; have BK247 := n2_; have HI225 := n3_; have HB := n4_; clear n0_ n1_ n2_ n3_ n4_))
      go_ret
      exact ⟨by first | rfl | (simp [errW_none, errW_some] <;> rfl) | (simp [*, errW_none, errW_some] <;> rfl), by exact HB.out⟩
  · replace c4 := Bool.eq_false_iff.mpr c4
    subst c4
    have H1 : (some false) = some r := by rw [if_neg (show ¬ (false = true) by decide)] at H; exact H
    clear H
    have H := H1
    clear H1
    obtain rfl := Option.some.inj H
    go_enter Try.func9, Try.ntmps9
    go_wp2_with (first | ((with_reducible refine gate_callee (f := 10) rfl ?_); refine goesL_ (some 13) rfl rfl Try.func10 (by kernel_rfl) rfl #[] rfl (by (try simp only [List.map_toArray, List.map_cons, List.map_nil]); first | done | rfl | (simp only [List.length_drop, List.length_take]; rfl)) ?_; (with_reducible refine (spykeep2_turns.calls k  false _ A3.out).mono ?_); rintro e w131 ⟨rfl, hb⟩; refine ⟨_, rfl, ?_⟩; have n0_ := Aside0.mk (below_step (by exact HB.out) hb); clear HB; have HB := n0_; clear n0_; (try clear hb); (try clear hb2); (try clear hk); (try clear hi)))
    go_ret
    exact ⟨by first | rfl | (simp [errW_none, errW_some] <;> rfl) | (simp [*, errW_none, errW_some] <;> rfl), by exact HB.out⟩

/-- THE ONE PURE STATEMENT of spykeep2_DomeTurns: yours. -/
def spykeep2_DomeTurns.Pure : Prop := ∀ (l0 : List Int) (a1 : Int), l0.length ≤ maxLen → l0.length * 8 ≤ 140737488351232 → (∀ x ∈ l0, (Lit.int .i64 x).wf = true) → (Lit.int .i64 a1).wf = true → ∃ k, spykeep2_DomeTurns.f k l0 a1 = some true
theorem spykeep2_DomeTurns.walk (P : spykeep2_DomeTurns.Pure) (a0 : Option Addr) (len0 cap0 : Nat) (z0 : List Int) (a1 : Int) (w : World) (w0 : (a0 = none ∧ len0 = 0 ∧ cap0 = 0 ∧ z0 = []) ∨ ∃ x, a0 = some x ∧ len0 ≤ cap0 ∧ cap0 ≤ maxLen ∧ z0.length = cap0 ∧ (∀ i, i < z0.length → w.cell? (x.add i) = some (.int .i64 (z0.getD i 0))) ∧ ∀ n ∈ z0, (Lit.int .i64 n).wf = true) (y0 : len0 * 8 ≤ 140737488351232) (w1 : (Lit.int .i64 a1).wf = true) :
    Calls Try.prog 9 #[.slice a0 len0 cap0, .int .i64 a1] w fun e w' => e = .returned (.bool true) ∧ Below w.heap.size w w' := by
  obtain ⟨l0, rfl, hr0, hm0, hw0, hc0⟩ := ReadsInt.ofRowC w0
  obtain ⟨k, h⟩ := P l0 a1 hm0 y0 hw0 w1
  refine (spykeep2_DomeTurns.calls k _ _ l0 a1 true w (Kd.C_of_reads (d := (0 : Int)) (h1 := fun _ => rfl) hr0) hc0 h).mono ?_
  rintro e w' ⟨rfl, hd⟩
  exact ⟨rfl, hd⟩

end Go.Proofs.Ytdnnjbokdckilaa.PDomeTurns
