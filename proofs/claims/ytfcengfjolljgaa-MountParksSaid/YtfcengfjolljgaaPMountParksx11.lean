-- Written by a program of this session out of the translation (wip/tools).
import Derived.Test.YtfcengfjolljgaaPMountParksx0
import Derived.Test.YtfcengfjolljgaaPMountParksx1
import Derived.Test.YtfcengfjolljgaaPMountParksx2
import Derived.Test.YtfcengfjolljgaaPMountParksx4
import Derived.Test.YtfcengfjolljgaaPMountParksx6
import Derived.Test.YtfcengfjolljgaaPMountParksx7
import Derived.Test.YtfcengfjolljgaaPMountParksx8
import Derived.Test.YtfcengfjolljgaaPMountParksx9
import Derived.Test.YtfcengfjolljgaaPMountParksx10
namespace Go.Proofs.Ytfcengfjolljgaa.PMountParks
open Go.RowKit Go.Proofs.YtfcengfjolljgaaW.PrintWords Go.Proofs.YtfcengfjolljgaaW.PrintLast Go.Proofs.YtfcengfjolljgaaW.PrintMore
attribute [local go_sem] max2_int min2_int max_two min_two max_three min_three max_four min_four   -- for this text's walks alone
set_option linter.unusedVariables false
set_option linter.unusedSimpArgs false

attribute [local go_sem high] eqA37
/-! ### spykeep2_MountParks: function 4 -/
mutual
def spykeep2_MountParks.l0 : Nat → Int → Int → Int → Int → Int → Int → Int → Int → Int → Int → Int → Int → Int → Int → Int → Int → Bool → Int → Int → Int → Bool → Int → Option (Bool)
  | 0, _, _, _, _, _, _, _, _, _, _, _, _, _, _, _, _, _, _, _, _, _, _ => none
  | k + 1, x6, x36, x37, x357000, x357001, x357002, x357003, x357004, x357005, x357006, x357007, x357008, x357009, x381000, x381001, x381002, x381003, x381004, x381005, x381006, x381007, x381008 => if x37 < x36 then ((mount_Step.f k x357000 x357001 x357002 x357003 x357004 x357005 x357006 x357007 x357008 x357009 x381000 x381001 x381002 x381003 x381004 x381005 x381006 x381007 x381008).bind fun bt383 => (spykeep2_MountParks.l0 k x6 x36 (wrap64 (x37 + 1)) x357000 x357001 x357002 x357003 x357004 x357005 x357006 x357007 x357008 x357009 bt383.1 bt383.2.1 bt383.2.2.1 bt383.2.2.2.1 bt383.2.2.2.2.1 bt383.2.2.2.2.2.1 bt383.2.2.2.2.2.2.1 bt383.2.2.2.2.2.2.2.1 bt383.2.2.2.2.2.2.2.2)) else ((mount_Stop.f k x357000 x357001 x357002 x357003 x357004 x357005 x357006 x357007 x357008 x357009 x381000 x381001 x381002 x381003 x381004 x381005 x381006 x381007 x381008).bind fun bt392 => (spykeep2_MountParks.l1 k x6 bt392.2.2.2.2.2.2.2.2.2 0 x357000 x357001 x357002 x357003 x357004 x357005 x357006 x357007 x357008 x357009 bt392.1 bt392.2.1 bt392.2.2.1 bt392.2.2.2.1 bt392.2.2.2.2.1 bt392.2.2.2.2.2.1 bt392.2.2.2.2.2.2.1 bt392.2.2.2.2.2.2.2.1 bt392.2.2.2.2.2.2.2.2.1))
def spykeep2_MountParks.l1 : Nat → Int → Int → Int → Int → Int → Int → Int → Int → Int → Int → Int → Int → Int → Int → Int → Int → Bool → Int → Int → Int → Bool → Int → Option (Bool)
  | 0, _, _, _, _, _, _, _, _, _, _, _, _, _, _, _, _, _, _, _, _, _, _ => none
  | k + 1, x6, x7, x49, x357000, x357001, x357002, x357003, x357004, x357005, x357006, x357007, x357008, x357009, x381000, x381001, x381002, x381003, x381004, x381005, x381006, x381007, x381008 => if x49 < 65 then ((mount_Step.f k x357000 x357001 x357002 x357003 x357004 x357005 x357006 x357007 x357008 x357009 x381000 x381001 x381002 x381003 x381004 x381005 x381006 x381007 x381008).bind fun bt402 => (spykeep2_MountParks.l1 k x6 x7 (wrap64 (x49 + 1)) x357000 x357001 x357002 x357003 x357004 x357005 x357006 x357007 x357008 x357009 bt402.1 bt402.2.1 bt402.2.2.1 bt402.2.2.2.1 bt402.2.2.2.2.1 bt402.2.2.2.2.2.1 bt402.2.2.2.2.2.2.1 bt402.2.2.2.2.2.2.2.1 bt402.2.2.2.2.2.2.2.2)) else (if x6 = 0 then (if x7 = 0 then (spykeep2_MountParks.j2 k (x381008 != 1) x357000 x357001 x357002 x357003 x357004 x357005 x357006 x357007 x357008 x357009 x381000 x381001 x381002 x381003 x381004 x381005 x381006 x381007 x381008) else (spykeep2_MountParks.j2 k true x357000 x357001 x357002 x357003 x357004 x357005 x357006 x357007 x357008 x357009 x381000 x381001 x381002 x381003 x381004 x381005 x381006 x381007 x381008)) else (spykeep2_MountParks.j2 k true x357000 x357001 x357002 x357003 x357004 x357005 x357006 x357007 x357008 x357009 x381000 x381001 x381002 x381003 x381004 x381005 x381006 x381007 x381008))
def spykeep2_MountParks.j2 : Nat → Bool → Int → Int → Int → Int → Int → Int → Int → Int → Int → Int → Int → Int → Int → Bool → Int → Int → Int → Bool → Int → Option (Bool)
  | 0, _, _, _, _, _, _, _, _, _, _, _, _, _, _, _, _, _, _, _, _ => none
  | k + 1, x65, x357000, x357001, x357002, x357003, x357004, x357005, x357006, x357007, x357008, x357009, x381000, x381001, x381002, x381003, x381004, x381005, x381006, x381007, x381008 => if x65 = true then (some false) else ((slew_Steps.f k x357000 x357001 x357002 x357003 x381000 x357008).bind fun bt411 => ((slew_Steps.f k x357004 x357005 x357006 x357007 x381004 x357009).bind fun bt413 => ((mount_Park.f k x357000 x357001 x357002 x357003 x357004 x357005 x357006 x357007 x357008 x357009 x381000 x381001 x381002 x381003 x381004 x381005 x381006 x381007 x381008).bind fun bt415 => (spykeep2_MountParks.l2 k bt415.2.2.2.2.2.2.2.2.2 (mx (mx bt411.1 bt413.1) 1) 0 x357000 x357001 x357002 x357003 x357004 x357005 x357006 x357007 x357008 x357009 bt415.1 bt415.2.1 bt415.2.2.1 bt415.2.2.2.1 bt415.2.2.2.2.1 bt415.2.2.2.2.2.1 bt415.2.2.2.2.2.2.1 bt415.2.2.2.2.2.2.2.1 bt415.2.2.2.2.2.2.2.2.1))))
def spykeep2_MountParks.l2 : Nat → Int → Int → Int → Int → Int → Int → Int → Int → Int → Int → Int → Int → Int → Int → Int → Int → Bool → Int → Int → Int → Bool → Int → Option (Bool)
  | 0, _, _, _, _, _, _, _, _, _, _, _, _, _, _, _, _, _, _, _, _, _, _ => none
  | k + 1, x6, x98, x99, x357000, x357001, x357002, x357003, x357004, x357005, x357006, x357007, x357008, x357009, x381000, x381001, x381002, x381003, x381004, x381005, x381006, x381007, x381008 => if x99 < x98 then ((mount_Step.f k x357000 x357001 x357002 x357003 x357004 x357005 x357006 x357007 x357008 x357009 x381000 x381001 x381002 x381003 x381004 x381005 x381006 x381007 x381008).bind fun bt425 => (spykeep2_MountParks.l2 k x6 x98 (wrap64 (x99 + 1)) x357000 x357001 x357002 x357003 x357004 x357005 x357006 x357007 x357008 x357009 bt425.1 bt425.2.1 bt425.2.2.1 bt425.2.2.2.1 bt425.2.2.2.2.1 bt425.2.2.2.2.2.1 bt425.2.2.2.2.2.2.1 bt425.2.2.2.2.2.2.2.1 bt425.2.2.2.2.2.2.2.2)) else (if x6 = 0 then ((mount_Rest.f x357000 x357001 x357002 x357003 x357004 x357005 x357006 x357007 x357008 x357009).bind fun bt434 => (some ((x381000 == bt434.1 && (x381001 == bt434.2.1 && (x381002 == bt434.2.2.1 && (x381003 == bt434.2.2.2.1)))) && ((x381004 == bt434.2.2.2.2.1 && (x381005 == bt434.2.2.2.2.2.1 && (x381006 == bt434.2.2.2.2.2.2.1 && (x381007 == bt434.2.2.2.2.2.2.2.1)))) && (x381008 == bt434.2.2.2.2.2.2.2.2))))) else (some false))
end
def spykeep2_MountParks.f (k : Nat) (l0 : List Int) : Option (Bool) := (spykeep2_drives.f k).bind fun t343 => (if t343 = true then ((spymake_Stream_Mount.f k l0 0).bind fun bt345 => ((mount_Rest.f bt345.1 bt345.2.1 bt345.2.2.1 bt345.2.2.2.1 bt345.2.2.2.2.1 bt345.2.2.2.2.2.1 bt345.2.2.2.2.2.2.1 bt345.2.2.2.2.2.2.2.1 bt345.2.2.2.2.2.2.2.2.1 bt345.2.2.2.2.2.2.2.2.2.1).bind fun bt357 => ((spymake_Stream_Inside.f l0 bt345.2.2.2.2.2.2.2.2.2.2 bt345.1 bt345.2.1 bt345.2.2.1 bt345.2.2.2.1).bind fun bt366 => ((spymake_Stream_Inside.f l0 bt366.2 bt345.2.2.2.2.1 bt345.2.2.2.2.2.1 bt345.2.2.2.2.2.2.1 bt345.2.2.2.2.2.2.2.1).bind fun bt368 => ((mount_Goto.f k bt345.1 bt345.2.1 bt345.2.2.1 bt345.2.2.2.1 bt345.2.2.2.2.1 bt345.2.2.2.2.2.1 bt345.2.2.2.2.2.2.1 bt345.2.2.2.2.2.2.2.1 bt345.2.2.2.2.2.2.2.2.1 bt345.2.2.2.2.2.2.2.2.2.1 bt357.1 bt357.2.1 bt357.2.2.1 bt357.2.2.2.1 bt357.2.2.2.2.1 bt357.2.2.2.2.2.1 bt357.2.2.2.2.2.2.1 bt357.2.2.2.2.2.2.2.1 bt357.2.2.2.2.2.2.2.2 bt366.1 bt368.1).bind fun bt370 => ((spymake_Stream_Next.f l0 bt368.2 40).bind fun bt381 => (spykeep2_MountParks.l0 k bt370.2.2.2.2.2.2.2.2.2 bt381.1 0 bt345.1 bt345.2.1 bt345.2.2.1 bt345.2.2.2.1 bt345.2.2.2.2.1 bt345.2.2.2.2.2.1 bt345.2.2.2.2.2.2.1 bt345.2.2.2.2.2.2.2.1 bt345.2.2.2.2.2.2.2.2.1 bt345.2.2.2.2.2.2.2.2.2.1 bt370.1 bt370.2.1 bt370.2.2.1 bt370.2.2.2.1 bt370.2.2.2.2.1 bt370.2.2.2.2.2.1 bt370.2.2.2.2.2.2.1 bt370.2.2.2.2.2.2.2.1 bt370.2.2.2.2.2.2.2.2.1))))))) else (some false))
theorem spykeep2_MountParks.mono_l : ∀ k, (∀ y0 y1 y2 y3 y4 y5 y6 y7 y8 y9 y10 y11 y12 y13 y14 y15 y16 y17 y18 y19 y20 y21, LeO (spykeep2_MountParks.l0 k y0 y1 y2 y3 y4 y5 y6 y7 y8 y9 y10 y11 y12 y13 y14 y15 y16 y17 y18 y19 y20 y21) (spykeep2_MountParks.l0 (k + 1) y0 y1 y2 y3 y4 y5 y6 y7 y8 y9 y10 y11 y12 y13 y14 y15 y16 y17 y18 y19 y20 y21)) ∧ (∀ y0 y1 y2 y3 y4 y5 y6 y7 y8 y9 y10 y11 y12 y13 y14 y15 y16 y17 y18 y19 y20 y21, LeO (spykeep2_MountParks.l1 k y0 y1 y2 y3 y4 y5 y6 y7 y8 y9 y10 y11 y12 y13 y14 y15 y16 y17 y18 y19 y20 y21) (spykeep2_MountParks.l1 (k + 1) y0 y1 y2 y3 y4 y5 y6 y7 y8 y9 y10 y11 y12 y13 y14 y15 y16 y17 y18 y19 y20 y21)) ∧ (∀ y0 y1 y2 y3 y4 y5 y6 y7 y8 y9 y10 y11 y12 y13 y14 y15 y16 y17 y18 y19, LeO (spykeep2_MountParks.j2 k y0 y1 y2 y3 y4 y5 y6 y7 y8 y9 y10 y11 y12 y13 y14 y15 y16 y17 y18 y19) (spykeep2_MountParks.j2 (k + 1) y0 y1 y2 y3 y4 y5 y6 y7 y8 y9 y10 y11 y12 y13 y14 y15 y16 y17 y18 y19)) ∧ (∀ y0 y1 y2 y3 y4 y5 y6 y7 y8 y9 y10 y11 y12 y13 y14 y15 y16 y17 y18 y19 y20 y21, LeO (spykeep2_MountParks.l2 k y0 y1 y2 y3 y4 y5 y6 y7 y8 y9 y10 y11 y12 y13 y14 y15 y16 y17 y18 y19 y20 y21) (spykeep2_MountParks.l2 (k + 1) y0 y1 y2 y3 y4 y5 y6 y7 y8 y9 y10 y11 y12 y13 y14 y15 y16 y17 y18 y19 y20 y21))
  | 0 => ⟨fun _ _ _ _ _ _ _ _ _ _ _ _ _ _ _ _ _ _ _ _ _ _ r h => by simp [spykeep2_MountParks.l0] at h, fun _ _ _ _ _ _ _ _ _ _ _ _ _ _ _ _ _ _ _ _ _ _ r h => by simp [spykeep2_MountParks.l1] at h, fun _ _ _ _ _ _ _ _ _ _ _ _ _ _ _ _ _ _ _ _ r h => by simp [spykeep2_MountParks.j2] at h, fun _ _ _ _ _ _ _ _ _ _ _ _ _ _ _ _ _ _ _ _ _ _ r h => by simp [spykeep2_MountParks.l2] at h⟩
  | k + 1 => by
    obtain ⟨ih0, ih1, ih2, ih3⟩ := spykeep2_MountParks.mono_l k
    refine ⟨?_, ?_, ?_, ?_⟩
    · intro y0 y1 y2 y3 y4 y5 y6 y7 y8 y9 y10 y11 y12 y13 y14 y15 y16 y17 y18 y19 y20 y21
      unfold spykeep2_MountParks.l0
      repeat' first
      | (with_reducible exact ih0 _ _ _ _ _ _ _ _ _ _ _ _ _ _ _ _ _ _ _ _ _ _)
      | (with_reducible exact ih1 _ _ _ _ _ _ _ _ _ _ _ _ _ _ _ _ _ _ _ _ _ _)
      | (with_reducible exact ih2 _ _ _ _ _ _ _ _ _ _ _ _ _ _ _ _ _ _ _ _)
      | (with_reducible exact ih3 _ _ _ _ _ _ _ _ _ _ _ _ _ _ _ _ _ _ _ _ _ _)
      | (with_reducible exact mount_Goto.mono _ _ _ _ _ _ _ _ _ _ _ _ _ _ _ _ _ _ _ _ _ _)
      | (with_reducible exact mount_Park.mono _ _ _ _ _ _ _ _ _ _ _ _ _ _ _ _ _ _ _ _)
      | (with_reducible exact mount_Step.mono _ _ _ _ _ _ _ _ _ _ _ _ _ _ _ _ _ _ _ _)
      | (with_reducible exact mount_Stop.mono _ _ _ _ _ _ _ _ _ _ _ _ _ _ _ _ _ _ _ _)
      | (with_reducible exact slew_Steps.mono _ _ _ _ _ _ _)
      | (with_reducible exact spykeep2_drives.mono _)
      | (with_reducible exact spymake_Stream_Mount.mono _ _ _)
      | (with_reducible exact LeO.refl _)
      | (with_reducible exact LeO.none _)
      | (with_reducible refine LeO.ite ?_ ?_)
      | (with_reducible refine LeO.bind ?_ (fun _ => ?_))
      | exact ih0 _ _ _ _ _ _ _ _ _ _ _ _ _ _ _ _ _ _ _ _ _ _
      | exact ih1 _ _ _ _ _ _ _ _ _ _ _ _ _ _ _ _ _ _ _ _ _ _
      | exact ih2 _ _ _ _ _ _ _ _ _ _ _ _ _ _ _ _ _ _ _ _
      | exact ih3 _ _ _ _ _ _ _ _ _ _ _ _ _ _ _ _ _ _ _ _ _ _
      | exact mount_Goto.mono _ _ _ _ _ _ _ _ _ _ _ _ _ _ _ _ _ _ _ _ _ _
      | exact mount_Park.mono _ _ _ _ _ _ _ _ _ _ _ _ _ _ _ _ _ _ _ _
      | exact mount_Step.mono _ _ _ _ _ _ _ _ _ _ _ _ _ _ _ _ _ _ _ _
      | exact mount_Stop.mono _ _ _ _ _ _ _ _ _ _ _ _ _ _ _ _ _ _ _ _
      | exact slew_Steps.mono _ _ _ _ _ _ _
      | exact spykeep2_drives.mono _
      | exact spymake_Stream_Mount.mono _ _ _
      | exact LeO.none _
      | refine LeO.ite ?_ ?_
      | refine LeO.bind ?_ (fun _ => ?_)
    · intro y0 y1 y2 y3 y4 y5 y6 y7 y8 y9 y10 y11 y12 y13 y14 y15 y16 y17 y18 y19 y20 y21
      unfold spykeep2_MountParks.l1
      repeat' first
      | (with_reducible exact ih0 _ _ _ _ _ _ _ _ _ _ _ _ _ _ _ _ _ _ _ _ _ _)
      | (with_reducible exact ih1 _ _ _ _ _ _ _ _ _ _ _ _ _ _ _ _ _ _ _ _ _ _)
      | (with_reducible exact ih2 _ _ _ _ _ _ _ _ _ _ _ _ _ _ _ _ _ _ _ _)
      | (with_reducible exact ih3 _ _ _ _ _ _ _ _ _ _ _ _ _ _ _ _ _ _ _ _ _ _)
      | (with_reducible exact mount_Goto.mono _ _ _ _ _ _ _ _ _ _ _ _ _ _ _ _ _ _ _ _ _ _)
      | (with_reducible exact mount_Park.mono _ _ _ _ _ _ _ _ _ _ _ _ _ _ _ _ _ _ _ _)
      | (with_reducible exact mount_Step.mono _ _ _ _ _ _ _ _ _ _ _ _ _ _ _ _ _ _ _ _)
      | (with_reducible exact mount_Stop.mono _ _ _ _ _ _ _ _ _ _ _ _ _ _ _ _ _ _ _ _)
      | (with_reducible exact slew_Steps.mono _ _ _ _ _ _ _)
      | (with_reducible exact spykeep2_drives.mono _)
      | (with_reducible exact spymake_Stream_Mount.mono _ _ _)
      | (with_reducible exact LeO.refl _)
      | (with_reducible exact LeO.none _)
      | (with_reducible refine LeO.ite ?_ ?_)
      | (with_reducible refine LeO.bind ?_ (fun _ => ?_))
      | exact ih0 _ _ _ _ _ _ _ _ _ _ _ _ _ _ _ _ _ _ _ _ _ _
      | exact ih1 _ _ _ _ _ _ _ _ _ _ _ _ _ _ _ _ _ _ _ _ _ _
      | exact ih2 _ _ _ _ _ _ _ _ _ _ _ _ _ _ _ _ _ _ _ _
      | exact ih3 _ _ _ _ _ _ _ _ _ _ _ _ _ _ _ _ _ _ _ _ _ _
      | exact mount_Goto.mono _ _ _ _ _ _ _ _ _ _ _ _ _ _ _ _ _ _ _ _ _ _
      | exact mount_Park.mono _ _ _ _ _ _ _ _ _ _ _ _ _ _ _ _ _ _ _ _
      | exact mount_Step.mono _ _ _ _ _ _ _ _ _ _ _ _ _ _ _ _ _ _ _ _
      | exact mount_Stop.mono _ _ _ _ _ _ _ _ _ _ _ _ _ _ _ _ _ _ _ _
      | exact slew_Steps.mono _ _ _ _ _ _ _
      | exact spykeep2_drives.mono _
      | exact spymake_Stream_Mount.mono _ _ _
      | exact LeO.none _
      | refine LeO.ite ?_ ?_
      | refine LeO.bind ?_ (fun _ => ?_)
    · intro y0 y1 y2 y3 y4 y5 y6 y7 y8 y9 y10 y11 y12 y13 y14 y15 y16 y17 y18 y19
      unfold spykeep2_MountParks.j2
      repeat' first
      | (with_reducible exact ih0 _ _ _ _ _ _ _ _ _ _ _ _ _ _ _ _ _ _ _ _ _ _)
      | (with_reducible exact ih1 _ _ _ _ _ _ _ _ _ _ _ _ _ _ _ _ _ _ _ _ _ _)
      | (with_reducible exact ih2 _ _ _ _ _ _ _ _ _ _ _ _ _ _ _ _ _ _ _ _)
      | (with_reducible exact ih3 _ _ _ _ _ _ _ _ _ _ _ _ _ _ _ _ _ _ _ _ _ _)
      | (with_reducible exact mount_Goto.mono _ _ _ _ _ _ _ _ _ _ _ _ _ _ _ _ _ _ _ _ _ _)
      | (with_reducible exact mount_Park.mono _ _ _ _ _ _ _ _ _ _ _ _ _ _ _ _ _ _ _ _)
      | (with_reducible exact mount_Step.mono _ _ _ _ _ _ _ _ _ _ _ _ _ _ _ _ _ _ _ _)
      | (with_reducible exact mount_Stop.mono _ _ _ _ _ _ _ _ _ _ _ _ _ _ _ _ _ _ _ _)
      | (with_reducible exact slew_Steps.mono _ _ _ _ _ _ _)
      | (with_reducible exact spykeep2_drives.mono _)
      | (with_reducible exact spymake_Stream_Mount.mono _ _ _)
      | (with_reducible exact LeO.refl _)
      | (with_reducible exact LeO.none _)
      | (with_reducible refine LeO.ite ?_ ?_)
      | (with_reducible refine LeO.bind ?_ (fun _ => ?_))
      | exact ih0 _ _ _ _ _ _ _ _ _ _ _ _ _ _ _ _ _ _ _ _ _ _
      | exact ih1 _ _ _ _ _ _ _ _ _ _ _ _ _ _ _ _ _ _ _ _ _ _
      | exact ih2 _ _ _ _ _ _ _ _ _ _ _ _ _ _ _ _ _ _ _ _
      | exact ih3 _ _ _ _ _ _ _ _ _ _ _ _ _ _ _ _ _ _ _ _ _ _
      | exact mount_Goto.mono _ _ _ _ _ _ _ _ _ _ _ _ _ _ _ _ _ _ _ _ _ _
      | exact mount_Park.mono _ _ _ _ _ _ _ _ _ _ _ _ _ _ _ _ _ _ _ _
      | exact mount_Step.mono _ _ _ _ _ _ _ _ _ _ _ _ _ _ _ _ _ _ _ _
      | exact mount_Stop.mono _ _ _ _ _ _ _ _ _ _ _ _ _ _ _ _ _ _ _ _
      | exact slew_Steps.mono _ _ _ _ _ _ _
      | exact spykeep2_drives.mono _
      | exact spymake_Stream_Mount.mono _ _ _
      | exact LeO.none _
      | refine LeO.ite ?_ ?_
      | refine LeO.bind ?_ (fun _ => ?_)
    · intro y0 y1 y2 y3 y4 y5 y6 y7 y8 y9 y10 y11 y12 y13 y14 y15 y16 y17 y18 y19 y20 y21
      unfold spykeep2_MountParks.l2
      repeat' first
      | (with_reducible exact ih0 _ _ _ _ _ _ _ _ _ _ _ _ _ _ _ _ _ _ _ _ _ _)
      | (with_reducible exact ih1 _ _ _ _ _ _ _ _ _ _ _ _ _ _ _ _ _ _ _ _ _ _)
      | (with_reducible exact ih2 _ _ _ _ _ _ _ _ _ _ _ _ _ _ _ _ _ _ _ _)
      | (with_reducible exact ih3 _ _ _ _ _ _ _ _ _ _ _ _ _ _ _ _ _ _ _ _ _ _)
      | (with_reducible exact mount_Goto.mono _ _ _ _ _ _ _ _ _ _ _ _ _ _ _ _ _ _ _ _ _ _)
      | (with_reducible exact mount_Park.mono _ _ _ _ _ _ _ _ _ _ _ _ _ _ _ _ _ _ _ _)
      | (with_reducible exact mount_Step.mono _ _ _ _ _ _ _ _ _ _ _ _ _ _ _ _ _ _ _ _)
      | (with_reducible exact mount_Stop.mono _ _ _ _ _ _ _ _ _ _ _ _ _ _ _ _ _ _ _ _)
      | (with_reducible exact slew_Steps.mono _ _ _ _ _ _ _)
      | (with_reducible exact spykeep2_drives.mono _)
      | (with_reducible exact spymake_Stream_Mount.mono _ _ _)
      | (with_reducible exact LeO.refl _)
      | (with_reducible exact LeO.none _)
      | (with_reducible refine LeO.ite ?_ ?_)
      | (with_reducible refine LeO.bind ?_ (fun _ => ?_))
      | exact ih0 _ _ _ _ _ _ _ _ _ _ _ _ _ _ _ _ _ _ _ _ _ _
      | exact ih1 _ _ _ _ _ _ _ _ _ _ _ _ _ _ _ _ _ _ _ _ _ _
      | exact ih2 _ _ _ _ _ _ _ _ _ _ _ _ _ _ _ _ _ _ _ _
      | exact ih3 _ _ _ _ _ _ _ _ _ _ _ _ _ _ _ _ _ _ _ _ _ _
      | exact mount_Goto.mono _ _ _ _ _ _ _ _ _ _ _ _ _ _ _ _ _ _ _ _ _ _
      | exact mount_Park.mono _ _ _ _ _ _ _ _ _ _ _ _ _ _ _ _ _ _ _ _
      | exact mount_Step.mono _ _ _ _ _ _ _ _ _ _ _ _ _ _ _ _ _ _ _ _
      | exact mount_Stop.mono _ _ _ _ _ _ _ _ _ _ _ _ _ _ _ _ _ _ _ _
      | exact slew_Steps.mono _ _ _ _ _ _ _
      | exact spykeep2_drives.mono _
      | exact spymake_Stream_Mount.mono _ _ _
      | exact LeO.none _
      | refine LeO.ite ?_ ?_
      | refine LeO.bind ?_ (fun _ => ?_)
theorem spykeep2_MountParks.mono : ∀ a0 k, LeO (spykeep2_MountParks.f k a0) (spykeep2_MountParks.f (k + 1) a0) := by
  intro a0 k
  obtain ⟨ih0, ih1, ih2, ih3⟩ := spykeep2_MountParks.mono_l k
  unfold spykeep2_MountParks.f
  repeat' first
      | (with_reducible exact ih0 _ _ _ _ _ _ _ _ _ _ _ _ _ _ _ _ _ _ _ _ _ _)
      | (with_reducible exact ih1 _ _ _ _ _ _ _ _ _ _ _ _ _ _ _ _ _ _ _ _ _ _)
      | (with_reducible exact ih2 _ _ _ _ _ _ _ _ _ _ _ _ _ _ _ _ _ _ _ _)
      | (with_reducible exact ih3 _ _ _ _ _ _ _ _ _ _ _ _ _ _ _ _ _ _ _ _ _ _)
      | (with_reducible exact mount_Goto.mono _ _ _ _ _ _ _ _ _ _ _ _ _ _ _ _ _ _ _ _ _ _)
      | (with_reducible exact mount_Park.mono _ _ _ _ _ _ _ _ _ _ _ _ _ _ _ _ _ _ _ _)
      | (with_reducible exact mount_Step.mono _ _ _ _ _ _ _ _ _ _ _ _ _ _ _ _ _ _ _ _)
      | (with_reducible exact mount_Stop.mono _ _ _ _ _ _ _ _ _ _ _ _ _ _ _ _ _ _ _ _)
      | (with_reducible exact slew_Steps.mono _ _ _ _ _ _ _)
      | (with_reducible exact spykeep2_drives.mono _)
      | (with_reducible exact spymake_Stream_Mount.mono _ _ _)
      | (with_reducible exact LeO.refl _)
      | (with_reducible exact LeO.none _)
      | (with_reducible refine LeO.ite ?_ ?_)
      | (with_reducible refine LeO.bind ?_ (fun _ => ?_))
      | exact ih0 _ _ _ _ _ _ _ _ _ _ _ _ _ _ _ _ _ _ _ _ _ _
      | exact ih1 _ _ _ _ _ _ _ _ _ _ _ _ _ _ _ _ _ _ _ _ _ _
      | exact ih2 _ _ _ _ _ _ _ _ _ _ _ _ _ _ _ _ _ _ _ _
      | exact ih3 _ _ _ _ _ _ _ _ _ _ _ _ _ _ _ _ _ _ _ _ _ _
      | exact mount_Goto.mono _ _ _ _ _ _ _ _ _ _ _ _ _ _ _ _ _ _ _ _ _ _
      | exact mount_Park.mono _ _ _ _ _ _ _ _ _ _ _ _ _ _ _ _ _ _ _ _
      | exact mount_Step.mono _ _ _ _ _ _ _ _ _ _ _ _ _ _ _ _ _ _ _ _
      | exact mount_Stop.mono _ _ _ _ _ _ _ _ _ _ _ _ _ _ _ _ _ _ _ _
      | exact slew_Steps.mono _ _ _ _ _ _ _
      | exact spykeep2_drives.mono _
      | exact spymake_Stream_Mount.mono _ _ _
      | exact LeO.none _
      | refine LeO.ite ?_ ?_
      | refine LeO.bind ?_ (fun _ => ?_)
def spykeep2_MountParks.T5 : Bool × List (List Nat × List Nat) := (true, [([], []), ([], []), ([1], [1]), ([], []), ([], []), ([4], [4]), ([3, 5, 2], [3, 5]), ([], []), ([], []), ([8], [8]), ([7, 9, 6], [7, 9]), ([6, 10], [6, 10]), ([0, 2, 11, 10], [0, 2, 11]), ([12], [12]), ([13], [13]), ([13], [13]), ([], []), ([16, 14, 12, 0, 1, 2, 3, 4, 5, 6, 7, 8, 9, 10, 11, 12, 13, 14, 16], [14, 16]), ([15, 17, 0, 1, 2, 3, 4, 5, 6, 7, 8, 9, 10, 11, 12, 13, 14, 15, 16, 17], [15])])
def spykeep2_MountParks.B5 : List Nat := [0, 0, 2, 0, 0, 16, 62, 0, 0, 256, 1022, 2046, 4095, 8191, 16383, 16383, 0, 98303, 262143]
theorem spykeep2_MountParks.tab5 : rtab .any (opsOf Try.f4 5) = spykeep2_MountParks.T5 := by kernel_rfl
theorem spykeep2_MountParks.bits5 : waitsOk spykeep2_MountParks.T5.2 spykeep2_MountParks.B5 = true := by kernel_rfl
def spykeep2_MountParks.T24 : Bool × List (List Nat × List Nat) := (true, [([], []), ([0], [0]), ([1], [1]), ([2], [2]), ([2], [2]), ([4, 2, 2], [2, 4]), ([3, 5, 2], [2, 3, 5]), ([2, 6], [2, 6]), ([7, 5, 0, 1, 2, 3, 4, 5, 6, 7], [7])])
def spykeep2_MountParks.B24 : List Nat := [0, 1, 3, 7, 7, 23, 63, 127, 255]
theorem spykeep2_MountParks.tab24 : rtab .any (opsOf Try.f4 24) = spykeep2_MountParks.T24 := by kernel_rfl
theorem spykeep2_MountParks.bits24 : waitsOk spykeep2_MountParks.T24.2 spykeep2_MountParks.B24 = true := by kernel_rfl
set_option maxHeartbeats 8000000 in
set_option maxRecDepth 100000 in
theorem spykeep2_MountParks.calls (k : Nat) (A0 : Option Addr) (c0 : Nat) (l0 : List Int) (r : Bool) (w : World) (hr0 : Kd.C (Kd.int .i64) w A0 l0.length l0) (hc0 : l0.length ≤ c0) (h : spykeep2_MountParks.f k l0 = some r) :
    Calls Try.prog 4 #[.slice A0 l0.length c0] w fun e w' => e = .returned (.bool r) ∧ Below w.heap.size w w' := by
  have hu26 := Try.underlying26
  have hu32 := Try.underlying32
  have hu28 := Try.underlying28
  have hu30 := Try.underlying30
  have hu37 := Try.underlying37
  have HR0 := Aside0.mk hr0
  have HC0 := Aside0.mk hc0
  clear hr0 hc0
  have HB := Aside0.mk (Below.refl w.heap.size w)
  have H : ((spykeep2_drives.f k).bind fun t343 => (if t343 = true then ((spymake_Stream_Mount.f k l0 0).bind fun bt345 => ((mount_Rest.f bt345.1 bt345.2.1 bt345.2.2.1 bt345.2.2.2.1 bt345.2.2.2.2.1 bt345.2.2.2.2.2.1 bt345.2.2.2.2.2.2.1 bt345.2.2.2.2.2.2.2.1 bt345.2.2.2.2.2.2.2.2.1 bt345.2.2.2.2.2.2.2.2.2.1).bind fun bt357 => ((spymake_Stream_Inside.f l0 bt345.2.2.2.2.2.2.2.2.2.2 bt345.1 bt345.2.1 bt345.2.2.1 bt345.2.2.2.1).bind fun bt366 => ((spymake_Stream_Inside.f l0 bt366.2 bt345.2.2.2.2.1 bt345.2.2.2.2.2.1 bt345.2.2.2.2.2.2.1 bt345.2.2.2.2.2.2.2.1).bind fun bt368 => ((mount_Goto.f k bt345.1 bt345.2.1 bt345.2.2.1 bt345.2.2.2.1 bt345.2.2.2.2.1 bt345.2.2.2.2.2.1 bt345.2.2.2.2.2.2.1 bt345.2.2.2.2.2.2.2.1 bt345.2.2.2.2.2.2.2.2.1 bt345.2.2.2.2.2.2.2.2.2.1 bt357.1 bt357.2.1 bt357.2.2.1 bt357.2.2.2.1 bt357.2.2.2.2.1 bt357.2.2.2.2.2.1 bt357.2.2.2.2.2.2.1 bt357.2.2.2.2.2.2.2.1 bt357.2.2.2.2.2.2.2.2 bt366.1 bt368.1).bind fun bt370 => ((spymake_Stream_Next.f l0 bt368.2 40).bind fun bt381 => (spykeep2_MountParks.l0 k bt370.2.2.2.2.2.2.2.2.2 bt381.1 0 bt345.1 bt345.2.1 bt345.2.2.1 bt345.2.2.2.1 bt345.2.2.2.2.1 bt345.2.2.2.2.2.1 bt345.2.2.2.2.2.2.1 bt345.2.2.2.2.2.2.2.1 bt345.2.2.2.2.2.2.2.2.1 bt345.2.2.2.2.2.2.2.2.2.1 bt370.1 bt370.2.1 bt370.2.2.1 bt370.2.2.2.1 bt370.2.2.2.2.1 bt370.2.2.2.2.2.1 bt370.2.2.2.2.2.2.1 bt370.2.2.2.2.2.2.2.1 bt370.2.2.2.2.2.2.2.2.1))))))) else (some false))) = some r := h
  clear h
  replace H := Option.bind_eq_some_iff.mp H
  obtain ⟨t343, A20, H⟩ := H
  replace H : (if t343 = true then ((spymake_Stream_Mount.f k l0 0).bind fun bt345 => ((mount_Rest.f bt345.1 bt345.2.1 bt345.2.2.1 bt345.2.2.2.1 bt345.2.2.2.2.1 bt345.2.2.2.2.2.1 bt345.2.2.2.2.2.2.1 bt345.2.2.2.2.2.2.2.1 bt345.2.2.2.2.2.2.2.2.1 bt345.2.2.2.2.2.2.2.2.2.1).bind fun bt357 => ((spymake_Stream_Inside.f l0 bt345.2.2.2.2.2.2.2.2.2.2 bt345.1 bt345.2.1 bt345.2.2.1 bt345.2.2.2.1).bind fun bt366 => ((spymake_Stream_Inside.f l0 bt366.2 bt345.2.2.2.2.1 bt345.2.2.2.2.2.1 bt345.2.2.2.2.2.2.1 bt345.2.2.2.2.2.2.2.1).bind fun bt368 => ((mount_Goto.f k bt345.1 bt345.2.1 bt345.2.2.1 bt345.2.2.2.1 bt345.2.2.2.2.1 bt345.2.2.2.2.2.1 bt345.2.2.2.2.2.2.1 bt345.2.2.2.2.2.2.2.1 bt345.2.2.2.2.2.2.2.2.1 bt345.2.2.2.2.2.2.2.2.2.1 bt357.1 bt357.2.1 bt357.2.2.1 bt357.2.2.2.1 bt357.2.2.2.2.1 bt357.2.2.2.2.2.1 bt357.2.2.2.2.2.2.1 bt357.2.2.2.2.2.2.2.1 bt357.2.2.2.2.2.2.2.2 bt366.1 bt368.1).bind fun bt370 => ((spymake_Stream_Next.f l0 bt368.2 40).bind fun bt381 => (spykeep2_MountParks.l0 k bt370.2.2.2.2.2.2.2.2.2 bt381.1 0 bt345.1 bt345.2.1 bt345.2.2.1 bt345.2.2.2.1 bt345.2.2.2.2.1 bt345.2.2.2.2.2.1 bt345.2.2.2.2.2.2.1 bt345.2.2.2.2.2.2.2.1 bt345.2.2.2.2.2.2.2.2.1 bt345.2.2.2.2.2.2.2.2.2.1 bt370.1 bt370.2.1 bt370.2.2.1 bt370.2.2.2.1 bt370.2.2.2.2.1 bt370.2.2.2.2.2.1 bt370.2.2.2.2.2.2.1 bt370.2.2.2.2.2.2.2.1 bt370.2.2.2.2.2.2.2.2.1))))))) else (some false)) = some r := H
  have A2 := Aside0.mk A20
  clear A20
  by_cases c3 : t343 = true
  · subst c3
    have H1 : ((spymake_Stream_Mount.f k l0 0).bind fun bt345 => ((mount_Rest.f bt345.1 bt345.2.1 bt345.2.2.1 bt345.2.2.2.1 bt345.2.2.2.2.1 bt345.2.2.2.2.2.1 bt345.2.2.2.2.2.2.1 bt345.2.2.2.2.2.2.2.1 bt345.2.2.2.2.2.2.2.2.1 bt345.2.2.2.2.2.2.2.2.2.1).bind fun bt357 => ((spymake_Stream_Inside.f l0 bt345.2.2.2.2.2.2.2.2.2.2 bt345.1 bt345.2.1 bt345.2.2.1 bt345.2.2.2.1).bind fun bt366 => ((spymake_Stream_Inside.f l0 bt366.2 bt345.2.2.2.2.1 bt345.2.2.2.2.2.1 bt345.2.2.2.2.2.2.1 bt345.2.2.2.2.2.2.2.1).bind fun bt368 => ((mount_Goto.f k bt345.1 bt345.2.1 bt345.2.2.1 bt345.2.2.2.1 bt345.2.2.2.2.1 bt345.2.2.2.2.2.1 bt345.2.2.2.2.2.2.1 bt345.2.2.2.2.2.2.2.1 bt345.2.2.2.2.2.2.2.2.1 bt345.2.2.2.2.2.2.2.2.2.1 bt357.1 bt357.2.1 bt357.2.2.1 bt357.2.2.2.1 bt357.2.2.2.2.1 bt357.2.2.2.2.2.1 bt357.2.2.2.2.2.2.1 bt357.2.2.2.2.2.2.2.1 bt357.2.2.2.2.2.2.2.2 bt366.1 bt368.1).bind fun bt370 => ((spymake_Stream_Next.f l0 bt368.2 40).bind fun bt381 => (spykeep2_MountParks.l0 k bt370.2.2.2.2.2.2.2.2.2 bt381.1 0 bt345.1 bt345.2.1 bt345.2.2.1 bt345.2.2.2.1 bt345.2.2.2.2.1 bt345.2.2.2.2.2.1 bt345.2.2.2.2.2.2.1 bt345.2.2.2.2.2.2.2.1 bt345.2.2.2.2.2.2.2.2.1 bt345.2.2.2.2.2.2.2.2.2.1 bt370.1 bt370.2.1 bt370.2.2.1 bt370.2.2.2.1 bt370.2.2.2.2.1 bt370.2.2.2.2.2.1 bt370.2.2.2.2.2.2.1 bt370.2.2.2.2.2.2.2.1 bt370.2.2.2.2.2.2.2.2.1))))))) = some r := by rw [if_pos rfl] at H; exact H
    clear H
    have H := H1
    clear H1
    replace H := Option.bind_eq_some_iff.mp H
    obtain ⟨⟨t345, t346, t347, t348, t349, t350, t351, t352, t353, t354, t355⟩, A40, H⟩ := H
    replace H : ((mount_Rest.f t345 t346 t347 t348 t349 t350 t351 t352 t353 t354).bind fun bt357 => ((spymake_Stream_Inside.f l0 t355 t345 t346 t347 t348).bind fun bt366 => ((spymake_Stream_Inside.f l0 bt366.2 t349 t350 t351 t352).bind fun bt368 => ((mount_Goto.f k t345 t346 t347 t348 t349 t350 t351 t352 t353 t354 bt357.1 bt357.2.1 bt357.2.2.1 bt357.2.2.2.1 bt357.2.2.2.2.1 bt357.2.2.2.2.2.1 bt357.2.2.2.2.2.2.1 bt357.2.2.2.2.2.2.2.1 bt357.2.2.2.2.2.2.2.2 bt366.1 bt368.1).bind fun bt370 => ((spymake_Stream_Next.f l0 bt368.2 40).bind fun bt381 => (spykeep2_MountParks.l0 k bt370.2.2.2.2.2.2.2.2.2 bt381.1 0 t345 t346 t347 t348 t349 t350 t351 t352 t353 t354 bt370.1 bt370.2.1 bt370.2.2.1 bt370.2.2.2.1 bt370.2.2.2.2.1 bt370.2.2.2.2.2.1 bt370.2.2.2.2.2.2.1 bt370.2.2.2.2.2.2.2.1 bt370.2.2.2.2.2.2.2.2.1)))))) = some r := H
    have A4 := Aside0.mk A40
    clear A40
    replace H := Option.bind_eq_some_iff.mp H
    obtain ⟨⟨t357, t358, t359, t360, t361, t362, t363, t364, t365⟩, A50, H⟩ := H
    replace H : ((spymake_Stream_Inside.f l0 t355 t345 t346 t347 t348).bind fun bt366 => ((spymake_Stream_Inside.f l0 bt366.2 t349 t350 t351 t352).bind fun bt368 => ((mount_Goto.f k t345 t346 t347 t348 t349 t350 t351 t352 t353 t354 t357 t358 t359 t360 t361 t362 t363 t364 t365 bt366.1 bt368.1).bind fun bt370 => ((spymake_Stream_Next.f l0 bt368.2 40).bind fun bt381 => (spykeep2_MountParks.l0 k bt370.2.2.2.2.2.2.2.2.2 bt381.1 0 t345 t346 t347 t348 t349 t350 t351 t352 t353 t354 bt370.1 bt370.2.1 bt370.2.2.1 bt370.2.2.2.1 bt370.2.2.2.2.1 bt370.2.2.2.2.2.1 bt370.2.2.2.2.2.2.1 bt370.2.2.2.2.2.2.2.1 bt370.2.2.2.2.2.2.2.2.1))))) = some r := H
    have A5 := Aside0.mk A50
    clear A50
    replace H := Option.bind_eq_some_iff.mp H
    obtain ⟨⟨t366, t367⟩, A60, H⟩ := H
    replace H : ((spymake_Stream_Inside.f l0 t367 t349 t350 t351 t352).bind fun bt368 => ((mount_Goto.f k t345 t346 t347 t348 t349 t350 t351 t352 t353 t354 t357 t358 t359 t360 t361 t362 t363 t364 t365 t366 bt368.1).bind fun bt370 => ((spymake_Stream_Next.f l0 bt368.2 40).bind fun bt381 => (spykeep2_MountParks.l0 k bt370.2.2.2.2.2.2.2.2.2 bt381.1 0 t345 t346 t347 t348 t349 t350 t351 t352 t353 t354 bt370.1 bt370.2.1 bt370.2.2.1 bt370.2.2.2.1 bt370.2.2.2.2.1 bt370.2.2.2.2.2.1 bt370.2.2.2.2.2.2.1 bt370.2.2.2.2.2.2.2.1 bt370.2.2.2.2.2.2.2.2.1)))) = some r := H
    have A6 := Aside0.mk A60
    clear A60
    replace H := Option.bind_eq_some_iff.mp H
    obtain ⟨⟨t368, t369⟩, A70, H⟩ := H
    replace H : ((mount_Goto.f k t345 t346 t347 t348 t349 t350 t351 t352 t353 t354 t357 t358 t359 t360 t361 t362 t363 t364 t365 t366 t368).bind fun bt370 => ((spymake_Stream_Next.f l0 t369 40).bind fun bt381 => (spykeep2_MountParks.l0 k bt370.2.2.2.2.2.2.2.2.2 bt381.1 0 t345 t346 t347 t348 t349 t350 t351 t352 t353 t354 bt370.1 bt370.2.1 bt370.2.2.1 bt370.2.2.2.1 bt370.2.2.2.2.1 bt370.2.2.2.2.2.1 bt370.2.2.2.2.2.2.1 bt370.2.2.2.2.2.2.2.1 bt370.2.2.2.2.2.2.2.2.1))) = some r := H
    have A7 := Aside0.mk A70
    clear A70
    replace H := Option.bind_eq_some_iff.mp H
    obtain ⟨⟨t370, t371, t372, t373, t374, t375, t376, t377, t378, t379⟩, A80, H⟩ := H
    replace H : ((spymake_Stream_Next.f l0 t369 40).bind fun bt381 => (spykeep2_MountParks.l0 k t379 bt381.1 0 t345 t346 t347 t348 t349 t350 t351 t352 t353 t354 t370 t371 t372 t373 t374 t375 t376 t377 t378)) = some r := H
    have A8 := Aside0.mk A80
    clear A80
    replace H := Option.bind_eq_some_iff.mp H
    obtain ⟨⟨t381, t382⟩, A90, H⟩ := H
    replace H : (spykeep2_MountParks.l0 k t379 t381 0 t345 t346 t347 t348 t349 t350 t351 t352 t353 t354 t370 t371 t372 t373 t374 t375 t376 t377 t378) = some r := H
    have A9 := Aside0.mk A90
    clear A90
    have H' := Aside0.mk H
    clear H
    go_enter Try.func4, Try.ntmps4
    try go_wp2_with (first | ((with_reducible refine gate_callee (f := 10) rfl ?_); refine goesL_ (some 12) rfl rfl Try.func10 (by kernel_rfl) rfl #[] rfl (by (try simp only [List.map_toArray, List.map_cons, List.map_nil]); first | done | rfl | (simp only [List.length_drop, List.length_take]; rfl)) ?_; (with_reducible refine (spykeep2_drives.calls k  true _ A2.out).mono ?_); rintro e w10 ⟨rfl, hb⟩; refine ⟨_, rfl, ?_⟩; have n0_ := Aside0.mk (below_step (by exact HB.out) hb); clear HB; have HB := n0_; clear n0_; (try clear hb); (try clear hb2); (try clear hk); (try clear hi)) | ((with_reducible refine gate_dst (N := 16) rfl ?_); refine box_event ?hg (N := 16) ?hd (cs := #[.slice A0 l0.length c0, .int .i64 0]) (t := 26) ?hr ?_; (case hd => rfl); (case hg => rfl); (case hr => first | (go_simp; done) | (go_simp; rfl)); intro gb344 hg w11 hbox hb; have n0_ := Aside0.mk (below_step (by exact HB.out) hb); have n1_ := Aside0.mk ((by rw [hg]; exact (below_size (by exact HB.out)) : w.heap.size ≤ gb344)); have n2_ := Aside0.mk ((by rw [hg]; exact (below_size (by exact HB.out)) : w.heap.size ≤ gb344)); have n3_ := Aside0.mk ((show IsS26 w w11 gb344 l0 0 from ⟨_, _, hbox, (by rw [hg]; exact (below_size (by exact HB.out)) : w.heap.size ≤ gb344), HR0.out⟩)); clear HB; have HB := n0_; have GW344 := n1_; have GE344 := n2_; have HI344 := n3_; clear n0_ n1_ n2_ n3_; clear hb hbox hg) | ((with_reducible refine gate_callee (f := 11) rfl ?_); refine goesL_ (some 18) rfl rfl Try.func11 (by kernel_rfl) rfl #[.pointer (some ⟨gb344, 0, none⟩)] rfl (by (try simp only [List.map_toArray, List.map_cons, List.map_nil]); first | done | rfl | (simp only [List.length_drop, List.length_take]; rfl)) ?_; (with_reducible refine (spymake_Stream_Mount.calls k gb344 l0 0 t345 t346 t347 t348 t349 t350 t351 t352 t353 t354 t355 w _ ?side1 ?side2 A4.out).mono ?_); (case side1 => exact HI344.out); (case side2 => exact HB.out); rintro e w12 ⟨rfl, hi, hb, hk⟩; refine ⟨_, rfl, ?_⟩; have n0_ := Aside0.mk (hb); have n1_ := Aside0.mk (hi); clear HB; clear HI344; have HB := n0_; have HI344 := n1_; clear n0_ n1_; (try clear hb); (try clear hb2); (try clear hk); (try clear hi)) | ((with_reducible refine gate_dst (N := 4) rfl ?_); refine box_event ?hg (N := 4) ?hd (cs := #[.int .i64 0, .int .i64 0, .int .i64 0, .int .i64 0, .int .i64 0, .int .i64 0, .int .i64 0, .int .i64 0, .int .i64 0, .int .i64 0]) (t := 32) ?hr ?_; (case hd => rfl); (case hg => rfl); (case hr => first | (go_simp; done) | (go_simp; rfl)); intro gb356 hg w13 hbox hb; have n0_ := Aside0.mk (IsS26.below (by exact HI344.out) hb); have n1_ := Aside0.mk (below_step (by exact HB.out) hb); have n2_ := Aside0.mk (hbox); have n3_ := Aside0.mk ((by rw [hg]; exact (below_size (by exact HB.out)) : w.heap.size ≤ gb356)); have n4_ := Aside0.mk ((by rw [hg]; exact (below_size (by exact HB.out)) : w.heap.size ≤ gb356)); have n5_ := Aside0.mk ((by rw [hg]; exact Nat.ne_of_lt (IsS26.lt (show IsS26 w _ gb344 l0 t355 from by exact HI344.out)) : gb344 ≠ gb356)); have n6_ := Aside0.mk ((by rw [hg]; exact Nat.ne_of_gt (IsS26.lt (show IsS26 w _ gb344 l0 t355 from by exact HI344.out)) : gb356 ≠ gb344)); clear HI344; clear HB; have HI344 := n0_; have HB := n1_; have BK356 := n2_; have GW356 := n3_; have GE356 := n4_; have NB344_356 := n5_; have NB356_344 := n6_; clear n0_ n1_ n2_ n3_ n4_ n5_ n6_; clear hb hbox hg) | ((with_reducible refine gate_store (t := 32) (p := 4) rfl ?_); refine store_row (t := 32) (p := 4) (v := ?vo_w14) ?hgd ?ho ?hN gb356 0 #[.int .i64 0, .int .i64 0, .int .i64 0, .int .i64 0, .int .i64 0, .int .i64 0, .int .i64 0, .int .i64 0, .int .i64 0, .int .i64 0] [.int .i64 t345, .int .i64 t346, .int .i64 t347, .int .i64 t348, .int .i64 t349, .int .i64 t350, .int .i64 t351, .int .i64 t352, .int .i64 t353, .int .i64 t354] #[.int .i64 t345, .int .i64 t346, .int .i64 t347, .int .i64 t348, .int .i64 t349, .int .i64 t350, .int .i64 t351, .int .i64 t352, .int .i64 t353, .int .i64 t354] ?hx ?hy (by exact BK356.out) szi32 (Nat.le_of_ble_eq_true rfl) ?h1 ?hnew ?_; (case ho => rfl); (case hgd => rfl); (case hN => rfl); (case hx => rfl); (case hy => first | rfl | (go_simp; done) | (go_simp; rfl)); (case h1 => rfl); (case hnew => rfl); intro w14 hbox hg; have n0_ := Aside0.mk (IsS26.grown (by exact HI344.out) hg (fun e_ => NB344_356.out (Option.some.inj e_))); have n1_ := Aside0.mk (pw_below_grown (by exact HB.out) (some gb356) (below_size (by exact HB.out)) hg (fun k_ e_ => by cases e_; exact GE356.out)); have n2_ := Aside0.mk (hbox); clear HI344; clear HB; clear BK356; have HI344 := n0_; have HB := n1_; have BK356 := n2_; clear n0_ n1_ n2_; clear hbox hg))
    have n0_ := Aside0.mk (blk_drew BK356.out)
    have n1_ := Aside0.mk (IsS26.drew HI344.out)
    have n2_ := Aside0.mk (below_drew1 HB.out)
    clear BK356
    clear HI344
    clear HB
    have BK356 := n0_
    have HI344 := n1_
    have HB := n2_
    clear n0_ n1_ n2_
    refine start_ (n := 19) (S := fun w' => w'.cell? ⟨gb356, 0, none⟩ = some (.int .i64 t345) ∧ w'.cell? ⟨gb356, 1, none⟩ = some (.int .i64 t346) ∧ w'.cell? ⟨gb356, 2, none⟩ = some (.int .i64 t347) ∧ w'.cell? ⟨gb356, 3, none⟩ = some (.int .i64 t348) ∧ w'.cell? ⟨gb356, 4, none⟩ = some (.int .i64 t349) ∧ w'.cell? ⟨gb356, 5, none⟩ = some (.int .i64 t350) ∧ w'.cell? ⟨gb356, 6, none⟩ = some (.int .i64 t351) ∧ w'.cell? ⟨gb356, 7, none⟩ = some (.int .i64 t352) ∧ w'.cell? ⟨gb356, 8, none⟩ = some (.int .i64 t353) ∧ w'.cell? ⟨gb356, 9, none⟩ = some (.int .i64 t354)) (ds := []) #[false, false, false, false, false, false, false, false, false, false, false, false, false, false, false, false, false, false, false] (by kernel_rfl) rfl rfl ⟨(blk_cell BK356.out 0).trans rfl, (blk_cell BK356.out 1).trans rfl, (blk_cell BK356.out 2).trans rfl, (blk_cell BK356.out 3).trans rfl, (blk_cell BK356.out 4).trans rfl, (blk_cell BK356.out 5).trans rfl, (blk_cell BK356.out 6).trans rfl, (blk_cell BK356.out 7).trans rfl, (blk_cell BK356.out 8).trans rfl, (blk_cell BK356.out 9).trans rfl⟩ (fun hHeld => ?_); refine with_tabW spykeep2_MountParks.tab5 spykeep2_MountParks.bits5 (fun HT_ HW_ => ?_)
    generalize w14.drew = w15 at BK356 HI344 HB hHeld ⊢
    refine pure_ (i := 3) (N := some 23) (v := ?_) (a' := ?_) #[false, false, false, true, false, false, false, false, false, false, false, false, false, false, false, false, false, false, false] rfl rfl (any_of HT_.out (by kernel_rfl)) (fun _ _ _ h => h) (Or.inl ⟨by rfl, ?_⟩) ?_ ?_
    rotate_left
    · intro w'
      go_simp
      with_reducible rfl
    rotate_left
    · simp only [Act.put, List.setIfInBounds_toArray, List.set_cons_zero, List.set_cons_succ, i64_w, i32_w]
      rfl
    refine pure_ (i := 4) (N := some 24) (v := ?_) (a' := ?_) #[false, false, false, true, true, false, false, false, false, false, false, false, false, false, false, false, false, false, false] rfl rfl (any_of HT_.out (by kernel_rfl)) (fun _ _ _ h => h) (Or.inl ⟨by rfl, ?_⟩) ?_ ?_
    rotate_left
    · intro w'
      go_simp
      with_reducible rfl
    rotate_left
    · simp only [Act.put, List.setIfInBounds_toArray, List.set_cons_zero, List.set_cons_succ, i64_w, i32_w]
      rfl
    refine pure_ (i := 7) (N := some 27) (v := ?_) (a' := ?_) #[false, false, false, true, true, false, false, true, false, false, false, false, false, false, false, false, false, false, false] rfl rfl (any_of HT_.out (by kernel_rfl)) (fun _ _ _ h => h) (Or.inl ⟨by rfl, ?_⟩) ?_ ?_
    rotate_left
    · intro w'
      go_simp
      with_reducible rfl
    rotate_left
    · simp only [Act.put, List.setIfInBounds_toArray, List.set_cons_zero, List.set_cons_succ, i64_w, i32_w]
      rfl
    refine pure_ (i := 8) (N := some 28) (v := ?_) (a' := ?_) #[false, false, false, true, true, false, false, true, true, false, false, false, false, false, false, false, false, false, false] rfl rfl (any_of HT_.out (by kernel_rfl)) (fun _ _ _ h => h) (Or.inl ⟨by rfl, ?_⟩) ?_ ?_
    rotate_left
    · intro w'
      go_simp
      with_reducible rfl
    rotate_left
    · simp only [Act.put, List.setIfInBounds_toArray, List.set_cons_zero, List.set_cons_succ, i64_w, i32_w]
      rfl
    refine take_ (i := 0) (N := some 20) (v := ?_) (a' := ?_) #[true, false, false, true, true, false, false, true, true, false, false, false, false, false, false, false, false, false, false] rfl rfl (take_ofW HT_.out HW_.out (by kernel_rfl)) (fun _ _ _ h => h) (Or.inl ⟨by rfl, ?_⟩) hHeld ?_ ?_
    rotate_left
    · rintro w' ⟨s0, s1, s2, s3, s4, s5, s6, s7, s8, s9⟩
      go_simp
      with_reducible rfl
    rotate_left
    · simp only [Act.put, List.setIfInBounds_toArray, List.set_cons_zero, List.set_cons_succ, i64_w, i32_w]
      rfl
    refine take_ (i := 1) (N := some 21) (v := ?_) (a' := ?_) #[true, true, false, true, true, false, false, true, true, false, false, false, false, false, false, false, false, false, false] rfl rfl (take_ofW HT_.out HW_.out (by kernel_rfl)) (fun _ _ _ h => h) (Or.inl ⟨by rfl, ?_⟩) hHeld ?_ ?_
    rotate_left
    · rintro w' ⟨s0, s1, s2, s3, s4, s5, s6, s7, s8, s9⟩
      go_simp
      with_reducible rfl
    rotate_left
    · simp only [Act.put, List.setIfInBounds_toArray, List.set_cons_zero, List.set_cons_succ, i64_w, i32_w]
      rfl
    refine take_ (i := 5) (N := some 25) (v := ?_) (a' := ?_) #[true, true, false, true, true, true, false, true, true, false, false, false, false, false, false, false, false, false, false] rfl rfl (take_ofW HT_.out HW_.out (by kernel_rfl)) (fun _ _ _ h => h) (Or.inl ⟨by rfl, ?_⟩) hHeld ?_ ?_
    rotate_left
    · rintro w' ⟨s0, s1, s2, s3, s4, s5, s6, s7, s8, s9⟩
      go_simp
      with_reducible rfl
    rotate_left
    · simp only [Act.put, List.setIfInBounds_toArray, List.set_cons_zero, List.set_cons_succ, i64_w, i32_w]
      rfl
    refine take_ (i := 9) (N := some 29) (v := ?_) (a' := ?_) #[true, true, false, true, true, true, false, true, true, true, false, false, false, false, false, false, false, false, false] rfl rfl (take_ofW HT_.out HW_.out (by kernel_rfl)) (fun _ _ _ h => h) (Or.inl ⟨by rfl, ?_⟩) hHeld ?_ ?_
    rotate_left
    · rintro w' ⟨s0, s1, s2, s3, s4, s5, s6, s7, s8, s9⟩
      go_simp
      with_reducible rfl
    rotate_left
    · simp only [Act.put, List.setIfInBounds_toArray, List.set_cons_zero, List.set_cons_succ, i64_w, i32_w]
      rfl
    refine join_ (σ := Nat) 2 #[true, true, true, true, true, true, true, true, true, true, true, true, true, true, true, true, true, false, false] (fun s_ => [(22, .agg #[.int .i64 t357, .int .i64 t358, .int .i64 t359, .bool t360, .int .i64 t361, .int .i64 t362, .int .i64 t363, .bool t364, .int .i64 t365]), (26, .int .i64 t366), (30, .int .i64 t368), (32, .tuple #[.agg #[.int .i64 t370, .int .i64 t371, .int .i64 t372, .bool t373, .int .i64 t374, .int .i64 t375, .int .i64 t376, .bool t377, .int .i64 t378], .int .i64 t379]), (5, .pointer (some ⟨s_, 0, none⟩)), (31, .agg #[.int .i64 t366, .int .i64 t368]), (19, .tuple #[.agg #[.int .i64 t370, .int .i64 t371, .int .i64 t372, .bool t373, .int .i64 t374, .int .i64 t375, .int .i64 t376, .bool t377, .int .i64 t378], .int .i64 t379]), (33, .agg #[.int .i64 t370, .int .i64 t371, .int .i64 t372, .bool t373, .int .i64 t374, .int .i64 t375, .int .i64 t376, .bool t377, .int .i64 t378]), (34, .int .i64 t379)]) (fun s_ w' => (w'.cell? ⟨gb356, 0, none⟩ = some (.int .i64 t345) ∧ w'.cell? ⟨gb356, 1, none⟩ = some (.int .i64 t346) ∧ w'.cell? ⟨gb356, 2, none⟩ = some (.int .i64 t347) ∧ w'.cell? ⟨gb356, 3, none⟩ = some (.int .i64 t348) ∧ w'.cell? ⟨gb356, 4, none⟩ = some (.int .i64 t349) ∧ w'.cell? ⟨gb356, 5, none⟩ = some (.int .i64 t350) ∧ w'.cell? ⟨gb356, 6, none⟩ = some (.int .i64 t351) ∧ w'.cell? ⟨gb356, 7, none⟩ = some (.int .i64 t352) ∧ w'.cell? ⟨gb356, 8, none⟩ = some (.int .i64 t353) ∧ w'.cell? ⟨gb356, 9, none⟩ = some (.int .i64 t354)) ∧ (w'.heap[gb356]? = some (.cells #[.int .i64 t345, .int .i64 t346, .int .i64 t347, .int .i64 t348, .int .i64 t349, .int .i64 t350, .int .i64 t351, .int .i64 t352, .int .i64 t353, .int .i64 t354] 32 (0, 0))) ∧ (w'.heap[s_]? = some (.cells #[.int .i64 0, .int .i64 0, .int .i64 0, .bool false, .int .i64 0, .int .i64 0, .int .i64 0, .bool false, .int .i64 0] 37 (0, 0))) ∧ (w.heap.size ≤ s_) ∧ (w.heap.size ≤ s_) ∧ (gb344 ≠ s_) ∧ (s_ ≠ gb344) ∧ (gb356 ≠ s_) ∧ (s_ ≠ gb356) ∧ (IsS26 w w' gb344 l0 t369) ∧ (Below w.heap.size w w')) ?_ ?_
    rotate_left
    · intro hJ2_6_10_12_16
      refine join_ (σ := Unit) 3 #[true, true, true, true, true, true, true, true, true, true, true, true, true, true, true, true, false, false, false] (fun s_ => [(22, .agg #[.int .i64 t357, .int .i64 t358, .int .i64 t359, .bool t360, .int .i64 t361, .int .i64 t362, .int .i64 t363, .bool t364, .int .i64 t365]), (26, .int .i64 t366), (30, .int .i64 t368), (32, .tuple #[.agg #[.int .i64 t370, .int .i64 t371, .int .i64 t372, .bool t373, .int .i64 t374, .int .i64 t375, .int .i64 t376, .bool t377, .int .i64 t378], .int .i64 t379]), (31, .agg #[.int .i64 t366, .int .i64 t368]), (19, .tuple #[.agg #[.int .i64 t370, .int .i64 t371, .int .i64 t372, .bool t373, .int .i64 t374, .int .i64 t375, .int .i64 t376, .bool t377, .int .i64 t378], .int .i64 t379]), (33, .agg #[.int .i64 t370, .int .i64 t371, .int .i64 t372, .bool t373, .int .i64 t374, .int .i64 t375, .int .i64 t376, .bool t377, .int .i64 t378]), (34, .int .i64 t379)]) (fun s_ w' => (w'.cell? ⟨gb356, 0, none⟩ = some (.int .i64 t345) ∧ w'.cell? ⟨gb356, 1, none⟩ = some (.int .i64 t346) ∧ w'.cell? ⟨gb356, 2, none⟩ = some (.int .i64 t347) ∧ w'.cell? ⟨gb356, 3, none⟩ = some (.int .i64 t348) ∧ w'.cell? ⟨gb356, 4, none⟩ = some (.int .i64 t349) ∧ w'.cell? ⟨gb356, 5, none⟩ = some (.int .i64 t350) ∧ w'.cell? ⟨gb356, 6, none⟩ = some (.int .i64 t351) ∧ w'.cell? ⟨gb356, 7, none⟩ = some (.int .i64 t352) ∧ w'.cell? ⟨gb356, 8, none⟩ = some (.int .i64 t353) ∧ w'.cell? ⟨gb356, 9, none⟩ = some (.int .i64 t354)) ∧ (w'.heap[gb356]? = some (.cells #[.int .i64 t345, .int .i64 t346, .int .i64 t347, .int .i64 t348, .int .i64 t349, .int .i64 t350, .int .i64 t351, .int .i64 t352, .int .i64 t353, .int .i64 t354] 32 (0, 0))) ∧ (IsS26 w w' gb344 l0 t369) ∧ (Below w.heap.size w w')) ?_ ?_
      rotate_left
      · intro hJ2_6_10_12
        refine join_ (σ := Nat) 6 #[true, true, true, true, true, true, true, true, true, true, true, true, false, false, false, false, true, false, false] (fun s_ => [(22, .agg #[.int .i64 t357, .int .i64 t358, .int .i64 t359, .bool t360, .int .i64 t361, .int .i64 t362, .int .i64 t363, .bool t364, .int .i64 t365]), (26, .int .i64 t366), (30, .int .i64 t368), (5, .pointer (some ⟨s_, 0, none⟩)), (31, .agg #[.int .i64 t366, .int .i64 t368])]) (fun s_ w' => (w'.cell? ⟨gb356, 0, none⟩ = some (.int .i64 t345) ∧ w'.cell? ⟨gb356, 1, none⟩ = some (.int .i64 t346) ∧ w'.cell? ⟨gb356, 2, none⟩ = some (.int .i64 t347) ∧ w'.cell? ⟨gb356, 3, none⟩ = some (.int .i64 t348) ∧ w'.cell? ⟨gb356, 4, none⟩ = some (.int .i64 t349) ∧ w'.cell? ⟨gb356, 5, none⟩ = some (.int .i64 t350) ∧ w'.cell? ⟨gb356, 6, none⟩ = some (.int .i64 t351) ∧ w'.cell? ⟨gb356, 7, none⟩ = some (.int .i64 t352) ∧ w'.cell? ⟨gb356, 8, none⟩ = some (.int .i64 t353) ∧ w'.cell? ⟨gb356, 9, none⟩ = some (.int .i64 t354)) ∧ (w'.heap[gb356]? = some (.cells #[.int .i64 t345, .int .i64 t346, .int .i64 t347, .int .i64 t348, .int .i64 t349, .int .i64 t350, .int .i64 t351, .int .i64 t352, .int .i64 t353, .int .i64 t354] 32 (0, 0))) ∧ (w'.heap[s_]? = some (.cells #[.int .i64 0, .int .i64 0, .int .i64 0, .bool false, .int .i64 0, .int .i64 0, .int .i64 0, .bool false, .int .i64 0] 37 (0, 0))) ∧ (w.heap.size ≤ s_) ∧ (w.heap.size ≤ s_) ∧ (gb344 ≠ s_) ∧ (s_ ≠ gb344) ∧ (gb356 ≠ s_) ∧ (s_ ≠ gb356) ∧ (IsS26 w w' gb344 l0 t369) ∧ (Below w.heap.size w w')) ?_ ?_
        rotate_left
        · intro hJ2_6_10_16
          refine join_ (σ := Unit) 7 #[true, true, true, true, true, true, true, true, true, true, true, true, false, false, false, false, false, false, false] (fun s_ => [(22, .agg #[.int .i64 t357, .int .i64 t358, .int .i64 t359, .bool t360, .int .i64 t361, .int .i64 t362, .int .i64 t363, .bool t364, .int .i64 t365]), (26, .int .i64 t366), (30, .int .i64 t368), (31, .agg #[.int .i64 t366, .int .i64 t368])]) (fun s_ w' => (w'.cell? ⟨gb356, 0, none⟩ = some (.int .i64 t345) ∧ w'.cell? ⟨gb356, 1, none⟩ = some (.int .i64 t346) ∧ w'.cell? ⟨gb356, 2, none⟩ = some (.int .i64 t347) ∧ w'.cell? ⟨gb356, 3, none⟩ = some (.int .i64 t348) ∧ w'.cell? ⟨gb356, 4, none⟩ = some (.int .i64 t349) ∧ w'.cell? ⟨gb356, 5, none⟩ = some (.int .i64 t350) ∧ w'.cell? ⟨gb356, 6, none⟩ = some (.int .i64 t351) ∧ w'.cell? ⟨gb356, 7, none⟩ = some (.int .i64 t352) ∧ w'.cell? ⟨gb356, 8, none⟩ = some (.int .i64 t353) ∧ w'.cell? ⟨gb356, 9, none⟩ = some (.int .i64 t354)) ∧ (w'.heap[gb356]? = some (.cells #[.int .i64 t345, .int .i64 t346, .int .i64 t347, .int .i64 t348, .int .i64 t349, .int .i64 t350, .int .i64 t351, .int .i64 t352, .int .i64 t353, .int .i64 t354] 32 (0, 0))) ∧ (IsS26 w w' gb344 l0 t369) ∧ (Below w.heap.size w w')) ?_ ?_
          rotate_left
          · intro hJ2_6_10
            refine join_ (σ := Nat) 8 #[true, true, true, true, true, true, true, true, true, true, false, false, false, false, false, false, true, false, false] (fun s_ => [(22, .agg #[.int .i64 t357, .int .i64 t358, .int .i64 t359, .bool t360, .int .i64 t361, .int .i64 t362, .int .i64 t363, .bool t364, .int .i64 t365]), (26, .int .i64 t366), (5, .pointer (some ⟨s_, 0, none⟩))]) (fun s_ w' => (w'.cell? ⟨gb356, 0, none⟩ = some (.int .i64 t345) ∧ w'.cell? ⟨gb356, 1, none⟩ = some (.int .i64 t346) ∧ w'.cell? ⟨gb356, 2, none⟩ = some (.int .i64 t347) ∧ w'.cell? ⟨gb356, 3, none⟩ = some (.int .i64 t348) ∧ w'.cell? ⟨gb356, 4, none⟩ = some (.int .i64 t349) ∧ w'.cell? ⟨gb356, 5, none⟩ = some (.int .i64 t350) ∧ w'.cell? ⟨gb356, 6, none⟩ = some (.int .i64 t351) ∧ w'.cell? ⟨gb356, 7, none⟩ = some (.int .i64 t352) ∧ w'.cell? ⟨gb356, 8, none⟩ = some (.int .i64 t353) ∧ w'.cell? ⟨gb356, 9, none⟩ = some (.int .i64 t354)) ∧ (w'.heap[gb356]? = some (.cells #[.int .i64 t345, .int .i64 t346, .int .i64 t347, .int .i64 t348, .int .i64 t349, .int .i64 t350, .int .i64 t351, .int .i64 t352, .int .i64 t353, .int .i64 t354] 32 (0, 0))) ∧ (w'.heap[s_]? = some (.cells #[.int .i64 0, .int .i64 0, .int .i64 0, .bool false, .int .i64 0, .int .i64 0, .int .i64 0, .bool false, .int .i64 0] 37 (0, 0))) ∧ (w.heap.size ≤ s_) ∧ (w.heap.size ≤ s_) ∧ (gb344 ≠ s_) ∧ (s_ ≠ gb344) ∧ (gb356 ≠ s_) ∧ (s_ ≠ gb356) ∧ (IsS26 w w' gb344 l0 t367) ∧ (Below w.heap.size w w')) ?_ ?_
            rotate_left
            · intro hJ2_6_16
              refine join_ (σ := Unit) 9 #[true, true, true, true, true, true, true, true, true, true, false, false, false, false, false, false, false, false, false] (fun s_ => [(22, .agg #[.int .i64 t357, .int .i64 t358, .int .i64 t359, .bool t360, .int .i64 t361, .int .i64 t362, .int .i64 t363, .bool t364, .int .i64 t365]), (26, .int .i64 t366)]) (fun s_ w' => (w'.cell? ⟨gb356, 0, none⟩ = some (.int .i64 t345) ∧ w'.cell? ⟨gb356, 1, none⟩ = some (.int .i64 t346) ∧ w'.cell? ⟨gb356, 2, none⟩ = some (.int .i64 t347) ∧ w'.cell? ⟨gb356, 3, none⟩ = some (.int .i64 t348) ∧ w'.cell? ⟨gb356, 4, none⟩ = some (.int .i64 t349) ∧ w'.cell? ⟨gb356, 5, none⟩ = some (.int .i64 t350) ∧ w'.cell? ⟨gb356, 6, none⟩ = some (.int .i64 t351) ∧ w'.cell? ⟨gb356, 7, none⟩ = some (.int .i64 t352) ∧ w'.cell? ⟨gb356, 8, none⟩ = some (.int .i64 t353) ∧ w'.cell? ⟨gb356, 9, none⟩ = some (.int .i64 t354)) ∧ (w'.heap[gb356]? = some (.cells #[.int .i64 t345, .int .i64 t346, .int .i64 t347, .int .i64 t348, .int .i64 t349, .int .i64 t350, .int .i64 t351, .int .i64 t352, .int .i64 t353, .int .i64 t354] 32 (0, 0))) ∧ (IsS26 w w' gb344 l0 t367) ∧ (Below w.heap.size w w')) ?_ ?_
              rotate_left
              · intro hJ2_6
                refine join_ (σ := Nat) 9 #[true, true, true, true, true, true, false, true, true, true, false, false, false, false, false, false, true, false, false] (fun s_ => [(22, .agg #[.int .i64 t357, .int .i64 t358, .int .i64 t359, .bool t360, .int .i64 t361, .int .i64 t362, .int .i64 t363, .bool t364, .int .i64 t365]), (5, .pointer (some ⟨s_, 0, none⟩))]) (fun s_ w' => (w'.cell? ⟨gb356, 0, none⟩ = some (.int .i64 t345) ∧ w'.cell? ⟨gb356, 1, none⟩ = some (.int .i64 t346) ∧ w'.cell? ⟨gb356, 2, none⟩ = some (.int .i64 t347) ∧ w'.cell? ⟨gb356, 3, none⟩ = some (.int .i64 t348) ∧ w'.cell? ⟨gb356, 4, none⟩ = some (.int .i64 t349) ∧ w'.cell? ⟨gb356, 5, none⟩ = some (.int .i64 t350) ∧ w'.cell? ⟨gb356, 6, none⟩ = some (.int .i64 t351) ∧ w'.cell? ⟨gb356, 7, none⟩ = some (.int .i64 t352) ∧ w'.cell? ⟨gb356, 8, none⟩ = some (.int .i64 t353) ∧ w'.cell? ⟨gb356, 9, none⟩ = some (.int .i64 t354)) ∧ (w'.heap[gb356]? = some (.cells #[.int .i64 t345, .int .i64 t346, .int .i64 t347, .int .i64 t348, .int .i64 t349, .int .i64 t350, .int .i64 t351, .int .i64 t352, .int .i64 t353, .int .i64 t354] 32 (0, 0))) ∧ (w'.heap[s_]? = some (.cells #[.int .i64 0, .int .i64 0, .int .i64 0, .bool false, .int .i64 0, .int .i64 0, .int .i64 0, .bool false, .int .i64 0] 37 (0, 0))) ∧ (w.heap.size ≤ s_) ∧ (w.heap.size ≤ s_) ∧ (gb344 ≠ s_) ∧ (s_ ≠ gb344) ∧ (gb356 ≠ s_) ∧ (s_ ≠ gb356) ∧ (IsS26 w w' gb344 l0 t355) ∧ (Below w.heap.size w w')) ?_ ?_
                rotate_left
                · intro hJ2_16
                  refine join_ (σ := Unit) 10 #[true, true, true, true, true, true, false, true, true, true, false, false, false, false, false, false, false, false, false] (fun s_ => [(22, .agg #[.int .i64 t357, .int .i64 t358, .int .i64 t359, .bool t360, .int .i64 t361, .int .i64 t362, .int .i64 t363, .bool t364, .int .i64 t365])]) (fun s_ w' => (w'.cell? ⟨gb356, 0, none⟩ = some (.int .i64 t345) ∧ w'.cell? ⟨gb356, 1, none⟩ = some (.int .i64 t346) ∧ w'.cell? ⟨gb356, 2, none⟩ = some (.int .i64 t347) ∧ w'.cell? ⟨gb356, 3, none⟩ = some (.int .i64 t348) ∧ w'.cell? ⟨gb356, 4, none⟩ = some (.int .i64 t349) ∧ w'.cell? ⟨gb356, 5, none⟩ = some (.int .i64 t350) ∧ w'.cell? ⟨gb356, 6, none⟩ = some (.int .i64 t351) ∧ w'.cell? ⟨gb356, 7, none⟩ = some (.int .i64 t352) ∧ w'.cell? ⟨gb356, 8, none⟩ = some (.int .i64 t353) ∧ w'.cell? ⟨gb356, 9, none⟩ = some (.int .i64 t354)) ∧ (w'.heap[gb356]? = some (.cells #[.int .i64 t345, .int .i64 t346, .int .i64 t347, .int .i64 t348, .int .i64 t349, .int .i64 t350, .int .i64 t351, .int .i64 t352, .int .i64 t353, .int .i64 t354] 32 (0, 0))) ∧ (IsS26 w w' gb344 l0 t355) ∧ (Below w.heap.size w w')) ?_ ?_
                  rotate_left
                  · intro hJ2
                    refine join_ (σ := Nat) 10 #[true, true, false, true, true, true, false, true, true, true, false, false, false, false, false, false, true, false, false] (fun s_ => [(5, .pointer (some ⟨s_, 0, none⟩))]) (fun s_ w' => (w'.cell? ⟨gb356, 0, none⟩ = some (.int .i64 t345) ∧ w'.cell? ⟨gb356, 1, none⟩ = some (.int .i64 t346) ∧ w'.cell? ⟨gb356, 2, none⟩ = some (.int .i64 t347) ∧ w'.cell? ⟨gb356, 3, none⟩ = some (.int .i64 t348) ∧ w'.cell? ⟨gb356, 4, none⟩ = some (.int .i64 t349) ∧ w'.cell? ⟨gb356, 5, none⟩ = some (.int .i64 t350) ∧ w'.cell? ⟨gb356, 6, none⟩ = some (.int .i64 t351) ∧ w'.cell? ⟨gb356, 7, none⟩ = some (.int .i64 t352) ∧ w'.cell? ⟨gb356, 8, none⟩ = some (.int .i64 t353) ∧ w'.cell? ⟨gb356, 9, none⟩ = some (.int .i64 t354)) ∧ (w'.heap[gb356]? = some (.cells #[.int .i64 t345, .int .i64 t346, .int .i64 t347, .int .i64 t348, .int .i64 t349, .int .i64 t350, .int .i64 t351, .int .i64 t352, .int .i64 t353, .int .i64 t354] 32 (0, 0))) ∧ (w'.heap[s_]? = some (.cells #[.int .i64 0, .int .i64 0, .int .i64 0, .bool false, .int .i64 0, .int .i64 0, .int .i64 0, .bool false, .int .i64 0] 37 (0, 0))) ∧ (w.heap.size ≤ s_) ∧ (w.heap.size ≤ s_) ∧ (gb344 ≠ s_) ∧ (s_ ≠ gb344) ∧ (gb356 ≠ s_) ∧ (s_ ≠ gb356) ∧ (IsS26 w w' gb344 l0 t355) ∧ (Below w.heap.size w w')) ?_ ?_
                    rotate_left
                    · intro hJ16
                      refine two_ (i := 2) (j := 16) (Ni := some 22) (Nj := some 5) #[true, true, true, true, true, true, false, true, true, true, false, false, false, false, false, false, false, false, false] #[true, true, false, true, true, true, false, true, true, true, false, false, false, false, false, false, true, false, false] rfl rfl rfl rfl (two_of HT_.out (by kernel_rfl)) (by decide) (by decide) (fun K hK => ?_) (fun K hK => ?_)
                      · skip
                        refine goes_ Try.func12 (by kernel_rfl) rfl #[.agg #[.int .i64 t345, .int .i64 t346, .int .i64 t347, .int .i64 t348, .int .i64 t349, .int .i64 t350, .int .i64 t351, .int .i64 t352, .int .i64 t353, .int .i64 t354]] (by rfl) rfl rfl (by (try simp only [List.map_toArray, List.map_cons, List.map_nil]); first | done | rfl | (simp only [List.length_drop, List.length_take]; rfl)) ?_
                        with_reducible refine (mount_Rest.calls t345 t346 t347 t348 t349 t350 t351 t352 t353 t354 t357 t358 t359 t360 t361 t362 t363 t364 t365 _ A5.out).mono ?_
                        rintro e w16 ⟨rfl, hb⟩
                        refine ⟨_, rfl, ?_⟩
                        have n0_ := Aside0.mk (IsS26.below (by exact HI344.out) hb)
                        have n1_ := Aside0.mk (blk_below BK356.out hb)
                        have n2_ := Aside0.mk (below_step (by exact HB.out) hb)
                        clear HI344
                        clear BK356
                        clear HB
                        have HI344 := n0_
                        have BK356 := n1_
                        have HB := n2_
                        clear n0_ n1_ n2_
                        (try clear hb)
                        (try clear hb2)
                        (try clear hk)
                        (try clear hi)
                        refine hK.out _ _ ⟨(blk_cell BK356.out 0).trans rfl, (blk_cell BK356.out 1).trans rfl, (blk_cell BK356.out 2).trans rfl, (blk_cell BK356.out 3).trans rfl, (blk_cell BK356.out 4).trans rfl, (blk_cell BK356.out 5).trans rfl, (blk_cell BK356.out 6).trans rfl, (blk_cell BK356.out 7).trans rfl, (blk_cell BK356.out 8).trans rfl, (blk_cell BK356.out 9).trans rfl⟩ (fun hHeld => ?_)
                        clear hK K
                        refine norm_ (a' := ?_) ?_ ?_
                        rotate_left
                        · show Act.put _ (some 22) _ = _
                          simp only [Act.put, List.setIfInBounds_toArray, List.set_cons_zero, List.set_cons_succ, i64_w, i32_w]
                          rfl
                        exact norm_ (by first | (simp only [putAll, Act.put, List.setIfInBounds_toArray, List.set_cons_zero, List.set_cons_succ]; done) | (simp only [putAll, Act.put, List.setIfInBounds_toArray, List.set_cons_zero, List.set_cons_succ]; rfl)) (hJ2 () _ ⟨hHeld, (by exact BK356.out), (by exact HI344.out), (by exact HB.out)⟩)
                      · skip
                        refine box_step ?hg (N := 5) ?hd (cs := #[.int .i64 0, .int .i64 0, .int .i64 0, .bool false, .int .i64 0, .int .i64 0, .int .i64 0, .bool false, .int .i64 0]) (t := 37) ?hr ?_; (case hd => rfl); (case hg => rfl); (case hr => first | (go_simp; done) | (go_simp; rfl))
                        intro gb380 hg w16 hbox hb
                        have n0_ := Aside0.mk (IsS26.below (by exact HI344.out) hb)
                        have n1_ := Aside0.mk (blk_below BK356.out hb)
                        have n2_ := Aside0.mk (below_step (by exact HB.out) hb)
                        have n3_ := Aside0.mk (hbox)
                        have n4_ := Aside0.mk ((by rw [hg]; exact (below_size (by exact HB.out)) : w.heap.size ≤ gb380))
                        have n5_ := Aside0.mk ((by rw [hg]; exact (below_size (by exact HB.out)) : w.heap.size ≤ gb380))
                        have n6_ := Aside0.mk ((by rw [hg]; exact Nat.ne_of_lt (blk_lt BK356.out) : gb356 ≠ gb380))
                        have n7_ := Aside0.mk ((by rw [hg]; exact Nat.ne_of_gt (blk_lt BK356.out) : gb380 ≠ gb356))
                        have n8_ := Aside0.mk ((by rw [hg]; exact Nat.ne_of_lt (IsS26.lt (show IsS26 w _ gb344 l0 t355 from by exact HI344.out)) : gb344 ≠ gb380))
                        have n9_ := Aside0.mk ((by rw [hg]; exact Nat.ne_of_gt (IsS26.lt (show IsS26 w _ gb344 l0 t355 from by exact HI344.out)) : gb380 ≠ gb344))
                        clear HI344
                        clear BK356
                        clear HB
                        have HI344 := n0_
                        have BK356 := n1_
                        have HB := n2_
                        have BK380 := n3_
                        have GW380 := n4_
                        have GE380 := n5_
                        have NB356_380 := n6_
                        have NB380_356 := n7_
                        have NB344_380 := n8_
                        have NB380_344 := n9_
                        clear n0_ n1_ n2_ n3_ n4_ n5_ n6_ n7_ n8_ n9_
                        clear hb hbox hg
                        refine hK.out _ _ ⟨(blk_cell BK356.out 0).trans rfl, (blk_cell BK356.out 1).trans rfl, (blk_cell BK356.out 2).trans rfl, (blk_cell BK356.out 3).trans rfl, (blk_cell BK356.out 4).trans rfl, (blk_cell BK356.out 5).trans rfl, (blk_cell BK356.out 6).trans rfl, (blk_cell BK356.out 7).trans rfl, (blk_cell BK356.out 8).trans rfl, (blk_cell BK356.out 9).trans rfl⟩ (fun hHeld => ?_)
                        clear hK K
                        refine norm_ (a' := ?_) ?_ ?_
                        rotate_left
                        · show Act.put _ (some 5) _ = _
                          simp only [Act.put, List.setIfInBounds_toArray, List.set_cons_zero, List.set_cons_succ, i64_w, i32_w]
                          rfl
                        exact norm_ (by first | (simp only [putAll, Act.put, List.setIfInBounds_toArray, List.set_cons_zero, List.set_cons_succ]; done) | (simp only [putAll, Act.put, List.setIfInBounds_toArray, List.set_cons_zero, List.set_cons_succ]; rfl)) (hJ16 (gb380) _ ⟨hHeld, (by exact BK356.out), (by exact BK380.out), GW380.out, GE380.out, NB344_380.out, NB380_344.out, NB356_380.out, NB380_356.out, (by exact HI344.out), (by exact HB.out)⟩)
                    · skip
                      rintro gb380 w17 ⟨hS_, h0_, h1_, h2_, h3_, h4_, h5_, h6_, h7_, h8_, h9_⟩
                      have n0_ : Aside0 (w17.heap[gb356]? = some (.cells #[.int .i64 t345, .int .i64 t346, .int .i64 t347, .int .i64 t348, .int .i64 t349, .int .i64 t350, .int .i64 t351, .int .i64 t352, .int .i64 t353, .int .i64 t354] 32 (0, 0))) := ⟨h0_⟩
                      have n1_ : Aside0 (w17.heap[gb380]? = some (.cells #[.int .i64 0, .int .i64 0, .int .i64 0, .bool false, .int .i64 0, .int .i64 0, .int .i64 0, .bool false, .int .i64 0] 37 (0, 0))) := ⟨h1_⟩
                      have n2_ : Aside0 (w.heap.size ≤ gb380) := ⟨h2_⟩
                      have n3_ : Aside0 (w.heap.size ≤ gb380) := ⟨h3_⟩
                      have n4_ : Aside0 (gb344 ≠ gb380) := ⟨h4_⟩
                      have n5_ : Aside0 (gb380 ≠ gb344) := ⟨h5_⟩
                      have n6_ : Aside0 (gb356 ≠ gb380) := ⟨h6_⟩
                      have n7_ : Aside0 (gb380 ≠ gb356) := ⟨h7_⟩
                      have n8_ : Aside0 (IsS26 w w17 gb344 l0 t355) := ⟨h8_⟩
                      have n9_ : Aside0 (Below w.heap.size w w17) := ⟨h9_⟩
                      clear BK356
                      clear HI344
                      clear HB
                      clear h0_ h1_ h2_ h3_ h4_ h5_ h6_ h7_ h8_ h9_
                      have BK356 := n0_
                      have BK380 := n1_
                      have GW380 := n2_
                      have GE380 := n3_
                      have NB344_380 := n4_
                      have NB380_344 := n5_
                      have NB356_380 := n6_
                      have NB380_356 := n7_
                      have HI344 := n8_
                      have HB := n9_
                      clear n0_ n1_ n2_ n3_ n4_ n5_ n6_ n7_ n8_ n9_
                      have hHeld : w17.cell? ⟨gb356, 0, none⟩ = some (.int .i64 t345) ∧ w17.cell? ⟨gb356, 1, none⟩ = some (.int .i64 t346) ∧ w17.cell? ⟨gb356, 2, none⟩ = some (.int .i64 t347) ∧ w17.cell? ⟨gb356, 3, none⟩ = some (.int .i64 t348) ∧ w17.cell? ⟨gb356, 4, none⟩ = some (.int .i64 t349) ∧ w17.cell? ⟨gb356, 5, none⟩ = some (.int .i64 t350) ∧ w17.cell? ⟨gb356, 6, none⟩ = some (.int .i64 t351) ∧ w17.cell? ⟨gb356, 7, none⟩ = some (.int .i64 t352) ∧ w17.cell? ⟨gb356, 8, none⟩ = some (.int .i64 t353) ∧ w17.cell? ⟨gb356, 9, none⟩ = some (.int .i64 t354) := hS_
                      refine norm_ (a' := ?_) ?_ ?_
                      rotate_left
                      · simp only [putAll, Act.put, List.setIfInBounds_toArray, List.set_cons_zero, List.set_cons_succ]
                        rfl
                      refine one_ (i := 2) (N := some 22) #[true, true, true, true, true, true, false, true, true, true, false, false, false, false, false, false, true, false, false] rfl rfl (one_of HT_.out (by kernel_rfl)) (by decide) (fun K hK => ?_)
                      refine goes_ Try.func12 (by kernel_rfl) rfl #[.agg #[.int .i64 t345, .int .i64 t346, .int .i64 t347, .int .i64 t348, .int .i64 t349, .int .i64 t350, .int .i64 t351, .int .i64 t352, .int .i64 t353, .int .i64 t354]] (by rfl) rfl rfl (by (try simp only [List.map_toArray, List.map_cons, List.map_nil]); first | done | rfl | (simp only [List.length_drop, List.length_take]; rfl)) ?_
                      with_reducible refine (mount_Rest.calls t345 t346 t347 t348 t349 t350 t351 t352 t353 t354 t357 t358 t359 t360 t361 t362 t363 t364 t365 _ A5.out).mono ?_
                      rintro e w18 ⟨rfl, hb⟩
                      refine ⟨_, rfl, ?_⟩
                      have n0_ := Aside0.mk (IsS26.below (by exact HI344.out) hb)
                      have n1_ := Aside0.mk (blk_below BK356.out hb)
                      have n2_ := Aside0.mk (blk_below BK380.out hb)
                      have n3_ := Aside0.mk (below_step (by exact HB.out) hb)
                      clear HI344
                      clear BK356
                      clear BK380
                      clear HB
                      have HI344 := n0_
                      have BK356 := n1_
                      have BK380 := n2_
                      have HB := n3_
                      clear n0_ n1_ n2_ n3_
                      (try clear hb)
                      (try clear hb2)
                      (try clear hk)
                      (try clear hi)
                      refine hK.out _ _ ⟨(blk_cell BK356.out 0).trans rfl, (blk_cell BK356.out 1).trans rfl, (blk_cell BK356.out 2).trans rfl, (blk_cell BK356.out 3).trans rfl, (blk_cell BK356.out 4).trans rfl, (blk_cell BK356.out 5).trans rfl, (blk_cell BK356.out 6).trans rfl, (blk_cell BK356.out 7).trans rfl, (blk_cell BK356.out 8).trans rfl, (blk_cell BK356.out 9).trans rfl⟩ (fun hHeld => ?_)
                      clear hK K
                      refine norm_ (a' := ?_) ?_ ?_
                      rotate_left
                      · show Act.put _ (some 22) _ = _
                        simp only [Act.put, List.setIfInBounds_toArray, List.set_cons_zero, List.set_cons_succ, i64_w, i32_w]
                        rfl
                      exact norm_ (by first | (simp only [putAll, Act.put, List.setIfInBounds_toArray, List.set_cons_zero, List.set_cons_succ]; done) | (simp only [putAll, Act.put, List.setIfInBounds_toArray, List.set_cons_zero, List.set_cons_succ]; rfl)) (hJ2_16 (gb380) _ ⟨hHeld, (by exact BK356.out), (by exact BK380.out), GW380.out, GE380.out, NB344_380.out, NB380_344.out, NB356_380.out, NB380_356.out, (by exact HI344.out), (by exact HB.out)⟩)
                  · skip
                    rintro _ w17 ⟨hS_, h0_, h1_, h2_⟩
                    have n0_ : Aside0 (w17.heap[gb356]? = some (.cells #[.int .i64 t345, .int .i64 t346, .int .i64 t347, .int .i64 t348, .int .i64 t349, .int .i64 t350, .int .i64 t351, .int .i64 t352, .int .i64 t353, .int .i64 t354] 32 (0, 0))) := ⟨h0_⟩
                    have n1_ : Aside0 (IsS26 w w17 gb344 l0 t355) := ⟨h1_⟩
                    have n2_ : Aside0 (Below w.heap.size w w17) := ⟨h2_⟩
                    clear BK356
                    clear HI344
                    clear HB
                    clear h0_ h1_ h2_
                    have BK356 := n0_
                    have HI344 := n1_
                    have HB := n2_
                    clear n0_ n1_ n2_
                    have hHeld : w17.cell? ⟨gb356, 0, none⟩ = some (.int .i64 t345) ∧ w17.cell? ⟨gb356, 1, none⟩ = some (.int .i64 t346) ∧ w17.cell? ⟨gb356, 2, none⟩ = some (.int .i64 t347) ∧ w17.cell? ⟨gb356, 3, none⟩ = some (.int .i64 t348) ∧ w17.cell? ⟨gb356, 4, none⟩ = some (.int .i64 t349) ∧ w17.cell? ⟨gb356, 5, none⟩ = some (.int .i64 t350) ∧ w17.cell? ⟨gb356, 6, none⟩ = some (.int .i64 t351) ∧ w17.cell? ⟨gb356, 7, none⟩ = some (.int .i64 t352) ∧ w17.cell? ⟨gb356, 8, none⟩ = some (.int .i64 t353) ∧ w17.cell? ⟨gb356, 9, none⟩ = some (.int .i64 t354) := hS_
                    refine norm_ (a' := ?_) ?_ ?_
                    rotate_left
                    · simp only [putAll, Act.put, List.setIfInBounds_toArray, List.set_cons_zero, List.set_cons_succ]
                      rfl
                    refine two_ (i := 6) (j := 16) (Ni := some 26) (Nj := some 5) #[true, true, true, true, true, true, true, true, true, true, false, false, false, false, false, false, false, false, false] #[true, true, true, true, true, true, false, true, true, true, false, false, false, false, false, false, true, false, false] rfl rfl rfl rfl (two_of HT_.out (by kernel_rfl)) (by decide) (by decide) (fun K hK => ?_) (fun K hK => ?_)
                    · skip
                      refine goes_ Try.func13 (by kernel_rfl) rfl #[.pointer (some ⟨gb344, 0, none⟩), .agg #[.int .i64 t345, .int .i64 t346, .int .i64 t347, .int .i64 t348]] (by rfl) rfl rfl (by (try simp only [List.map_toArray, List.map_cons, List.map_nil]); first | done | rfl | (simp only [List.length_drop, List.length_take]; rfl)) ?_
                      with_reducible refine (spymake_Stream_Inside.calls gb344 l0 t355 t345 t346 t347 t348 t366 t367 w _ ?side1 ?side2 A6.out).mono ?_
                      (case side1 => exact HI344.out)
                      (case side2 => exact HB.out)
                      rintro e w18 ⟨rfl, hi, hb, hk⟩
                      refine ⟨_, rfl, ?_⟩
                      have n0_ := Aside0.mk (KeepBut.blk hk BK356.out NB356_344.out (by simp))
                      have n1_ := Aside0.mk (hb)
                      have n2_ := Aside0.mk (hi)
                      clear BK356
                      clear HB
                      clear HI344
                      have BK356 := n0_
                      have HB := n1_
                      have HI344 := n2_
                      clear n0_ n1_ n2_
                      (try clear hb)
                      (try clear hb2)
                      (try clear hk)
                      (try clear hi)
                      refine hK.out _ _ ⟨(blk_cell BK356.out 0).trans rfl, (blk_cell BK356.out 1).trans rfl, (blk_cell BK356.out 2).trans rfl, (blk_cell BK356.out 3).trans rfl, (blk_cell BK356.out 4).trans rfl, (blk_cell BK356.out 5).trans rfl, (blk_cell BK356.out 6).trans rfl, (blk_cell BK356.out 7).trans rfl, (blk_cell BK356.out 8).trans rfl, (blk_cell BK356.out 9).trans rfl⟩ (fun hHeld => ?_)
                      clear hK K
                      refine norm_ (a' := ?_) ?_ ?_
                      rotate_left
                      · show Act.put _ (some 26) _ = _
                        simp only [Act.put, List.setIfInBounds_toArray, List.set_cons_zero, List.set_cons_succ, i64_w, i32_w]
                        rfl
                      exact norm_ (by first | (simp only [putAll, Act.put, List.setIfInBounds_toArray, List.set_cons_zero, List.set_cons_succ]; done) | (simp only [putAll, Act.put, List.setIfInBounds_toArray, List.set_cons_zero, List.set_cons_succ]; rfl)) (hJ2_6 () _ ⟨hHeld, (by exact BK356.out), (by exact HI344.out), (by exact HB.out)⟩)
                    · skip
                      refine box_step ?hg (N := 5) ?hd (cs := #[.int .i64 0, .int .i64 0, .int .i64 0, .bool false, .int .i64 0, .int .i64 0, .int .i64 0, .bool false, .int .i64 0]) (t := 37) ?hr ?_; (case hd => rfl); (case hg => rfl); (case hr => first | (go_simp; done) | (go_simp; rfl))
                      intro gb380 hg w18 hbox hb
                      have n0_ := Aside0.mk (IsS26.below (by exact HI344.out) hb)
                      have n1_ := Aside0.mk (blk_below BK356.out hb)
                      have n2_ := Aside0.mk (below_step (by exact HB.out) hb)
                      have n3_ := Aside0.mk (hbox)
                      have n4_ := Aside0.mk ((by rw [hg]; exact (below_size (by exact HB.out)) : w.heap.size ≤ gb380))
                      have n5_ := Aside0.mk ((by rw [hg]; exact (below_size (by exact HB.out)) : w.heap.size ≤ gb380))
                      have n6_ := Aside0.mk ((by rw [hg]; exact Nat.ne_of_lt (blk_lt BK356.out) : gb356 ≠ gb380))
                      have n7_ := Aside0.mk ((by rw [hg]; exact Nat.ne_of_gt (blk_lt BK356.out) : gb380 ≠ gb356))
                      have n8_ := Aside0.mk ((by rw [hg]; exact Nat.ne_of_lt (IsS26.lt (show IsS26 w _ gb344 l0 t355 from by exact HI344.out)) : gb344 ≠ gb380))
                      have n9_ := Aside0.mk ((by rw [hg]; exact Nat.ne_of_gt (IsS26.lt (show IsS26 w _ gb344 l0 t355 from by exact HI344.out)) : gb380 ≠ gb344))
                      clear HI344
                      clear BK356
                      clear HB
                      have HI344 := n0_
                      have BK356 := n1_
                      have HB := n2_
                      have BK380 := n3_
                      have GW380 := n4_
                      have GE380 := n5_
                      have NB356_380 := n6_
                      have NB380_356 := n7_
                      have NB344_380 := n8_
                      have NB380_344 := n9_
                      clear n0_ n1_ n2_ n3_ n4_ n5_ n6_ n7_ n8_ n9_
                      clear hb hbox hg
                      refine hK.out _ _ ⟨(blk_cell BK356.out 0).trans rfl, (blk_cell BK356.out 1).trans rfl, (blk_cell BK356.out 2).trans rfl, (blk_cell BK356.out 3).trans rfl, (blk_cell BK356.out 4).trans rfl, (blk_cell BK356.out 5).trans rfl, (blk_cell BK356.out 6).trans rfl, (blk_cell BK356.out 7).trans rfl, (blk_cell BK356.out 8).trans rfl, (blk_cell BK356.out 9).trans rfl⟩ (fun hHeld => ?_)
                      clear hK K
                      refine norm_ (a' := ?_) ?_ ?_
                      rotate_left
                      · show Act.put _ (some 5) _ = _
                        simp only [Act.put, List.setIfInBounds_toArray, List.set_cons_zero, List.set_cons_succ, i64_w, i32_w]
                        rfl
                      exact norm_ (by first | (simp only [putAll, Act.put, List.setIfInBounds_toArray, List.set_cons_zero, List.set_cons_succ]; done) | (simp only [putAll, Act.put, List.setIfInBounds_toArray, List.set_cons_zero, List.set_cons_succ]; rfl)) (hJ2_16 (gb380) _ ⟨hHeld, (by exact BK356.out), (by exact BK380.out), GW380.out, GE380.out, NB344_380.out, NB380_344.out, NB356_380.out, NB380_356.out, (by exact HI344.out), (by exact HB.out)⟩)
                · skip
                  rintro gb380 w18 ⟨hS_, h0_, h1_, h2_, h3_, h4_, h5_, h6_, h7_, h8_, h9_⟩
                  have n0_ : Aside0 (w18.heap[gb356]? = some (.cells #[.int .i64 t345, .int .i64 t346, .int .i64 t347, .int .i64 t348, .int .i64 t349, .int .i64 t350, .int .i64 t351, .int .i64 t352, .int .i64 t353, .int .i64 t354] 32 (0, 0))) := ⟨h0_⟩
                  have n1_ : Aside0 (w18.heap[gb380]? = some (.cells #[.int .i64 0, .int .i64 0, .int .i64 0, .bool false, .int .i64 0, .int .i64 0, .int .i64 0, .bool false, .int .i64 0] 37 (0, 0))) := ⟨h1_⟩
                  have n2_ : Aside0 (w.heap.size ≤ gb380) := ⟨h2_⟩
                  have n3_ : Aside0 (w.heap.size ≤ gb380) := ⟨h3_⟩
                  have n4_ : Aside0 (gb344 ≠ gb380) := ⟨h4_⟩
                  have n5_ : Aside0 (gb380 ≠ gb344) := ⟨h5_⟩
                  have n6_ : Aside0 (gb356 ≠ gb380) := ⟨h6_⟩
                  have n7_ : Aside0 (gb380 ≠ gb356) := ⟨h7_⟩
                  have n8_ : Aside0 (IsS26 w w18 gb344 l0 t355) := ⟨h8_⟩
                  have n9_ : Aside0 (Below w.heap.size w w18) := ⟨h9_⟩
                  clear BK356
                  clear HI344
                  clear HB
                  clear h0_ h1_ h2_ h3_ h4_ h5_ h6_ h7_ h8_ h9_
                  have BK356 := n0_
                  have BK380 := n1_
                  have GW380 := n2_
                  have GE380 := n3_
                  have NB344_380 := n4_
                  have NB380_344 := n5_
                  have NB356_380 := n6_
                  have NB380_356 := n7_
                  have HI344 := n8_
                  have HB := n9_
                  clear n0_ n1_ n2_ n3_ n4_ n5_ n6_ n7_ n8_ n9_
                  have hHeld : w18.cell? ⟨gb356, 0, none⟩ = some (.int .i64 t345) ∧ w18.cell? ⟨gb356, 1, none⟩ = some (.int .i64 t346) ∧ w18.cell? ⟨gb356, 2, none⟩ = some (.int .i64 t347) ∧ w18.cell? ⟨gb356, 3, none⟩ = some (.int .i64 t348) ∧ w18.cell? ⟨gb356, 4, none⟩ = some (.int .i64 t349) ∧ w18.cell? ⟨gb356, 5, none⟩ = some (.int .i64 t350) ∧ w18.cell? ⟨gb356, 6, none⟩ = some (.int .i64 t351) ∧ w18.cell? ⟨gb356, 7, none⟩ = some (.int .i64 t352) ∧ w18.cell? ⟨gb356, 8, none⟩ = some (.int .i64 t353) ∧ w18.cell? ⟨gb356, 9, none⟩ = some (.int .i64 t354) := hS_
                  refine norm_ (a' := ?_) ?_ ?_
                  rotate_left
                  · simp only [putAll, Act.put, List.setIfInBounds_toArray, List.set_cons_zero, List.set_cons_succ]
                    rfl
                  refine one_ (i := 6) (N := some 26) #[true, true, true, true, true, true, true, true, true, true, false, false, false, false, false, false, true, false, false] rfl rfl (one_of HT_.out (by kernel_rfl)) (by decide) (fun K hK => ?_)
                  refine goes_ Try.func13 (by kernel_rfl) rfl #[.pointer (some ⟨gb344, 0, none⟩), .agg #[.int .i64 t345, .int .i64 t346, .int .i64 t347, .int .i64 t348]] (by rfl) rfl rfl (by (try simp only [List.map_toArray, List.map_cons, List.map_nil]); first | done | rfl | (simp only [List.length_drop, List.length_take]; rfl)) ?_
                  with_reducible refine (spymake_Stream_Inside.calls gb344 l0 t355 t345 t346 t347 t348 t366 t367 w _ ?side1 ?side2 A6.out).mono ?_
                  (case side1 => exact HI344.out)
                  (case side2 => exact HB.out)
                  rintro e w19 ⟨rfl, hi, hb, hk⟩
                  refine ⟨_, rfl, ?_⟩
                  have n0_ := Aside0.mk (KeepBut.blk hk BK356.out NB356_344.out (by simp))
                  have n1_ := Aside0.mk (KeepBut.blk hk BK380.out NB380_344.out (by simp))
                  have n2_ := Aside0.mk (hb)
                  have n3_ := Aside0.mk (hi)
                  clear BK356
                  clear BK380
                  clear HB
                  clear HI344
                  have BK356 := n0_
                  have BK380 := n1_
                  have HB := n2_
                  have HI344 := n3_
                  clear n0_ n1_ n2_ n3_
                  (try clear hb)
                  (try clear hb2)
                  (try clear hk)
                  (try clear hi)
                  refine hK.out _ _ ⟨(blk_cell BK356.out 0).trans rfl, (blk_cell BK356.out 1).trans rfl, (blk_cell BK356.out 2).trans rfl, (blk_cell BK356.out 3).trans rfl, (blk_cell BK356.out 4).trans rfl, (blk_cell BK356.out 5).trans rfl, (blk_cell BK356.out 6).trans rfl, (blk_cell BK356.out 7).trans rfl, (blk_cell BK356.out 8).trans rfl, (blk_cell BK356.out 9).trans rfl⟩ (fun hHeld => ?_)
                  clear hK K
                  refine norm_ (a' := ?_) ?_ ?_
                  rotate_left
                  · show Act.put _ (some 26) _ = _
                    simp only [Act.put, List.setIfInBounds_toArray, List.set_cons_zero, List.set_cons_succ, i64_w, i32_w]
                    rfl
                  exact norm_ (by first | (simp only [putAll, Act.put, List.setIfInBounds_toArray, List.set_cons_zero, List.set_cons_succ]; done) | (simp only [putAll, Act.put, List.setIfInBounds_toArray, List.set_cons_zero, List.set_cons_succ]; rfl)) (hJ2_6_16 (gb380) _ ⟨hHeld, (by exact BK356.out), (by exact BK380.out), GW380.out, GE380.out, NB344_380.out, NB380_344.out, NB356_380.out, NB380_356.out, (by exact HI344.out), (by exact HB.out)⟩)
              · skip
                rintro _ w18 ⟨hS_, h0_, h1_, h2_⟩
                have n0_ : Aside0 (w18.heap[gb356]? = some (.cells #[.int .i64 t345, .int .i64 t346, .int .i64 t347, .int .i64 t348, .int .i64 t349, .int .i64 t350, .int .i64 t351, .int .i64 t352, .int .i64 t353, .int .i64 t354] 32 (0, 0))) := ⟨h0_⟩
                have n1_ : Aside0 (IsS26 w w18 gb344 l0 t367) := ⟨h1_⟩
                have n2_ : Aside0 (Below w.heap.size w w18) := ⟨h2_⟩
                clear BK356
                clear HI344
                clear HB
                clear h0_ h1_ h2_
                have BK356 := n0_
                have HI344 := n1_
                have HB := n2_
                clear n0_ n1_ n2_
                have hHeld : w18.cell? ⟨gb356, 0, none⟩ = some (.int .i64 t345) ∧ w18.cell? ⟨gb356, 1, none⟩ = some (.int .i64 t346) ∧ w18.cell? ⟨gb356, 2, none⟩ = some (.int .i64 t347) ∧ w18.cell? ⟨gb356, 3, none⟩ = some (.int .i64 t348) ∧ w18.cell? ⟨gb356, 4, none⟩ = some (.int .i64 t349) ∧ w18.cell? ⟨gb356, 5, none⟩ = some (.int .i64 t350) ∧ w18.cell? ⟨gb356, 6, none⟩ = some (.int .i64 t351) ∧ w18.cell? ⟨gb356, 7, none⟩ = some (.int .i64 t352) ∧ w18.cell? ⟨gb356, 8, none⟩ = some (.int .i64 t353) ∧ w18.cell? ⟨gb356, 9, none⟩ = some (.int .i64 t354) := hS_
                refine norm_ (a' := ?_) ?_ ?_
                rotate_left
                · simp only [putAll, Act.put, List.setIfInBounds_toArray, List.set_cons_zero, List.set_cons_succ]
                  rfl
                refine two_ (i := 10) (j := 16) (Ni := some 30) (Nj := some 5) #[true, true, true, true, true, true, true, true, true, true, true, false, false, false, false, false, false, false, false] #[true, true, true, true, true, true, true, true, true, true, false, false, false, false, false, false, true, false, false] rfl rfl rfl rfl (two_of HT_.out (by kernel_rfl)) (by decide) (by decide) (fun K hK => ?_) (fun K hK => ?_)
                · skip
                  refine goes_ Try.func13 (by kernel_rfl) rfl #[.pointer (some ⟨gb344, 0, none⟩), .agg #[.int .i64 t349, .int .i64 t350, .int .i64 t351, .int .i64 t352]] (by rfl) rfl rfl (by (try simp only [List.map_toArray, List.map_cons, List.map_nil]); first | done | rfl | (simp only [List.length_drop, List.length_take]; rfl)) ?_
                  with_reducible refine (spymake_Stream_Inside.calls gb344 l0 t367 t349 t350 t351 t352 t368 t369 w _ ?side1 ?side2 A7.out).mono ?_
                  (case side1 => exact HI344.out)
                  (case side2 => exact HB.out)
                  rintro e w19 ⟨rfl, hi, hb, hk⟩
                  refine ⟨_, rfl, ?_⟩
                  have n0_ := Aside0.mk (KeepBut.blk hk BK356.out NB356_344.out (by simp))
                  have n1_ := Aside0.mk (hb)
                  have n2_ := Aside0.mk (hi)
                  clear BK356
                  clear HB
                  clear HI344
                  have BK356 := n0_
                  have HB := n1_
                  have HI344 := n2_
                  clear n0_ n1_ n2_
                  (try clear hb)
                  (try clear hb2)
                  (try clear hk)
                  (try clear hi)
                  refine hK.out _ _ ⟨(blk_cell BK356.out 0).trans rfl, (blk_cell BK356.out 1).trans rfl, (blk_cell BK356.out 2).trans rfl, (blk_cell BK356.out 3).trans rfl, (blk_cell BK356.out 4).trans rfl, (blk_cell BK356.out 5).trans rfl, (blk_cell BK356.out 6).trans rfl, (blk_cell BK356.out 7).trans rfl, (blk_cell BK356.out 8).trans rfl, (blk_cell BK356.out 9).trans rfl⟩ (fun hHeld => ?_)
                  clear hK K
                  refine norm_ (a' := ?_) ?_ ?_
                  rotate_left
                  · show Act.put _ (some 30) _ = _
                    simp only [Act.put, List.setIfInBounds_toArray, List.set_cons_zero, List.set_cons_succ, i64_w, i32_w]
                    rfl
                  refine pure_ (i := 11) (N := some 31) (v := ?_) (a' := ?_) #[true, true, true, true, true, true, true, true, true, true, true, true, false, false, false, false, false, false, false] rfl rfl (any_of HT_.out (by kernel_rfl)) (fun _ _ _ h => h) (Or.inl ⟨by rfl, ?_⟩) ?_ ?_
                  rotate_left
                  · intro w'
                    go_simp
                    with_reducible rfl
                  rotate_left
                  · simp only [Act.put, List.setIfInBounds_toArray, List.set_cons_zero, List.set_cons_succ, i64_w, i32_w]
                    rfl
                  exact norm_ (by first | (simp only [putAll, Act.put, List.setIfInBounds_toArray, List.set_cons_zero, List.set_cons_succ]; done) | (simp only [putAll, Act.put, List.setIfInBounds_toArray, List.set_cons_zero, List.set_cons_succ]; rfl)) (hJ2_6_10 () _ ⟨hHeld, (by exact BK356.out), (by exact HI344.out), (by exact HB.out)⟩)
                · skip
                  refine box_step ?hg (N := 5) ?hd (cs := #[.int .i64 0, .int .i64 0, .int .i64 0, .bool false, .int .i64 0, .int .i64 0, .int .i64 0, .bool false, .int .i64 0]) (t := 37) ?hr ?_; (case hd => rfl); (case hg => rfl); (case hr => first | (go_simp; done) | (go_simp; rfl))
                  intro gb380 hg w19 hbox hb
                  have n0_ := Aside0.mk (IsS26.below (by exact HI344.out) hb)
                  have n1_ := Aside0.mk (blk_below BK356.out hb)
                  have n2_ := Aside0.mk (below_step (by exact HB.out) hb)
                  have n3_ := Aside0.mk (hbox)
                  have n4_ := Aside0.mk ((by rw [hg]; exact (below_size (by exact HB.out)) : w.heap.size ≤ gb380))
                  have n5_ := Aside0.mk ((by rw [hg]; exact (below_size (by exact HB.out)) : w.heap.size ≤ gb380))
                  have n6_ := Aside0.mk ((by rw [hg]; exact Nat.ne_of_lt (blk_lt BK356.out) : gb356 ≠ gb380))
                  have n7_ := Aside0.mk ((by rw [hg]; exact Nat.ne_of_gt (blk_lt BK356.out) : gb380 ≠ gb356))
                  have n8_ := Aside0.mk ((by rw [hg]; exact Nat.ne_of_lt (IsS26.lt (show IsS26 w _ gb344 l0 t367 from by exact HI344.out)) : gb344 ≠ gb380))
                  have n9_ := Aside0.mk ((by rw [hg]; exact Nat.ne_of_gt (IsS26.lt (show IsS26 w _ gb344 l0 t367 from by exact HI344.out)) : gb380 ≠ gb344))
                  clear HI344
                  clear BK356
                  clear HB
                  have HI344 := n0_
                  have BK356 := n1_
                  have HB := n2_
                  have BK380 := n3_
                  have GW380 := n4_
                  have GE380 := n5_
                  have NB356_380 := n6_
                  have NB380_356 := n7_
                  have NB344_380 := n8_
                  have NB380_344 := n9_
                  clear n0_ n1_ n2_ n3_ n4_ n5_ n6_ n7_ n8_ n9_
                  clear hb hbox hg
                  refine hK.out _ _ ⟨(blk_cell BK356.out 0).trans rfl, (blk_cell BK356.out 1).trans rfl, (blk_cell BK356.out 2).trans rfl, (blk_cell BK356.out 3).trans rfl, (blk_cell BK356.out 4).trans rfl, (blk_cell BK356.out 5).trans rfl, (blk_cell BK356.out 6).trans rfl, (blk_cell BK356.out 7).trans rfl, (blk_cell BK356.out 8).trans rfl, (blk_cell BK356.out 9).trans rfl⟩ (fun hHeld => ?_)
                  clear hK K
                  refine norm_ (a' := ?_) ?_ ?_
                  rotate_left
                  · show Act.put _ (some 5) _ = _
                    simp only [Act.put, List.setIfInBounds_toArray, List.set_cons_zero, List.set_cons_succ, i64_w, i32_w]
                    rfl
                  exact norm_ (by first | (simp only [putAll, Act.put, List.setIfInBounds_toArray, List.set_cons_zero, List.set_cons_succ]; done) | (simp only [putAll, Act.put, List.setIfInBounds_toArray, List.set_cons_zero, List.set_cons_succ]; rfl)) (hJ2_6_16 (gb380) _ ⟨hHeld, (by exact BK356.out), (by exact BK380.out), GW380.out, GE380.out, NB344_380.out, NB380_344.out, NB356_380.out, NB380_356.out, (by exact HI344.out), (by exact HB.out)⟩)
            · skip
              rintro gb380 w19 ⟨hS_, h0_, h1_, h2_, h3_, h4_, h5_, h6_, h7_, h8_, h9_⟩
              have n0_ : Aside0 (w19.heap[gb356]? = some (.cells #[.int .i64 t345, .int .i64 t346, .int .i64 t347, .int .i64 t348, .int .i64 t349, .int .i64 t350, .int .i64 t351, .int .i64 t352, .int .i64 t353, .int .i64 t354] 32 (0, 0))) := ⟨h0_⟩
              have n1_ : Aside0 (w19.heap[gb380]? = some (.cells #[.int .i64 0, .int .i64 0, .int .i64 0, .bool false, .int .i64 0, .int .i64 0, .int .i64 0, .bool false, .int .i64 0] 37 (0, 0))) := ⟨h1_⟩
              have n2_ : Aside0 (w.heap.size ≤ gb380) := ⟨h2_⟩
              have n3_ : Aside0 (w.heap.size ≤ gb380) := ⟨h3_⟩
              have n4_ : Aside0 (gb344 ≠ gb380) := ⟨h4_⟩
              have n5_ : Aside0 (gb380 ≠ gb344) := ⟨h5_⟩
              have n6_ : Aside0 (gb356 ≠ gb380) := ⟨h6_⟩
              have n7_ : Aside0 (gb380 ≠ gb356) := ⟨h7_⟩
              have n8_ : Aside0 (IsS26 w w19 gb344 l0 t367) := ⟨h8_⟩
              have n9_ : Aside0 (Below w.heap.size w w19) := ⟨h9_⟩
              clear BK356
              clear HI344
              clear HB
              clear h0_ h1_ h2_ h3_ h4_ h5_ h6_ h7_ h8_ h9_
              have BK356 := n0_
              have BK380 := n1_
              have GW380 := n2_
              have GE380 := n3_
              have NB344_380 := n4_
              have NB380_344 := n5_
              have NB356_380 := n6_
              have NB380_356 := n7_
              have HI344 := n8_
              have HB := n9_
              clear n0_ n1_ n2_ n3_ n4_ n5_ n6_ n7_ n8_ n9_
              have hHeld : w19.cell? ⟨gb356, 0, none⟩ = some (.int .i64 t345) ∧ w19.cell? ⟨gb356, 1, none⟩ = some (.int .i64 t346) ∧ w19.cell? ⟨gb356, 2, none⟩ = some (.int .i64 t347) ∧ w19.cell? ⟨gb356, 3, none⟩ = some (.int .i64 t348) ∧ w19.cell? ⟨gb356, 4, none⟩ = some (.int .i64 t349) ∧ w19.cell? ⟨gb356, 5, none⟩ = some (.int .i64 t350) ∧ w19.cell? ⟨gb356, 6, none⟩ = some (.int .i64 t351) ∧ w19.cell? ⟨gb356, 7, none⟩ = some (.int .i64 t352) ∧ w19.cell? ⟨gb356, 8, none⟩ = some (.int .i64 t353) ∧ w19.cell? ⟨gb356, 9, none⟩ = some (.int .i64 t354) := hS_
              refine norm_ (a' := ?_) ?_ ?_
              rotate_left
              · simp only [putAll, Act.put, List.setIfInBounds_toArray, List.set_cons_zero, List.set_cons_succ]
                rfl
              refine one_ (i := 10) (N := some 30) #[true, true, true, true, true, true, true, true, true, true, true, false, false, false, false, false, true, false, false] rfl rfl (one_of HT_.out (by kernel_rfl)) (by decide) (fun K hK => ?_)
              refine goes_ Try.func13 (by kernel_rfl) rfl #[.pointer (some ⟨gb344, 0, none⟩), .agg #[.int .i64 t349, .int .i64 t350, .int .i64 t351, .int .i64 t352]] (by rfl) rfl rfl (by (try simp only [List.map_toArray, List.map_cons, List.map_nil]); first | done | rfl | (simp only [List.length_drop, List.length_take]; rfl)) ?_
              with_reducible refine (spymake_Stream_Inside.calls gb344 l0 t367 t349 t350 t351 t352 t368 t369 w _ ?side1 ?side2 A7.out).mono ?_
              (case side1 => exact HI344.out)
              (case side2 => exact HB.out)
              rintro e w20 ⟨rfl, hi, hb, hk⟩
              refine ⟨_, rfl, ?_⟩
              have n0_ := Aside0.mk (KeepBut.blk hk BK356.out NB356_344.out (by simp))
              have n1_ := Aside0.mk (KeepBut.blk hk BK380.out NB380_344.out (by simp))
              have n2_ := Aside0.mk (hb)
              have n3_ := Aside0.mk (hi)
              clear BK356
              clear BK380
              clear HB
              clear HI344
              have BK356 := n0_
              have BK380 := n1_
              have HB := n2_
              have HI344 := n3_
              clear n0_ n1_ n2_ n3_
              (try clear hb)
              (try clear hb2)
              (try clear hk)
              (try clear hi)
              refine hK.out _ _ ⟨(blk_cell BK356.out 0).trans rfl, (blk_cell BK356.out 1).trans rfl, (blk_cell BK356.out 2).trans rfl, (blk_cell BK356.out 3).trans rfl, (blk_cell BK356.out 4).trans rfl, (blk_cell BK356.out 5).trans rfl, (blk_cell BK356.out 6).trans rfl, (blk_cell BK356.out 7).trans rfl, (blk_cell BK356.out 8).trans rfl, (blk_cell BK356.out 9).trans rfl⟩ (fun hHeld => ?_)
              clear hK K
              refine norm_ (a' := ?_) ?_ ?_
              rotate_left
              · show Act.put _ (some 30) _ = _
                simp only [Act.put, List.setIfInBounds_toArray, List.set_cons_zero, List.set_cons_succ, i64_w, i32_w]
                rfl
              refine pure_ (i := 11) (N := some 31) (v := ?_) (a' := ?_) #[true, true, true, true, true, true, true, true, true, true, true, true, false, false, false, false, true, false, false] rfl rfl (any_of HT_.out (by kernel_rfl)) (fun _ _ _ h => h) (Or.inl ⟨by rfl, ?_⟩) ?_ ?_
              rotate_left
              · intro w'
                go_simp
                with_reducible rfl
              rotate_left
              · simp only [Act.put, List.setIfInBounds_toArray, List.set_cons_zero, List.set_cons_succ, i64_w, i32_w]
                rfl
              exact norm_ (by first | (simp only [putAll, Act.put, List.setIfInBounds_toArray, List.set_cons_zero, List.set_cons_succ]; done) | (simp only [putAll, Act.put, List.setIfInBounds_toArray, List.set_cons_zero, List.set_cons_succ]; rfl)) (hJ2_6_10_16 (gb380) _ ⟨hHeld, (by exact BK356.out), (by exact BK380.out), GW380.out, GE380.out, NB344_380.out, NB380_344.out, NB356_380.out, NB380_356.out, (by exact HI344.out), (by exact HB.out)⟩)
          · skip
            rintro _ w19 ⟨hS_, h0_, h1_, h2_⟩
            have n0_ : Aside0 (w19.heap[gb356]? = some (.cells #[.int .i64 t345, .int .i64 t346, .int .i64 t347, .int .i64 t348, .int .i64 t349, .int .i64 t350, .int .i64 t351, .int .i64 t352, .int .i64 t353, .int .i64 t354] 32 (0, 0))) := ⟨h0_⟩
            have n1_ : Aside0 (IsS26 w w19 gb344 l0 t369) := ⟨h1_⟩
            have n2_ : Aside0 (Below w.heap.size w w19) := ⟨h2_⟩
            clear BK356
            clear HI344
            clear HB
            clear h0_ h1_ h2_
            have BK356 := n0_
            have HI344 := n1_
            have HB := n2_
            clear n0_ n1_ n2_
            have hHeld : w19.cell? ⟨gb356, 0, none⟩ = some (.int .i64 t345) ∧ w19.cell? ⟨gb356, 1, none⟩ = some (.int .i64 t346) ∧ w19.cell? ⟨gb356, 2, none⟩ = some (.int .i64 t347) ∧ w19.cell? ⟨gb356, 3, none⟩ = some (.int .i64 t348) ∧ w19.cell? ⟨gb356, 4, none⟩ = some (.int .i64 t349) ∧ w19.cell? ⟨gb356, 5, none⟩ = some (.int .i64 t350) ∧ w19.cell? ⟨gb356, 6, none⟩ = some (.int .i64 t351) ∧ w19.cell? ⟨gb356, 7, none⟩ = some (.int .i64 t352) ∧ w19.cell? ⟨gb356, 8, none⟩ = some (.int .i64 t353) ∧ w19.cell? ⟨gb356, 9, none⟩ = some (.int .i64 t354) := hS_
            refine norm_ (a' := ?_) ?_ ?_
            rotate_left
            · simp only [putAll, Act.put, List.setIfInBounds_toArray, List.set_cons_zero, List.set_cons_succ]
              rfl
            refine two_ (i := 12) (j := 16) (Ni := some 32) (Nj := some 5) #[true, true, true, true, true, true, true, true, true, true, true, true, true, false, false, false, false, false, false] #[true, true, true, true, true, true, true, true, true, true, true, true, false, false, false, false, true, false, false] rfl rfl rfl rfl (two_of HT_.out (by kernel_rfl)) (by decide) (by decide) (fun K hK => ?_) (fun K hK => ?_)
            · skip
              refine goes_ Try.func15 (by kernel_rfl) rfl #[.agg #[.int .i64 t345, .int .i64 t346, .int .i64 t347, .int .i64 t348, .int .i64 t349, .int .i64 t350, .int .i64 t351, .int .i64 t352, .int .i64 t353, .int .i64 t354], .agg #[.int .i64 t357, .int .i64 t358, .int .i64 t359, .bool t360, .int .i64 t361, .int .i64 t362, .int .i64 t363, .bool t364, .int .i64 t365], .agg #[.int .i64 t366, .int .i64 t368]] (by rfl) rfl rfl (by (try simp only [List.map_toArray, List.map_cons, List.map_nil]); first | done | rfl | (simp only [List.length_drop, List.length_take]; rfl)) ?_
              with_reducible refine (mount_Goto.calls k t345 t346 t347 t348 t349 t350 t351 t352 t353 t354 t357 t358 t359 t360 t361 t362 t363 t364 t365 t366 t368 t370 t371 t372 t373 t374 t375 t376 t377 t378 t379 _ A8.out).mono ?_
              rintro e w20 ⟨rfl, hb⟩
              refine ⟨_, rfl, ?_⟩
              have n0_ := Aside0.mk (IsS26.below (by exact HI344.out) hb)
              have n1_ := Aside0.mk (blk_below BK356.out hb)
              have n2_ := Aside0.mk (below_step (by exact HB.out) hb)
              clear HI344
              clear BK356
              clear HB
              have HI344 := n0_
              have BK356 := n1_
              have HB := n2_
              clear n0_ n1_ n2_
              (try clear hb)
              (try clear hb2)
              (try clear hk)
              (try clear hi)
              refine hK.out _ _ ⟨(blk_cell BK356.out 0).trans rfl, (blk_cell BK356.out 1).trans rfl, (blk_cell BK356.out 2).trans rfl, (blk_cell BK356.out 3).trans rfl, (blk_cell BK356.out 4).trans rfl, (blk_cell BK356.out 5).trans rfl, (blk_cell BK356.out 6).trans rfl, (blk_cell BK356.out 7).trans rfl, (blk_cell BK356.out 8).trans rfl, (blk_cell BK356.out 9).trans rfl⟩ (fun hHeld => ?_)
              clear hK K
              refine norm_ (a' := ?_) ?_ ?_
              rotate_left
              · show Act.put _ (some 32) _ = _
                simp only [Act.put, List.setIfInBounds_toArray, List.set_cons_zero, List.set_cons_succ, i64_w, i32_w]
                rfl
              refine pure_ (i := 13) (N := some 19) (v := ?_) (a' := ?_) #[true, true, true, true, true, true, true, true, true, true, true, true, true, true, false, false, false, false, false] rfl rfl (any_of HT_.out (by kernel_rfl)) (fun _ _ _ h => h) (Or.inl ⟨by rfl, ?_⟩) ?_ ?_
              rotate_left
              · intro w'
                go_simp
                with_reducible rfl
              rotate_left
              · simp only [Act.put, List.setIfInBounds_toArray, List.set_cons_zero, List.set_cons_succ, i64_w, i32_w]
                rfl
              refine pure_ (i := 14) (N := some 33) (v := ?_) (a' := ?_) #[true, true, true, true, true, true, true, true, true, true, true, true, true, true, true, false, false, false, false] rfl rfl (any_of HT_.out (by kernel_rfl)) (fun _ _ _ h => h) (Or.inl ⟨by rfl, ?_⟩) ?_ ?_
              rotate_left
              · intro w'
                go_simp
                with_reducible rfl
              rotate_left
              · simp only [Act.put, List.setIfInBounds_toArray, List.set_cons_zero, List.set_cons_succ, i64_w, i32_w]
                rfl
              refine pure_ (i := 15) (N := some 34) (v := ?_) (a' := ?_) #[true, true, true, true, true, true, true, true, true, true, true, true, true, true, true, true, false, false, false] rfl rfl (any_of HT_.out (by kernel_rfl)) (fun _ _ _ h => h) (Or.inl ⟨by rfl, ?_⟩) ?_ ?_
              rotate_left
              · intro w'
                go_simp
                with_reducible rfl
              rotate_left
              · simp only [Act.put, List.setIfInBounds_toArray, List.set_cons_zero, List.set_cons_succ, i64_w, i32_w]
                rfl
              exact norm_ (by first | (simp only [putAll, Act.put, List.setIfInBounds_toArray, List.set_cons_zero, List.set_cons_succ]; done) | (simp only [putAll, Act.put, List.setIfInBounds_toArray, List.set_cons_zero, List.set_cons_succ]; rfl)) (hJ2_6_10_12 () _ ⟨hHeld, (by exact BK356.out), (by exact HI344.out), (by exact HB.out)⟩)
            · skip
              refine box_step ?hg (N := 5) ?hd (cs := #[.int .i64 0, .int .i64 0, .int .i64 0, .bool false, .int .i64 0, .int .i64 0, .int .i64 0, .bool false, .int .i64 0]) (t := 37) ?hr ?_; (case hd => rfl); (case hg => rfl); (case hr => first | (go_simp; done) | (go_simp; rfl))
              intro gb380 hg w20 hbox hb
              have n0_ := Aside0.mk (IsS26.below (by exact HI344.out) hb)
              have n1_ := Aside0.mk (blk_below BK356.out hb)
              have n2_ := Aside0.mk (below_step (by exact HB.out) hb)
              have n3_ := Aside0.mk (hbox)
              have n4_ := Aside0.mk ((by rw [hg]; exact (below_size (by exact HB.out)) : w.heap.size ≤ gb380))
              have n5_ := Aside0.mk ((by rw [hg]; exact (below_size (by exact HB.out)) : w.heap.size ≤ gb380))
              have n6_ := Aside0.mk ((by rw [hg]; exact Nat.ne_of_lt (blk_lt BK356.out) : gb356 ≠ gb380))
              have n7_ := Aside0.mk ((by rw [hg]; exact Nat.ne_of_gt (blk_lt BK356.out) : gb380 ≠ gb356))
              have n8_ := Aside0.mk ((by rw [hg]; exact Nat.ne_of_lt (IsS26.lt (show IsS26 w _ gb344 l0 t369 from by exact HI344.out)) : gb344 ≠ gb380))
              have n9_ := Aside0.mk ((by rw [hg]; exact Nat.ne_of_gt (IsS26.lt (show IsS26 w _ gb344 l0 t369 from by exact HI344.out)) : gb380 ≠ gb344))
              clear HI344
              clear BK356
              clear HB
              have HI344 := n0_
              have BK356 := n1_
              have HB := n2_
              have BK380 := n3_
              have GW380 := n4_
              have GE380 := n5_
              have NB356_380 := n6_
              have NB380_356 := n7_
              have NB344_380 := n8_
              have NB380_344 := n9_
              clear n0_ n1_ n2_ n3_ n4_ n5_ n6_ n7_ n8_ n9_
              clear hb hbox hg
              refine hK.out _ _ ⟨(blk_cell BK356.out 0).trans rfl, (blk_cell BK356.out 1).trans rfl, (blk_cell BK356.out 2).trans rfl, (blk_cell BK356.out 3).trans rfl, (blk_cell BK356.out 4).trans rfl, (blk_cell BK356.out 5).trans rfl, (blk_cell BK356.out 6).trans rfl, (blk_cell BK356.out 7).trans rfl, (blk_cell BK356.out 8).trans rfl, (blk_cell BK356.out 9).trans rfl⟩ (fun hHeld => ?_)
              clear hK K
              refine norm_ (a' := ?_) ?_ ?_
              rotate_left
              · show Act.put _ (some 5) _ = _
                simp only [Act.put, List.setIfInBounds_toArray, List.set_cons_zero, List.set_cons_succ, i64_w, i32_w]
                rfl
              exact norm_ (by first | (simp only [putAll, Act.put, List.setIfInBounds_toArray, List.set_cons_zero, List.set_cons_succ]; done) | (simp only [putAll, Act.put, List.setIfInBounds_toArray, List.set_cons_zero, List.set_cons_succ]; rfl)) (hJ2_6_10_16 (gb380) _ ⟨hHeld, (by exact BK356.out), (by exact BK380.out), GW380.out, GE380.out, NB344_380.out, NB380_344.out, NB356_380.out, NB380_356.out, (by exact HI344.out), (by exact HB.out)⟩)
        · skip
          rintro gb380 w20 ⟨hS_, h0_, h1_, h2_, h3_, h4_, h5_, h6_, h7_, h8_, h9_⟩
          have n0_ : Aside0 (w20.heap[gb356]? = some (.cells #[.int .i64 t345, .int .i64 t346, .int .i64 t347, .int .i64 t348, .int .i64 t349, .int .i64 t350, .int .i64 t351, .int .i64 t352, .int .i64 t353, .int .i64 t354] 32 (0, 0))) := ⟨h0_⟩
          have n1_ : Aside0 (w20.heap[gb380]? = some (.cells #[.int .i64 0, .int .i64 0, .int .i64 0, .bool false, .int .i64 0, .int .i64 0, .int .i64 0, .bool false, .int .i64 0] 37 (0, 0))) := ⟨h1_⟩
          have n2_ : Aside0 (w.heap.size ≤ gb380) := ⟨h2_⟩
          have n3_ : Aside0 (w.heap.size ≤ gb380) := ⟨h3_⟩
          have n4_ : Aside0 (gb344 ≠ gb380) := ⟨h4_⟩
          have n5_ : Aside0 (gb380 ≠ gb344) := ⟨h5_⟩
          have n6_ : Aside0 (gb356 ≠ gb380) := ⟨h6_⟩
          have n7_ : Aside0 (gb380 ≠ gb356) := ⟨h7_⟩
          have n8_ : Aside0 (IsS26 w w20 gb344 l0 t369) := ⟨h8_⟩
          have n9_ : Aside0 (Below w.heap.size w w20) := ⟨h9_⟩
          clear BK356
          clear HI344
          clear HB
          clear h0_ h1_ h2_ h3_ h4_ h5_ h6_ h7_ h8_ h9_
          have BK356 := n0_
          have BK380 := n1_
          have GW380 := n2_
          have GE380 := n3_
          have NB344_380 := n4_
          have NB380_344 := n5_
          have NB356_380 := n6_
          have NB380_356 := n7_
          have HI344 := n8_
          have HB := n9_
          clear n0_ n1_ n2_ n3_ n4_ n5_ n6_ n7_ n8_ n9_
          have hHeld : w20.cell? ⟨gb356, 0, none⟩ = some (.int .i64 t345) ∧ w20.cell? ⟨gb356, 1, none⟩ = some (.int .i64 t346) ∧ w20.cell? ⟨gb356, 2, none⟩ = some (.int .i64 t347) ∧ w20.cell? ⟨gb356, 3, none⟩ = some (.int .i64 t348) ∧ w20.cell? ⟨gb356, 4, none⟩ = some (.int .i64 t349) ∧ w20.cell? ⟨gb356, 5, none⟩ = some (.int .i64 t350) ∧ w20.cell? ⟨gb356, 6, none⟩ = some (.int .i64 t351) ∧ w20.cell? ⟨gb356, 7, none⟩ = some (.int .i64 t352) ∧ w20.cell? ⟨gb356, 8, none⟩ = some (.int .i64 t353) ∧ w20.cell? ⟨gb356, 9, none⟩ = some (.int .i64 t354) := hS_
          refine norm_ (a' := ?_) ?_ ?_
          rotate_left
          · simp only [putAll, Act.put, List.setIfInBounds_toArray, List.set_cons_zero, List.set_cons_succ]
            rfl
          refine one_ (i := 12) (N := some 32) #[true, true, true, true, true, true, true, true, true, true, true, true, true, false, false, false, true, false, false] rfl rfl (one_of HT_.out (by kernel_rfl)) (by decide) (fun K hK => ?_)
          refine goes_ Try.func15 (by kernel_rfl) rfl #[.agg #[.int .i64 t345, .int .i64 t346, .int .i64 t347, .int .i64 t348, .int .i64 t349, .int .i64 t350, .int .i64 t351, .int .i64 t352, .int .i64 t353, .int .i64 t354], .agg #[.int .i64 t357, .int .i64 t358, .int .i64 t359, .bool t360, .int .i64 t361, .int .i64 t362, .int .i64 t363, .bool t364, .int .i64 t365], .agg #[.int .i64 t366, .int .i64 t368]] (by rfl) rfl rfl (by (try simp only [List.map_toArray, List.map_cons, List.map_nil]); first | done | rfl | (simp only [List.length_drop, List.length_take]; rfl)) ?_
          with_reducible refine (mount_Goto.calls k t345 t346 t347 t348 t349 t350 t351 t352 t353 t354 t357 t358 t359 t360 t361 t362 t363 t364 t365 t366 t368 t370 t371 t372 t373 t374 t375 t376 t377 t378 t379 _ A8.out).mono ?_
          rintro e w21 ⟨rfl, hb⟩
          refine ⟨_, rfl, ?_⟩
          have n0_ := Aside0.mk (IsS26.below (by exact HI344.out) hb)
          have n1_ := Aside0.mk (blk_below BK356.out hb)
          have n2_ := Aside0.mk (blk_below BK380.out hb)
          have n3_ := Aside0.mk (below_step (by exact HB.out) hb)
          clear HI344
          clear BK356
          clear BK380
          clear HB
          have HI344 := n0_
          have BK356 := n1_
          have BK380 := n2_
          have HB := n3_
          clear n0_ n1_ n2_ n3_
          (try clear hb)
          (try clear hb2)
          (try clear hk)
          (try clear hi)
          refine hK.out _ _ ⟨(blk_cell BK356.out 0).trans rfl, (blk_cell BK356.out 1).trans rfl, (blk_cell BK356.out 2).trans rfl, (blk_cell BK356.out 3).trans rfl, (blk_cell BK356.out 4).trans rfl, (blk_cell BK356.out 5).trans rfl, (blk_cell BK356.out 6).trans rfl, (blk_cell BK356.out 7).trans rfl, (blk_cell BK356.out 8).trans rfl, (blk_cell BK356.out 9).trans rfl⟩ (fun hHeld => ?_)
          clear hK K
          refine norm_ (a' := ?_) ?_ ?_
          rotate_left
          · show Act.put _ (some 32) _ = _
            simp only [Act.put, List.setIfInBounds_toArray, List.set_cons_zero, List.set_cons_succ, i64_w, i32_w]
            rfl
          refine pure_ (i := 13) (N := some 19) (v := ?_) (a' := ?_) #[true, true, true, true, true, true, true, true, true, true, true, true, true, true, false, false, true, false, false] rfl rfl (any_of HT_.out (by kernel_rfl)) (fun _ _ _ h => h) (Or.inl ⟨by rfl, ?_⟩) ?_ ?_
          rotate_left
          · intro w'
            go_simp
            with_reducible rfl
          rotate_left
          · simp only [Act.put, List.setIfInBounds_toArray, List.set_cons_zero, List.set_cons_succ, i64_w, i32_w]
            rfl
          refine pure_ (i := 14) (N := some 33) (v := ?_) (a' := ?_) #[true, true, true, true, true, true, true, true, true, true, true, true, true, true, true, false, true, false, false] rfl rfl (any_of HT_.out (by kernel_rfl)) (fun _ _ _ h => h) (Or.inl ⟨by rfl, ?_⟩) ?_ ?_
          rotate_left
          · intro w'
            go_simp
            with_reducible rfl
          rotate_left
          · simp only [Act.put, List.setIfInBounds_toArray, List.set_cons_zero, List.set_cons_succ, i64_w, i32_w]
            rfl
          refine pure_ (i := 15) (N := some 34) (v := ?_) (a' := ?_) #[true, true, true, true, true, true, true, true, true, true, true, true, true, true, true, true, true, false, false] rfl rfl (any_of HT_.out (by kernel_rfl)) (fun _ _ _ h => h) (Or.inl ⟨by rfl, ?_⟩) ?_ ?_
          rotate_left
          · intro w'
            go_simp
            with_reducible rfl
          rotate_left
          · simp only [Act.put, List.setIfInBounds_toArray, List.set_cons_zero, List.set_cons_succ, i64_w, i32_w]
            rfl
          exact norm_ (by first | (simp only [putAll, Act.put, List.setIfInBounds_toArray, List.set_cons_zero, List.set_cons_succ]; done) | (simp only [putAll, Act.put, List.setIfInBounds_toArray, List.set_cons_zero, List.set_cons_succ]; rfl)) (hJ2_6_10_12_16 (gb380) _ ⟨hHeld, (by exact BK356.out), (by exact BK380.out), GW380.out, GE380.out, NB344_380.out, NB380_344.out, NB356_380.out, NB380_356.out, (by exact HI344.out), (by exact HB.out)⟩)
      · skip
        rintro _ w20 ⟨hS_, h0_, h1_, h2_⟩
        have n0_ : Aside0 (w20.heap[gb356]? = some (.cells #[.int .i64 t345, .int .i64 t346, .int .i64 t347, .int .i64 t348, .int .i64 t349, .int .i64 t350, .int .i64 t351, .int .i64 t352, .int .i64 t353, .int .i64 t354] 32 (0, 0))) := ⟨h0_⟩
        have n1_ : Aside0 (IsS26 w w20 gb344 l0 t369) := ⟨h1_⟩
        have n2_ : Aside0 (Below w.heap.size w w20) := ⟨h2_⟩
        clear BK356
        clear HI344
        clear HB
        clear h0_ h1_ h2_
        have BK356 := n0_
        have HI344 := n1_
        have HB := n2_
        clear n0_ n1_ n2_
        have hHeld : w20.cell? ⟨gb356, 0, none⟩ = some (.int .i64 t345) ∧ w20.cell? ⟨gb356, 1, none⟩ = some (.int .i64 t346) ∧ w20.cell? ⟨gb356, 2, none⟩ = some (.int .i64 t347) ∧ w20.cell? ⟨gb356, 3, none⟩ = some (.int .i64 t348) ∧ w20.cell? ⟨gb356, 4, none⟩ = some (.int .i64 t349) ∧ w20.cell? ⟨gb356, 5, none⟩ = some (.int .i64 t350) ∧ w20.cell? ⟨gb356, 6, none⟩ = some (.int .i64 t351) ∧ w20.cell? ⟨gb356, 7, none⟩ = some (.int .i64 t352) ∧ w20.cell? ⟨gb356, 8, none⟩ = some (.int .i64 t353) ∧ w20.cell? ⟨gb356, 9, none⟩ = some (.int .i64 t354) := hS_
        refine norm_ (a' := ?_) ?_ ?_
        rotate_left
        · simp only [putAll, Act.put, List.setIfInBounds_toArray, List.set_cons_zero, List.set_cons_succ]
          rfl
        refine one_ (i := 16) (N := some 5) #[true, true, true, true, true, true, true, true, true, true, true, true, true, true, true, true, true, false, false] rfl rfl (one_of HT_.out (by kernel_rfl)) (by decide) (fun K hK => ?_)
        refine box_step ?hg (N := 5) ?hd (cs := #[.int .i64 0, .int .i64 0, .int .i64 0, .bool false, .int .i64 0, .int .i64 0, .int .i64 0, .bool false, .int .i64 0]) (t := 37) ?hr ?_; (case hd => rfl); (case hg => rfl); (case hr => first | (go_simp; done) | (go_simp; rfl))
        intro gb380 hg w21 hbox hb
        have n0_ := Aside0.mk (IsS26.below (by exact HI344.out) hb)
        have n1_ := Aside0.mk (blk_below BK356.out hb)
        have n2_ := Aside0.mk (below_step (by exact HB.out) hb)
        have n3_ := Aside0.mk (hbox)
        have n4_ := Aside0.mk ((by rw [hg]; exact (below_size (by exact HB.out)) : w.heap.size ≤ gb380))
        have n5_ := Aside0.mk ((by rw [hg]; exact (below_size (by exact HB.out)) : w.heap.size ≤ gb380))
        have n6_ := Aside0.mk ((by rw [hg]; exact Nat.ne_of_lt (blk_lt BK356.out) : gb356 ≠ gb380))
        have n7_ := Aside0.mk ((by rw [hg]; exact Nat.ne_of_gt (blk_lt BK356.out) : gb380 ≠ gb356))
        have n8_ := Aside0.mk ((by rw [hg]; exact Nat.ne_of_lt (IsS26.lt (show IsS26 w _ gb344 l0 t369 from by exact HI344.out)) : gb344 ≠ gb380))
        have n9_ := Aside0.mk ((by rw [hg]; exact Nat.ne_of_gt (IsS26.lt (show IsS26 w _ gb344 l0 t369 from by exact HI344.out)) : gb380 ≠ gb344))
        clear HI344
        clear BK356
        clear HB
        have HI344 := n0_
        have BK356 := n1_
        have HB := n2_
        have BK380 := n3_
        have GW380 := n4_
        have GE380 := n5_
        have NB356_380 := n6_
        have NB380_356 := n7_
        have NB344_380 := n8_
        have NB380_344 := n9_
        clear n0_ n1_ n2_ n3_ n4_ n5_ n6_ n7_ n8_ n9_
        clear hb hbox hg
        refine hK.out _ _ ⟨(blk_cell BK356.out 0).trans rfl, (blk_cell BK356.out 1).trans rfl, (blk_cell BK356.out 2).trans rfl, (blk_cell BK356.out 3).trans rfl, (blk_cell BK356.out 4).trans rfl, (blk_cell BK356.out 5).trans rfl, (blk_cell BK356.out 6).trans rfl, (blk_cell BK356.out 7).trans rfl, (blk_cell BK356.out 8).trans rfl, (blk_cell BK356.out 9).trans rfl⟩ (fun hHeld => ?_)
        clear hK K
        refine norm_ (a' := ?_) ?_ ?_
        rotate_left
        · show Act.put _ (some 5) _ = _
          simp only [Act.put, List.setIfInBounds_toArray, List.set_cons_zero, List.set_cons_succ, i64_w, i32_w]
          rfl
        exact norm_ (by first | (simp only [putAll, Act.put, List.setIfInBounds_toArray, List.set_cons_zero, List.set_cons_succ]; done) | (simp only [putAll, Act.put, List.setIfInBounds_toArray, List.set_cons_zero, List.set_cons_succ]; rfl)) (hJ2_6_10_12_16 (gb380) _ ⟨hHeld, (by exact BK356.out), (by exact BK380.out), GW380.out, GE380.out, NB344_380.out, NB380_344.out, NB356_380.out, NB380_356.out, (by exact HI344.out), (by exact HB.out)⟩)
    rintro gb380 w21 ⟨hS_, h0_, h1_, h2_, h3_, h4_, h5_, h6_, h7_, h8_, h9_⟩
    have n0_ : Aside0 (w21.heap[gb356]? = some (.cells #[.int .i64 t345, .int .i64 t346, .int .i64 t347, .int .i64 t348, .int .i64 t349, .int .i64 t350, .int .i64 t351, .int .i64 t352, .int .i64 t353, .int .i64 t354] 32 (0, 0))) := ⟨h0_⟩
    have n1_ : Aside0 (w21.heap[gb380]? = some (.cells #[.int .i64 0, .int .i64 0, .int .i64 0, .bool false, .int .i64 0, .int .i64 0, .int .i64 0, .bool false, .int .i64 0] 37 (0, 0))) := ⟨h1_⟩
    have n2_ : Aside0 (w.heap.size ≤ gb380) := ⟨h2_⟩
    have n3_ : Aside0 (w.heap.size ≤ gb380) := ⟨h3_⟩
    have n4_ : Aside0 (gb344 ≠ gb380) := ⟨h4_⟩
    have n5_ : Aside0 (gb380 ≠ gb344) := ⟨h5_⟩
    have n6_ : Aside0 (gb356 ≠ gb380) := ⟨h6_⟩
    have n7_ : Aside0 (gb380 ≠ gb356) := ⟨h7_⟩
    have n8_ : Aside0 (IsS26 w w21 gb344 l0 t369) := ⟨h8_⟩
    have n9_ : Aside0 (Below w.heap.size w w21) := ⟨h9_⟩
    clear BK356
    clear HI344
    clear HB
    clear h0_ h1_ h2_ h3_ h4_ h5_ h6_ h7_ h8_ h9_
    have BK356 := n0_
    have BK380 := n1_
    have GW380 := n2_
    have GE380 := n3_
    have NB344_380 := n4_
    have NB380_344 := n5_
    have NB356_380 := n6_
    have NB380_356 := n7_
    have HI344 := n8_
    have HB := n9_
    clear n0_ n1_ n2_ n3_ n4_ n5_ n6_ n7_ n8_ n9_
    have hHeld : w21.cell? ⟨gb356, 0, none⟩ = some (.int .i64 t345) ∧ w21.cell? ⟨gb356, 1, none⟩ = some (.int .i64 t346) ∧ w21.cell? ⟨gb356, 2, none⟩ = some (.int .i64 t347) ∧ w21.cell? ⟨gb356, 3, none⟩ = some (.int .i64 t348) ∧ w21.cell? ⟨gb356, 4, none⟩ = some (.int .i64 t349) ∧ w21.cell? ⟨gb356, 5, none⟩ = some (.int .i64 t350) ∧ w21.cell? ⟨gb356, 6, none⟩ = some (.int .i64 t351) ∧ w21.cell? ⟨gb356, 7, none⟩ = some (.int .i64 t352) ∧ w21.cell? ⟨gb356, 8, none⟩ = some (.int .i64 t353) ∧ w21.cell? ⟨gb356, 9, none⟩ = some (.int .i64 t354) := hS_
    refine norm_ (a' := ?_) ?_ ?_
    rotate_left
    · simp only [putAll, Act.put, List.setIfInBounds_toArray, List.set_cons_zero, List.set_cons_succ]
      rfl
    refine one_ (i := 17) (N := none) #[true, true, true, true, true, true, true, true, true, true, true, true, true, true, true, true, true, true, false] rfl rfl (one_of HT_.out (by kernel_rfl)) (by decide) (fun K hK => ?_)
    have hs22 : w21.cell? ⟨gb380, 0, none⟩ = some (.int .i64 0) := (blk_cell BK380.out 0).trans rfl
    have hfs22 := blk_frozen BK380.out 0
    have hns22_0 := NB356_380.out
    have hms22_0 := NB380_356.out
    have hs23 : w21.cell? ⟨gb380, 1, none⟩ = some (.int .i64 0) := (blk_cell BK380.out 1).trans rfl
    have hfs23 := blk_frozen BK380.out 1
    have hns23_0 := NB356_380.out
    have hms23_0 := NB380_356.out
    have hs24 : w21.cell? ⟨gb380, 2, none⟩ = some (.int .i64 0) := (blk_cell BK380.out 2).trans rfl
    have hfs24 := blk_frozen BK380.out 2
    have hns24_0 := NB356_380.out
    have hms24_0 := NB380_356.out
    have hs25 : w21.cell? ⟨gb380, 3, none⟩ = some (.bool false) := (blk_cell BK380.out 3).trans rfl
    have hfs25 := blk_frozen BK380.out 3
    have hns25_0 := NB356_380.out
    have hms25_0 := NB380_356.out
    have hs26 : w21.cell? ⟨gb380, 4, none⟩ = some (.int .i64 0) := (blk_cell BK380.out 4).trans rfl
    have hfs26 := blk_frozen BK380.out 4
    have hns26_0 := NB356_380.out
    have hms26_0 := NB380_356.out
    have hs27 : w21.cell? ⟨gb380, 5, none⟩ = some (.int .i64 0) := (blk_cell BK380.out 5).trans rfl
    have hfs27 := blk_frozen BK380.out 5
    have hns27_0 := NB356_380.out
    have hms27_0 := NB380_356.out
    have hs28 : w21.cell? ⟨gb380, 6, none⟩ = some (.int .i64 0) := (blk_cell BK380.out 6).trans rfl
    have hfs28 := blk_frozen BK380.out 6
    have hns28_0 := NB356_380.out
    have hms28_0 := NB380_356.out
    have hs29 : w21.cell? ⟨gb380, 7, none⟩ = some (.bool false) := (blk_cell BK380.out 7).trans rfl
    have hfs29 := blk_frozen BK380.out 7
    have hns29_0 := NB356_380.out
    have hms29_0 := NB380_356.out
    have hs30 : w21.cell? ⟨gb380, 8, none⟩ = some (.int .i64 0) := (blk_cell BK380.out 8).trans rfl
    have hfs30 := blk_frozen BK380.out 8
    have hns30_0 := NB356_380.out
    have hms30_0 := NB380_356.out
    refine skip_ (w1 := ?_) (by rfl) rfl ?_ ?_
    rotate_left
    · go_simp
      rfl
    refine hK.out _ _ ⟨((cell_far (p := ⟨gb380, _, none⟩) NB356_380.out _).trans (((cell_far (p := ⟨gb380, _, none⟩) NB356_380.out _).trans (((cell_far (p := ⟨gb380, _, none⟩) NB356_380.out _).trans (((cell_far (p := ⟨gb380, _, none⟩) NB356_380.out _).trans (((cell_far (p := ⟨gb380, _, none⟩) NB356_380.out _).trans (((cell_far (p := ⟨gb380, _, none⟩) NB356_380.out _).trans (((cell_far (p := ⟨gb380, _, none⟩) NB356_380.out _).trans (((cell_far (p := ⟨gb380, _, none⟩) NB356_380.out _).trans (((cell_far (p := ⟨gb380, _, none⟩) NB356_380.out _).trans (hHeld.1)))))))))))))))))), ((cell_far (p := ⟨gb380, _, none⟩) NB356_380.out _).trans (((cell_far (p := ⟨gb380, _, none⟩) NB356_380.out _).trans (((cell_far (p := ⟨gb380, _, none⟩) NB356_380.out _).trans (((cell_far (p := ⟨gb380, _, none⟩) NB356_380.out _).trans (((cell_far (p := ⟨gb380, _, none⟩) NB356_380.out _).trans (((cell_far (p := ⟨gb380, _, none⟩) NB356_380.out _).trans (((cell_far (p := ⟨gb380, _, none⟩) NB356_380.out _).trans (((cell_far (p := ⟨gb380, _, none⟩) NB356_380.out _).trans (((cell_far (p := ⟨gb380, _, none⟩) NB356_380.out _).trans (hHeld.2.1)))))))))))))))))), ((cell_far (p := ⟨gb380, _, none⟩) NB356_380.out _).trans (((cell_far (p := ⟨gb380, _, none⟩) NB356_380.out _).trans (((cell_far (p := ⟨gb380, _, none⟩) NB356_380.out _).trans (((cell_far (p := ⟨gb380, _, none⟩) NB356_380.out _).trans (((cell_far (p := ⟨gb380, _, none⟩) NB356_380.out _).trans (((cell_far (p := ⟨gb380, _, none⟩) NB356_380.out _).trans (((cell_far (p := ⟨gb380, _, none⟩) NB356_380.out _).trans (((cell_far (p := ⟨gb380, _, none⟩) NB356_380.out _).trans (((cell_far (p := ⟨gb380, _, none⟩) NB356_380.out _).trans (hHeld.2.2.1)))))))))))))))))), ((cell_far (p := ⟨gb380, _, none⟩) NB356_380.out _).trans (((cell_far (p := ⟨gb380, _, none⟩) NB356_380.out _).trans (((cell_far (p := ⟨gb380, _, none⟩) NB356_380.out _).trans (((cell_far (p := ⟨gb380, _, none⟩) NB356_380.out _).trans (((cell_far (p := ⟨gb380, _, none⟩) NB356_380.out _).trans (((cell_far (p := ⟨gb380, _, none⟩) NB356_380.out _).trans (((cell_far (p := ⟨gb380, _, none⟩) NB356_380.out _).trans (((cell_far (p := ⟨gb380, _, none⟩) NB356_380.out _).trans (((cell_far (p := ⟨gb380, _, none⟩) NB356_380.out _).trans (hHeld.2.2.2.1)))))))))))))))))), ((cell_far (p := ⟨gb380, _, none⟩) NB356_380.out _).trans (((cell_far (p := ⟨gb380, _, none⟩) NB356_380.out _).trans (((cell_far (p := ⟨gb380, _, none⟩) NB356_380.out _).trans (((cell_far (p := ⟨gb380, _, none⟩) NB356_380.out _).trans (((cell_far (p := ⟨gb380, _, none⟩) NB356_380.out _).trans (((cell_far (p := ⟨gb380, _, none⟩) NB356_380.out _).trans (((cell_far (p := ⟨gb380, _, none⟩) NB356_380.out _).trans (((cell_far (p := ⟨gb380, _, none⟩) NB356_380.out _).trans (((cell_far (p := ⟨gb380, _, none⟩) NB356_380.out _).trans (hHeld.2.2.2.2.1)))))))))))))))))), ((cell_far (p := ⟨gb380, _, none⟩) NB356_380.out _).trans (((cell_far (p := ⟨gb380, _, none⟩) NB356_380.out _).trans (((cell_far (p := ⟨gb380, _, none⟩) NB356_380.out _).trans (((cell_far (p := ⟨gb380, _, none⟩) NB356_380.out _).trans (((cell_far (p := ⟨gb380, _, none⟩) NB356_380.out _).trans (((cell_far (p := ⟨gb380, _, none⟩) NB356_380.out _).trans (((cell_far (p := ⟨gb380, _, none⟩) NB356_380.out _).trans (((cell_far (p := ⟨gb380, _, none⟩) NB356_380.out _).trans (((cell_far (p := ⟨gb380, _, none⟩) NB356_380.out _).trans (hHeld.2.2.2.2.2.1)))))))))))))))))), ((cell_far (p := ⟨gb380, _, none⟩) NB356_380.out _).trans (((cell_far (p := ⟨gb380, _, none⟩) NB356_380.out _).trans (((cell_far (p := ⟨gb380, _, none⟩) NB356_380.out _).trans (((cell_far (p := ⟨gb380, _, none⟩) NB356_380.out _).trans (((cell_far (p := ⟨gb380, _, none⟩) NB356_380.out _).trans (((cell_far (p := ⟨gb380, _, none⟩) NB356_380.out _).trans (((cell_far (p := ⟨gb380, _, none⟩) NB356_380.out _).trans (((cell_far (p := ⟨gb380, _, none⟩) NB356_380.out _).trans (((cell_far (p := ⟨gb380, _, none⟩) NB356_380.out _).trans (hHeld.2.2.2.2.2.2.1)))))))))))))))))), ((cell_far (p := ⟨gb380, _, none⟩) NB356_380.out _).trans (((cell_far (p := ⟨gb380, _, none⟩) NB356_380.out _).trans (((cell_far (p := ⟨gb380, _, none⟩) NB356_380.out _).trans (((cell_far (p := ⟨gb380, _, none⟩) NB356_380.out _).trans (((cell_far (p := ⟨gb380, _, none⟩) NB356_380.out _).trans (((cell_far (p := ⟨gb380, _, none⟩) NB356_380.out _).trans (((cell_far (p := ⟨gb380, _, none⟩) NB356_380.out _).trans (((cell_far (p := ⟨gb380, _, none⟩) NB356_380.out _).trans (((cell_far (p := ⟨gb380, _, none⟩) NB356_380.out _).trans (hHeld.2.2.2.2.2.2.2.1)))))))))))))))))), ((cell_far (p := ⟨gb380, _, none⟩) NB356_380.out _).trans (((cell_far (p := ⟨gb380, _, none⟩) NB356_380.out _).trans (((cell_far (p := ⟨gb380, _, none⟩) NB356_380.out _).trans (((cell_far (p := ⟨gb380, _, none⟩) NB356_380.out _).trans (((cell_far (p := ⟨gb380, _, none⟩) NB356_380.out _).trans (((cell_far (p := ⟨gb380, _, none⟩) NB356_380.out _).trans (((cell_far (p := ⟨gb380, _, none⟩) NB356_380.out _).trans (((cell_far (p := ⟨gb380, _, none⟩) NB356_380.out _).trans (((cell_far (p := ⟨gb380, _, none⟩) NB356_380.out _).trans (hHeld.2.2.2.2.2.2.2.2.1)))))))))))))))))), ((cell_far (p := ⟨gb380, _, none⟩) NB356_380.out _).trans (((cell_far (p := ⟨gb380, _, none⟩) NB356_380.out _).trans (((cell_far (p := ⟨gb380, _, none⟩) NB356_380.out _).trans (((cell_far (p := ⟨gb380, _, none⟩) NB356_380.out _).trans (((cell_far (p := ⟨gb380, _, none⟩) NB356_380.out _).trans (((cell_far (p := ⟨gb380, _, none⟩) NB356_380.out _).trans (((cell_far (p := ⟨gb380, _, none⟩) NB356_380.out _).trans (((cell_far (p := ⟨gb380, _, none⟩) NB356_380.out _).trans (((cell_far (p := ⟨gb380, _, none⟩) NB356_380.out _).trans (hHeld.2.2.2.2.2.2.2.2.2))))))))))))))))))⟩ (fun hHeld => ?_)
    clear hK K
    refine pure_ (i := 18) (N := some 6) (v := ?_) (a' := ?_) #[true, true, true, true, true, true, true, true, true, true, true, true, true, true, true, true, true, true, true] rfl rfl (any_of HT_.out (by kernel_rfl)) (fun _ _ _ h => h) (Or.inl ⟨by rfl, ?_⟩) ?_ ?_
    rotate_left
    · intro w'
      go_simp
      with_reducible rfl
    rotate_left
    · simp only [Act.put, List.setIfInBounds_toArray, List.set_cons_zero, List.set_cons_succ, i64_w, i32_w]
      rfl
    refine done_ (done_of HT_.out (by kernel_rfl)) ?_
    try go_wp2_with (first | ((with_reducible refine gate_callee (f := 14) rfl ?_); refine goesL_ (some 36) rfl rfl Try.func14 (by kernel_rfl) rfl #[.pointer (some ⟨gb344, 0, none⟩), .int .i64 40] rfl (by (try simp only [List.map_toArray, List.map_cons, List.map_nil]); first | done | rfl | (simp only [List.length_drop, List.length_take]; rfl)) ?_; (with_reducible refine (spymake_Stream_Next.calls gb344 l0 t369 40 t381 t382 w _ ?side1 ?side2 A9.out).mono ?_); (case side1 => repeat (first | (with_reducible first | exact HI344.out | apply IsS26.alloc | apply IsS26.drewN | apply IsS26.drew | apply IsS26.set_1 | refine IsS26.far ?_ NB344_356.out _ | refine IsS26.far ?_ NB344_380.out _) | exact HI344.out)); (case side2 => repeat (first | (with_reducible first | exact HB.out | apply below_alloc | apply pw_below_drewN | apply below_drew1 | refine below_set ?_ (IsS26.ge HI344.out) | refine below_set ?_ GE356.out | refine below_set ?_ GE380.out) | exact HB.out)); rintro e w31 ⟨rfl, hi, hb, hk⟩; refine ⟨_, rfl, ?_⟩; have n0_ := Aside0.mk (KeepBut.blk hk (g' := gb356) (o := .cells #[.int .i64 t345, .int .i64 t346, .int .i64 t347, .int .i64 t348, .int .i64 t349, .int .i64 t350, .int .i64 t351, .int .i64 t352, .int .i64 t353, .int .i64 t354] 32 (0, 0)) (by exact (blk_far (blk_far (blk_far (blk_far (blk_far (blk_far (blk_far (blk_far (blk_far BK356.out NB356_380.out _) NB356_380.out _) NB356_380.out _) NB356_380.out _) NB356_380.out _) NB356_380.out _) NB356_380.out _) NB356_380.out _) NB356_380.out _)) NB356_344.out (by simp)); have n1_ := Aside0.mk (KeepBut.blk hk (g' := gb380) (o := .cells #[.int .i64 t370, .int .i64 t371, .int .i64 t372, .bool t373, .int .i64 t374, .int .i64 t375, .int .i64 t376, .bool t377, .int .i64 t378] 37 (0, 0)) (by exact (blk_put (cs := #[.int .i64 t370, .int .i64 t371, .int .i64 t372, .bool t373, .int .i64 t374, .int .i64 t375, .int .i64 t376, .bool t377, .int .i64 0]) (blk_put (cs := #[.int .i64 t370, .int .i64 t371, .int .i64 t372, .bool t373, .int .i64 t374, .int .i64 t375, .int .i64 t376, .bool false, .int .i64 0]) (blk_put (cs := #[.int .i64 t370, .int .i64 t371, .int .i64 t372, .bool t373, .int .i64 t374, .int .i64 t375, .int .i64 0, .bool false, .int .i64 0]) (blk_put (cs := #[.int .i64 t370, .int .i64 t371, .int .i64 t372, .bool t373, .int .i64 t374, .int .i64 0, .int .i64 0, .bool false, .int .i64 0]) (blk_put (cs := #[.int .i64 t370, .int .i64 t371, .int .i64 t372, .bool t373, .int .i64 0, .int .i64 0, .int .i64 0, .bool false, .int .i64 0]) (blk_put (cs := #[.int .i64 t370, .int .i64 t371, .int .i64 t372, .bool false, .int .i64 0, .int .i64 0, .int .i64 0, .bool false, .int .i64 0]) (blk_put (cs := #[.int .i64 t370, .int .i64 t371, .int .i64 0, .bool false, .int .i64 0, .int .i64 0, .int .i64 0, .bool false, .int .i64 0]) (blk_put (cs := #[.int .i64 t370, .int .i64 0, .int .i64 0, .bool false, .int .i64 0, .int .i64 0, .int .i64 0, .bool false, .int .i64 0]) (blk_put (cs := #[.int .i64 0, .int .i64 0, .int .i64 0, .bool false, .int .i64 0, .int .i64 0, .int .i64 0, .bool false, .int .i64 0]) BK380.out 0 _ rfl) 1 _ rfl) 2 _ rfl) 3 _ rfl) 4 _ rfl) 5 _ rfl) 6 _ rfl) 7 _ rfl) 8 _ rfl)) NB380_344.out (by simp)); have n2_ := Aside0.mk (hb); have n3_ := Aside0.mk (hi); clear BK356; clear BK380; clear HB; clear HI344; have BK356 := n0_; have BK380 := n1_; have HB := n2_; have HI344 := n3_; clear n0_ n1_ n2_ n3_; (try clear hb); (try clear hb2); (try clear hk); (try clear hi)))
    go_loopg [37] k (fun kq v37 w' => ∃ (x37_1 : Int) (x381000_1 : Int) (x381001_1 : Int) (x381002_1 : Int) (x381003_1 : Bool) (x381004_1 : Int) (x381005_1 : Int) (x381006_1 : Int) (x381007_1 : Bool) (x381008_1 : Int), v37 = .int .i64 x37_1 ∧ Aside0 (spykeep2_MountParks.l0 kq t379 t381 x37_1 t345 t346 t347 t348 t349 t350 t351 t352 t353 t354 x381000_1 x381001_1 x381002_1 x381003_1 x381004_1 x381005_1 x381006_1 x381007_1 x381008_1 = some r) ∧ Aside0 (kq ≤ k) ∧ Aside0 (w'.heap[gb356]? = some (.cells #[.int .i64 t345, .int .i64 t346, .int .i64 t347, .int .i64 t348, .int .i64 t349, .int .i64 t350, .int .i64 t351, .int .i64 t352, .int .i64 t353, .int .i64 t354] 32 (0, 0))) ∧ Aside0 (w'.heap[gb380]? = some (.cells #[.int .i64 x381000_1, .int .i64 x381001_1, .int .i64 x381002_1, .bool x381003_1, .int .i64 x381004_1, .int .i64 x381005_1, .int .i64 x381006_1, .bool x381007_1, .int .i64 x381008_1] 37 (0, 0))) ∧ Aside0 (Below w.heap.size w w'))
    case atStart => exact ⟨(0), (t370), (t371), (t372), (t373), (t374), (t375), (t376), (t377), (t378), (by first | rfl | (simp; done) | (simp [*]; done)), H', ⟨Nat.le_refl _⟩, ⟨by exact BK356.out⟩, ⟨by exact BK380.out⟩, ⟨by exact HB.out⟩⟩
    case round =>
      clear H'
      try clear c1
      try clear p2
      try clear c13
      try clear c14
      try clear c15
      obtain ⟨x37_1, x381000_1, x381001_1, x381002_1, x381003_1, x381004_1, x381005_1, x381006_1, x381007_1, x381008_1, rfl, HA, HK1, BK356, BK380, HB⟩ := hrel
      cases gk with
      | zero => exact absurd HA.out (by simp [spykeep2_MountParks.l0])
      | succ k1 =>
        have H := HA.out
        clear HA
        simp only [spykeep2_MountParks.l0] at H
        by_cases c32 : x37_1 < t381
        · rw [if_pos c32] at H
          have c32b0 : decide (x37_1 < t381) = true := decide_eq_true c32
          clear c32
          replace H := Option.bind_eq_some_iff.mp H
          obtain ⟨⟨t383, t384, t385, t386, t387, t388, t389, t390, t391⟩, A330, H⟩ := H
          replace H : (spykeep2_MountParks.l0 k1 t379 t381 (wrap64 (x37_1 + 1)) t345 t346 t347 t348 t349 t350 t351 t352 t353 t354 t383 t384 t385 t386 t387 t388 t389 t390 t391) = some r := H
          have A33 := Aside0.mk A330
          clear A330
          have H' := Aside0.mk H
          clear H
          have hcz34_0 := tch10 BK356.out
          have hcz35_0 := tch9 BK380.out
          go_wp2_with (first | ((with_reducible refine gate_callee (f := 20) rfl ?_); refine goesL_ (some 41) rfl rfl Try.func20 (by kernel_rfl) rfl #[.agg #[.int .i64 t345, .int .i64 t346, .int .i64 t347, .int .i64 t348, .int .i64 t349, .int .i64 t350, .int .i64 t351, .int .i64 t352, .int .i64 t353, .int .i64 t354], .agg #[.int .i64 x381000_1, .int .i64 x381001_1, .int .i64 x381002_1, .bool x381003_1, .int .i64 x381004_1, .int .i64 x381005_1, .int .i64 x381006_1, .bool x381007_1, .int .i64 x381008_1]] rfl (by (try simp only [List.map_toArray, List.map_cons, List.map_nil]); first | done | rfl | (simp only [List.length_drop, List.length_take]; rfl)) ?_; (with_reducible refine (mount_Step.calls k1 t345 t346 t347 t348 t349 t350 t351 t352 t353 t354 x381000_1 x381001_1 x381002_1 x381003_1 x381004_1 x381005_1 x381006_1 x381007_1 x381008_1 t383 t384 t385 t386 t387 t388 t389 t390 t391 _ A33.out).mono ?_); rintro e w36 ⟨rfl, hb⟩; refine ⟨_, rfl, ?_⟩; have n0_ := Aside0.mk (blk_below BK356.out hb); have n1_ := Aside0.mk (blk_below BK380.out hb); have n2_ := Aside0.mk (below_step (by exact HB.out) hb); clear BK356; clear BK380; clear HB; have BK356 := n0_; have BK380 := n1_; have HB := n2_; clear n0_ n1_ n2_; (try clear hb); (try clear hb2); (try clear hk); (try clear hi)) | ((with_reducible refine gate_store (t := 37) (p := 5) rfl ?_); refine store_row (t := 37) (p := 5) (v := ?vo_w37) ?hgd ?ho ?hN gb380 0 #[.int .i64 x381000_1, .int .i64 x381001_1, .int .i64 x381002_1, .bool x381003_1, .int .i64 x381004_1, .int .i64 x381005_1, .int .i64 x381006_1, .bool x381007_1, .int .i64 x381008_1] [.int .i64 t383, .int .i64 t384, .int .i64 t385, .bool t386, .int .i64 t387, .int .i64 t388, .int .i64 t389, .bool t390, .int .i64 t391] #[.int .i64 t383, .int .i64 t384, .int .i64 t385, .bool t386, .int .i64 t387, .int .i64 t388, .int .i64 t389, .bool t390, .int .i64 t391] ?hx ?hy (by exact BK380.out) szi37 (Nat.le_of_ble_eq_true rfl) ?h1 ?hnew ?_; (case ho => rfl); (case hgd => rfl); (case hN => rfl); (case hx => rfl); (case hy => first | rfl | (go_simp; done) | (go_simp; rfl)); (case h1 => rfl); (case hnew => rfl); intro w37 hbox hg; have n0_ := Aside0.mk (blk_grown BK356.out hg (fun e_ => NB356_380.out (Option.some.inj e_))); have n1_ := Aside0.mk (pw_below_grown (by exact HB.out) (some gb380) (below_size (by exact HB.out)) hg (fun k_ e_ => by cases e_; exact GE380.out)); have n2_ := Aside0.mk (hbox); clear BK356; clear HB; clear BK380; have BK356 := n0_; have HB := n1_; have BK380 := n2_; clear n0_ n1_ n2_; clear hbox hg))
          go_roundg k1
          case measure => have := HK1.out; omega
          case rel => exact ⟨(wrap64 (x37_1 + 1)), (t383), (t384), (t385), (t386), (t387), (t388), (t389), (t390), (t391), (by first | rfl | (simp; done) | (simp [*]; done)), H', ⟨by have := HK1.out; omega⟩, ⟨by exact BK356.out⟩, ⟨by exact BK380.out⟩, ⟨by exact HB.out⟩⟩
        · rw [if_neg c32] at H
          have c32b0 : decide (x37_1 < t381) = false := decide_eq_false c32
          clear c32
          replace H := Option.bind_eq_some_iff.mp H
          obtain ⟨⟨t392, t393, t394, t395, t396, t397, t398, t399, t400, t401⟩, A380, H⟩ := H
          replace H : (spykeep2_MountParks.l1 k1 t379 t401 0 t345 t346 t347 t348 t349 t350 t351 t352 t353 t354 t392 t393 t394 t395 t396 t397 t398 t399 t400) = some r := H
          have A38 := Aside0.mk A380
          clear A380
          have H' := Aside0.mk H
          clear H
          have hcz39_0 := tch10 BK356.out
          have hcz40_0 := tch9 BK380.out
          go_wp2_with (first | ((with_reducible refine gate_callee (f := 17) rfl ?_); refine goesL_ (some 46) rfl rfl Try.func17 (by kernel_rfl) rfl #[.agg #[.int .i64 t345, .int .i64 t346, .int .i64 t347, .int .i64 t348, .int .i64 t349, .int .i64 t350, .int .i64 t351, .int .i64 t352, .int .i64 t353, .int .i64 t354], .agg #[.int .i64 x381000_1, .int .i64 x381001_1, .int .i64 x381002_1, .bool x381003_1, .int .i64 x381004_1, .int .i64 x381005_1, .int .i64 x381006_1, .bool x381007_1, .int .i64 x381008_1]] rfl (by (try simp only [List.map_toArray, List.map_cons, List.map_nil]); first | done | rfl | (simp only [List.length_drop, List.length_take]; rfl)) ?_; (with_reducible refine (mount_Stop.calls k1 t345 t346 t347 t348 t349 t350 t351 t352 t353 t354 x381000_1 x381001_1 x381002_1 x381003_1 x381004_1 x381005_1 x381006_1 x381007_1 x381008_1 t392 t393 t394 t395 t396 t397 t398 t399 t400 t401 _ A38.out).mono ?_); rintro e w41 ⟨rfl, hb⟩; refine ⟨_, rfl, ?_⟩; have n0_ := Aside0.mk (blk_below BK356.out hb); have n1_ := Aside0.mk (blk_below BK380.out hb); have n2_ := Aside0.mk (below_step (by exact HB.out) hb); clear BK356; clear BK380; clear HB; have BK356 := n0_; have BK380 := n1_; have HB := n2_; clear n0_ n1_ n2_; (try clear hb); (try clear hb2); (try clear hk); (try clear hi)) | ((with_reducible refine gate_store (t := 37) (p := 5) rfl ?_); refine store_row (t := 37) (p := 5) (v := ?vo_w42) ?hgd ?ho ?hN gb380 0 #[.int .i64 x381000_1, .int .i64 x381001_1, .int .i64 x381002_1, .bool x381003_1, .int .i64 x381004_1, .int .i64 x381005_1, .int .i64 x381006_1, .bool x381007_1, .int .i64 x381008_1] [.int .i64 t392, .int .i64 t393, .int .i64 t394, .bool t395, .int .i64 t396, .int .i64 t397, .int .i64 t398, .bool t399, .int .i64 t400] #[.int .i64 t392, .int .i64 t393, .int .i64 t394, .bool t395, .int .i64 t396, .int .i64 t397, .int .i64 t398, .bool t399, .int .i64 t400] ?hx ?hy (by exact BK380.out) szi37 (Nat.le_of_ble_eq_true rfl) ?h1 ?hnew ?_; (case ho => rfl); (case hgd => rfl); (case hN => rfl); (case hx => rfl); (case hy => first | rfl | (go_simp; done) | (go_simp; rfl)); (case h1 => rfl); (case hnew => rfl); intro w42 hbox hg; have n0_ := Aside0.mk (blk_grown BK356.out hg (fun e_ => NB356_380.out (Option.some.inj e_))); have n1_ := Aside0.mk (pw_below_grown (by exact HB.out) (some gb380) (below_size (by exact HB.out)) hg (fun k_ e_ => by cases e_; exact GE380.out)); have n2_ := Aside0.mk (hbox); clear BK356; clear HB; clear BK380; have BK356 := n0_; have HB := n1_; have BK380 := n2_; clear n0_ n1_ n2_; clear hbox hg))
          go_loopg [49] k1 (fun kq v49 w' => ∃ (x49_2 : Int) (x381000_2 : Int) (x381001_2 : Int) (x381002_2 : Int) (x381003_2 : Bool) (x381004_2 : Int) (x381005_2 : Int) (x381006_2 : Int) (x381007_2 : Bool) (x381008_2 : Int), v49 = .int .i64 x49_2 ∧ Aside0 (spykeep2_MountParks.l1 kq t379 t401 x49_2 t345 t346 t347 t348 t349 t350 t351 t352 t353 t354 x381000_2 x381001_2 x381002_2 x381003_2 x381004_2 x381005_2 x381006_2 x381007_2 x381008_2 = some r) ∧ Aside0 (kq ≤ k1) ∧ Aside0 (w'.heap[gb356]? = some (.cells #[.int .i64 t345, .int .i64 t346, .int .i64 t347, .int .i64 t348, .int .i64 t349, .int .i64 t350, .int .i64 t351, .int .i64 t352, .int .i64 t353, .int .i64 t354] 32 (0, 0))) ∧ Aside0 (w'.heap[gb380]? = some (.cells #[.int .i64 x381000_2, .int .i64 x381001_2, .int .i64 x381002_2, .bool x381003_2, .int .i64 x381004_2, .int .i64 x381005_2, .int .i64 x381006_2, .bool x381007_2, .int .i64 x381008_2] 37 (0, 0))) ∧ Aside0 (Below w.heap.size w w'))
          case atStart => exact ⟨(0), (t392), (t393), (t394), (t395), (t396), (t397), (t398), (t399), (t400), (by first | rfl | (simp; done) | (simp [*]; done)), H', ⟨Nat.le_refl _⟩, ⟨by exact BK356.out⟩, ⟨by exact BK380.out⟩, ⟨by exact HB.out⟩⟩
          case round =>
            clear H'
            try clear c1
            try clear c2
            try clear p2
            try clear c3
            try clear p6
            try clear c13
            try clear c14
            try clear c15
            try clear c17
            try clear c20
            try clear c32
            try clear c32b0
            try clear hcz34_0
            try clear hcz35_0
            try clear hcz39_0
            try clear hcz40_0
            try clear p2
            obtain ⟨x49_2, x381000_2, x381001_2, x381002_2, x381003_2, x381004_2, x381005_2, x381006_2, x381007_2, x381008_2, rfl, HA, HK2, BK356, BK380, HB⟩ := hrel
            cases gk with
            | zero => exact absurd HA.out (by simp [spykeep2_MountParks.l1])
            | succ k2 =>
              have H := HA.out
              clear HA
              simp only [spykeep2_MountParks.l1] at H
              by_cases c43 : x49_2 < 65
              · rw [if_pos c43] at H
                have c43b0 : decide (x49_2 < 65) = true := decide_eq_true c43
                clear c43
                replace H := Option.bind_eq_some_iff.mp H
                obtain ⟨⟨t402, t403, t404, t405, t406, t407, t408, t409, t410⟩, A440, H⟩ := H
                replace H : (spykeep2_MountParks.l1 k2 t379 t401 (wrap64 (x49_2 + 1)) t345 t346 t347 t348 t349 t350 t351 t352 t353 t354 t402 t403 t404 t405 t406 t407 t408 t409 t410) = some r := H
                have A44 := Aside0.mk A440
                clear A440
                have H' := Aside0.mk H
                clear H
                have hcz45_0 := tch10 BK356.out
                have hcz46_0 := tch9 BK380.out
                go_wp2_with (first | ((with_reducible refine gate_callee (f := 20) rfl ?_); refine goesL_ (some 53) rfl rfl Try.func20 (by kernel_rfl) rfl #[.agg #[.int .i64 t345, .int .i64 t346, .int .i64 t347, .int .i64 t348, .int .i64 t349, .int .i64 t350, .int .i64 t351, .int .i64 t352, .int .i64 t353, .int .i64 t354], .agg #[.int .i64 x381000_2, .int .i64 x381001_2, .int .i64 x381002_2, .bool x381003_2, .int .i64 x381004_2, .int .i64 x381005_2, .int .i64 x381006_2, .bool x381007_2, .int .i64 x381008_2]] rfl (by (try simp only [List.map_toArray, List.map_cons, List.map_nil]); first | done | rfl | (simp only [List.length_drop, List.length_take]; rfl)) ?_; (with_reducible refine (mount_Step.calls k2 t345 t346 t347 t348 t349 t350 t351 t352 t353 t354 x381000_2 x381001_2 x381002_2 x381003_2 x381004_2 x381005_2 x381006_2 x381007_2 x381008_2 t402 t403 t404 t405 t406 t407 t408 t409 t410 _ A44.out).mono ?_); rintro e w47 ⟨rfl, hb⟩; refine ⟨_, rfl, ?_⟩; have n0_ := Aside0.mk (blk_below BK356.out hb); have n1_ := Aside0.mk (blk_below BK380.out hb); have n2_ := Aside0.mk (below_step (by exact HB.out) hb); clear BK356; clear BK380; clear HB; have BK356 := n0_; have BK380 := n1_; have HB := n2_; clear n0_ n1_ n2_; (try clear hb); (try clear hb2); (try clear hk); (try clear hi)) | ((with_reducible refine gate_store (t := 37) (p := 5) rfl ?_); refine store_row (t := 37) (p := 5) (v := ?vo_w48) ?hgd ?ho ?hN gb380 0 #[.int .i64 x381000_2, .int .i64 x381001_2, .int .i64 x381002_2, .bool x381003_2, .int .i64 x381004_2, .int .i64 x381005_2, .int .i64 x381006_2, .bool x381007_2, .int .i64 x381008_2] [.int .i64 t402, .int .i64 t403, .int .i64 t404, .bool t405, .int .i64 t406, .int .i64 t407, .int .i64 t408, .bool t409, .int .i64 t410] #[.int .i64 t402, .int .i64 t403, .int .i64 t404, .bool t405, .int .i64 t406, .int .i64 t407, .int .i64 t408, .bool t409, .int .i64 t410] ?hx ?hy (by exact BK380.out) szi37 (Nat.le_of_ble_eq_true rfl) ?h1 ?hnew ?_; (case ho => rfl); (case hgd => rfl); (case hN => rfl); (case hx => rfl); (case hy => first | rfl | (go_simp; done) | (go_simp; rfl)); (case h1 => rfl); (case hnew => rfl); intro w48 hbox hg; have n0_ := Aside0.mk (blk_grown BK356.out hg (fun e_ => NB356_380.out (Option.some.inj e_))); have n1_ := Aside0.mk (pw_below_grown (by exact HB.out) (some gb380) (below_size (by exact HB.out)) hg (fun k_ e_ => by cases e_; exact GE380.out)); have n2_ := Aside0.mk (hbox); clear BK356; clear HB; clear BK380; have BK356 := n0_; have HB := n1_; have BK380 := n2_; clear n0_ n1_ n2_; clear hbox hg))
                go_roundg k2
                case measure => have := HK1.out; have := HK2.out; omega
                case rel => exact ⟨(wrap64 (x49_2 + 1)), (t402), (t403), (t404), (t405), (t406), (t407), (t408), (t409), (t410), (by first | rfl | (simp; done) | (simp [*]; done)), H', ⟨by have := HK1.out; have := HK2.out; omega⟩, ⟨by exact BK356.out⟩, ⟨by exact BK380.out⟩, ⟨by exact HB.out⟩⟩
              · rw [if_neg c43] at H
                have c43b0 : decide (x49_2 < 65) = false := decide_eq_false c43
                clear c43
                have HC49 := Aside0.mk H
                clear H
                go_upto_region 15 with (fail)
                go_cut [65] (fun v65 wc => ∃ (kq : Nat) (x65_48 : Bool), v65 = .bool x65_48 ∧ Aside0 (spykeep2_MountParks.j2 kq x65_48 t345 t346 t347 t348 t349 t350 t351 t352 t353 t354 x381000_2 x381001_2 x381002_2 x381003_2 x381004_2 x381005_2 x381006_2 x381007_2 x381008_2 = some r) ∧ Aside0 (kq ≤ k2) ∧ Aside0 (wc.heap[gb356]? = some (.cells #[.int .i64 t345, .int .i64 t346, .int .i64 t347, .int .i64 t348, .int .i64 t349, .int .i64 t350, .int .i64 t351, .int .i64 t352, .int .i64 t353, .int .i64 t354] 32 (0, 0))) ∧ Aside0 (wc.heap[gb380]? = some (.cells #[.int .i64 x381000_2, .int .i64 x381001_2, .int .i64 x381002_2, .bool x381003_2, .int .i64 x381004_2, .int .i64 x381005_2, .int .i64 x381006_2, .bool x381007_2, .int .i64 x381008_2] 37 (0, 0))) ∧ Aside0 (Below w.heap.size w wc))
                case first =>
                  have H := HC49.out
                  clear HC49
                  by_cases c50 : t379 = 0
                  · rw [if_pos c50] at H
                    have c50b0 : (t379 == 0) = true := beq_iff_eq.mpr c50
                    have c50b1 : (t379 != 0) = false := bne_eq_false_iff_eq.mpr c50
                    clear c50
                    (first | rw [c50b0] | (simp only [i64_w, i32_w]; rw [c50b0]) | skip)
                    by_cases c51 : t401 = 0
                    · rw [if_pos c51] at H
                      have c51b0 : (t401 == 0) = true := beq_iff_eq.mpr c51
                      have c51b1 : (t401 != 0) = false := bne_eq_false_iff_eq.mpr c51
                      clear c51
                      have H' := Aside0.mk H
                      clear H
                      have hcz52_0 := tch9 BK380.out
                      go_wp2
                      go_meet
                      case rel => exact ⟨_, ((x381008_2 != 1)), (by first | rfl | (simp; done) | (simp [*]; done)), H', ⟨by have := HK1.out; have := HK2.out; first | omega | exact Nat.le_refl _⟩, ⟨by exact BK356.out⟩, ⟨by exact BK380.out⟩, ⟨by exact HB.out⟩⟩
                    · rw [if_neg c51] at H
                      have c51b0 : (t401 == 0) = false := beq_eq_false_iff_ne.mpr c51
                      have c51b1 : (t401 != 0) = true := bne_iff_ne.mpr c51
                      have H' := Aside0.mk H
                      clear H
                      go_wp2
                      go_meet
                      case rel => exact ⟨_, (true), (by first | rfl | (simp; done) | (simp [*]; done)), H', ⟨by have := HK1.out; have := HK2.out; first | omega | exact Nat.le_refl _⟩, ⟨by exact BK356.out⟩, ⟨by exact BK380.out⟩, ⟨by exact HB.out⟩⟩
                  · rw [if_neg c50] at H
                    have c50b0 : (t379 == 0) = false := beq_eq_false_iff_ne.mpr c50
                    have c50b1 : (t379 != 0) = true := bne_iff_ne.mpr c50
                    (first | rw [c50b0] | (simp only [i64_w, i32_w]; rw [c50b0]) | skip)
                    have H' := Aside0.mk H
                    clear H
                    go_wp2
                    go_meet
                    case rel => exact ⟨_, (true), (by first | rfl | (simp; done) | (simp [*]; done)), H', ⟨by have := HK1.out; have := HK2.out; first | omega | exact Nat.le_refl _⟩, ⟨by exact BK356.out⟩, ⟨by exact BK380.out⟩, ⟨by exact HB.out⟩⟩
                case rest =>
                  clear HC49
                  try clear c1
                  try clear c2
                  try clear p2
                  try clear c3
                  try clear c4
                  try clear c5
                  try clear p6
                  try clear c13
                  try clear c14
                  try clear c15
                  try clear c17
                  try clear c20
                  try clear c32
                  try clear c32b0
                  try clear c43
                  try clear c43b0
                  try clear c50
                  try clear c50b0
                  try clear c50b1
                  try clear c51
                  try clear c51b0
                  try clear c51b1
                  try clear hcz34_0
                  try clear hcz35_0
                  try clear hcz39_0
                  try clear hcz40_0
                  try clear hcz45_0
                  try clear hcz46_0
                  try clear hcz52_0
                  try clear p2
                  try clear p6
                  obtain ⟨kq, x65_48, rfl, HA, HJ48, BK356, BK380, HB⟩ := hcut
                  cases kq with
                  | zero => exact absurd HA.out (by simp [spykeep2_MountParks.j2])
                  | succ kj48 =>
                    have H := HA.out
                    clear HA
                    simp only [spykeep2_MountParks.j2] at H
                    by_cases c53 : x65_48 = true
                    · subst c53
                      have H1 : (some false) = some r := by rw [if_pos rfl] at H; exact H
                      clear H
                      have H := H1
                      clear H1
                      obtain rfl := Option.some.inj H
                      go_wp2
                      go_ret
                      exact ⟨by first | rfl | (simp [errW_none, errW_some] <;> rfl) | (simp [*, errW_none, errW_some] <;> rfl), by exact HB.out⟩
                    · replace c53 := Bool.eq_false_iff.mpr c53
                      subst c53
                      have H1 : ((slew_Steps.f kj48 t345 t346 t347 t348 x381000_2 t353).bind fun bt411 => ((slew_Steps.f kj48 t349 t350 t351 t352 x381004_2 t354).bind fun bt413 => ((mount_Park.f kj48 t345 t346 t347 t348 t349 t350 t351 t352 t353 t354 x381000_2 x381001_2 x381002_2 x381003_2 x381004_2 x381005_2 x381006_2 x381007_2 x381008_2).bind fun bt415 => (spykeep2_MountParks.l2 kj48 bt415.2.2.2.2.2.2.2.2.2 (mx (mx bt411.1 bt413.1) 1) 0 t345 t346 t347 t348 t349 t350 t351 t352 t353 t354 bt415.1 bt415.2.1 bt415.2.2.1 bt415.2.2.2.1 bt415.2.2.2.2.1 bt415.2.2.2.2.2.1 bt415.2.2.2.2.2.2.1 bt415.2.2.2.2.2.2.2.1 bt415.2.2.2.2.2.2.2.2.1)))) = some r := by rw [if_neg (show ¬ (false = true) by decide)] at H; exact H
                      clear H
                      have H := H1
                      clear H1
                      replace H := Option.bind_eq_some_iff.mp H
                      obtain ⟨⟨t411, t412⟩, A540, H⟩ := H
                      replace H : ((slew_Steps.f kj48 t349 t350 t351 t352 x381004_2 t354).bind fun bt413 => ((mount_Park.f kj48 t345 t346 t347 t348 t349 t350 t351 t352 t353 t354 x381000_2 x381001_2 x381002_2 x381003_2 x381004_2 x381005_2 x381006_2 x381007_2 x381008_2).bind fun bt415 => (spykeep2_MountParks.l2 kj48 bt415.2.2.2.2.2.2.2.2.2 (mx (mx t411 bt413.1) 1) 0 t345 t346 t347 t348 t349 t350 t351 t352 t353 t354 bt415.1 bt415.2.1 bt415.2.2.1 bt415.2.2.2.1 bt415.2.2.2.2.1 bt415.2.2.2.2.2.1 bt415.2.2.2.2.2.2.1 bt415.2.2.2.2.2.2.2.1 bt415.2.2.2.2.2.2.2.2.1))) = some r := H
                      have A54 := Aside0.mk A540
                      clear A540
                      replace H := Option.bind_eq_some_iff.mp H
                      obtain ⟨⟨t413, t414⟩, A550, H⟩ := H
                      replace H : ((mount_Park.f kj48 t345 t346 t347 t348 t349 t350 t351 t352 t353 t354 x381000_2 x381001_2 x381002_2 x381003_2 x381004_2 x381005_2 x381006_2 x381007_2 x381008_2).bind fun bt415 => (spykeep2_MountParks.l2 kj48 bt415.2.2.2.2.2.2.2.2.2 (mx (mx t411 t413) 1) 0 t345 t346 t347 t348 t349 t350 t351 t352 t353 t354 bt415.1 bt415.2.1 bt415.2.2.1 bt415.2.2.2.1 bt415.2.2.2.2.1 bt415.2.2.2.2.2.1 bt415.2.2.2.2.2.2.1 bt415.2.2.2.2.2.2.2.1 bt415.2.2.2.2.2.2.2.2.1)) = some r := H
                      have A55 := Aside0.mk A550
                      clear A550
                      replace H := Option.bind_eq_some_iff.mp H
                      obtain ⟨⟨t415, t416, t417, t418, t419, t420, t421, t422, t423, t424⟩, A560, H⟩ := H
                      replace H : (spykeep2_MountParks.l2 kj48 t424 (mx (mx t411 t413) 1) 0 t345 t346 t347 t348 t349 t350 t351 t352 t353 t354 t415 t416 t417 t418 t419 t420 t421 t422 t423) = some r := H
                      have A56 := Aside0.mk A560
                      clear A560
                      obtain ⟨ji57, hji57⟩ : ∃ j_ : Int, (mx t411 t413) = j_ := ⟨_, rfl⟩
                      replace H : (spykeep2_MountParks.l2 kj48 t424 (mx (ji57) 1) 0 t345 t346 t347 t348 t349 t350 t351 t352 t353 t354 t415 t416 t417 t418 t419 t420 t421 t422 t423) = some r := by first | (rw [hji57] at H; exact H) | (simp only [hji57] at H ⊢; exact H)
                      (try rw [hji57] at A54)
                      (try rw [hji57] at A55)
                      (try rw [hji57] at A56)
                      have hji57_ : (if t411 < t413 then t413 else t411) = ji57 := hji57
                      obtain ⟨ji58, hji58⟩ : ∃ j_ : Int, (mx (ji57) 1) = j_ := ⟨_, rfl⟩
                      replace H : (spykeep2_MountParks.l2 kj48 t424 ji58 0 t345 t346 t347 t348 t349 t350 t351 t352 t353 t354 t415 t416 t417 t418 t419 t420 t421 t422 t423) = some r := by first | (rw [hji58] at H; exact H) | (simp only [hji58] at H ⊢; exact H)
                      (try rw [hji58] at A54)
                      (try rw [hji58] at A55)
                      (try rw [hji58] at A56)
                      have hji58_ : (if (ji57) < 1 then 1 else (ji57)) = ji58 := hji58
                      have H' := Aside0.mk H
                      clear H
                      have hcz59_0 := tch10 BK356.out
                      have hcz60_0 := tch9 BK380.out
                      go_wp2_with (first | ((with_reducible refine gate_callee (f := 22) rfl ?_); refine goesL_ (some 75) rfl rfl Try.func22 (by kernel_rfl) rfl #[.agg #[.int .i64 t345, .int .i64 t346, .int .i64 t347, .int .i64 t348], .int .i64 x381000_2, .int .i64 t353] rfl (by (try simp only [List.map_toArray, List.map_cons, List.map_nil]); first | done | rfl | (simp only [List.length_drop, List.length_take]; rfl)) ?_; (with_reducible refine (slew_Steps.calls kj48 t345 t346 t347 t348 x381000_2 t353 t411 t412 _ A54.out).mono ?_); rintro e w61 ⟨rfl, hb⟩; refine ⟨_, rfl, ?_⟩; have n0_ := Aside0.mk (blk_below BK356.out hb); have n1_ := Aside0.mk (blk_below BK380.out hb); have n2_ := Aside0.mk (below_step (by exact HB.out) hb); clear BK356; clear BK380; clear HB; have BK356 := n0_; have BK380 := n1_; have HB := n2_; clear n0_ n1_ n2_; (try clear hb); (try clear hb2); (try clear hk); (try clear hi); have hcz62_0 := tch10 BK356.out; have hcz63_0 := tch9 BK380.out) | ((with_reducible refine gate_callee (f := 22) rfl ?_); refine goesL_ (some 87) rfl rfl Try.func22 (by kernel_rfl) rfl #[.agg #[.int .i64 t349, .int .i64 t350, .int .i64 t351, .int .i64 t352], .int .i64 x381004_2, .int .i64 t354] rfl (by (try simp only [List.map_toArray, List.map_cons, List.map_nil]); first | done | rfl | (simp only [List.length_drop, List.length_take]; rfl)) ?_; (with_reducible refine (slew_Steps.calls kj48 t349 t350 t351 t352 x381004_2 t354 t413 t414 _ A55.out).mono ?_); rintro e w64 ⟨rfl, hb⟩; refine ⟨_, rfl, ?_⟩; have n0_ := Aside0.mk (blk_below BK356.out hb); have n1_ := Aside0.mk (blk_below BK380.out hb); have n2_ := Aside0.mk (below_step (by exact HB.out) hb); clear BK356; clear BK380; clear HB; have BK356 := n0_; have BK380 := n1_; have HB := n2_; clear n0_ n1_ n2_; (try clear hb); (try clear hb2); (try clear hk); (try clear hi); have hcz65_0 := tch10 BK356.out; have hcz66_0 := tch9 BK380.out) | ((with_reducible refine gate_callee (f := 16) rfl ?_); refine goesL_ (some 93) rfl rfl Try.func16 (by kernel_rfl) rfl #[.agg #[.int .i64 t345, .int .i64 t346, .int .i64 t347, .int .i64 t348, .int .i64 t349, .int .i64 t350, .int .i64 t351, .int .i64 t352, .int .i64 t353, .int .i64 t354], .agg #[.int .i64 x381000_2, .int .i64 x381001_2, .int .i64 x381002_2, .bool x381003_2, .int .i64 x381004_2, .int .i64 x381005_2, .int .i64 x381006_2, .bool x381007_2, .int .i64 x381008_2]] rfl (by (try simp only [List.map_toArray, List.map_cons, List.map_nil]); first | done | rfl | (simp only [List.length_drop, List.length_take]; rfl)) ?_; (with_reducible refine (mount_Park.calls kj48 t345 t346 t347 t348 t349 t350 t351 t352 t353 t354 x381000_2 x381001_2 x381002_2 x381003_2 x381004_2 x381005_2 x381006_2 x381007_2 x381008_2 t415 t416 t417 t418 t419 t420 t421 t422 t423 t424 _ A56.out).mono ?_); rintro e w67 ⟨rfl, hb⟩; refine ⟨_, rfl, ?_⟩; have n0_ := Aside0.mk (blk_below BK356.out hb); have n1_ := Aside0.mk (blk_below BK380.out hb); have n2_ := Aside0.mk (below_step (by exact HB.out) hb); clear BK356; clear BK380; clear HB; have BK356 := n0_; have BK380 := n1_; have HB := n2_; clear n0_ n1_ n2_; (try clear hb); (try clear hb2); (try clear hk); (try clear hi)) | ((with_reducible refine gate_store (t := 37) (p := 5) rfl ?_); refine store_row (t := 37) (p := 5) (v := ?vo_w68) ?hgd ?ho ?hN gb380 0 #[.int .i64 x381000_2, .int .i64 x381001_2, .int .i64 x381002_2, .bool x381003_2, .int .i64 x381004_2, .int .i64 x381005_2, .int .i64 x381006_2, .bool x381007_2, .int .i64 x381008_2] [.int .i64 t415, .int .i64 t416, .int .i64 t417, .bool t418, .int .i64 t419, .int .i64 t420, .int .i64 t421, .bool t422, .int .i64 t423] #[.int .i64 t415, .int .i64 t416, .int .i64 t417, .bool t418, .int .i64 t419, .int .i64 t420, .int .i64 t421, .bool t422, .int .i64 t423] ?hx ?hy (by exact BK380.out) szi37 (Nat.le_of_ble_eq_true rfl) ?h1 ?hnew ?_; (case ho => rfl); (case hgd => rfl); (case hN => rfl); (case hx => rfl); (case hy => first | rfl | (go_simp; done) | (go_simp; rfl)); (case h1 => rfl); (case hnew => rfl); intro w68 hbox hg; have n0_ := Aside0.mk (blk_grown BK356.out hg (fun e_ => NB356_380.out (Option.some.inj e_))); have n1_ := Aside0.mk (pw_below_grown (by exact HB.out) (some gb380) (below_size (by exact HB.out)) hg (fun k_ e_ => by cases e_; exact GE380.out)); have n2_ := Aside0.mk (hbox); clear BK356; clear HB; clear BK380; have BK356 := n0_; have HB := n1_; have BK380 := n2_; clear n0_ n1_ n2_; clear hbox hg))
                      go_loopg [99] kj48 (fun kq v99 w' => ∃ (x99_4 : Int) (x381000_4 : Int) (x381001_4 : Int) (x381002_4 : Int) (x381003_4 : Bool) (x381004_4 : Int) (x381005_4 : Int) (x381006_4 : Int) (x381007_4 : Bool) (x381008_4 : Int), v99 = .int .i64 x99_4 ∧ Aside0 (spykeep2_MountParks.l2 kq t424 ji58 x99_4 t345 t346 t347 t348 t349 t350 t351 t352 t353 t354 x381000_4 x381001_4 x381002_4 x381003_4 x381004_4 x381005_4 x381006_4 x381007_4 x381008_4 = some r) ∧ Aside0 (kq ≤ kj48) ∧ Aside0 (w'.heap[gb356]? = some (.cells #[.int .i64 t345, .int .i64 t346, .int .i64 t347, .int .i64 t348, .int .i64 t349, .int .i64 t350, .int .i64 t351, .int .i64 t352, .int .i64 t353, .int .i64 t354] 32 (0, 0))) ∧ Aside0 (w'.heap[gb380]? = some (.cells #[.int .i64 x381000_4, .int .i64 x381001_4, .int .i64 x381002_4, .bool x381003_4, .int .i64 x381004_4, .int .i64 x381005_4, .int .i64 x381006_4, .bool x381007_4, .int .i64 x381008_4] 37 (0, 0))) ∧ Aside0 (Below w.heap.size w w'))
                      case atStart => exact ⟨(0), (t415), (t416), (t417), (t418), (t419), (t420), (t421), (t422), (t423), (by first | rfl | (simp; done) | (simp [*]; done)), H', ⟨Nat.le_refl _⟩, ⟨by exact BK356.out⟩, ⟨by exact BK380.out⟩, ⟨by exact HB.out⟩⟩
                      case round =>
                        clear H'
                        try clear c1
                        try clear c2
                        try clear p2
                        try clear c3
                        try clear c4
                        try clear c5
                        try clear p6
                        try clear c13
                        try clear c14
                        try clear c15
                        try clear c16
                        try clear c17
                        try clear c20
                        try clear c22
                        try clear c32
                        try clear c32b0
                        try clear c43
                        try clear c43b0
                        try clear c50
                        try clear c50b0
                        try clear c50b1
                        try clear c51
                        try clear c51b0
                        try clear c51b1
                        try clear c53
                        try clear p64
                        try clear hcz34_0
                        try clear hcz35_0
                        try clear hcz39_0
                        try clear hcz40_0
                        try clear hcz45_0
                        try clear hcz46_0
                        try clear hcz52_0
                        try clear hcz59_0
                        try clear hcz60_0
                        try clear hcz62_0
                        try clear hcz63_0
                        try clear hcz65_0
                        try clear hcz66_0
                        try clear p2
                        try clear p6
                        obtain ⟨x99_4, x381000_4, x381001_4, x381002_4, x381003_4, x381004_4, x381005_4, x381006_4, x381007_4, x381008_4, rfl, HA, HK4, BK356, BK380, HB⟩ := hrel
                        cases gk with
                        | zero => exact absurd HA.out (by simp [spykeep2_MountParks.l2])
                        | succ k4 =>
                          have H := HA.out
                          clear HA
                          simp only [spykeep2_MountParks.l2] at H
                          by_cases c69 : x99_4 < ji58
                          · rw [if_pos c69] at H
                            have c69b0 : decide (x99_4 < ji58) = true := decide_eq_true c69
                            clear c69
                            replace H := Option.bind_eq_some_iff.mp H
                            obtain ⟨⟨t425, t426, t427, t428, t429, t430, t431, t432, t433⟩, A700, H⟩ := H
                            replace H : (spykeep2_MountParks.l2 k4 t424 ji58 (wrap64 (x99_4 + 1)) t345 t346 t347 t348 t349 t350 t351 t352 t353 t354 t425 t426 t427 t428 t429 t430 t431 t432 t433) = some r := H
                            have A70 := Aside0.mk A700
                            clear A700
                            have H' := Aside0.mk H
                            clear H
                            have hcz71_0 := tch10 BK356.out
                            have hcz72_0 := tch9 BK380.out
                            go_wp2_with (first | ((with_reducible refine gate_callee (f := 20) rfl ?_); refine goesL_ (some 103) rfl rfl Try.func20 (by kernel_rfl) rfl #[.agg #[.int .i64 t345, .int .i64 t346, .int .i64 t347, .int .i64 t348, .int .i64 t349, .int .i64 t350, .int .i64 t351, .int .i64 t352, .int .i64 t353, .int .i64 t354], .agg #[.int .i64 x381000_4, .int .i64 x381001_4, .int .i64 x381002_4, .bool x381003_4, .int .i64 x381004_4, .int .i64 x381005_4, .int .i64 x381006_4, .bool x381007_4, .int .i64 x381008_4]] rfl (by (try simp only [List.map_toArray, List.map_cons, List.map_nil]); first | done | rfl | (simp only [List.length_drop, List.length_take]; rfl)) ?_; (with_reducible refine (mount_Step.calls k4 t345 t346 t347 t348 t349 t350 t351 t352 t353 t354 x381000_4 x381001_4 x381002_4 x381003_4 x381004_4 x381005_4 x381006_4 x381007_4 x381008_4 t425 t426 t427 t428 t429 t430 t431 t432 t433 _ A70.out).mono ?_); rintro e w73 ⟨rfl, hb⟩; refine ⟨_, rfl, ?_⟩; have n0_ := Aside0.mk (blk_below BK356.out hb); have n1_ := Aside0.mk (blk_below BK380.out hb); have n2_ := Aside0.mk (below_step (by exact HB.out) hb); clear BK356; clear BK380; clear HB; have BK356 := n0_; have BK380 := n1_; have HB := n2_; clear n0_ n1_ n2_; (try clear hb); (try clear hb2); (try clear hk); (try clear hi)) | ((with_reducible refine gate_store (t := 37) (p := 5) rfl ?_); refine store_row (t := 37) (p := 5) (v := ?vo_w74) ?hgd ?ho ?hN gb380 0 #[.int .i64 x381000_4, .int .i64 x381001_4, .int .i64 x381002_4, .bool x381003_4, .int .i64 x381004_4, .int .i64 x381005_4, .int .i64 x381006_4, .bool x381007_4, .int .i64 x381008_4] [.int .i64 t425, .int .i64 t426, .int .i64 t427, .bool t428, .int .i64 t429, .int .i64 t430, .int .i64 t431, .bool t432, .int .i64 t433] #[.int .i64 t425, .int .i64 t426, .int .i64 t427, .bool t428, .int .i64 t429, .int .i64 t430, .int .i64 t431, .bool t432, .int .i64 t433] ?hx ?hy (by exact BK380.out) szi37 (Nat.le_of_ble_eq_true rfl) ?h1 ?hnew ?_; (case ho => rfl); (case hgd => rfl); (case hN => rfl); (case hx => rfl); (case hy => first | rfl | (go_simp; done) | (go_simp; rfl)); (case h1 => rfl); (case hnew => rfl); intro w74 hbox hg; have n0_ := Aside0.mk (blk_grown BK356.out hg (fun e_ => NB356_380.out (Option.some.inj e_))); have n1_ := Aside0.mk (pw_below_grown (by exact HB.out) (some gb380) (below_size (by exact HB.out)) hg (fun k_ e_ => by cases e_; exact GE380.out)); have n2_ := Aside0.mk (hbox); clear BK356; clear HB; clear BK380; have BK356 := n0_; have HB := n1_; have BK380 := n2_; clear n0_ n1_ n2_; clear hbox hg))
                            go_roundg k4
                            case measure => have := HK1.out; have := HK2.out; have := HJ48.out; have := HK4.out; omega
                            case rel => exact ⟨(wrap64 (x99_4 + 1)), (t425), (t426), (t427), (t428), (t429), (t430), (t431), (t432), (t433), (by first | rfl | (simp; done) | (simp [*]; done)), H', ⟨by have := HK1.out; have := HK2.out; have := HJ48.out; have := HK4.out; omega⟩, ⟨by exact BK356.out⟩, ⟨by exact BK380.out⟩, ⟨by exact HB.out⟩⟩
                          · rw [if_neg c69] at H
                            have c69b0 : decide (x99_4 < ji58) = false := decide_eq_false c69
                            clear c69
                            by_cases c75 : t424 = 0
                            · rw [if_pos c75] at H
                              have c75b0 : (t424 == 0) = true := beq_iff_eq.mpr c75
                              have c75b1 : (t424 != 0) = false := bne_eq_false_iff_eq.mpr c75
                              clear c75
                              replace H := Option.bind_eq_some_iff.mp H
                              obtain ⟨⟨t434, t435, t436, t437, t438, t439, t440, t441, t442⟩, A760, H⟩ := H
                              replace H : (some ((x381000_4 == t434 && (x381001_4 == t435 && (x381002_4 == t436 && (x381003_4 == t437)))) && ((x381004_4 == t438 && (x381005_4 == t439 && (x381006_4 == t440 && (x381007_4 == t441)))) && (x381008_4 == t442)))) = some r := H
                              have A76 := Aside0.mk A760
                              clear A760
                              obtain rfl := Option.some.inj H
                              try go_wp2
                              have n0_ := Aside0.mk (blk_drew BK356.out)
                              have n1_ := Aside0.mk (blk_drew BK380.out)
                              have n2_ := Aside0.mk (below_drew1 HB.out)
                              clear BK356
                              clear BK380
                              clear HB
                              have BK356 := n0_
                              have BK380 := n1_
                              have HB := n2_
                              clear n0_ n1_ n2_
                              refine start_ (n := 9) (S := fun w' => w'.cell? ⟨gb380, 0, none⟩ = some (.int .i64 x381000_4) ∧ w'.cell? ⟨gb380, 1, none⟩ = some (.int .i64 x381001_4) ∧ w'.cell? ⟨gb380, 2, none⟩ = some (.int .i64 x381002_4) ∧ w'.cell? ⟨gb380, 3, none⟩ = some (.bool x381003_4) ∧ w'.cell? ⟨gb380, 4, none⟩ = some (.int .i64 x381004_4) ∧ w'.cell? ⟨gb380, 5, none⟩ = some (.int .i64 x381005_4) ∧ w'.cell? ⟨gb380, 6, none⟩ = some (.int .i64 x381006_4) ∧ w'.cell? ⟨gb380, 7, none⟩ = some (.bool x381007_4) ∧ w'.cell? ⟨gb380, 8, none⟩ = some (.int .i64 x381008_4) ∧ w'.cell? ⟨gb356, 0, none⟩ = some (.int .i64 t345) ∧ w'.cell? ⟨gb356, 1, none⟩ = some (.int .i64 t346) ∧ w'.cell? ⟨gb356, 2, none⟩ = some (.int .i64 t347) ∧ w'.cell? ⟨gb356, 3, none⟩ = some (.int .i64 t348) ∧ w'.cell? ⟨gb356, 4, none⟩ = some (.int .i64 t349) ∧ w'.cell? ⟨gb356, 5, none⟩ = some (.int .i64 t350) ∧ w'.cell? ⟨gb356, 6, none⟩ = some (.int .i64 t351) ∧ w'.cell? ⟨gb356, 7, none⟩ = some (.int .i64 t352) ∧ w'.cell? ⟨gb356, 8, none⟩ = some (.int .i64 t353) ∧ w'.cell? ⟨gb356, 9, none⟩ = some (.int .i64 t354)) (ds := []) #[false, false, false, false, false, false, false, false, false] (by kernel_rfl) rfl rfl ⟨(blk_cell BK380.out 0).trans rfl, (blk_cell BK380.out 1).trans rfl, (blk_cell BK380.out 2).trans rfl, (blk_cell BK380.out 3).trans rfl, (blk_cell BK380.out 4).trans rfl, (blk_cell BK380.out 5).trans rfl, (blk_cell BK380.out 6).trans rfl, (blk_cell BK380.out 7).trans rfl, (blk_cell BK380.out 8).trans rfl, (blk_cell BK356.out 0).trans rfl, (blk_cell BK356.out 1).trans rfl, (blk_cell BK356.out 2).trans rfl, (blk_cell BK356.out 3).trans rfl, (blk_cell BK356.out 4).trans rfl, (blk_cell BK356.out 5).trans rfl, (blk_cell BK356.out 6).trans rfl, (blk_cell BK356.out 7).trans rfl, (blk_cell BK356.out 8).trans rfl, (blk_cell BK356.out 9).trans rfl⟩ (fun hHeld => ?_); refine with_tabW spykeep2_MountParks.tab24 spykeep2_MountParks.bits24 (fun HT_ HW_ => ?_)
                              generalize wr.drew = w77 at BK356 BK380 HB hHeld ⊢
                              refine pure_ (i := 0) (N := some 105) (v := ?_) (a' := ?_) #[true, false, false, false, false, false, false, false, false] rfl rfl (any_of HT_.out (by kernel_rfl)) (fun _ _ _ h => h) (Or.inl ⟨by rfl, ?_⟩) ?_ ?_
                              rotate_left
                              · intro w'
                                go_simp
                                with_reducible rfl
                              rotate_left
                              · simp only [Act.put, List.setIfInBounds_toArray, List.set_cons_zero, List.set_cons_succ, i64_w, i32_w]
                                rfl
                              refine pure_ (i := 1) (N := some 106) (v := ?_) (a' := ?_) #[true, true, false, false, false, false, false, false, false] rfl rfl (any_of HT_.out (by kernel_rfl)) (fun _ _ _ h => h) (Or.inl ⟨by rfl, ?_⟩) ?_ ?_
                              rotate_left
                              · intro w'
                                go_simp
                                with_reducible rfl
                              rotate_left
                              · simp only [Act.put, List.setIfInBounds_toArray, List.set_cons_zero, List.set_cons_succ, i64_w, i32_w]
                                rfl
                              refine pure_ (i := 2) (N := some 107) (v := ?_) (a' := ?_) #[true, true, true, false, false, false, false, false, false] rfl rfl (any_of HT_.out (by kernel_rfl)) (fun _ _ _ h => h) (Or.inl ⟨by rfl, ?_⟩) ?_ ?_
                              rotate_left
                              · intro w'
                                go_simp
                                with_reducible rfl
                              rotate_left
                              · simp only [Act.put, List.setIfInBounds_toArray, List.set_cons_zero, List.set_cons_succ, i64_w, i32_w]
                                rfl
                              refine take_ (i := 3) (N := some 108) (v := ?_) (a' := ?_) #[true, true, true, true, false, false, false, false, false] rfl rfl (take_ofW HT_.out HW_.out (by kernel_rfl)) (fun _ _ _ h => h) (Or.inl ⟨by rfl, ?_⟩) hHeld ?_ ?_
                              rotate_left
                              · rintro w' ⟨s0, s1, s2, s3, s4, s5, s6, s7, s8, s9, s10, s11, s12, s13, s14, s15, s16, s17, s18⟩
                                go_simp
                                with_reducible rfl
                              rotate_left
                              · simp only [Act.put, List.setIfInBounds_toArray, List.set_cons_zero, List.set_cons_succ, i64_w, i32_w]
                                rfl
                              refine take_ (i := 4) (N := some 109) (v := ?_) (a' := ?_) #[true, true, true, true, true, false, false, false, false] rfl rfl (take_ofW HT_.out HW_.out (by kernel_rfl)) (fun _ _ _ h => h) (Or.inl ⟨by rfl, ?_⟩) hHeld ?_ ?_
                              rotate_left
                              · rintro w' ⟨s0, s1, s2, s3, s4, s5, s6, s7, s8, s9, s10, s11, s12, s13, s14, s15, s16, s17, s18⟩
                                go_simp
                                with_reducible rfl
                              rotate_left
                              · simp only [Act.put, List.setIfInBounds_toArray, List.set_cons_zero, List.set_cons_succ, i64_w, i32_w]
                                rfl
                              refine one_ (i := 5) (N := some 110) #[true, true, true, true, true, true, false, false, false] rfl rfl (one_of HT_.out (by kernel_rfl)) (by decide) (fun K hK => ?_)
                              refine goes_ Try.func12 (by kernel_rfl) rfl #[.agg #[.int .i64 t345, .int .i64 t346, .int .i64 t347, .int .i64 t348, .int .i64 t349, .int .i64 t350, .int .i64 t351, .int .i64 t352, .int .i64 t353, .int .i64 t354]] (by rfl) rfl rfl (by (try simp only [List.map_toArray, List.map_cons, List.map_nil]); first | done | rfl | (simp only [List.length_drop, List.length_take]; rfl)) ?_
                              with_reducible refine (mount_Rest.calls t345 t346 t347 t348 t349 t350 t351 t352 t353 t354 t434 t435 t436 t437 t438 t439 t440 t441 t442 _ A76.out).mono ?_
                              rintro e w78 ⟨rfl, hb⟩
                              refine ⟨_, rfl, ?_⟩
                              have n0_ := Aside0.mk (blk_below BK356.out hb)
                              have n1_ := Aside0.mk (blk_below BK380.out hb)
                              have n2_ := Aside0.mk (below_step (by exact HB.out) hb)
                              clear BK356
                              clear BK380
                              clear HB
                              have BK356 := n0_
                              have BK380 := n1_
                              have HB := n2_
                              clear n0_ n1_ n2_
                              (try clear hb)
                              (try clear hb2)
                              (try clear hk)
                              (try clear hi)
                              refine hK.out _ _ ⟨(blk_cell BK380.out 0).trans rfl, (blk_cell BK380.out 1).trans rfl, (blk_cell BK380.out 2).trans rfl, (blk_cell BK380.out 3).trans rfl, (blk_cell BK380.out 4).trans rfl, (blk_cell BK380.out 5).trans rfl, (blk_cell BK380.out 6).trans rfl, (blk_cell BK380.out 7).trans rfl, (blk_cell BK380.out 8).trans rfl, (blk_cell BK356.out 0).trans rfl, (blk_cell BK356.out 1).trans rfl, (blk_cell BK356.out 2).trans rfl, (blk_cell BK356.out 3).trans rfl, (blk_cell BK356.out 4).trans rfl, (blk_cell BK356.out 5).trans rfl, (blk_cell BK356.out 6).trans rfl, (blk_cell BK356.out 7).trans rfl, (blk_cell BK356.out 8).trans rfl, (blk_cell BK356.out 9).trans rfl⟩ (fun hHeld => ?_)
                              clear hK K
                              refine norm_ (a' := ?_) ?_ ?_
                              rotate_left
                              · show Act.put _ (some 110) _ = _
                                simp only [Act.put, List.setIfInBounds_toArray, List.set_cons_zero, List.set_cons_succ, i64_w, i32_w]
                                rfl
                              refine pure_ (i := 6) (N := some 111) (v := ?_) (a' := ?_) #[true, true, true, true, true, true, true, false, false] rfl rfl (any_of HT_.out (by kernel_rfl)) (fun _ _ _ h => h) (Or.inl ⟨by rfl, ?_⟩) ?_ ?_
                              rotate_left
                              · intro w'
                                go_simp
                                with_reducible rfl
                              rotate_left
                              · simp only [Act.put, List.setIfInBounds_toArray, List.set_cons_zero, List.set_cons_succ, i64_w, i32_w]
                                rfl
                              refine pure_ (i := 7) (N := some 112) (v := ?_) (a' := ?_) #[true, true, true, true, true, true, true, true, false] rfl rfl (any_of HT_.out (by kernel_rfl)) (fun _ _ _ h => h) (Or.inl ⟨by rfl, ?_⟩) ?_ ?_
                              rotate_left
                              · intro w'
                                go_simp
                                with_reducible rfl
                              rotate_left
                              · simp only [Act.put, List.setIfInBounds_toArray, List.set_cons_zero, List.set_cons_succ, i64_w, i32_w]
                                rfl
                              refine pure_ (i := 8) (N := some 2) (v := ?_) (a' := ?_) #[true, true, true, true, true, true, true, true, true] rfl rfl (any_of HT_.out (by kernel_rfl)) (fun _ _ _ h => h) (Or.inl ⟨by rfl, ?_⟩) ?_ ?_
                              rotate_left
                              · intro w'
                                go_simp
                                with_reducible rfl
                              rotate_left
                              · simp only [Act.put, List.setIfInBounds_toArray, List.set_cons_zero, List.set_cons_succ, i64_w, i32_w]
                                rfl
                              refine done_ (done_of HT_.out (by kernel_rfl)) ?_
                              try go_wp2
                              go_ret
                              exact ⟨by first | rfl | (simp [errW_none, errW_some] <;> rfl) | (simp only [← hji57, ← hji58]; first | rfl | (simp [errW_none, errW_some] <;> rfl)) | (simp [*, errW_none, errW_some] <;> rfl), by exact HB.out⟩
                            · rw [if_neg c75] at H
                              have c75b0 : (t424 == 0) = false := beq_eq_false_iff_ne.mpr c75
                              have c75b1 : (t424 != 0) = true := bne_iff_ne.mpr c75
                              obtain rfl := Option.some.inj H
                              try go_wp2
                              have n0_ := Aside0.mk (blk_drew BK356.out)
                              have n1_ := Aside0.mk (blk_drew BK380.out)
                              have n2_ := Aside0.mk (below_drew1 HB.out)
                              clear BK356
                              clear BK380
                              clear HB
                              have BK356 := n0_
                              have BK380 := n1_
                              have HB := n2_
                              clear n0_ n1_ n2_
                              refine start_ (n := 9) (S := fun w' => True) (ds := []) #[false, false, false, false, false, false, false, false, false] (by kernel_rfl) rfl rfl trivial (fun hHeld => ?_); refine with_tabW spykeep2_MountParks.tab24 spykeep2_MountParks.bits24 (fun HT_ HW_ => ?_)
                              generalize wr.drew = w79 at BK356 BK380 HB hHeld ⊢
                              refine pure_ (i := 0) (N := some 105) (v := ?_) (a' := ?_) #[true, false, false, false, false, false, false, false, false] rfl rfl (any_of HT_.out (by kernel_rfl)) (fun _ _ _ h => h) (Or.inl ⟨by rfl, ?_⟩) ?_ ?_
                              rotate_left
                              · intro w'
                                go_simp
                                with_reducible rfl
                              rotate_left
                              · simp only [Act.put, List.setIfInBounds_toArray, List.set_cons_zero, List.set_cons_succ, i64_w, i32_w]
                                rfl
                              refine pure_ (i := 1) (N := some 106) (v := ?_) (a' := ?_) #[true, true, false, false, false, false, false, false, false] rfl rfl (any_of HT_.out (by kernel_rfl)) (fun _ _ _ h => h) (Or.inl ⟨by rfl, ?_⟩) ?_ ?_
                              rotate_left
                              · intro w'
                                go_simp
                                with_reducible rfl
                              rotate_left
                              · simp only [Act.put, List.setIfInBounds_toArray, List.set_cons_zero, List.set_cons_succ, i64_w, i32_w]
                                rfl
                              refine pure_ (i := 2) (N := some 107) (v := ?_) (a' := ?_) #[true, true, true, false, false, false, false, false, false] rfl rfl (any_of HT_.out (by kernel_rfl)) (fun _ _ _ h => h) (Or.inl ⟨by rfl, ?_⟩) ?_ ?_
                              rotate_left
                              · intro w'
                                go_simp
                                with_reducible rfl
                              rotate_left
                              · simp only [Act.put, List.setIfInBounds_toArray, List.set_cons_zero, List.set_cons_succ, i64_w, i32_w]
                                rfl
                              refine pure_ (i := 3) (N := some 108) (v := undef) (a' := ?_) #[true, true, true, true, false, false, false, false, false] rfl rfl (any_of HT_.out (by kernel_rfl)) (fun _ _ _ h => h) (Or.inr ⟨by rfl, rfl⟩) ?_ ?_
                              rotate_left
                              · simp only [Act.put, List.setIfInBounds_toArray, List.set_cons_zero, List.set_cons_succ, i64_w, i32_w]
                                rfl
                              refine pure_ (i := 4) (N := some 109) (v := undef) (a' := ?_) #[true, true, true, true, true, false, false, false, false] rfl rfl (any_of HT_.out (by kernel_rfl)) (fun _ _ _ h => h) (Or.inr ⟨by rfl, rfl⟩) ?_ ?_
                              rotate_left
                              · simp only [Act.put, List.setIfInBounds_toArray, List.set_cons_zero, List.set_cons_succ, i64_w, i32_w]
                                rfl
                              refine pure_ (i := 5) (N := some 110) (v := undef) (a' := ?_) #[true, true, true, true, true, true, false, false, false] rfl rfl (any_of HT_.out (by kernel_rfl)) (fun _ _ _ h => h) (Or.inr ⟨by rfl, rfl⟩) ?_ ?_
                              rotate_left
                              · simp only [Act.put, List.setIfInBounds_toArray, List.set_cons_zero, List.set_cons_succ, i64_w, i32_w]
                                rfl
                              refine pure_ (i := 6) (N := some 111) (v := undef) (a' := ?_) #[true, true, true, true, true, true, true, false, false] rfl rfl (any_of HT_.out (by kernel_rfl)) (fun _ _ _ h => h) (Or.inr ⟨by rfl, rfl⟩) ?_ ?_
                              rotate_left
                              · simp only [Act.put, List.setIfInBounds_toArray, List.set_cons_zero, List.set_cons_succ, i64_w, i32_w]
                                rfl
                              refine pure_ (i := 7) (N := some 112) (v := ?_) (a' := ?_) #[true, true, true, true, true, true, true, true, false] rfl rfl (any_of HT_.out (by kernel_rfl)) (fun _ _ _ h => h) (Or.inl ⟨by rfl, ?_⟩) ?_ ?_
                              rotate_left
                              · intro w'
                                go_simp
                                with_reducible rfl
                              rotate_left
                              · simp only [Act.put, List.setIfInBounds_toArray, List.set_cons_zero, List.set_cons_succ, i64_w, i32_w]
                                rfl
                              refine pure_ (i := 8) (N := some 2) (v := ?_) (a' := ?_) #[true, true, true, true, true, true, true, true, true] rfl rfl (any_of HT_.out (by kernel_rfl)) (fun _ _ _ h => h) (Or.inl ⟨by rfl, ?_⟩) ?_ ?_
                              rotate_left
                              · intro w'
                                go_simp
                                with_reducible rfl
                              rotate_left
                              · simp only [Act.put, List.setIfInBounds_toArray, List.set_cons_zero, List.set_cons_succ, i64_w, i32_w]
                                rfl
                              refine done_ (done_of HT_.out (by kernel_rfl)) ?_
                              try go_wp2
                              go_ret
                              exact ⟨by first | rfl | (simp [errW_none, errW_some] <;> rfl) | (simp only [← hji57, ← hji58]; first | rfl | (simp [errW_none, errW_some] <;> rfl)) | (simp [*, errW_none, errW_some] <;> rfl), by exact HB.out⟩
  · replace c3 := Bool.eq_false_iff.mpr c3
    subst c3
    have H1 : (some false) = some r := by rw [if_neg (show ¬ (false = true) by decide)] at H; exact H
    clear H
    have H := H1
    clear H1
    obtain rfl := Option.some.inj H
    go_enter Try.func4, Try.ntmps4
    go_wp2_with (first | ((with_reducible refine gate_callee (f := 10) rfl ?_); refine goesL_ (some 12) rfl rfl Try.func10 (by kernel_rfl) rfl #[] rfl (by (try simp only [List.map_toArray, List.map_cons, List.map_nil]); first | done | rfl | (simp only [List.length_drop, List.length_take]; rfl)) ?_; (with_reducible refine (spykeep2_drives.calls k  false _ A2.out).mono ?_); rintro e w80 ⟨rfl, hb⟩; refine ⟨_, rfl, ?_⟩; have n0_ := Aside0.mk (below_step (by exact HB.out) hb); clear HB; have HB := n0_; clear n0_; (try clear hb); (try clear hb2); (try clear hk); (try clear hi)))
    go_ret
    exact ⟨by first | rfl | (simp [errW_none, errW_some] <;> rfl) | (simp [*, errW_none, errW_some] <;> rfl), by exact HB.out⟩

/-- THE ONE PURE STATEMENT of spykeep2_MountParks: yours. -/
def spykeep2_MountParks.Pure : Prop := ∀ (l0 : List Int), l0.length ≤ maxLen → l0.length * 8 ≤ 140737488351232 → (∀ x ∈ l0, (Lit.int .i64 x).wf = true) → ∃ k, spykeep2_MountParks.f k l0 = some true
theorem spykeep2_MountParks.walk (P : spykeep2_MountParks.Pure) (a0 : Option Addr) (len0 cap0 : Nat) (z0 : List Int) (w : World) (w0 : (a0 = none ∧ len0 = 0 ∧ cap0 = 0 ∧ z0 = []) ∨ ∃ x, a0 = some x ∧ len0 ≤ cap0 ∧ cap0 ≤ maxLen ∧ z0.length = cap0 ∧ (∀ i, i < z0.length → w.cell? (x.add i) = some (.int .i64 (z0.getD i 0))) ∧ ∀ n ∈ z0, (Lit.int .i64 n).wf = true) (y0 : len0 * 8 ≤ 140737488351232) :
    Calls Try.prog 4 #[.slice a0 len0 cap0] w fun e w' => e = .returned (.bool true) ∧ Below w.heap.size w w' := by
  obtain ⟨l0, rfl, hr0, hm0, hw0, hc0⟩ := ReadsInt.ofRowC w0
  obtain ⟨k, h⟩ := P l0 hm0 y0 hw0
  refine (spykeep2_MountParks.calls k _ _ l0 true w (Kd.C_of_reads (d := (0 : Int)) (h1 := fun _ => rfl) hr0) hc0 h).mono ?_
  rintro e w' ⟨rfl, hd⟩
  exact ⟨rfl, hd⟩

end Go.Proofs.Ytfcengfjolljgaa.PMountParks
