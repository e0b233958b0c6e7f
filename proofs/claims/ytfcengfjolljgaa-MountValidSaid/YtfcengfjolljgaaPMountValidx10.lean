-- Written by a program of this session out of the translation (wip/tools).
import Derived.Test.YtfcengfjolljgaaPMountValidx0
import Derived.Test.YtfcengfjolljgaaPMountValidx2
import Derived.Test.YtfcengfjolljgaaPMountValidx4
import Derived.Test.YtfcengfjolljgaaPMountValidx6
import Derived.Test.YtfcengfjolljgaaPMountValidx7
import Derived.Test.YtfcengfjolljgaaPMountValidx8
import Derived.Test.YtfcengfjolljgaaPMountValidx9
namespace Go.Proofs.Ytfcengfjolljgaa.PMountValid
open Go.RowKit Go.Proofs.YtfcengfjolljgaaW.PrintWords Go.Proofs.YtfcengfjolljgaaW.PrintLast Go.Proofs.YtfcengfjolljgaaW.PrintMore
attribute [local go_sem] max2_int min2_int max_two min_two max_three min_three max_four min_four   -- for this text's walks alone
set_option linter.unusedVariables false
set_option linter.unusedSimpArgs false

/-! ### spykeep2_MountValid: function 3 -/
mutual
def spykeep2_MountValid.l0 : Nat → Int → List Int → Int → Int → Int → Int → Int → Int → Int → Int → Int → Int → Int → Int → Int → Int → Bool → Int → Int → Int → Bool → Int → Option (Bool)
  | 0, _, _, _, _, _, _, _, _, _, _, _, _, _, _, _, _, _, _, _, _, _, _ => none
  | k + 1, x18, x354000, x354001, x366000, x366001, x366002, x366003, x366004, x366005, x366006, x366007, x366008, x366009, x376000, x376001, x376002, x376003, x376004, x376005, x376006, x376007, x376008 => if x18 < 50 then ((spymake_Stream_Inside.f x354000 x354001 x366000 x366001 x366002 x366003).bind fun bt376 => ((spymake_Stream_Inside.f x354000 bt376.2 x366004 x366005 x366006 x366007).bind fun bt378 => ((spymake_Stream_Next.f x354000 bt378.2 10).bind fun bt382 => (if bt382.1 = 0 then (spykeep2_MountValid.j1 k 0 x18 bt382.1 (bt382.1 == 0) x354000 bt382.2 x366000 x366001 x366002 x366003 x366004 x366005 x366006 x366007 x366008 x366009 x376000 x376001 x376002 x376003 x376004 x376005 x376006 x376007 x376008 bt376.1 bt378.1 x376000 x376001 x376002 x376003 x376004 x376005 x376006 x376007 x376008) else (spykeep2_MountValid.j1 k 0 x18 bt382.1 (bt382.1 == 1) x354000 bt382.2 x366000 x366001 x366002 x366003 x366004 x366005 x366006 x366007 x366008 x366009 x376000 x376001 x376002 x376003 x376004 x376005 x376006 x376007 x376008 bt376.1 bt378.1 x376000 x376001 x376002 x376003 x376004 x376005 x376006 x376007 x376008))))) else (some true)
def spykeep2_MountValid.j2 : Nat → Int → Int → List Int → Int → Int → Int → Int → Int → Int → Int → Int → Int → Int → Int → Int → Int → Int → Bool → Int → Int → Int → Bool → Int → Int → Int → Int → Bool → Int → Int → Int → Bool → Int → Option (Bool)
  | 0, _, _, _, _, _, _, _, _, _, _, _, _, _, _, _, _, _, _, _, _, _, _, _, _, _, _, _, _, _, _, _, _ => none
  | k + 1, x8, x18, x354000, x354001, x366000, x366001, x366002, x366003, x366004, x366005, x366006, x366007, x366008, x366009, x376000, x376001, x376002, x376003, x376004, x376005, x376006, x376007, x376008, x382000, x382001, x382002, x382003, x382004, x382005, x382006, x382007, x382008 => if x8 = 0 then (spykeep2_MountValid.j3 k x18 x354000 x354001 x366000 x366001 x366002 x366003 x366004 x366005 x366006 x366007 x366008 x366009 x382000 x382001 x382002 x382003 x382004 x382005 x382006 x382007 x382008) else (if x8 = 10 then (spykeep2_MountValid.j3 k x18 x354000 x354001 x366000 x366001 x366002 x366003 x366004 x366005 x366006 x366007 x366008 x366009 x376000 x376001 x376002 x376003 x376004 x376005 x376006 x376007 x376008) else (if x8 = 4 then (spykeep2_MountValid.j3 k x18 x354000 x354001 x366000 x366001 x366002 x366003 x366004 x366005 x366006 x366007 x366008 x366009 x376000 x376001 x376002 x376003 x376004 x376005 x376006 x376007 x376008) else (some false)))
def spykeep2_MountValid.j3 : Nat → Int → List Int → Int → Int → Int → Int → Int → Int → Int → Int → Int → Int → Int → Int → Int → Int → Bool → Int → Int → Int → Bool → Int → Option (Bool)
  | 0, _, _, _, _, _, _, _, _, _, _, _, _, _, _, _, _, _, _, _, _, _, _ => none
  | k + 1, x18, x354000, x354001, x366000, x366001, x366002, x366003, x366004, x366005, x366006, x366007, x366008, x366009, x376000, x376001, x376002, x376003, x376004, x376005, x376006, x376007, x376008 => (mount_Step.f k x366000 x366001 x366002 x366003 x366004 x366005 x366006 x366007 x366008 x366009 x376000 x376001 x376002 x376003 x376004 x376005 x376006 x376007 x376008).bind fun bt426 => ((mount_Check.f k x366000 x366001 x366002 x366003 x366004 x366005 x366006 x366007 x366008 x366009 bt426.1 bt426.2.1 bt426.2.2.1 bt426.2.2.2.1 bt426.2.2.2.2.1 bt426.2.2.2.2.2.1 bt426.2.2.2.2.2.2.1 bt426.2.2.2.2.2.2.2.1 bt426.2.2.2.2.2.2.2.2).bind fun t435 => (if t435 = 0 then (spykeep2_MountValid.l0 k (wrap64 (x18 + 1)) x354000 x354001 x366000 x366001 x366002 x366003 x366004 x366005 x366006 x366007 x366008 x366009 bt426.1 bt426.2.1 bt426.2.2.1 bt426.2.2.2.1 bt426.2.2.2.2.1 bt426.2.2.2.2.2.1 bt426.2.2.2.2.2.2.1 bt426.2.2.2.2.2.2.2.1 bt426.2.2.2.2.2.2.2.2) else (some false)))
def spykeep2_MountValid.j1 : Nat → Int → Int → Int → Bool → List Int → Int → Int → Int → Int → Int → Int → Int → Int → Int → Int → Int → Int → Int → Int → Bool → Int → Int → Int → Bool → Int → Int → Int → Int → Int → Int → Bool → Int → Int → Int → Bool → Int → Option (Bool)
  | 0, _, _, _, _, _, _, _, _, _, _, _, _, _, _, _, _, _, _, _, _, _, _, _, _, _, _, _, _, _, _, _, _, _, _, _, _ => none
  | k + 1, x8, x18, x31, x32, x354000, x354001, x366000, x366001, x366002, x366003, x366004, x366005, x366006, x366007, x366008, x366009, x376000, x376001, x376002, x376003, x376004, x376005, x376006, x376007, x376008, x381000, x381001, x382000, x382001, x382002, x382003, x382004, x382005, x382006, x382007, x382008 => if x32 = true then ((mount_Goto.f k x366000 x366001 x366002 x366003 x366004 x366005 x366006 x366007 x366008 x366009 x376000 x376001 x376002 x376003 x376004 x376005 x376006 x376007 x376008 x381000 x381001).bind fun bt384 => (spykeep2_MountValid.j2 k bt384.2.2.2.2.2.2.2.2.2 x18 x354000 x354001 x366000 x366001 x366002 x366003 x366004 x366005 x366006 x366007 x366008 x366009 x376000 x376001 x376002 x376003 x376004 x376005 x376006 x376007 x376008 bt384.1 bt384.2.1 bt384.2.2.1 bt384.2.2.2.1 bt384.2.2.2.2.1 bt384.2.2.2.2.2.1 bt384.2.2.2.2.2.2.1 bt384.2.2.2.2.2.2.2.1 bt384.2.2.2.2.2.2.2.2.1)) else (if x31 = 2 then ((mount_Park.f k x366000 x366001 x366002 x366003 x366004 x366005 x366006 x366007 x366008 x366009 x376000 x376001 x376002 x376003 x376004 x376005 x376006 x376007 x376008).bind fun bt394 => (spykeep2_MountValid.j2 k bt394.2.2.2.2.2.2.2.2.2 x18 x354000 x354001 x366000 x366001 x366002 x366003 x366004 x366005 x366006 x366007 x366008 x366009 x376000 x376001 x376002 x376003 x376004 x376005 x376006 x376007 x376008 bt394.1 bt394.2.1 bt394.2.2.1 bt394.2.2.2.1 bt394.2.2.2.2.1 bt394.2.2.2.2.2.1 bt394.2.2.2.2.2.2.1 bt394.2.2.2.2.2.2.2.1 bt394.2.2.2.2.2.2.2.2.1)) else (if x31 = 3 then ((mount_Stop.f k x366000 x366001 x366002 x366003 x366004 x366005 x366006 x366007 x366008 x366009 x376000 x376001 x376002 x376003 x376004 x376005 x376006 x376007 x376008).bind fun bt404 => (spykeep2_MountValid.j2 k bt404.2.2.2.2.2.2.2.2.2 x18 x354000 x354001 x366000 x366001 x366002 x366003 x366004 x366005 x366006 x366007 x366008 x366009 x376000 x376001 x376002 x376003 x376004 x376005 x376006 x376007 x376008 bt404.1 bt404.2.1 bt404.2.2.1 bt404.2.2.2.1 bt404.2.2.2.2.1 bt404.2.2.2.2.2.1 bt404.2.2.2.2.2.2.1 bt404.2.2.2.2.2.2.2.1 bt404.2.2.2.2.2.2.2.2.1)) else (if x31 = 4 then ((spymake_Stream_Range.f x354000 x354001 (-9) 9).bind fun bt414 => ((mount_Follow.f k x366000 x366001 x366002 x366003 x366004 x366005 x366006 x366007 x366008 x366009 x376000 x376001 x376002 x376003 x376004 x376005 x376006 x376007 x376008 (wrap64 (x376002 + bt414.1)) x376006).bind fun bt416 => (spykeep2_MountValid.j2 k bt416.2.2.2.2.2.2.2.2.2 x18 x354000 bt414.2 x366000 x366001 x366002 x366003 x366004 x366005 x366006 x366007 x366008 x366009 x376000 x376001 x376002 x376003 x376004 x376005 x376006 x376007 x376008 bt416.1 bt416.2.1 bt416.2.2.1 bt416.2.2.2.1 bt416.2.2.2.2.1 bt416.2.2.2.2.2.1 bt416.2.2.2.2.2.2.1 bt416.2.2.2.2.2.2.2.1 bt416.2.2.2.2.2.2.2.2.1))) else (spykeep2_MountValid.j2 k x8 x18 x354000 x354001 x366000 x366001 x366002 x366003 x366004 x366005 x366006 x366007 x366008 x366009 x376000 x376001 x376002 x376003 x376004 x376005 x376006 x376007 x376008 x382000 x382001 x382002 x382003 x382004 x382005 x382006 x382007 x382008))))
end
def spykeep2_MountValid.f (k : Nat) (l0 : List Int) : Option (Bool) := (spykeep2_drives.f k).bind fun t352 => (if t352 = true then ((spymake_Stream_Mount.f k l0 0).bind fun bt354 => ((mount_Rest.f bt354.1 bt354.2.1 bt354.2.2.1 bt354.2.2.2.1 bt354.2.2.2.2.1 bt354.2.2.2.2.2.1 bt354.2.2.2.2.2.2.1 bt354.2.2.2.2.2.2.2.1 bt354.2.2.2.2.2.2.2.2.1 bt354.2.2.2.2.2.2.2.2.2.1).bind fun bt366 => (spykeep2_MountValid.l0 k 0 l0 bt354.2.2.2.2.2.2.2.2.2.2 bt354.1 bt354.2.1 bt354.2.2.1 bt354.2.2.2.1 bt354.2.2.2.2.1 bt354.2.2.2.2.2.1 bt354.2.2.2.2.2.2.1 bt354.2.2.2.2.2.2.2.1 bt354.2.2.2.2.2.2.2.2.1 bt354.2.2.2.2.2.2.2.2.2.1 bt366.1 bt366.2.1 bt366.2.2.1 bt366.2.2.2.1 bt366.2.2.2.2.1 bt366.2.2.2.2.2.1 bt366.2.2.2.2.2.2.1 bt366.2.2.2.2.2.2.2.1 bt366.2.2.2.2.2.2.2.2))) else (some false))
theorem spykeep2_MountValid.mono_l : ∀ k, (∀ y0 y1 y2 y3 y4 y5 y6 y7 y8 y9 y10 y11 y12 y13 y14 y15 y16 y17 y18 y19 y20 y21, LeO (spykeep2_MountValid.l0 k y0 y1 y2 y3 y4 y5 y6 y7 y8 y9 y10 y11 y12 y13 y14 y15 y16 y17 y18 y19 y20 y21) (spykeep2_MountValid.l0 (k + 1) y0 y1 y2 y3 y4 y5 y6 y7 y8 y9 y10 y11 y12 y13 y14 y15 y16 y17 y18 y19 y20 y21)) ∧ (∀ y0 y1 y2 y3 y4 y5 y6 y7 y8 y9 y10 y11 y12 y13 y14 y15 y16 y17 y18 y19 y20 y21 y22 y23 y24 y25 y26 y27 y28 y29 y30 y31, LeO (spykeep2_MountValid.j2 k y0 y1 y2 y3 y4 y5 y6 y7 y8 y9 y10 y11 y12 y13 y14 y15 y16 y17 y18 y19 y20 y21 y22 y23 y24 y25 y26 y27 y28 y29 y30 y31) (spykeep2_MountValid.j2 (k + 1) y0 y1 y2 y3 y4 y5 y6 y7 y8 y9 y10 y11 y12 y13 y14 y15 y16 y17 y18 y19 y20 y21 y22 y23 y24 y25 y26 y27 y28 y29 y30 y31)) ∧ (∀ y0 y1 y2 y3 y4 y5 y6 y7 y8 y9 y10 y11 y12 y13 y14 y15 y16 y17 y18 y19 y20 y21, LeO (spykeep2_MountValid.j3 k y0 y1 y2 y3 y4 y5 y6 y7 y8 y9 y10 y11 y12 y13 y14 y15 y16 y17 y18 y19 y20 y21) (spykeep2_MountValid.j3 (k + 1) y0 y1 y2 y3 y4 y5 y6 y7 y8 y9 y10 y11 y12 y13 y14 y15 y16 y17 y18 y19 y20 y21)) ∧ (∀ y0 y1 y2 y3 y4 y5 y6 y7 y8 y9 y10 y11 y12 y13 y14 y15 y16 y17 y18 y19 y20 y21 y22 y23 y24 y25 y26 y27 y28 y29 y30 y31 y32 y33 y34 y35, LeO (spykeep2_MountValid.j1 k y0 y1 y2 y3 y4 y5 y6 y7 y8 y9 y10 y11 y12 y13 y14 y15 y16 y17 y18 y19 y20 y21 y22 y23 y24 y25 y26 y27 y28 y29 y30 y31 y32 y33 y34 y35) (spykeep2_MountValid.j1 (k + 1) y0 y1 y2 y3 y4 y5 y6 y7 y8 y9 y10 y11 y12 y13 y14 y15 y16 y17 y18 y19 y20 y21 y22 y23 y24 y25 y26 y27 y28 y29 y30 y31 y32 y33 y34 y35))
  | 0 => ⟨fun _ _ _ _ _ _ _ _ _ _ _ _ _ _ _ _ _ _ _ _ _ _ r h => by simp [spykeep2_MountValid.l0] at h, fun _ _ _ _ _ _ _ _ _ _ _ _ _ _ _ _ _ _ _ _ _ _ _ _ _ _ _ _ _ _ _ _ r h => by simp [spykeep2_MountValid.j2] at h, fun _ _ _ _ _ _ _ _ _ _ _ _ _ _ _ _ _ _ _ _ _ _ r h => by simp [spykeep2_MountValid.j3] at h, fun _ _ _ _ _ _ _ _ _ _ _ _ _ _ _ _ _ _ _ _ _ _ _ _ _ _ _ _ _ _ _ _ _ _ _ _ r h => by simp [spykeep2_MountValid.j1] at h⟩
  | k + 1 => by
    obtain ⟨ih0, ih1, ih2, ih3⟩ := spykeep2_MountValid.mono_l k
    refine ⟨?_, ?_, ?_, ?_⟩
    · intro y0 y1 y2 y3 y4 y5 y6 y7 y8 y9 y10 y11 y12 y13 y14 y15 y16 y17 y18 y19 y20 y21
      unfold spykeep2_MountValid.l0
      repeat' first
      | (with_reducible exact ih0 _ _ _ _ _ _ _ _ _ _ _ _ _ _ _ _ _ _ _ _ _ _)
      | (with_reducible exact ih1 _ _ _ _ _ _ _ _ _ _ _ _ _ _ _ _ _ _ _ _ _ _ _ _ _ _ _ _ _ _ _ _)
      | (with_reducible exact ih2 _ _ _ _ _ _ _ _ _ _ _ _ _ _ _ _ _ _ _ _ _ _)
      | (with_reducible exact ih3 _ _ _ _ _ _ _ _ _ _ _ _ _ _ _ _ _ _ _ _ _ _ _ _ _ _ _ _ _ _ _ _ _ _ _ _)
      | (with_reducible exact mount_Check.mono _ _ _ _ _ _ _ _ _ _ _ _ _ _ _ _ _ _ _ _)
      | (with_reducible exact mount_Follow.mono _ _ _ _ _ _ _ _ _ _ _ _ _ _ _ _ _ _ _ _ _ _)
      | (with_reducible exact mount_Goto.mono _ _ _ _ _ _ _ _ _ _ _ _ _ _ _ _ _ _ _ _ _ _)
      | (with_reducible exact mount_Park.mono _ _ _ _ _ _ _ _ _ _ _ _ _ _ _ _ _ _ _ _)
      | (with_reducible exact mount_Step.mono _ _ _ _ _ _ _ _ _ _ _ _ _ _ _ _ _ _ _ _)
      | (with_reducible exact mount_Stop.mono _ _ _ _ _ _ _ _ _ _ _ _ _ _ _ _ _ _ _ _)
      | (with_reducible exact spykeep2_drives.mono _)
      | (with_reducible exact spymake_Stream_Mount.mono _ _ _)
      | (with_reducible exact LeO.refl _)
      | (with_reducible exact LeO.none _)
      | (with_reducible refine LeO.ite ?_ ?_)
      | (with_reducible refine LeO.bind ?_ (fun _ => ?_))
      | exact ih0 _ _ _ _ _ _ _ _ _ _ _ _ _ _ _ _ _ _ _ _ _ _
      | exact ih1 _ _ _ _ _ _ _ _ _ _ _ _ _ _ _ _ _ _ _ _ _ _ _ _ _ _ _ _ _ _ _ _
      | exact ih2 _ _ _ _ _ _ _ _ _ _ _ _ _ _ _ _ _ _ _ _ _ _
      | exact ih3 _ _ _ _ _ _ _ _ _ _ _ _ _ _ _ _ _ _ _ _ _ _ _ _ _ _ _ _ _ _ _ _ _ _ _ _
      | exact mount_Check.mono _ _ _ _ _ _ _ _ _ _ _ _ _ _ _ _ _ _ _ _
      | exact mount_Follow.mono _ _ _ _ _ _ _ _ _ _ _ _ _ _ _ _ _ _ _ _ _ _
      | exact mount_Goto.mono _ _ _ _ _ _ _ _ _ _ _ _ _ _ _ _ _ _ _ _ _ _
      | exact mount_Park.mono _ _ _ _ _ _ _ _ _ _ _ _ _ _ _ _ _ _ _ _
      | exact mount_Step.mono _ _ _ _ _ _ _ _ _ _ _ _ _ _ _ _ _ _ _ _
      | exact mount_Stop.mono _ _ _ _ _ _ _ _ _ _ _ _ _ _ _ _ _ _ _ _
      | exact spykeep2_drives.mono _
      | exact spymake_Stream_Mount.mono _ _ _
      | exact LeO.none _
      | refine LeO.ite ?_ ?_
      | refine LeO.bind ?_ (fun _ => ?_)
    · intro y0 y1 y2 y3 y4 y5 y6 y7 y8 y9 y10 y11 y12 y13 y14 y15 y16 y17 y18 y19 y20 y21 y22 y23 y24 y25 y26 y27 y28 y29 y30 y31
      unfold spykeep2_MountValid.j2
      repeat' first
      | (with_reducible exact ih0 _ _ _ _ _ _ _ _ _ _ _ _ _ _ _ _ _ _ _ _ _ _)
      | (with_reducible exact ih1 _ _ _ _ _ _ _ _ _ _ _ _ _ _ _ _ _ _ _ _ _ _ _ _ _ _ _ _ _ _ _ _)
      | (with_reducible exact ih2 _ _ _ _ _ _ _ _ _ _ _ _ _ _ _ _ _ _ _ _ _ _)
      | (with_reducible exact ih3 _ _ _ _ _ _ _ _ _ _ _ _ _ _ _ _ _ _ _ _ _ _ _ _ _ _ _ _ _ _ _ _ _ _ _ _)
      | (with_reducible exact mount_Check.mono _ _ _ _ _ _ _ _ _ _ _ _ _ _ _ _ _ _ _ _)
      | (with_reducible exact mount_Follow.mono _ _ _ _ _ _ _ _ _ _ _ _ _ _ _ _ _ _ _ _ _ _)
      | (with_reducible exact mount_Goto.mono _ _ _ _ _ _ _ _ _ _ _ _ _ _ _ _ _ _ _ _ _ _)
      | (with_reducible exact mount_Park.mono _ _ _ _ _ _ _ _ _ _ _ _ _ _ _ _ _ _ _ _)
      | (with_reducible exact mount_Step.mono _ _ _ _ _ _ _ _ _ _ _ _ _ _ _ _ _ _ _ _)
      | (with_reducible exact mount_Stop.mono _ _ _ _ _ _ _ _ _ _ _ _ _ _ _ _ _ _ _ _)
      | (with_reducible exact spykeep2_drives.mono _)
      | (with_reducible exact spymake_Stream_Mount.mono _ _ _)
      | (with_reducible exact LeO.refl _)
      | (with_reducible exact LeO.none _)
      | (with_reducible refine LeO.ite ?_ ?_)
      | (with_reducible refine LeO.bind ?_ (fun _ => ?_))
      | exact ih0 _ _ _ _ _ _ _ _ _ _ _ _ _ _ _ _ _ _ _ _ _ _
      | exact ih1 _ _ _ _ _ _ _ _ _ _ _ _ _ _ _ _ _ _ _ _ _ _ _ _ _ _ _ _ _ _ _ _
      | exact ih2 _ _ _ _ _ _ _ _ _ _ _ _ _ _ _ _ _ _ _ _ _ _
      | exact ih3 _ _ _ _ _ _ _ _ _ _ _ _ _ _ _ _ _ _ _ _ _ _ _ _ _ _ _ _ _ _ _ _ _ _ _ _
      | exact mount_Check.mono _ _ _ _ _ _ _ _ _ _ _ _ _ _ _ _ _ _ _ _
      | exact mount_Follow.mono _ _ _ _ _ _ _ _ _ _ _ _ _ _ _ _ _ _ _ _ _ _
      | exact mount_Goto.mono _ _ _ _ _ _ _ _ _ _ _ _ _ _ _ _ _ _ _ _ _ _
      | exact mount_Park.mono _ _ _ _ _ _ _ _ _ _ _ _ _ _ _ _ _ _ _ _
      | exact mount_Step.mono _ _ _ _ _ _ _ _ _ _ _ _ _ _ _ _ _ _ _ _
      | exact mount_Stop.mono _ _ _ _ _ _ _ _ _ _ _ _ _ _ _ _ _ _ _ _
      | exact spykeep2_drives.mono _
      | exact spymake_Stream_Mount.mono _ _ _
      | exact LeO.none _
      | refine LeO.ite ?_ ?_
      | refine LeO.bind ?_ (fun _ => ?_)
    · intro y0 y1 y2 y3 y4 y5 y6 y7 y8 y9 y10 y11 y12 y13 y14 y15 y16 y17 y18 y19 y20 y21
      unfold spykeep2_MountValid.j3
      repeat' first
      | (with_reducible exact ih0 _ _ _ _ _ _ _ _ _ _ _ _ _ _ _ _ _ _ _ _ _ _)
      | (with_reducible exact ih1 _ _ _ _ _ _ _ _ _ _ _ _ _ _ _ _ _ _ _ _ _ _ _ _ _ _ _ _ _ _ _ _)
      | (with_reducible exact ih2 _ _ _ _ _ _ _ _ _ _ _ _ _ _ _ _ _ _ _ _ _ _)
      | (with_reducible exact ih3 _ _ _ _ _ _ _ _ _ _ _ _ _ _ _ _ _ _ _ _ _ _ _ _ _ _ _ _ _ _ _ _ _ _ _ _)
      | (with_reducible exact mount_Check.mono _ _ _ _ _ _ _ _ _ _ _ _ _ _ _ _ _ _ _ _)
      | (with_reducible exact mount_Follow.mono _ _ _ _ _ _ _ _ _ _ _ _ _ _ _ _ _ _ _ _ _ _)
      | (with_reducible exact mount_Goto.mono _ _ _ _ _ _ _ _ _ _ _ _ _ _ _ _ _ _ _ _ _ _)
      | (with_reducible exact mount_Park.mono _ _ _ _ _ _ _ _ _ _ _ _ _ _ _ _ _ _ _ _)
      | (with_reducible exact mount_Step.mono _ _ _ _ _ _ _ _ _ _ _ _ _ _ _ _ _ _ _ _)
      | (with_reducible exact mount_Stop.mono _ _ _ _ _ _ _ _ _ _ _ _ _ _ _ _ _ _ _ _)
      | (with_reducible exact spykeep2_drives.mono _)
      | (with_reducible exact spymake_Stream_Mount.mono _ _ _)
      | (with_reducible exact LeO.refl _)
      | (with_reducible exact LeO.none _)
      | (with_reducible refine LeO.ite ?_ ?_)
      | (with_reducible refine LeO.bind ?_ (fun _ => ?_))
      | exact ih0 _ _ _ _ _ _ _ _ _ _ _ _ _ _ _ _ _ _ _ _ _ _
      | exact ih1 _ _ _ _ _ _ _ _ _ _ _ _ _ _ _ _ _ _ _ _ _ _ _ _ _ _ _ _ _ _ _ _
      | exact ih2 _ _ _ _ _ _ _ _ _ _ _ _ _ _ _ _ _ _ _ _ _ _
      | exact ih3 _ _ _ _ _ _ _ _ _ _ _ _ _ _ _ _ _ _ _ _ _ _ _ _ _ _ _ _ _ _ _ _ _ _ _ _
      | exact mount_Check.mono _ _ _ _ _ _ _ _ _ _ _ _ _ _ _ _ _ _ _ _
      | exact mount_Follow.mono _ _ _ _ _ _ _ _ _ _ _ _ _ _ _ _ _ _ _ _ _ _
      | exact mount_Goto.mono _ _ _ _ _ _ _ _ _ _ _ _ _ _ _ _ _ _ _ _ _ _
      | exact mount_Park.mono _ _ _ _ _ _ _ _ _ _ _ _ _ _ _ _ _ _ _ _
      | exact mount_Step.mono _ _ _ _ _ _ _ _ _ _ _ _ _ _ _ _ _ _ _ _
      | exact mount_Stop.mono _ _ _ _ _ _ _ _ _ _ _ _ _ _ _ _ _ _ _ _
      | exact spykeep2_drives.mono _
      | exact spymake_Stream_Mount.mono _ _ _
      | exact LeO.none _
      | refine LeO.ite ?_ ?_
      | refine LeO.bind ?_ (fun _ => ?_)
    · intro y0 y1 y2 y3 y4 y5 y6 y7 y8 y9 y10 y11 y12 y13 y14 y15 y16 y17 y18 y19 y20 y21 y22 y23 y24 y25 y26 y27 y28 y29 y30 y31 y32 y33 y34 y35
      unfold spykeep2_MountValid.j1
      repeat' first
      | (with_reducible exact ih0 _ _ _ _ _ _ _ _ _ _ _ _ _ _ _ _ _ _ _ _ _ _)
      | (with_reducible exact ih1 _ _ _ _ _ _ _ _ _ _ _ _ _ _ _ _ _ _ _ _ _ _ _ _ _ _ _ _ _ _ _ _)
      | (with_reducible exact ih2 _ _ _ _ _ _ _ _ _ _ _ _ _ _ _ _ _ _ _ _ _ _)
      | (with_reducible exact ih3 _ _ _ _ _ _ _ _ _ _ _ _ _ _ _ _ _ _ _ _ _ _ _ _ _ _ _ _ _ _ _ _ _ _ _ _)
      | (with_reducible exact mount_Check.mono _ _ _ _ _ _ _ _ _ _ _ _ _ _ _ _ _ _ _ _)
      | (with_reducible exact mount_Follow.mono _ _ _ _ _ _ _ _ _ _ _ _ _ _ _ _ _ _ _ _ _ _)
      | (with_reducible exact mount_Goto.mono _ _ _ _ _ _ _ _ _ _ _ _ _ _ _ _ _ _ _ _ _ _)
      | (with_reducible exact mount_Park.mono _ _ _ _ _ _ _ _ _ _ _ _ _ _ _ _ _ _ _ _)
      | (with_reducible exact mount_Step.mono _ _ _ _ _ _ _ _ _ _ _ _ _ _ _ _ _ _ _ _)
      | (with_reducible exact mount_Stop.mono _ _ _ _ _ _ _ _ _ _ _ _ _ _ _ _ _ _ _ _)
      | (with_reducible exact spykeep2_drives.mono _)
      | (with_reducible exact spymake_Stream_Mount.mono _ _ _)
      | (with_reducible exact LeO.refl _)
      | (with_reducible exact LeO.none _)
      | (with_reducible refine LeO.ite ?_ ?_)
      | (with_reducible refine LeO.bind ?_ (fun _ => ?_))
      | exact ih0 _ _ _ _ _ _ _ _ _ _ _ _ _ _ _ _ _ _ _ _ _ _
      | exact ih1 _ _ _ _ _ _ _ _ _ _ _ _ _ _ _ _ _ _ _ _ _ _ _ _ _ _ _ _ _ _ _ _
      | exact ih2 _ _ _ _ _ _ _ _ _ _ _ _ _ _ _ _ _ _ _ _ _ _
      | exact ih3 _ _ _ _ _ _ _ _ _ _ _ _ _ _ _ _ _ _ _ _ _ _ _ _ _ _ _ _ _ _ _ _ _ _ _ _
      | exact mount_Check.mono _ _ _ _ _ _ _ _ _ _ _ _ _ _ _ _ _ _ _ _
      | exact mount_Follow.mono _ _ _ _ _ _ _ _ _ _ _ _ _ _ _ _ _ _ _ _ _ _
      | exact mount_Goto.mono _ _ _ _ _ _ _ _ _ _ _ _ _ _ _ _ _ _ _ _ _ _
      | exact mount_Park.mono _ _ _ _ _ _ _ _ _ _ _ _ _ _ _ _ _ _ _ _
      | exact mount_Step.mono _ _ _ _ _ _ _ _ _ _ _ _ _ _ _ _ _ _ _ _
      | exact mount_Stop.mono _ _ _ _ _ _ _ _ _ _ _ _ _ _ _ _ _ _ _ _
      | exact spykeep2_drives.mono _
      | exact spymake_Stream_Mount.mono _ _ _
      | exact LeO.none _
      | refine LeO.ite ?_ ?_
      | refine LeO.bind ?_ (fun _ => ?_)
theorem spykeep2_MountValid.mono : ∀ a0 k, LeO (spykeep2_MountValid.f k a0) (spykeep2_MountValid.f (k + 1) a0) := by
  intro a0 k
  obtain ⟨ih0, ih1, ih2, ih3⟩ := spykeep2_MountValid.mono_l k
  unfold spykeep2_MountValid.f
  repeat' first
      | (with_reducible exact ih0 _ _ _ _ _ _ _ _ _ _ _ _ _ _ _ _ _ _ _ _ _ _)
      | (with_reducible exact ih1 _ _ _ _ _ _ _ _ _ _ _ _ _ _ _ _ _ _ _ _ _ _ _ _ _ _ _ _ _ _ _ _)
      | (with_reducible exact ih2 _ _ _ _ _ _ _ _ _ _ _ _ _ _ _ _ _ _ _ _ _ _)
      | (with_reducible exact ih3 _ _ _ _ _ _ _ _ _ _ _ _ _ _ _ _ _ _ _ _ _ _ _ _ _ _ _ _ _ _ _ _ _ _ _ _)
      | (with_reducible exact mount_Check.mono _ _ _ _ _ _ _ _ _ _ _ _ _ _ _ _ _ _ _ _)
      | (with_reducible exact mount_Follow.mono _ _ _ _ _ _ _ _ _ _ _ _ _ _ _ _ _ _ _ _ _ _)
      | (with_reducible exact mount_Goto.mono _ _ _ _ _ _ _ _ _ _ _ _ _ _ _ _ _ _ _ _ _ _)
      | (with_reducible exact mount_Park.mono _ _ _ _ _ _ _ _ _ _ _ _ _ _ _ _ _ _ _ _)
      | (with_reducible exact mount_Step.mono _ _ _ _ _ _ _ _ _ _ _ _ _ _ _ _ _ _ _ _)
      | (with_reducible exact mount_Stop.mono _ _ _ _ _ _ _ _ _ _ _ _ _ _ _ _ _ _ _ _)
      | (with_reducible exact spykeep2_drives.mono _)
      | (with_reducible exact spymake_Stream_Mount.mono _ _ _)
      | (with_reducible exact LeO.refl _)
      | (with_reducible exact LeO.none _)
      | (with_reducible refine LeO.ite ?_ ?_)
      | (with_reducible refine LeO.bind ?_ (fun _ => ?_))
      | exact ih0 _ _ _ _ _ _ _ _ _ _ _ _ _ _ _ _ _ _ _ _ _ _
      | exact ih1 _ _ _ _ _ _ _ _ _ _ _ _ _ _ _ _ _ _ _ _ _ _ _ _ _ _ _ _ _ _ _ _
      | exact ih2 _ _ _ _ _ _ _ _ _ _ _ _ _ _ _ _ _ _ _ _ _ _
      | exact ih3 _ _ _ _ _ _ _ _ _ _ _ _ _ _ _ _ _ _ _ _ _ _ _ _ _ _ _ _ _ _ _ _ _ _ _ _
      | exact mount_Check.mono _ _ _ _ _ _ _ _ _ _ _ _ _ _ _ _ _ _ _ _
      | exact mount_Follow.mono _ _ _ _ _ _ _ _ _ _ _ _ _ _ _ _ _ _ _ _ _ _
      | exact mount_Goto.mono _ _ _ _ _ _ _ _ _ _ _ _ _ _ _ _ _ _ _ _ _ _
      | exact mount_Park.mono _ _ _ _ _ _ _ _ _ _ _ _ _ _ _ _ _ _ _ _
      | exact mount_Step.mono _ _ _ _ _ _ _ _ _ _ _ _ _ _ _ _ _ _ _ _
      | exact mount_Stop.mono _ _ _ _ _ _ _ _ _ _ _ _ _ _ _ _ _ _ _ _
      | exact spykeep2_drives.mono _
      | exact spymake_Stream_Mount.mono _ _ _
      | exact LeO.none _
      | refine LeO.ite ?_ ?_
      | refine LeO.bind ?_ (fun _ => ?_)
def spykeep2_MountValid.T8 : Bool × List (List Nat × List Nat) := (true, [([], []), ([], []), ([1], [1]), ([0, 2], [0, 2]), ([], []), ([], []), ([5], [5]), ([4, 6, 3], [4, 6]), ([3, 7], [3, 7]), ([], []), ([9, 8, 7, 0, 1, 2, 3, 4, 5, 6, 7, 8, 9], [8, 9])])
def spykeep2_MountValid.B8 : List Nat := [0, 0, 2, 7, 0, 0, 32, 127, 255, 0, 1023]
theorem spykeep2_MountValid.tab8 : rtab .any (opsOf Try.f3 8) = spykeep2_MountValid.T8 := by kernel_rfl
theorem spykeep2_MountValid.bits8 : waitsOk spykeep2_MountValid.T8.2 spykeep2_MountValid.B8 = true := by kernel_rfl
def spykeep2_MountValid.T19 : Bool × List (List Nat × List Nat) := (true, [([], []), ([0], [0]), ([1], [1]), ([], []), ([3], [3]), ([2, 4], [2, 4]), ([], []), ([6], [6]), ([7], [7]), ([5, 8], [5, 8]), ([9, 4, 0, 1, 2, 3, 4, 5, 6, 7, 8, 9], [9])])
def spykeep2_MountValid.B19 : List Nat := [0, 1, 3, 0, 8, 31, 0, 64, 192, 511, 1023]
theorem spykeep2_MountValid.tab19 : rtab .any (opsOf Try.f3 19) = spykeep2_MountValid.T19 := by kernel_rfl
theorem spykeep2_MountValid.bits19 : waitsOk spykeep2_MountValid.T19.2 spykeep2_MountValid.B19 = true := by kernel_rfl
set_option maxHeartbeats 8000000 in
set_option maxRecDepth 100000 in
theorem spykeep2_MountValid.calls (k : Nat) (A0 : Option Addr) (c0 : Nat) (l0 : List Int) (r : Bool) (w : World) (hr0 : Kd.C (Kd.int .i64) w A0 l0.length l0) (hc0 : l0.length ≤ c0) (h : spykeep2_MountValid.f k l0 = some r) :
    Calls Try.prog 3 #[.slice A0 l0.length c0] w fun e w' => e = .returned (.bool r) ∧ Below w.heap.size w w' := by
  have hu26 := Try.underlying26
  have hu32 := Try.underlying32
  have hu37 := Try.underlying37
  have hu28 := Try.underlying28
  have hu30 := Try.underlying30
  have HR0 := Aside0.mk hr0
  have HC0 := Aside0.mk hc0
  clear hr0 hc0
  have HB := Aside0.mk (Below.refl w.heap.size w)
  have H : ((spykeep2_drives.f k).bind fun t352 => (if t352 = true then ((spymake_Stream_Mount.f k l0 0).bind fun bt354 => ((mount_Rest.f bt354.1 bt354.2.1 bt354.2.2.1 bt354.2.2.2.1 bt354.2.2.2.2.1 bt354.2.2.2.2.2.1 bt354.2.2.2.2.2.2.1 bt354.2.2.2.2.2.2.2.1 bt354.2.2.2.2.2.2.2.2.1 bt354.2.2.2.2.2.2.2.2.2.1).bind fun bt366 => (spykeep2_MountValid.l0 k 0 l0 bt354.2.2.2.2.2.2.2.2.2.2 bt354.1 bt354.2.1 bt354.2.2.1 bt354.2.2.2.1 bt354.2.2.2.2.1 bt354.2.2.2.2.2.1 bt354.2.2.2.2.2.2.1 bt354.2.2.2.2.2.2.2.1 bt354.2.2.2.2.2.2.2.2.1 bt354.2.2.2.2.2.2.2.2.2.1 bt366.1 bt366.2.1 bt366.2.2.1 bt366.2.2.2.1 bt366.2.2.2.2.1 bt366.2.2.2.2.2.1 bt366.2.2.2.2.2.2.1 bt366.2.2.2.2.2.2.2.1 bt366.2.2.2.2.2.2.2.2))) else (some false))) = some r := h
  clear h
  replace H := Option.bind_eq_some_iff.mp H
  obtain ⟨t352, A20, H⟩ := H
  replace H : (if t352 = true then ((spymake_Stream_Mount.f k l0 0).bind fun bt354 => ((mount_Rest.f bt354.1 bt354.2.1 bt354.2.2.1 bt354.2.2.2.1 bt354.2.2.2.2.1 bt354.2.2.2.2.2.1 bt354.2.2.2.2.2.2.1 bt354.2.2.2.2.2.2.2.1 bt354.2.2.2.2.2.2.2.2.1 bt354.2.2.2.2.2.2.2.2.2.1).bind fun bt366 => (spykeep2_MountValid.l0 k 0 l0 bt354.2.2.2.2.2.2.2.2.2.2 bt354.1 bt354.2.1 bt354.2.2.1 bt354.2.2.2.1 bt354.2.2.2.2.1 bt354.2.2.2.2.2.1 bt354.2.2.2.2.2.2.1 bt354.2.2.2.2.2.2.2.1 bt354.2.2.2.2.2.2.2.2.1 bt354.2.2.2.2.2.2.2.2.2.1 bt366.1 bt366.2.1 bt366.2.2.1 bt366.2.2.2.1 bt366.2.2.2.2.1 bt366.2.2.2.2.2.1 bt366.2.2.2.2.2.2.1 bt366.2.2.2.2.2.2.2.1 bt366.2.2.2.2.2.2.2.2))) else (some false)) = some r := H
  have A2 := Aside0.mk A20
  clear A20
  by_cases c3 : t352 = true
  · subst c3
    have H1 : ((spymake_Stream_Mount.f k l0 0).bind fun bt354 => ((mount_Rest.f bt354.1 bt354.2.1 bt354.2.2.1 bt354.2.2.2.1 bt354.2.2.2.2.1 bt354.2.2.2.2.2.1 bt354.2.2.2.2.2.2.1 bt354.2.2.2.2.2.2.2.1 bt354.2.2.2.2.2.2.2.2.1 bt354.2.2.2.2.2.2.2.2.2.1).bind fun bt366 => (spykeep2_MountValid.l0 k 0 l0 bt354.2.2.2.2.2.2.2.2.2.2 bt354.1 bt354.2.1 bt354.2.2.1 bt354.2.2.2.1 bt354.2.2.2.2.1 bt354.2.2.2.2.2.1 bt354.2.2.2.2.2.2.1 bt354.2.2.2.2.2.2.2.1 bt354.2.2.2.2.2.2.2.2.1 bt354.2.2.2.2.2.2.2.2.2.1 bt366.1 bt366.2.1 bt366.2.2.1 bt366.2.2.2.1 bt366.2.2.2.2.1 bt366.2.2.2.2.2.1 bt366.2.2.2.2.2.2.1 bt366.2.2.2.2.2.2.2.1 bt366.2.2.2.2.2.2.2.2))) = some r := by rw [if_pos rfl] at H; exact H
    clear H
    have H := H1
    clear H1
    replace H := Option.bind_eq_some_iff.mp H
    obtain ⟨⟨t354, t355, t356, t357, t358, t359, t360, t361, t362, t363, t364⟩, A40, H⟩ := H
    replace H : ((mount_Rest.f t354 t355 t356 t357 t358 t359 t360 t361 t362 t363).bind fun bt366 => (spykeep2_MountValid.l0 k 0 l0 t364 t354 t355 t356 t357 t358 t359 t360 t361 t362 t363 bt366.1 bt366.2.1 bt366.2.2.1 bt366.2.2.2.1 bt366.2.2.2.2.1 bt366.2.2.2.2.2.1 bt366.2.2.2.2.2.2.1 bt366.2.2.2.2.2.2.2.1 bt366.2.2.2.2.2.2.2.2)) = some r := H
    have A4 := Aside0.mk A40
    clear A40
    replace H := Option.bind_eq_some_iff.mp H
    obtain ⟨⟨t366, t367, t368, t369, t370, t371, t372, t373, t374⟩, A50, H⟩ := H
    replace H : (spykeep2_MountValid.l0 k 0 l0 t364 t354 t355 t356 t357 t358 t359 t360 t361 t362 t363 t366 t367 t368 t369 t370 t371 t372 t373 t374) = some r := H
    have A5 := Aside0.mk A50
    clear A50
    have H' := Aside0.mk H
    clear H
    go_enter Try.func3, Try.ntmps3
    go_wp2_with (first | ((with_reducible refine gate_callee (f := 10) rfl ?_); refine goesL_ (some 9) rfl rfl Try.func10 (by kernel_rfl) rfl #[] rfl (by (try simp only [List.map_toArray, List.map_cons, List.map_nil]); first | done | rfl | (simp only [List.length_drop, List.length_take]; rfl)) ?_; (with_reducible refine (spykeep2_drives.calls k  true _ A2.out).mono ?_); rintro e w6 ⟨rfl, hb⟩; refine ⟨_, rfl, ?_⟩; have n0_ := Aside0.mk (below_step (by exact HB.out) hb); clear HB; have HB := n0_; clear n0_; (try clear hb); (try clear hb2); (try clear hk); (try clear hi)) | ((with_reducible refine gate_dst (N := 13) rfl ?_); refine box_event ?hg (N := 13) ?hd (cs := #[.slice A0 l0.length c0, .int .i64 0]) (t := 26) ?hr ?_; (case hd => rfl); (case hg => rfl); (case hr => first | (go_simp; done) | (go_simp; rfl)); intro gb353 hg w7 hbox hb; have n0_ := Aside0.mk (below_step (by exact HB.out) hb); have n1_ := Aside0.mk ((by rw [hg]; exact (below_size (by exact HB.out)) : w.heap.size ≤ gb353)); have n2_ := Aside0.mk ((by rw [hg]; exact (below_size (by exact HB.out)) : w.heap.size ≤ gb353)); have n3_ := Aside0.mk ((show IsS26 w w7 gb353 l0 0 from ⟨_, _, hbox, (by rw [hg]; exact (below_size (by exact HB.out)) : w.heap.size ≤ gb353), HR0.out⟩)); clear HB; have HB := n0_; have GW353 := n1_; have GE353 := n2_; have HI353 := n3_; clear n0_ n1_ n2_ n3_; clear hb hbox hg) | ((with_reducible refine gate_callee (f := 11) rfl ?_); refine goesL_ (some 15) rfl rfl Try.func11 (by kernel_rfl) rfl #[.pointer (some ⟨gb353, 0, none⟩)] rfl (by (try simp only [List.map_toArray, List.map_cons, List.map_nil]); first | done | rfl | (simp only [List.length_drop, List.length_take]; rfl)) ?_; (with_reducible refine (spymake_Stream_Mount.calls k gb353 l0 0 t354 t355 t356 t357 t358 t359 t360 t361 t362 t363 t364 w _ ?side1 ?side2 A4.out).mono ?_); (case side1 => exact HI353.out); (case side2 => exact HB.out); rintro e w8 ⟨rfl, hi, hb, hk⟩; refine ⟨_, rfl, ?_⟩; have n0_ := Aside0.mk (hb); have n1_ := Aside0.mk (hi); clear HB; clear HI353; have HB := n0_; have HI353 := n1_; clear n0_ n1_; (try clear hb); (try clear hb2); (try clear hk); (try clear hi)) | ((with_reducible refine gate_dst (N := 4) rfl ?_); refine box_event ?hg (N := 4) ?hd (cs := #[.int .i64 0, .int .i64 0, .int .i64 0, .int .i64 0, .int .i64 0, .int .i64 0, .int .i64 0, .int .i64 0, .int .i64 0, .int .i64 0]) (t := 32) ?hr ?_; (case hd => rfl); (case hg => rfl); (case hr => first | (go_simp; done) | (go_simp; rfl)); intro gb365 hg w9 hbox hb; have n0_ := Aside0.mk (IsS26.below (by exact HI353.out) hb); have n1_ := Aside0.mk (below_step (by exact HB.out) hb); have n2_ := Aside0.mk (hbox); have n3_ := Aside0.mk ((by rw [hg]; exact (below_size (by exact HB.out)) : w.heap.size ≤ gb365)); have n4_ := Aside0.mk ((by rw [hg]; exact (below_size (by exact HB.out)) : w.heap.size ≤ gb365)); have n5_ := Aside0.mk ((by rw [hg]; exact Nat.ne_of_lt (IsS26.lt (show IsS26 w _ gb353 l0 t364 from by exact HI353.out)) : gb353 ≠ gb365)); have n6_ := Aside0.mk ((by rw [hg]; exact Nat.ne_of_gt (IsS26.lt (show IsS26 w _ gb353 l0 t364 from by exact HI353.out)) : gb365 ≠ gb353)); clear HI353; clear HB; have HI353 := n0_; have HB := n1_; have BK365 := n2_; have GW365 := n3_; have GE365 := n4_; have NB353_365 := n5_; have NB365_353 := n6_; clear n0_ n1_ n2_ n3_ n4_ n5_ n6_; clear hb hbox hg) | ((with_reducible refine gate_store (t := 32) (p := 4) rfl ?_); refine store_row (t := 32) (p := 4) (v := ?vo_w10) ?hgd ?ho ?hN gb365 0 #[.int .i64 0, .int .i64 0, .int .i64 0, .int .i64 0, .int .i64 0, .int .i64 0, .int .i64 0, .int .i64 0, .int .i64 0, .int .i64 0] [.int .i64 t354, .int .i64 t355, .int .i64 t356, .int .i64 t357, .int .i64 t358, .int .i64 t359, .int .i64 t360, .int .i64 t361, .int .i64 t362, .int .i64 t363] #[.int .i64 t354, .int .i64 t355, .int .i64 t356, .int .i64 t357, .int .i64 t358, .int .i64 t359, .int .i64 t360, .int .i64 t361, .int .i64 t362, .int .i64 t363] ?hx ?hy (by exact BK365.out) szi32 (Nat.le_of_ble_eq_true rfl) ?h1 ?hnew ?_; (case ho => rfl); (case hgd => rfl); (case hN => rfl); (case hx => rfl); (case hy => first | rfl | (go_simp; done) | (go_simp; rfl)); (case h1 => rfl); (case hnew => rfl); intro w10 hbox hg; have n0_ := Aside0.mk (IsS26.grown (by exact HI353.out) hg (fun e_ => NB353_365.out (Option.some.inj e_))); have n1_ := Aside0.mk (pw_below_grown (by exact HB.out) (some gb365) (below_size (by exact HB.out)) hg (fun k_ e_ => by cases e_; exact GE365.out)); have n2_ := Aside0.mk (hbox); clear HI353; clear HB; clear BK365; have HI353 := n0_; have HB := n1_; have BK365 := n2_; clear n0_ n1_ n2_; clear hbox hg; have hcz11_0 := tch10 BK365.out) | ((with_reducible refine gate_callee (f := 12) rfl ?_); refine goesL_ (some 17) rfl rfl Try.func12 (by kernel_rfl) rfl #[.agg #[.int .i64 t354, .int .i64 t355, .int .i64 t356, .int .i64 t357, .int .i64 t358, .int .i64 t359, .int .i64 t360, .int .i64 t361, .int .i64 t362, .int .i64 t363]] rfl (by (try simp only [List.map_toArray, List.map_cons, List.map_nil]); first | done | rfl | (simp only [List.length_drop, List.length_take]; rfl)) ?_; (with_reducible refine (mount_Rest.calls t354 t355 t356 t357 t358 t359 t360 t361 t362 t363 t366 t367 t368 t369 t370 t371 t372 t373 t374 _ A5.out).mono ?_); rintro e w12 ⟨rfl, hb⟩; refine ⟨_, rfl, ?_⟩; have n0_ := Aside0.mk (IsS26.below (by exact HI353.out) hb); have n1_ := Aside0.mk (blk_below BK365.out hb); have n2_ := Aside0.mk (below_step (by exact HB.out) hb); clear HI353; clear BK365; clear HB; have HI353 := n0_; have BK365 := n1_; have HB := n2_; clear n0_ n1_ n2_; (try clear hb); (try clear hb2); (try clear hk); (try clear hi)) | ((with_reducible refine gate_dst (N := 5) rfl ?_); refine box_event ?hg (N := 5) ?hd (cs := #[.int .i64 0, .int .i64 0, .int .i64 0, .bool false, .int .i64 0, .int .i64 0, .int .i64 0, .bool false, .int .i64 0]) (t := 37) ?hr ?_; (case hd => rfl); (case hg => rfl); (case hr => first | (go_simp; done) | (go_simp; rfl)); intro gb375 hg w13 hbox hb; have n0_ := Aside0.mk (IsS26.below (by exact HI353.out) hb); have n1_ := Aside0.mk (blk_below BK365.out hb); have n2_ := Aside0.mk (below_step (by exact HB.out) hb); have n3_ := Aside0.mk (hbox); have n4_ := Aside0.mk ((by rw [hg]; exact (below_size (by exact HB.out)) : w.heap.size ≤ gb375)); have n5_ := Aside0.mk ((by rw [hg]; exact (below_size (by exact HB.out)) : w.heap.size ≤ gb375)); have n6_ := Aside0.mk ((by rw [hg]; exact Nat.ne_of_lt (blk_lt BK365.out) : gb365 ≠ gb375)); have n7_ := Aside0.mk ((by rw [hg]; exact Nat.ne_of_lt (IsS26.lt (show IsS26 w _ gb353 l0 t364 from by exact HI353.out)) : gb353 ≠ gb375)); have n8_ := Aside0.mk ((by rw [hg]; exact Nat.ne_of_gt (IsS26.lt (show IsS26 w _ gb353 l0 t364 from by exact HI353.out)) : gb375 ≠ gb353)); clear HI353; clear BK365; clear HB; have HI353 := n0_; have BK365 := n1_; have HB := n2_; have BK375 := n3_; have GW375 := n4_; have GE375 := n5_; have NB365_375 := n6_; have NB353_375 := n7_; have NB375_353 := n8_; clear n0_ n1_ n2_ n3_ n4_ n5_ n6_ n7_ n8_; clear hb hbox hg) | ((with_reducible refine gate_store (t := 37) (p := 5) rfl ?_); refine store_row (t := 37) (p := 5) (v := ?vo_w14) ?hgd ?ho ?hN gb375 0 #[.int .i64 0, .int .i64 0, .int .i64 0, .bool false, .int .i64 0, .int .i64 0, .int .i64 0, .bool false, .int .i64 0] [.int .i64 t366, .int .i64 t367, .int .i64 t368, .bool t369, .int .i64 t370, .int .i64 t371, .int .i64 t372, .bool t373, .int .i64 t374] #[.int .i64 t366, .int .i64 t367, .int .i64 t368, .bool t369, .int .i64 t370, .int .i64 t371, .int .i64 t372, .bool t373, .int .i64 t374] ?hx ?hy (by exact BK375.out) szi37 (Nat.le_of_ble_eq_true rfl) ?h1 ?hnew ?_; (case ho => rfl); (case hgd => rfl); (case hN => rfl); (case hx => rfl); (case hy => first | rfl | (go_simp; done) | (go_simp; rfl)); (case h1 => rfl); (case hnew => rfl); intro w14 hbox hg; have n0_ := Aside0.mk (blk_grown BK365.out hg (fun e_ => NB365_375.out (Option.some.inj e_))); have n1_ := Aside0.mk (IsS26.grown (by exact HI353.out) hg (fun e_ => NB353_375.out (Option.some.inj e_))); have n2_ := Aside0.mk (pw_below_grown (by exact HB.out) (some gb375) (below_size (by exact HB.out)) hg (fun k_ e_ => by cases e_; exact GE375.out)); have n3_ := Aside0.mk (hbox); clear BK365; clear HI353; clear HB; clear BK375; have BK365 := n0_; have HI353 := n1_; have HB := n2_; have BK375 := n3_; clear n0_ n1_ n2_ n3_; clear hbox hg))
    go_loopg [18] k (fun kq v18 w' => ∃ (x18_1 : Int) (x354001_1 : Int) (x376000_1 : Int) (x376001_1 : Int) (x376002_1 : Int) (x376003_1 : Bool) (x376004_1 : Int) (x376005_1 : Int) (x376006_1 : Int) (x376007_1 : Bool) (x376008_1 : Int), v18 = .int .i64 x18_1 ∧ Aside0 (spykeep2_MountValid.l0 kq x18_1 l0 x354001_1 t354 t355 t356 t357 t358 t359 t360 t361 t362 t363 x376000_1 x376001_1 x376002_1 x376003_1 x376004_1 x376005_1 x376006_1 x376007_1 x376008_1 = some r) ∧ Aside0 (kq ≤ k) ∧ Aside0 (w'.heap[gb365]? = some (.cells #[.int .i64 t354, .int .i64 t355, .int .i64 t356, .int .i64 t357, .int .i64 t358, .int .i64 t359, .int .i64 t360, .int .i64 t361, .int .i64 t362, .int .i64 t363] 32 (0, 0))) ∧ Aside0 (w'.heap[gb375]? = some (.cells #[.int .i64 x376000_1, .int .i64 x376001_1, .int .i64 x376002_1, .bool x376003_1, .int .i64 x376004_1, .int .i64 x376005_1, .int .i64 x376006_1, .bool x376007_1, .int .i64 x376008_1] 37 (0, 0))) ∧ Aside0 (IsS26 w w' gb353 l0 x354001_1) ∧ Aside0 (Below w.heap.size w w'))
    case atStart => exact ⟨(0), (t364), (t366), (t367), (t368), (t369), (t370), (t371), (t372), (t373), (t374), (by first | rfl | (simp; done) | (simp [*]; done)), H', ⟨Nat.le_refl _⟩, ⟨by exact BK365.out⟩, ⟨by exact BK375.out⟩, ⟨by exact HI353.out⟩, ⟨by exact HB.out⟩⟩
    case round =>
      clear H'
      try clear c1
      try clear p2
      try clear c3
      try clear c10
      try clear c11
      try clear c12
      try clear hcz11_0
      obtain ⟨x18_1, x354001_1, x376000_1, x376001_1, x376002_1, x376003_1, x376004_1, x376005_1, x376006_1, x376007_1, x376008_1, rfl, HA, HK1, BK365, BK375, HI353, HB⟩ := hrel
      cases gk with
      | zero => exact absurd HA.out (by simp [spykeep2_MountValid.l0])
      | succ k1 =>
        have H := HA.out
        clear HA
        simp only [spykeep2_MountValid.l0] at H
        by_cases c15 : x18_1 < 50
        · rw [if_pos c15] at H
          have c15b0 : decide (x18_1 < 50) = true := decide_eq_true c15
          clear c15
          replace H := Option.bind_eq_some_iff.mp H
          obtain ⟨⟨t376, t377⟩, A160, H⟩ := H
          replace H : ((spymake_Stream_Inside.f l0 t377 t358 t359 t360 t361).bind fun bt378 => ((spymake_Stream_Next.f l0 bt378.2 10).bind fun bt382 => (if bt382.1 = 0 then (spykeep2_MountValid.j1 k1 0 x18_1 bt382.1 (bt382.1 == 0) l0 bt382.2 t354 t355 t356 t357 t358 t359 t360 t361 t362 t363 x376000_1 x376001_1 x376002_1 x376003_1 x376004_1 x376005_1 x376006_1 x376007_1 x376008_1 t376 bt378.1 x376000_1 x376001_1 x376002_1 x376003_1 x376004_1 x376005_1 x376006_1 x376007_1 x376008_1) else (spykeep2_MountValid.j1 k1 0 x18_1 bt382.1 (bt382.1 == 1) l0 bt382.2 t354 t355 t356 t357 t358 t359 t360 t361 t362 t363 x376000_1 x376001_1 x376002_1 x376003_1 x376004_1 x376005_1 x376006_1 x376007_1 x376008_1 t376 bt378.1 x376000_1 x376001_1 x376002_1 x376003_1 x376004_1 x376005_1 x376006_1 x376007_1 x376008_1)))) = some r := H
          have A16 := Aside0.mk A160
          clear A160
          replace H := Option.bind_eq_some_iff.mp H
          obtain ⟨⟨t378, t379⟩, A170, H⟩ := H
          replace H : ((spymake_Stream_Next.f l0 t379 10).bind fun bt382 => (if bt382.1 = 0 then (spykeep2_MountValid.j1 k1 0 x18_1 bt382.1 (bt382.1 == 0) l0 bt382.2 t354 t355 t356 t357 t358 t359 t360 t361 t362 t363 x376000_1 x376001_1 x376002_1 x376003_1 x376004_1 x376005_1 x376006_1 x376007_1 x376008_1 t376 t378 x376000_1 x376001_1 x376002_1 x376003_1 x376004_1 x376005_1 x376006_1 x376007_1 x376008_1) else (spykeep2_MountValid.j1 k1 0 x18_1 bt382.1 (bt382.1 == 1) l0 bt382.2 t354 t355 t356 t357 t358 t359 t360 t361 t362 t363 x376000_1 x376001_1 x376002_1 x376003_1 x376004_1 x376005_1 x376006_1 x376007_1 x376008_1 t376 t378 x376000_1 x376001_1 x376002_1 x376003_1 x376004_1 x376005_1 x376006_1 x376007_1 x376008_1))) = some r := H
          have A17 := Aside0.mk A170
          clear A170
          replace H := Option.bind_eq_some_iff.mp H
          obtain ⟨⟨t382, t383⟩, A180, H⟩ := H
          replace H : (if t382 = 0 then (spykeep2_MountValid.j1 k1 0 x18_1 t382 (t382 == 0) l0 t383 t354 t355 t356 t357 t358 t359 t360 t361 t362 t363 x376000_1 x376001_1 x376002_1 x376003_1 x376004_1 x376005_1 x376006_1 x376007_1 x376008_1 t376 t378 x376000_1 x376001_1 x376002_1 x376003_1 x376004_1 x376005_1 x376006_1 x376007_1 x376008_1) else (spykeep2_MountValid.j1 k1 0 x18_1 t382 (t382 == 1) l0 t383 t354 t355 t356 t357 t358 t359 t360 t361 t362 t363 x376000_1 x376001_1 x376002_1 x376003_1 x376004_1 x376005_1 x376006_1 x376007_1 x376008_1 t376 t378 x376000_1 x376001_1 x376002_1 x376003_1 x376004_1 x376005_1 x376006_1 x376007_1 x376008_1)) = some r := H
          have A18 := Aside0.mk A180
          clear A180
          have HC19 := Aside0.mk H
          clear H
          try go_wp2
          have n0_ := Aside0.mk (blk_drew BK365.out)
          have n1_ := Aside0.mk (blk_drew BK375.out)
          have n2_ := Aside0.mk (IsS26.drew HI353.out)
          have n3_ := Aside0.mk (below_drew1 HB.out)
          clear BK365
          clear BK375
          clear HI353
          clear HB
          have BK365 := n0_
          have BK375 := n1_
          have HI353 := n2_
          have HB := n3_
          clear n0_ n1_ n2_ n3_
          refine start_ (n := 11) (S := fun w' => w'.cell? ⟨gb365, 0, none⟩ = some (.int .i64 t354) ∧ w'.cell? ⟨gb365, 1, none⟩ = some (.int .i64 t355) ∧ w'.cell? ⟨gb365, 2, none⟩ = some (.int .i64 t356) ∧ w'.cell? ⟨gb365, 3, none⟩ = some (.int .i64 t357) ∧ w'.cell? ⟨gb365, 4, none⟩ = some (.int .i64 t358) ∧ w'.cell? ⟨gb365, 5, none⟩ = some (.int .i64 t359) ∧ w'.cell? ⟨gb365, 6, none⟩ = some (.int .i64 t360) ∧ w'.cell? ⟨gb365, 7, none⟩ = some (.int .i64 t361) ∧ w'.cell? ⟨gb365, 8, none⟩ = some (.int .i64 t362) ∧ w'.cell? ⟨gb365, 9, none⟩ = some (.int .i64 t363)) (ds := []) #[false, false, false, false, false, false, false, false, false, false, false] (by kernel_rfl) rfl rfl ⟨(blk_cell BK365.out 0).trans rfl, (blk_cell BK365.out 1).trans rfl, (blk_cell BK365.out 2).trans rfl, (blk_cell BK365.out 3).trans rfl, (blk_cell BK365.out 4).trans rfl, (blk_cell BK365.out 5).trans rfl, (blk_cell BK365.out 6).trans rfl, (blk_cell BK365.out 7).trans rfl, (blk_cell BK365.out 8).trans rfl, (blk_cell BK365.out 9).trans rfl⟩ (fun hHeld => ?_); refine with_tabW spykeep2_MountValid.tab8 spykeep2_MountValid.bits8 (fun HT_ HW_ => ?_)
          generalize wr.drew = w20 at BK365 BK375 HI353 HB hHeld ⊢
          refine pure_ (i := 0) (N := some 20) (v := ?_) (a' := ?_) #[true, false, false, false, false, false, false, false, false, false, false] rfl rfl (any_of HT_.out (by kernel_rfl)) (fun _ _ _ h => h) (Or.inl ⟨by rfl, ?_⟩) ?_ ?_
          rotate_left
          · intro w'
            go_simp
            with_reducible rfl
          rotate_left
          · simp only [Act.put, List.setIfInBounds_toArray, List.set_cons_zero, List.set_cons_succ, i64_w, i32_w]
            rfl
          refine pure_ (i := 1) (N := some 21) (v := ?_) (a' := ?_) #[true, true, false, false, false, false, false, false, false, false, false] rfl rfl (any_of HT_.out (by kernel_rfl)) (fun _ _ _ h => h) (Or.inl ⟨by rfl, ?_⟩) ?_ ?_
          rotate_left
          · intro w'
            go_simp
            with_reducible rfl
          rotate_left
          · simp only [Act.put, List.setIfInBounds_toArray, List.set_cons_zero, List.set_cons_succ, i64_w, i32_w]
            rfl
          refine pure_ (i := 4) (N := some 24) (v := ?_) (a' := ?_) #[true, true, false, false, true, false, false, false, false, false, false] rfl rfl (any_of HT_.out (by kernel_rfl)) (fun _ _ _ h => h) (Or.inl ⟨by rfl, ?_⟩) ?_ ?_
          rotate_left
          · intro w'
            go_simp
            with_reducible rfl
          rotate_left
          · simp only [Act.put, List.setIfInBounds_toArray, List.set_cons_zero, List.set_cons_succ, i64_w, i32_w]
            rfl
          refine pure_ (i := 5) (N := some 25) (v := ?_) (a' := ?_) #[true, true, false, false, true, true, false, false, false, false, false] rfl rfl (any_of HT_.out (by kernel_rfl)) (fun _ _ _ h => h) (Or.inl ⟨by rfl, ?_⟩) ?_ ?_
          rotate_left
          · intro w'
            go_simp
            with_reducible rfl
          rotate_left
          · simp only [Act.put, List.setIfInBounds_toArray, List.set_cons_zero, List.set_cons_succ, i64_w, i32_w]
            rfl
          refine take_ (i := 2) (N := some 22) (v := ?_) (a' := ?_) #[true, true, true, false, true, true, false, false, false, false, false] rfl rfl (take_ofW HT_.out HW_.out (by kernel_rfl)) (fun _ _ _ h => h) (Or.inl ⟨by rfl, ?_⟩) hHeld ?_ ?_
          rotate_left
          · rintro w' ⟨s0, s1, s2, s3, s4, s5, s6, s7, s8, s9⟩
            go_simp
            with_reducible rfl
          rotate_left
          · simp only [Act.put, List.setIfInBounds_toArray, List.set_cons_zero, List.set_cons_succ, i64_w, i32_w]
            rfl
          refine take_ (i := 6) (N := some 26) (v := ?_) (a' := ?_) #[true, true, true, false, true, true, true, false, false, false, false] rfl rfl (take_ofW HT_.out HW_.out (by kernel_rfl)) (fun _ _ _ h => h) (Or.inl ⟨by rfl, ?_⟩) hHeld ?_ ?_
          rotate_left
          · rintro w' ⟨s0, s1, s2, s3, s4, s5, s6, s7, s8, s9⟩
            go_simp
            with_reducible rfl
          rotate_left
          · simp only [Act.put, List.setIfInBounds_toArray, List.set_cons_zero, List.set_cons_succ, i64_w, i32_w]
            rfl
          refine join_ (σ := Nat) 1 #[true, true, true, true, true, true, true, true, true, true, false] (fun s_ => [(23, .int .i64 t376), (27, .int .i64 t378), (6, .pointer (some ⟨s_, 0, none⟩)), (28, .agg #[.int .i64 t376, .int .i64 t378])]) (fun s_ w' => (w'.cell? ⟨gb365, 0, none⟩ = some (.int .i64 t354) ∧ w'.cell? ⟨gb365, 1, none⟩ = some (.int .i64 t355) ∧ w'.cell? ⟨gb365, 2, none⟩ = some (.int .i64 t356) ∧ w'.cell? ⟨gb365, 3, none⟩ = some (.int .i64 t357) ∧ w'.cell? ⟨gb365, 4, none⟩ = some (.int .i64 t358) ∧ w'.cell? ⟨gb365, 5, none⟩ = some (.int .i64 t359) ∧ w'.cell? ⟨gb365, 6, none⟩ = some (.int .i64 t360) ∧ w'.cell? ⟨gb365, 7, none⟩ = some (.int .i64 t361) ∧ w'.cell? ⟨gb365, 8, none⟩ = some (.int .i64 t362) ∧ w'.cell? ⟨gb365, 9, none⟩ = some (.int .i64 t363)) ∧ (w'.heap[gb365]? = some (.cells #[.int .i64 t354, .int .i64 t355, .int .i64 t356, .int .i64 t357, .int .i64 t358, .int .i64 t359, .int .i64 t360, .int .i64 t361, .int .i64 t362, .int .i64 t363] 32 (0, 0))) ∧ (w'.heap[gb375]? = some (.cells #[.int .i64 x376000_1, .int .i64 x376001_1, .int .i64 x376002_1, .bool x376003_1, .int .i64 x376004_1, .int .i64 x376005_1, .int .i64 x376006_1, .bool x376007_1, .int .i64 x376008_1] 37 (0, 0))) ∧ (w'.heap[s_]? = some (.cells #[.int .i64 0, .int .i64 0] 30 (0, 0))) ∧ (w.heap.size ≤ s_) ∧ (w.heap.size ≤ s_) ∧ (gb353 ≠ s_) ∧ (s_ ≠ gb353) ∧ (gb365 ≠ s_) ∧ (s_ ≠ gb365) ∧ (gb375 ≠ s_) ∧ (s_ ≠ gb375) ∧ (IsS26 w w' gb353 l0 t379) ∧ (Below w.heap.size w w')) ?_ ?_
          rotate_left
          · intro hCont
            refine two_ (i := 3) (j := 9) (Ni := some 23) (Nj := some 6) #[true, true, true, true, true, true, true, false, false, false, false] #[true, true, true, false, true, true, true, false, false, true, false] rfl rfl rfl rfl (two_of HT_.out (by kernel_rfl)) (by decide) (by decide) (fun K hK => ?_) (fun K hK => ?_)
            · skip
              refine goes_ Try.func13 (by kernel_rfl) rfl #[.pointer (some ⟨gb353, 0, none⟩), .agg #[.int .i64 t354, .int .i64 t355, .int .i64 t356, .int .i64 t357]] (by rfl) rfl rfl (by (try simp only [List.map_toArray, List.map_cons, List.map_nil]); first | done | rfl | (simp only [List.length_drop, List.length_take]; rfl)) ?_
              with_reducible refine (spymake_Stream_Inside.calls gb353 l0 x354001_1 t354 t355 t356 t357 t376 t377 w _ ?side1 ?side2 A16.out).mono ?_
              (case side1 => exact HI353.out)
              (case side2 => exact HB.out)
              rintro e w21 ⟨rfl, hi, hb, hk⟩
              refine ⟨_, rfl, ?_⟩
              have n0_ := Aside0.mk (KeepBut.blk hk BK365.out NB365_353.out (by simp))
              have n1_ := Aside0.mk (KeepBut.blk hk BK375.out NB375_353.out (by simp))
              have n2_ := Aside0.mk (hb)
              have n3_ := Aside0.mk (hi)
              clear BK365
              clear BK375
              clear HB
              clear HI353
              have BK365 := n0_
              have BK375 := n1_
              have HB := n2_
              have HI353 := n3_
              clear n0_ n1_ n2_ n3_
              (try clear hb)
              (try clear hb2)
              (try clear hk)
              (try clear hi)
              refine hK.out _ _ ⟨(blk_cell BK365.out 0).trans rfl, (blk_cell BK365.out 1).trans rfl, (blk_cell BK365.out 2).trans rfl, (blk_cell BK365.out 3).trans rfl, (blk_cell BK365.out 4).trans rfl, (blk_cell BK365.out 5).trans rfl, (blk_cell BK365.out 6).trans rfl, (blk_cell BK365.out 7).trans rfl, (blk_cell BK365.out 8).trans rfl, (blk_cell BK365.out 9).trans rfl⟩ (fun hHeld => ?_)
              clear hK K
              refine norm_ (a' := ?_) ?_ ?_
              rotate_left
              · show Act.put _ (some 23) _ = _
                simp only [Act.put, List.setIfInBounds_toArray, List.set_cons_zero, List.set_cons_succ, i64_w, i32_w]
                rfl
              refine two_ (i := 7) (j := 9) (Ni := some 27) (Nj := some 6) #[true, true, true, true, true, true, true, true, false, false, false] #[true, true, true, true, true, true, true, false, false, true, false] rfl rfl rfl rfl (two_of HT_.out (by kernel_rfl)) (by decide) (by decide) (fun K hK => ?_) (fun K hK => ?_)
              · skip
                refine goes_ Try.func13 (by kernel_rfl) rfl #[.pointer (some ⟨gb353, 0, none⟩), .agg #[.int .i64 t358, .int .i64 t359, .int .i64 t360, .int .i64 t361]] (by rfl) rfl rfl (by (try simp only [List.map_toArray, List.map_cons, List.map_nil]); first | done | rfl | (simp only [List.length_drop, List.length_take]; rfl)) ?_
                with_reducible refine (spymake_Stream_Inside.calls gb353 l0 t377 t358 t359 t360 t361 t378 t379 w _ ?side1 ?side2 A17.out).mono ?_
                (case side1 => exact HI353.out)
                (case side2 => exact HB.out)
                rintro e w22 ⟨rfl, hi, hb, hk⟩
                refine ⟨_, rfl, ?_⟩
                have n0_ := Aside0.mk (KeepBut.blk hk BK365.out NB365_353.out (by simp))
                have n1_ := Aside0.mk (KeepBut.blk hk BK375.out NB375_353.out (by simp))
                have n2_ := Aside0.mk (hb)
                have n3_ := Aside0.mk (hi)
                clear BK365
                clear BK375
                clear HB
                clear HI353
                have BK365 := n0_
                have BK375 := n1_
                have HB := n2_
                have HI353 := n3_
                clear n0_ n1_ n2_ n3_
                (try clear hb)
                (try clear hb2)
                (try clear hk)
                (try clear hi)
                refine hK.out _ _ ⟨(blk_cell BK365.out 0).trans rfl, (blk_cell BK365.out 1).trans rfl, (blk_cell BK365.out 2).trans rfl, (blk_cell BK365.out 3).trans rfl, (blk_cell BK365.out 4).trans rfl, (blk_cell BK365.out 5).trans rfl, (blk_cell BK365.out 6).trans rfl, (blk_cell BK365.out 7).trans rfl, (blk_cell BK365.out 8).trans rfl, (blk_cell BK365.out 9).trans rfl⟩ (fun hHeld => ?_)
                clear hK K
                refine norm_ (a' := ?_) ?_ ?_
                rotate_left
                · show Act.put _ (some 27) _ = _
                  simp only [Act.put, List.setIfInBounds_toArray, List.set_cons_zero, List.set_cons_succ, i64_w, i32_w]
                  rfl
                refine pure_ (i := 8) (N := some 28) (v := ?_) (a' := ?_) #[true, true, true, true, true, true, true, true, true, false, false] rfl rfl (any_of HT_.out (by kernel_rfl)) (fun _ _ _ h => h) (Or.inl ⟨by rfl, ?_⟩) ?_ ?_
                rotate_left
                · intro w'
                  go_simp
                  with_reducible rfl
                rotate_left
                · simp only [Act.put, List.setIfInBounds_toArray, List.set_cons_zero, List.set_cons_succ, i64_w, i32_w]
                  rfl
                refine one_ (i := 9) (N := some 6) #[true, true, true, true, true, true, true, true, true, true, false] rfl rfl (one_of HT_.out (by kernel_rfl)) (by decide) (fun K hK => ?_)
                refine box_step ?hg (N := 6) ?hd (cs := #[.int .i64 0, .int .i64 0]) (t := 30) ?hr ?_; (case hd => rfl); (case hg => rfl); (case hr => first | (go_simp; done) | (go_simp; rfl))
                intro gb380 hg w23 hbox hb
                have n0_ := Aside0.mk (blk_below BK365.out hb)
                have n1_ := Aside0.mk (blk_below BK375.out hb)
                have n2_ := Aside0.mk (IsS26.below (by exact HI353.out) hb)
                have n3_ := Aside0.mk (below_step (by exact HB.out) hb)
                have n4_ := Aside0.mk (hbox)
                have n5_ := Aside0.mk ((by rw [hg]; exact (below_size (by exact HB.out)) : w.heap.size ≤ gb380))
                have n6_ := Aside0.mk ((by rw [hg]; exact (below_size (by exact HB.out)) : w.heap.size ≤ gb380))
                have n7_ := Aside0.mk ((by rw [hg]; exact Nat.ne_of_lt (blk_lt BK365.out) : gb365 ≠ gb380))
                have n8_ := Aside0.mk ((by rw [hg]; exact Nat.ne_of_gt (blk_lt BK365.out) : gb380 ≠ gb365))
                have n9_ := Aside0.mk ((by rw [hg]; exact Nat.ne_of_lt (blk_lt BK375.out) : gb375 ≠ gb380))
                have n10_ := Aside0.mk ((by rw [hg]; exact Nat.ne_of_gt (blk_lt BK375.out) : gb380 ≠ gb375))
                have n11_ := Aside0.mk ((by rw [hg]; exact Nat.ne_of_lt (IsS26.lt (show IsS26 w _ gb353 l0 t379 from by exact HI353.out)) : gb353 ≠ gb380))
                have n12_ := Aside0.mk ((by rw [hg]; exact Nat.ne_of_gt (IsS26.lt (show IsS26 w _ gb353 l0 t379 from by exact HI353.out)) : gb380 ≠ gb353))
                clear BK365
                clear BK375
                clear HI353
                clear HB
                have BK365 := n0_
                have BK375 := n1_
                have HI353 := n2_
                have HB := n3_
                have BK380 := n4_
                have GW380 := n5_
                have GE380 := n6_
                have NB365_380 := n7_
                have NB380_365 := n8_
                have NB375_380 := n9_
                have NB380_375 := n10_
                have NB353_380 := n11_
                have NB380_353 := n12_
                clear n0_ n1_ n2_ n3_ n4_ n5_ n6_ n7_ n8_ n9_ n10_ n11_ n12_
                clear hb hbox hg
                refine hK.out _ _ ⟨(blk_cell BK365.out 0).trans rfl, (blk_cell BK365.out 1).trans rfl, (blk_cell BK365.out 2).trans rfl, (blk_cell BK365.out 3).trans rfl, (blk_cell BK365.out 4).trans rfl, (blk_cell BK365.out 5).trans rfl, (blk_cell BK365.out 6).trans rfl, (blk_cell BK365.out 7).trans rfl, (blk_cell BK365.out 8).trans rfl, (blk_cell BK365.out 9).trans rfl⟩ (fun hHeld => ?_)
                clear hK K
                refine norm_ (a' := ?_) ?_ ?_
                rotate_left
                · show Act.put _ (some 6) _ = _
                  simp only [Act.put, List.setIfInBounds_toArray, List.set_cons_zero, List.set_cons_succ, i64_w, i32_w]
                  rfl
                exact norm_ (by simp only [putAll, Act.put, List.setIfInBounds_toArray, List.set_cons_zero, List.set_cons_succ]) (hCont (gb380) _ ⟨hHeld, (by exact BK365.out), (by exact BK375.out), (by exact BK380.out), GW380.out, GE380.out, NB353_380.out, NB380_353.out, NB365_380.out, NB380_365.out, NB375_380.out, NB380_375.out, (by exact HI353.out), (by exact HB.out)⟩)
              · skip
                refine box_step ?hg (N := 6) ?hd (cs := #[.int .i64 0, .int .i64 0]) (t := 30) ?hr ?_; (case hd => rfl); (case hg => rfl); (case hr => first | (go_simp; done) | (go_simp; rfl))
                intro gb380 hg w22 hbox hb
                have n0_ := Aside0.mk (blk_below BK365.out hb)
                have n1_ := Aside0.mk (blk_below BK375.out hb)
                have n2_ := Aside0.mk (IsS26.below (by exact HI353.out) hb)
                have n3_ := Aside0.mk (below_step (by exact HB.out) hb)
                have n4_ := Aside0.mk (hbox)
                have n5_ := Aside0.mk ((by rw [hg]; exact (below_size (by exact HB.out)) : w.heap.size ≤ gb380))
                have n6_ := Aside0.mk ((by rw [hg]; exact (below_size (by exact HB.out)) : w.heap.size ≤ gb380))
                have n7_ := Aside0.mk ((by rw [hg]; exact Nat.ne_of_lt (blk_lt BK365.out) : gb365 ≠ gb380))
                have n8_ := Aside0.mk ((by rw [hg]; exact Nat.ne_of_gt (blk_lt BK365.out) : gb380 ≠ gb365))
                have n9_ := Aside0.mk ((by rw [hg]; exact Nat.ne_of_lt (blk_lt BK375.out) : gb375 ≠ gb380))
                have n10_ := Aside0.mk ((by rw [hg]; exact Nat.ne_of_gt (blk_lt BK375.out) : gb380 ≠ gb375))
                have n11_ := Aside0.mk ((by rw [hg]; exact Nat.ne_of_lt (IsS26.lt (show IsS26 w _ gb353 l0 t377 from by exact HI353.out)) : gb353 ≠ gb380))
                have n12_ := Aside0.mk ((by rw [hg]; exact Nat.ne_of_gt (IsS26.lt (show IsS26 w _ gb353 l0 t377 from by exact HI353.out)) : gb380 ≠ gb353))
                clear BK365
                clear BK375
                clear HI353
                clear HB
                have BK365 := n0_
                have BK375 := n1_
                have HI353 := n2_
                have HB := n3_
                have BK380 := n4_
                have GW380 := n5_
                have GE380 := n6_
                have NB365_380 := n7_
                have NB380_365 := n8_
                have NB375_380 := n9_
                have NB380_375 := n10_
                have NB353_380 := n11_
                have NB380_353 := n12_
                clear n0_ n1_ n2_ n3_ n4_ n5_ n6_ n7_ n8_ n9_ n10_ n11_ n12_
                clear hb hbox hg
                refine hK.out _ _ ⟨(blk_cell BK365.out 0).trans rfl, (blk_cell BK365.out 1).trans rfl, (blk_cell BK365.out 2).trans rfl, (blk_cell BK365.out 3).trans rfl, (blk_cell BK365.out 4).trans rfl, (blk_cell BK365.out 5).trans rfl, (blk_cell BK365.out 6).trans rfl, (blk_cell BK365.out 7).trans rfl, (blk_cell BK365.out 8).trans rfl, (blk_cell BK365.out 9).trans rfl⟩ (fun hHeld => ?_)
                clear hK K
                refine norm_ (a' := ?_) ?_ ?_
                rotate_left
                · show Act.put _ (some 6) _ = _
                  simp only [Act.put, List.setIfInBounds_toArray, List.set_cons_zero, List.set_cons_succ, i64_w, i32_w]
                  rfl
                refine one_ (i := 7) (N := some 27) #[true, true, true, true, true, true, true, true, false, true, false] rfl rfl (one_of HT_.out (by kernel_rfl)) (by decide) (fun K hK => ?_)
                refine goes_ Try.func13 (by kernel_rfl) rfl #[.pointer (some ⟨gb353, 0, none⟩), .agg #[.int .i64 t358, .int .i64 t359, .int .i64 t360, .int .i64 t361]] (by rfl) rfl rfl (by (try simp only [List.map_toArray, List.map_cons, List.map_nil]); first | done | rfl | (simp only [List.length_drop, List.length_take]; rfl)) ?_
                with_reducible refine (spymake_Stream_Inside.calls gb353 l0 t377 t358 t359 t360 t361 t378 t379 w _ ?side1 ?side2 A17.out).mono ?_
                (case side1 => exact HI353.out)
                (case side2 => exact HB.out)
                rintro e w23 ⟨rfl, hi, hb, hk⟩
                refine ⟨_, rfl, ?_⟩
                have n0_ := Aside0.mk (KeepBut.blk hk BK365.out NB365_353.out (by simp))
                have n1_ := Aside0.mk (KeepBut.blk hk BK375.out NB375_353.out (by simp))
                have n2_ := Aside0.mk (KeepBut.blk hk BK380.out NB380_353.out (by simp))
                have n3_ := Aside0.mk (hb)
                have n4_ := Aside0.mk (hi)
                clear BK365
                clear BK375
                clear BK380
                clear HB
                clear HI353
                have BK365 := n0_
                have BK375 := n1_
                have BK380 := n2_
                have HB := n3_
                have HI353 := n4_
                clear n0_ n1_ n2_ n3_ n4_
                (try clear hb)
                (try clear hb2)
                (try clear hk)
                (try clear hi)
                refine hK.out _ _ ⟨(blk_cell BK365.out 0).trans rfl, (blk_cell BK365.out 1).trans rfl, (blk_cell BK365.out 2).trans rfl, (blk_cell BK365.out 3).trans rfl, (blk_cell BK365.out 4).trans rfl, (blk_cell BK365.out 5).trans rfl, (blk_cell BK365.out 6).trans rfl, (blk_cell BK365.out 7).trans rfl, (blk_cell BK365.out 8).trans rfl, (blk_cell BK365.out 9).trans rfl⟩ (fun hHeld => ?_)
                clear hK K
                refine norm_ (a' := ?_) ?_ ?_
                rotate_left
                · show Act.put _ (some 27) _ = _
                  simp only [Act.put, List.setIfInBounds_toArray, List.set_cons_zero, List.set_cons_succ, i64_w, i32_w]
                  rfl
                refine pure_ (i := 8) (N := some 28) (v := ?_) (a' := ?_) #[true, true, true, true, true, true, true, true, true, true, false] rfl rfl (any_of HT_.out (by kernel_rfl)) (fun _ _ _ h => h) (Or.inl ⟨by rfl, ?_⟩) ?_ ?_
                rotate_left
                · intro w'
                  go_simp
                  with_reducible rfl
                rotate_left
                · simp only [Act.put, List.setIfInBounds_toArray, List.set_cons_zero, List.set_cons_succ, i64_w, i32_w]
                  rfl
                exact norm_ (by simp only [putAll, Act.put, List.setIfInBounds_toArray, List.set_cons_zero, List.set_cons_succ]) (hCont (gb380) _ ⟨hHeld, (by exact BK365.out), (by exact BK375.out), (by exact BK380.out), GW380.out, GE380.out, NB353_380.out, NB380_353.out, NB365_380.out, NB380_365.out, NB375_380.out, NB380_375.out, (by exact HI353.out), (by exact HB.out)⟩)
            · skip
              refine box_step ?hg (N := 6) ?hd (cs := #[.int .i64 0, .int .i64 0]) (t := 30) ?hr ?_; (case hd => rfl); (case hg => rfl); (case hr => first | (go_simp; done) | (go_simp; rfl))
              intro gb380 hg w21 hbox hb
              have n0_ := Aside0.mk (blk_below BK365.out hb)
              have n1_ := Aside0.mk (blk_below BK375.out hb)
              have n2_ := Aside0.mk (IsS26.below (by exact HI353.out) hb)
              have n3_ := Aside0.mk (below_step (by exact HB.out) hb)
              have n4_ := Aside0.mk (hbox)
              have n5_ := Aside0.mk ((by rw [hg]; exact (below_size (by exact HB.out)) : w.heap.size ≤ gb380))
              have n6_ := Aside0.mk ((by rw [hg]; exact (below_size (by exact HB.out)) : w.heap.size ≤ gb380))
              have n7_ := Aside0.mk ((by rw [hg]; exact Nat.ne_of_lt (blk_lt BK365.out) : gb365 ≠ gb380))
              have n8_ := Aside0.mk ((by rw [hg]; exact Nat.ne_of_gt (blk_lt BK365.out) : gb380 ≠ gb365))
              have n9_ := Aside0.mk ((by rw [hg]; exact Nat.ne_of_lt (blk_lt BK375.out) : gb375 ≠ gb380))
              have n10_ := Aside0.mk ((by rw [hg]; exact Nat.ne_of_gt (blk_lt BK375.out) : gb380 ≠ gb375))
              have n11_ := Aside0.mk ((by rw [hg]; exact Nat.ne_of_lt (IsS26.lt (show IsS26 w _ gb353 l0 x354001_1 from by exact HI353.out)) : gb353 ≠ gb380))
              have n12_ := Aside0.mk ((by rw [hg]; exact Nat.ne_of_gt (IsS26.lt (show IsS26 w _ gb353 l0 x354001_1 from by exact HI353.out)) : gb380 ≠ gb353))
              clear BK365
              clear BK375
              clear HI353
              clear HB
              have BK365 := n0_
              have BK375 := n1_
              have HI353 := n2_
              have HB := n3_
              have BK380 := n4_
              have GW380 := n5_
              have GE380 := n6_
              have NB365_380 := n7_
              have NB380_365 := n8_
              have NB375_380 := n9_
              have NB380_375 := n10_
              have NB353_380 := n11_
              have NB380_353 := n12_
              clear n0_ n1_ n2_ n3_ n4_ n5_ n6_ n7_ n8_ n9_ n10_ n11_ n12_
              clear hb hbox hg
              refine hK.out _ _ ⟨(blk_cell BK365.out 0).trans rfl, (blk_cell BK365.out 1).trans rfl, (blk_cell BK365.out 2).trans rfl, (blk_cell BK365.out 3).trans rfl, (blk_cell BK365.out 4).trans rfl, (blk_cell BK365.out 5).trans rfl, (blk_cell BK365.out 6).trans rfl, (blk_cell BK365.out 7).trans rfl, (blk_cell BK365.out 8).trans rfl, (blk_cell BK365.out 9).trans rfl⟩ (fun hHeld => ?_)
              clear hK K
              refine norm_ (a' := ?_) ?_ ?_
              rotate_left
              · show Act.put _ (some 6) _ = _
                simp only [Act.put, List.setIfInBounds_toArray, List.set_cons_zero, List.set_cons_succ, i64_w, i32_w]
                rfl
              refine one_ (i := 3) (N := some 23) #[true, true, true, true, true, true, true, false, false, true, false] rfl rfl (one_of HT_.out (by kernel_rfl)) (by decide) (fun K hK => ?_)
              refine goes_ Try.func13 (by kernel_rfl) rfl #[.pointer (some ⟨gb353, 0, none⟩), .agg #[.int .i64 t354, .int .i64 t355, .int .i64 t356, .int .i64 t357]] (by rfl) rfl rfl (by (try simp only [List.map_toArray, List.map_cons, List.map_nil]); first | done | rfl | (simp only [List.length_drop, List.length_take]; rfl)) ?_
              with_reducible refine (spymake_Stream_Inside.calls gb353 l0 x354001_1 t354 t355 t356 t357 t376 t377 w _ ?side1 ?side2 A16.out).mono ?_
              (case side1 => exact HI353.out)
              (case side2 => exact HB.out)
              rintro e w22 ⟨rfl, hi, hb, hk⟩
              refine ⟨_, rfl, ?_⟩
              have n0_ := Aside0.mk (KeepBut.blk hk BK365.out NB365_353.out (by simp))
              have n1_ := Aside0.mk (KeepBut.blk hk BK375.out NB375_353.out (by simp))
              have n2_ := Aside0.mk (KeepBut.blk hk BK380.out NB380_353.out (by simp))
              have n3_ := Aside0.mk (hb)
              have n4_ := Aside0.mk (hi)
              clear BK365
              clear BK375
              clear BK380
              clear HB
              clear HI353
              have BK365 := n0_
              have BK375 := n1_
              have BK380 := n2_
              have HB := n3_
              have HI353 := n4_
              clear n0_ n1_ n2_ n3_ n4_
              (try clear hb)
              (try clear hb2)
              (try clear hk)
              (try clear hi)
              refine hK.out _ _ ⟨(blk_cell BK365.out 0).trans rfl, (blk_cell BK365.out 1).trans rfl, (blk_cell BK365.out 2).trans rfl, (blk_cell BK365.out 3).trans rfl, (blk_cell BK365.out 4).trans rfl, (blk_cell BK365.out 5).trans rfl, (blk_cell BK365.out 6).trans rfl, (blk_cell BK365.out 7).trans rfl, (blk_cell BK365.out 8).trans rfl, (blk_cell BK365.out 9).trans rfl⟩ (fun hHeld => ?_)
              clear hK K
              refine norm_ (a' := ?_) ?_ ?_
              rotate_left
              · show Act.put _ (some 23) _ = _
                simp only [Act.put, List.setIfInBounds_toArray, List.set_cons_zero, List.set_cons_succ, i64_w, i32_w]
                rfl
              refine one_ (i := 7) (N := some 27) #[true, true, true, true, true, true, true, true, false, true, false] rfl rfl (one_of HT_.out (by kernel_rfl)) (by decide) (fun K hK => ?_)
              refine goes_ Try.func13 (by kernel_rfl) rfl #[.pointer (some ⟨gb353, 0, none⟩), .agg #[.int .i64 t358, .int .i64 t359, .int .i64 t360, .int .i64 t361]] (by rfl) rfl rfl (by (try simp only [List.map_toArray, List.map_cons, List.map_nil]); first | done | rfl | (simp only [List.length_drop, List.length_take]; rfl)) ?_
              with_reducible refine (spymake_Stream_Inside.calls gb353 l0 t377 t358 t359 t360 t361 t378 t379 w _ ?side1 ?side2 A17.out).mono ?_
              (case side1 => exact HI353.out)
              (case side2 => exact HB.out)
              rintro e w23 ⟨rfl, hi, hb, hk⟩
              refine ⟨_, rfl, ?_⟩
              have n0_ := Aside0.mk (KeepBut.blk hk BK365.out NB365_353.out (by simp))
              have n1_ := Aside0.mk (KeepBut.blk hk BK375.out NB375_353.out (by simp))
              have n2_ := Aside0.mk (KeepBut.blk hk BK380.out NB380_353.out (by simp))
              have n3_ := Aside0.mk (hb)
              have n4_ := Aside0.mk (hi)
              clear BK365
              clear BK375
              clear BK380
              clear HB
              clear HI353
              have BK365 := n0_
              have BK375 := n1_
              have BK380 := n2_
              have HB := n3_
              have HI353 := n4_
              clear n0_ n1_ n2_ n3_ n4_
              (try clear hb)
              (try clear hb2)
              (try clear hk)
              (try clear hi)
              refine hK.out _ _ ⟨(blk_cell BK365.out 0).trans rfl, (blk_cell BK365.out 1).trans rfl, (blk_cell BK365.out 2).trans rfl, (blk_cell BK365.out 3).trans rfl, (blk_cell BK365.out 4).trans rfl, (blk_cell BK365.out 5).trans rfl, (blk_cell BK365.out 6).trans rfl, (blk_cell BK365.out 7).trans rfl, (blk_cell BK365.out 8).trans rfl, (blk_cell BK365.out 9).trans rfl⟩ (fun hHeld => ?_)
              clear hK K
              refine norm_ (a' := ?_) ?_ ?_
              rotate_left
              · show Act.put _ (some 27) _ = _
                simp only [Act.put, List.setIfInBounds_toArray, List.set_cons_zero, List.set_cons_succ, i64_w, i32_w]
                rfl
              refine pure_ (i := 8) (N := some 28) (v := ?_) (a' := ?_) #[true, true, true, true, true, true, true, true, true, true, false] rfl rfl (any_of HT_.out (by kernel_rfl)) (fun _ _ _ h => h) (Or.inl ⟨by rfl, ?_⟩) ?_ ?_
              rotate_left
              · intro w'
                go_simp
                with_reducible rfl
              rotate_left
              · simp only [Act.put, List.setIfInBounds_toArray, List.set_cons_zero, List.set_cons_succ, i64_w, i32_w]
                rfl
              exact norm_ (by simp only [putAll, Act.put, List.setIfInBounds_toArray, List.set_cons_zero, List.set_cons_succ]) (hCont (gb380) _ ⟨hHeld, (by exact BK365.out), (by exact BK375.out), (by exact BK380.out), GW380.out, GE380.out, NB353_380.out, NB380_353.out, NB365_380.out, NB380_365.out, NB375_380.out, NB380_375.out, (by exact HI353.out), (by exact HB.out)⟩)
          rintro gb380 w24 ⟨hS_, h0_, h1_, h2_, h3_, h4_, h5_, h6_, h7_, h8_, h9_, h10_, h11_, h12_⟩
          have n0_ : Aside0 (w24.heap[gb365]? = some (.cells #[.int .i64 t354, .int .i64 t355, .int .i64 t356, .int .i64 t357, .int .i64 t358, .int .i64 t359, .int .i64 t360, .int .i64 t361, .int .i64 t362, .int .i64 t363] 32 (0, 0))) := ⟨h0_⟩
          have n1_ : Aside0 (w24.heap[gb375]? = some (.cells #[.int .i64 x376000_1, .int .i64 x376001_1, .int .i64 x376002_1, .bool x376003_1, .int .i64 x376004_1, .int .i64 x376005_1, .int .i64 x376006_1, .bool x376007_1, .int .i64 x376008_1] 37 (0, 0))) := ⟨h1_⟩
          have n2_ : Aside0 (w24.heap[gb380]? = some (.cells #[.int .i64 0, .int .i64 0] 30 (0, 0))) := ⟨h2_⟩
          have n3_ : Aside0 (w.heap.size ≤ gb380) := ⟨h3_⟩
          have n4_ : Aside0 (w.heap.size ≤ gb380) := ⟨h4_⟩
          have n5_ : Aside0 (gb353 ≠ gb380) := ⟨h5_⟩
          have n6_ : Aside0 (gb380 ≠ gb353) := ⟨h6_⟩
          have n7_ : Aside0 (gb365 ≠ gb380) := ⟨h7_⟩
          have n8_ : Aside0 (gb380 ≠ gb365) := ⟨h8_⟩
          have n9_ : Aside0 (gb375 ≠ gb380) := ⟨h9_⟩
          have n10_ : Aside0 (gb380 ≠ gb375) := ⟨h10_⟩
          have n11_ : Aside0 (IsS26 w w24 gb353 l0 t379) := ⟨h11_⟩
          have n12_ : Aside0 (Below w.heap.size w w24) := ⟨h12_⟩
          clear BK365
          clear BK375
          clear HI353
          clear HB
          clear h0_ h1_ h2_ h3_ h4_ h5_ h6_ h7_ h8_ h9_ h10_ h11_ h12_
          have BK365 := n0_
          have BK375 := n1_
          have BK380 := n2_
          have GW380 := n3_
          have GE380 := n4_
          have NB353_380 := n5_
          have NB380_353 := n6_
          have NB365_380 := n7_
          have NB380_365 := n8_
          have NB375_380 := n9_
          have NB380_375 := n10_
          have HI353 := n11_
          have HB := n12_
          clear n0_ n1_ n2_ n3_ n4_ n5_ n6_ n7_ n8_ n9_ n10_ n11_ n12_
          have hHeld : w24.cell? ⟨gb365, 0, none⟩ = some (.int .i64 t354) ∧ w24.cell? ⟨gb365, 1, none⟩ = some (.int .i64 t355) ∧ w24.cell? ⟨gb365, 2, none⟩ = some (.int .i64 t356) ∧ w24.cell? ⟨gb365, 3, none⟩ = some (.int .i64 t357) ∧ w24.cell? ⟨gb365, 4, none⟩ = some (.int .i64 t358) ∧ w24.cell? ⟨gb365, 5, none⟩ = some (.int .i64 t359) ∧ w24.cell? ⟨gb365, 6, none⟩ = some (.int .i64 t360) ∧ w24.cell? ⟨gb365, 7, none⟩ = some (.int .i64 t361) ∧ w24.cell? ⟨gb365, 8, none⟩ = some (.int .i64 t362) ∧ w24.cell? ⟨gb365, 9, none⟩ = some (.int .i64 t363) := hS_
          refine norm_ (a' := ?_) ?_ ?_
          rotate_left
          · simp only [putAll, Act.put, List.setIfInBounds_toArray, List.set_cons_zero, List.set_cons_succ]
            rfl
          refine one_ (i := 10) (N := none) #[true, true, true, true, true, true, true, true, true, true, true] rfl rfl (one_of HT_.out (by kernel_rfl)) (by decide) (fun K hK => ?_)
          have hs25 : w24.cell? ⟨gb380, 0, none⟩ = some (.int .i64 0) := (blk_cell BK380.out 0).trans rfl
          have hfs25 := blk_frozen BK380.out 0
          have hns25_0 := NB365_380.out
          have hns25_1 := NB375_380.out
          have hms25_0 := NB380_365.out
          have hms25_1 := NB380_375.out
          have hs26 : w24.cell? ⟨gb380, 1, none⟩ = some (.int .i64 0) := (blk_cell BK380.out 1).trans rfl
          have hfs26 := blk_frozen BK380.out 1
          have hns26_0 := NB365_380.out
          have hns26_1 := NB375_380.out
          have hms26_0 := NB380_365.out
          have hms26_1 := NB380_375.out
          refine skip_ (w1 := ?_) (by rfl) rfl ?_ ?_
          rotate_left
          · go_simp
            rfl
          refine hK.out _ _ ⟨((cell_far (p := ⟨gb380, _, none⟩) NB365_380.out _).trans (((cell_far (p := ⟨gb380, _, none⟩) NB365_380.out _).trans (hHeld.1)))), ((cell_far (p := ⟨gb380, _, none⟩) NB365_380.out _).trans (((cell_far (p := ⟨gb380, _, none⟩) NB365_380.out _).trans (hHeld.2.1)))), ((cell_far (p := ⟨gb380, _, none⟩) NB365_380.out _).trans (((cell_far (p := ⟨gb380, _, none⟩) NB365_380.out _).trans (hHeld.2.2.1)))), ((cell_far (p := ⟨gb380, _, none⟩) NB365_380.out _).trans (((cell_far (p := ⟨gb380, _, none⟩) NB365_380.out _).trans (hHeld.2.2.2.1)))), ((cell_far (p := ⟨gb380, _, none⟩) NB365_380.out _).trans (((cell_far (p := ⟨gb380, _, none⟩) NB365_380.out _).trans (hHeld.2.2.2.2.1)))), ((cell_far (p := ⟨gb380, _, none⟩) NB365_380.out _).trans (((cell_far (p := ⟨gb380, _, none⟩) NB365_380.out _).trans (hHeld.2.2.2.2.2.1)))), ((cell_far (p := ⟨gb380, _, none⟩) NB365_380.out _).trans (((cell_far (p := ⟨gb380, _, none⟩) NB365_380.out _).trans (hHeld.2.2.2.2.2.2.1)))), ((cell_far (p := ⟨gb380, _, none⟩) NB365_380.out _).trans (((cell_far (p := ⟨gb380, _, none⟩) NB365_380.out _).trans (hHeld.2.2.2.2.2.2.2.1)))), ((cell_far (p := ⟨gb380, _, none⟩) NB365_380.out _).trans (((cell_far (p := ⟨gb380, _, none⟩) NB365_380.out _).trans (hHeld.2.2.2.2.2.2.2.2.1)))), ((cell_far (p := ⟨gb380, _, none⟩) NB365_380.out _).trans (((cell_far (p := ⟨gb380, _, none⟩) NB365_380.out _).trans (hHeld.2.2.2.2.2.2.2.2.2))))⟩ (fun hHeld => ?_)
          clear hK K
          refine done_ (done_of HT_.out (by kernel_rfl)) ?_
          have hnb27 := NB375_380.out
          have hnc27 := NB380_375.out
          have hcz28_0 := tch9 BK375.out
          go_upto_block 2 with (first | ((with_reducible refine gate_dst (N := 7) rfl ?_); refine box_event ?hg (N := 7) ?hd (cs := #[.int .i64 0, .int .i64 0, .int .i64 0, .bool false, .int .i64 0, .int .i64 0, .int .i64 0, .bool false, .int .i64 0]) (t := 37) ?hr ?_; (case hd => rfl); (case hg => rfl); (case hr => first | (go_simp; done) | (go_simp; rfl)); intro gb381 hg w29 hbox hb; have n0_ := Aside0.mk (blk_below (g := gb365) (o := .cells #[.int .i64 t354, .int .i64 t355, .int .i64 t356, .int .i64 t357, .int .i64 t358, .int .i64 t359, .int .i64 t360, .int .i64 t361, .int .i64 t362, .int .i64 t363] 32 (0, 0)) (by exact (blk_far (blk_far BK365.out NB365_380.out _) NB365_380.out _)) hb); have n1_ := Aside0.mk (blk_below (g := gb375) (o := .cells #[.int .i64 x376000_1, .int .i64 x376001_1, .int .i64 x376002_1, .bool x376003_1, .int .i64 x376004_1, .int .i64 x376005_1, .int .i64 x376006_1, .bool x376007_1, .int .i64 x376008_1] 37 (0, 0)) (by exact (blk_far (blk_far BK375.out NB375_380.out _) NB375_380.out _)) hb); have n2_ := Aside0.mk (IsS26.below (show IsS26 w ((w24.setCell ⟨gb380, 0, none⟩ (.int .i64 t376)).setCell ⟨gb380, 1, none⟩ (.int .i64 t378)) gb353 l0 t379 from by repeat (first | (with_reducible first | exact HI353.out | apply IsS26.alloc | apply IsS26.drewN | apply IsS26.drew | apply IsS26.set_1 | refine IsS26.far ?_ NB353_365.out _ | refine IsS26.far ?_ NB353_375.out _ | refine IsS26.far ?_ NB353_380.out _) | exact HI353.out)) hb); have n3_ := Aside0.mk (blk_below (g := gb380) (o := .cells #[.int .i64 t376, .int .i64 t378] 30 (0, 0)) (by exact (blk_put (cs := #[.int .i64 t376, .int .i64 0]) (blk_put (cs := #[.int .i64 0, .int .i64 0]) BK380.out 0 _ rfl) 1 _ rfl)) hb); have n4_ := Aside0.mk (below_step (by repeat (first | (with_reducible first | exact HB.out | apply below_alloc | apply pw_below_drewN | apply below_drew1 | refine below_set ?_ (IsS26.ge HI353.out) | refine below_set ?_ GE365.out | refine below_set ?_ GE375.out | refine below_set ?_ GE380.out) | exact HB.out)) hb); have n5_ := Aside0.mk (hbox); have n6_ := Aside0.mk ((by rw [hg]; exact (below_size (by repeat (first | (with_reducible first | exact HB.out | apply below_alloc | apply pw_below_drewN | apply below_drew1 | refine below_set ?_ (IsS26.ge HI353.out) | refine below_set ?_ GE365.out | refine below_set ?_ GE375.out | refine below_set ?_ GE380.out) | exact HB.out))) : w.heap.size ≤ gb381)); have n7_ := Aside0.mk ((by rw [hg]; exact (below_size (by repeat (first | (with_reducible first | exact HB.out | apply below_alloc | apply pw_below_drewN | apply below_drew1 | refine below_set ?_ (IsS26.ge HI353.out) | refine below_set ?_ GE365.out | refine below_set ?_ GE375.out | refine below_set ?_ GE380.out) | exact HB.out))) : w.heap.size ≤ gb381)); have n8_ := Aside0.mk ((by rw [hg]; exact Nat.ne_of_lt (blk_lt (g := gb365) (o := .cells #[.int .i64 t354, .int .i64 t355, .int .i64 t356, .int .i64 t357, .int .i64 t358, .int .i64 t359, .int .i64 t360, .int .i64 t361, .int .i64 t362, .int .i64 t363] 32 (0, 0)) (by exact (blk_far (blk_far BK365.out NB365_380.out _) NB365_380.out _))) : gb365 ≠ gb381)); have n9_ := Aside0.mk ((by rw [hg]; exact Nat.ne_of_lt (blk_lt (g := gb375) (o := .cells #[.int .i64 x376000_1, .int .i64 x376001_1, .int .i64 x376002_1, .bool x376003_1, .int .i64 x376004_1, .int .i64 x376005_1, .int .i64 x376006_1, .bool x376007_1, .int .i64 x376008_1] 37 (0, 0)) (by exact (blk_far (blk_far BK375.out NB375_380.out _) NB375_380.out _))) : gb375 ≠ gb381)); have n10_ := Aside0.mk ((by rw [hg]; exact Nat.ne_of_gt (blk_lt (g := gb375) (o := .cells #[.int .i64 x376000_1, .int .i64 x376001_1, .int .i64 x376002_1, .bool x376003_1, .int .i64 x376004_1, .int .i64 x376005_1, .int .i64 x376006_1, .bool x376007_1, .int .i64 x376008_1] 37 (0, 0)) (by exact (blk_far (blk_far BK375.out NB375_380.out _) NB375_380.out _))) : gb381 ≠ gb375)); have n11_ := Aside0.mk ((by rw [hg]; exact Nat.ne_of_lt (blk_lt (g := gb380) (o := .cells #[.int .i64 t376, .int .i64 t378] 30 (0, 0)) (by exact (blk_put (cs := #[.int .i64 t376, .int .i64 0]) (blk_put (cs := #[.int .i64 0, .int .i64 0]) BK380.out 0 _ rfl) 1 _ rfl))) : gb380 ≠ gb381)); have n12_ := Aside0.mk ((by rw [hg]; exact Nat.ne_of_gt (blk_lt (g := gb380) (o := .cells #[.int .i64 t376, .int .i64 t378] 30 (0, 0)) (by exact (blk_put (cs := #[.int .i64 t376, .int .i64 0]) (blk_put (cs := #[.int .i64 0, .int .i64 0]) BK380.out 0 _ rfl) 1 _ rfl))) : gb381 ≠ gb380)); have n13_ := Aside0.mk ((by rw [hg]; exact Nat.ne_of_lt (IsS26.lt (show IsS26 w _ gb353 l0 t379 from by repeat (first | (with_reducible first | exact HI353.out | apply IsS26.alloc | apply IsS26.drewN | apply IsS26.drew | apply IsS26.set_1 | refine IsS26.far ?_ NB353_365.out _ | refine IsS26.far ?_ NB353_375.out _ | refine IsS26.far ?_ NB353_380.out _) | exact HI353.out))) : gb353 ≠ gb381)); have n14_ := Aside0.mk ((by rw [hg]; exact Nat.ne_of_gt (IsS26.lt (show IsS26 w _ gb353 l0 t379 from by repeat (first | (with_reducible first | exact HI353.out | apply IsS26.alloc | apply IsS26.drewN | apply IsS26.drew | apply IsS26.set_1 | refine IsS26.far ?_ NB353_365.out _ | refine IsS26.far ?_ NB353_375.out _ | refine IsS26.far ?_ NB353_380.out _) | exact HI353.out))) : gb381 ≠ gb353)); clear BK365; clear BK375; clear HI353; clear BK380; clear HB; have BK365 := n0_; have BK375 := n1_; have HI353 := n2_; have BK380 := n3_; have HB := n4_; have BK381 := n5_; have GW381 := n6_; have GE381 := n7_; have NB365_381 := n8_; have NB375_381 := n9_; have NB381_375 := n10_; have NB380_381 := n11_; have NB381_380 := n12_; have NB353_381 := n13_; have NB381_353 := n14_; clear n0_ n1_ n2_ n3_ n4_ n5_ n6_ n7_ n8_ n9_ n10_ n11_ n12_ n13_ n14_; clear hb hbox hg) | ((with_reducible refine gate_store (t := 37) (p := 7) rfl ?_); refine store_row (t := 37) (p := 7) (v := ?vo_w30) ?hgd ?ho ?hN gb381 0 #[.int .i64 0, .int .i64 0, .int .i64 0, .bool false, .int .i64 0, .int .i64 0, .int .i64 0, .bool false, .int .i64 0] [.int .i64 x376000_1, .int .i64 x376001_1, .int .i64 x376002_1, .bool x376003_1, .int .i64 x376004_1, .int .i64 x376005_1, .int .i64 x376006_1, .bool x376007_1, .int .i64 x376008_1] #[.int .i64 x376000_1, .int .i64 x376001_1, .int .i64 x376002_1, .bool x376003_1, .int .i64 x376004_1, .int .i64 x376005_1, .int .i64 x376006_1, .bool x376007_1, .int .i64 x376008_1] ?hx ?hy (by exact BK381.out) szi37 (Nat.le_of_ble_eq_true rfl) ?h1 ?hnew ?_; (case ho => rfl); (case hgd => rfl); (case hN => rfl); (case hx => rfl); (case hy => first | rfl | (go_simp; done) | (go_simp; rfl)); (case h1 => rfl); (case hnew => rfl); intro w30 hbox hg; have n0_ := Aside0.mk (blk_grown BK365.out hg (fun e_ => NB365_381.out (Option.some.inj e_))); have n1_ := Aside0.mk (blk_grown BK375.out hg (fun e_ => NB375_381.out (Option.some.inj e_))); have n2_ := Aside0.mk (blk_grown BK380.out hg (fun e_ => NB380_381.out (Option.some.inj e_))); have n3_ := Aside0.mk (IsS26.grown (by exact HI353.out) hg (fun e_ => NB353_381.out (Option.some.inj e_))); have n4_ := Aside0.mk (pw_below_grown (by exact HB.out) (some gb381) (below_size (by exact HB.out)) hg (fun k_ e_ => by cases e_; exact GE381.out)); have n5_ := Aside0.mk (hbox); clear BK365; clear BK375; clear BK380; clear HI353; clear HB; clear BK381; have BK365 := n0_; have BK375 := n1_; have BK380 := n2_; have HI353 := n3_; have HB := n4_; have BK381 := n5_; clear n0_ n1_ n2_ n3_ n4_ n5_; clear hbox hg) | ((with_reducible refine gate_callee (f := 14) rfl ?_); refine goesL_ (some 31) rfl rfl Try.func14 (by kernel_rfl) rfl #[.pointer (some ⟨gb353, 0, none⟩), .int .i64 10] rfl (by (try simp only [List.map_toArray, List.map_cons, List.map_nil]); first | done | rfl | (simp only [List.length_drop, List.length_take]; rfl)) ?_; (with_reducible refine (spymake_Stream_Next.calls gb353 l0 t379 10 t382 t383 w _ ?side1 ?side2 A18.out).mono ?_); (case side1 => exact HI353.out); (case side2 => exact HB.out); rintro e w31 ⟨rfl, hi, hb, hk⟩; refine ⟨_, rfl, ?_⟩; have n0_ := Aside0.mk (KeepBut.blk hk BK365.out NB365_353.out (by simp)); have n1_ := Aside0.mk (KeepBut.blk hk BK375.out NB375_353.out (by simp)); have n2_ := Aside0.mk (KeepBut.blk hk BK380.out NB380_353.out (by simp)); have n3_ := Aside0.mk (KeepBut.blk hk BK381.out NB381_353.out (by simp)); have n4_ := Aside0.mk (hb); have n5_ := Aside0.mk (hi); clear BK365; clear BK375; clear BK380; clear BK381; clear HB; clear HI353; have BK365 := n0_; have BK375 := n1_; have BK380 := n2_; have BK381 := n3_; have HB := n4_; have HI353 := n5_; clear n0_ n1_ n2_ n3_ n4_ n5_; (try clear hb); (try clear hb2); (try clear hk); (try clear hi)))
          (try simp only [Act.put, List.setIfInBounds_toArray, List.set_cons_zero, List.set_cons_succ])
          go_cut [8] (fun v8 wc => ∃ (kq : Nat) (x8_18 : Int) (x354001_18 : Int) (x381000_18 : Int) (x381001_18 : Int) (x382000_18 : Int) (x382001_18 : Int) (x382002_18 : Int) (x382003_18 : Bool) (x382004_18 : Int) (x382005_18 : Int) (x382006_18 : Int) (x382007_18 : Bool) (x382008_18 : Int), v8 = .int .i64 x8_18 ∧ Aside0 (spykeep2_MountValid.j2 kq x8_18 x18_1 l0 x354001_18 t354 t355 t356 t357 t358 t359 t360 t361 t362 t363 x376000_1 x376001_1 x376002_1 x376003_1 x376004_1 x376005_1 x376006_1 x376007_1 x376008_1 x382000_18 x382001_18 x382002_18 x382003_18 x382004_18 x382005_18 x382006_18 x382007_18 x382008_18 = some r) ∧ Aside0 (kq ≤ k1) ∧ Aside0 (wc.heap[gb365]? = some (.cells #[.int .i64 t354, .int .i64 t355, .int .i64 t356, .int .i64 t357, .int .i64 t358, .int .i64 t359, .int .i64 t360, .int .i64 t361, .int .i64 t362, .int .i64 t363] 32 (0, 0))) ∧ Aside0 (wc.heap[gb375]? = some (.cells #[.int .i64 x376000_1, .int .i64 x376001_1, .int .i64 x376002_1, .bool x376003_1, .int .i64 x376004_1, .int .i64 x376005_1, .int .i64 x376006_1, .bool x376007_1, .int .i64 x376008_1] 37 (0, 0))) ∧ Aside0 (wc.heap[gb380]? = some (.cells #[.int .i64 x381000_18, .int .i64 x381001_18] 30 (0, 0))) ∧ Aside0 (wc.heap[gb381]? = some (.cells #[.int .i64 x382000_18, .int .i64 x382001_18, .int .i64 x382002_18, .bool x382003_18, .int .i64 x382004_18, .int .i64 x382005_18, .int .i64 x382006_18, .bool x382007_18, .int .i64 x382008_18] 37 (0, 0))) ∧ Aside0 (IsS26 w wc gb353 l0 x354001_18) ∧ Aside0 (Below w.heap.size w wc))
          case first =>
            have H := HC19.out
            clear HC19
            have HC32 := Aside0.mk H
            clear H
            go_upto_if 32 with (fail)
            go_cut [32] (fun v32 wc => ∃ (kq : Nat) (x32_31 : Bool), v32 = .bool x32_31 ∧ Aside0 (spykeep2_MountValid.j1 kq 0 x18_1 t382 x32_31 l0 t383 t354 t355 t356 t357 t358 t359 t360 t361 t362 t363 x376000_1 x376001_1 x376002_1 x376003_1 x376004_1 x376005_1 x376006_1 x376007_1 x376008_1 t376 t378 x376000_1 x376001_1 x376002_1 x376003_1 x376004_1 x376005_1 x376006_1 x376007_1 x376008_1 = some r) ∧ Aside0 (kq ≤ k1) ∧ Aside0 (wc.heap[gb365]? = some (.cells #[.int .i64 t354, .int .i64 t355, .int .i64 t356, .int .i64 t357, .int .i64 t358, .int .i64 t359, .int .i64 t360, .int .i64 t361, .int .i64 t362, .int .i64 t363] 32 (0, 0))) ∧ Aside0 (wc.heap[gb375]? = some (.cells #[.int .i64 x376000_1, .int .i64 x376001_1, .int .i64 x376002_1, .bool x376003_1, .int .i64 x376004_1, .int .i64 x376005_1, .int .i64 x376006_1, .bool x376007_1, .int .i64 x376008_1] 37 (0, 0))) ∧ Aside0 (wc.heap[gb380]? = some (.cells #[.int .i64 t376, .int .i64 t378] 30 (0, 0))) ∧ Aside0 (wc.heap[gb381]? = some (.cells #[.int .i64 x376000_1, .int .i64 x376001_1, .int .i64 x376002_1, .bool x376003_1, .int .i64 x376004_1, .int .i64 x376005_1, .int .i64 x376006_1, .bool x376007_1, .int .i64 x376008_1] 37 (0, 0))) ∧ Aside0 (IsS26 w wc gb353 l0 t383) ∧ Aside0 (Below w.heap.size w wc))
            case first =>
              have H := HC32.out
              clear HC32
              by_cases c33 : t382 = 0
              · rw [if_pos c33] at H
                have c33b0 : (t382 == 0) = true := beq_iff_eq.mpr c33
                have c33b1 : (t382 != 0) = false := bne_eq_false_iff_eq.mpr c33
                clear c33
                (first | rw [c33b0] | (simp only [i64_w, i32_w]; rw [c33b0]) | skip)
                have H' := Aside0.mk H
                clear H
                go_wp2
                go_meet
                case rel => exact ⟨_, ((t382 == 0)), (by first | rfl | (simp; done) | (simp [*]; done)), H', ⟨by have := HK1.out; first | omega | exact Nat.le_refl _⟩, ⟨by exact BK365.out⟩, ⟨by exact BK375.out⟩, ⟨by exact BK380.out⟩, ⟨by exact BK381.out⟩, ⟨by exact HI353.out⟩, ⟨by exact HB.out⟩⟩
              · rw [if_neg c33] at H
                have c33b0 : (t382 == 0) = false := beq_eq_false_iff_ne.mpr c33
                have c33b1 : (t382 != 0) = true := bne_iff_ne.mpr c33
                (first | rw [c33b0] | (simp only [i64_w, i32_w]; rw [c33b0]) | skip)
                have H' := Aside0.mk H
                clear H
                go_wp2
                go_meet
                case rel => exact ⟨_, ((t382 == 1)), (by first | rfl | (simp; done) | (simp [*]; done)), H', ⟨by have := HK1.out; first | omega | exact Nat.le_refl _⟩, ⟨by exact BK365.out⟩, ⟨by exact BK375.out⟩, ⟨by exact BK380.out⟩, ⟨by exact BK381.out⟩, ⟨by exact HI353.out⟩, ⟨by exact HB.out⟩⟩
            case rest =>
              clear HC32
              try clear c1
              try clear c2
              try clear p2
              try clear c3
              try clear c10
              try clear c11
              try clear c12
              try clear c13
              try clear c14
              try clear c15
              try clear c15b0
              try clear c27
              try clear c33
              try clear c33b0
              try clear c33b1
              try clear hcz11_0
              try clear hcz28_0
              try clear p2
              obtain ⟨kq, x32_31, rfl, HA, HJ31, BK365, BK375, BK380, BK381, HI353, HB⟩ := hcut
              cases kq with
              | zero => exact absurd HA.out (by simp [spykeep2_MountValid.j1])
              | succ kj31 =>
                have H := HA.out
                clear HA
                simp only [spykeep2_MountValid.j1] at H
                by_cases c34 : x32_31 = true
                · subst c34
                  have H1 : ((mount_Goto.f kj31 t354 t355 t356 t357 t358 t359 t360 t361 t362 t363 x376000_1 x376001_1 x376002_1 x376003_1 x376004_1 x376005_1 x376006_1 x376007_1 x376008_1 t376 t378).bind fun bt384 => (spykeep2_MountValid.j2 kj31 bt384.2.2.2.2.2.2.2.2.2 x18_1 l0 t383 t354 t355 t356 t357 t358 t359 t360 t361 t362 t363 x376000_1 x376001_1 x376002_1 x376003_1 x376004_1 x376005_1 x376006_1 x376007_1 x376008_1 bt384.1 bt384.2.1 bt384.2.2.1 bt384.2.2.2.1 bt384.2.2.2.2.1 bt384.2.2.2.2.2.1 bt384.2.2.2.2.2.2.1 bt384.2.2.2.2.2.2.2.1 bt384.2.2.2.2.2.2.2.2.1)) = some r := by rw [if_pos rfl] at H; exact H
                  clear H
                  have H := H1
                  clear H1
                  replace H := Option.bind_eq_some_iff.mp H
                  obtain ⟨⟨t384, t385, t386, t387, t388, t389, t390, t391, t392, t393⟩, A350, H⟩ := H
                  replace H : (spykeep2_MountValid.j2 kj31 t393 x18_1 l0 t383 t354 t355 t356 t357 t358 t359 t360 t361 t362 t363 x376000_1 x376001_1 x376002_1 x376003_1 x376004_1 x376005_1 x376006_1 x376007_1 x376008_1 t384 t385 t386 t387 t388 t389 t390 t391 t392) = some r := H
                  have A35 := Aside0.mk A350
                  clear A350
                  have H' := Aside0.mk H
                  clear H
                  have hcz36_0 := tch10 BK365.out
                  have hcz37_0 := tch9 BK375.out
                  have hcz38_0 := tch2 BK380.out
                  go_wp2_with (first | ((with_reducible refine gate_callee (f := 15) rfl ?_); refine goesL_ (some 39) rfl rfl Try.func15 (by kernel_rfl) rfl #[.agg #[.int .i64 t354, .int .i64 t355, .int .i64 t356, .int .i64 t357, .int .i64 t358, .int .i64 t359, .int .i64 t360, .int .i64 t361, .int .i64 t362, .int .i64 t363], .agg #[.int .i64 x376000_1, .int .i64 x376001_1, .int .i64 x376002_1, .bool x376003_1, .int .i64 x376004_1, .int .i64 x376005_1, .int .i64 x376006_1, .bool x376007_1, .int .i64 x376008_1], .agg #[.int .i64 t376, .int .i64 t378]] rfl (by (try simp only [List.map_toArray, List.map_cons, List.map_nil]); first | done | rfl | (simp only [List.length_drop, List.length_take]; rfl)) ?_; (with_reducible refine (mount_Goto.calls kj31 t354 t355 t356 t357 t358 t359 t360 t361 t362 t363 x376000_1 x376001_1 x376002_1 x376003_1 x376004_1 x376005_1 x376006_1 x376007_1 x376008_1 t376 t378 t384 t385 t386 t387 t388 t389 t390 t391 t392 t393 _ A35.out).mono ?_); rintro e w39 ⟨rfl, hb⟩; refine ⟨_, rfl, ?_⟩; have n0_ := Aside0.mk (blk_below BK365.out hb); have n1_ := Aside0.mk (blk_below BK375.out hb); have n2_ := Aside0.mk (blk_below BK380.out hb); have n3_ := Aside0.mk (blk_below BK381.out hb); have n4_ := Aside0.mk (IsS26.below (by exact HI353.out) hb); have n5_ := Aside0.mk (below_step (by exact HB.out) hb); clear BK365; clear BK375; clear BK380; clear BK381; clear HI353; clear HB; have BK365 := n0_; have BK375 := n1_; have BK380 := n2_; have BK381 := n3_; have HI353 := n4_; have HB := n5_; clear n0_ n1_ n2_ n3_ n4_ n5_; (try clear hb); (try clear hb2); (try clear hk); (try clear hi)) | ((with_reducible refine gate_store (t := 37) (p := 7) rfl ?_); refine store_row (t := 37) (p := 7) (v := ?vo_w40) ?hgd ?ho ?hN gb381 0 #[.int .i64 x376000_1, .int .i64 x376001_1, .int .i64 x376002_1, .bool x376003_1, .int .i64 x376004_1, .int .i64 x376005_1, .int .i64 x376006_1, .bool x376007_1, .int .i64 x376008_1] [.int .i64 t384, .int .i64 t385, .int .i64 t386, .bool t387, .int .i64 t388, .int .i64 t389, .int .i64 t390, .bool t391, .int .i64 t392] #[.int .i64 t384, .int .i64 t385, .int .i64 t386, .bool t387, .int .i64 t388, .int .i64 t389, .int .i64 t390, .bool t391, .int .i64 t392] ?hx ?hy (by exact BK381.out) szi37 (Nat.le_of_ble_eq_true rfl) ?h1 ?hnew ?_; (case ho => rfl); (case hgd => rfl); (case hN => rfl); (case hx => rfl); (case hy => first | rfl | (go_simp; done) | (go_simp; rfl)); (case h1 => rfl); (case hnew => rfl); intro w40 hbox hg; have n0_ := Aside0.mk (blk_grown BK365.out hg (fun e_ => NB365_381.out (Option.some.inj e_))); have n1_ := Aside0.mk (blk_grown BK375.out hg (fun e_ => NB375_381.out (Option.some.inj e_))); have n2_ := Aside0.mk (blk_grown BK380.out hg (fun e_ => NB380_381.out (Option.some.inj e_))); have n3_ := Aside0.mk (IsS26.grown (by exact HI353.out) hg (fun e_ => NB353_381.out (Option.some.inj e_))); have n4_ := Aside0.mk (pw_below_grown (by exact HB.out) (some gb381) (below_size (by exact HB.out)) hg (fun k_ e_ => by cases e_; exact GE381.out)); have n5_ := Aside0.mk (hbox); clear BK365; clear BK375; clear BK380; clear HI353; clear HB; clear BK381; have BK365 := n0_; have BK375 := n1_; have BK380 := n2_; have HI353 := n3_; have HB := n4_; have BK381 := n5_; clear n0_ n1_ n2_ n3_ n4_ n5_; clear hbox hg))
                  go_meet
                  case rel => exact ⟨_, (t393), (t383), (t376), (t378), (t384), (t385), (t386), (t387), (t388), (t389), (t390), (t391), (t392), (by first | rfl | (simp; done) | (simp [*]; done)), H', ⟨by have := HK1.out; have := HJ31.out; first | omega | exact Nat.le_refl _⟩, ⟨by exact BK365.out⟩, ⟨by exact BK375.out⟩, ⟨by exact BK380.out⟩, ⟨by exact BK381.out⟩, ⟨by exact HI353.out⟩, ⟨by exact HB.out⟩⟩
                · replace c34 := Bool.eq_false_iff.mpr c34
                  subst c34
                  have H1 : (if t382 = 2 then ((mount_Park.f kj31 t354 t355 t356 t357 t358 t359 t360 t361 t362 t363 x376000_1 x376001_1 x376002_1 x376003_1 x376004_1 x376005_1 x376006_1 x376007_1 x376008_1).bind fun bt394 => (spykeep2_MountValid.j2 kj31 bt394.2.2.2.2.2.2.2.2.2 x18_1 l0 t383 t354 t355 t356 t357 t358 t359 t360 t361 t362 t363 x376000_1 x376001_1 x376002_1 x376003_1 x376004_1 x376005_1 x376006_1 x376007_1 x376008_1 bt394.1 bt394.2.1 bt394.2.2.1 bt394.2.2.2.1 bt394.2.2.2.2.1 bt394.2.2.2.2.2.1 bt394.2.2.2.2.2.2.1 bt394.2.2.2.2.2.2.2.1 bt394.2.2.2.2.2.2.2.2.1)) else (if t382 = 3 then ((mount_Stop.f kj31 t354 t355 t356 t357 t358 t359 t360 t361 t362 t363 x376000_1 x376001_1 x376002_1 x376003_1 x376004_1 x376005_1 x376006_1 x376007_1 x376008_1).bind fun bt404 => (spykeep2_MountValid.j2 kj31 bt404.2.2.2.2.2.2.2.2.2 x18_1 l0 t383 t354 t355 t356 t357 t358 t359 t360 t361 t362 t363 x376000_1 x376001_1 x376002_1 x376003_1 x376004_1 x376005_1 x376006_1 x376007_1 x376008_1 bt404.1 bt404.2.1 bt404.2.2.1 bt404.2.2.2.1 bt404.2.2.2.2.1 bt404.2.2.2.2.2.1 bt404.2.2.2.2.2.2.1 bt404.2.2.2.2.2.2.2.1 bt404.2.2.2.2.2.2.2.2.1)) else (if t382 = 4 then ((spymake_Stream_Range.f l0 t383 (-9) 9).bind fun bt414 => ((mount_Follow.f kj31 t354 t355 t356 t357 t358 t359 t360 t361 t362 t363 x376000_1 x376001_1 x376002_1 x376003_1 x376004_1 x376005_1 x376006_1 x376007_1 x376008_1 (wrap64 (x376002_1 + bt414.1)) x376006_1).bind fun bt416 => (spykeep2_MountValid.j2 kj31 bt416.2.2.2.2.2.2.2.2.2 x18_1 l0 bt414.2 t354 t355 t356 t357 t358 t359 t360 t361 t362 t363 x376000_1 x376001_1 x376002_1 x376003_1 x376004_1 x376005_1 x376006_1 x376007_1 x376008_1 bt416.1 bt416.2.1 bt416.2.2.1 bt416.2.2.2.1 bt416.2.2.2.2.1 bt416.2.2.2.2.2.1 bt416.2.2.2.2.2.2.1 bt416.2.2.2.2.2.2.2.1 bt416.2.2.2.2.2.2.2.2.1))) else (spykeep2_MountValid.j2 kj31 0 x18_1 l0 t383 t354 t355 t356 t357 t358 t359 t360 t361 t362 t363 x376000_1 x376001_1 x376002_1 x376003_1 x376004_1 x376005_1 x376006_1 x376007_1 x376008_1 x376000_1 x376001_1 x376002_1 x376003_1 x376004_1 x376005_1 x376006_1 x376007_1 x376008_1)))) = some r := by rw [if_neg (show ¬ (false = true) by decide)] at H; exact H
                  clear H
                  have H := H1
                  clear H1
                  by_cases c41 : t382 = 2
                  · rw [if_pos c41] at H
                    have c41b0 : (t382 == 2) = true := beq_iff_eq.mpr c41
                    have c41b1 : (t382 != 2) = false := bne_eq_false_iff_eq.mpr c41
                    clear c41
                    replace H := Option.bind_eq_some_iff.mp H
                    obtain ⟨⟨t394, t395, t396, t397, t398, t399, t400, t401, t402, t403⟩, A420, H⟩ := H
                    replace H : (spykeep2_MountValid.j2 kj31 t403 x18_1 l0 t383 t354 t355 t356 t357 t358 t359 t360 t361 t362 t363 x376000_1 x376001_1 x376002_1 x376003_1 x376004_1 x376005_1 x376006_1 x376007_1 x376008_1 t394 t395 t396 t397 t398 t399 t400 t401 t402) = some r := H
                    have A42 := Aside0.mk A420
                    clear A420
                    have H' := Aside0.mk H
                    clear H
                    have hcz43_0 := tch10 BK365.out
                    have hcz44_0 := tch9 BK375.out
                    go_wp2_with (first | ((with_reducible refine gate_callee (f := 16) rfl ?_); refine goesL_ (some 47) rfl rfl Try.func16 (by kernel_rfl) rfl #[.agg #[.int .i64 t354, .int .i64 t355, .int .i64 t356, .int .i64 t357, .int .i64 t358, .int .i64 t359, .int .i64 t360, .int .i64 t361, .int .i64 t362, .int .i64 t363], .agg #[.int .i64 x376000_1, .int .i64 x376001_1, .int .i64 x376002_1, .bool x376003_1, .int .i64 x376004_1, .int .i64 x376005_1, .int .i64 x376006_1, .bool x376007_1, .int .i64 x376008_1]] rfl (by (try simp only [List.map_toArray, List.map_cons, List.map_nil]); first | done | rfl | (simp only [List.length_drop, List.length_take]; rfl)) ?_; (with_reducible refine (mount_Park.calls kj31 t354 t355 t356 t357 t358 t359 t360 t361 t362 t363 x376000_1 x376001_1 x376002_1 x376003_1 x376004_1 x376005_1 x376006_1 x376007_1 x376008_1 t394 t395 t396 t397 t398 t399 t400 t401 t402 t403 _ A42.out).mono ?_); rintro e w45 ⟨rfl, hb⟩; refine ⟨_, rfl, ?_⟩; have n0_ := Aside0.mk (blk_below BK365.out hb); have n1_ := Aside0.mk (blk_below BK375.out hb); have n2_ := Aside0.mk (blk_below BK380.out hb); have n3_ := Aside0.mk (blk_below BK381.out hb); have n4_ := Aside0.mk (IsS26.below (by exact HI353.out) hb); have n5_ := Aside0.mk (below_step (by exact HB.out) hb); clear BK365; clear BK375; clear BK380; clear BK381; clear HI353; clear HB; have BK365 := n0_; have BK375 := n1_; have BK380 := n2_; have BK381 := n3_; have HI353 := n4_; have HB := n5_; clear n0_ n1_ n2_ n3_ n4_ n5_; (try clear hb); (try clear hb2); (try clear hk); (try clear hi)) | ((with_reducible refine gate_store (t := 37) (p := 7) rfl ?_); refine store_row (t := 37) (p := 7) (v := ?vo_w46) ?hgd ?ho ?hN gb381 0 #[.int .i64 x376000_1, .int .i64 x376001_1, .int .i64 x376002_1, .bool x376003_1, .int .i64 x376004_1, .int .i64 x376005_1, .int .i64 x376006_1, .bool x376007_1, .int .i64 x376008_1] [.int .i64 t394, .int .i64 t395, .int .i64 t396, .bool t397, .int .i64 t398, .int .i64 t399, .int .i64 t400, .bool t401, .int .i64 t402] #[.int .i64 t394, .int .i64 t395, .int .i64 t396, .bool t397, .int .i64 t398, .int .i64 t399, .int .i64 t400, .bool t401, .int .i64 t402] ?hx ?hy (by exact BK381.out) szi37 (Nat.le_of_ble_eq_true rfl) ?h1 ?hnew ?_; (case ho => rfl); (case hgd => rfl); (case hN => rfl); (case hx => rfl); (case hy => first | rfl | (go_simp; done) | (go_simp; rfl)); (case h1 => rfl); (case hnew => rfl); intro w46 hbox hg; have n0_ := Aside0.mk (blk_grown BK365.out hg (fun e_ => NB365_381.out (Option.some.inj e_))); have n1_ := Aside0.mk (blk_grown BK375.out hg (fun e_ => NB375_381.out (Option.some.inj e_))); have n2_ := Aside0.mk (blk_grown BK380.out hg (fun e_ => NB380_381.out (Option.some.inj e_))); have n3_ := Aside0.mk (IsS26.grown (by exact HI353.out) hg (fun e_ => NB353_381.out (Option.some.inj e_))); have n4_ := Aside0.mk (pw_below_grown (by exact HB.out) (some gb381) (below_size (by exact HB.out)) hg (fun k_ e_ => by cases e_; exact GE381.out)); have n5_ := Aside0.mk (hbox); clear BK365; clear BK375; clear BK380; clear HI353; clear HB; clear BK381; have BK365 := n0_; have BK375 := n1_; have BK380 := n2_; have HI353 := n3_; have HB := n4_; have BK381 := n5_; clear n0_ n1_ n2_ n3_ n4_ n5_; clear hbox hg))
                    go_meet
                    case rel => exact ⟨_, (t403), (t383), (t376), (t378), (t394), (t395), (t396), (t397), (t398), (t399), (t400), (t401), (t402), (by first | rfl | (simp; done) | (simp [*]; done)), H', ⟨by have := HK1.out; have := HJ31.out; first | omega | exact Nat.le_refl _⟩, ⟨by exact BK365.out⟩, ⟨by exact BK375.out⟩, ⟨by exact BK380.out⟩, ⟨by exact BK381.out⟩, ⟨by exact HI353.out⟩, ⟨by exact HB.out⟩⟩
                  · rw [if_neg c41] at H
                    have c41b0 : (t382 == 2) = false := beq_eq_false_iff_ne.mpr c41
                    have c41b1 : (t382 != 2) = true := bne_iff_ne.mpr c41
                    by_cases c47 : t382 = 3
                    · rw [if_pos c47] at H
                      have c47b0 : (t382 == 3) = true := beq_iff_eq.mpr c47
                      have c47b1 : (t382 != 3) = false := bne_eq_false_iff_eq.mpr c47
                      clear c47
                      replace H := Option.bind_eq_some_iff.mp H
                      obtain ⟨⟨t404, t405, t406, t407, t408, t409, t410, t411, t412, t413⟩, A480, H⟩ := H
                      replace H : (spykeep2_MountValid.j2 kj31 t413 x18_1 l0 t383 t354 t355 t356 t357 t358 t359 t360 t361 t362 t363 x376000_1 x376001_1 x376002_1 x376003_1 x376004_1 x376005_1 x376006_1 x376007_1 x376008_1 t404 t405 t406 t407 t408 t409 t410 t411 t412) = some r := H
                      have A48 := Aside0.mk A480
                      clear A480
                      have H' := Aside0.mk H
                      clear H
                      have hcz49_0 := tch10 BK365.out
                      have hcz50_0 := tch9 BK375.out
                      go_wp2_with (first | ((with_reducible refine gate_callee (f := 17) rfl ?_); refine goesL_ (some 55) rfl rfl Try.func17 (by kernel_rfl) rfl #[.agg #[.int .i64 t354, .int .i64 t355, .int .i64 t356, .int .i64 t357, .int .i64 t358, .int .i64 t359, .int .i64 t360, .int .i64 t361, .int .i64 t362, .int .i64 t363], .agg #[.int .i64 x376000_1, .int .i64 x376001_1, .int .i64 x376002_1, .bool x376003_1, .int .i64 x376004_1, .int .i64 x376005_1, .int .i64 x376006_1, .bool x376007_1, .int .i64 x376008_1]] rfl (by (try simp only [List.map_toArray, List.map_cons, List.map_nil]); first | done | rfl | (simp only [List.length_drop, List.length_take]; rfl)) ?_; (with_reducible refine (mount_Stop.calls kj31 t354 t355 t356 t357 t358 t359 t360 t361 t362 t363 x376000_1 x376001_1 x376002_1 x376003_1 x376004_1 x376005_1 x376006_1 x376007_1 x376008_1 t404 t405 t406 t407 t408 t409 t410 t411 t412 t413 _ A48.out).mono ?_); rintro e w51 ⟨rfl, hb⟩; refine ⟨_, rfl, ?_⟩; have n0_ := Aside0.mk (blk_below BK365.out hb); have n1_ := Aside0.mk (blk_below BK375.out hb); have n2_ := Aside0.mk (blk_below BK380.out hb); have n3_ := Aside0.mk (blk_below BK381.out hb); have n4_ := Aside0.mk (IsS26.below (by exact HI353.out) hb); have n5_ := Aside0.mk (below_step (by exact HB.out) hb); clear BK365; clear BK375; clear BK380; clear BK381; clear HI353; clear HB; have BK365 := n0_; have BK375 := n1_; have BK380 := n2_; have BK381 := n3_; have HI353 := n4_; have HB := n5_; clear n0_ n1_ n2_ n3_ n4_ n5_; (try clear hb); (try clear hb2); (try clear hk); (try clear hi)) | ((with_reducible refine gate_store (t := 37) (p := 7) rfl ?_); refine store_row (t := 37) (p := 7) (v := ?vo_w52) ?hgd ?ho ?hN gb381 0 #[.int .i64 x376000_1, .int .i64 x376001_1, .int .i64 x376002_1, .bool x376003_1, .int .i64 x376004_1, .int .i64 x376005_1, .int .i64 x376006_1, .bool x376007_1, .int .i64 x376008_1] [.int .i64 t404, .int .i64 t405, .int .i64 t406, .bool t407, .int .i64 t408, .int .i64 t409, .int .i64 t410, .bool t411, .int .i64 t412] #[.int .i64 t404, .int .i64 t405, .int .i64 t406, .bool t407, .int .i64 t408, .int .i64 t409, .int .i64 t410, .bool t411, .int .i64 t412] ?hx ?hy (by exact BK381.out) szi37 (Nat.le_of_ble_eq_true rfl) ?h1 ?hnew ?_; (case ho => rfl); (case hgd => rfl); (case hN => rfl); (case hx => rfl); (case hy => first | rfl | (go_simp; done) | (go_simp; rfl)); (case h1 => rfl); (case hnew => rfl); intro w52 hbox hg; have n0_ := Aside0.mk (blk_grown BK365.out hg (fun e_ => NB365_381.out (Option.some.inj e_))); have n1_ := Aside0.mk (blk_grown BK375.out hg (fun e_ => NB375_381.out (Option.some.inj e_))); have n2_ := Aside0.mk (blk_grown BK380.out hg (fun e_ => NB380_381.out (Option.some.inj e_))); have n3_ := Aside0.mk (IsS26.grown (by exact HI353.out) hg (fun e_ => NB353_381.out (Option.some.inj e_))); have n4_ := Aside0.mk (pw_below_grown (by exact HB.out) (some gb381) (below_size (by exact HB.out)) hg (fun k_ e_ => by cases e_; exact GE381.out)); have n5_ := Aside0.mk (hbox); clear BK365; clear BK375; clear BK380; clear HI353; clear HB; clear BK381; have BK365 := n0_; have BK375 := n1_; have BK380 := n2_; have HI353 := n3_; have HB := n4_; have BK381 := n5_; clear n0_ n1_ n2_ n3_ n4_ n5_; clear hbox hg))
                      go_meet
                      case rel => exact ⟨_, (t413), (t383), (t376), (t378), (t404), (t405), (t406), (t407), (t408), (t409), (t410), (t411), (t412), (by first | rfl | (simp; done) | (simp [*]; done)), H', ⟨by have := HK1.out; have := HJ31.out; first | omega | exact Nat.le_refl _⟩, ⟨by exact BK365.out⟩, ⟨by exact BK375.out⟩, ⟨by exact BK380.out⟩, ⟨by exact BK381.out⟩, ⟨by exact HI353.out⟩, ⟨by exact HB.out⟩⟩
                    · rw [if_neg c47] at H
                      have c47b0 : (t382 == 3) = false := beq_eq_false_iff_ne.mpr c47
                      have c47b1 : (t382 != 3) = true := bne_iff_ne.mpr c47
                      by_cases c53 : t382 = 4
                      · rw [if_pos c53] at H
                        have c53b0 : (t382 == 4) = true := beq_iff_eq.mpr c53
                        have c53b1 : (t382 != 4) = false := bne_eq_false_iff_eq.mpr c53
                        clear c53
                        replace H := Option.bind_eq_some_iff.mp H
                        obtain ⟨⟨t414, t415⟩, A540, H⟩ := H
                        replace H : ((mount_Follow.f kj31 t354 t355 t356 t357 t358 t359 t360 t361 t362 t363 x376000_1 x376001_1 x376002_1 x376003_1 x376004_1 x376005_1 x376006_1 x376007_1 x376008_1 (wrap64 (x376002_1 + t414)) x376006_1).bind fun bt416 => (spykeep2_MountValid.j2 kj31 bt416.2.2.2.2.2.2.2.2.2 x18_1 l0 t415 t354 t355 t356 t357 t358 t359 t360 t361 t362 t363 x376000_1 x376001_1 x376002_1 x376003_1 x376004_1 x376005_1 x376006_1 x376007_1 x376008_1 bt416.1 bt416.2.1 bt416.2.2.1 bt416.2.2.2.1 bt416.2.2.2.2.1 bt416.2.2.2.2.2.1 bt416.2.2.2.2.2.2.1 bt416.2.2.2.2.2.2.2.1 bt416.2.2.2.2.2.2.2.2.1)) = some r := H
                        have A54 := Aside0.mk A540
                        clear A540
                        replace H := Option.bind_eq_some_iff.mp H
                        obtain ⟨⟨t416, t417, t418, t419, t420, t421, t422, t423, t424, t425⟩, A550, H⟩ := H
                        replace H : (spykeep2_MountValid.j2 kj31 t425 x18_1 l0 t415 t354 t355 t356 t357 t358 t359 t360 t361 t362 t363 x376000_1 x376001_1 x376002_1 x376003_1 x376004_1 x376005_1 x376006_1 x376007_1 x376008_1 t416 t417 t418 t419 t420 t421 t422 t423 t424) = some r := H
                        have A55 := Aside0.mk A550
                        clear A550
                        have H' := Aside0.mk H
                        clear H
                        try go_wp2
                        have n0_ := Aside0.mk (blk_drew BK365.out)
                        have n1_ := Aside0.mk (blk_drew BK375.out)
                        have n2_ := Aside0.mk (blk_drew BK380.out)
                        have n3_ := Aside0.mk (blk_drew BK381.out)
                        have n4_ := Aside0.mk (IsS26.drew HI353.out)
                        have n5_ := Aside0.mk (below_drew1 HB.out)
                        clear BK365
                        clear BK375
                        clear BK380
                        clear BK381
                        clear HI353
                        clear HB
                        have BK365 := n0_
                        have BK375 := n1_
                        have BK380 := n2_
                        have BK381 := n3_
                        have HI353 := n4_
                        have HB := n5_
                        clear n0_ n1_ n2_ n3_ n4_ n5_
                        refine start_ (n := 11) (S := fun w' => w'.cell? ⟨gb375, 0, none⟩ = some (.int .i64 x376000_1) ∧ w'.cell? ⟨gb375, 1, none⟩ = some (.int .i64 x376001_1) ∧ w'.cell? ⟨gb375, 2, none⟩ = some (.int .i64 x376002_1) ∧ w'.cell? ⟨gb375, 3, none⟩ = some (.bool x376003_1) ∧ w'.cell? ⟨gb375, 4, none⟩ = some (.int .i64 x376004_1) ∧ w'.cell? ⟨gb375, 5, none⟩ = some (.int .i64 x376005_1) ∧ w'.cell? ⟨gb375, 6, none⟩ = some (.int .i64 x376006_1) ∧ w'.cell? ⟨gb375, 7, none⟩ = some (.bool x376007_1) ∧ w'.cell? ⟨gb375, 8, none⟩ = some (.int .i64 x376008_1)) (ds := []) #[false, false, false, false, false, false, false, false, false, false, false] (by kernel_rfl) rfl rfl ⟨(blk_cell BK375.out 0).trans rfl, (blk_cell BK375.out 1).trans rfl, (blk_cell BK375.out 2).trans rfl, (blk_cell BK375.out 3).trans rfl, (blk_cell BK375.out 4).trans rfl, (blk_cell BK375.out 5).trans rfl, (blk_cell BK375.out 6).trans rfl, (blk_cell BK375.out 7).trans rfl, (blk_cell BK375.out 8).trans rfl⟩ (fun hHeld => ?_); refine with_tabW spykeep2_MountValid.tab19 spykeep2_MountValid.bits19 (fun HT_ HW_ => ?_)
                        generalize wc.drew = w56 at BK365 BK375 BK380 BK381 HI353 HB hHeld ⊢
                        refine pure_ (i := 0) (N := some 60) (v := ?_) (a' := ?_) #[true, false, false, false, false, false, false, false, false, false, false] rfl rfl (any_of HT_.out (by kernel_rfl)) (fun _ _ _ h => h) (Or.inl ⟨by rfl, ?_⟩) ?_ ?_
                        rotate_left
                        · intro w'
                          go_simp
                          with_reducible rfl
                        rotate_left
                        · simp only [Act.put, List.setIfInBounds_toArray, List.set_cons_zero, List.set_cons_succ, i64_w, i32_w]
                          rfl
                        refine pure_ (i := 1) (N := some 61) (v := ?_) (a' := ?_) #[true, true, false, false, false, false, false, false, false, false, false] rfl rfl (any_of HT_.out (by kernel_rfl)) (fun _ _ _ h => h) (Or.inl ⟨by rfl, ?_⟩) ?_ ?_
                        rotate_left
                        · intro w'
                          go_simp
                          with_reducible rfl
                        rotate_left
                        · simp only [Act.put, List.setIfInBounds_toArray, List.set_cons_zero, List.set_cons_succ, i64_w, i32_w]
                          rfl
                        refine pure_ (i := 3) (N := some 63) (v := ?_) (a' := ?_) #[true, true, false, true, false, false, false, false, false, false, false] rfl rfl (any_of HT_.out (by kernel_rfl)) (fun _ _ _ h => h) (Or.inl ⟨by rfl, ?_⟩) ?_ ?_
                        rotate_left
                        · intro w'
                          go_simp
                          with_reducible rfl
                        rotate_left
                        · simp only [Act.put, List.setIfInBounds_toArray, List.set_cons_zero, List.set_cons_succ, i64_w, i32_w]
                          rfl
                        refine pure_ (i := 6) (N := some 66) (v := ?_) (a' := ?_) #[true, true, false, true, false, false, true, false, false, false, false] rfl rfl (any_of HT_.out (by kernel_rfl)) (fun _ _ _ h => h) (Or.inl ⟨by rfl, ?_⟩) ?_ ?_
                        rotate_left
                        · intro w'
                          go_simp
                          with_reducible rfl
                        rotate_left
                        · simp only [Act.put, List.setIfInBounds_toArray, List.set_cons_zero, List.set_cons_succ, i64_w, i32_w]
                          rfl
                        refine pure_ (i := 7) (N := some 67) (v := ?_) (a' := ?_) #[true, true, false, true, false, false, true, true, false, false, false] rfl rfl (any_of HT_.out (by kernel_rfl)) (fun _ _ _ h => h) (Or.inl ⟨by rfl, ?_⟩) ?_ ?_
                        rotate_left
                        · intro w'
                          go_simp
                          with_reducible rfl
                        rotate_left
                        · simp only [Act.put, List.setIfInBounds_toArray, List.set_cons_zero, List.set_cons_succ, i64_w, i32_w]
                          rfl
                        refine take_ (i := 2) (N := some 62) (v := ?_) (a' := ?_) #[true, true, true, true, false, false, true, true, false, false, false] rfl rfl (take_ofW HT_.out HW_.out (by kernel_rfl)) (fun _ _ _ h => h) (Or.inl ⟨by rfl, ?_⟩) hHeld ?_ ?_
                        rotate_left
                        · rintro w' ⟨s0, s1, s2, s3, s4, s5, s6, s7, s8⟩
                          go_simp
                          with_reducible rfl
                        rotate_left
                        · simp only [Act.put, List.setIfInBounds_toArray, List.set_cons_zero, List.set_cons_succ, i64_w, i32_w]
                          rfl
                        refine take_ (i := 8) (N := some 68) (v := ?_) (a' := ?_) #[true, true, true, true, false, false, true, true, true, false, false] rfl rfl (take_ofW HT_.out HW_.out (by kernel_rfl)) (fun _ _ _ h => h) (Or.inl ⟨by rfl, ?_⟩) hHeld ?_ ?_
                        rotate_left
                        · rintro w' ⟨s0, s1, s2, s3, s4, s5, s6, s7, s8⟩
                          go_simp
                          with_reducible rfl
                        rotate_left
                        · simp only [Act.put, List.setIfInBounds_toArray, List.set_cons_zero, List.set_cons_succ, i64_w, i32_w]
                          rfl
                        refine one_ (i := 4) (N := some 64) #[true, true, true, true, true, false, true, true, true, false, false] rfl rfl (one_of HT_.out (by kernel_rfl)) (by decide) (fun K hK => ?_)
                        refine goes_ Try.func18 (by kernel_rfl) rfl #[.pointer (some ⟨gb353, 0, none⟩), .int .i64 (-9), .int .i64 9] (by rfl) rfl rfl (by (try simp only [List.map_toArray, List.map_cons, List.map_nil]); first | done | rfl | (simp only [List.length_drop, List.length_take]; rfl)) ?_
                        with_reducible refine (spymake_Stream_Range.calls gb353 l0 t383 (-9) 9 t414 t415 w _ ?side1 ?side2 A54.out).mono ?_
                        (case side1 => exact HI353.out)
                        (case side2 => exact HB.out)
                        rintro e w57 ⟨rfl, hi, hb, hk⟩
                        refine ⟨_, rfl, ?_⟩
                        have n0_ := Aside0.mk (KeepBut.blk hk BK365.out NB365_353.out (by simp))
                        have n1_ := Aside0.mk (KeepBut.blk hk BK375.out NB375_353.out (by simp))
                        have n2_ := Aside0.mk (KeepBut.blk hk BK380.out NB380_353.out (by simp))
                        have n3_ := Aside0.mk (KeepBut.blk hk BK381.out NB381_353.out (by simp))
                        have n4_ := Aside0.mk (hb)
                        have n5_ := Aside0.mk (hi)
                        clear BK365
                        clear BK375
                        clear BK380
                        clear BK381
                        clear HB
                        clear HI353
                        have BK365 := n0_
                        have BK375 := n1_
                        have BK380 := n2_
                        have BK381 := n3_
                        have HB := n4_
                        have HI353 := n5_
                        clear n0_ n1_ n2_ n3_ n4_ n5_
                        (try clear hb)
                        (try clear hb2)
                        (try clear hk)
                        (try clear hi)
                        refine hK.out _ _ ⟨(blk_cell BK375.out 0).trans rfl, (blk_cell BK375.out 1).trans rfl, (blk_cell BK375.out 2).trans rfl, (blk_cell BK375.out 3).trans rfl, (blk_cell BK375.out 4).trans rfl, (blk_cell BK375.out 5).trans rfl, (blk_cell BK375.out 6).trans rfl, (blk_cell BK375.out 7).trans rfl, (blk_cell BK375.out 8).trans rfl⟩ (fun hHeld => ?_)
                        clear hK K
                        refine norm_ (a' := ?_) ?_ ?_
                        rotate_left
                        · show Act.put _ (some 64) _ = _
                          simp only [Act.put, List.setIfInBounds_toArray, List.set_cons_zero, List.set_cons_succ, i64_w, i32_w]
                          rfl
                        refine pure_ (i := 5) (N := some 65) (v := ?_) (a' := ?_) #[true, true, true, true, true, true, true, true, true, false, false] rfl rfl (any_of HT_.out (by kernel_rfl)) (fun _ _ _ h => h) (Or.inl ⟨by rfl, ?_⟩) ?_ ?_
                        rotate_left
                        · intro w'
                          go_simp
                          with_reducible rfl
                        rotate_left
                        · simp only [Act.put, List.setIfInBounds_toArray, List.set_cons_zero, List.set_cons_succ, i64_w, i32_w]
                          rfl
                        refine pure_ (i := 9) (N := some 69) (v := ?_) (a' := ?_) #[true, true, true, true, true, true, true, true, true, true, false] rfl rfl (any_of HT_.out (by kernel_rfl)) (fun _ _ _ h => h) (Or.inl ⟨by rfl, ?_⟩) ?_ ?_
                        rotate_left
                        · intro w'
                          go_simp
                          with_reducible rfl
                        rotate_left
                        · simp only [Act.put, List.setIfInBounds_toArray, List.set_cons_zero, List.set_cons_succ, i64_w, i32_w]
                          rfl
                        refine one_ (i := 10) (N := none) #[true, true, true, true, true, true, true, true, true, true, true] rfl rfl (one_of HT_.out (by kernel_rfl)) (by decide) (fun K hK => ?_)
                        have hs58 : w57.cell? ⟨gb380, 0, none⟩ = some (.int .i64 t376) := (blk_cell BK380.out 0).trans rfl
                        have hfs58 := blk_frozen BK380.out 0
                        have hns58_0 := NB365_380.out
                        have hns58_1 := NB375_380.out
                        have hns58_3 := NB381_380.out
                        have hms58_0 := NB380_365.out
                        have hms58_1 := NB380_375.out
                        have hms58_3 := NB380_381.out
                        have hs59 : w57.cell? ⟨gb380, 1, none⟩ = some (.int .i64 t378) := (blk_cell BK380.out 1).trans rfl
                        have hfs59 := blk_frozen BK380.out 1
                        have hns59_0 := NB365_380.out
                        have hns59_1 := NB375_380.out
                        have hns59_3 := NB381_380.out
                        have hms59_0 := NB380_365.out
                        have hms59_1 := NB380_375.out
                        have hms59_3 := NB380_381.out
                        refine skip_ (w1 := ?_) (by rfl) rfl ?_ ?_
                        rotate_left
                        · go_simp
                          rfl
                        refine hK.out _ _ ⟨((cell_far (p := ⟨gb380, _, none⟩) NB375_380.out _).trans (((cell_far (p := ⟨gb380, _, none⟩) NB375_380.out _).trans (hHeld.1)))), ((cell_far (p := ⟨gb380, _, none⟩) NB375_380.out _).trans (((cell_far (p := ⟨gb380, _, none⟩) NB375_380.out _).trans (hHeld.2.1)))), ((cell_far (p := ⟨gb380, _, none⟩) NB375_380.out _).trans (((cell_far (p := ⟨gb380, _, none⟩) NB375_380.out _).trans (hHeld.2.2.1)))), ((cell_far (p := ⟨gb380, _, none⟩) NB375_380.out _).trans (((cell_far (p := ⟨gb380, _, none⟩) NB375_380.out _).trans (hHeld.2.2.2.1)))), ((cell_far (p := ⟨gb380, _, none⟩) NB375_380.out _).trans (((cell_far (p := ⟨gb380, _, none⟩) NB375_380.out _).trans (hHeld.2.2.2.2.1)))), ((cell_far (p := ⟨gb380, _, none⟩) NB375_380.out _).trans (((cell_far (p := ⟨gb380, _, none⟩) NB375_380.out _).trans (hHeld.2.2.2.2.2.1)))), ((cell_far (p := ⟨gb380, _, none⟩) NB375_380.out _).trans (((cell_far (p := ⟨gb380, _, none⟩) NB375_380.out _).trans (hHeld.2.2.2.2.2.2.1)))), ((cell_far (p := ⟨gb380, _, none⟩) NB375_380.out _).trans (((cell_far (p := ⟨gb380, _, none⟩) NB375_380.out _).trans (hHeld.2.2.2.2.2.2.2.1)))), ((cell_far (p := ⟨gb380, _, none⟩) NB375_380.out _).trans (((cell_far (p := ⟨gb380, _, none⟩) NB375_380.out _).trans (hHeld.2.2.2.2.2.2.2.2))))⟩ (fun hHeld => ?_)
                        clear hK K
                        refine done_ (done_of HT_.out (by kernel_rfl)) ?_
                        have hnb60 := NB365_380.out
                        have hnc60 := NB380_365.out
                        have hcz61_0 := tch10 BK365.out
                        have hnb62 := NB375_380.out
                        have hnc62 := NB380_375.out
                        have hcz63_0 := tch9 BK375.out
                        have hcz64_0 := tch2 BK380.out
                        try go_wp2_with (first | ((with_reducible refine gate_callee (f := 19) rfl ?_); refine goesL_ (some 74) rfl rfl Try.func19 (by kernel_rfl) rfl #[.agg #[.int .i64 t354, .int .i64 t355, .int .i64 t356, .int .i64 t357, .int .i64 t358, .int .i64 t359, .int .i64 t360, .int .i64 t361, .int .i64 t362, .int .i64 t363], .agg #[.int .i64 x376000_1, .int .i64 x376001_1, .int .i64 x376002_1, .bool x376003_1, .int .i64 x376004_1, .int .i64 x376005_1, .int .i64 x376006_1, .bool x376007_1, .int .i64 x376008_1], .agg #[.int .i64 (wrap64 (x376002_1 + t414)), .int .i64 x376006_1]] rfl (by (try simp only [List.map_toArray, List.map_cons, List.map_nil]); first | done | rfl | (simp only [List.length_drop, List.length_take]; rfl)) ?_; (with_reducible refine (mount_Follow.calls kj31 t354 t355 t356 t357 t358 t359 t360 t361 t362 t363 x376000_1 x376001_1 x376002_1 x376003_1 x376004_1 x376005_1 x376006_1 x376007_1 x376008_1 (wrap64 (x376002_1 + t414)) x376006_1 t416 t417 t418 t419 t420 t421 t422 t423 t424 t425 _ A55.out).mono ?_); rintro e w65 ⟨rfl, hb⟩; refine ⟨_, rfl, ?_⟩; have n0_ := Aside0.mk (blk_below (g := gb365) (o := .cells #[.int .i64 t354, .int .i64 t355, .int .i64 t356, .int .i64 t357, .int .i64 t358, .int .i64 t359, .int .i64 t360, .int .i64 t361, .int .i64 t362, .int .i64 t363] 32 (0, 0)) (by exact (blk_far (blk_far BK365.out NB365_380.out _) NB365_380.out _)) hb); have n1_ := Aside0.mk (blk_below (g := gb375) (o := .cells #[.int .i64 x376000_1, .int .i64 x376001_1, .int .i64 x376002_1, .bool x376003_1, .int .i64 x376004_1, .int .i64 x376005_1, .int .i64 x376006_1, .bool x376007_1, .int .i64 x376008_1] 37 (0, 0)) (by exact (blk_far (blk_far BK375.out NB375_380.out _) NB375_380.out _)) hb); have n2_ := Aside0.mk (blk_below (g := gb380) (o := .cells #[.int .i64 (wrap64 (x376002_1 + t414)), .int .i64 x376006_1] 30 (0, 0)) (by exact (blk_put (cs := #[.int .i64 (wrap64 (x376002_1 + t414)), .int .i64 t378]) (blk_put (cs := #[.int .i64 t376, .int .i64 t378]) BK380.out 0 _ rfl) 1 _ rfl)) hb); have n3_ := Aside0.mk (blk_below (g := gb381) (o := .cells #[.int .i64 x376000_1, .int .i64 x376001_1, .int .i64 x376002_1, .bool x376003_1, .int .i64 x376004_1, .int .i64 x376005_1, .int .i64 x376006_1, .bool x376007_1, .int .i64 x376008_1] 37 (0, 0)) (by exact (blk_far (blk_far BK381.out NB381_380.out _) NB381_380.out _)) hb); have n4_ := Aside0.mk (IsS26.below (show IsS26 w ((w57.setCell ⟨gb380, 0, none⟩ (.int .i64 (wrap64 (x376002_1 + t414)))).setCell ⟨gb380, 1, none⟩ (.int .i64 x376006_1)) gb353 l0 t415 from by repeat (first | (with_reducible first | exact HI353.out | apply IsS26.alloc | apply IsS26.drewN | apply IsS26.drew | apply IsS26.set_1 | refine IsS26.far ?_ NB353_365.out _ | refine IsS26.far ?_ NB353_375.out _ | refine IsS26.far ?_ NB353_380.out _ | refine IsS26.far ?_ NB353_381.out _) | exact HI353.out)) hb); have n5_ := Aside0.mk (below_step (by repeat (first | (with_reducible first | exact HB.out | apply below_alloc | apply pw_below_drewN | apply below_drew1 | refine below_set ?_ (IsS26.ge HI353.out) | refine below_set ?_ GE365.out | refine below_set ?_ GE375.out | refine below_set ?_ GE380.out | refine below_set ?_ GE381.out) | exact HB.out)) hb); clear BK365; clear BK375; clear BK380; clear BK381; clear HI353; clear HB; have BK365 := n0_; have BK375 := n1_; have BK380 := n2_; have BK381 := n3_; have HI353 := n4_; have HB := n5_; clear n0_ n1_ n2_ n3_ n4_ n5_; (try clear hb); (try clear hb2); (try clear hk); (try clear hi)) | ((with_reducible refine gate_store (t := 37) (p := 7) rfl ?_); refine store_row (t := 37) (p := 7) (v := ?vo_w66) ?hgd ?ho ?hN gb381 0 #[.int .i64 x376000_1, .int .i64 x376001_1, .int .i64 x376002_1, .bool x376003_1, .int .i64 x376004_1, .int .i64 x376005_1, .int .i64 x376006_1, .bool x376007_1, .int .i64 x376008_1] [.int .i64 t416, .int .i64 t417, .int .i64 t418, .bool t419, .int .i64 t420, .int .i64 t421, .int .i64 t422, .bool t423, .int .i64 t424] #[.int .i64 t416, .int .i64 t417, .int .i64 t418, .bool t419, .int .i64 t420, .int .i64 t421, .int .i64 t422, .bool t423, .int .i64 t424] ?hx ?hy (by exact BK381.out) szi37 (Nat.le_of_ble_eq_true rfl) ?h1 ?hnew ?_; (case ho => rfl); (case hgd => rfl); (case hN => rfl); (case hx => rfl); (case hy => first | rfl | (go_simp; done) | (go_simp; rfl)); (case h1 => rfl); (case hnew => rfl); intro w66 hbox hg; have n0_ := Aside0.mk (blk_grown BK365.out hg (fun e_ => NB365_381.out (Option.some.inj e_))); have n1_ := Aside0.mk (blk_grown BK375.out hg (fun e_ => NB375_381.out (Option.some.inj e_))); have n2_ := Aside0.mk (blk_grown BK380.out hg (fun e_ => NB380_381.out (Option.some.inj e_))); have n3_ := Aside0.mk (IsS26.grown (by exact HI353.out) hg (fun e_ => NB353_381.out (Option.some.inj e_))); have n4_ := Aside0.mk (pw_below_grown (by exact HB.out) (some gb381) (below_size (by exact HB.out)) hg (fun k_ e_ => by cases e_; exact GE381.out)); have n5_ := Aside0.mk (hbox); clear BK365; clear BK375; clear BK380; clear HI353; clear HB; clear BK381; have BK365 := n0_; have BK375 := n1_; have BK380 := n2_; have HI353 := n3_; have HB := n4_; have BK381 := n5_; clear n0_ n1_ n2_ n3_ n4_ n5_; clear hbox hg))
                        go_meet
                        case rel => exact ⟨_, (t425), (t415), (wrap64 (x376002_1 + t414)), (x376006_1), (t416), (t417), (t418), (t419), (t420), (t421), (t422), (t423), (t424), (by first | rfl | (simp; done) | (simp [*]; done)), H', ⟨by have := HK1.out; have := HJ31.out; first | omega | exact Nat.le_refl _⟩, ⟨by exact BK365.out⟩, ⟨by exact BK375.out⟩, ⟨by exact BK380.out⟩, ⟨by exact BK381.out⟩, ⟨by exact HI353.out⟩, ⟨by exact HB.out⟩⟩
                      · rw [if_neg c53] at H
                        have c53b0 : (t382 == 4) = false := beq_eq_false_iff_ne.mpr c53
                        have c53b1 : (t382 != 4) = true := bne_iff_ne.mpr c53
                        have H' := Aside0.mk H
                        clear H
                        go_wp2
                        go_meet
                        case rel => exact ⟨_, (0), (t383), (t376), (t378), (x376000_1), (x376001_1), (x376002_1), (x376003_1), (x376004_1), (x376005_1), (x376006_1), (x376007_1), (x376008_1), (by first | rfl | (simp; done) | (simp [*]; done)), H', ⟨by have := HK1.out; have := HJ31.out; first | omega | exact Nat.le_refl _⟩, ⟨by exact BK365.out⟩, ⟨by exact BK375.out⟩, ⟨by exact BK380.out⟩, ⟨by exact BK381.out⟩, ⟨by exact HI353.out⟩, ⟨by exact HB.out⟩⟩
          case rest =>
            clear HC19
            try clear c1
            try clear c2
            try clear p2
            try clear c3
            try clear c4
            try clear c5
            try clear c6
            try clear p6
            try clear c10
            try clear c11
            try clear c12
            try clear c13
            try clear c14
            try clear c15
            try clear c15b0
            try clear c16
            try clear c17
            try clear c18
            try clear c19
            try clear c27
            try clear c33
            try clear c33b0
            try clear c33b1
            try clear c34
            try clear c41
            try clear c41b0
            try clear c41b1
            try clear c47
            try clear c47b0
            try clear c47b1
            try clear c53
            try clear c53b0
            try clear c53b1
            try clear c60
            try clear c62
            try clear p64
            try clear hcz11_0
            try clear hcz28_0
            try clear hcz36_0
            try clear hcz37_0
            try clear hcz38_0
            try clear hcz43_0
            try clear hcz44_0
            try clear hcz49_0
            try clear hcz50_0
            try clear hcz61_0
            try clear hcz63_0
            try clear hcz64_0
            try clear p2
            obtain ⟨kq, x8_18, x354001_18, x381000_18, x381001_18, x382000_18, x382001_18, x382002_18, x382003_18, x382004_18, x382005_18, x382006_18, x382007_18, x382008_18, rfl, HA, HJ18, BK365, BK375, BK380, BK381, HI353, HB⟩ := hcut
            cases kq with
            | zero => exact absurd HA.out (by simp [spykeep2_MountValid.j2])
            | succ kj18 =>
              have H := HA.out
              clear HA
              simp only [spykeep2_MountValid.j2] at H
              have HC67 := Aside0.mk H
              clear H
              go_upto_if 78 with (fail)
              go_cut [] (fun wc => ∃ (kq : Nat) (x376000_66 : Int) (x376001_66 : Int) (x376002_66 : Int) (x376003_66 : Bool) (x376004_66 : Int) (x376005_66 : Int) (x376006_66 : Int) (x376007_66 : Bool) (x376008_66 : Int), Aside0 (spykeep2_MountValid.j3 kq x18_1 l0 x354001_18 t354 t355 t356 t357 t358 t359 t360 t361 t362 t363 x376000_66 x376001_66 x376002_66 x376003_66 x376004_66 x376005_66 x376006_66 x376007_66 x376008_66 = some r) ∧ Aside0 (kq ≤ kj18) ∧ Aside0 (wc.heap[gb365]? = some (.cells #[.int .i64 t354, .int .i64 t355, .int .i64 t356, .int .i64 t357, .int .i64 t358, .int .i64 t359, .int .i64 t360, .int .i64 t361, .int .i64 t362, .int .i64 t363] 32 (0, 0))) ∧ Aside0 (wc.heap[gb375]? = some (.cells #[.int .i64 x376000_66, .int .i64 x376001_66, .int .i64 x376002_66, .bool x376003_66, .int .i64 x376004_66, .int .i64 x376005_66, .int .i64 x376006_66, .bool x376007_66, .int .i64 x376008_66] 37 (0, 0))) ∧ Aside0 (wc.heap[gb380]? = some (.cells #[.int .i64 x381000_18, .int .i64 x381001_18] 30 (0, 0))) ∧ Aside0 (wc.heap[gb381]? = some (.cells #[.int .i64 x382000_18, .int .i64 x382001_18, .int .i64 x382002_18, .bool x382003_18, .int .i64 x382004_18, .int .i64 x382005_18, .int .i64 x382006_18, .bool x382007_18, .int .i64 x382008_18] 37 (0, 0))) ∧ Aside0 (IsS26 w wc gb353 l0 x354001_18) ∧ Aside0 (Below w.heap.size w wc))
              case first =>
                have H := HC67.out
                clear HC67
                by_cases c68 : x8_18 = 0
                · rw [if_pos c68] at H
                  have c68b0 : (x8_18 == 0) = true := beq_iff_eq.mpr c68
                  have c68b1 : (x8_18 != 0) = false := bne_eq_false_iff_eq.mpr c68
                  clear c68
                  (first | rw [c68b0] | (simp only [i64_w, i32_w]; rw [c68b0]) | skip)
                  have H' := Aside0.mk H
                  clear H
                  have hcz69_0 := tch9 BK381.out
                  go_wp2_with (first | ((with_reducible refine gate_store (t := 37) (p := 5) rfl ?_); refine store_row (t := 37) (p := 5) (v := ?vo_w70) ?hgd ?ho ?hN gb375 0 #[.int .i64 x376000_1, .int .i64 x376001_1, .int .i64 x376002_1, .bool x376003_1, .int .i64 x376004_1, .int .i64 x376005_1, .int .i64 x376006_1, .bool x376007_1, .int .i64 x376008_1] [.int .i64 x382000_18, .int .i64 x382001_18, .int .i64 x382002_18, .bool x382003_18, .int .i64 x382004_18, .int .i64 x382005_18, .int .i64 x382006_18, .bool x382007_18, .int .i64 x382008_18] #[.int .i64 x382000_18, .int .i64 x382001_18, .int .i64 x382002_18, .bool x382003_18, .int .i64 x382004_18, .int .i64 x382005_18, .int .i64 x382006_18, .bool x382007_18, .int .i64 x382008_18] ?hx ?hy (by exact BK375.out) szi37 (Nat.le_of_ble_eq_true rfl) ?h1 ?hnew ?_; (case ho => rfl); (case hgd => rfl); (case hN => rfl); (case hx => rfl); (case hy => first | rfl | (go_simp; done) | (go_simp; rfl)); (case h1 => rfl); (case hnew => rfl); intro w70 hbox hg; have n0_ := Aside0.mk (blk_grown BK365.out hg (fun e_ => NB365_375.out (Option.some.inj e_))); have n1_ := Aside0.mk (blk_grown BK380.out hg (fun e_ => NB380_375.out (Option.some.inj e_))); have n2_ := Aside0.mk (blk_grown BK381.out hg (fun e_ => NB381_375.out (Option.some.inj e_))); have n3_ := Aside0.mk (IsS26.grown (by exact HI353.out) hg (fun e_ => NB353_375.out (Option.some.inj e_))); have n4_ := Aside0.mk (pw_below_grown (by exact HB.out) (some gb375) (below_size (by exact HB.out)) hg (fun k_ e_ => by cases e_; exact GE375.out)); have n5_ := Aside0.mk (hbox); clear BK365; clear BK380; clear BK381; clear HI353; clear HB; clear BK375; have BK365 := n0_; have BK380 := n1_; have BK381 := n2_; have HI353 := n3_; have HB := n4_; have BK375 := n5_; clear n0_ n1_ n2_ n3_ n4_ n5_; clear hbox hg))
                  go_meet
                  case rel => exact ⟨_, (x382000_18), (x382001_18), (x382002_18), (x382003_18), (x382004_18), (x382005_18), (x382006_18), (x382007_18), (x382008_18), H', ⟨by have := HK1.out; have := HJ18.out; first | omega | exact Nat.le_refl _⟩, ⟨by exact BK365.out⟩, ⟨by exact BK375.out⟩, ⟨by exact BK380.out⟩, ⟨by exact BK381.out⟩, ⟨by exact HI353.out⟩, ⟨by exact HB.out⟩⟩
                · rw [if_neg c68] at H
                  have c68b0 : (x8_18 == 0) = false := beq_eq_false_iff_ne.mpr c68
                  have c68b1 : (x8_18 != 0) = true := bne_iff_ne.mpr c68
                  (first | rw [c68b0] | (simp only [i64_w, i32_w]; rw [c68b0]) | skip)
                  by_cases c71 : x8_18 = 10
                  · rw [if_pos c71] at H
                    have c71b0 : (x8_18 == 10) = true := beq_iff_eq.mpr c71
                    have c71b1 : (x8_18 != 10) = false := bne_eq_false_iff_eq.mpr c71
                    clear c71
                    have H' := Aside0.mk H
                    clear H
                    go_wp2
                    go_meet
                    case rel => exact ⟨_, (x376000_1), (x376001_1), (x376002_1), (x376003_1), (x376004_1), (x376005_1), (x376006_1), (x376007_1), (x376008_1), H', ⟨by have := HK1.out; have := HJ18.out; first | omega | exact Nat.le_refl _⟩, ⟨by exact BK365.out⟩, ⟨by exact BK375.out⟩, ⟨by exact BK380.out⟩, ⟨by exact BK381.out⟩, ⟨by exact HI353.out⟩, ⟨by exact HB.out⟩⟩
                  · rw [if_neg c71] at H
                    have c71b0 : (x8_18 == 10) = false := beq_eq_false_iff_ne.mpr c71
                    have c71b1 : (x8_18 != 10) = true := bne_iff_ne.mpr c71
                    by_cases c72 : x8_18 = 4
                    · rw [if_pos c72] at H
                      have c72b0 : (x8_18 == 4) = true := beq_iff_eq.mpr c72
                      have c72b1 : (x8_18 != 4) = false := bne_eq_false_iff_eq.mpr c72
                      clear c72
                      have H' := Aside0.mk H
                      clear H
                      go_wp2
                      go_meet
                      case rel => exact ⟨_, (x376000_1), (x376001_1), (x376002_1), (x376003_1), (x376004_1), (x376005_1), (x376006_1), (x376007_1), (x376008_1), H', ⟨by have := HK1.out; have := HJ18.out; first | omega | exact Nat.le_refl _⟩, ⟨by exact BK365.out⟩, ⟨by exact BK375.out⟩, ⟨by exact BK380.out⟩, ⟨by exact BK381.out⟩, ⟨by exact HI353.out⟩, ⟨by exact HB.out⟩⟩
                    · rw [if_neg c72] at H
                      have c72b0 : (x8_18 == 4) = false := beq_eq_false_iff_ne.mpr c72
                      have c72b1 : (x8_18 != 4) = true := bne_iff_ne.mpr c72
                      obtain rfl := Option.some.inj H
                      go_wp2
                      go_ret
                      exact ⟨by first | rfl | (simp [errW_none, errW_some] <;> rfl) | (simp [*, errW_none, errW_some] <;> rfl), by exact HB.out⟩
              case rest =>
                clear HC67
                try clear c1
                try clear c2
                try clear p2
                try clear c3
                try clear c4
                try clear c5
                try clear c6
                try clear p6
                try clear c7
                try clear c10
                try clear c11
                try clear c12
                try clear c13
                try clear c14
                try clear c15
                try clear c15b0
                try clear c16
                try clear c17
                try clear c18
                try clear c19
                try clear c27
                try clear c33
                try clear c33b0
                try clear c33b1
                try clear c34
                try clear c41
                try clear c41b0
                try clear c41b1
                try clear c47
                try clear c47b0
                try clear c47b1
                try clear c53
                try clear c53b0
                try clear c53b1
                try clear c60
                try clear c62
                try clear p64
                try clear c68
                try clear c68b0
                try clear c68b1
                try clear c71
                try clear c71b0
                try clear c71b1
                try clear c72
                try clear c72b0
                try clear c72b1
                try clear hcz11_0
                try clear hcz28_0
                try clear hcz36_0
                try clear hcz37_0
                try clear hcz38_0
                try clear hcz43_0
                try clear hcz44_0
                try clear hcz49_0
                try clear hcz50_0
                try clear hcz61_0
                try clear hcz63_0
                try clear hcz64_0
                try clear hcz69_0
                try clear p2
                try clear p6
                try clear p64
                obtain ⟨kq, x376000_66, x376001_66, x376002_66, x376003_66, x376004_66, x376005_66, x376006_66, x376007_66, x376008_66, HA, HJ66, BK365, BK375, BK380, BK381, HI353, HB⟩ := hcut
                cases kq with
                | zero => exact absurd HA.out (by simp [spykeep2_MountValid.j3])
                | succ kj66 =>
                  have H := HA.out
                  clear HA
                  simp only [spykeep2_MountValid.j3] at H
                  replace H := Option.bind_eq_some_iff.mp H
                  obtain ⟨⟨t426, t427, t428, t429, t430, t431, t432, t433, t434⟩, A730, H⟩ := H
                  replace H : ((mount_Check.f kj66 t354 t355 t356 t357 t358 t359 t360 t361 t362 t363 t426 t427 t428 t429 t430 t431 t432 t433 t434).bind fun t435 => (if t435 = 0 then (spykeep2_MountValid.l0 kj66 (wrap64 (x18_1 + 1)) l0 x354001_18 t354 t355 t356 t357 t358 t359 t360 t361 t362 t363 t426 t427 t428 t429 t430 t431 t432 t433 t434) else (some false))) = some r := H
                  have A73 := Aside0.mk A730
                  clear A730
                  replace H := Option.bind_eq_some_iff.mp H
                  obtain ⟨t435, A740, H⟩ := H
                  replace H : (if t435 = 0 then (spykeep2_MountValid.l0 kj66 (wrap64 (x18_1 + 1)) l0 x354001_18 t354 t355 t356 t357 t358 t359 t360 t361 t362 t363 t426 t427 t428 t429 t430 t431 t432 t433 t434) else (some false)) = some r := H
                  have A74 := Aside0.mk A740
                  clear A740
                  by_cases c75 : t435 = 0
                  · rw [if_pos c75] at H
                    have c75b0 : (t435 == 0) = true := beq_iff_eq.mpr c75
                    have c75b1 : (t435 != 0) = false := bne_eq_false_iff_eq.mpr c75
                    clear c75
                    have H' := Aside0.mk H
                    clear H
                    have hcz76_0 := tch10 BK365.out
                    have hcz77_0 := tch9 BK375.out
                    go_wp2_with (first | ((with_reducible refine gate_callee (f := 20) rfl ?_); refine goesL_ (some 88) rfl rfl Try.func20 (by kernel_rfl) rfl #[.agg #[.int .i64 t354, .int .i64 t355, .int .i64 t356, .int .i64 t357, .int .i64 t358, .int .i64 t359, .int .i64 t360, .int .i64 t361, .int .i64 t362, .int .i64 t363], .agg #[.int .i64 x376000_66, .int .i64 x376001_66, .int .i64 x376002_66, .bool x376003_66, .int .i64 x376004_66, .int .i64 x376005_66, .int .i64 x376006_66, .bool x376007_66, .int .i64 x376008_66]] rfl (by (try simp only [List.map_toArray, List.map_cons, List.map_nil]); first | done | rfl | (simp only [List.length_drop, List.length_take]; rfl)) ?_; (with_reducible refine (mount_Step.calls kj66 t354 t355 t356 t357 t358 t359 t360 t361 t362 t363 x376000_66 x376001_66 x376002_66 x376003_66 x376004_66 x376005_66 x376006_66 x376007_66 x376008_66 t426 t427 t428 t429 t430 t431 t432 t433 t434 _ A73.out).mono ?_); rintro e w78 ⟨rfl, hb⟩; refine ⟨_, rfl, ?_⟩; have n0_ := Aside0.mk (blk_below BK365.out hb); have n1_ := Aside0.mk (blk_below BK375.out hb); have n2_ := Aside0.mk (blk_below BK380.out hb); have n3_ := Aside0.mk (blk_below BK381.out hb); have n4_ := Aside0.mk (IsS26.below (by exact HI353.out) hb); have n5_ := Aside0.mk (below_step (by exact HB.out) hb); clear BK365; clear BK375; clear BK380; clear BK381; clear HI353; clear HB; have BK365 := n0_; have BK375 := n1_; have BK380 := n2_; have BK381 := n3_; have HI353 := n4_; have HB := n5_; clear n0_ n1_ n2_ n3_ n4_ n5_; (try clear hb); (try clear hb2); (try clear hk); (try clear hi)) | ((with_reducible refine gate_store (t := 37) (p := 5) rfl ?_); refine store_row (t := 37) (p := 5) (v := ?vo_w79) ?hgd ?ho ?hN gb375 0 #[.int .i64 x376000_66, .int .i64 x376001_66, .int .i64 x376002_66, .bool x376003_66, .int .i64 x376004_66, .int .i64 x376005_66, .int .i64 x376006_66, .bool x376007_66, .int .i64 x376008_66] [.int .i64 t426, .int .i64 t427, .int .i64 t428, .bool t429, .int .i64 t430, .int .i64 t431, .int .i64 t432, .bool t433, .int .i64 t434] #[.int .i64 t426, .int .i64 t427, .int .i64 t428, .bool t429, .int .i64 t430, .int .i64 t431, .int .i64 t432, .bool t433, .int .i64 t434] ?hx ?hy (by exact BK375.out) szi37 (Nat.le_of_ble_eq_true rfl) ?h1 ?hnew ?_; (case ho => rfl); (case hgd => rfl); (case hN => rfl); (case hx => rfl); (case hy => first | rfl | (go_simp; done) | (go_simp; rfl)); (case h1 => rfl); (case hnew => rfl); intro w79 hbox hg; have n0_ := Aside0.mk (blk_grown BK365.out hg (fun e_ => NB365_375.out (Option.some.inj e_))); have n1_ := Aside0.mk (blk_grown BK380.out hg (fun e_ => NB380_375.out (Option.some.inj e_))); have n2_ := Aside0.mk (blk_grown BK381.out hg (fun e_ => NB381_375.out (Option.some.inj e_))); have n3_ := Aside0.mk (IsS26.grown (by exact HI353.out) hg (fun e_ => NB353_375.out (Option.some.inj e_))); have n4_ := Aside0.mk (pw_below_grown (by exact HB.out) (some gb375) (below_size (by exact HB.out)) hg (fun k_ e_ => by cases e_; exact GE375.out)); have n5_ := Aside0.mk (hbox); clear BK365; clear BK380; clear BK381; clear HI353; clear HB; clear BK375; have BK365 := n0_; have BK380 := n1_; have BK381 := n2_; have HI353 := n3_; have HB := n4_; have BK375 := n5_; clear n0_ n1_ n2_ n3_ n4_ n5_; clear hbox hg; have hcz80_0 := tch10 BK365.out; have hcz81_0 := tch9 BK375.out) | ((with_reducible refine gate_callee (f := 21) rfl ?_); refine goesL_ (some 91) rfl rfl Try.func21 (by kernel_rfl) rfl #[.agg #[.int .i64 t354, .int .i64 t355, .int .i64 t356, .int .i64 t357, .int .i64 t358, .int .i64 t359, .int .i64 t360, .int .i64 t361, .int .i64 t362, .int .i64 t363], .agg #[.int .i64 t426, .int .i64 t427, .int .i64 t428, .bool t429, .int .i64 t430, .int .i64 t431, .int .i64 t432, .bool t433, .int .i64 t434]] rfl (by (try simp only [List.map_toArray, List.map_cons, List.map_nil]); first | done | rfl | (simp only [List.length_drop, List.length_take]; rfl)) ?_; (with_reducible refine (mount_Check.calls kj66 t354 t355 t356 t357 t358 t359 t360 t361 t362 t363 t426 t427 t428 t429 t430 t431 t432 t433 t434 t435 _ A74.out).mono ?_); rintro e w82 ⟨rfl, hb⟩; refine ⟨_, rfl, ?_⟩; have n0_ := Aside0.mk (blk_below BK365.out hb); have n1_ := Aside0.mk (blk_below BK375.out hb); have n2_ := Aside0.mk (blk_below BK380.out hb); have n3_ := Aside0.mk (blk_below BK381.out hb); have n4_ := Aside0.mk (IsS26.below (by exact HI353.out) hb); have n5_ := Aside0.mk (below_step (by exact HB.out) hb); clear BK365; clear BK375; clear BK380; clear BK381; clear HI353; clear HB; have BK365 := n0_; have BK375 := n1_; have BK380 := n2_; have BK381 := n3_; have HI353 := n4_; have HB := n5_; clear n0_ n1_ n2_ n3_ n4_ n5_; (try clear hb); (try clear hb2); (try clear hk); (try clear hi)))
                    go_roundg kj66
                    case measure => have := HK1.out; have := HJ18.out; have := HJ66.out; omega
                    case rel => exact ⟨(wrap64 (x18_1 + 1)), (x354001_18), (t426), (t427), (t428), (t429), (t430), (t431), (t432), (t433), (t434), (by first | rfl | (simp; done) | (simp [*]; done)), H', ⟨by have := HK1.out; have := HJ18.out; have := HJ66.out; omega⟩, ⟨by exact BK365.out⟩, ⟨by exact BK375.out⟩, ⟨by exact HI353.out⟩, ⟨by exact HB.out⟩⟩
                  · rw [if_neg c75] at H
                    have c75b0 : (t435 == 0) = false := beq_eq_false_iff_ne.mpr c75
                    have c75b1 : (t435 != 0) = true := bne_iff_ne.mpr c75
                    obtain rfl := Option.some.inj H
                    have hcz83_0 := tch10 BK365.out
                    have hcz84_0 := tch9 BK375.out
                    go_wp2_with (first | ((with_reducible refine gate_callee (f := 20) rfl ?_); refine goesL_ (some 88) rfl rfl Try.func20 (by kernel_rfl) rfl #[.agg #[.int .i64 t354, .int .i64 t355, .int .i64 t356, .int .i64 t357, .int .i64 t358, .int .i64 t359, .int .i64 t360, .int .i64 t361, .int .i64 t362, .int .i64 t363], .agg #[.int .i64 x376000_66, .int .i64 x376001_66, .int .i64 x376002_66, .bool x376003_66, .int .i64 x376004_66, .int .i64 x376005_66, .int .i64 x376006_66, .bool x376007_66, .int .i64 x376008_66]] rfl (by (try simp only [List.map_toArray, List.map_cons, List.map_nil]); first | done | rfl | (simp only [List.length_drop, List.length_take]; rfl)) ?_; (with_reducible refine (mount_Step.calls kj66 t354 t355 t356 t357 t358 t359 t360 t361 t362 t363 x376000_66 x376001_66 x376002_66 x376003_66 x376004_66 x376005_66 x376006_66 x376007_66 x376008_66 t426 t427 t428 t429 t430 t431 t432 t433 t434 _ A73.out).mono ?_); rintro e w85 ⟨rfl, hb⟩; refine ⟨_, rfl, ?_⟩; have n0_ := Aside0.mk (blk_below BK365.out hb); have n1_ := Aside0.mk (blk_below BK375.out hb); have n2_ := Aside0.mk (blk_below BK380.out hb); have n3_ := Aside0.mk (blk_below BK381.out hb); have n4_ := Aside0.mk (IsS26.below (by exact HI353.out) hb); have n5_ := Aside0.mk (below_step (by exact HB.out) hb); clear BK365; clear BK375; clear BK380; clear BK381; clear HI353; clear HB; have BK365 := n0_; have BK375 := n1_; have BK380 := n2_; have BK381 := n3_; have HI353 := n4_; have HB := n5_; clear n0_ n1_ n2_ n3_ n4_ n5_; (try clear hb); (try clear hb2); (try clear hk); (try clear hi)) | ((with_reducible refine gate_store (t := 37) (p := 5) rfl ?_); refine store_row (t := 37) (p := 5) (v := ?vo_w86) ?hgd ?ho ?hN gb375 0 #[.int .i64 x376000_66, .int .i64 x376001_66, .int .i64 x376002_66, .bool x376003_66, .int .i64 x376004_66, .int .i64 x376005_66, .int .i64 x376006_66, .bool x376007_66, .int .i64 x376008_66] [.int .i64 t426, .int .i64 t427, .int .i64 t428, .bool t429, .int .i64 t430, .int .i64 t431, .int .i64 t432, .bool t433, .int .i64 t434] #[.int .i64 t426, .int .i64 t427, .int .i64 t428, .bool t429, .int .i64 t430, .int .i64 t431, .int .i64 t432, .bool t433, .int .i64 t434] ?hx ?hy (by exact BK375.out) szi37 (Nat.le_of_ble_eq_true rfl) ?h1 ?hnew ?_; (case ho => rfl); (case hgd => rfl); (case hN => rfl); (case hx => rfl); (case hy => first | rfl | (go_simp; done) | (go_simp; rfl)); (case h1 => rfl); (case hnew => rfl); intro w86 hbox hg; have n0_ := Aside0.mk (blk_grown BK365.out hg (fun e_ => NB365_375.out (Option.some.inj e_))); have n1_ := Aside0.mk (blk_grown BK380.out hg (fun e_ => NB380_375.out (Option.some.inj e_))); have n2_ := Aside0.mk (blk_grown BK381.out hg (fun e_ => NB381_375.out (Option.some.inj e_))); have n3_ := Aside0.mk (IsS26.grown (by exact HI353.out) hg (fun e_ => NB353_375.out (Option.some.inj e_))); have n4_ := Aside0.mk (pw_below_grown (by exact HB.out) (some gb375) (below_size (by exact HB.out)) hg (fun k_ e_ => by cases e_; exact GE375.out)); have n5_ := Aside0.mk (hbox); clear BK365; clear BK380; clear BK381; clear HI353; clear HB; clear BK375; have BK365 := n0_; have BK380 := n1_; have BK381 := n2_; have HI353 := n3_; have HB := n4_; have BK375 := n5_; clear n0_ n1_ n2_ n3_ n4_ n5_; clear hbox hg; have hcz87_0 := tch10 BK365.out; have hcz88_0 := tch9 BK375.out) | ((with_reducible refine gate_callee (f := 21) rfl ?_); refine goesL_ (some 91) rfl rfl Try.func21 (by kernel_rfl) rfl #[.agg #[.int .i64 t354, .int .i64 t355, .int .i64 t356, .int .i64 t357, .int .i64 t358, .int .i64 t359, .int .i64 t360, .int .i64 t361, .int .i64 t362, .int .i64 t363], .agg #[.int .i64 t426, .int .i64 t427, .int .i64 t428, .bool t429, .int .i64 t430, .int .i64 t431, .int .i64 t432, .bool t433, .int .i64 t434]] rfl (by (try simp only [List.map_toArray, List.map_cons, List.map_nil]); first | done | rfl | (simp only [List.length_drop, List.length_take]; rfl)) ?_; (with_reducible refine (mount_Check.calls kj66 t354 t355 t356 t357 t358 t359 t360 t361 t362 t363 t426 t427 t428 t429 t430 t431 t432 t433 t434 t435 _ A74.out).mono ?_); rintro e w89 ⟨rfl, hb⟩; refine ⟨_, rfl, ?_⟩; have n0_ := Aside0.mk (blk_below BK365.out hb); have n1_ := Aside0.mk (blk_below BK375.out hb); have n2_ := Aside0.mk (blk_below BK380.out hb); have n3_ := Aside0.mk (blk_below BK381.out hb); have n4_ := Aside0.mk (IsS26.below (by exact HI353.out) hb); have n5_ := Aside0.mk (below_step (by exact HB.out) hb); clear BK365; clear BK375; clear BK380; clear BK381; clear HI353; clear HB; have BK365 := n0_; have BK375 := n1_; have BK380 := n2_; have BK381 := n3_; have HI353 := n4_; have HB := n5_; clear n0_ n1_ n2_ n3_ n4_ n5_; (try clear hb); (try clear hb2); (try clear hk); (try clear hi)))
                    go_ret
                    exact ⟨by first | rfl | (simp [errW_none, errW_some] <;> rfl) | (simp [*, errW_none, errW_some] <;> rfl), by exact HB.out⟩
        · rw [if_neg c15] at H
          have c15b0 : decide (x18_1 < 50) = false := decide_eq_false c15
          clear c15
          obtain rfl := Option.some.inj H
          go_wp2
          go_ret
          exact ⟨by first | rfl | (simp [errW_none, errW_some] <;> rfl) | (simp [*, errW_none, errW_some] <;> rfl), by exact HB.out⟩
  · replace c3 := Bool.eq_false_iff.mpr c3
    subst c3
    have H1 : (some false) = some r := by rw [if_neg (show ¬ (false = true) by decide)] at H; exact H
    clear H
    have H := H1
    clear H1
    obtain rfl := Option.some.inj H
    go_enter Try.func3, Try.ntmps3
    go_wp2_with (first | ((with_reducible refine gate_callee (f := 10) rfl ?_); refine goesL_ (some 9) rfl rfl Try.func10 (by kernel_rfl) rfl #[] rfl (by (try simp only [List.map_toArray, List.map_cons, List.map_nil]); first | done | rfl | (simp only [List.length_drop, List.length_take]; rfl)) ?_; (with_reducible refine (spykeep2_drives.calls k  false _ A2.out).mono ?_); rintro e w90 ⟨rfl, hb⟩; refine ⟨_, rfl, ?_⟩; have n0_ := Aside0.mk (below_step (by exact HB.out) hb); clear HB; have HB := n0_; clear n0_; (try clear hb); (try clear hb2); (try clear hk); (try clear hi)))
    go_ret
    exact ⟨by first | rfl | (simp [errW_none, errW_some] <;> rfl) | (simp [*, errW_none, errW_some] <;> rfl), by exact HB.out⟩

/-- THE ONE PURE STATEMENT of spykeep2_MountValid: yours. -/
def spykeep2_MountValid.Pure : Prop := ∀ (l0 : List Int), l0.length ≤ maxLen → l0.length * 8 ≤ 140737488351232 → (∀ x ∈ l0, (Lit.int .i64 x).wf = true) → ∃ k, spykeep2_MountValid.f k l0 = some true
theorem spykeep2_MountValid.walk (P : spykeep2_MountValid.Pure) (a0 : Option Addr) (len0 cap0 : Nat) (z0 : List Int) (w : World) (w0 : (a0 = none ∧ len0 = 0 ∧ cap0 = 0 ∧ z0 = []) ∨ ∃ x, a0 = some x ∧ len0 ≤ cap0 ∧ cap0 ≤ maxLen ∧ z0.length = cap0 ∧ (∀ i, i < z0.length → w.cell? (x.add i) = some (.int .i64 (z0.getD i 0))) ∧ ∀ n ∈ z0, (Lit.int .i64 n).wf = true) (y0 : len0 * 8 ≤ 140737488351232) :
    Calls Try.prog 3 #[.slice a0 len0 cap0] w fun e w' => e = .returned (.bool true) ∧ Below w.heap.size w w' := by
  obtain ⟨l0, rfl, hr0, hm0, hw0, hc0⟩ := ReadsInt.ofRowC w0
  obtain ⟨k, h⟩ := P l0 hm0 y0 hw0
  refine (spykeep2_MountValid.calls k _ _ l0 true w (Kd.C_of_reads (d := (0 : Int)) (h1 := fun _ => rfl) hr0) hc0 h).mono ?_
  rintro e w' ⟨rfl, hd⟩
  exact ⟨rfl, hd⟩

end Go.Proofs.Ytfcengfjolljgaa.PMountValid
