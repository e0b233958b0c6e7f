-- Written by a program of this session out of the translation (wip/tools).
import Derived.Test.YtfcengfjolljgaaPMountArrivesx0
import Derived.Test.YtfcengfjolljgaaPMountArrivesx1
import Derived.Test.YtfcengfjolljgaaPMountArrivesx3
import Derived.Test.YtfcengfjolljgaaPMountArrivesx5
import Derived.Test.YtfcengfjolljgaaPMountArrivesx7
import Derived.Test.YtfcengfjolljgaaPMountArrivesx8
import Derived.Test.YtfcengfjolljgaaPMountArrivesx9
import Derived.Test.YtfcengfjolljgaaPMountArrivesx10
import Derived.Test.YtfcengfjolljgaaPMountArrivesx12
namespace Go.Proofs.Ytfcengfjolljgaa.PMountArrives
open Go.RowKit Go.Proofs.YtfcengfjolljgaaW.PrintWords Go.Proofs.YtfcengfjolljgaaW.PrintLast Go.Proofs.YtfcengfjolljgaaW.PrintMore
attribute [local go_sem] max2_int min2_int max_two min_two max_three min_three max_four min_four   -- for this text's walks alone
set_option linter.unusedVariables false
set_option linter.unusedSimpArgs false

attribute [local go_sem high] eqA30
/-! ### spykeep2_MountArrives: function 5 -/
mutual
def spykeep2_MountArrives.j0 : Nat → Int → Bool → Int → Int → Int → Int → Int → Int → Int → Int → Int → Int → Int → Int → Int → Int → Int → Bool → Int → Int → Int → Bool → Int → Int → Int → Option (Bool)
  | 0, _, _, _, _, _, _, _, _, _, _, _, _, _, _, _, _, _, _, _, _, _, _, _, _, _ => none
  | k + 1, x9, x50, x347000, x347001, x347002, x347003, x347004, x347005, x347006, x347007, x347008, x347009, x352000, x352001, x372000, x372001, x372002, x372003, x372004, x372005, x372006, x372007, x372008, x377000, x377001 => if x50 = true then (some false) else (if (!(x377000 == x352000) || (!(x377001 == x352001))) = true then (some true) else (spykeep2_MountArrives.l0 k (mx x9 1) 0 x347000 x347001 x347002 x347003 x347004 x347005 x347006 x347007 x347008 x347009 x352000 x352001 x372000 x372001 x372002 x372003 x372004 x372005 x372006 x372007 x372008))
def spykeep2_MountArrives.l0 : Nat → Int → Int → Int → Int → Int → Int → Int → Int → Int → Int → Int → Int → Int → Int → Int → Int → Int → Bool → Int → Int → Int → Bool → Int → Option (Bool)
  | 0, _, _, _, _, _, _, _, _, _, _, _, _, _, _, _, _, _, _, _, _, _, _, _ => none
  | k + 1, x55, x56, x347000, x347001, x347002, x347003, x347004, x347005, x347006, x347007, x347008, x347009, x352000, x352001, x372000, x372001, x372002, x372003, x372004, x372005, x372006, x372007, x372008 => if x56 < x55 then (if x56 > 0 then (if x372008 = 2 then ((mount_Step.f k x347000 x347001 x347002 x347003 x347004 x347005 x347006 x347007 x347008 x347009 x372000 x372001 x372002 x372003 x372004 x372005 x372006 x372007 x372008).bind fun bt377 => (spykeep2_MountArrives.l0 k x55 (wrap64 (x56 + 1)) x347000 x347001 x347002 x347003 x347004 x347005 x347006 x347007 x347008 x347009 x352000 x352001 bt377.1 bt377.2.1 bt377.2.2.1 bt377.2.2.2.1 bt377.2.2.2.2.1 bt377.2.2.2.2.2.1 bt377.2.2.2.2.2.2.1 bt377.2.2.2.2.2.2.2.1 bt377.2.2.2.2.2.2.2.2)) else (some false)) else ((mount_Step.f k x347000 x347001 x347002 x347003 x347004 x347005 x347006 x347007 x347008 x347009 x372000 x372001 x372002 x372003 x372004 x372005 x372006 x372007 x372008).bind fun bt386 => (spykeep2_MountArrives.l0 k x55 (wrap64 (x56 + 1)) x347000 x347001 x347002 x347003 x347004 x347005 x347006 x347007 x347008 x347009 x352000 x352001 bt386.1 bt386.2.1 bt386.2.2.1 bt386.2.2.2.1 bt386.2.2.2.2.1 bt386.2.2.2.2.2.1 bt386.2.2.2.2.2.2.1 bt386.2.2.2.2.2.2.2.1 bt386.2.2.2.2.2.2.2.2))) else (if x372008 = 3 then ((mount_Pose.f x372000 x372001 x372002 x372003 x372004 x372005 x372006 x372007 x372008).bind fun bt395 => (if (bt395.1 == x352000 && (bt395.2 == x352001)) = true then ((mount_Moving.f x372000 x372001 x372002 x372003 x372004 x372005 x372006 x372007 x372008).bind fun t397 => (some (!t397))) else (some false))) else (some false))
end
def spykeep2_MountArrives.f (k : Nat) (l0 : List Int) : Option (Bool) := (spykeep2_drives.f k).bind fun t333 => (if t333 = true then ((spymake_Stream_Mount.f k l0 0).bind fun bt335 => ((spymake_Stream_Inside.f l0 bt335.2.2.2.2.2.2.2.2.2.2 bt335.1 bt335.2.1 bt335.2.2.1 bt335.2.2.2.1).bind fun bt347 => ((spymake_Stream_Inside.f l0 bt347.2 bt335.2.2.2.2.1 bt335.2.2.2.2.2.1 bt335.2.2.2.2.2.2.1 bt335.2.2.2.2.2.2.2.1).bind fun bt349 => ((mount_Rest.f bt335.1 bt335.2.1 bt335.2.2.1 bt335.2.2.2.1 bt335.2.2.2.2.1 bt335.2.2.2.2.2.1 bt335.2.2.2.2.2.2.1 bt335.2.2.2.2.2.2.2.1 bt335.2.2.2.2.2.2.2.2.1 bt335.2.2.2.2.2.2.2.2.2.1).bind fun bt352 => ((mount_Goto.f k bt335.1 bt335.2.1 bt335.2.2.1 bt335.2.2.2.1 bt335.2.2.2.2.1 bt335.2.2.2.2.2.1 bt335.2.2.2.2.2.2.1 bt335.2.2.2.2.2.2.2.1 bt335.2.2.2.2.2.2.2.2.1 bt335.2.2.2.2.2.2.2.2.2.1 bt352.1 bt352.2.1 bt352.2.2.1 bt352.2.2.2.1 bt352.2.2.2.2.1 bt352.2.2.2.2.2.1 bt352.2.2.2.2.2.2.1 bt352.2.2.2.2.2.2.2.1 bt352.2.2.2.2.2.2.2.2 bt347.1 bt349.1).bind fun bt361 => ((slew_To.f k bt335.1 bt335.2.1 bt335.2.2.1 bt335.2.2.2.1 bt335.2.2.2.2.1 bt335.2.2.2.2.2.1 bt335.2.2.2.2.2.2.1 bt335.2.2.2.2.2.2.2.1 bt335.2.2.2.2.2.2.2.2.1 bt335.2.2.2.2.2.2.2.2.2.1 bt335.2.2.2.2.2.2.2.2.1 bt335.2.2.2.2.2.2.2.2.2.1 bt347.1 bt349.1).bind fun bt372 => (if bt361.2.2.2.2.2.2.2.2.2 = 0 then (spykeep2_MountArrives.j0 k bt372.2.2.1 (bt372.2.2.2 != 0) bt335.1 bt335.2.1 bt335.2.2.1 bt335.2.2.2.1 bt335.2.2.2.2.1 bt335.2.2.2.2.2.1 bt335.2.2.2.2.2.2.1 bt335.2.2.2.2.2.2.2.1 bt335.2.2.2.2.2.2.2.2.1 bt335.2.2.2.2.2.2.2.2.2.1 bt347.1 bt349.1 bt361.1 bt361.2.1 bt361.2.2.1 bt361.2.2.2.1 bt361.2.2.2.2.1 bt361.2.2.2.2.2.1 bt361.2.2.2.2.2.2.1 bt361.2.2.2.2.2.2.2.1 bt361.2.2.2.2.2.2.2.2.1 bt372.1 bt372.2.1) else (spykeep2_MountArrives.j0 k bt372.2.2.1 true bt335.1 bt335.2.1 bt335.2.2.1 bt335.2.2.2.1 bt335.2.2.2.2.1 bt335.2.2.2.2.2.1 bt335.2.2.2.2.2.2.1 bt335.2.2.2.2.2.2.2.1 bt335.2.2.2.2.2.2.2.2.1 bt335.2.2.2.2.2.2.2.2.2.1 bt347.1 bt349.1 bt361.1 bt361.2.1 bt361.2.2.1 bt361.2.2.2.1 bt361.2.2.2.2.1 bt361.2.2.2.2.2.1 bt361.2.2.2.2.2.2.1 bt361.2.2.2.2.2.2.2.1 bt361.2.2.2.2.2.2.2.2.1 bt372.1 bt372.2.1)))))))) else (some false))
theorem spykeep2_MountArrives.mono_l : ∀ k, (∀ y0 y1 y2 y3 y4 y5 y6 y7 y8 y9 y10 y11 y12 y13 y14 y15 y16 y17 y18 y19 y20 y21 y22 y23 y24, LeO (spykeep2_MountArrives.j0 k y0 y1 y2 y3 y4 y5 y6 y7 y8 y9 y10 y11 y12 y13 y14 y15 y16 y17 y18 y19 y20 y21 y22 y23 y24) (spykeep2_MountArrives.j0 (k + 1) y0 y1 y2 y3 y4 y5 y6 y7 y8 y9 y10 y11 y12 y13 y14 y15 y16 y17 y18 y19 y20 y21 y22 y23 y24)) ∧ (∀ y0 y1 y2 y3 y4 y5 y6 y7 y8 y9 y10 y11 y12 y13 y14 y15 y16 y17 y18 y19 y20 y21 y22, LeO (spykeep2_MountArrives.l0 k y0 y1 y2 y3 y4 y5 y6 y7 y8 y9 y10 y11 y12 y13 y14 y15 y16 y17 y18 y19 y20 y21 y22) (spykeep2_MountArrives.l0 (k + 1) y0 y1 y2 y3 y4 y5 y6 y7 y8 y9 y10 y11 y12 y13 y14 y15 y16 y17 y18 y19 y20 y21 y22))
  | 0 => ⟨fun _ _ _ _ _ _ _ _ _ _ _ _ _ _ _ _ _ _ _ _ _ _ _ _ _ r h => by simp [spykeep2_MountArrives.j0] at h, fun _ _ _ _ _ _ _ _ _ _ _ _ _ _ _ _ _ _ _ _ _ _ _ r h => by simp [spykeep2_MountArrives.l0] at h⟩
  | k + 1 => by
    obtain ⟨ih0, ih1⟩ := spykeep2_MountArrives.mono_l k
    refine ⟨?_, ?_⟩
    · intro y0 y1 y2 y3 y4 y5 y6 y7 y8 y9 y10 y11 y12 y13 y14 y15 y16 y17 y18 y19 y20 y21 y22 y23 y24
      unfold spykeep2_MountArrives.j0
      repeat' first
      | (with_reducible exact ih0 _ _ _ _ _ _ _ _ _ _ _ _ _ _ _ _ _ _ _ _ _ _ _ _ _)
      | (with_reducible exact ih1 _ _ _ _ _ _ _ _ _ _ _ _ _ _ _ _ _ _ _ _ _ _ _)
      | (with_reducible exact mount_Goto.mono _ _ _ _ _ _ _ _ _ _ _ _ _ _ _ _ _ _ _ _ _ _)
      | (with_reducible exact mount_Step.mono _ _ _ _ _ _ _ _ _ _ _ _ _ _ _ _ _ _ _ _)
      | (with_reducible exact slew_To.mono _ _ _ _ _ _ _ _ _ _ _ _ _ _ _)
      | (with_reducible exact spykeep2_drives.mono _)
      | (with_reducible exact spymake_Stream_Mount.mono _ _ _)
      | (with_reducible exact LeO.refl _)
      | (with_reducible exact LeO.none _)
      | (with_reducible refine LeO.ite ?_ ?_)
      | (with_reducible refine LeO.bind ?_ (fun _ => ?_))
      | exact ih0 _ _ _ _ _ _ _ _ _ _ _ _ _ _ _ _ _ _ _ _ _ _ _ _ _
      | exact ih1 _ _ _ _ _ _ _ _ _ _ _ _ _ _ _ _ _ _ _ _ _ _ _
      | exact mount_Goto.mono _ _ _ _ _ _ _ _ _ _ _ _ _ _ _ _ _ _ _ _ _ _
      | exact mount_Step.mono _ _ _ _ _ _ _ _ _ _ _ _ _ _ _ _ _ _ _ _
      | exact slew_To.mono _ _ _ _ _ _ _ _ _ _ _ _ _ _ _
      | exact spykeep2_drives.mono _
      | exact spymake_Stream_Mount.mono _ _ _
      | exact LeO.none _
      | refine LeO.ite ?_ ?_
      | refine LeO.bind ?_ (fun _ => ?_)
    · intro y0 y1 y2 y3 y4 y5 y6 y7 y8 y9 y10 y11 y12 y13 y14 y15 y16 y17 y18 y19 y20 y21 y22
      unfold spykeep2_MountArrives.l0
      repeat' first
      | (with_reducible exact ih0 _ _ _ _ _ _ _ _ _ _ _ _ _ _ _ _ _ _ _ _ _ _ _ _ _)
      | (with_reducible exact ih1 _ _ _ _ _ _ _ _ _ _ _ _ _ _ _ _ _ _ _ _ _ _ _)
      | (with_reducible exact mount_Goto.mono _ _ _ _ _ _ _ _ _ _ _ _ _ _ _ _ _ _ _ _ _ _)
      | (with_reducible exact mount_Step.mono _ _ _ _ _ _ _ _ _ _ _ _ _ _ _ _ _ _ _ _)
      | (with_reducible exact slew_To.mono _ _ _ _ _ _ _ _ _ _ _ _ _ _ _)
      | (with_reducible exact spykeep2_drives.mono _)
      | (with_reducible exact spymake_Stream_Mount.mono _ _ _)
      | (with_reducible exact LeO.refl _)
      | (with_reducible exact LeO.none _)
      | (with_reducible refine LeO.ite ?_ ?_)
      | (with_reducible refine LeO.bind ?_ (fun _ => ?_))
      | exact ih0 _ _ _ _ _ _ _ _ _ _ _ _ _ _ _ _ _ _ _ _ _ _ _ _ _
      | exact ih1 _ _ _ _ _ _ _ _ _ _ _ _ _ _ _ _ _ _ _ _ _ _ _
      | exact mount_Goto.mono _ _ _ _ _ _ _ _ _ _ _ _ _ _ _ _ _ _ _ _ _ _
      | exact mount_Step.mono _ _ _ _ _ _ _ _ _ _ _ _ _ _ _ _ _ _ _ _
      | exact slew_To.mono _ _ _ _ _ _ _ _ _ _ _ _ _ _ _
      | exact spykeep2_drives.mono _
      | exact spymake_Stream_Mount.mono _ _ _
      | exact LeO.none _
      | refine LeO.ite ?_ ?_
      | refine LeO.bind ?_ (fun _ => ?_)
theorem spykeep2_MountArrives.mono : ∀ a0 k, LeO (spykeep2_MountArrives.f k a0) (spykeep2_MountArrives.f (k + 1) a0) := by
  intro a0 k
  obtain ⟨ih0, ih1⟩ := spykeep2_MountArrives.mono_l k
  unfold spykeep2_MountArrives.f
  repeat' first
      | (with_reducible exact ih0 _ _ _ _ _ _ _ _ _ _ _ _ _ _ _ _ _ _ _ _ _ _ _ _ _)
      | (with_reducible exact ih1 _ _ _ _ _ _ _ _ _ _ _ _ _ _ _ _ _ _ _ _ _ _ _)
      | (with_reducible exact mount_Goto.mono _ _ _ _ _ _ _ _ _ _ _ _ _ _ _ _ _ _ _ _ _ _)
      | (with_reducible exact mount_Step.mono _ _ _ _ _ _ _ _ _ _ _ _ _ _ _ _ _ _ _ _)
      | (with_reducible exact slew_To.mono _ _ _ _ _ _ _ _ _ _ _ _ _ _ _)
      | (with_reducible exact spykeep2_drives.mono _)
      | (with_reducible exact spymake_Stream_Mount.mono _ _ _)
      | (with_reducible exact LeO.refl _)
      | (with_reducible exact LeO.none _)
      | (with_reducible refine LeO.ite ?_ ?_)
      | (with_reducible refine LeO.bind ?_ (fun _ => ?_))
      | exact ih0 _ _ _ _ _ _ _ _ _ _ _ _ _ _ _ _ _ _ _ _ _ _ _ _ _
      | exact ih1 _ _ _ _ _ _ _ _ _ _ _ _ _ _ _ _ _ _ _ _ _ _ _
      | exact mount_Goto.mono _ _ _ _ _ _ _ _ _ _ _ _ _ _ _ _ _ _ _ _ _ _
      | exact mount_Step.mono _ _ _ _ _ _ _ _ _ _ _ _ _ _ _ _ _ _ _ _
      | exact slew_To.mono _ _ _ _ _ _ _ _ _ _ _ _ _ _ _
      | exact spykeep2_drives.mono _
      | exact spymake_Stream_Mount.mono _ _ _
      | exact LeO.none _
      | refine LeO.ite ?_ ?_
      | refine LeO.bind ?_ (fun _ => ?_)
def spykeep2_MountArrives.T5 : Bool × List (List Nat × List Nat) := (true, [([], []), ([], []), ([1], [1]), ([0, 2], [0, 2]), ([], []), ([], []), ([5], [5]), ([4, 6, 3], [4, 6]), ([3, 7], [3, 7]), ([], []), ([9, 8, 7, 0, 1, 2, 3, 4, 5, 6, 7, 8, 9], [8, 9])])
def spykeep2_MountArrives.B5 : List Nat := [0, 0, 2, 7, 0, 0, 32, 127, 255, 0, 1023]
theorem spykeep2_MountArrives.tab5 : rtab .any (opsOf Try.f5 5) = spykeep2_MountArrives.T5 := by kernel_rfl
theorem spykeep2_MountArrives.bits5 : waitsOk spykeep2_MountArrives.T5.2 spykeep2_MountArrives.B5 = true := by kernel_rfl
def spykeep2_MountArrives.T6 : Bool × List (List Nat × List Nat) := (true, [([], []), ([], []), ([1], [1]), ([], []), ([0, 2, 3, 2], [0, 2, 3]), ([4], [4]), ([5], [5]), ([5], [5]), ([], []), ([8, 6, 4, 0, 1, 2, 3, 4, 5, 6, 8], [6, 8]), ([7, 9, 0, 1, 2, 3, 4, 5, 6, 7, 8, 9], [7])])
def spykeep2_MountArrives.B6 : List Nat := [0, 0, 2, 0, 15, 31, 63, 63, 0, 383, 1023]
theorem spykeep2_MountArrives.tab6 : rtab .any (opsOf Try.f5 6) = spykeep2_MountArrives.T6 := by kernel_rfl
theorem spykeep2_MountArrives.bits6 : waitsOk spykeep2_MountArrives.T6.2 spykeep2_MountArrives.B6 = true := by kernel_rfl
def spykeep2_MountArrives.T19 : Bool × List (List Nat × List Nat) := (true, [([], []), ([0], [0]), ([1], [1]), ([2], [2]), ([3], [3]), ([4, 3, 3], [3, 4]), ([3], [3]), ([5, 6, 3], [3, 5, 6]), ([3, 7], [3, 7]), ([8, 5], [8]), ([9], [9]), ([10, 9, 9], [9, 10]), ([11, 9], [9, 11]), ([9, 12], [9, 12]), ([13, 11, 0, 1, 2, 3, 4, 5, 6, 7, 8, 9, 10, 11, 12, 13], [13])])
def spykeep2_MountArrives.B19 : List Nat := [0, 1, 3, 7, 15, 31, 15, 127, 255, 511, 1023, 2047, 4095, 8191, 16383]
theorem spykeep2_MountArrives.tab19 : rtab .any (opsOf Try.f5 19) = spykeep2_MountArrives.T19 := by kernel_rfl
theorem spykeep2_MountArrives.bits19 : waitsOk spykeep2_MountArrives.T19.2 spykeep2_MountArrives.B19 = true := by kernel_rfl
set_option maxHeartbeats 8000000 in
set_option maxRecDepth 100000 in
theorem spykeep2_MountArrives.calls (k : Nat) (A0 : Option Addr) (c0 : Nat) (l0 : List Int) (r : Bool) (w : World) (hr0 : Kd.C (Kd.int .i64) w A0 l0.length l0) (hc0 : l0.length ≤ c0) (h : spykeep2_MountArrives.f k l0 = some r) :
    Calls Try.prog 5 #[.slice A0 l0.length c0] w fun e w' => e = .returned (.bool r) ∧ Below w.heap.size w w' := by
  have hu26 := Try.underlying26
  have hu32 := Try.underlying32
  have hu28 := Try.underlying28
  have hu30 := Try.underlying30
  have hu37 := Try.underlying37
  have HR0 := Aside0.mk hr0
  have HC0 := Aside0.mk hc0
  clear hr0 hc0
  have HB := Aside0.mk (Below.refl w.heap.size w)
  have H : ((spykeep2_drives.f k).bind fun t333 => (if t333 = true then ((spymake_Stream_Mount.f k l0 0).bind fun bt335 => ((spymake_Stream_Inside.f l0 bt335.2.2.2.2.2.2.2.2.2.2 bt335.1 bt335.2.1 bt335.2.2.1 bt335.2.2.2.1).bind fun bt347 => ((spymake_Stream_Inside.f l0 bt347.2 bt335.2.2.2.2.1 bt335.2.2.2.2.2.1 bt335.2.2.2.2.2.2.1 bt335.2.2.2.2.2.2.2.1).bind fun bt349 => ((mount_Rest.f bt335.1 bt335.2.1 bt335.2.2.1 bt335.2.2.2.1 bt335.2.2.2.2.1 bt335.2.2.2.2.2.1 bt335.2.2.2.2.2.2.1 bt335.2.2.2.2.2.2.2.1 bt335.2.2.2.2.2.2.2.2.1 bt335.2.2.2.2.2.2.2.2.2.1).bind fun bt352 => ((mount_Goto.f k bt335.1 bt335.2.1 bt335.2.2.1 bt335.2.2.2.1 bt335.2.2.2.2.1 bt335.2.2.2.2.2.1 bt335.2.2.2.2.2.2.1 bt335.2.2.2.2.2.2.2.1 bt335.2.2.2.2.2.2.2.2.1 bt335.2.2.2.2.2.2.2.2.2.1 bt352.1 bt352.2.1 bt352.2.2.1 bt352.2.2.2.1 bt352.2.2.2.2.1 bt352.2.2.2.2.2.1 bt352.2.2.2.2.2.2.1 bt352.2.2.2.2.2.2.2.1 bt352.2.2.2.2.2.2.2.2 bt347.1 bt349.1).bind fun bt361 => ((slew_To.f k bt335.1 bt335.2.1 bt335.2.2.1 bt335.2.2.2.1 bt335.2.2.2.2.1 bt335.2.2.2.2.2.1 bt335.2.2.2.2.2.2.1 bt335.2.2.2.2.2.2.2.1 bt335.2.2.2.2.2.2.2.2.1 bt335.2.2.2.2.2.2.2.2.2.1 bt335.2.2.2.2.2.2.2.2.1 bt335.2.2.2.2.2.2.2.2.2.1 bt347.1 bt349.1).bind fun bt372 => (if bt361.2.2.2.2.2.2.2.2.2 = 0 then (spykeep2_MountArrives.j0 k bt372.2.2.1 (bt372.2.2.2 != 0) bt335.1 bt335.2.1 bt335.2.2.1 bt335.2.2.2.1 bt335.2.2.2.2.1 bt335.2.2.2.2.2.1 bt335.2.2.2.2.2.2.1 bt335.2.2.2.2.2.2.2.1 bt335.2.2.2.2.2.2.2.2.1 bt335.2.2.2.2.2.2.2.2.2.1 bt347.1 bt349.1 bt361.1 bt361.2.1 bt361.2.2.1 bt361.2.2.2.1 bt361.2.2.2.2.1 bt361.2.2.2.2.2.1 bt361.2.2.2.2.2.2.1 bt361.2.2.2.2.2.2.2.1 bt361.2.2.2.2.2.2.2.2.1 bt372.1 bt372.2.1) else (spykeep2_MountArrives.j0 k bt372.2.2.1 true bt335.1 bt335.2.1 bt335.2.2.1 bt335.2.2.2.1 bt335.2.2.2.2.1 bt335.2.2.2.2.2.1 bt335.2.2.2.2.2.2.1 bt335.2.2.2.2.2.2.2.1 bt335.2.2.2.2.2.2.2.2.1 bt335.2.2.2.2.2.2.2.2.2.1 bt347.1 bt349.1 bt361.1 bt361.2.1 bt361.2.2.1 bt361.2.2.2.1 bt361.2.2.2.2.1 bt361.2.2.2.2.2.1 bt361.2.2.2.2.2.2.1 bt361.2.2.2.2.2.2.2.1 bt361.2.2.2.2.2.2.2.2.1 bt372.1 bt372.2.1)))))))) else (some false))) = some r := h
  clear h
  replace H := Option.bind_eq_some_iff.mp H
  obtain ⟨t333, A20, H⟩ := H
  replace H : (if t333 = true then ((spymake_Stream_Mount.f k l0 0).bind fun bt335 => ((spymake_Stream_Inside.f l0 bt335.2.2.2.2.2.2.2.2.2.2 bt335.1 bt335.2.1 bt335.2.2.1 bt335.2.2.2.1).bind fun bt347 => ((spymake_Stream_Inside.f l0 bt347.2 bt335.2.2.2.2.1 bt335.2.2.2.2.2.1 bt335.2.2.2.2.2.2.1 bt335.2.2.2.2.2.2.2.1).bind fun bt349 => ((mount_Rest.f bt335.1 bt335.2.1 bt335.2.2.1 bt335.2.2.2.1 bt335.2.2.2.2.1 bt335.2.2.2.2.2.1 bt335.2.2.2.2.2.2.1 bt335.2.2.2.2.2.2.2.1 bt335.2.2.2.2.2.2.2.2.1 bt335.2.2.2.2.2.2.2.2.2.1).bind fun bt352 => ((mount_Goto.f k bt335.1 bt335.2.1 bt335.2.2.1 bt335.2.2.2.1 bt335.2.2.2.2.1 bt335.2.2.2.2.2.1 bt335.2.2.2.2.2.2.1 bt335.2.2.2.2.2.2.2.1 bt335.2.2.2.2.2.2.2.2.1 bt335.2.2.2.2.2.2.2.2.2.1 bt352.1 bt352.2.1 bt352.2.2.1 bt352.2.2.2.1 bt352.2.2.2.2.1 bt352.2.2.2.2.2.1 bt352.2.2.2.2.2.2.1 bt352.2.2.2.2.2.2.2.1 bt352.2.2.2.2.2.2.2.2 bt347.1 bt349.1).bind fun bt361 => ((slew_To.f k bt335.1 bt335.2.1 bt335.2.2.1 bt335.2.2.2.1 bt335.2.2.2.2.1 bt335.2.2.2.2.2.1 bt335.2.2.2.2.2.2.1 bt335.2.2.2.2.2.2.2.1 bt335.2.2.2.2.2.2.2.2.1 bt335.2.2.2.2.2.2.2.2.2.1 bt335.2.2.2.2.2.2.2.2.1 bt335.2.2.2.2.2.2.2.2.2.1 bt347.1 bt349.1).bind fun bt372 => (if bt361.2.2.2.2.2.2.2.2.2 = 0 then (spykeep2_MountArrives.j0 k bt372.2.2.1 (bt372.2.2.2 != 0) bt335.1 bt335.2.1 bt335.2.2.1 bt335.2.2.2.1 bt335.2.2.2.2.1 bt335.2.2.2.2.2.1 bt335.2.2.2.2.2.2.1 bt335.2.2.2.2.2.2.2.1 bt335.2.2.2.2.2.2.2.2.1 bt335.2.2.2.2.2.2.2.2.2.1 bt347.1 bt349.1 bt361.1 bt361.2.1 bt361.2.2.1 bt361.2.2.2.1 bt361.2.2.2.2.1 bt361.2.2.2.2.2.1 bt361.2.2.2.2.2.2.1 bt361.2.2.2.2.2.2.2.1 bt361.2.2.2.2.2.2.2.2.1 bt372.1 bt372.2.1) else (spykeep2_MountArrives.j0 k bt372.2.2.1 true bt335.1 bt335.2.1 bt335.2.2.1 bt335.2.2.2.1 bt335.2.2.2.2.1 bt335.2.2.2.2.2.1 bt335.2.2.2.2.2.2.1 bt335.2.2.2.2.2.2.2.1 bt335.2.2.2.2.2.2.2.2.1 bt335.2.2.2.2.2.2.2.2.2.1 bt347.1 bt349.1 bt361.1 bt361.2.1 bt361.2.2.1 bt361.2.2.2.1 bt361.2.2.2.2.1 bt361.2.2.2.2.2.1 bt361.2.2.2.2.2.2.1 bt361.2.2.2.2.2.2.2.1 bt361.2.2.2.2.2.2.2.2.1 bt372.1 bt372.2.1)))))))) else (some false)) = some r := H
  have A2 := Aside0.mk A20
  clear A20
  by_cases c3 : t333 = true
  · subst c3
    have H1 : ((spymake_Stream_Mount.f k l0 0).bind fun bt335 => ((spymake_Stream_Inside.f l0 bt335.2.2.2.2.2.2.2.2.2.2 bt335.1 bt335.2.1 bt335.2.2.1 bt335.2.2.2.1).bind fun bt347 => ((spymake_Stream_Inside.f l0 bt347.2 bt335.2.2.2.2.1 bt335.2.2.2.2.2.1 bt335.2.2.2.2.2.2.1 bt335.2.2.2.2.2.2.2.1).bind fun bt349 => ((mount_Rest.f bt335.1 bt335.2.1 bt335.2.2.1 bt335.2.2.2.1 bt335.2.2.2.2.1 bt335.2.2.2.2.2.1 bt335.2.2.2.2.2.2.1 bt335.2.2.2.2.2.2.2.1 bt335.2.2.2.2.2.2.2.2.1 bt335.2.2.2.2.2.2.2.2.2.1).bind fun bt352 => ((mount_Goto.f k bt335.1 bt335.2.1 bt335.2.2.1 bt335.2.2.2.1 bt335.2.2.2.2.1 bt335.2.2.2.2.2.1 bt335.2.2.2.2.2.2.1 bt335.2.2.2.2.2.2.2.1 bt335.2.2.2.2.2.2.2.2.1 bt335.2.2.2.2.2.2.2.2.2.1 bt352.1 bt352.2.1 bt352.2.2.1 bt352.2.2.2.1 bt352.2.2.2.2.1 bt352.2.2.2.2.2.1 bt352.2.2.2.2.2.2.1 bt352.2.2.2.2.2.2.2.1 bt352.2.2.2.2.2.2.2.2 bt347.1 bt349.1).bind fun bt361 => ((slew_To.f k bt335.1 bt335.2.1 bt335.2.2.1 bt335.2.2.2.1 bt335.2.2.2.2.1 bt335.2.2.2.2.2.1 bt335.2.2.2.2.2.2.1 bt335.2.2.2.2.2.2.2.1 bt335.2.2.2.2.2.2.2.2.1 bt335.2.2.2.2.2.2.2.2.2.1 bt335.2.2.2.2.2.2.2.2.1 bt335.2.2.2.2.2.2.2.2.2.1 bt347.1 bt349.1).bind fun bt372 => (if bt361.2.2.2.2.2.2.2.2.2 = 0 then (spykeep2_MountArrives.j0 k bt372.2.2.1 (bt372.2.2.2 != 0) bt335.1 bt335.2.1 bt335.2.2.1 bt335.2.2.2.1 bt335.2.2.2.2.1 bt335.2.2.2.2.2.1 bt335.2.2.2.2.2.2.1 bt335.2.2.2.2.2.2.2.1 bt335.2.2.2.2.2.2.2.2.1 bt335.2.2.2.2.2.2.2.2.2.1 bt347.1 bt349.1 bt361.1 bt361.2.1 bt361.2.2.1 bt361.2.2.2.1 bt361.2.2.2.2.1 bt361.2.2.2.2.2.1 bt361.2.2.2.2.2.2.1 bt361.2.2.2.2.2.2.2.1 bt361.2.2.2.2.2.2.2.2.1 bt372.1 bt372.2.1) else (spykeep2_MountArrives.j0 k bt372.2.2.1 true bt335.1 bt335.2.1 bt335.2.2.1 bt335.2.2.2.1 bt335.2.2.2.2.1 bt335.2.2.2.2.2.1 bt335.2.2.2.2.2.2.1 bt335.2.2.2.2.2.2.2.1 bt335.2.2.2.2.2.2.2.2.1 bt335.2.2.2.2.2.2.2.2.2.1 bt347.1 bt349.1 bt361.1 bt361.2.1 bt361.2.2.1 bt361.2.2.2.1 bt361.2.2.2.2.1 bt361.2.2.2.2.2.1 bt361.2.2.2.2.2.2.1 bt361.2.2.2.2.2.2.2.1 bt361.2.2.2.2.2.2.2.2.1 bt372.1 bt372.2.1)))))))) = some r := by rw [if_pos rfl] at H; exact H
    clear H
    have H := H1
    clear H1
    replace H := Option.bind_eq_some_iff.mp H
    obtain ⟨⟨t335, t336, t337, t338, t339, t340, t341, t342, t343, t344, t345⟩, A40, H⟩ := H
    replace H : ((spymake_Stream_Inside.f l0 t345 t335 t336 t337 t338).bind fun bt347 => ((spymake_Stream_Inside.f l0 bt347.2 t339 t340 t341 t342).bind fun bt349 => ((mount_Rest.f t335 t336 t337 t338 t339 t340 t341 t342 t343 t344).bind fun bt352 => ((mount_Goto.f k t335 t336 t337 t338 t339 t340 t341 t342 t343 t344 bt352.1 bt352.2.1 bt352.2.2.1 bt352.2.2.2.1 bt352.2.2.2.2.1 bt352.2.2.2.2.2.1 bt352.2.2.2.2.2.2.1 bt352.2.2.2.2.2.2.2.1 bt352.2.2.2.2.2.2.2.2 bt347.1 bt349.1).bind fun bt361 => ((slew_To.f k t335 t336 t337 t338 t339 t340 t341 t342 t343 t344 t343 t344 bt347.1 bt349.1).bind fun bt372 => (if bt361.2.2.2.2.2.2.2.2.2 = 0 then (spykeep2_MountArrives.j0 k bt372.2.2.1 (bt372.2.2.2 != 0) t335 t336 t337 t338 t339 t340 t341 t342 t343 t344 bt347.1 bt349.1 bt361.1 bt361.2.1 bt361.2.2.1 bt361.2.2.2.1 bt361.2.2.2.2.1 bt361.2.2.2.2.2.1 bt361.2.2.2.2.2.2.1 bt361.2.2.2.2.2.2.2.1 bt361.2.2.2.2.2.2.2.2.1 bt372.1 bt372.2.1) else (spykeep2_MountArrives.j0 k bt372.2.2.1 true t335 t336 t337 t338 t339 t340 t341 t342 t343 t344 bt347.1 bt349.1 bt361.1 bt361.2.1 bt361.2.2.1 bt361.2.2.2.1 bt361.2.2.2.2.1 bt361.2.2.2.2.2.1 bt361.2.2.2.2.2.2.1 bt361.2.2.2.2.2.2.2.1 bt361.2.2.2.2.2.2.2.2.1 bt372.1 bt372.2.1))))))) = some r := H
    have A4 := Aside0.mk A40
    clear A40
    replace H := Option.bind_eq_some_iff.mp H
    obtain ⟨⟨t347, t348⟩, A50, H⟩ := H
    replace H : ((spymake_Stream_Inside.f l0 t348 t339 t340 t341 t342).bind fun bt349 => ((mount_Rest.f t335 t336 t337 t338 t339 t340 t341 t342 t343 t344).bind fun bt352 => ((mount_Goto.f k t335 t336 t337 t338 t339 t340 t341 t342 t343 t344 bt352.1 bt352.2.1 bt352.2.2.1 bt352.2.2.2.1 bt352.2.2.2.2.1 bt352.2.2.2.2.2.1 bt352.2.2.2.2.2.2.1 bt352.2.2.2.2.2.2.2.1 bt352.2.2.2.2.2.2.2.2 t347 bt349.1).bind fun bt361 => ((slew_To.f k t335 t336 t337 t338 t339 t340 t341 t342 t343 t344 t343 t344 t347 bt349.1).bind fun bt372 => (if bt361.2.2.2.2.2.2.2.2.2 = 0 then (spykeep2_MountArrives.j0 k bt372.2.2.1 (bt372.2.2.2 != 0) t335 t336 t337 t338 t339 t340 t341 t342 t343 t344 t347 bt349.1 bt361.1 bt361.2.1 bt361.2.2.1 bt361.2.2.2.1 bt361.2.2.2.2.1 bt361.2.2.2.2.2.1 bt361.2.2.2.2.2.2.1 bt361.2.2.2.2.2.2.2.1 bt361.2.2.2.2.2.2.2.2.1 bt372.1 bt372.2.1) else (spykeep2_MountArrives.j0 k bt372.2.2.1 true t335 t336 t337 t338 t339 t340 t341 t342 t343 t344 t347 bt349.1 bt361.1 bt361.2.1 bt361.2.2.1 bt361.2.2.2.1 bt361.2.2.2.2.1 bt361.2.2.2.2.2.1 bt361.2.2.2.2.2.2.1 bt361.2.2.2.2.2.2.2.1 bt361.2.2.2.2.2.2.2.2.1 bt372.1 bt372.2.1)))))) = some r := H
    have A5 := Aside0.mk A50
    clear A50
    replace H := Option.bind_eq_some_iff.mp H
    obtain ⟨⟨t349, t350⟩, A60, H⟩ := H
    replace H : ((mount_Rest.f t335 t336 t337 t338 t339 t340 t341 t342 t343 t344).bind fun bt352 => ((mount_Goto.f k t335 t336 t337 t338 t339 t340 t341 t342 t343 t344 bt352.1 bt352.2.1 bt352.2.2.1 bt352.2.2.2.1 bt352.2.2.2.2.1 bt352.2.2.2.2.2.1 bt352.2.2.2.2.2.2.1 bt352.2.2.2.2.2.2.2.1 bt352.2.2.2.2.2.2.2.2 t347 t349).bind fun bt361 => ((slew_To.f k t335 t336 t337 t338 t339 t340 t341 t342 t343 t344 t343 t344 t347 t349).bind fun bt372 => (if bt361.2.2.2.2.2.2.2.2.2 = 0 then (spykeep2_MountArrives.j0 k bt372.2.2.1 (bt372.2.2.2 != 0) t335 t336 t337 t338 t339 t340 t341 t342 t343 t344 t347 t349 bt361.1 bt361.2.1 bt361.2.2.1 bt361.2.2.2.1 bt361.2.2.2.2.1 bt361.2.2.2.2.2.1 bt361.2.2.2.2.2.2.1 bt361.2.2.2.2.2.2.2.1 bt361.2.2.2.2.2.2.2.2.1 bt372.1 bt372.2.1) else (spykeep2_MountArrives.j0 k bt372.2.2.1 true t335 t336 t337 t338 t339 t340 t341 t342 t343 t344 t347 t349 bt361.1 bt361.2.1 bt361.2.2.1 bt361.2.2.2.1 bt361.2.2.2.2.1 bt361.2.2.2.2.2.1 bt361.2.2.2.2.2.2.1 bt361.2.2.2.2.2.2.2.1 bt361.2.2.2.2.2.2.2.2.1 bt372.1 bt372.2.1))))) = some r := H
    have A6 := Aside0.mk A60
    clear A60
    replace H := Option.bind_eq_some_iff.mp H
    obtain ⟨⟨t352, t353, t354, t355, t356, t357, t358, t359, t360⟩, A70, H⟩ := H
    replace H : ((mount_Goto.f k t335 t336 t337 t338 t339 t340 t341 t342 t343 t344 t352 t353 t354 t355 t356 t357 t358 t359 t360 t347 t349).bind fun bt361 => ((slew_To.f k t335 t336 t337 t338 t339 t340 t341 t342 t343 t344 t343 t344 t347 t349).bind fun bt372 => (if bt361.2.2.2.2.2.2.2.2.2 = 0 then (spykeep2_MountArrives.j0 k bt372.2.2.1 (bt372.2.2.2 != 0) t335 t336 t337 t338 t339 t340 t341 t342 t343 t344 t347 t349 bt361.1 bt361.2.1 bt361.2.2.1 bt361.2.2.2.1 bt361.2.2.2.2.1 bt361.2.2.2.2.2.1 bt361.2.2.2.2.2.2.1 bt361.2.2.2.2.2.2.2.1 bt361.2.2.2.2.2.2.2.2.1 bt372.1 bt372.2.1) else (spykeep2_MountArrives.j0 k bt372.2.2.1 true t335 t336 t337 t338 t339 t340 t341 t342 t343 t344 t347 t349 bt361.1 bt361.2.1 bt361.2.2.1 bt361.2.2.2.1 bt361.2.2.2.2.1 bt361.2.2.2.2.2.1 bt361.2.2.2.2.2.2.1 bt361.2.2.2.2.2.2.2.1 bt361.2.2.2.2.2.2.2.2.1 bt372.1 bt372.2.1)))) = some r := H
    have A7 := Aside0.mk A70
    clear A70
    replace H := Option.bind_eq_some_iff.mp H
    obtain ⟨⟨t361, t362, t363, t364, t365, t366, t367, t368, t369, t370⟩, A80, H⟩ := H
    replace H : ((slew_To.f k t335 t336 t337 t338 t339 t340 t341 t342 t343 t344 t343 t344 t347 t349).bind fun bt372 => (if t370 = 0 then (spykeep2_MountArrives.j0 k bt372.2.2.1 (bt372.2.2.2 != 0) t335 t336 t337 t338 t339 t340 t341 t342 t343 t344 t347 t349 t361 t362 t363 t364 t365 t366 t367 t368 t369 bt372.1 bt372.2.1) else (spykeep2_MountArrives.j0 k bt372.2.2.1 true t335 t336 t337 t338 t339 t340 t341 t342 t343 t344 t347 t349 t361 t362 t363 t364 t365 t366 t367 t368 t369 bt372.1 bt372.2.1))) = some r := H
    have A8 := Aside0.mk A80
    clear A80
    replace H := Option.bind_eq_some_iff.mp H
    obtain ⟨⟨t372, t373, t374, t375⟩, A90, H⟩ := H
    replace H : (if t370 = 0 then (spykeep2_MountArrives.j0 k t374 (t375 != 0) t335 t336 t337 t338 t339 t340 t341 t342 t343 t344 t347 t349 t361 t362 t363 t364 t365 t366 t367 t368 t369 t372 t373) else (spykeep2_MountArrives.j0 k t374 true t335 t336 t337 t338 t339 t340 t341 t342 t343 t344 t347 t349 t361 t362 t363 t364 t365 t366 t367 t368 t369 t372 t373)) = some r := H
    have A9 := Aside0.mk A90
    clear A90
    have HC10 := Aside0.mk H
    clear H
    go_enter Try.func5, Try.ntmps5
    try go_wp2_with (first | ((with_reducible refine gate_callee (f := 10) rfl ?_); refine goesL_ (some 12) rfl rfl Try.func10 (by kernel_rfl) rfl #[] rfl (by (try simp only [List.map_toArray, List.map_cons, List.map_nil]); first | done | rfl | (simp only [List.length_drop, List.length_take]; rfl)) ?_; (with_reducible refine (spykeep2_drives.calls k  true _ A2.out).mono ?_); rintro e w11 ⟨rfl, hb⟩; refine ⟨_, rfl, ?_⟩; have n0_ := Aside0.mk (below_step (by exact HB.out) hb); clear HB; have HB := n0_; clear n0_; (try clear hb); (try clear hb2); (try clear hk); (try clear hi)) | ((with_reducible refine gate_dst (N := 16) rfl ?_); refine box_event ?hg (N := 16) ?hd (cs := #[.slice A0 l0.length c0, .int .i64 0]) (t := 26) ?hr ?_; (case hd => rfl); (case hg => rfl); (case hr => first | (go_simp; done) | (go_simp; rfl)); intro gb334 hg w12 hbox hb; have n0_ := Aside0.mk (below_step (by exact HB.out) hb); have n1_ := Aside0.mk ((by rw [hg]; exact (below_size (by exact HB.out)) : w.heap.size ≤ gb334)); have n2_ := Aside0.mk ((by rw [hg]; exact (below_size (by exact HB.out)) : w.heap.size ≤ gb334)); have n3_ := Aside0.mk ((show IsS26 w w12 gb334 l0 0 from ⟨_, _, hbox, (by rw [hg]; exact (below_size (by exact HB.out)) : w.heap.size ≤ gb334), HR0.out⟩)); clear HB; have HB := n0_; have GW334 := n1_; have GE334 := n2_; have HI334 := n3_; clear n0_ n1_ n2_ n3_; clear hb hbox hg) | ((with_reducible refine gate_callee (f := 11) rfl ?_); refine goesL_ (some 18) rfl rfl Try.func11 (by kernel_rfl) rfl #[.pointer (some ⟨gb334, 0, none⟩)] rfl (by (try simp only [List.map_toArray, List.map_cons, List.map_nil]); first | done | rfl | (simp only [List.length_drop, List.length_take]; rfl)) ?_; (with_reducible refine (spymake_Stream_Mount.calls k gb334 l0 0 t335 t336 t337 t338 t339 t340 t341 t342 t343 t344 t345 w _ ?side1 ?side2 A4.out).mono ?_); (case side1 => exact HI334.out); (case side2 => exact HB.out); rintro e w13 ⟨rfl, hi, hb, hk⟩; refine ⟨_, rfl, ?_⟩; have n0_ := Aside0.mk (hb); have n1_ := Aside0.mk (hi); clear HB; clear HI334; have HB := n0_; have HI334 := n1_; clear n0_ n1_; (try clear hb); (try clear hb2); (try clear hk); (try clear hi)) | ((with_reducible refine gate_dst (N := 4) rfl ?_); refine box_event ?hg (N := 4) ?hd (cs := #[.int .i64 0, .int .i64 0, .int .i64 0, .int .i64 0, .int .i64 0, .int .i64 0, .int .i64 0, .int .i64 0, .int .i64 0, .int .i64 0]) (t := 32) ?hr ?_; (case hd => rfl); (case hg => rfl); (case hr => first | (go_simp; done) | (go_simp; rfl)); intro gb346 hg w14 hbox hb; have n0_ := Aside0.mk (IsS26.below (by exact HI334.out) hb); have n1_ := Aside0.mk (below_step (by exact HB.out) hb); have n2_ := Aside0.mk (hbox); have n3_ := Aside0.mk ((by rw [hg]; exact (below_size (by exact HB.out)) : w.heap.size ≤ gb346)); have n4_ := Aside0.mk ((by rw [hg]; exact (below_size (by exact HB.out)) : w.heap.size ≤ gb346)); have n5_ := Aside0.mk ((by rw [hg]; exact Nat.ne_of_lt (IsS26.lt (show IsS26 w _ gb334 l0 t345 from by exact HI334.out)) : gb334 ≠ gb346)); have n6_ := Aside0.mk ((by rw [hg]; exact Nat.ne_of_gt (IsS26.lt (show IsS26 w _ gb334 l0 t345 from by exact HI334.out)) : gb346 ≠ gb334)); clear HI334; clear HB; have HI334 := n0_; have HB := n1_; have BK346 := n2_; have GW346 := n3_; have GE346 := n4_; have NB334_346 := n5_; have NB346_334 := n6_; clear n0_ n1_ n2_ n3_ n4_ n5_ n6_; clear hb hbox hg) | ((with_reducible refine gate_store (t := 32) (p := 4) rfl ?_); refine store_row (t := 32) (p := 4) (v := ?vo_w15) ?hgd ?ho ?hN gb346 0 #[.int .i64 0, .int .i64 0, .int .i64 0, .int .i64 0, .int .i64 0, .int .i64 0, .int .i64 0, .int .i64 0, .int .i64 0, .int .i64 0] [.int .i64 t335, .int .i64 t336, .int .i64 t337, .int .i64 t338, .int .i64 t339, .int .i64 t340, .int .i64 t341, .int .i64 t342, .int .i64 t343, .int .i64 t344] #[.int .i64 t335, .int .i64 t336, .int .i64 t337, .int .i64 t338, .int .i64 t339, .int .i64 t340, .int .i64 t341, .int .i64 t342, .int .i64 t343, .int .i64 t344] ?hx ?hy (by exact BK346.out) szi32 (Nat.le_of_ble_eq_true rfl) ?h1 ?hnew ?_; (case ho => rfl); (case hgd => rfl); (case hN => rfl); (case hx => rfl); (case hy => first | rfl | (go_simp; done) | (go_simp; rfl)); (case h1 => rfl); (case hnew => rfl); intro w15 hbox hg; have n0_ := Aside0.mk (IsS26.grown (by exact HI334.out) hg (fun e_ => NB334_346.out (Option.some.inj e_))); have n1_ := Aside0.mk (pw_below_grown (by exact HB.out) (some gb346) (below_size (by exact HB.out)) hg (fun k_ e_ => by cases e_; exact GE346.out)); have n2_ := Aside0.mk (hbox); clear HI334; clear HB; clear BK346; have HI334 := n0_; have HB := n1_; have BK346 := n2_; clear n0_ n1_ n2_; clear hbox hg))
    have n0_ := Aside0.mk (blk_drew BK346.out)
    have n1_ := Aside0.mk (IsS26.drew HI334.out)
    have n2_ := Aside0.mk (below_drew1 HB.out)
    clear BK346
    clear HI334
    clear HB
    have BK346 := n0_
    have HI334 := n1_
    have HB := n2_
    clear n0_ n1_ n2_
    refine start_ (n := 11) (S := fun w' => w'.cell? ⟨gb346, 0, none⟩ = some (.int .i64 t335) ∧ w'.cell? ⟨gb346, 1, none⟩ = some (.int .i64 t336) ∧ w'.cell? ⟨gb346, 2, none⟩ = some (.int .i64 t337) ∧ w'.cell? ⟨gb346, 3, none⟩ = some (.int .i64 t338) ∧ w'.cell? ⟨gb346, 4, none⟩ = some (.int .i64 t339) ∧ w'.cell? ⟨gb346, 5, none⟩ = some (.int .i64 t340) ∧ w'.cell? ⟨gb346, 6, none⟩ = some (.int .i64 t341) ∧ w'.cell? ⟨gb346, 7, none⟩ = some (.int .i64 t342) ∧ w'.cell? ⟨gb346, 8, none⟩ = some (.int .i64 t343) ∧ w'.cell? ⟨gb346, 9, none⟩ = some (.int .i64 t344)) (ds := []) #[false, false, false, false, false, false, false, false, false, false, false] (by kernel_rfl) rfl rfl ⟨(blk_cell BK346.out 0).trans rfl, (blk_cell BK346.out 1).trans rfl, (blk_cell BK346.out 2).trans rfl, (blk_cell BK346.out 3).trans rfl, (blk_cell BK346.out 4).trans rfl, (blk_cell BK346.out 5).trans rfl, (blk_cell BK346.out 6).trans rfl, (blk_cell BK346.out 7).trans rfl, (blk_cell BK346.out 8).trans rfl, (blk_cell BK346.out 9).trans rfl⟩ (fun hHeld => ?_); refine with_tabW spykeep2_MountArrives.tab5 spykeep2_MountArrives.bits5 (fun HT_ HW_ => ?_)
    generalize w15.drew = w16 at BK346 HI334 HB hHeld ⊢
    refine pure_ (i := 0) (N := some 19) (v := ?_) (a' := ?_) #[true, false, false, false, false, false, false, false, false, false, false] rfl rfl (any_of HT_.out (by kernel_rfl)) (fun _ _ _ h => h) (Or.inl ⟨by rfl, ?_⟩) ?_ ?_
    rotate_left
    · intro w'
      go_simp
      with_reducible rfl
    rotate_left
    · simp only [Act.put, List.setIfInBounds_toArray, List.set_cons_zero, List.set_cons_succ, i64_w, i32_w]
      rfl
    refine pure_ (i := 1) (N := some 20) (v := ?_) (a' := ?_) #[true, true, false, false, false, false, false, false, false, false, false] rfl rfl (any_of HT_.out (by kernel_rfl)) (fun _ _ _ h => h) (Or.inl ⟨by rfl, ?_⟩) ?_ ?_
    rotate_left
    · intro w'
      go_simp
      with_reducible rfl
    rotate_left
    · simp only [Act.put, List.setIfInBounds_toArray, List.set_cons_zero, List.set_cons_succ, i64_w, i32_w]
      rfl
    refine pure_ (i := 4) (N := some 23) (v := ?_) (a' := ?_) #[true, true, false, false, true, false, false, false, false, false, false] rfl rfl (any_of HT_.out (by kernel_rfl)) (fun _ _ _ h => h) (Or.inl ⟨by rfl, ?_⟩) ?_ ?_
    rotate_left
    · intro w'
      go_simp
      with_reducible rfl
    rotate_left
    · simp only [Act.put, List.setIfInBounds_toArray, List.set_cons_zero, List.set_cons_succ, i64_w, i32_w]
      rfl
    refine pure_ (i := 5) (N := some 24) (v := ?_) (a' := ?_) #[true, true, false, false, true, true, false, false, false, false, false] rfl rfl (any_of HT_.out (by kernel_rfl)) (fun _ _ _ h => h) (Or.inl ⟨by rfl, ?_⟩) ?_ ?_
    rotate_left
    · intro w'
      go_simp
      with_reducible rfl
    rotate_left
    · simp only [Act.put, List.setIfInBounds_toArray, List.set_cons_zero, List.set_cons_succ, i64_w, i32_w]
      rfl
    refine take_ (i := 2) (N := some 21) (v := ?_) (a' := ?_) #[true, true, true, false, true, true, false, false, false, false, false] rfl rfl (take_ofW HT_.out HW_.out (by kernel_rfl)) (fun _ _ _ h => h) (Or.inl ⟨by rfl, ?_⟩) hHeld ?_ ?_
    rotate_left
    · rintro w' ⟨s0, s1, s2, s3, s4, s5, s6, s7, s8, s9⟩
      go_simp
      with_reducible rfl
    rotate_left
    · simp only [Act.put, List.setIfInBounds_toArray, List.set_cons_zero, List.set_cons_succ, i64_w, i32_w]
      rfl
    refine take_ (i := 6) (N := some 25) (v := ?_) (a' := ?_) #[true, true, true, false, true, true, true, false, false, false, false] rfl rfl (take_ofW HT_.out HW_.out (by kernel_rfl)) (fun _ _ _ h => h) (Or.inl ⟨by rfl, ?_⟩) hHeld ?_ ?_
    rotate_left
    · rintro w' ⟨s0, s1, s2, s3, s4, s5, s6, s7, s8, s9⟩
      go_simp
      with_reducible rfl
    rotate_left
    · simp only [Act.put, List.setIfInBounds_toArray, List.set_cons_zero, List.set_cons_succ, i64_w, i32_w]
      rfl
    refine join_ (σ := Nat) 1 #[true, true, true, true, true, true, true, true, true, true, false] (fun s_ => [(22, .int .i64 t347), (26, .int .i64 t349), (5, .pointer (some ⟨s_, 0, none⟩)), (27, .agg #[.int .i64 t347, .int .i64 t349])]) (fun s_ w' => (w'.cell? ⟨gb346, 0, none⟩ = some (.int .i64 t335) ∧ w'.cell? ⟨gb346, 1, none⟩ = some (.int .i64 t336) ∧ w'.cell? ⟨gb346, 2, none⟩ = some (.int .i64 t337) ∧ w'.cell? ⟨gb346, 3, none⟩ = some (.int .i64 t338) ∧ w'.cell? ⟨gb346, 4, none⟩ = some (.int .i64 t339) ∧ w'.cell? ⟨gb346, 5, none⟩ = some (.int .i64 t340) ∧ w'.cell? ⟨gb346, 6, none⟩ = some (.int .i64 t341) ∧ w'.cell? ⟨gb346, 7, none⟩ = some (.int .i64 t342) ∧ w'.cell? ⟨gb346, 8, none⟩ = some (.int .i64 t343) ∧ w'.cell? ⟨gb346, 9, none⟩ = some (.int .i64 t344)) ∧ (w'.heap[gb346]? = some (.cells #[.int .i64 t335, .int .i64 t336, .int .i64 t337, .int .i64 t338, .int .i64 t339, .int .i64 t340, .int .i64 t341, .int .i64 t342, .int .i64 t343, .int .i64 t344] 32 (0, 0))) ∧ (w'.heap[s_]? = some (.cells #[.int .i64 0, .int .i64 0] 30 (0, 0))) ∧ (w.heap.size ≤ s_) ∧ (w.heap.size ≤ s_) ∧ (gb334 ≠ s_) ∧ (s_ ≠ gb334) ∧ (gb346 ≠ s_) ∧ (s_ ≠ gb346) ∧ (IsS26 w w' gb334 l0 t350) ∧ (Below w.heap.size w w')) ?_ ?_
    rotate_left
    · intro hCont
      refine two_ (i := 3) (j := 9) (Ni := some 22) (Nj := some 5) #[true, true, true, true, true, true, true, false, false, false, false] #[true, true, true, false, true, true, true, false, false, true, false] rfl rfl rfl rfl (two_of HT_.out (by kernel_rfl)) (by decide) (by decide) (fun K hK => ?_) (fun K hK => ?_)
      · skip
        refine goes_ Try.func13 (by kernel_rfl) rfl #[.pointer (some ⟨gb334, 0, none⟩), .agg #[.int .i64 t335, .int .i64 t336, .int .i64 t337, .int .i64 t338]] (by rfl) rfl rfl (by (try simp only [List.map_toArray, List.map_cons, List.map_nil]); first | done | rfl | (simp only [List.length_drop, List.length_take]; rfl)) ?_
        with_reducible refine (spymake_Stream_Inside.calls gb334 l0 t345 t335 t336 t337 t338 t347 t348 w _ ?side1 ?side2 A5.out).mono ?_
        (case side1 => exact HI334.out)
        (case side2 => exact HB.out)
        rintro e w17 ⟨rfl, hi, hb, hk⟩
        refine ⟨_, rfl, ?_⟩
        have n0_ := Aside0.mk (KeepBut.blk hk BK346.out NB346_334.out (by simp))
        have n1_ := Aside0.mk (hb)
        have n2_ := Aside0.mk (hi)
        clear BK346
        clear HB
        clear HI334
        have BK346 := n0_
        have HB := n1_
        have HI334 := n2_
        clear n0_ n1_ n2_
        (try clear hb)
        (try clear hb2)
        (try clear hk)
        (try clear hi)
        refine hK.out _ _ ⟨(blk_cell BK346.out 0).trans rfl, (blk_cell BK346.out 1).trans rfl, (blk_cell BK346.out 2).trans rfl, (blk_cell BK346.out 3).trans rfl, (blk_cell BK346.out 4).trans rfl, (blk_cell BK346.out 5).trans rfl, (blk_cell BK346.out 6).trans rfl, (blk_cell BK346.out 7).trans rfl, (blk_cell BK346.out 8).trans rfl, (blk_cell BK346.out 9).trans rfl⟩ (fun hHeld => ?_)
        clear hK K
        refine norm_ (a' := ?_) ?_ ?_
        rotate_left
        · show Act.put _ (some 22) _ = _
          simp only [Act.put, List.setIfInBounds_toArray, List.set_cons_zero, List.set_cons_succ, i64_w, i32_w]
          rfl
        refine two_ (i := 7) (j := 9) (Ni := some 26) (Nj := some 5) #[true, true, true, true, true, true, true, true, false, false, false] #[true, true, true, true, true, true, true, false, false, true, false] rfl rfl rfl rfl (two_of HT_.out (by kernel_rfl)) (by decide) (by decide) (fun K hK => ?_) (fun K hK => ?_)
        · skip
          refine goes_ Try.func13 (by kernel_rfl) rfl #[.pointer (some ⟨gb334, 0, none⟩), .agg #[.int .i64 t339, .int .i64 t340, .int .i64 t341, .int .i64 t342]] (by rfl) rfl rfl (by (try simp only [List.map_toArray, List.map_cons, List.map_nil]); first | done | rfl | (simp only [List.length_drop, List.length_take]; rfl)) ?_
          with_reducible refine (spymake_Stream_Inside.calls gb334 l0 t348 t339 t340 t341 t342 t349 t350 w _ ?side1 ?side2 A6.out).mono ?_
          (case side1 => exact HI334.out)
          (case side2 => exact HB.out)
          rintro e w18 ⟨rfl, hi, hb, hk⟩
          refine ⟨_, rfl, ?_⟩
          have n0_ := Aside0.mk (KeepBut.blk hk BK346.out NB346_334.out (by simp))
          have n1_ := Aside0.mk (hb)
          have n2_ := Aside0.mk (hi)
          clear BK346
          clear HB
          clear HI334
          have BK346 := n0_
          have HB := n1_
          have HI334 := n2_
          clear n0_ n1_ n2_
          (try clear hb)
          (try clear hb2)
          (try clear hk)
          (try clear hi)
          refine hK.out _ _ ⟨(blk_cell BK346.out 0).trans rfl, (blk_cell BK346.out 1).trans rfl, (blk_cell BK346.out 2).trans rfl, (blk_cell BK346.out 3).trans rfl, (blk_cell BK346.out 4).trans rfl, (blk_cell BK346.out 5).trans rfl, (blk_cell BK346.out 6).trans rfl, (blk_cell BK346.out 7).trans rfl, (blk_cell BK346.out 8).trans rfl, (blk_cell BK346.out 9).trans rfl⟩ (fun hHeld => ?_)
          clear hK K
          refine norm_ (a' := ?_) ?_ ?_
          rotate_left
          · show Act.put _ (some 26) _ = _
            simp only [Act.put, List.setIfInBounds_toArray, List.set_cons_zero, List.set_cons_succ, i64_w, i32_w]
            rfl
          refine pure_ (i := 8) (N := some 27) (v := ?_) (a' := ?_) #[true, true, true, true, true, true, true, true, true, false, false] rfl rfl (any_of HT_.out (by kernel_rfl)) (fun _ _ _ h => h) (Or.inl ⟨by rfl, ?_⟩) ?_ ?_
          rotate_left
          · intro w'
            go_simp
            with_reducible rfl
          rotate_left
          · simp only [Act.put, List.setIfInBounds_toArray, List.set_cons_zero, List.set_cons_succ, i64_w, i32_w]
            rfl
          refine one_ (i := 9) (N := some 5) #[true, true, true, true, true, true, true, true, true, true, false] rfl rfl (one_of HT_.out (by kernel_rfl)) (by decide) (fun K hK => ?_)
          refine box_step ?hg (N := 5) ?hd (cs := #[.int .i64 0, .int .i64 0]) (t := 30) ?hr ?_; (case hd => rfl); (case hg => rfl); (case hr => first | (go_simp; done) | (go_simp; rfl))
          intro gb351 hg w19 hbox hb
          have n0_ := Aside0.mk (IsS26.below (by exact HI334.out) hb)
          have n1_ := Aside0.mk (blk_below BK346.out hb)
          have n2_ := Aside0.mk (below_step (by exact HB.out) hb)
          have n3_ := Aside0.mk (hbox)
          have n4_ := Aside0.mk ((by rw [hg]; exact (below_size (by exact HB.out)) : w.heap.size ≤ gb351))
          have n5_ := Aside0.mk ((by rw [hg]; exact (below_size (by exact HB.out)) : w.heap.size ≤ gb351))
          have n6_ := Aside0.mk ((by rw [hg]; exact Nat.ne_of_lt (blk_lt BK346.out) : gb346 ≠ gb351))
          have n7_ := Aside0.mk ((by rw [hg]; exact Nat.ne_of_gt (blk_lt BK346.out) : gb351 ≠ gb346))
          have n8_ := Aside0.mk ((by rw [hg]; exact Nat.ne_of_lt (IsS26.lt (show IsS26 w _ gb334 l0 t350 from by exact HI334.out)) : gb334 ≠ gb351))
          have n9_ := Aside0.mk ((by rw [hg]; exact Nat.ne_of_gt (IsS26.lt (show IsS26 w _ gb334 l0 t350 from by exact HI334.out)) : gb351 ≠ gb334))
          clear HI334
          clear BK346
          clear HB
          have HI334 := n0_
          have BK346 := n1_
          have HB := n2_
          have BK351 := n3_
          have GW351 := n4_
          have GE351 := n5_
          have NB346_351 := n6_
          have NB351_346 := n7_
          have NB334_351 := n8_
          have NB351_334 := n9_
          clear n0_ n1_ n2_ n3_ n4_ n5_ n6_ n7_ n8_ n9_
          clear hb hbox hg
          refine hK.out _ _ ⟨(blk_cell BK346.out 0).trans rfl, (blk_cell BK346.out 1).trans rfl, (blk_cell BK346.out 2).trans rfl, (blk_cell BK346.out 3).trans rfl, (blk_cell BK346.out 4).trans rfl, (blk_cell BK346.out 5).trans rfl, (blk_cell BK346.out 6).trans rfl, (blk_cell BK346.out 7).trans rfl, (blk_cell BK346.out 8).trans rfl, (blk_cell BK346.out 9).trans rfl⟩ (fun hHeld => ?_)
          clear hK K
          refine norm_ (a' := ?_) ?_ ?_
          rotate_left
          · show Act.put _ (some 5) _ = _
            simp only [Act.put, List.setIfInBounds_toArray, List.set_cons_zero, List.set_cons_succ, i64_w, i32_w]
            rfl
          exact norm_ (by simp only [putAll, Act.put, List.setIfInBounds_toArray, List.set_cons_zero, List.set_cons_succ]) (hCont (gb351) _ ⟨hHeld, (by exact BK346.out), (by exact BK351.out), GW351.out, GE351.out, NB334_351.out, NB351_334.out, NB346_351.out, NB351_346.out, (by exact HI334.out), (by exact HB.out)⟩)
        · skip
          refine box_step ?hg (N := 5) ?hd (cs := #[.int .i64 0, .int .i64 0]) (t := 30) ?hr ?_; (case hd => rfl); (case hg => rfl); (case hr => first | (go_simp; done) | (go_simp; rfl))
          intro gb351 hg w18 hbox hb
          have n0_ := Aside0.mk (IsS26.below (by exact HI334.out) hb)
          have n1_ := Aside0.mk (blk_below BK346.out hb)
          have n2_ := Aside0.mk (below_step (by exact HB.out) hb)
          have n3_ := Aside0.mk (hbox)
          have n4_ := Aside0.mk ((by rw [hg]; exact (below_size (by exact HB.out)) : w.heap.size ≤ gb351))
          have n5_ := Aside0.mk ((by rw [hg]; exact (below_size (by exact HB.out)) : w.heap.size ≤ gb351))
          have n6_ := Aside0.mk ((by rw [hg]; exact Nat.ne_of_lt (blk_lt BK346.out) : gb346 ≠ gb351))
          have n7_ := Aside0.mk ((by rw [hg]; exact Nat.ne_of_gt (blk_lt BK346.out) : gb351 ≠ gb346))
          have n8_ := Aside0.mk ((by rw [hg]; exact Nat.ne_of_lt (IsS26.lt (show IsS26 w _ gb334 l0 t348 from by exact HI334.out)) : gb334 ≠ gb351))
          have n9_ := Aside0.mk ((by rw [hg]; exact Nat.ne_of_gt (IsS26.lt (show IsS26 w _ gb334 l0 t348 from by exact HI334.out)) : gb351 ≠ gb334))
          clear HI334
          clear BK346
          clear HB
          have HI334 := n0_
          have BK346 := n1_
          have HB := n2_
          have BK351 := n3_
          have GW351 := n4_
          have GE351 := n5_
          have NB346_351 := n6_
          have NB351_346 := n7_
          have NB334_351 := n8_
          have NB351_334 := n9_
          clear n0_ n1_ n2_ n3_ n4_ n5_ n6_ n7_ n8_ n9_
          clear hb hbox hg
          refine hK.out _ _ ⟨(blk_cell BK346.out 0).trans rfl, (blk_cell BK346.out 1).trans rfl, (blk_cell BK346.out 2).trans rfl, (blk_cell BK346.out 3).trans rfl, (blk_cell BK346.out 4).trans rfl, (blk_cell BK346.out 5).trans rfl, (blk_cell BK346.out 6).trans rfl, (blk_cell BK346.out 7).trans rfl, (blk_cell BK346.out 8).trans rfl, (blk_cell BK346.out 9).trans rfl⟩ (fun hHeld => ?_)
          clear hK K
          refine norm_ (a' := ?_) ?_ ?_
          rotate_left
          · show Act.put _ (some 5) _ = _
            simp only [Act.put, List.setIfInBounds_toArray, List.set_cons_zero, List.set_cons_succ, i64_w, i32_w]
            rfl
          refine one_ (i := 7) (N := some 26) #[true, true, true, true, true, true, true, true, false, true, false] rfl rfl (one_of HT_.out (by kernel_rfl)) (by decide) (fun K hK => ?_)
          refine goes_ Try.func13 (by kernel_rfl) rfl #[.pointer (some ⟨gb334, 0, none⟩), .agg #[.int .i64 t339, .int .i64 t340, .int .i64 t341, .int .i64 t342]] (by rfl) rfl rfl (by (try simp only [List.map_toArray, List.map_cons, List.map_nil]); first | done | rfl | (simp only [List.length_drop, List.length_take]; rfl)) ?_
          with_reducible refine (spymake_Stream_Inside.calls gb334 l0 t348 t339 t340 t341 t342 t349 t350 w _ ?side1 ?side2 A6.out).mono ?_
          (case side1 => exact HI334.out)
          (case side2 => exact HB.out)
          rintro e w19 ⟨rfl, hi, hb, hk⟩
          refine ⟨_, rfl, ?_⟩
          have n0_ := Aside0.mk (KeepBut.blk hk BK346.out NB346_334.out (by simp))
          have n1_ := Aside0.mk (KeepBut.blk hk BK351.out NB351_334.out (by simp))
          have n2_ := Aside0.mk (hb)
          have n3_ := Aside0.mk (hi)
          clear BK346
          clear BK351
          clear HB
          clear HI334
          have BK346 := n0_
          have BK351 := n1_
          have HB := n2_
          have HI334 := n3_
          clear n0_ n1_ n2_ n3_
          (try clear hb)
          (try clear hb2)
          (try clear hk)
          (try clear hi)
          refine hK.out _ _ ⟨(blk_cell BK346.out 0).trans rfl, (blk_cell BK346.out 1).trans rfl, (blk_cell BK346.out 2).trans rfl, (blk_cell BK346.out 3).trans rfl, (blk_cell BK346.out 4).trans rfl, (blk_cell BK346.out 5).trans rfl, (blk_cell BK346.out 6).trans rfl, (blk_cell BK346.out 7).trans rfl, (blk_cell BK346.out 8).trans rfl, (blk_cell BK346.out 9).trans rfl⟩ (fun hHeld => ?_)
          clear hK K
          refine norm_ (a' := ?_) ?_ ?_
          rotate_left
          · show Act.put _ (some 26) _ = _
            simp only [Act.put, List.setIfInBounds_toArray, List.set_cons_zero, List.set_cons_succ, i64_w, i32_w]
            rfl
          refine pure_ (i := 8) (N := some 27) (v := ?_) (a' := ?_) #[true, true, true, true, true, true, true, true, true, true, false] rfl rfl (any_of HT_.out (by kernel_rfl)) (fun _ _ _ h => h) (Or.inl ⟨by rfl, ?_⟩) ?_ ?_
          rotate_left
          · intro w'
            go_simp
            with_reducible rfl
          rotate_left
          · simp only [Act.put, List.setIfInBounds_toArray, List.set_cons_zero, List.set_cons_succ, i64_w, i32_w]
            rfl
          exact norm_ (by simp only [putAll, Act.put, List.setIfInBounds_toArray, List.set_cons_zero, List.set_cons_succ]) (hCont (gb351) _ ⟨hHeld, (by exact BK346.out), (by exact BK351.out), GW351.out, GE351.out, NB334_351.out, NB351_334.out, NB346_351.out, NB351_346.out, (by exact HI334.out), (by exact HB.out)⟩)
      · skip
        refine box_step ?hg (N := 5) ?hd (cs := #[.int .i64 0, .int .i64 0]) (t := 30) ?hr ?_; (case hd => rfl); (case hg => rfl); (case hr => first | (go_simp; done) | (go_simp; rfl))
        intro gb351 hg w17 hbox hb
        have n0_ := Aside0.mk (IsS26.below (by exact HI334.out) hb)
        have n1_ := Aside0.mk (blk_below BK346.out hb)
        have n2_ := Aside0.mk (below_step (by exact HB.out) hb)
        have n3_ := Aside0.mk (hbox)
        have n4_ := Aside0.mk ((by rw [hg]; exact (below_size (by exact HB.out)) : w.heap.size ≤ gb351))
        have n5_ := Aside0.mk ((by rw [hg]; exact (below_size (by exact HB.out)) : w.heap.size ≤ gb351))
        have n6_ := Aside0.mk ((by rw [hg]; exact Nat.ne_of_lt (blk_lt BK346.out) : gb346 ≠ gb351))
        have n7_ := Aside0.mk ((by rw [hg]; exact Nat.ne_of_gt (blk_lt BK346.out) : gb351 ≠ gb346))
        have n8_ := Aside0.mk ((by rw [hg]; exact Nat.ne_of_lt (IsS26.lt (show IsS26 w _ gb334 l0 t345 from by exact HI334.out)) : gb334 ≠ gb351))
        have n9_ := Aside0.mk ((by rw [hg]; exact Nat.ne_of_gt (IsS26.lt (show IsS26 w _ gb334 l0 t345 from by exact HI334.out)) : gb351 ≠ gb334))
        clear HI334
        clear BK346
        clear HB
        have HI334 := n0_
        have BK346 := n1_
        have HB := n2_
        have BK351 := n3_
        have GW351 := n4_
        have GE351 := n5_
        have NB346_351 := n6_
        have NB351_346 := n7_
        have NB334_351 := n8_
        have NB351_334 := n9_
        clear n0_ n1_ n2_ n3_ n4_ n5_ n6_ n7_ n8_ n9_
        clear hb hbox hg
        refine hK.out _ _ ⟨(blk_cell BK346.out 0).trans rfl, (blk_cell BK346.out 1).trans rfl, (blk_cell BK346.out 2).trans rfl, (blk_cell BK346.out 3).trans rfl, (blk_cell BK346.out 4).trans rfl, (blk_cell BK346.out 5).trans rfl, (blk_cell BK346.out 6).trans rfl, (blk_cell BK346.out 7).trans rfl, (blk_cell BK346.out 8).trans rfl, (blk_cell BK346.out 9).trans rfl⟩ (fun hHeld => ?_)
        clear hK K
        refine norm_ (a' := ?_) ?_ ?_
        rotate_left
        · show Act.put _ (some 5) _ = _
          simp only [Act.put, List.setIfInBounds_toArray, List.set_cons_zero, List.set_cons_succ, i64_w, i32_w]
          rfl
        refine one_ (i := 3) (N := some 22) #[true, true, true, true, true, true, true, false, false, true, false] rfl rfl (one_of HT_.out (by kernel_rfl)) (by decide) (fun K hK => ?_)
        refine goes_ Try.func13 (by kernel_rfl) rfl #[.pointer (some ⟨gb334, 0, none⟩), .agg #[.int .i64 t335, .int .i64 t336, .int .i64 t337, .int .i64 t338]] (by rfl) rfl rfl (by (try simp only [List.map_toArray, List.map_cons, List.map_nil]); first | done | rfl | (simp only [List.length_drop, List.length_take]; rfl)) ?_
        with_reducible refine (spymake_Stream_Inside.calls gb334 l0 t345 t335 t336 t337 t338 t347 t348 w _ ?side1 ?side2 A5.out).mono ?_
        (case side1 => exact HI334.out)
        (case side2 => exact HB.out)
        rintro e w18 ⟨rfl, hi, hb, hk⟩
        refine ⟨_, rfl, ?_⟩
        have n0_ := Aside0.mk (KeepBut.blk hk BK346.out NB346_334.out (by simp))
        have n1_ := Aside0.mk (KeepBut.blk hk BK351.out NB351_334.out (by simp))
        have n2_ := Aside0.mk (hb)
        have n3_ := Aside0.mk (hi)
        clear BK346
        clear BK351
        clear HB
        clear HI334
        have BK346 := n0_
        have BK351 := n1_
        have HB := n2_
        have HI334 := n3_
        clear n0_ n1_ n2_ n3_
        (try clear hb)
        (try clear hb2)
        (try clear hk)
        (try clear hi)
        refine hK.out _ _ ⟨(blk_cell BK346.out 0).trans rfl, (blk_cell BK346.out 1).trans rfl, (blk_cell BK346.out 2).trans rfl, (blk_cell BK346.out 3).trans rfl, (blk_cell BK346.out 4).trans rfl, (blk_cell BK346.out 5).trans rfl, (blk_cell BK346.out 6).trans rfl, (blk_cell BK346.out 7).trans rfl, (blk_cell BK346.out 8).trans rfl, (blk_cell BK346.out 9).trans rfl⟩ (fun hHeld => ?_)
        clear hK K
        refine norm_ (a' := ?_) ?_ ?_
        rotate_left
        · show Act.put _ (some 22) _ = _
          simp only [Act.put, List.setIfInBounds_toArray, List.set_cons_zero, List.set_cons_succ, i64_w, i32_w]
          rfl
        refine one_ (i := 7) (N := some 26) #[true, true, true, true, true, true, true, true, false, true, false] rfl rfl (one_of HT_.out (by kernel_rfl)) (by decide) (fun K hK => ?_)
        refine goes_ Try.func13 (by kernel_rfl) rfl #[.pointer (some ⟨gb334, 0, none⟩), .agg #[.int .i64 t339, .int .i64 t340, .int .i64 t341, .int .i64 t342]] (by rfl) rfl rfl (by (try simp only [List.map_toArray, List.map_cons, List.map_nil]); first | done | rfl | (simp only [List.length_drop, List.length_take]; rfl)) ?_
        with_reducible refine (spymake_Stream_Inside.calls gb334 l0 t348 t339 t340 t341 t342 t349 t350 w _ ?side1 ?side2 A6.out).mono ?_
        (case side1 => exact HI334.out)
        (case side2 => exact HB.out)
        rintro e w19 ⟨rfl, hi, hb, hk⟩
        refine ⟨_, rfl, ?_⟩
        have n0_ := Aside0.mk (KeepBut.blk hk BK346.out NB346_334.out (by simp))
        have n1_ := Aside0.mk (KeepBut.blk hk BK351.out NB351_334.out (by simp))
        have n2_ := Aside0.mk (hb)
        have n3_ := Aside0.mk (hi)
        clear BK346
        clear BK351
        clear HB
        clear HI334
        have BK346 := n0_
        have BK351 := n1_
        have HB := n2_
        have HI334 := n3_
        clear n0_ n1_ n2_ n3_
        (try clear hb)
        (try clear hb2)
        (try clear hk)
        (try clear hi)
        refine hK.out _ _ ⟨(blk_cell BK346.out 0).trans rfl, (blk_cell BK346.out 1).trans rfl, (blk_cell BK346.out 2).trans rfl, (blk_cell BK346.out 3).trans rfl, (blk_cell BK346.out 4).trans rfl, (blk_cell BK346.out 5).trans rfl, (blk_cell BK346.out 6).trans rfl, (blk_cell BK346.out 7).trans rfl, (blk_cell BK346.out 8).trans rfl, (blk_cell BK346.out 9).trans rfl⟩ (fun hHeld => ?_)
        clear hK K
        refine norm_ (a' := ?_) ?_ ?_
        rotate_left
        · show Act.put _ (some 26) _ = _
          simp only [Act.put, List.setIfInBounds_toArray, List.set_cons_zero, List.set_cons_succ, i64_w, i32_w]
          rfl
        refine pure_ (i := 8) (N := some 27) (v := ?_) (a' := ?_) #[true, true, true, true, true, true, true, true, true, true, false] rfl rfl (any_of HT_.out (by kernel_rfl)) (fun _ _ _ h => h) (Or.inl ⟨by rfl, ?_⟩) ?_ ?_
        rotate_left
        · intro w'
          go_simp
          with_reducible rfl
        rotate_left
        · simp only [Act.put, List.setIfInBounds_toArray, List.set_cons_zero, List.set_cons_succ, i64_w, i32_w]
          rfl
        exact norm_ (by simp only [putAll, Act.put, List.setIfInBounds_toArray, List.set_cons_zero, List.set_cons_succ]) (hCont (gb351) _ ⟨hHeld, (by exact BK346.out), (by exact BK351.out), GW351.out, GE351.out, NB334_351.out, NB351_334.out, NB346_351.out, NB351_346.out, (by exact HI334.out), (by exact HB.out)⟩)
    rintro gb351 w20 ⟨hS_, h0_, h1_, h2_, h3_, h4_, h5_, h6_, h7_, h8_, h9_⟩
    have n0_ : Aside0 (w20.heap[gb346]? = some (.cells #[.int .i64 t335, .int .i64 t336, .int .i64 t337, .int .i64 t338, .int .i64 t339, .int .i64 t340, .int .i64 t341, .int .i64 t342, .int .i64 t343, .int .i64 t344] 32 (0, 0))) := ⟨h0_⟩
    have n1_ : Aside0 (w20.heap[gb351]? = some (.cells #[.int .i64 0, .int .i64 0] 30 (0, 0))) := ⟨h1_⟩
    have n2_ : Aside0 (w.heap.size ≤ gb351) := ⟨h2_⟩
    have n3_ : Aside0 (w.heap.size ≤ gb351) := ⟨h3_⟩
    have n4_ : Aside0 (gb334 ≠ gb351) := ⟨h4_⟩
    have n5_ : Aside0 (gb351 ≠ gb334) := ⟨h5_⟩
    have n6_ : Aside0 (gb346 ≠ gb351) := ⟨h6_⟩
    have n7_ : Aside0 (gb351 ≠ gb346) := ⟨h7_⟩
    have n8_ : Aside0 (IsS26 w w20 gb334 l0 t350) := ⟨h8_⟩
    have n9_ : Aside0 (Below w.heap.size w w20) := ⟨h9_⟩
    clear BK346
    clear HI334
    clear HB
    clear h0_ h1_ h2_ h3_ h4_ h5_ h6_ h7_ h8_ h9_
    have BK346 := n0_
    have BK351 := n1_
    have GW351 := n2_
    have GE351 := n3_
    have NB334_351 := n4_
    have NB351_334 := n5_
    have NB346_351 := n6_
    have NB351_346 := n7_
    have HI334 := n8_
    have HB := n9_
    clear n0_ n1_ n2_ n3_ n4_ n5_ n6_ n7_ n8_ n9_
    have hHeld : w20.cell? ⟨gb346, 0, none⟩ = some (.int .i64 t335) ∧ w20.cell? ⟨gb346, 1, none⟩ = some (.int .i64 t336) ∧ w20.cell? ⟨gb346, 2, none⟩ = some (.int .i64 t337) ∧ w20.cell? ⟨gb346, 3, none⟩ = some (.int .i64 t338) ∧ w20.cell? ⟨gb346, 4, none⟩ = some (.int .i64 t339) ∧ w20.cell? ⟨gb346, 5, none⟩ = some (.int .i64 t340) ∧ w20.cell? ⟨gb346, 6, none⟩ = some (.int .i64 t341) ∧ w20.cell? ⟨gb346, 7, none⟩ = some (.int .i64 t342) ∧ w20.cell? ⟨gb346, 8, none⟩ = some (.int .i64 t343) ∧ w20.cell? ⟨gb346, 9, none⟩ = some (.int .i64 t344) := hS_
    refine norm_ (a' := ?_) ?_ ?_
    rotate_left
    · simp only [putAll, Act.put, List.setIfInBounds_toArray, List.set_cons_zero, List.set_cons_succ]
      rfl
    refine one_ (i := 10) (N := none) #[true, true, true, true, true, true, true, true, true, true, true] rfl rfl (one_of HT_.out (by kernel_rfl)) (by decide) (fun K hK => ?_)
    have hs21 : w20.cell? ⟨gb351, 0, none⟩ = some (.int .i64 0) := (blk_cell BK351.out 0).trans rfl
    have hfs21 := blk_frozen BK351.out 0
    have hns21_0 := NB346_351.out
    have hms21_0 := NB351_346.out
    have hs22 : w20.cell? ⟨gb351, 1, none⟩ = some (.int .i64 0) := (blk_cell BK351.out 1).trans rfl
    have hfs22 := blk_frozen BK351.out 1
    have hns22_0 := NB346_351.out
    have hms22_0 := NB351_346.out
    refine skip_ (w1 := ?_) (by rfl) rfl ?_ ?_
    rotate_left
    · go_simp
      rfl
    refine hK.out _ _ ⟨((cell_far (p := ⟨gb351, _, none⟩) NB346_351.out _).trans (((cell_far (p := ⟨gb351, _, none⟩) NB346_351.out _).trans (hHeld.1)))), ((cell_far (p := ⟨gb351, _, none⟩) NB346_351.out _).trans (((cell_far (p := ⟨gb351, _, none⟩) NB346_351.out _).trans (hHeld.2.1)))), ((cell_far (p := ⟨gb351, _, none⟩) NB346_351.out _).trans (((cell_far (p := ⟨gb351, _, none⟩) NB346_351.out _).trans (hHeld.2.2.1)))), ((cell_far (p := ⟨gb351, _, none⟩) NB346_351.out _).trans (((cell_far (p := ⟨gb351, _, none⟩) NB346_351.out _).trans (hHeld.2.2.2.1)))), ((cell_far (p := ⟨gb351, _, none⟩) NB346_351.out _).trans (((cell_far (p := ⟨gb351, _, none⟩) NB346_351.out _).trans (hHeld.2.2.2.2.1)))), ((cell_far (p := ⟨gb351, _, none⟩) NB346_351.out _).trans (((cell_far (p := ⟨gb351, _, none⟩) NB346_351.out _).trans (hHeld.2.2.2.2.2.1)))), ((cell_far (p := ⟨gb351, _, none⟩) NB346_351.out _).trans (((cell_far (p := ⟨gb351, _, none⟩) NB346_351.out _).trans (hHeld.2.2.2.2.2.2.1)))), ((cell_far (p := ⟨gb351, _, none⟩) NB346_351.out _).trans (((cell_far (p := ⟨gb351, _, none⟩) NB346_351.out _).trans (hHeld.2.2.2.2.2.2.2.1)))), ((cell_far (p := ⟨gb351, _, none⟩) NB346_351.out _).trans (((cell_far (p := ⟨gb351, _, none⟩) NB346_351.out _).trans (hHeld.2.2.2.2.2.2.2.2.1)))), ((cell_far (p := ⟨gb351, _, none⟩) NB346_351.out _).trans (((cell_far (p := ⟨gb351, _, none⟩) NB346_351.out _).trans (hHeld.2.2.2.2.2.2.2.2.2))))⟩ (fun hHeld => ?_)
    clear hK K
    refine done_ (done_of HT_.out (by kernel_rfl)) ?_
    try go_wp2
    have n0_ : Aside0 (((w20.setCell ⟨gb351, 0, none⟩ (.int .i64 t347)).setCell ⟨gb351, 1, none⟩ (.int .i64 t349)).heap[gb346]? = some (.cells #[.int .i64 t335, .int .i64 t336, .int .i64 t337, .int .i64 t338, .int .i64 t339, .int .i64 t340, .int .i64 t341, .int .i64 t342, .int .i64 t343, .int .i64 t344] 32 (0, 0))) := ⟨by exact (blk_far (blk_far BK346.out NB346_351.out _) NB346_351.out _)⟩
    have n1_ : Aside0 (((w20.setCell ⟨gb351, 0, none⟩ (.int .i64 t347)).setCell ⟨gb351, 1, none⟩ (.int .i64 t349)).heap[gb351]? = some (.cells #[.int .i64 t347, .int .i64 t349] 30 (0, 0))) := ⟨by exact (blk_put (cs := #[.int .i64 t347, .int .i64 0]) (blk_put (cs := #[.int .i64 0, .int .i64 0]) BK351.out 0 _ rfl) 1 _ rfl)⟩
    have n2_ : Aside0 (IsS26 w ((w20.setCell ⟨gb351, 0, none⟩ (.int .i64 t347)).setCell ⟨gb351, 1, none⟩ (.int .i64 t349)) gb334 l0 t350) := ⟨by repeat (first | (with_reducible first | exact HI334.out | apply IsS26.alloc | apply IsS26.drewN | apply IsS26.drew | apply IsS26.set_1 | refine IsS26.far ?_ NB334_346.out _ | refine IsS26.far ?_ NB334_351.out _) | exact HI334.out)⟩
    have n3_ : Aside0 (Below w.heap.size w ((w20.setCell ⟨gb351, 0, none⟩ (.int .i64 t347)).setCell ⟨gb351, 1, none⟩ (.int .i64 t349))) := ⟨by repeat (first | (with_reducible first | exact HB.out | apply below_alloc | apply pw_below_drewN | apply below_drew1 | refine below_set ?_ (IsS26.ge HI334.out) | refine below_set ?_ GE346.out | refine below_set ?_ GE351.out) | exact HB.out)⟩
    (try clear BK346)
    (try clear BK351)
    (try clear HI334)
    (try clear HB)
    generalize ((w20.setCell ⟨gb351, 0, none⟩ (.int .i64 t347)).setCell ⟨gb351, 1, none⟩ (.int .i64 t349)) = w23 at n0_ n1_ n2_ n3_ ⊢
    have BK346 := n0_
    have BK351 := n1_
    have HI334 := n2_
    have HB := n3_
    clear n0_ n1_ n2_ n3_
    have n0_ := Aside0.mk (blk_drew BK346.out)
    have n1_ := Aside0.mk (blk_drew BK351.out)
    have n2_ := Aside0.mk (IsS26.drew HI334.out)
    have n3_ := Aside0.mk (below_drew1 HB.out)
    clear BK346
    clear BK351
    clear HI334
    clear HB
    have BK346 := n0_
    have BK351 := n1_
    have HI334 := n2_
    have HB := n3_
    clear n0_ n1_ n2_ n3_
    refine start_ (n := 11) (S := fun w' => w'.cell? ⟨gb346, 0, none⟩ = some (.int .i64 t335) ∧ w'.cell? ⟨gb346, 1, none⟩ = some (.int .i64 t336) ∧ w'.cell? ⟨gb346, 2, none⟩ = some (.int .i64 t337) ∧ w'.cell? ⟨gb346, 3, none⟩ = some (.int .i64 t338) ∧ w'.cell? ⟨gb346, 4, none⟩ = some (.int .i64 t339) ∧ w'.cell? ⟨gb346, 5, none⟩ = some (.int .i64 t340) ∧ w'.cell? ⟨gb346, 6, none⟩ = some (.int .i64 t341) ∧ w'.cell? ⟨gb346, 7, none⟩ = some (.int .i64 t342) ∧ w'.cell? ⟨gb346, 8, none⟩ = some (.int .i64 t343) ∧ w'.cell? ⟨gb346, 9, none⟩ = some (.int .i64 t344) ∧ w'.cell? ⟨gb351, 0, none⟩ = some (.int .i64 t347) ∧ w'.cell? ⟨gb351, 1, none⟩ = some (.int .i64 t349)) (ds := []) #[false, false, false, false, false, false, false, false, false, false, false] (by kernel_rfl) rfl rfl ⟨(blk_cell BK346.out 0).trans rfl, (blk_cell BK346.out 1).trans rfl, (blk_cell BK346.out 2).trans rfl, (blk_cell BK346.out 3).trans rfl, (blk_cell BK346.out 4).trans rfl, (blk_cell BK346.out 5).trans rfl, (blk_cell BK346.out 6).trans rfl, (blk_cell BK346.out 7).trans rfl, (blk_cell BK346.out 8).trans rfl, (blk_cell BK346.out 9).trans rfl, (blk_cell BK351.out 0).trans rfl, (blk_cell BK351.out 1).trans rfl⟩ (fun hHeld => ?_); refine with_tabW spykeep2_MountArrives.tab6 spykeep2_MountArrives.bits6 (fun HT_ HW_ => ?_)
    generalize w23.drew = w24 at BK346 BK351 HI334 HB hHeld ⊢
    refine take_ (i := 0) (N := some 29) (v := ?_) (a' := ?_) #[true, false, false, false, false, false, false, false, false, false, false] rfl rfl (take_ofW HT_.out HW_.out (by kernel_rfl)) (fun _ _ _ h => h) (Or.inl ⟨by rfl, ?_⟩) hHeld ?_ ?_
    rotate_left
    · rintro w' ⟨s0, s1, s2, s3, s4, s5, s6, s7, s8, s9, s10, s11⟩
      go_simp
      with_reducible rfl
    rotate_left
    · simp only [Act.put, List.setIfInBounds_toArray, List.set_cons_zero, List.set_cons_succ, i64_w, i32_w]
      rfl
    refine take_ (i := 1) (N := some 30) (v := ?_) (a' := ?_) #[true, true, false, false, false, false, false, false, false, false, false] rfl rfl (take_ofW HT_.out HW_.out (by kernel_rfl)) (fun _ _ _ h => h) (Or.inl ⟨by rfl, ?_⟩) hHeld ?_ ?_
    rotate_left
    · rintro w' ⟨s0, s1, s2, s3, s4, s5, s6, s7, s8, s9, s10, s11⟩
      go_simp
      with_reducible rfl
    rotate_left
    · simp only [Act.put, List.setIfInBounds_toArray, List.set_cons_zero, List.set_cons_succ, i64_w, i32_w]
      rfl
    refine take_ (i := 3) (N := some 32) (v := ?_) (a' := ?_) #[true, true, false, true, false, false, false, false, false, false, false] rfl rfl (take_ofW HT_.out HW_.out (by kernel_rfl)) (fun _ _ _ h => h) (Or.inl ⟨by rfl, ?_⟩) hHeld ?_ ?_
    rotate_left
    · rintro w' ⟨s0, s1, s2, s3, s4, s5, s6, s7, s8, s9, s10, s11⟩
      go_simp
      with_reducible rfl
    rotate_left
    · simp only [Act.put, List.setIfInBounds_toArray, List.set_cons_zero, List.set_cons_succ, i64_w, i32_w]
      rfl
    refine join_ (σ := Nat) 2 #[true, true, true, true, true, true, true, true, true, false, false] (fun s_ => [(31, .agg #[.int .i64 t352, .int .i64 t353, .int .i64 t354, .bool t355, .int .i64 t356, .int .i64 t357, .int .i64 t358, .bool t359, .int .i64 t360]), (33, .tuple #[.agg #[.int .i64 t361, .int .i64 t362, .int .i64 t363, .bool t364, .int .i64 t365, .int .i64 t366, .int .i64 t367, .bool t368, .int .i64 t369], .int .i64 t370]), (6, .pointer (some ⟨s_, 0, none⟩)), (28, .tuple #[.agg #[.int .i64 t361, .int .i64 t362, .int .i64 t363, .bool t364, .int .i64 t365, .int .i64 t366, .int .i64 t367, .bool t368, .int .i64 t369], .int .i64 t370]), (34, .agg #[.int .i64 t361, .int .i64 t362, .int .i64 t363, .bool t364, .int .i64 t365, .int .i64 t366, .int .i64 t367, .bool t368, .int .i64 t369]), (35, .int .i64 t370)]) (fun s_ w' => (w'.cell? ⟨gb346, 0, none⟩ = some (.int .i64 t335) ∧ w'.cell? ⟨gb346, 1, none⟩ = some (.int .i64 t336) ∧ w'.cell? ⟨gb346, 2, none⟩ = some (.int .i64 t337) ∧ w'.cell? ⟨gb346, 3, none⟩ = some (.int .i64 t338) ∧ w'.cell? ⟨gb346, 4, none⟩ = some (.int .i64 t339) ∧ w'.cell? ⟨gb346, 5, none⟩ = some (.int .i64 t340) ∧ w'.cell? ⟨gb346, 6, none⟩ = some (.int .i64 t341) ∧ w'.cell? ⟨gb346, 7, none⟩ = some (.int .i64 t342) ∧ w'.cell? ⟨gb346, 8, none⟩ = some (.int .i64 t343) ∧ w'.cell? ⟨gb346, 9, none⟩ = some (.int .i64 t344) ∧ w'.cell? ⟨gb351, 0, none⟩ = some (.int .i64 t347) ∧ w'.cell? ⟨gb351, 1, none⟩ = some (.int .i64 t349)) ∧ (w'.heap[gb346]? = some (.cells #[.int .i64 t335, .int .i64 t336, .int .i64 t337, .int .i64 t338, .int .i64 t339, .int .i64 t340, .int .i64 t341, .int .i64 t342, .int .i64 t343, .int .i64 t344] 32 (0, 0))) ∧ (w'.heap[gb351]? = some (.cells #[.int .i64 t347, .int .i64 t349] 30 (0, 0))) ∧ (w'.heap[s_]? = some (.cells #[.int .i64 0, .int .i64 0, .int .i64 0, .bool false, .int .i64 0, .int .i64 0, .int .i64 0, .bool false, .int .i64 0] 37 (0, 0))) ∧ (w.heap.size ≤ s_) ∧ (w.heap.size ≤ s_) ∧ (gb334 ≠ s_) ∧ (s_ ≠ gb334) ∧ (gb346 ≠ s_) ∧ (s_ ≠ gb346) ∧ (gb351 ≠ s_) ∧ (s_ ≠ gb351) ∧ (IsS26 w w' gb334 l0 t350) ∧ (Below w.heap.size w w')) ?_ ?_
    rotate_left
    · intro hCont
      refine two_ (i := 2) (j := 8) (Ni := some 31) (Nj := some 6) #[true, true, true, true, false, false, false, false, false, false, false] #[true, true, false, true, false, false, false, false, true, false, false] rfl rfl rfl rfl (two_of HT_.out (by kernel_rfl)) (by decide) (by decide) (fun K hK => ?_) (fun K hK => ?_)
      · skip
        refine goes_ Try.func12 (by kernel_rfl) rfl #[.agg #[.int .i64 t335, .int .i64 t336, .int .i64 t337, .int .i64 t338, .int .i64 t339, .int .i64 t340, .int .i64 t341, .int .i64 t342, .int .i64 t343, .int .i64 t344]] (by rfl) rfl rfl (by (try simp only [List.map_toArray, List.map_cons, List.map_nil]); first | done | rfl | (simp only [List.length_drop, List.length_take]; rfl)) ?_
        with_reducible refine (mount_Rest.calls t335 t336 t337 t338 t339 t340 t341 t342 t343 t344 t352 t353 t354 t355 t356 t357 t358 t359 t360 _ A7.out).mono ?_
        rintro e w25 ⟨rfl, hb⟩
        refine ⟨_, rfl, ?_⟩
        have n0_ := Aside0.mk (IsS26.below (by exact HI334.out) hb)
        have n1_ := Aside0.mk (blk_below BK346.out hb)
        have n2_ := Aside0.mk (blk_below BK351.out hb)
        have n3_ := Aside0.mk (below_step (by exact HB.out) hb)
        clear HI334
        clear BK346
        clear BK351
        clear HB
        have HI334 := n0_
        have BK346 := n1_
        have BK351 := n2_
        have HB := n3_
        clear n0_ n1_ n2_ n3_
        (try clear hb)
        (try clear hb2)
        (try clear hk)
        (try clear hi)
        refine hK.out _ _ ⟨(blk_cell BK346.out 0).trans rfl, (blk_cell BK346.out 1).trans rfl, (blk_cell BK346.out 2).trans rfl, (blk_cell BK346.out 3).trans rfl, (blk_cell BK346.out 4).trans rfl, (blk_cell BK346.out 5).trans rfl, (blk_cell BK346.out 6).trans rfl, (blk_cell BK346.out 7).trans rfl, (blk_cell BK346.out 8).trans rfl, (blk_cell BK346.out 9).trans rfl, (blk_cell BK351.out 0).trans rfl, (blk_cell BK351.out 1).trans rfl⟩ (fun hHeld => ?_)
        clear hK K
        refine norm_ (a' := ?_) ?_ ?_
        rotate_left
        · show Act.put _ (some 31) _ = _
          simp only [Act.put, List.setIfInBounds_toArray, List.set_cons_zero, List.set_cons_succ, i64_w, i32_w]
          rfl
        refine two_ (i := 4) (j := 8) (Ni := some 33) (Nj := some 6) #[true, true, true, true, true, false, false, false, false, false, false] #[true, true, true, true, false, false, false, false, true, false, false] rfl rfl rfl rfl (two_of HT_.out (by kernel_rfl)) (by decide) (by decide) (fun K hK => ?_) (fun K hK => ?_)
        · skip
          refine goes_ Try.func15 (by kernel_rfl) rfl #[.agg #[.int .i64 t335, .int .i64 t336, .int .i64 t337, .int .i64 t338, .int .i64 t339, .int .i64 t340, .int .i64 t341, .int .i64 t342, .int .i64 t343, .int .i64 t344], .agg #[.int .i64 t352, .int .i64 t353, .int .i64 t354, .bool t355, .int .i64 t356, .int .i64 t357, .int .i64 t358, .bool t359, .int .i64 t360], .agg #[.int .i64 t347, .int .i64 t349]] (by rfl) rfl rfl (by (try simp only [List.map_toArray, List.map_cons, List.map_nil]); first | done | rfl | (simp only [List.length_drop, List.length_take]; rfl)) ?_
          with_reducible refine (mount_Goto.calls k t335 t336 t337 t338 t339 t340 t341 t342 t343 t344 t352 t353 t354 t355 t356 t357 t358 t359 t360 t347 t349 t361 t362 t363 t364 t365 t366 t367 t368 t369 t370 _ A8.out).mono ?_
          rintro e w26 ⟨rfl, hb⟩
          refine ⟨_, rfl, ?_⟩
          have n0_ := Aside0.mk (IsS26.below (by exact HI334.out) hb)
          have n1_ := Aside0.mk (blk_below BK346.out hb)
          have n2_ := Aside0.mk (blk_below BK351.out hb)
          have n3_ := Aside0.mk (below_step (by exact HB.out) hb)
          clear HI334
          clear BK346
          clear BK351
          clear HB
          have HI334 := n0_
          have BK346 := n1_
          have BK351 := n2_
          have HB := n3_
          clear n0_ n1_ n2_ n3_
          (try clear hb)
          (try clear hb2)
          (try clear hk)
          (try clear hi)
          refine hK.out _ _ ⟨(blk_cell BK346.out 0).trans rfl, (blk_cell BK346.out 1).trans rfl, (blk_cell BK346.out 2).trans rfl, (blk_cell BK346.out 3).trans rfl, (blk_cell BK346.out 4).trans rfl, (blk_cell BK346.out 5).trans rfl, (blk_cell BK346.out 6).trans rfl, (blk_cell BK346.out 7).trans rfl, (blk_cell BK346.out 8).trans rfl, (blk_cell BK346.out 9).trans rfl, (blk_cell BK351.out 0).trans rfl, (blk_cell BK351.out 1).trans rfl⟩ (fun hHeld => ?_)
          clear hK K
          refine norm_ (a' := ?_) ?_ ?_
          rotate_left
          · show Act.put _ (some 33) _ = _
            simp only [Act.put, List.setIfInBounds_toArray, List.set_cons_zero, List.set_cons_succ, i64_w, i32_w]
            rfl
          refine pure_ (i := 5) (N := some 28) (v := ?_) (a' := ?_) #[true, true, true, true, true, true, false, false, false, false, false] rfl rfl (any_of HT_.out (by kernel_rfl)) (fun _ _ _ h => h) (Or.inl ⟨by rfl, ?_⟩) ?_ ?_
          rotate_left
          · intro w'
            go_simp
            with_reducible rfl
          rotate_left
          · simp only [Act.put, List.setIfInBounds_toArray, List.set_cons_zero, List.set_cons_succ, i64_w, i32_w]
            rfl
          refine pure_ (i := 6) (N := some 34) (v := ?_) (a' := ?_) #[true, true, true, true, true, true, true, false, false, false, false] rfl rfl (any_of HT_.out (by kernel_rfl)) (fun _ _ _ h => h) (Or.inl ⟨by rfl, ?_⟩) ?_ ?_
          rotate_left
          · intro w'
            go_simp
            with_reducible rfl
          rotate_left
          · simp only [Act.put, List.setIfInBounds_toArray, List.set_cons_zero, List.set_cons_succ, i64_w, i32_w]
            rfl
          refine pure_ (i := 7) (N := some 35) (v := ?_) (a' := ?_) #[true, true, true, true, true, true, true, true, false, false, false] rfl rfl (any_of HT_.out (by kernel_rfl)) (fun _ _ _ h => h) (Or.inl ⟨by rfl, ?_⟩) ?_ ?_
          rotate_left
          · intro w'
            go_simp
            with_reducible rfl
          rotate_left
          · simp only [Act.put, List.setIfInBounds_toArray, List.set_cons_zero, List.set_cons_succ, i64_w, i32_w]
            rfl
          refine one_ (i := 8) (N := some 6) #[true, true, true, true, true, true, true, true, true, false, false] rfl rfl (one_of HT_.out (by kernel_rfl)) (by decide) (fun K hK => ?_)
          refine box_step ?hg (N := 6) ?hd (cs := #[.int .i64 0, .int .i64 0, .int .i64 0, .bool false, .int .i64 0, .int .i64 0, .int .i64 0, .bool false, .int .i64 0]) (t := 37) ?hr ?_; (case hd => rfl); (case hg => rfl); (case hr => first | (go_simp; done) | (go_simp; rfl))
          intro gb371 hg w27 hbox hb
          have n0_ := Aside0.mk (IsS26.below (by exact HI334.out) hb)
          have n1_ := Aside0.mk (blk_below BK346.out hb)
          have n2_ := Aside0.mk (blk_below BK351.out hb)
          have n3_ := Aside0.mk (below_step (by exact HB.out) hb)
          have n4_ := Aside0.mk (hbox)
          have n5_ := Aside0.mk ((by rw [hg]; exact (below_size (by exact HB.out)) : w.heap.size ≤ gb371))
          have n6_ := Aside0.mk ((by rw [hg]; exact (below_size (by exact HB.out)) : w.heap.size ≤ gb371))
          have n7_ := Aside0.mk ((by rw [hg]; exact Nat.ne_of_lt (blk_lt BK346.out) : gb346 ≠ gb371))
          have n8_ := Aside0.mk ((by rw [hg]; exact Nat.ne_of_gt (blk_lt BK346.out) : gb371 ≠ gb346))
          have n9_ := Aside0.mk ((by rw [hg]; exact Nat.ne_of_lt (blk_lt BK351.out) : gb351 ≠ gb371))
          have n10_ := Aside0.mk ((by rw [hg]; exact Nat.ne_of_gt (blk_lt BK351.out) : gb371 ≠ gb351))
          have n11_ := Aside0.mk ((by rw [hg]; exact Nat.ne_of_lt (IsS26.lt (show IsS26 w _ gb334 l0 t350 from by exact HI334.out)) : gb334 ≠ gb371))
          have n12_ := Aside0.mk ((by rw [hg]; exact Nat.ne_of_gt (IsS26.lt (show IsS26 w _ gb334 l0 t350 from by exact HI334.out)) : gb371 ≠ gb334))
          clear HI334
          clear BK346
          clear BK351
          clear HB
          have HI334 := n0_
          have BK346 := n1_
          have BK351 := n2_
          have HB := n3_
          have BK371 := n4_
          have GW371 := n5_
          have GE371 := n6_
          have NB346_371 := n7_
          have NB371_346 := n8_
          have NB351_371 := n9_
          have NB371_351 := n10_
          have NB334_371 := n11_
          have NB371_334 := n12_
          clear n0_ n1_ n2_ n3_ n4_ n5_ n6_ n7_ n8_ n9_ n10_ n11_ n12_
          clear hb hbox hg
          refine hK.out _ _ ⟨(blk_cell BK346.out 0).trans rfl, (blk_cell BK346.out 1).trans rfl, (blk_cell BK346.out 2).trans rfl, (blk_cell BK346.out 3).trans rfl, (blk_cell BK346.out 4).trans rfl, (blk_cell BK346.out 5).trans rfl, (blk_cell BK346.out 6).trans rfl, (blk_cell BK346.out 7).trans rfl, (blk_cell BK346.out 8).trans rfl, (blk_cell BK346.out 9).trans rfl, (blk_cell BK351.out 0).trans rfl, (blk_cell BK351.out 1).trans rfl⟩ (fun hHeld => ?_)
          clear hK K
          refine norm_ (a' := ?_) ?_ ?_
          rotate_left
          · show Act.put _ (some 6) _ = _
            simp only [Act.put, List.setIfInBounds_toArray, List.set_cons_zero, List.set_cons_succ, i64_w, i32_w]
            rfl
          exact norm_ (by simp only [putAll, Act.put, List.setIfInBounds_toArray, List.set_cons_zero, List.set_cons_succ]) (hCont (gb371) _ ⟨hHeld, (by exact BK346.out), (by exact BK351.out), (by exact BK371.out), GW371.out, GE371.out, NB334_371.out, NB371_334.out, NB346_371.out, NB371_346.out, NB351_371.out, NB371_351.out, (by exact HI334.out), (by exact HB.out)⟩)
        · skip
          refine box_step ?hg (N := 6) ?hd (cs := #[.int .i64 0, .int .i64 0, .int .i64 0, .bool false, .int .i64 0, .int .i64 0, .int .i64 0, .bool false, .int .i64 0]) (t := 37) ?hr ?_; (case hd => rfl); (case hg => rfl); (case hr => first | (go_simp; done) | (go_simp; rfl))
          intro gb371 hg w26 hbox hb
          have n0_ := Aside0.mk (IsS26.below (by exact HI334.out) hb)
          have n1_ := Aside0.mk (blk_below BK346.out hb)
          have n2_ := Aside0.mk (blk_below BK351.out hb)
          have n3_ := Aside0.mk (below_step (by exact HB.out) hb)
          have n4_ := Aside0.mk (hbox)
          have n5_ := Aside0.mk ((by rw [hg]; exact (below_size (by exact HB.out)) : w.heap.size ≤ gb371))
          have n6_ := Aside0.mk ((by rw [hg]; exact (below_size (by exact HB.out)) : w.heap.size ≤ gb371))
          have n7_ := Aside0.mk ((by rw [hg]; exact Nat.ne_of_lt (blk_lt BK346.out) : gb346 ≠ gb371))
          have n8_ := Aside0.mk ((by rw [hg]; exact Nat.ne_of_gt (blk_lt BK346.out) : gb371 ≠ gb346))
          have n9_ := Aside0.mk ((by rw [hg]; exact Nat.ne_of_lt (blk_lt BK351.out) : gb351 ≠ gb371))
          have n10_ := Aside0.mk ((by rw [hg]; exact Nat.ne_of_gt (blk_lt BK351.out) : gb371 ≠ gb351))
          have n11_ := Aside0.mk ((by rw [hg]; exact Nat.ne_of_lt (IsS26.lt (show IsS26 w _ gb334 l0 t350 from by exact HI334.out)) : gb334 ≠ gb371))
          have n12_ := Aside0.mk ((by rw [hg]; exact Nat.ne_of_gt (IsS26.lt (show IsS26 w _ gb334 l0 t350 from by exact HI334.out)) : gb371 ≠ gb334))
          clear HI334
          clear BK346
          clear BK351
          clear HB
          have HI334 := n0_
          have BK346 := n1_
          have BK351 := n2_
          have HB := n3_
          have BK371 := n4_
          have GW371 := n5_
          have GE371 := n6_
          have NB346_371 := n7_
          have NB371_346 := n8_
          have NB351_371 := n9_
          have NB371_351 := n10_
          have NB334_371 := n11_
          have NB371_334 := n12_
          clear n0_ n1_ n2_ n3_ n4_ n5_ n6_ n7_ n8_ n9_ n10_ n11_ n12_
          clear hb hbox hg
          refine hK.out _ _ ⟨(blk_cell BK346.out 0).trans rfl, (blk_cell BK346.out 1).trans rfl, (blk_cell BK346.out 2).trans rfl, (blk_cell BK346.out 3).trans rfl, (blk_cell BK346.out 4).trans rfl, (blk_cell BK346.out 5).trans rfl, (blk_cell BK346.out 6).trans rfl, (blk_cell BK346.out 7).trans rfl, (blk_cell BK346.out 8).trans rfl, (blk_cell BK346.out 9).trans rfl, (blk_cell BK351.out 0).trans rfl, (blk_cell BK351.out 1).trans rfl⟩ (fun hHeld => ?_)
          clear hK K
          refine norm_ (a' := ?_) ?_ ?_
          rotate_left
          · show Act.put _ (some 6) _ = _
            simp only [Act.put, List.setIfInBounds_toArray, List.set_cons_zero, List.set_cons_succ, i64_w, i32_w]
            rfl
          refine one_ (i := 4) (N := some 33) #[true, true, true, true, true, false, false, false, true, false, false] rfl rfl (one_of HT_.out (by kernel_rfl)) (by decide) (fun K hK => ?_)
          refine goes_ Try.func15 (by kernel_rfl) rfl #[.agg #[.int .i64 t335, .int .i64 t336, .int .i64 t337, .int .i64 t338, .int .i64 t339, .int .i64 t340, .int .i64 t341, .int .i64 t342, .int .i64 t343, .int .i64 t344], .agg #[.int .i64 t352, .int .i64 t353, .int .i64 t354, .bool t355, .int .i64 t356, .int .i64 t357, .int .i64 t358, .bool t359, .int .i64 t360], .agg #[.int .i64 t347, .int .i64 t349]] (by rfl) rfl rfl (by (try simp only [List.map_toArray, List.map_cons, List.map_nil]); first | done | rfl | (simp only [List.length_drop, List.length_take]; rfl)) ?_
          with_reducible refine (mount_Goto.calls k t335 t336 t337 t338 t339 t340 t341 t342 t343 t344 t352 t353 t354 t355 t356 t357 t358 t359 t360 t347 t349 t361 t362 t363 t364 t365 t366 t367 t368 t369 t370 _ A8.out).mono ?_
          rintro e w27 ⟨rfl, hb⟩
          refine ⟨_, rfl, ?_⟩
          have n0_ := Aside0.mk (IsS26.below (by exact HI334.out) hb)
          have n1_ := Aside0.mk (blk_below BK346.out hb)
          have n2_ := Aside0.mk (blk_below BK351.out hb)
          have n3_ := Aside0.mk (blk_below BK371.out hb)
          have n4_ := Aside0.mk (below_step (by exact HB.out) hb)
          clear HI334
          clear BK346
          clear BK351
          clear BK371
          clear HB
          have HI334 := n0_
          have BK346 := n1_
          have BK351 := n2_
          have BK371 := n3_
          have HB := n4_
          clear n0_ n1_ n2_ n3_ n4_
          (try clear hb)
          (try clear hb2)
          (try clear hk)
          (try clear hi)
          refine hK.out _ _ ⟨(blk_cell BK346.out 0).trans rfl, (blk_cell BK346.out 1).trans rfl, (blk_cell BK346.out 2).trans rfl, (blk_cell BK346.out 3).trans rfl, (blk_cell BK346.out 4).trans rfl, (blk_cell BK346.out 5).trans rfl, (blk_cell BK346.out 6).trans rfl, (blk_cell BK346.out 7).trans rfl, (blk_cell BK346.out 8).trans rfl, (blk_cell BK346.out 9).trans rfl, (blk_cell BK351.out 0).trans rfl, (blk_cell BK351.out 1).trans rfl⟩ (fun hHeld => ?_)
          clear hK K
          refine norm_ (a' := ?_) ?_ ?_
          rotate_left
          · show Act.put _ (some 33) _ = _
            simp only [Act.put, List.setIfInBounds_toArray, List.set_cons_zero, List.set_cons_succ, i64_w, i32_w]
            rfl
          refine pure_ (i := 5) (N := some 28) (v := ?_) (a' := ?_) #[true, true, true, true, true, true, false, false, true, false, false] rfl rfl (any_of HT_.out (by kernel_rfl)) (fun _ _ _ h => h) (Or.inl ⟨by rfl, ?_⟩) ?_ ?_
          rotate_left
          · intro w'
            go_simp
            with_reducible rfl
          rotate_left
          · simp only [Act.put, List.setIfInBounds_toArray, List.set_cons_zero, List.set_cons_succ, i64_w, i32_w]
            rfl
          refine pure_ (i := 6) (N := some 34) (v := ?_) (a' := ?_) #[true, true, true, true, true, true, true, false, true, false, false] rfl rfl (any_of HT_.out (by kernel_rfl)) (fun _ _ _ h => h) (Or.inl ⟨by rfl, ?_⟩) ?_ ?_
          rotate_left
          · intro w'
            go_simp
            with_reducible rfl
          rotate_left
          · simp only [Act.put, List.setIfInBounds_toArray, List.set_cons_zero, List.set_cons_succ, i64_w, i32_w]
            rfl
          refine pure_ (i := 7) (N := some 35) (v := ?_) (a' := ?_) #[true, true, true, true, true, true, true, true, true, false, false] rfl rfl (any_of HT_.out (by kernel_rfl)) (fun _ _ _ h => h) (Or.inl ⟨by rfl, ?_⟩) ?_ ?_
          rotate_left
          · intro w'
            go_simp
            with_reducible rfl
          rotate_left
          · simp only [Act.put, List.setIfInBounds_toArray, List.set_cons_zero, List.set_cons_succ, i64_w, i32_w]
            rfl
          exact norm_ (by simp only [putAll, Act.put, List.setIfInBounds_toArray, List.set_cons_zero, List.set_cons_succ]) (hCont (gb371) _ ⟨hHeld, (by exact BK346.out), (by exact BK351.out), (by exact BK371.out), GW371.out, GE371.out, NB334_371.out, NB371_334.out, NB346_371.out, NB371_346.out, NB351_371.out, NB371_351.out, (by exact HI334.out), (by exact HB.out)⟩)
      · skip
        refine box_step ?hg (N := 6) ?hd (cs := #[.int .i64 0, .int .i64 0, .int .i64 0, .bool false, .int .i64 0, .int .i64 0, .int .i64 0, .bool false, .int .i64 0]) (t := 37) ?hr ?_; (case hd => rfl); (case hg => rfl); (case hr => first | (go_simp; done) | (go_simp; rfl))
        intro gb371 hg w25 hbox hb
        have n0_ := Aside0.mk (IsS26.below (by exact HI334.out) hb)
        have n1_ := Aside0.mk (blk_below BK346.out hb)
        have n2_ := Aside0.mk (blk_below BK351.out hb)
        have n3_ := Aside0.mk (below_step (by exact HB.out) hb)
        have n4_ := Aside0.mk (hbox)
        have n5_ := Aside0.mk ((by rw [hg]; exact (below_size (by exact HB.out)) : w.heap.size ≤ gb371))
        have n6_ := Aside0.mk ((by rw [hg]; exact (below_size (by exact HB.out)) : w.heap.size ≤ gb371))
        have n7_ := Aside0.mk ((by rw [hg]; exact Nat.ne_of_lt (blk_lt BK346.out) : gb346 ≠ gb371))
        have n8_ := Aside0.mk ((by rw [hg]; exact Nat.ne_of_gt (blk_lt BK346.out) : gb371 ≠ gb346))
        have n9_ := Aside0.mk ((by rw [hg]; exact Nat.ne_of_lt (blk_lt BK351.out) : gb351 ≠ gb371))
        have n10_ := Aside0.mk ((by rw [hg]; exact Nat.ne_of_gt (blk_lt BK351.out) : gb371 ≠ gb351))
        have n11_ := Aside0.mk ((by rw [hg]; exact Nat.ne_of_lt (IsS26.lt (show IsS26 w _ gb334 l0 t350 from by exact HI334.out)) : gb334 ≠ gb371))
        have n12_ := Aside0.mk ((by rw [hg]; exact Nat.ne_of_gt (IsS26.lt (show IsS26 w _ gb334 l0 t350 from by exact HI334.out)) : gb371 ≠ gb334))
        clear HI334
        clear BK346
        clear BK351
        clear HB
        have HI334 := n0_
        have BK346 := n1_
        have BK351 := n2_
        have HB := n3_
        have BK371 := n4_
        have GW371 := n5_
        have GE371 := n6_
        have NB346_371 := n7_
        have NB371_346 := n8_
        have NB351_371 := n9_
        have NB371_351 := n10_
        have NB334_371 := n11_
        have NB371_334 := n12_
        clear n0_ n1_ n2_ n3_ n4_ n5_ n6_ n7_ n8_ n9_ n10_ n11_ n12_
        clear hb hbox hg
        refine hK.out _ _ ⟨(blk_cell BK346.out 0).trans rfl, (blk_cell BK346.out 1).trans rfl, (blk_cell BK346.out 2).trans rfl, (blk_cell BK346.out 3).trans rfl, (blk_cell BK346.out 4).trans rfl, (blk_cell BK346.out 5).trans rfl, (blk_cell BK346.out 6).trans rfl, (blk_cell BK346.out 7).trans rfl, (blk_cell BK346.out 8).trans rfl, (blk_cell BK346.out 9).trans rfl, (blk_cell BK351.out 0).trans rfl, (blk_cell BK351.out 1).trans rfl⟩ (fun hHeld => ?_)
        clear hK K
        refine norm_ (a' := ?_) ?_ ?_
        rotate_left
        · show Act.put _ (some 6) _ = _
          simp only [Act.put, List.setIfInBounds_toArray, List.set_cons_zero, List.set_cons_succ, i64_w, i32_w]
          rfl
        refine one_ (i := 2) (N := some 31) #[true, true, true, true, false, false, false, false, true, false, false] rfl rfl (one_of HT_.out (by kernel_rfl)) (by decide) (fun K hK => ?_)
        refine goes_ Try.func12 (by kernel_rfl) rfl #[.agg #[.int .i64 t335, .int .i64 t336, .int .i64 t337, .int .i64 t338, .int .i64 t339, .int .i64 t340, .int .i64 t341, .int .i64 t342, .int .i64 t343, .int .i64 t344]] (by rfl) rfl rfl (by (try simp only [List.map_toArray, List.map_cons, List.map_nil]); first | done | rfl | (simp only [List.length_drop, List.length_take]; rfl)) ?_
        with_reducible refine (mount_Rest.calls t335 t336 t337 t338 t339 t340 t341 t342 t343 t344 t352 t353 t354 t355 t356 t357 t358 t359 t360 _ A7.out).mono ?_
        rintro e w26 ⟨rfl, hb⟩
        refine ⟨_, rfl, ?_⟩
        have n0_ := Aside0.mk (IsS26.below (by exact HI334.out) hb)
        have n1_ := Aside0.mk (blk_below BK346.out hb)
        have n2_ := Aside0.mk (blk_below BK351.out hb)
        have n3_ := Aside0.mk (blk_below BK371.out hb)
        have n4_ := Aside0.mk (below_step (by exact HB.out) hb)
        clear HI334
        clear BK346
        clear BK351
        clear BK371
        clear HB
        have HI334 := n0_
        have BK346 := n1_
        have BK351 := n2_
        have BK371 := n3_
        have HB := n4_
        clear n0_ n1_ n2_ n3_ n4_
        (try clear hb)
        (try clear hb2)
        (try clear hk)
        (try clear hi)
        refine hK.out _ _ ⟨(blk_cell BK346.out 0).trans rfl, (blk_cell BK346.out 1).trans rfl, (blk_cell BK346.out 2).trans rfl, (blk_cell BK346.out 3).trans rfl, (blk_cell BK346.out 4).trans rfl, (blk_cell BK346.out 5).trans rfl, (blk_cell BK346.out 6).trans rfl, (blk_cell BK346.out 7).trans rfl, (blk_cell BK346.out 8).trans rfl, (blk_cell BK346.out 9).trans rfl, (blk_cell BK351.out 0).trans rfl, (blk_cell BK351.out 1).trans rfl⟩ (fun hHeld => ?_)
        clear hK K
        refine norm_ (a' := ?_) ?_ ?_
        rotate_left
        · show Act.put _ (some 31) _ = _
          simp only [Act.put, List.setIfInBounds_toArray, List.set_cons_zero, List.set_cons_succ, i64_w, i32_w]
          rfl
        refine one_ (i := 4) (N := some 33) #[true, true, true, true, true, false, false, false, true, false, false] rfl rfl (one_of HT_.out (by kernel_rfl)) (by decide) (fun K hK => ?_)
        refine goes_ Try.func15 (by kernel_rfl) rfl #[.agg #[.int .i64 t335, .int .i64 t336, .int .i64 t337, .int .i64 t338, .int .i64 t339, .int .i64 t340, .int .i64 t341, .int .i64 t342, .int .i64 t343, .int .i64 t344], .agg #[.int .i64 t352, .int .i64 t353, .int .i64 t354, .bool t355, .int .i64 t356, .int .i64 t357, .int .i64 t358, .bool t359, .int .i64 t360], .agg #[.int .i64 t347, .int .i64 t349]] (by rfl) rfl rfl (by (try simp only [List.map_toArray, List.map_cons, List.map_nil]); first | done | rfl | (simp only [List.length_drop, List.length_take]; rfl)) ?_
        with_reducible refine (mount_Goto.calls k t335 t336 t337 t338 t339 t340 t341 t342 t343 t344 t352 t353 t354 t355 t356 t357 t358 t359 t360 t347 t349 t361 t362 t363 t364 t365 t366 t367 t368 t369 t370 _ A8.out).mono ?_
        rintro e w27 ⟨rfl, hb⟩
        refine ⟨_, rfl, ?_⟩
        have n0_ := Aside0.mk (IsS26.below (by exact HI334.out) hb)
        have n1_ := Aside0.mk (blk_below BK346.out hb)
        have n2_ := Aside0.mk (blk_below BK351.out hb)
        have n3_ := Aside0.mk (blk_below BK371.out hb)
        have n4_ := Aside0.mk (below_step (by exact HB.out) hb)
        clear HI334
        clear BK346
        clear BK351
        clear BK371
        clear HB
        have HI334 := n0_
        have BK346 := n1_
        have BK351 := n2_
        have BK371 := n3_
        have HB := n4_
        clear n0_ n1_ n2_ n3_ n4_
        (try clear hb)
        (try clear hb2)
        (try clear hk)
        (try clear hi)
        refine hK.out _ _ ⟨(blk_cell BK346.out 0).trans rfl, (blk_cell BK346.out 1).trans rfl, (blk_cell BK346.out 2).trans rfl, (blk_cell BK346.out 3).trans rfl, (blk_cell BK346.out 4).trans rfl, (blk_cell BK346.out 5).trans rfl, (blk_cell BK346.out 6).trans rfl, (blk_cell BK346.out 7).trans rfl, (blk_cell BK346.out 8).trans rfl, (blk_cell BK346.out 9).trans rfl, (blk_cell BK351.out 0).trans rfl, (blk_cell BK351.out 1).trans rfl⟩ (fun hHeld => ?_)
        clear hK K
        refine norm_ (a' := ?_) ?_ ?_
        rotate_left
        · show Act.put _ (some 33) _ = _
          simp only [Act.put, List.setIfInBounds_toArray, List.set_cons_zero, List.set_cons_succ, i64_w, i32_w]
          rfl
        refine pure_ (i := 5) (N := some 28) (v := ?_) (a' := ?_) #[true, true, true, true, true, true, false, false, true, false, false] rfl rfl (any_of HT_.out (by kernel_rfl)) (fun _ _ _ h => h) (Or.inl ⟨by rfl, ?_⟩) ?_ ?_
        rotate_left
        · intro w'
          go_simp
          with_reducible rfl
        rotate_left
        · simp only [Act.put, List.setIfInBounds_toArray, List.set_cons_zero, List.set_cons_succ, i64_w, i32_w]
          rfl
        refine pure_ (i := 6) (N := some 34) (v := ?_) (a' := ?_) #[true, true, true, true, true, true, true, false, true, false, false] rfl rfl (any_of HT_.out (by kernel_rfl)) (fun _ _ _ h => h) (Or.inl ⟨by rfl, ?_⟩) ?_ ?_
        rotate_left
        · intro w'
          go_simp
          with_reducible rfl
        rotate_left
        · simp only [Act.put, List.setIfInBounds_toArray, List.set_cons_zero, List.set_cons_succ, i64_w, i32_w]
          rfl
        refine pure_ (i := 7) (N := some 35) (v := ?_) (a' := ?_) #[true, true, true, true, true, true, true, true, true, false, false] rfl rfl (any_of HT_.out (by kernel_rfl)) (fun _ _ _ h => h) (Or.inl ⟨by rfl, ?_⟩) ?_ ?_
        rotate_left
        · intro w'
          go_simp
          with_reducible rfl
        rotate_left
        · simp only [Act.put, List.setIfInBounds_toArray, List.set_cons_zero, List.set_cons_succ, i64_w, i32_w]
          rfl
        exact norm_ (by simp only [putAll, Act.put, List.setIfInBounds_toArray, List.set_cons_zero, List.set_cons_succ]) (hCont (gb371) _ ⟨hHeld, (by exact BK346.out), (by exact BK351.out), (by exact BK371.out), GW371.out, GE371.out, NB334_371.out, NB371_334.out, NB346_371.out, NB371_346.out, NB351_371.out, NB371_351.out, (by exact HI334.out), (by exact HB.out)⟩)
    rintro gb371 w28 ⟨hS_, h0_, h1_, h2_, h3_, h4_, h5_, h6_, h7_, h8_, h9_, h10_, h11_, h12_⟩
    have n0_ : Aside0 (w28.heap[gb346]? = some (.cells #[.int .i64 t335, .int .i64 t336, .int .i64 t337, .int .i64 t338, .int .i64 t339, .int .i64 t340, .int .i64 t341, .int .i64 t342, .int .i64 t343, .int .i64 t344] 32 (0, 0))) := ⟨h0_⟩
    have n1_ : Aside0 (w28.heap[gb351]? = some (.cells #[.int .i64 t347, .int .i64 t349] 30 (0, 0))) := ⟨h1_⟩
    have n2_ : Aside0 (w28.heap[gb371]? = some (.cells #[.int .i64 0, .int .i64 0, .int .i64 0, .bool false, .int .i64 0, .int .i64 0, .int .i64 0, .bool false, .int .i64 0] 37 (0, 0))) := ⟨h2_⟩
    have n3_ : Aside0 (w.heap.size ≤ gb371) := ⟨h3_⟩
    have n4_ : Aside0 (w.heap.size ≤ gb371) := ⟨h4_⟩
    have n5_ : Aside0 (gb334 ≠ gb371) := ⟨h5_⟩
    have n6_ : Aside0 (gb371 ≠ gb334) := ⟨h6_⟩
    have n7_ : Aside0 (gb346 ≠ gb371) := ⟨h7_⟩
    have n8_ : Aside0 (gb371 ≠ gb346) := ⟨h8_⟩
    have n9_ : Aside0 (gb351 ≠ gb371) := ⟨h9_⟩
    have n10_ : Aside0 (gb371 ≠ gb351) := ⟨h10_⟩
    have n11_ : Aside0 (IsS26 w w28 gb334 l0 t350) := ⟨h11_⟩
    have n12_ : Aside0 (Below w.heap.size w w28) := ⟨h12_⟩
    clear BK346
    clear BK351
    clear HI334
    clear HB
    clear h0_ h1_ h2_ h3_ h4_ h5_ h6_ h7_ h8_ h9_ h10_ h11_ h12_
    have BK346 := n0_
    have BK351 := n1_
    have BK371 := n2_
    have GW371 := n3_
    have GE371 := n4_
    have NB334_371 := n5_
    have NB371_334 := n6_
    have NB346_371 := n7_
    have NB371_346 := n8_
    have NB351_371 := n9_
    have NB371_351 := n10_
    have HI334 := n11_
    have HB := n12_
    clear n0_ n1_ n2_ n3_ n4_ n5_ n6_ n7_ n8_ n9_ n10_ n11_ n12_
    have hHeld : w28.cell? ⟨gb346, 0, none⟩ = some (.int .i64 t335) ∧ w28.cell? ⟨gb346, 1, none⟩ = some (.int .i64 t336) ∧ w28.cell? ⟨gb346, 2, none⟩ = some (.int .i64 t337) ∧ w28.cell? ⟨gb346, 3, none⟩ = some (.int .i64 t338) ∧ w28.cell? ⟨gb346, 4, none⟩ = some (.int .i64 t339) ∧ w28.cell? ⟨gb346, 5, none⟩ = some (.int .i64 t340) ∧ w28.cell? ⟨gb346, 6, none⟩ = some (.int .i64 t341) ∧ w28.cell? ⟨gb346, 7, none⟩ = some (.int .i64 t342) ∧ w28.cell? ⟨gb346, 8, none⟩ = some (.int .i64 t343) ∧ w28.cell? ⟨gb346, 9, none⟩ = some (.int .i64 t344) ∧ w28.cell? ⟨gb351, 0, none⟩ = some (.int .i64 t347) ∧ w28.cell? ⟨gb351, 1, none⟩ = some (.int .i64 t349) := hS_
    refine norm_ (a' := ?_) ?_ ?_
    rotate_left
    · simp only [putAll, Act.put, List.setIfInBounds_toArray, List.set_cons_zero, List.set_cons_succ]
      rfl
    refine one_ (i := 9) (N := none) #[true, true, true, true, true, true, true, true, true, true, false] rfl rfl (one_of HT_.out (by kernel_rfl)) (by decide) (fun K hK => ?_)
    have hs29 : w28.cell? ⟨gb371, 0, none⟩ = some (.int .i64 0) := (blk_cell BK371.out 0).trans rfl
    have hfs29 := blk_frozen BK371.out 0
    have hns29_0 := NB346_371.out
    have hns29_1 := NB351_371.out
    have hms29_0 := NB371_346.out
    have hms29_1 := NB371_351.out
    have hs30 : w28.cell? ⟨gb371, 1, none⟩ = some (.int .i64 0) := (blk_cell BK371.out 1).trans rfl
    have hfs30 := blk_frozen BK371.out 1
    have hns30_0 := NB346_371.out
    have hns30_1 := NB351_371.out
    have hms30_0 := NB371_346.out
    have hms30_1 := NB371_351.out
    have hs31 : w28.cell? ⟨gb371, 2, none⟩ = some (.int .i64 0) := (blk_cell BK371.out 2).trans rfl
    have hfs31 := blk_frozen BK371.out 2
    have hns31_0 := NB346_371.out
    have hns31_1 := NB351_371.out
    have hms31_0 := NB371_346.out
    have hms31_1 := NB371_351.out
    have hs32 : w28.cell? ⟨gb371, 3, none⟩ = some (.bool false) := (blk_cell BK371.out 3).trans rfl
    have hfs32 := blk_frozen BK371.out 3
    have hns32_0 := NB346_371.out
    have hns32_1 := NB351_371.out
    have hms32_0 := NB371_346.out
    have hms32_1 := NB371_351.out
    have hs33 : w28.cell? ⟨gb371, 4, none⟩ = some (.int .i64 0) := (blk_cell BK371.out 4).trans rfl
    have hfs33 := blk_frozen BK371.out 4
    have hns33_0 := NB346_371.out
    have hns33_1 := NB351_371.out
    have hms33_0 := NB371_346.out
    have hms33_1 := NB371_351.out
    have hs34 : w28.cell? ⟨gb371, 5, none⟩ = some (.int .i64 0) := (blk_cell BK371.out 5).trans rfl
    have hfs34 := blk_frozen BK371.out 5
    have hns34_0 := NB346_371.out
    have hns34_1 := NB351_371.out
    have hms34_0 := NB371_346.out
    have hms34_1 := NB371_351.out
    have hs35 : w28.cell? ⟨gb371, 6, none⟩ = some (.int .i64 0) := (blk_cell BK371.out 6).trans rfl
    have hfs35 := blk_frozen BK371.out 6
    have hns35_0 := NB346_371.out
    have hns35_1 := NB351_371.out
    have hms35_0 := NB371_346.out
    have hms35_1 := NB371_351.out
    have hs36 : w28.cell? ⟨gb371, 7, none⟩ = some (.bool false) := (blk_cell BK371.out 7).trans rfl
    have hfs36 := blk_frozen BK371.out 7
    have hns36_0 := NB346_371.out
    have hns36_1 := NB351_371.out
    have hms36_0 := NB371_346.out
    have hms36_1 := NB371_351.out
    have hs37 : w28.cell? ⟨gb371, 8, none⟩ = some (.int .i64 0) := (blk_cell BK371.out 8).trans rfl
    have hfs37 := blk_frozen BK371.out 8
    have hns37_0 := NB346_371.out
    have hns37_1 := NB351_371.out
    have hms37_0 := NB371_346.out
    have hms37_1 := NB371_351.out
    refine skip_ (w1 := ?_) (by rfl) rfl ?_ ?_
    rotate_left
    · go_simp
      rfl
    refine hK.out _ _ ⟨((cell_far (p := ⟨gb371, _, none⟩) NB346_371.out _).trans (((cell_far (p := ⟨gb371, _, none⟩) NB346_371.out _).trans (((cell_far (p := ⟨gb371, _, none⟩) NB346_371.out _).trans (((cell_far (p := ⟨gb371, _, none⟩) NB346_371.out _).trans (((cell_far (p := ⟨gb371, _, none⟩) NB346_371.out _).trans (((cell_far (p := ⟨gb371, _, none⟩) NB346_371.out _).trans (((cell_far (p := ⟨gb371, _, none⟩) NB346_371.out _).trans (((cell_far (p := ⟨gb371, _, none⟩) NB346_371.out _).trans (((cell_far (p := ⟨gb371, _, none⟩) NB346_371.out _).trans (hHeld.1)))))))))))))))))), ((cell_far (p := ⟨gb371, _, none⟩) NB346_371.out _).trans (((cell_far (p := ⟨gb371, _, none⟩) NB346_371.out _).trans (((cell_far (p := ⟨gb371, _, none⟩) NB346_371.out _).trans (((cell_far (p := ⟨gb371, _, none⟩) NB346_371.out _).trans (((cell_far (p := ⟨gb371, _, none⟩) NB346_371.out _).trans (((cell_far (p := ⟨gb371, _, none⟩) NB346_371.out _).trans (((cell_far (p := ⟨gb371, _, none⟩) NB346_371.out _).trans (((cell_far (p := ⟨gb371, _, none⟩) NB346_371.out _).trans (((cell_far (p := ⟨gb371, _, none⟩) NB346_371.out _).trans (hHeld.2.1)))))))))))))))))), ((cell_far (p := ⟨gb371, _, none⟩) NB346_371.out _).trans (((cell_far (p := ⟨gb371, _, none⟩) NB346_371.out _).trans (((cell_far (p := ⟨gb371, _, none⟩) NB346_371.out _).trans (((cell_far (p := ⟨gb371, _, none⟩) NB346_371.out _).trans (((cell_far (p := ⟨gb371, _, none⟩) NB346_371.out _).trans (((cell_far (p := ⟨gb371, _, none⟩) NB346_371.out _).trans (((cell_far (p := ⟨gb371, _, none⟩) NB346_371.out _).trans (((cell_far (p := ⟨gb371, _, none⟩) NB346_371.out _).trans (((cell_far (p := ⟨gb371, _, none⟩) NB346_371.out _).trans (hHeld.2.2.1)))))))))))))))))), ((cell_far (p := ⟨gb371, _, none⟩) NB346_371.out _).trans (((cell_far (p := ⟨gb371, _, none⟩) NB346_371.out _).trans (((cell_far (p := ⟨gb371, _, none⟩) NB346_371.out _).trans (((cell_far (p := ⟨gb371, _, none⟩) NB346_371.out _).trans (((cell_far (p := ⟨gb371, _, none⟩) NB346_371.out _).trans (((cell_far (p := ⟨gb371, _, none⟩) NB346_371.out _).trans (((cell_far (p := ⟨gb371, _, none⟩) NB346_371.out _).trans (((cell_far (p := ⟨gb371, _, none⟩) NB346_371.out _).trans (((cell_far (p := ⟨gb371, _, none⟩) NB346_371.out _).trans (hHeld.2.2.2.1)))))))))))))))))), ((cell_far (p := ⟨gb371, _, none⟩) NB346_371.out _).trans (((cell_far (p := ⟨gb371, _, none⟩) NB346_371.out _).trans (((cell_far (p := ⟨gb371, _, none⟩) NB346_371.out _).trans (((cell_far (p := ⟨gb371, _, none⟩) NB346_371.out _).trans (((cell_far (p := ⟨gb371, _, none⟩) NB346_371.out _).trans (((cell_far (p := ⟨gb371, _, none⟩) NB346_371.out _).trans (((cell_far (p := ⟨gb371, _, none⟩) NB346_371.out _).trans (((cell_far (p := ⟨gb371, _, none⟩) NB346_371.out _).trans (((cell_far (p := ⟨gb371, _, none⟩) NB346_371.out _).trans (hHeld.2.2.2.2.1)))))))))))))))))), ((cell_far (p := ⟨gb371, _, none⟩) NB346_371.out _).trans (((cell_far (p := ⟨gb371, _, none⟩) NB346_371.out _).trans (((cell_far (p := ⟨gb371, _, none⟩) NB346_371.out _).trans (((cell_far (p := ⟨gb371, _, none⟩) NB346_371.out _).trans (((cell_far (p := ⟨gb371, _, none⟩) NB346_371.out _).trans (((cell_far (p := ⟨gb371, _, none⟩) NB346_371.out _).trans (((cell_far (p := ⟨gb371, _, none⟩) NB346_371.out _).trans (((cell_far (p := ⟨gb371, _, none⟩) NB346_371.out _).trans (((cell_far (p := ⟨gb371, _, none⟩) NB346_371.out _).trans (hHeld.2.2.2.2.2.1)))))))))))))))))), ((cell_far (p := ⟨gb371, _, none⟩) NB346_371.out _).trans (((cell_far (p := ⟨gb371, _, none⟩) NB346_371.out _).trans (((cell_far (p := ⟨gb371, _, none⟩) NB346_371.out _).trans (((cell_far (p := ⟨gb371, _, none⟩) NB346_371.out _).trans (((cell_far (p := ⟨gb371, _, none⟩) NB346_371.out _).trans (((cell_far (p := ⟨gb371, _, none⟩) NB346_371.out _).trans (((cell_far (p := ⟨gb371, _, none⟩) NB346_371.out _).trans (((cell_far (p := ⟨gb371, _, none⟩) NB346_371.out _).trans (((cell_far (p := ⟨gb371, _, none⟩) NB346_371.out _).trans (hHeld.2.2.2.2.2.2.1)))))))))))))))))), ((cell_far (p := ⟨gb371, _, none⟩) NB346_371.out _).trans (((cell_far (p := ⟨gb371, _, none⟩) NB346_371.out _).trans (((cell_far (p := ⟨gb371, _, none⟩) NB346_371.out _).trans (((cell_far (p := ⟨gb371, _, none⟩) NB346_371.out _).trans (((cell_far (p := ⟨gb371, _, none⟩) NB346_371.out _).trans (((cell_far (p := ⟨gb371, _, none⟩) NB346_371.out _).trans (((cell_far (p := ⟨gb371, _, none⟩) NB346_371.out _).trans (((cell_far (p := ⟨gb371, _, none⟩) NB346_371.out _).trans (((cell_far (p := ⟨gb371, _, none⟩) NB346_371.out _).trans (hHeld.2.2.2.2.2.2.2.1)))))))))))))))))), ((cell_far (p := ⟨gb371, _, none⟩) NB346_371.out _).trans (((cell_far (p := ⟨gb371, _, none⟩) NB346_371.out _).trans (((cell_far (p := ⟨gb371, _, none⟩) NB346_371.out _).trans (((cell_far (p := ⟨gb371, _, none⟩) NB346_371.out _).trans (((cell_far (p := ⟨gb371, _, none⟩) NB346_371.out _).trans (((cell_far (p := ⟨gb371, _, none⟩) NB346_371.out _).trans (((cell_far (p := ⟨gb371, _, none⟩) NB346_371.out _).trans (((cell_far (p := ⟨gb371, _, none⟩) NB346_371.out _).trans (((cell_far (p := ⟨gb371, _, none⟩) NB346_371.out _).trans (hHeld.2.2.2.2.2.2.2.2.1)))))))))))))))))), ((cell_far (p := ⟨gb371, _, none⟩) NB346_371.out _).trans (((cell_far (p := ⟨gb371, _, none⟩) NB346_371.out _).trans (((cell_far (p := ⟨gb371, _, none⟩) NB346_371.out _).trans (((cell_far (p := ⟨gb371, _, none⟩) NB346_371.out _).trans (((cell_far (p := ⟨gb371, _, none⟩) NB346_371.out _).trans (((cell_far (p := ⟨gb371, _, none⟩) NB346_371.out _).trans (((cell_far (p := ⟨gb371, _, none⟩) NB346_371.out _).trans (((cell_far (p := ⟨gb371, _, none⟩) NB346_371.out _).trans (((cell_far (p := ⟨gb371, _, none⟩) NB346_371.out _).trans (hHeld.2.2.2.2.2.2.2.2.2.1)))))))))))))))))), ((cell_far (p := ⟨gb371, _, none⟩) NB351_371.out _).trans (((cell_far (p := ⟨gb371, _, none⟩) NB351_371.out _).trans (((cell_far (p := ⟨gb371, _, none⟩) NB351_371.out _).trans (((cell_far (p := ⟨gb371, _, none⟩) NB351_371.out _).trans (((cell_far (p := ⟨gb371, _, none⟩) NB351_371.out _).trans (((cell_far (p := ⟨gb371, _, none⟩) NB351_371.out _).trans (((cell_far (p := ⟨gb371, _, none⟩) NB351_371.out _).trans (((cell_far (p := ⟨gb371, _, none⟩) NB351_371.out _).trans (((cell_far (p := ⟨gb371, _, none⟩) NB351_371.out _).trans (hHeld.2.2.2.2.2.2.2.2.2.2.1)))))))))))))))))), ((cell_far (p := ⟨gb371, _, none⟩) NB351_371.out _).trans (((cell_far (p := ⟨gb371, _, none⟩) NB351_371.out _).trans (((cell_far (p := ⟨gb371, _, none⟩) NB351_371.out _).trans (((cell_far (p := ⟨gb371, _, none⟩) NB351_371.out _).trans (((cell_far (p := ⟨gb371, _, none⟩) NB351_371.out _).trans (((cell_far (p := ⟨gb371, _, none⟩) NB351_371.out _).trans (((cell_far (p := ⟨gb371, _, none⟩) NB351_371.out _).trans (((cell_far (p := ⟨gb371, _, none⟩) NB351_371.out _).trans (((cell_far (p := ⟨gb371, _, none⟩) NB351_371.out _).trans (hHeld.2.2.2.2.2.2.2.2.2.2.2))))))))))))))))))⟩ (fun hHeld => ?_)
    clear hK K
    refine pure_ (i := 10) (N := some 7) (v := ?_) (a' := ?_) #[true, true, true, true, true, true, true, true, true, true, true] rfl rfl (any_of HT_.out (by kernel_rfl)) (fun _ _ _ h => h) (Or.inl ⟨by rfl, ?_⟩) ?_ ?_
    rotate_left
    · intro w'
      go_simp
      with_reducible rfl
    rotate_left
    · simp only [Act.put, List.setIfInBounds_toArray, List.set_cons_zero, List.set_cons_succ, i64_w, i32_w]
      rfl
    refine done_ (done_of HT_.out (by kernel_rfl)) ?_
    have hnb38 := NB346_371.out
    have hnc38 := NB371_346.out
    have hcz39_0 := tch10 BK346.out
    have hnb40 := NB351_371.out
    have hnc40 := NB371_351.out
    have hcz41_0 := tch2 BK351.out
    go_upto_region 8 with (first | ((with_reducible refine gate_callee (f := 23) rfl ?_); refine goesL_ (some 41) rfl rfl Try.func23 (by kernel_rfl) rfl #[.agg #[.int .i64 t335, .int .i64 t336, .int .i64 t337, .int .i64 t338, .int .i64 t339, .int .i64 t340, .int .i64 t341, .int .i64 t342, .int .i64 t343, .int .i64 t344], .agg #[.int .i64 t343, .int .i64 t344], .agg #[.int .i64 t347, .int .i64 t349]] rfl (by (try simp only [List.map_toArray, List.map_cons, List.map_nil]); first | done | rfl | (simp only [List.length_drop, List.length_take]; rfl)) ?_; (with_reducible refine (slew_To.calls k t335 t336 t337 t338 t339 t340 t341 t342 t343 t344 t343 t344 t347 t349 t372 t373 t374 t375 _ A9.out).mono ?_); rintro e w42 ⟨rfl, hb⟩; refine ⟨_, rfl, ?_⟩; have n0_ := Aside0.mk (IsS26.below (show IsS26 w (((((((((w28.setCell ⟨gb371, 0, none⟩ (.int .i64 t361)).setCell ⟨gb371, 1, none⟩ (.int .i64 t362)).setCell ⟨gb371, 2, none⟩ (.int .i64 t363)).setCell ⟨gb371, 3, none⟩ (.bool t364)).setCell ⟨gb371, 4, none⟩ (.int .i64 t365)).setCell ⟨gb371, 5, none⟩ (.int .i64 t366)).setCell ⟨gb371, 6, none⟩ (.int .i64 t367)).setCell ⟨gb371, 7, none⟩ (.bool t368)).setCell ⟨gb371, 8, none⟩ (.int .i64 t369)) gb334 l0 t350 from by repeat (first | (with_reducible first | exact HI334.out | apply IsS26.alloc | apply IsS26.drewN | apply IsS26.drew | apply IsS26.set_1 | refine IsS26.far ?_ NB334_346.out _ | refine IsS26.far ?_ NB334_351.out _ | refine IsS26.far ?_ NB334_371.out _) | exact HI334.out)) hb); have n1_ := Aside0.mk (blk_below (g := gb346) (o := .cells #[.int .i64 t335, .int .i64 t336, .int .i64 t337, .int .i64 t338, .int .i64 t339, .int .i64 t340, .int .i64 t341, .int .i64 t342, .int .i64 t343, .int .i64 t344] 32 (0, 0)) (by exact (blk_far (blk_far (blk_far (blk_far (blk_far (blk_far (blk_far (blk_far (blk_far BK346.out NB346_371.out _) NB346_371.out _) NB346_371.out _) NB346_371.out _) NB346_371.out _) NB346_371.out _) NB346_371.out _) NB346_371.out _) NB346_371.out _)) hb); have n2_ := Aside0.mk (blk_below (g := gb351) (o := .cells #[.int .i64 t347, .int .i64 t349] 30 (0, 0)) (by exact (blk_far (blk_far (blk_far (blk_far (blk_far (blk_far (blk_far (blk_far (blk_far BK351.out NB351_371.out _) NB351_371.out _) NB351_371.out _) NB351_371.out _) NB351_371.out _) NB351_371.out _) NB351_371.out _) NB351_371.out _) NB351_371.out _)) hb); have n3_ := Aside0.mk (blk_below (g := gb371) (o := .cells #[.int .i64 t361, .int .i64 t362, .int .i64 t363, .bool t364, .int .i64 t365, .int .i64 t366, .int .i64 t367, .bool t368, .int .i64 t369] 37 (0, 0)) (by exact (blk_put (cs := #[.int .i64 t361, .int .i64 t362, .int .i64 t363, .bool t364, .int .i64 t365, .int .i64 t366, .int .i64 t367, .bool t368, .int .i64 0]) (blk_put (cs := #[.int .i64 t361, .int .i64 t362, .int .i64 t363, .bool t364, .int .i64 t365, .int .i64 t366, .int .i64 t367, .bool false, .int .i64 0]) (blk_put (cs := #[.int .i64 t361, .int .i64 t362, .int .i64 t363, .bool t364, .int .i64 t365, .int .i64 t366, .int .i64 0, .bool false, .int .i64 0]) (blk_put (cs := #[.int .i64 t361, .int .i64 t362, .int .i64 t363, .bool t364, .int .i64 t365, .int .i64 0, .int .i64 0, .bool false, .int .i64 0]) (blk_put (cs := #[.int .i64 t361, .int .i64 t362, .int .i64 t363, .bool t364, .int .i64 0, .int .i64 0, .int .i64 0, .bool false, .int .i64 0]) (blk_put (cs := #[.int .i64 t361, .int .i64 t362, .int .i64 t363, .bool false, .int .i64 0, .int .i64 0, .int .i64 0, .bool false, .int .i64 0]) (blk_put (cs := #[.int .i64 t361, .int .i64 t362, .int .i64 0, .bool false, .int .i64 0, .int .i64 0, .int .i64 0, .bool false, .int .i64 0]) (blk_put (cs := #[.int .i64 t361, .int .i64 0, .int .i64 0, .bool false, .int .i64 0, .int .i64 0, .int .i64 0, .bool false, .int .i64 0]) (blk_put (cs := #[.int .i64 0, .int .i64 0, .int .i64 0, .bool false, .int .i64 0, .int .i64 0, .int .i64 0, .bool false, .int .i64 0]) BK371.out 0 _ rfl) 1 _ rfl) 2 _ rfl) 3 _ rfl) 4 _ rfl) 5 _ rfl) 6 _ rfl) 7 _ rfl) 8 _ rfl)) hb); have n4_ := Aside0.mk (below_step (by repeat (first | (with_reducible first | exact HB.out | apply below_alloc | apply pw_below_drewN | apply below_drew1 | refine below_set ?_ (IsS26.ge HI334.out) | refine below_set ?_ GE346.out | refine below_set ?_ GE351.out | refine below_set ?_ GE371.out) | exact HB.out)) hb); clear HI334; clear BK346; clear BK351; clear BK371; clear HB; have HI334 := n0_; have BK346 := n1_; have BK351 := n2_; have BK371 := n3_; have HB := n4_; clear n0_ n1_ n2_ n3_ n4_; (try clear hb); (try clear hb2); (try clear hk); (try clear hi)) | ((with_reducible refine gate_dst (N := 8) rfl ?_); refine box_event ?hg (N := 8) ?hd (cs := #[.int .i64 0, .int .i64 0]) (t := 30) ?hr ?_; (case hd => rfl); (case hg => rfl); (case hr => first | (go_simp; done) | (go_simp; rfl)); intro gb376 hg w43 hbox hb; have n0_ := Aside0.mk (IsS26.below (by exact HI334.out) hb); have n1_ := Aside0.mk (blk_below BK346.out hb); have n2_ := Aside0.mk (blk_below BK351.out hb); have n3_ := Aside0.mk (blk_below BK371.out hb); have n4_ := Aside0.mk (below_step (by exact HB.out) hb); have n5_ := Aside0.mk (hbox); have n6_ := Aside0.mk ((by rw [hg]; exact (below_size (by exact HB.out)) : w.heap.size ≤ gb376)); have n7_ := Aside0.mk ((by rw [hg]; exact (below_size (by exact HB.out)) : w.heap.size ≤ gb376)); have n8_ := Aside0.mk ((by rw [hg]; exact Nat.ne_of_lt (blk_lt BK346.out) : gb346 ≠ gb376)); have n9_ := Aside0.mk ((by rw [hg]; exact Nat.ne_of_lt (blk_lt BK351.out) : gb351 ≠ gb376)); have n10_ := Aside0.mk ((by rw [hg]; exact Nat.ne_of_lt (blk_lt BK371.out) : gb371 ≠ gb376)); have n11_ := Aside0.mk ((by rw [hg]; exact Nat.ne_of_gt (blk_lt BK371.out) : gb376 ≠ gb371)); have n12_ := Aside0.mk ((by rw [hg]; exact Nat.ne_of_lt (IsS26.lt (show IsS26 w _ gb334 l0 t350 from by exact HI334.out)) : gb334 ≠ gb376)); clear HI334; clear BK346; clear BK351; clear BK371; clear HB; have HI334 := n0_; have BK346 := n1_; have BK351 := n2_; have BK371 := n3_; have HB := n4_; have BK376 := n5_; have GW376 := n6_; have GE376 := n7_; have NB346_376 := n8_; have NB351_376 := n9_; have NB371_376 := n10_; have NB376_371 := n11_; have NB334_376 := n12_; clear n0_ n1_ n2_ n3_ n4_ n5_ n6_ n7_ n8_ n9_ n10_ n11_ n12_; clear hb hbox hg) | ((with_reducible refine gate_store (t := 30) (p := 8) rfl ?_); refine store_row (t := 30) (p := 8) (v := ?vo_w44) ?hgd ?ho ?hN gb376 0 #[.int .i64 0, .int .i64 0] [.int .i64 t372, .int .i64 t373] #[.int .i64 t372, .int .i64 t373] ?hx ?hy (by exact BK376.out) szi30 (Nat.le_of_ble_eq_true rfl) ?h1 ?hnew ?_; (case ho => rfl); (case hgd => rfl); (case hN => rfl); (case hx => rfl); (case hy => first | rfl | (go_simp; done) | (go_simp; rfl)); (case h1 => rfl); (case hnew => rfl); intro w44 hbox hg; have n0_ := Aside0.mk (blk_grown BK346.out hg (fun e_ => NB346_376.out (Option.some.inj e_))); have n1_ := Aside0.mk (blk_grown BK351.out hg (fun e_ => NB351_376.out (Option.some.inj e_))); have n2_ := Aside0.mk (blk_grown BK371.out hg (fun e_ => NB371_376.out (Option.some.inj e_))); have n3_ := Aside0.mk (IsS26.grown (by exact HI334.out) hg (fun e_ => NB334_376.out (Option.some.inj e_))); have n4_ := Aside0.mk (pw_below_grown (by exact HB.out) (some gb376) (below_size (by exact HB.out)) hg (fun k_ e_ => by cases e_; exact GE376.out)); have n5_ := Aside0.mk (hbox); clear BK346; clear BK351; clear BK371; clear HI334; clear HB; clear BK376; have BK346 := n0_; have BK351 := n1_; have BK371 := n2_; have HI334 := n3_; have HB := n4_; have BK376 := n5_; clear n0_ n1_ n2_ n3_ n4_ n5_; clear hbox hg))
    (try simp only [Act.put, List.setIfInBounds_toArray, List.set_cons_zero, List.set_cons_succ])
    go_cut [50] (fun v50 wc => ∃ (kq : Nat) (x50_9 : Bool), v50 = .bool x50_9 ∧ Aside0 (spykeep2_MountArrives.j0 kq t374 x50_9 t335 t336 t337 t338 t339 t340 t341 t342 t343 t344 t347 t349 t361 t362 t363 t364 t365 t366 t367 t368 t369 t372 t373 = some r) ∧ Aside0 (kq ≤ k) ∧ Aside0 (wc.heap[gb346]? = some (.cells #[.int .i64 t335, .int .i64 t336, .int .i64 t337, .int .i64 t338, .int .i64 t339, .int .i64 t340, .int .i64 t341, .int .i64 t342, .int .i64 t343, .int .i64 t344] 32 (0, 0))) ∧ Aside0 (wc.heap[gb351]? = some (.cells #[.int .i64 t347, .int .i64 t349] 30 (0, 0))) ∧ Aside0 (wc.heap[gb371]? = some (.cells #[.int .i64 t361, .int .i64 t362, .int .i64 t363, .bool t364, .int .i64 t365, .int .i64 t366, .int .i64 t367, .bool t368, .int .i64 t369] 37 (0, 0))) ∧ Aside0 (wc.heap[gb376]? = some (.cells #[.int .i64 t372, .int .i64 t373] 30 (0, 0))) ∧ Aside0 (Below w.heap.size w wc))
    case first =>
      have H := HC10.out
      clear HC10
      by_cases c45 : t370 = 0
      · rw [if_pos c45] at H
        have c45b0 : (t370 == 0) = true := beq_iff_eq.mpr c45
        have c45b1 : (t370 != 0) = false := bne_eq_false_iff_eq.mpr c45
        clear c45
        (first | rw [c45b0] | (simp only [i64_w, i32_w]; rw [c45b0]) | skip)
        have H' := Aside0.mk H
        clear H
        go_wp2
        go_meet
        case rel => exact ⟨_, ((t375 != 0)), (by first | rfl | (simp; done) | (simp [*]; done)), H', ⟨by first | omega | exact Nat.le_refl _⟩, ⟨by exact BK346.out⟩, ⟨by exact BK351.out⟩, ⟨by exact BK371.out⟩, ⟨by exact BK376.out⟩, ⟨by exact HB.out⟩⟩
      · rw [if_neg c45] at H
        have c45b0 : (t370 == 0) = false := beq_eq_false_iff_ne.mpr c45
        have c45b1 : (t370 != 0) = true := bne_iff_ne.mpr c45
        (first | rw [c45b0] | (simp only [i64_w, i32_w]; rw [c45b0]) | skip)
        have H' := Aside0.mk H
        clear H
        go_wp2
        go_meet
        case rel => exact ⟨_, (true), (by first | rfl | (simp; done) | (simp [*]; done)), H', ⟨by first | omega | exact Nat.le_refl _⟩, ⟨by exact BK346.out⟩, ⟨by exact BK351.out⟩, ⟨by exact BK371.out⟩, ⟨by exact BK376.out⟩, ⟨by exact HB.out⟩⟩
    case rest =>
      clear HC10
      try clear c1
      try clear c2
      try clear p2
      try clear c3
      try clear c4
      try clear c12
      try clear c15
      try clear c23
      try clear c38
      try clear c40
      try clear c45
      try clear c45b0
      try clear c45b1
      try clear hcz39_0
      try clear hcz41_0
      obtain ⟨kq, x50_9, rfl, HA, HJ9, BK346, BK351, BK371, BK376, HB⟩ := hcut
      cases kq with
      | zero => exact absurd HA.out (by simp [spykeep2_MountArrives.j0])
      | succ kj9 =>
        have H := HA.out
        clear HA
        simp only [spykeep2_MountArrives.j0] at H
        by_cases c46 : x50_9 = true
        · subst c46
          have H1 : (some false) = some r := by rw [if_pos rfl] at H; exact H
          clear H
          have H := H1
          clear H1
          obtain rfl := Option.some.inj H
          go_wp2
          go_ret
          exact ⟨by first | rfl | (simp [errW_none, errW_some] <;> rfl) | (simp [*, errW_none, errW_some] <;> rfl), by exact HB.out⟩
        · replace c46 := Bool.eq_false_iff.mpr c46
          subst c46
          have H1 : (if (!(t372 == t347) || (!(t373 == t349))) = true then (some true) else (spykeep2_MountArrives.l0 kj9 (mx t374 1) 0 t335 t336 t337 t338 t339 t340 t341 t342 t343 t344 t347 t349 t361 t362 t363 t364 t365 t366 t367 t368 t369)) = some r := by rw [if_neg (show ¬ (false = true) by decide)] at H; exact H
          clear H
          have H := H1
          clear H1
          by_cases c47 : (!(t372 == t347) || (!(t373 == t349))) = true
          · rw [if_pos c47] at H
            have c47b0 : (!(t372 == t347) || (!(t373 == t349))) = true := c47
            clear c47
            obtain rfl := Option.some.inj H
            have hcz48_0 := tch2 BK376.out
            have hcz49_0 := tch2 BK351.out
            go_wp2
            go_ret
            exact ⟨by first | rfl | (simp [errW_none, errW_some] <;> rfl) | (simp [*, errW_none, errW_some] <;> rfl), by exact HB.out⟩
          · rw [if_neg c47] at H
            have c47b0 : (!(t372 == t347) || (!(t373 == t349))) = false := by simpa using c47
            clear c47
            obtain ⟨ji50, hji50⟩ : ∃ j_ : Int, (mx t374 1) = j_ := ⟨_, rfl⟩
            replace H : (spykeep2_MountArrives.l0 kj9 ji50 0 t335 t336 t337 t338 t339 t340 t341 t342 t343 t344 t347 t349 t361 t362 t363 t364 t365 t366 t367 t368 t369) = some r := by first | (rw [hji50] at H; exact H) | (simp only [hji50] at H ⊢; exact H)
            have hji50_ : (if t374 < 1 then 1 else t374) = ji50 := hji50
            have H' := Aside0.mk H
            clear H
            have hcz51_0 := tch2 BK376.out
            have hcz52_0 := tch2 BK351.out
            go_wp2
            go_loopg [56] kj9 (fun kq v56 w' => ∃ (x56_2 : Int) (x372000_2 : Int) (x372001_2 : Int) (x372002_2 : Int) (x372003_2 : Bool) (x372004_2 : Int) (x372005_2 : Int) (x372006_2 : Int) (x372007_2 : Bool) (x372008_2 : Int), v56 = .int .i64 x56_2 ∧ Aside0 (spykeep2_MountArrives.l0 kq ji50 x56_2 t335 t336 t337 t338 t339 t340 t341 t342 t343 t344 t347 t349 x372000_2 x372001_2 x372002_2 x372003_2 x372004_2 x372005_2 x372006_2 x372007_2 x372008_2 = some r) ∧ Aside0 (kq ≤ kj9) ∧ Aside0 (w'.heap[gb346]? = some (.cells #[.int .i64 t335, .int .i64 t336, .int .i64 t337, .int .i64 t338, .int .i64 t339, .int .i64 t340, .int .i64 t341, .int .i64 t342, .int .i64 t343, .int .i64 t344] 32 (0, 0))) ∧ Aside0 (w'.heap[gb351]? = some (.cells #[.int .i64 t347, .int .i64 t349] 30 (0, 0))) ∧ Aside0 (w'.heap[gb371]? = some (.cells #[.int .i64 x372000_2, .int .i64 x372001_2, .int .i64 x372002_2, .bool x372003_2, .int .i64 x372004_2, .int .i64 x372005_2, .int .i64 x372006_2, .bool x372007_2, .int .i64 x372008_2] 37 (0, 0))) ∧ Aside0 (w'.heap[gb376]? = some (.cells #[.int .i64 t372, .int .i64 t373] 30 (0, 0))) ∧ Aside0 (Below w.heap.size w w'))
            case atStart => exact ⟨(0), (t361), (t362), (t363), (t364), (t365), (t366), (t367), (t368), (t369), (by first | rfl | (simp; done) | (simp [*]; done)), H', ⟨Nat.le_refl _⟩, ⟨by exact BK346.out⟩, ⟨by exact BK351.out⟩, ⟨by exact BK371.out⟩, ⟨by exact BK376.out⟩, ⟨by exact HB.out⟩⟩
            case round =>
              clear H'
              try clear c1
              try clear c2
              try clear p2
              try clear c3
              try clear c4
              try clear c12
              try clear c15
              try clear c23
              try clear c38
              try clear c40
              try clear c45
              try clear c45b0
              try clear c45b1
              try clear c46
              try clear c47
              try clear c47b0
              try clear hcz39_0
              try clear hcz41_0
              try clear hcz48_0
              try clear hcz49_0
              try clear hcz51_0
              try clear hcz52_0
              try clear p2
              obtain ⟨x56_2, x372000_2, x372001_2, x372002_2, x372003_2, x372004_2, x372005_2, x372006_2, x372007_2, x372008_2, rfl, HA, HK2, BK346, BK351, BK371, BK376, HB⟩ := hrel
              cases gk with
              | zero => exact absurd HA.out (by simp [spykeep2_MountArrives.l0])
              | succ k2 =>
                have H := HA.out
                clear HA
                simp only [spykeep2_MountArrives.l0] at H
                by_cases c53 : x56_2 < ji50
                · rw [if_pos c53] at H
                  have c53b0 : decide (x56_2 < ji50) = true := decide_eq_true c53
                  clear c53
                  by_cases c54 : x56_2 > 0
                  · rw [if_pos c54] at H
                    have c54b0 : decide (0 < x56_2) = true := decide_eq_true c54
                    clear c54
                    by_cases c55 : x372008_2 = 2
                    · rw [if_pos c55] at H
                      have c55b0 : (x372008_2 == 2) = true := beq_iff_eq.mpr c55
                      have c55b1 : (x372008_2 != 2) = false := bne_eq_false_iff_eq.mpr c55
                      clear c55
                      replace H := Option.bind_eq_some_iff.mp H
                      obtain ⟨⟨t377, t378, t379, t380, t381, t382, t383, t384, t385⟩, A560, H⟩ := H
                      replace H : (spykeep2_MountArrives.l0 k2 ji50 (wrap64 (x56_2 + 1)) t335 t336 t337 t338 t339 t340 t341 t342 t343 t344 t347 t349 t377 t378 t379 t380 t381 t382 t383 t384 t385) = some r := H
                      have A56 := Aside0.mk A560
                      clear A560
                      have H' := Aside0.mk H
                      clear H
                      have hcz57_0 := tch9 BK371.out
                      have hcz58_0 := tch10 BK346.out
                      go_wp2_with (first | ((with_reducible refine gate_callee (f := 20) rfl ?_); refine goesL_ (some 68) rfl rfl Try.func20 (by kernel_rfl) rfl #[.agg #[.int .i64 t335, .int .i64 t336, .int .i64 t337, .int .i64 t338, .int .i64 t339, .int .i64 t340, .int .i64 t341, .int .i64 t342, .int .i64 t343, .int .i64 t344], .agg #[.int .i64 x372000_2, .int .i64 x372001_2, .int .i64 x372002_2, .bool x372003_2, .int .i64 x372004_2, .int .i64 x372005_2, .int .i64 x372006_2, .bool x372007_2, .int .i64 x372008_2]] rfl (by (try simp only [List.map_toArray, List.map_cons, List.map_nil]); first | done | rfl | (simp only [List.length_drop, List.length_take]; rfl)) ?_; (with_reducible refine (mount_Step.calls k2 t335 t336 t337 t338 t339 t340 t341 t342 t343 t344 x372000_2 x372001_2 x372002_2 x372003_2 x372004_2 x372005_2 x372006_2 x372007_2 x372008_2 t377 t378 t379 t380 t381 t382 t383 t384 t385 _ A56.out).mono ?_); rintro e w59 ⟨rfl, hb⟩; refine ⟨_, rfl, ?_⟩; have n0_ := Aside0.mk (blk_below BK346.out hb); have n1_ := Aside0.mk (blk_below BK351.out hb); have n2_ := Aside0.mk (blk_below BK371.out hb); have n3_ := Aside0.mk (blk_below BK376.out hb); have n4_ := Aside0.mk (below_step (by exact HB.out) hb); clear BK346; clear BK351; clear BK371; clear BK376; clear HB; have BK346 := n0_; have BK351 := n1_; have BK371 := n2_; have BK376 := n3_; have HB := n4_; clear n0_ n1_ n2_ n3_ n4_; (try clear hb); (try clear hb2); (try clear hk); (try clear hi)) | ((with_reducible refine gate_store (t := 37) (p := 6) rfl ?_); refine store_row (t := 37) (p := 6) (v := ?vo_w60) ?hgd ?ho ?hN gb371 0 #[.int .i64 x372000_2, .int .i64 x372001_2, .int .i64 x372002_2, .bool x372003_2, .int .i64 x372004_2, .int .i64 x372005_2, .int .i64 x372006_2, .bool x372007_2, .int .i64 x372008_2] [.int .i64 t377, .int .i64 t378, .int .i64 t379, .bool t380, .int .i64 t381, .int .i64 t382, .int .i64 t383, .bool t384, .int .i64 t385] #[.int .i64 t377, .int .i64 t378, .int .i64 t379, .bool t380, .int .i64 t381, .int .i64 t382, .int .i64 t383, .bool t384, .int .i64 t385] ?hx ?hy (by exact BK371.out) szi37 (Nat.le_of_ble_eq_true rfl) ?h1 ?hnew ?_; (case ho => rfl); (case hgd => rfl); (case hN => rfl); (case hx => rfl); (case hy => first | rfl | (go_simp; done) | (go_simp; rfl)); (case h1 => rfl); (case hnew => rfl); intro w60 hbox hg; have n0_ := Aside0.mk (blk_grown BK346.out hg (fun e_ => NB346_371.out (Option.some.inj e_))); have n1_ := Aside0.mk (blk_grown BK351.out hg (fun e_ => NB351_371.out (Option.some.inj e_))); have n2_ := Aside0.mk (blk_grown BK376.out hg (fun e_ => NB376_371.out (Option.some.inj e_))); have n3_ := Aside0.mk (pw_below_grown (by exact HB.out) (some gb371) (below_size (by exact HB.out)) hg (fun k_ e_ => by cases e_; exact GE371.out)); have n4_ := Aside0.mk (hbox); clear BK346; clear BK351; clear BK376; clear HB; clear BK371; have BK346 := n0_; have BK351 := n1_; have BK376 := n2_; have HB := n3_; have BK371 := n4_; clear n0_ n1_ n2_ n3_ n4_; clear hbox hg))
                      go_roundg k2
                      case measure => have := HJ9.out; have := HK2.out; omega
                      case rel => exact ⟨(wrap64 (x56_2 + 1)), (t377), (t378), (t379), (t380), (t381), (t382), (t383), (t384), (t385), (by first | rfl | (simp; done) | (simp [*]; done)), H', ⟨by have := HJ9.out; have := HK2.out; omega⟩, ⟨by exact BK346.out⟩, ⟨by exact BK351.out⟩, ⟨by exact BK371.out⟩, ⟨by exact BK376.out⟩, ⟨by exact HB.out⟩⟩
                    · rw [if_neg c55] at H
                      have c55b0 : (x372008_2 == 2) = false := beq_eq_false_iff_ne.mpr c55
                      have c55b1 : (x372008_2 != 2) = true := bne_iff_ne.mpr c55
                      obtain rfl := Option.some.inj H
                      have hcz61_0 := tch9 BK371.out
                      go_wp2
                      go_ret
                      exact ⟨by first | rfl | (simp [errW_none, errW_some] <;> rfl) | (simp only [← hji50]; first | rfl | (simp [errW_none, errW_some] <;> rfl)) | (simp [*, errW_none, errW_some] <;> rfl), by exact HB.out⟩
                  · rw [if_neg c54] at H
                    have c54b0 : decide (0 < x56_2) = false := decide_eq_false c54
                    clear c54
                    replace H := Option.bind_eq_some_iff.mp H
                    obtain ⟨⟨t386, t387, t388, t389, t390, t391, t392, t393, t394⟩, A620, H⟩ := H
                    replace H : (spykeep2_MountArrives.l0 k2 ji50 (wrap64 (x56_2 + 1)) t335 t336 t337 t338 t339 t340 t341 t342 t343 t344 t347 t349 t386 t387 t388 t389 t390 t391 t392 t393 t394) = some r := H
                    have A62 := Aside0.mk A620
                    clear A620
                    have H' := Aside0.mk H
                    clear H
                    have hcz63_0 := tch10 BK346.out
                    have hcz64_0 := tch9 BK371.out
                    go_wp2_with (first | ((with_reducible refine gate_callee (f := 20) rfl ?_); refine goesL_ (some 68) rfl rfl Try.func20 (by kernel_rfl) rfl #[.agg #[.int .i64 t335, .int .i64 t336, .int .i64 t337, .int .i64 t338, .int .i64 t339, .int .i64 t340, .int .i64 t341, .int .i64 t342, .int .i64 t343, .int .i64 t344], .agg #[.int .i64 x372000_2, .int .i64 x372001_2, .int .i64 x372002_2, .bool x372003_2, .int .i64 x372004_2, .int .i64 x372005_2, .int .i64 x372006_2, .bool x372007_2, .int .i64 x372008_2]] rfl (by (try simp only [List.map_toArray, List.map_cons, List.map_nil]); first | done | rfl | (simp only [List.length_drop, List.length_take]; rfl)) ?_; (with_reducible refine (mount_Step.calls k2 t335 t336 t337 t338 t339 t340 t341 t342 t343 t344 x372000_2 x372001_2 x372002_2 x372003_2 x372004_2 x372005_2 x372006_2 x372007_2 x372008_2 t386 t387 t388 t389 t390 t391 t392 t393 t394 _ A62.out).mono ?_); rintro e w65 ⟨rfl, hb⟩; refine ⟨_, rfl, ?_⟩; have n0_ := Aside0.mk (blk_below BK346.out hb); have n1_ := Aside0.mk (blk_below BK351.out hb); have n2_ := Aside0.mk (blk_below BK371.out hb); have n3_ := Aside0.mk (blk_below BK376.out hb); have n4_ := Aside0.mk (below_step (by exact HB.out) hb); clear BK346; clear BK351; clear BK371; clear BK376; clear HB; have BK346 := n0_; have BK351 := n1_; have BK371 := n2_; have BK376 := n3_; have HB := n4_; clear n0_ n1_ n2_ n3_ n4_; (try clear hb); (try clear hb2); (try clear hk); (try clear hi)) | ((with_reducible refine gate_store (t := 37) (p := 6) rfl ?_); refine store_row (t := 37) (p := 6) (v := ?vo_w66) ?hgd ?ho ?hN gb371 0 #[.int .i64 x372000_2, .int .i64 x372001_2, .int .i64 x372002_2, .bool x372003_2, .int .i64 x372004_2, .int .i64 x372005_2, .int .i64 x372006_2, .bool x372007_2, .int .i64 x372008_2] [.int .i64 t386, .int .i64 t387, .int .i64 t388, .bool t389, .int .i64 t390, .int .i64 t391, .int .i64 t392, .bool t393, .int .i64 t394] #[.int .i64 t386, .int .i64 t387, .int .i64 t388, .bool t389, .int .i64 t390, .int .i64 t391, .int .i64 t392, .bool t393, .int .i64 t394] ?hx ?hy (by exact BK371.out) szi37 (Nat.le_of_ble_eq_true rfl) ?h1 ?hnew ?_; (case ho => rfl); (case hgd => rfl); (case hN => rfl); (case hx => rfl); (case hy => first | rfl | (go_simp; done) | (go_simp; rfl)); (case h1 => rfl); (case hnew => rfl); intro w66 hbox hg; have n0_ := Aside0.mk (blk_grown BK346.out hg (fun e_ => NB346_371.out (Option.some.inj e_))); have n1_ := Aside0.mk (blk_grown BK351.out hg (fun e_ => NB351_371.out (Option.some.inj e_))); have n2_ := Aside0.mk (blk_grown BK376.out hg (fun e_ => NB376_371.out (Option.some.inj e_))); have n3_ := Aside0.mk (pw_below_grown (by exact HB.out) (some gb371) (below_size (by exact HB.out)) hg (fun k_ e_ => by cases e_; exact GE371.out)); have n4_ := Aside0.mk (hbox); clear BK346; clear BK351; clear BK376; clear HB; clear BK371; have BK346 := n0_; have BK351 := n1_; have BK376 := n2_; have HB := n3_; have BK371 := n4_; clear n0_ n1_ n2_ n3_ n4_; clear hbox hg))
                    go_roundg k2
                    case measure => have := HJ9.out; have := HK2.out; omega
                    case rel => exact ⟨(wrap64 (x56_2 + 1)), (t386), (t387), (t388), (t389), (t390), (t391), (t392), (t393), (t394), (by first | rfl | (simp; done) | (simp [*]; done)), H', ⟨by have := HJ9.out; have := HK2.out; omega⟩, ⟨by exact BK346.out⟩, ⟨by exact BK351.out⟩, ⟨by exact BK371.out⟩, ⟨by exact BK376.out⟩, ⟨by exact HB.out⟩⟩
                · rw [if_neg c53] at H
                  have c53b0 : decide (x56_2 < ji50) = false := decide_eq_false c53
                  clear c53
                  by_cases c67 : x372008_2 = 3
                  · rw [if_pos c67] at H
                    have c67b0 : (x372008_2 == 3) = true := beq_iff_eq.mpr c67
                    have c67b1 : (x372008_2 != 3) = false := bne_eq_false_iff_eq.mpr c67
                    clear c67
                    replace H := Option.bind_eq_some_iff.mp H
                    obtain ⟨⟨t395, t396⟩, A680, H⟩ := H
                    replace H : (if (t395 == t347 && (t396 == t349)) = true then ((mount_Moving.f x372000_2 x372001_2 x372002_2 x372003_2 x372004_2 x372005_2 x372006_2 x372007_2 x372008_2).bind fun t397 => (some (!t397))) else (some false)) = some r := H
                    have A68 := Aside0.mk A680
                    clear A680
                    by_cases c69 : (t395 == t347 && (t396 == t349)) = true
                    · rw [if_pos c69] at H
                      have c69b0 : (t395 == t347 && (t396 == t349)) = true := c69
                      (try (have c69b1 : decide (t395 = t347 && (t396 == t349)) = true := by simpa using c69))
                      (try (have c69b2 : (t395 == t347 && (t396 == t349)) = true := by simpa using c69))
                      clear c69
                      replace H := Option.bind_eq_some_iff.mp H
                      obtain ⟨t397, A700, H⟩ := H
                      replace H : (some (!t397)) = some r := H
                      have A70 := Aside0.mk A700
                      clear A700
                      obtain rfl := Option.some.inj H
                      try go_wp2
                      have n0_ := Aside0.mk (blk_drew BK346.out)
                      have n1_ := Aside0.mk (blk_drew BK351.out)
                      have n2_ := Aside0.mk (blk_drew BK371.out)
                      have n3_ := Aside0.mk (blk_drew BK376.out)
                      have n4_ := Aside0.mk (below_drew1 HB.out)
                      clear BK346
                      clear BK351
                      clear BK371
                      clear BK376
                      clear HB
                      have BK346 := n0_
                      have BK351 := n1_
                      have BK371 := n2_
                      have BK376 := n3_
                      have HB := n4_
                      clear n0_ n1_ n2_ n3_ n4_
                      refine start_ (n := 15) (S := fun w' => w'.cell? ⟨gb371, 0, none⟩ = some (.int .i64 x372000_2) ∧ w'.cell? ⟨gb371, 1, none⟩ = some (.int .i64 x372001_2) ∧ w'.cell? ⟨gb371, 2, none⟩ = some (.int .i64 x372002_2) ∧ w'.cell? ⟨gb371, 3, none⟩ = some (.bool x372003_2) ∧ w'.cell? ⟨gb371, 4, none⟩ = some (.int .i64 x372004_2) ∧ w'.cell? ⟨gb371, 5, none⟩ = some (.int .i64 x372005_2) ∧ w'.cell? ⟨gb371, 6, none⟩ = some (.int .i64 x372006_2) ∧ w'.cell? ⟨gb371, 7, none⟩ = some (.bool x372007_2) ∧ w'.cell? ⟨gb371, 8, none⟩ = some (.int .i64 x372008_2) ∧ w'.cell? ⟨gb351, 0, none⟩ = some (.int .i64 t347) ∧ w'.cell? ⟨gb351, 1, none⟩ = some (.int .i64 t349)) (ds := []) #[false, false, false, false, false, false, false, false, false, false, false, false, false, false, false] (by kernel_rfl) rfl rfl ⟨(blk_cell BK371.out 0).trans rfl, (blk_cell BK371.out 1).trans rfl, (blk_cell BK371.out 2).trans rfl, (blk_cell BK371.out 3).trans rfl, (blk_cell BK371.out 4).trans rfl, (blk_cell BK371.out 5).trans rfl, (blk_cell BK371.out 6).trans rfl, (blk_cell BK371.out 7).trans rfl, (blk_cell BK371.out 8).trans rfl, (blk_cell BK351.out 0).trans rfl, (blk_cell BK351.out 1).trans rfl⟩ (fun hHeld => ?_); refine with_tabW spykeep2_MountArrives.tab19 spykeep2_MountArrives.bits19 (fun HT_ HW_ => ?_)
                      generalize wr.drew = w71 at BK346 BK351 BK371 BK376 HB hHeld ⊢
                      refine pure_ (i := 0) (N := some 70) (v := ?_) (a' := ?_) #[true, false, false, false, false, false, false, false, false, false, false, false, false, false, false] rfl rfl (any_of HT_.out (by kernel_rfl)) (fun _ _ _ h => h) (Or.inl ⟨by rfl, ?_⟩) ?_ ?_
                      rotate_left
                      · intro w'
                        go_simp
                        with_reducible rfl
                      rotate_left
                      · simp only [Act.put, List.setIfInBounds_toArray, List.set_cons_zero, List.set_cons_succ, i64_w, i32_w]
                        rfl
                      refine take_ (i := 1) (N := some 71) (v := ?_) (a' := ?_) #[true, true, false, false, false, false, false, false, false, false, false, false, false, false, false] rfl rfl (take_ofW HT_.out HW_.out (by kernel_rfl)) (fun _ _ _ h => h) (Or.inl ⟨by rfl, ?_⟩) hHeld ?_ ?_
                      rotate_left
                      · rintro w' ⟨s0, s1, s2, s3, s4, s5, s6, s7, s8, s9, s10⟩
                        go_simp
                        with_reducible rfl
                      rotate_left
                      · simp only [Act.put, List.setIfInBounds_toArray, List.set_cons_zero, List.set_cons_succ, i64_w, i32_w]
                        rfl
                      refine pure_ (i := 2) (N := some 72) (v := ?_) (a' := ?_) #[true, true, true, false, false, false, false, false, false, false, false, false, false, false, false] rfl rfl (any_of HT_.out (by kernel_rfl)) (fun _ _ _ h => h) (Or.inl ⟨by rfl, ?_⟩) ?_ ?_
                      rotate_left
                      · intro w'
                        go_simp
                        with_reducible rfl
                      rotate_left
                      · simp only [Act.put, List.setIfInBounds_toArray, List.set_cons_zero, List.set_cons_succ, i64_w, i32_w]
                        rfl
                      refine pure_ (i := 3) (N := some 73) (v := ?_) (a' := ?_) #[true, true, true, true, false, false, false, false, false, false, false, false, false, false, false] rfl rfl (any_of HT_.out (by kernel_rfl)) (fun _ _ _ h => h) (Or.inl ⟨by rfl, ?_⟩) ?_ ?_
                      rotate_left
                      · intro w'
                        go_simp
                        with_reducible rfl
                      rotate_left
                      · simp only [Act.put, List.setIfInBounds_toArray, List.set_cons_zero, List.set_cons_succ, i64_w, i32_w]
                        rfl
                      refine take_ (i := 4) (N := some 74) (v := ?_) (a' := ?_) #[true, true, true, true, true, false, false, false, false, false, false, false, false, false, false] rfl rfl (take_ofW HT_.out HW_.out (by kernel_rfl)) (fun _ _ _ h => h) (Or.inl ⟨by rfl, ?_⟩) hHeld ?_ ?_
                      rotate_left
                      · rintro w' ⟨s0, s1, s2, s3, s4, s5, s6, s7, s8, s9, s10⟩
                        go_simp
                        with_reducible rfl
                      rotate_left
                      · simp only [Act.put, List.setIfInBounds_toArray, List.set_cons_zero, List.set_cons_succ, i64_w, i32_w]
                        rfl
                      refine take_ (i := 6) (N := some 76) (v := ?_) (a' := ?_) #[true, true, true, true, true, false, true, false, false, false, false, false, false, false, false] rfl rfl (take_ofW HT_.out HW_.out (by kernel_rfl)) (fun _ _ _ h => h) (Or.inl ⟨by rfl, ?_⟩) hHeld ?_ ?_
                      rotate_left
                      · rintro w' ⟨s0, s1, s2, s3, s4, s5, s6, s7, s8, s9, s10⟩
                        go_simp
                        with_reducible rfl
                      rotate_left
                      · simp only [Act.put, List.setIfInBounds_toArray, List.set_cons_zero, List.set_cons_succ, i64_w, i32_w]
                        rfl
                      refine one_ (i := 5) (N := some 75) #[true, true, true, true, true, true, true, false, false, false, false, false, false, false, false] rfl rfl (one_of HT_.out (by kernel_rfl)) (by decide) (fun K hK => ?_)
                      refine goes_ Try.func24 (by kernel_rfl) rfl #[.agg #[.int .i64 x372000_2, .int .i64 x372001_2, .int .i64 x372002_2, .bool x372003_2, .int .i64 x372004_2, .int .i64 x372005_2, .int .i64 x372006_2, .bool x372007_2, .int .i64 x372008_2]] (by rfl) rfl rfl (by (try simp only [List.map_toArray, List.map_cons, List.map_nil]); first | done | rfl | (simp only [List.length_drop, List.length_take]; rfl)) ?_
                      with_reducible refine (mount_Pose.calls x372000_2 x372001_2 x372002_2 x372003_2 x372004_2 x372005_2 x372006_2 x372007_2 x372008_2 t395 t396 _ A68.out).mono ?_
                      rintro e w72 ⟨rfl, hb⟩
                      refine ⟨_, rfl, ?_⟩
                      have n0_ := Aside0.mk (blk_below BK346.out hb)
                      have n1_ := Aside0.mk (blk_below BK351.out hb)
                      have n2_ := Aside0.mk (blk_below BK371.out hb)
                      have n3_ := Aside0.mk (blk_below BK376.out hb)
                      have n4_ := Aside0.mk (below_step (by exact HB.out) hb)
                      clear BK346
                      clear BK351
                      clear BK371
                      clear BK376
                      clear HB
                      have BK346 := n0_
                      have BK351 := n1_
                      have BK371 := n2_
                      have BK376 := n3_
                      have HB := n4_
                      clear n0_ n1_ n2_ n3_ n4_
                      (try clear hb)
                      (try clear hb2)
                      (try clear hk)
                      (try clear hi)
                      refine hK.out _ _ ⟨(blk_cell BK371.out 0).trans rfl, (blk_cell BK371.out 1).trans rfl, (blk_cell BK371.out 2).trans rfl, (blk_cell BK371.out 3).trans rfl, (blk_cell BK371.out 4).trans rfl, (blk_cell BK371.out 5).trans rfl, (blk_cell BK371.out 6).trans rfl, (blk_cell BK371.out 7).trans rfl, (blk_cell BK371.out 8).trans rfl, (blk_cell BK351.out 0).trans rfl, (blk_cell BK351.out 1).trans rfl⟩ (fun hHeld => ?_)
                      clear hK K
                      refine norm_ (a' := ?_) ?_ ?_
                      rotate_left
                      · show Act.put _ (some 75) _ = _
                        simp only [Act.put, List.setIfInBounds_toArray, List.set_cons_zero, List.set_cons_succ, i64_w, i32_w]
                        rfl
                      refine pure_ (i := 7) (N := some 77) (v := ?_) (a' := ?_) #[true, true, true, true, true, true, true, true, false, false, false, false, false, false, false] rfl rfl (any_of HT_.out (by kernel_rfl)) (fun _ _ _ h => h) (Or.inl ⟨by rfl, ?_⟩) ?_ ?_
                      rotate_left
                      · intro w'
                        go_simp
                        with_reducible rfl
                      rotate_left
                      · simp only [Act.put, List.setIfInBounds_toArray, List.set_cons_zero, List.set_cons_succ, i64_w, i32_w]
                        rfl
                      refine pure_ (i := 8) (N := some 78) (v := ?_) (a' := ?_) #[true, true, true, true, true, true, true, true, true, false, false, false, false, false, false] rfl rfl (any_of HT_.out (by kernel_rfl)) (fun _ _ _ h => h) (Or.inl ⟨by rfl, ?_⟩) ?_ ?_
                      rotate_left
                      · intro w'
                        go_simp
                        with_reducible rfl
                      rotate_left
                      · simp only [Act.put, List.setIfInBounds_toArray, List.set_cons_zero, List.set_cons_succ, i64_w, i32_w]
                        rfl
                      refine pure_ (i := 9) (N := some 79) (v := ?_) (a' := ?_) #[true, true, true, true, true, true, true, true, true, true, false, false, false, false, false] rfl rfl (any_of HT_.out (by kernel_rfl)) (fun _ _ _ h => h) (Or.inl ⟨by rfl, ?_⟩) ?_ ?_
                      rotate_left
                      · intro w'
                        go_simp
                        with_reducible rfl
                      rotate_left
                      · simp only [Act.put, List.setIfInBounds_toArray, List.set_cons_zero, List.set_cons_succ, i64_w, i32_w]
                        rfl
                      refine take_ (i := 10) (N := some 80) (v := ?_) (a' := ?_) #[true, true, true, true, true, true, true, true, true, true, true, false, false, false, false] rfl rfl (take_ofW HT_.out HW_.out (by kernel_rfl)) (fun _ _ _ h => h) (Or.inl ⟨by rfl, ?_⟩) hHeld ?_ ?_
                      rotate_left
                      · rintro w' ⟨s0, s1, s2, s3, s4, s5, s6, s7, s8, s9, s10⟩
                        go_simp
                        with_reducible rfl
                      rotate_left
                      · simp only [Act.put, List.setIfInBounds_toArray, List.set_cons_zero, List.set_cons_succ, i64_w, i32_w]
                        rfl
                      refine one_ (i := 11) (N := some 81) #[true, true, true, true, true, true, true, true, true, true, true, true, false, false, false] rfl rfl (one_of HT_.out (by kernel_rfl)) (by decide) (fun K hK => ?_)
                      refine goes_ Try.func25 (by kernel_rfl) rfl #[.agg #[.int .i64 x372000_2, .int .i64 x372001_2, .int .i64 x372002_2, .bool x372003_2, .int .i64 x372004_2, .int .i64 x372005_2, .int .i64 x372006_2, .bool x372007_2, .int .i64 x372008_2]] (by rfl) rfl rfl (by (try simp only [List.map_toArray, List.map_cons, List.map_nil]); first | done | rfl | (simp only [List.length_drop, List.length_take]; rfl)) ?_
                      with_reducible refine (mount_Moving.calls x372000_2 x372001_2 x372002_2 x372003_2 x372004_2 x372005_2 x372006_2 x372007_2 x372008_2 t397 _ A70.out).mono ?_
                      rintro e w73 ⟨rfl, hb⟩
                      refine ⟨_, rfl, ?_⟩
                      have n0_ := Aside0.mk (blk_below BK346.out hb)
                      have n1_ := Aside0.mk (blk_below BK351.out hb)
                      have n2_ := Aside0.mk (blk_below BK371.out hb)
                      have n3_ := Aside0.mk (blk_below BK376.out hb)
                      have n4_ := Aside0.mk (below_step (by exact HB.out) hb)
                      clear BK346
                      clear BK351
                      clear BK371
                      clear BK376
                      clear HB
                      have BK346 := n0_
                      have BK351 := n1_
                      have BK371 := n2_
                      have BK376 := n3_
                      have HB := n4_
                      clear n0_ n1_ n2_ n3_ n4_
                      (try clear hb)
                      (try clear hb2)
                      (try clear hk)
                      (try clear hi)
                      refine hK.out _ _ ⟨(blk_cell BK371.out 0).trans rfl, (blk_cell BK371.out 1).trans rfl, (blk_cell BK371.out 2).trans rfl, (blk_cell BK371.out 3).trans rfl, (blk_cell BK371.out 4).trans rfl, (blk_cell BK371.out 5).trans rfl, (blk_cell BK371.out 6).trans rfl, (blk_cell BK371.out 7).trans rfl, (blk_cell BK371.out 8).trans rfl, (blk_cell BK351.out 0).trans rfl, (blk_cell BK351.out 1).trans rfl⟩ (fun hHeld => ?_)
                      clear hK K
                      refine norm_ (a' := ?_) ?_ ?_
                      rotate_left
                      · show Act.put _ (some 81) _ = _
                        simp only [Act.put, List.setIfInBounds_toArray, List.set_cons_zero, List.set_cons_succ, i64_w, i32_w]
                        rfl
                      refine pure_ (i := 12) (N := some 82) (v := ?_) (a' := ?_) #[true, true, true, true, true, true, true, true, true, true, true, true, true, false, false] rfl rfl (any_of HT_.out (by kernel_rfl)) (fun _ _ _ h => h) (Or.inl ⟨by rfl, ?_⟩) ?_ ?_
                      rotate_left
                      · intro w'
                        go_simp
                        with_reducible rfl
                      rotate_left
                      · simp only [Act.put, List.setIfInBounds_toArray, List.set_cons_zero, List.set_cons_succ, i64_w, i32_w]
                        rfl
                      refine pure_ (i := 13) (N := some 83) (v := ?_) (a' := ?_) #[true, true, true, true, true, true, true, true, true, true, true, true, true, true, false] rfl rfl (any_of HT_.out (by kernel_rfl)) (fun _ _ _ h => h) (Or.inl ⟨by rfl, ?_⟩) ?_ ?_
                      rotate_left
                      · intro w'
                        go_simp
                        with_reducible rfl
                      rotate_left
                      · simp only [Act.put, List.setIfInBounds_toArray, List.set_cons_zero, List.set_cons_succ, i64_w, i32_w]
                        rfl
                      refine pure_ (i := 14) (N := some 2) (v := ?_) (a' := ?_) #[true, true, true, true, true, true, true, true, true, true, true, true, true, true, true] rfl rfl (any_of HT_.out (by kernel_rfl)) (fun _ _ _ h => h) (Or.inl ⟨by rfl, ?_⟩) ?_ ?_
                      rotate_left
                      · intro w'
                        go_simp
                        with_reducible rfl
                      rotate_left
                      · simp only [Act.put, List.setIfInBounds_toArray, List.set_cons_zero, List.set_cons_succ, i64_w, i32_w]
                        rfl
                      refine done_ (done_of HT_.out (by kernel_rfl)) ?_
                      try go_wp2
                      go_ret
                      exact ⟨by first | rfl | (simp [errW_none, errW_some] <;> rfl) | (simp only [← hji50]; first | rfl | (simp [errW_none, errW_some] <;> rfl)) | (simp [*, errW_none, errW_some] <;> rfl), by exact HB.out⟩
                    · rw [if_neg c69] at H
                      have c69b0 : (t395 == t347 && (t396 == t349)) = false := by simpa using c69
                      (try (have c69b1 : decide (t395 = t347 && (t396 == t349)) = false := by simpa using c69))
                      (try (have c69b2 : (t395 == t347 && (t396 == t349)) = false := by simpa using c69))
                      (try (have c69b3 : ¬ (t395 = t347 && (t396 == t349)) := by simpa using c69))
                      clear c69
                      obtain rfl := Option.some.inj H
                      try go_wp2
                      have n0_ := Aside0.mk (blk_drew BK346.out)
                      have n1_ := Aside0.mk (blk_drew BK351.out)
                      have n2_ := Aside0.mk (blk_drew BK371.out)
                      have n3_ := Aside0.mk (blk_drew BK376.out)
                      have n4_ := Aside0.mk (below_drew1 HB.out)
                      clear BK346
                      clear BK351
                      clear BK371
                      clear BK376
                      clear HB
                      have BK346 := n0_
                      have BK351 := n1_
                      have BK371 := n2_
                      have BK376 := n3_
                      have HB := n4_
                      clear n0_ n1_ n2_ n3_ n4_
                      refine start_ (n := 15) (S := fun w' => w'.cell? ⟨gb371, 0, none⟩ = some (.int .i64 x372000_2) ∧ w'.cell? ⟨gb371, 1, none⟩ = some (.int .i64 x372001_2) ∧ w'.cell? ⟨gb371, 2, none⟩ = some (.int .i64 x372002_2) ∧ w'.cell? ⟨gb371, 3, none⟩ = some (.bool x372003_2) ∧ w'.cell? ⟨gb371, 4, none⟩ = some (.int .i64 x372004_2) ∧ w'.cell? ⟨gb371, 5, none⟩ = some (.int .i64 x372005_2) ∧ w'.cell? ⟨gb371, 6, none⟩ = some (.int .i64 x372006_2) ∧ w'.cell? ⟨gb371, 7, none⟩ = some (.bool x372007_2) ∧ w'.cell? ⟨gb371, 8, none⟩ = some (.int .i64 x372008_2) ∧ w'.cell? ⟨gb351, 0, none⟩ = some (.int .i64 t347) ∧ w'.cell? ⟨gb351, 1, none⟩ = some (.int .i64 t349)) (ds := []) #[false, false, false, false, false, false, false, false, false, false, false, false, false, false, false] (by kernel_rfl) rfl rfl ⟨(blk_cell BK371.out 0).trans rfl, (blk_cell BK371.out 1).trans rfl, (blk_cell BK371.out 2).trans rfl, (blk_cell BK371.out 3).trans rfl, (blk_cell BK371.out 4).trans rfl, (blk_cell BK371.out 5).trans rfl, (blk_cell BK371.out 6).trans rfl, (blk_cell BK371.out 7).trans rfl, (blk_cell BK371.out 8).trans rfl, (blk_cell BK351.out 0).trans rfl, (blk_cell BK351.out 1).trans rfl⟩ (fun hHeld => ?_); refine with_tabW spykeep2_MountArrives.tab19 spykeep2_MountArrives.bits19 (fun HT_ HW_ => ?_)
                      generalize wr.drew = w74 at BK346 BK351 BK371 BK376 HB hHeld ⊢
                      refine pure_ (i := 0) (N := some 70) (v := ?_) (a' := ?_) #[true, false, false, false, false, false, false, false, false, false, false, false, false, false, false] rfl rfl (any_of HT_.out (by kernel_rfl)) (fun _ _ _ h => h) (Or.inl ⟨by rfl, ?_⟩) ?_ ?_
                      rotate_left
                      · intro w'
                        go_simp
                        with_reducible rfl
                      rotate_left
                      · simp only [Act.put, List.setIfInBounds_toArray, List.set_cons_zero, List.set_cons_succ, i64_w, i32_w]
                        rfl
                      refine take_ (i := 1) (N := some 71) (v := ?_) (a' := ?_) #[true, true, false, false, false, false, false, false, false, false, false, false, false, false, false] rfl rfl (take_ofW HT_.out HW_.out (by kernel_rfl)) (fun _ _ _ h => h) (Or.inl ⟨by rfl, ?_⟩) hHeld ?_ ?_
                      rotate_left
                      · rintro w' ⟨s0, s1, s2, s3, s4, s5, s6, s7, s8, s9, s10⟩
                        go_simp
                        with_reducible rfl
                      rotate_left
                      · simp only [Act.put, List.setIfInBounds_toArray, List.set_cons_zero, List.set_cons_succ, i64_w, i32_w]
                        rfl
                      refine pure_ (i := 2) (N := some 72) (v := ?_) (a' := ?_) #[true, true, true, false, false, false, false, false, false, false, false, false, false, false, false] rfl rfl (any_of HT_.out (by kernel_rfl)) (fun _ _ _ h => h) (Or.inl ⟨by rfl, ?_⟩) ?_ ?_
                      rotate_left
                      · intro w'
                        go_simp
                        with_reducible rfl
                      rotate_left
                      · simp only [Act.put, List.setIfInBounds_toArray, List.set_cons_zero, List.set_cons_succ, i64_w, i32_w]
                        rfl
                      refine pure_ (i := 3) (N := some 73) (v := ?_) (a' := ?_) #[true, true, true, true, false, false, false, false, false, false, false, false, false, false, false] rfl rfl (any_of HT_.out (by kernel_rfl)) (fun _ _ _ h => h) (Or.inl ⟨by rfl, ?_⟩) ?_ ?_
                      rotate_left
                      · intro w'
                        go_simp
                        with_reducible rfl
                      rotate_left
                      · simp only [Act.put, List.setIfInBounds_toArray, List.set_cons_zero, List.set_cons_succ, i64_w, i32_w]
                        rfl
                      refine take_ (i := 4) (N := some 74) (v := ?_) (a' := ?_) #[true, true, true, true, true, false, false, false, false, false, false, false, false, false, false] rfl rfl (take_ofW HT_.out HW_.out (by kernel_rfl)) (fun _ _ _ h => h) (Or.inl ⟨by rfl, ?_⟩) hHeld ?_ ?_
                      rotate_left
                      · rintro w' ⟨s0, s1, s2, s3, s4, s5, s6, s7, s8, s9, s10⟩
                        go_simp
                        with_reducible rfl
                      rotate_left
                      · simp only [Act.put, List.setIfInBounds_toArray, List.set_cons_zero, List.set_cons_succ, i64_w, i32_w]
                        rfl
                      refine take_ (i := 6) (N := some 76) (v := ?_) (a' := ?_) #[true, true, true, true, true, false, true, false, false, false, false, false, false, false, false] rfl rfl (take_ofW HT_.out HW_.out (by kernel_rfl)) (fun _ _ _ h => h) (Or.inl ⟨by rfl, ?_⟩) hHeld ?_ ?_
                      rotate_left
                      · rintro w' ⟨s0, s1, s2, s3, s4, s5, s6, s7, s8, s9, s10⟩
                        go_simp
                        with_reducible rfl
                      rotate_left
                      · simp only [Act.put, List.setIfInBounds_toArray, List.set_cons_zero, List.set_cons_succ, i64_w, i32_w]
                        rfl
                      refine one_ (i := 5) (N := some 75) #[true, true, true, true, true, true, true, false, false, false, false, false, false, false, false] rfl rfl (one_of HT_.out (by kernel_rfl)) (by decide) (fun K hK => ?_)
                      refine goes_ Try.func24 (by kernel_rfl) rfl #[.agg #[.int .i64 x372000_2, .int .i64 x372001_2, .int .i64 x372002_2, .bool x372003_2, .int .i64 x372004_2, .int .i64 x372005_2, .int .i64 x372006_2, .bool x372007_2, .int .i64 x372008_2]] (by rfl) rfl rfl (by (try simp only [List.map_toArray, List.map_cons, List.map_nil]); first | done | rfl | (simp only [List.length_drop, List.length_take]; rfl)) ?_
                      with_reducible refine (mount_Pose.calls x372000_2 x372001_2 x372002_2 x372003_2 x372004_2 x372005_2 x372006_2 x372007_2 x372008_2 t395 t396 _ A68.out).mono ?_
                      rintro e w75 ⟨rfl, hb⟩
                      refine ⟨_, rfl, ?_⟩
                      have n0_ := Aside0.mk (blk_below BK346.out hb)
                      have n1_ := Aside0.mk (blk_below BK351.out hb)
                      have n2_ := Aside0.mk (blk_below BK371.out hb)
                      have n3_ := Aside0.mk (blk_below BK376.out hb)
                      have n4_ := Aside0.mk (below_step (by exact HB.out) hb)
                      clear BK346
                      clear BK351
                      clear BK371
                      clear BK376
                      clear HB
                      have BK346 := n0_
                      have BK351 := n1_
                      have BK371 := n2_
                      have BK376 := n3_
                      have HB := n4_
                      clear n0_ n1_ n2_ n3_ n4_
                      (try clear hb)
                      (try clear hb2)
                      (try clear hk)
                      (try clear hi)
                      refine hK.out _ _ ⟨(blk_cell BK371.out 0).trans rfl, (blk_cell BK371.out 1).trans rfl, (blk_cell BK371.out 2).trans rfl, (blk_cell BK371.out 3).trans rfl, (blk_cell BK371.out 4).trans rfl, (blk_cell BK371.out 5).trans rfl, (blk_cell BK371.out 6).trans rfl, (blk_cell BK371.out 7).trans rfl, (blk_cell BK371.out 8).trans rfl, (blk_cell BK351.out 0).trans rfl, (blk_cell BK351.out 1).trans rfl⟩ (fun hHeld => ?_)
                      clear hK K
                      refine norm_ (a' := ?_) ?_ ?_
                      rotate_left
                      · show Act.put _ (some 75) _ = _
                        simp only [Act.put, List.setIfInBounds_toArray, List.set_cons_zero, List.set_cons_succ, i64_w, i32_w]
                        rfl
                      refine pure_ (i := 7) (N := some 77) (v := ?_) (a' := ?_) #[true, true, true, true, true, true, true, true, false, false, false, false, false, false, false] rfl rfl (any_of HT_.out (by kernel_rfl)) (fun _ _ _ h => h) (Or.inl ⟨by rfl, ?_⟩) ?_ ?_
                      rotate_left
                      · intro w'
                        go_simp
                        with_reducible rfl
                      rotate_left
                      · simp only [Act.put, List.setIfInBounds_toArray, List.set_cons_zero, List.set_cons_succ, i64_w, i32_w]
                        rfl
                      refine pure_ (i := 8) (N := some 78) (v := ?_) (a' := ?_) #[true, true, true, true, true, true, true, true, true, false, false, false, false, false, false] rfl rfl (any_of HT_.out (by kernel_rfl)) (fun _ _ _ h => h) (Or.inl ⟨by rfl, ?_⟩) ?_ ?_
                      rotate_left
                      · intro w'
                        go_simp
                        with_reducible rfl
                      rotate_left
                      · simp only [Act.put, List.setIfInBounds_toArray, List.set_cons_zero, List.set_cons_succ, i64_w, i32_w]
                        rfl
                      refine pure_ (i := 9) (N := some 79) (v := ?_) (a' := ?_) #[true, true, true, true, true, true, true, true, true, true, false, false, false, false, false] rfl rfl (any_of HT_.out (by kernel_rfl)) (fun _ _ _ h => h) (Or.inl ⟨by rfl, ?_⟩) ?_ ?_
                      rotate_left
                      · intro w'
                        go_simp
                        with_reducible rfl
                      rotate_left
                      · simp only [Act.put, List.setIfInBounds_toArray, List.set_cons_zero, List.set_cons_succ, i64_w, i32_w]
                        rfl
                      refine pure_ (i := 10) (N := some 80) (v := undef) (a' := ?_) #[true, true, true, true, true, true, true, true, true, true, true, false, false, false, false] rfl rfl (any_of HT_.out (by kernel_rfl)) (fun _ _ _ h => h) (Or.inr ⟨by rfl, rfl⟩) ?_ ?_
                      rotate_left
                      · simp only [Act.put, List.setIfInBounds_toArray, List.set_cons_zero, List.set_cons_succ, i64_w, i32_w]
                        rfl
                      refine pure_ (i := 11) (N := some 81) (v := undef) (a' := ?_) #[true, true, true, true, true, true, true, true, true, true, true, true, false, false, false] rfl rfl (any_of HT_.out (by kernel_rfl)) (fun _ _ _ h => h) (Or.inr ⟨by rfl, rfl⟩) ?_ ?_
                      rotate_left
                      · simp only [Act.put, List.setIfInBounds_toArray, List.set_cons_zero, List.set_cons_succ, i64_w, i32_w]
                        rfl
                      refine pure_ (i := 12) (N := some 82) (v := undef) (a' := ?_) #[true, true, true, true, true, true, true, true, true, true, true, true, true, false, false] rfl rfl (any_of HT_.out (by kernel_rfl)) (fun _ _ _ h => h) (Or.inr ⟨by rfl, rfl⟩) ?_ ?_
                      rotate_left
                      · simp only [Act.put, List.setIfInBounds_toArray, List.set_cons_zero, List.set_cons_succ, i64_w, i32_w]
                        rfl
                      refine pure_ (i := 13) (N := some 83) (v := ?_) (a' := ?_) #[true, true, true, true, true, true, true, true, true, true, true, true, true, true, false] rfl rfl (any_of HT_.out (by kernel_rfl)) (fun _ _ _ h => h) (Or.inl ⟨by rfl, ?_⟩) ?_ ?_
                      rotate_left
                      · intro w'
                        go_simp
                        with_reducible rfl
                      rotate_left
                      · simp only [Act.put, List.setIfInBounds_toArray, List.set_cons_zero, List.set_cons_succ, i64_w, i32_w]
                        rfl
                      refine pure_ (i := 14) (N := some 2) (v := ?_) (a' := ?_) #[true, true, true, true, true, true, true, true, true, true, true, true, true, true, true] rfl rfl (any_of HT_.out (by kernel_rfl)) (fun _ _ _ h => h) (Or.inl ⟨by rfl, ?_⟩) ?_ ?_
                      rotate_left
                      · intro w'
                        go_simp
                        with_reducible rfl
                      rotate_left
                      · simp only [Act.put, List.setIfInBounds_toArray, List.set_cons_zero, List.set_cons_succ, i64_w, i32_w]
                        rfl
                      refine done_ (done_of HT_.out (by kernel_rfl)) ?_
                      try go_wp2
                      go_ret
                      exact ⟨by first | rfl | (simp [errW_none, errW_some] <;> rfl) | (simp only [← hji50]; first | rfl | (simp [errW_none, errW_some] <;> rfl)) | (simp [*, errW_none, errW_some] <;> rfl), by exact HB.out⟩
                  · rw [if_neg c67] at H
                    have c67b0 : (x372008_2 == 3) = false := beq_eq_false_iff_ne.mpr c67
                    have c67b1 : (x372008_2 != 3) = true := bne_iff_ne.mpr c67
                    obtain rfl := Option.some.inj H
                    try go_wp2
                    have n0_ := Aside0.mk (blk_drew BK346.out)
                    have n1_ := Aside0.mk (blk_drew BK351.out)
                    have n2_ := Aside0.mk (blk_drew BK371.out)
                    have n3_ := Aside0.mk (blk_drew BK376.out)
                    have n4_ := Aside0.mk (below_drew1 HB.out)
                    clear BK346
                    clear BK351
                    clear BK371
                    clear BK376
                    clear HB
                    have BK346 := n0_
                    have BK351 := n1_
                    have BK371 := n2_
                    have BK376 := n3_
                    have HB := n4_
                    clear n0_ n1_ n2_ n3_ n4_
                    refine start_ (n := 15) (S := fun w' => w'.cell? ⟨gb371, 0, none⟩ = some (.int .i64 x372000_2) ∧ w'.cell? ⟨gb371, 1, none⟩ = some (.int .i64 x372001_2) ∧ w'.cell? ⟨gb371, 2, none⟩ = some (.int .i64 x372002_2) ∧ w'.cell? ⟨gb371, 3, none⟩ = some (.bool x372003_2) ∧ w'.cell? ⟨gb371, 4, none⟩ = some (.int .i64 x372004_2) ∧ w'.cell? ⟨gb371, 5, none⟩ = some (.int .i64 x372005_2) ∧ w'.cell? ⟨gb371, 6, none⟩ = some (.int .i64 x372006_2) ∧ w'.cell? ⟨gb371, 7, none⟩ = some (.bool x372007_2) ∧ w'.cell? ⟨gb371, 8, none⟩ = some (.int .i64 x372008_2)) (ds := []) #[false, false, false, false, false, false, false, false, false, false, false, false, false, false, false] (by kernel_rfl) rfl rfl ⟨(blk_cell BK371.out 0).trans rfl, (blk_cell BK371.out 1).trans rfl, (blk_cell BK371.out 2).trans rfl, (blk_cell BK371.out 3).trans rfl, (blk_cell BK371.out 4).trans rfl, (blk_cell BK371.out 5).trans rfl, (blk_cell BK371.out 6).trans rfl, (blk_cell BK371.out 7).trans rfl, (blk_cell BK371.out 8).trans rfl⟩ (fun hHeld => ?_); refine with_tabW spykeep2_MountArrives.tab19 spykeep2_MountArrives.bits19 (fun HT_ HW_ => ?_)
                    generalize wr.drew = w76 at BK346 BK351 BK371 BK376 HB hHeld ⊢
                    refine pure_ (i := 0) (N := some 70) (v := ?_) (a' := ?_) #[true, false, false, false, false, false, false, false, false, false, false, false, false, false, false] rfl rfl (any_of HT_.out (by kernel_rfl)) (fun _ _ _ h => h) (Or.inl ⟨by rfl, ?_⟩) ?_ ?_
                    rotate_left
                    · intro w'
                      go_simp
                      with_reducible rfl
                    rotate_left
                    · simp only [Act.put, List.setIfInBounds_toArray, List.set_cons_zero, List.set_cons_succ, i64_w, i32_w]
                      rfl
                    refine take_ (i := 1) (N := some 71) (v := ?_) (a' := ?_) #[true, true, false, false, false, false, false, false, false, false, false, false, false, false, false] rfl rfl (take_ofW HT_.out HW_.out (by kernel_rfl)) (fun _ _ _ h => h) (Or.inl ⟨by rfl, ?_⟩) hHeld ?_ ?_
                    rotate_left
                    · rintro w' ⟨s0, s1, s2, s3, s4, s5, s6, s7, s8⟩
                      go_simp
                      with_reducible rfl
                    rotate_left
                    · simp only [Act.put, List.setIfInBounds_toArray, List.set_cons_zero, List.set_cons_succ, i64_w, i32_w]
                      rfl
                    refine pure_ (i := 2) (N := some 72) (v := ?_) (a' := ?_) #[true, true, true, false, false, false, false, false, false, false, false, false, false, false, false] rfl rfl (any_of HT_.out (by kernel_rfl)) (fun _ _ _ h => h) (Or.inl ⟨by rfl, ?_⟩) ?_ ?_
                    rotate_left
                    · intro w'
                      go_simp
                      with_reducible rfl
                    rotate_left
                    · simp only [Act.put, List.setIfInBounds_toArray, List.set_cons_zero, List.set_cons_succ, i64_w, i32_w]
                      rfl
                    refine pure_ (i := 3) (N := some 73) (v := ?_) (a' := ?_) #[true, true, true, true, false, false, false, false, false, false, false, false, false, false, false] rfl rfl (any_of HT_.out (by kernel_rfl)) (fun _ _ _ h => h) (Or.inl ⟨by rfl, ?_⟩) ?_ ?_
                    rotate_left
                    · intro w'
                      go_simp
                      with_reducible rfl
                    rotate_left
                    · simp only [Act.put, List.setIfInBounds_toArray, List.set_cons_zero, List.set_cons_succ, i64_w, i32_w]
                      rfl
                    refine pure_ (i := 4) (N := some 74) (v := undef) (a' := ?_) #[true, true, true, true, true, false, false, false, false, false, false, false, false, false, false] rfl rfl (any_of HT_.out (by kernel_rfl)) (fun _ _ _ h => h) (Or.inr ⟨by rfl, rfl⟩) ?_ ?_
                    rotate_left
                    · simp only [Act.put, List.setIfInBounds_toArray, List.set_cons_zero, List.set_cons_succ, i64_w, i32_w]
                      rfl
                    refine pure_ (i := 5) (N := some 75) (v := undef) (a' := ?_) #[true, true, true, true, true, true, false, false, false, false, false, false, false, false, false] rfl rfl (any_of HT_.out (by kernel_rfl)) (fun _ _ _ h => h) (Or.inr ⟨by rfl, rfl⟩) ?_ ?_
                    rotate_left
                    · simp only [Act.put, List.setIfInBounds_toArray, List.set_cons_zero, List.set_cons_succ, i64_w, i32_w]
                      rfl
                    refine pure_ (i := 6) (N := some 76) (v := undef) (a' := ?_) #[true, true, true, true, true, true, true, false, false, false, false, false, false, false, false] rfl rfl (any_of HT_.out (by kernel_rfl)) (fun _ _ _ h => h) (Or.inr ⟨by rfl, rfl⟩) ?_ ?_
                    rotate_left
                    · simp only [Act.put, List.setIfInBounds_toArray, List.set_cons_zero, List.set_cons_succ, i64_w, i32_w]
                      rfl
                    refine pure_ (i := 7) (N := some 77) (v := undef) (a' := ?_) #[true, true, true, true, true, true, true, true, false, false, false, false, false, false, false] rfl rfl (any_of HT_.out (by kernel_rfl)) (fun _ _ _ h => h) (Or.inr ⟨by rfl, rfl⟩) ?_ ?_
                    rotate_left
                    · simp only [Act.put, List.setIfInBounds_toArray, List.set_cons_zero, List.set_cons_succ, i64_w, i32_w]
                      rfl
                    refine pure_ (i := 8) (N := some 78) (v := ?_) (a' := ?_) #[true, true, true, true, true, true, true, true, true, false, false, false, false, false, false] rfl rfl (any_of HT_.out (by kernel_rfl)) (fun _ _ _ h => h) (Or.inl ⟨by rfl, ?_⟩) ?_ ?_
                    rotate_left
                    · intro w'
                      go_simp
                      with_reducible rfl
                    rotate_left
                    · simp only [Act.put, List.setIfInBounds_toArray, List.set_cons_zero, List.set_cons_succ, i64_w, i32_w]
                      rfl
                    refine pure_ (i := 9) (N := some 79) (v := ?_) (a' := ?_) #[true, true, true, true, true, true, true, true, true, true, false, false, false, false, false] rfl rfl (any_of HT_.out (by kernel_rfl)) (fun _ _ _ h => h) (Or.inl ⟨by rfl, ?_⟩) ?_ ?_
                    rotate_left
                    · intro w'
                      go_simp
                      with_reducible rfl
                    rotate_left
                    · simp only [Act.put, List.setIfInBounds_toArray, List.set_cons_zero, List.set_cons_succ, i64_w, i32_w]
                      rfl
                    refine pure_ (i := 10) (N := some 80) (v := undef) (a' := ?_) #[true, true, true, true, true, true, true, true, true, true, true, false, false, false, false] rfl rfl (any_of HT_.out (by kernel_rfl)) (fun _ _ _ h => h) (Or.inr ⟨by rfl, rfl⟩) ?_ ?_
                    rotate_left
                    · simp only [Act.put, List.setIfInBounds_toArray, List.set_cons_zero, List.set_cons_succ, i64_w, i32_w]
                      rfl
                    refine pure_ (i := 11) (N := some 81) (v := undef) (a' := ?_) #[true, true, true, true, true, true, true, true, true, true, true, true, false, false, false] rfl rfl (any_of HT_.out (by kernel_rfl)) (fun _ _ _ h => h) (Or.inr ⟨by rfl, rfl⟩) ?_ ?_
                    rotate_left
                    · simp only [Act.put, List.setIfInBounds_toArray, List.set_cons_zero, List.set_cons_succ, i64_w, i32_w]
                      rfl
                    refine pure_ (i := 12) (N := some 82) (v := undef) (a' := ?_) #[true, true, true, true, true, true, true, true, true, true, true, true, true, false, false] rfl rfl (any_of HT_.out (by kernel_rfl)) (fun _ _ _ h => h) (Or.inr ⟨by rfl, rfl⟩) ?_ ?_
                    rotate_left
                    · simp only [Act.put, List.setIfInBounds_toArray, List.set_cons_zero, List.set_cons_succ, i64_w, i32_w]
                      rfl
                    refine pure_ (i := 13) (N := some 83) (v := ?_) (a' := ?_) #[true, true, true, true, true, true, true, true, true, true, true, true, true, true, false] rfl rfl (any_of HT_.out (by kernel_rfl)) (fun _ _ _ h => h) (Or.inl ⟨by rfl, ?_⟩) ?_ ?_
                    rotate_left
                    · intro w'
                      go_simp
                      with_reducible rfl
                    rotate_left
                    · simp only [Act.put, List.setIfInBounds_toArray, List.set_cons_zero, List.set_cons_succ, i64_w, i32_w]
                      rfl
                    refine pure_ (i := 14) (N := some 2) (v := ?_) (a' := ?_) #[true, true, true, true, true, true, true, true, true, true, true, true, true, true, true] rfl rfl (any_of HT_.out (by kernel_rfl)) (fun _ _ _ h => h) (Or.inl ⟨by rfl, ?_⟩) ?_ ?_
                    rotate_left
                    · intro w'
                      go_simp
                      with_reducible rfl
                    rotate_left
                    · simp only [Act.put, List.setIfInBounds_toArray, List.set_cons_zero, List.set_cons_succ, i64_w, i32_w]
                      rfl
                    refine done_ (done_of HT_.out (by kernel_rfl)) ?_
                    try go_wp2
                    go_ret
                    exact ⟨by first | rfl | (simp [errW_none, errW_some] <;> rfl) | (simp only [← hji50]; first | rfl | (simp [errW_none, errW_some] <;> rfl)) | (simp [*, errW_none, errW_some] <;> rfl), by exact HB.out⟩
  · replace c3 := Bool.eq_false_iff.mpr c3
    subst c3
    have H1 : (some false) = some r := by rw [if_neg (show ¬ (false = true) by decide)] at H; exact H
    clear H
    have H := H1
    clear H1
    obtain rfl := Option.some.inj H
    go_enter Try.func5, Try.ntmps5
    go_wp2_with (first | ((with_reducible refine gate_callee (f := 10) rfl ?_); refine goesL_ (some 12) rfl rfl Try.func10 (by kernel_rfl) rfl #[] rfl (by (try simp only [List.map_toArray, List.map_cons, List.map_nil]); first | done | rfl | (simp only [List.length_drop, List.length_take]; rfl)) ?_; (with_reducible refine (spykeep2_drives.calls k  false _ A2.out).mono ?_); rintro e w77 ⟨rfl, hb⟩; refine ⟨_, rfl, ?_⟩; have n0_ := Aside0.mk (below_step (by exact HB.out) hb); clear HB; have HB := n0_; clear n0_; (try clear hb); (try clear hb2); (try clear hk); (try clear hi)))
    go_ret
    exact ⟨by first | rfl | (simp [errW_none, errW_some] <;> rfl) | (simp [*, errW_none, errW_some] <;> rfl), by exact HB.out⟩

/-- THE ONE PURE STATEMENT of spykeep2_MountArrives: yours. -/
def spykeep2_MountArrives.Pure : Prop := ∀ (l0 : List Int), l0.length ≤ maxLen → l0.length * 8 ≤ 140737488351232 → (∀ x ∈ l0, (Lit.int .i64 x).wf = true) → ∃ k, spykeep2_MountArrives.f k l0 = some true
theorem spykeep2_MountArrives.walk (P : spykeep2_MountArrives.Pure) (a0 : Option Addr) (len0 cap0 : Nat) (z0 : List Int) (w : World) (w0 : (a0 = none ∧ len0 = 0 ∧ cap0 = 0 ∧ z0 = []) ∨ ∃ x, a0 = some x ∧ len0 ≤ cap0 ∧ cap0 ≤ maxLen ∧ z0.length = cap0 ∧ (∀ i, i < z0.length → w.cell? (x.add i) = some (.int .i64 (z0.getD i 0))) ∧ ∀ n ∈ z0, (Lit.int .i64 n).wf = true) (y0 : len0 * 8 ≤ 140737488351232) :
    Calls Try.prog 5 #[.slice a0 len0 cap0] w fun e w' => e = .returned (.bool true) ∧ Below w.heap.size w w' := by
  obtain ⟨l0, rfl, hr0, hm0, hw0, hc0⟩ := ReadsInt.ofRowC w0
  obtain ⟨k, h⟩ := P l0 hm0 y0 hw0
  refine (spykeep2_MountArrives.calls k _ _ l0 true w (Kd.C_of_reads (d := (0 : Int)) (h1 := fun _ => rfl) hr0) hc0 h).mono ?_
  rintro e w' ⟨rfl, hd⟩
  exact ⟨rfl, hd⟩

end Go.Proofs.Ytfcengfjolljgaa.PMountArrives
