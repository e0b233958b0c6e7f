-- Written by a program of this session out of the translation (wip/tools).
import Derived.Test.YtdnnjbokdckilaaPDomeClosesx0
import Derived.Test.YtdnnjbokdckilaaPDomeClosesx3
import Derived.Test.YtdnnjbokdckilaaPDomeClosesx5
import Derived.Test.YtdnnjbokdckilaaPDomeClosesx6
namespace Go.Proofs.Ytdnnjbokdckilaa.PDomeCloses
open Go.RowKit Go.Proofs.YtdnnjbokdckilaaW.PrintWords Go.Proofs.YtdnnjbokdckilaaW.PrintLast Go.Proofs.YtdnnjbokdckilaaW.PrintMore
attribute [local go_sem] max2_int min2_int max_two min_two max_three min_three max_four min_four   -- for this text's walks alone
set_option linter.unusedVariables false
set_option linter.unusedSimpArgs false

/-! ### spykeep2_DomeCloses: function 3 -/
mutual
def spykeep2_DomeCloses.l0 : Nat → Int → List Int → Int → Int → Int → Bool → Bool → Int → Int → Int → Bool → Option (Bool)
  | 0, _, _, _, _, _, _, _, _, _, _, _ => none
  | k + 1, x14, x179000, x179001, x180000, x180001, x180002, x180003, x180004, x180005, x180006, x180007 => if x14 < 2 then ((spymake_Stream_Next.f x179000 x179001 2).bind fun bt180 => ((spymake_Stream_Next.f x179000 bt180.2 2).bind fun bt182 => ((dome_Set.f k x180000 x180001 x180002 x180003 x180004 x180005 x180006 x180007 (bt180.1 == 0) (bt182.1 == 0)).bind fun bt184 => ((spymake_Stream_Next.f x179000 bt182.2 60).bind fun bt193 => (spykeep2_DomeCloses.l1 k x14 bt193.1 0 x179000 bt193.2 bt184.1 bt184.2.1 bt184.2.2.1 bt184.2.2.2.1 bt184.2.2.2.2.1 bt184.2.2.2.2.2.1 bt184.2.2.2.2.2.2.1 bt184.2.2.2.2.2.2.2.1))))) else ((spymake_Stream_Next.f x179000 x179001 2).bind fun bt203 => ((dome_Set.f k x180000 x180001 x180002 x180003 x180004 x180005 x180006 x180007 false (bt203.1 == 0)).bind fun bt205 => ((dome_Set.f k x180000 x180001 x180002 x180003 x180004 x180005 x180006 x180007 true true).bind fun bt215 => (spykeep2_DomeCloses.l2 k bt205.2.2.2.2.2.2.2.2 bt215.2.2.2.2.2.2.2.2 0 bt205.1 bt205.2.1 bt205.2.2.1 bt205.2.2.2.1 bt205.2.2.2.2.1 bt205.2.2.2.2.2.1 bt205.2.2.2.2.2.2.1 bt205.2.2.2.2.2.2.2.1 bt215.1 bt215.2.1 bt215.2.2.1 bt215.2.2.2.1 bt215.2.2.2.2.1 bt215.2.2.2.2.2.1 bt215.2.2.2.2.2.2.1 bt215.2.2.2.2.2.2.2.1))))
def spykeep2_DomeCloses.l1 : Nat → Int → Int → Int → List Int → Int → Int → Int → Bool → Bool → Int → Int → Int → Bool → Option (Bool)
  | 0, _, _, _, _, _, _, _, _, _, _, _, _, _ => none
  | k + 1, x14, x28, x29, x179000, x179001, x180000, x180001, x180002, x180003, x180004, x180005, x180006, x180007 => if x29 < x28 then ((dome_Step.f k x180000 x180001 x180002 x180003 x180004 x180005 x180006 x180007).bind fun bt195 => (spykeep2_DomeCloses.l1 k x14 x28 (wrap64 (x29 + 1)) x179000 x179001 bt195.1 bt195.2.1 bt195.2.2.1 bt195.2.2.2.1 bt195.2.2.2.2.1 bt195.2.2.2.2.2.1 bt195.2.2.2.2.2.2.1 bt195.2.2.2.2.2.2.2)) else (spykeep2_DomeCloses.l0 k (wrap64 (x14 + 1)) x179000 x179001 x180000 x180001 x180002 x180003 x180004 x180005 x180006 x180007)
def spykeep2_DomeCloses.l2 : Nat → Int → Int → Int → Int → Int → Bool → Bool → Int → Int → Int → Bool → Int → Int → Bool → Bool → Int → Int → Int → Bool → Option (Bool)
  | 0, _, _, _, _, _, _, _, _, _, _, _, _, _, _, _, _, _, _, _ => none
  | k + 1, x6, x8, x48, x215000, x215001, x215002, x215003, x215004, x215005, x215006, x215007, x225000, x225001, x225002, x225003, x225004, x225005, x225006, x225007 => if x48 < 30 then ((dome_Step.f k x215000 x215001 x215002 x215003 x215004 x215005 x215006 x215007).bind fun bt225 => (spykeep2_DomeCloses.l2 k x6 x8 (wrap64 (x48 + 1)) bt225.1 bt225.2.1 bt225.2.2.1 bt225.2.2.2.1 bt225.2.2.2.2.1 bt225.2.2.2.2.2.1 bt225.2.2.2.2.2.2.1 bt225.2.2.2.2.2.2.2 x225000 x225001 x225002 x225003 x225004 x225005 x225006 x225007)) else (spykeep2_DomeCloses.l3 k x6 x8 0 x215000 x215001 x215002 x215003 x215004 x215005 x215006 x215007 x225000 x225001 x225002 x225003 x225004 x225005 x225006 x225007)
def spykeep2_DomeCloses.l3 : Nat → Int → Int → Int → Int → Int → Bool → Bool → Int → Int → Int → Bool → Int → Int → Bool → Bool → Int → Int → Int → Bool → Option (Bool)
  | 0, _, _, _, _, _, _, _, _, _, _, _, _, _, _, _, _, _, _, _ => none
  | k + 1, x6, x8, x53, x215000, x215001, x215002, x215003, x215004, x215005, x215006, x215007, x225000, x225001, x225002, x225003, x225004, x225005, x225006, x225007 => if x53 < 45 then ((dome_Step.f k x225000 x225001 x225002 x225003 x225004 x225005 x225006 x225007).bind fun bt233 => (spykeep2_DomeCloses.l3 k x6 x8 (wrap64 (x53 + 1)) x215000 x215001 x215002 x215003 x215004 x215005 x215006 x215007 bt233.1 bt233.2.1 bt233.2.2.1 bt233.2.2.2.1 bt233.2.2.2.2.1 bt233.2.2.2.2.2.1 bt233.2.2.2.2.2.2.1 bt233.2.2.2.2.2.2.2)) else (if x6 = 0 then (if x8 = 0 then ((dome_Closed.f x215000 x215001 x215002 x215003 x215004 x215005 x215006 x215007).bind fun t241 => (if t241 = true then ((dome_Clear.f x225000 x225001 x225002 x225003 x225004 x225005 x225006 x225007).bind fun t242 => (some t242)) else (some false))) else (some false)) else (some false))
end
def spykeep2_DomeCloses.f (k : Nat) (l0 : List Int) : Option (Bool) := (spykeep2_turns.f k).bind fun t177 => (if t177 = true then (spykeep2_DomeCloses.l0 k 0 l0 0 0 0 false false 0 0 0 false) else (some false))
theorem spykeep2_DomeCloses.mono_l : ∀ k, (∀ y0 y1 y2 y3 y4 y5 y6 y7 y8 y9 y10, LeO (spykeep2_DomeCloses.l0 k y0 y1 y2 y3 y4 y5 y6 y7 y8 y9 y10) (spykeep2_DomeCloses.l0 (k + 1) y0 y1 y2 y3 y4 y5 y6 y7 y8 y9 y10)) ∧ (∀ y0 y1 y2 y3 y4 y5 y6 y7 y8 y9 y10 y11 y12, LeO (spykeep2_DomeCloses.l1 k y0 y1 y2 y3 y4 y5 y6 y7 y8 y9 y10 y11 y12) (spykeep2_DomeCloses.l1 (k + 1) y0 y1 y2 y3 y4 y5 y6 y7 y8 y9 y10 y11 y12)) ∧ (∀ y0 y1 y2 y3 y4 y5 y6 y7 y8 y9 y10 y11 y12 y13 y14 y15 y16 y17 y18, LeO (spykeep2_DomeCloses.l2 k y0 y1 y2 y3 y4 y5 y6 y7 y8 y9 y10 y11 y12 y13 y14 y15 y16 y17 y18) (spykeep2_DomeCloses.l2 (k + 1) y0 y1 y2 y3 y4 y5 y6 y7 y8 y9 y10 y11 y12 y13 y14 y15 y16 y17 y18)) ∧ (∀ y0 y1 y2 y3 y4 y5 y6 y7 y8 y9 y10 y11 y12 y13 y14 y15 y16 y17 y18, LeO (spykeep2_DomeCloses.l3 k y0 y1 y2 y3 y4 y5 y6 y7 y8 y9 y10 y11 y12 y13 y14 y15 y16 y17 y18) (spykeep2_DomeCloses.l3 (k + 1) y0 y1 y2 y3 y4 y5 y6 y7 y8 y9 y10 y11 y12 y13 y14 y15 y16 y17 y18))
  | 0 => ⟨fun _ _ _ _ _ _ _ _ _ _ _ r h => by simp [spykeep2_DomeCloses.l0] at h, fun _ _ _ _ _ _ _ _ _ _ _ _ _ r h => by simp [spykeep2_DomeCloses.l1] at h, fun _ _ _ _ _ _ _ _ _ _ _ _ _ _ _ _ _ _ _ r h => by simp [spykeep2_DomeCloses.l2] at h, fun _ _ _ _ _ _ _ _ _ _ _ _ _ _ _ _ _ _ _ r h => by simp [spykeep2_DomeCloses.l3] at h⟩
  | k + 1 => by
    obtain ⟨ih0, ih1, ih2, ih3⟩ := spykeep2_DomeCloses.mono_l k
    refine ⟨?_, ?_, ?_, ?_⟩
    · intro y0 y1 y2 y3 y4 y5 y6 y7 y8 y9 y10
      unfold spykeep2_DomeCloses.l0
      repeat' first
      | (with_reducible exact ih0 _ _ _ _ _ _ _ _ _ _ _)
      | (with_reducible exact ih1 _ _ _ _ _ _ _ _ _ _ _ _ _)
      | (with_reducible exact ih2 _ _ _ _ _ _ _ _ _ _ _ _ _ _ _ _ _ _ _)
      | (with_reducible exact ih3 _ _ _ _ _ _ _ _ _ _ _ _ _ _ _ _ _ _ _)
      | (with_reducible exact dome_Set.mono _ _ _ _ _ _ _ _ _ _ _)
      | (with_reducible exact dome_Step.mono _ _ _ _ _ _ _ _ _)
      | (with_reducible exact spykeep2_turns.mono _)
      | (with_reducible exact LeO.refl _)
      | (with_reducible exact LeO.none _)
      | (with_reducible refine LeO.ite ?_ ?_)
      | (with_reducible refine LeO.bind ?_ (fun _ => ?_))
      | exact ih0 _ _ _ _ _ _ _ _ _ _ _
      | exact ih1 _ _ _ _ _ _ _ _ _ _ _ _ _
      | exact ih2 _ _ _ _ _ _ _ _ _ _ _ _ _ _ _ _ _ _ _
      | exact ih3 _ _ _ _ _ _ _ _ _ _ _ _ _ _ _ _ _ _ _
      | exact dome_Set.mono _ _ _ _ _ _ _ _ _ _ _
      | exact dome_Step.mono _ _ _ _ _ _ _ _ _
      | exact spykeep2_turns.mono _
      | exact LeO.none _
      | refine LeO.ite ?_ ?_
      | refine LeO.bind ?_ (fun _ => ?_)
    · intro y0 y1 y2 y3 y4 y5 y6 y7 y8 y9 y10 y11 y12
      unfold spykeep2_DomeCloses.l1
      repeat' first
      | (with_reducible exact ih0 _ _ _ _ _ _ _ _ _ _ _)
      | (with_reducible exact ih1 _ _ _ _ _ _ _ _ _ _ _ _ _)
      | (with_reducible exact ih2 _ _ _ _ _ _ _ _ _ _ _ _ _ _ _ _ _ _ _)
      | (with_reducible exact ih3 _ _ _ _ _ _ _ _ _ _ _ _ _ _ _ _ _ _ _)
      | (with_reducible exact dome_Set.mono _ _ _ _ _ _ _ _ _ _ _)
      | (with_reducible exact dome_Step.mono _ _ _ _ _ _ _ _ _)
      | (with_reducible exact spykeep2_turns.mono _)
      | (with_reducible exact LeO.refl _)
      | (with_reducible exact LeO.none _)
      | (with_reducible refine LeO.ite ?_ ?_)
      | (with_reducible refine LeO.bind ?_ (fun _ => ?_))
      | exact ih0 _ _ _ _ _ _ _ _ _ _ _
      | exact ih1 _ _ _ _ _ _ _ _ _ _ _ _ _
      | exact ih2 _ _ _ _ _ _ _ _ _ _ _ _ _ _ _ _ _ _ _
      | exact ih3 _ _ _ _ _ _ _ _ _ _ _ _ _ _ _ _ _ _ _
      | exact dome_Set.mono _ _ _ _ _ _ _ _ _ _ _
      | exact dome_Step.mono _ _ _ _ _ _ _ _ _
      | exact spykeep2_turns.mono _
      | exact LeO.none _
      | refine LeO.ite ?_ ?_
      | refine LeO.bind ?_ (fun _ => ?_)
    · intro y0 y1 y2 y3 y4 y5 y6 y7 y8 y9 y10 y11 y12 y13 y14 y15 y16 y17 y18
      unfold spykeep2_DomeCloses.l2
      repeat' first
      | (with_reducible exact ih0 _ _ _ _ _ _ _ _ _ _ _)
      | (with_reducible exact ih1 _ _ _ _ _ _ _ _ _ _ _ _ _)
      | (with_reducible exact ih2 _ _ _ _ _ _ _ _ _ _ _ _ _ _ _ _ _ _ _)
      | (with_reducible exact ih3 _ _ _ _ _ _ _ _ _ _ _ _ _ _ _ _ _ _ _)
      | (with_reducible exact dome_Set.mono _ _ _ _ _ _ _ _ _ _ _)
      | (with_reducible exact dome_Step.mono _ _ _ _ _ _ _ _ _)
      | (with_reducible exact spykeep2_turns.mono _)
      | (with_reducible exact LeO.refl _)
      | (with_reducible exact LeO.none _)
      | (with_reducible refine LeO.ite ?_ ?_)
      | (with_reducible refine LeO.bind ?_ (fun _ => ?_))
      | exact ih0 _ _ _ _ _ _ _ _ _ _ _
      | exact ih1 _ _ _ _ _ _ _ _ _ _ _ _ _
      | exact ih2 _ _ _ _ _ _ _ _ _ _ _ _ _ _ _ _ _ _ _
      | exact ih3 _ _ _ _ _ _ _ _ _ _ _ _ _ _ _ _ _ _ _
      | exact dome_Set.mono _ _ _ _ _ _ _ _ _ _ _
      | exact dome_Step.mono _ _ _ _ _ _ _ _ _
      | exact spykeep2_turns.mono _
      | exact LeO.none _
      | refine LeO.ite ?_ ?_
      | refine LeO.bind ?_ (fun _ => ?_)
    · intro y0 y1 y2 y3 y4 y5 y6 y7 y8 y9 y10 y11 y12 y13 y14 y15 y16 y17 y18
      unfold spykeep2_DomeCloses.l3
      repeat' first
      | (with_reducible exact ih0 _ _ _ _ _ _ _ _ _ _ _)
      | (with_reducible exact ih1 _ _ _ _ _ _ _ _ _ _ _ _ _)
      | (with_reducible exact ih2 _ _ _ _ _ _ _ _ _ _ _ _ _ _ _ _ _ _ _)
      | (with_reducible exact ih3 _ _ _ _ _ _ _ _ _ _ _ _ _ _ _ _ _ _ _)
      | (with_reducible exact dome_Set.mono _ _ _ _ _ _ _ _ _ _ _)
      | (with_reducible exact dome_Step.mono _ _ _ _ _ _ _ _ _)
      | (with_reducible exact spykeep2_turns.mono _)
      | (with_reducible exact LeO.refl _)
      | (with_reducible exact LeO.none _)
      | (with_reducible refine LeO.ite ?_ ?_)
      | (with_reducible refine LeO.bind ?_ (fun _ => ?_))
      | exact ih0 _ _ _ _ _ _ _ _ _ _ _
      | exact ih1 _ _ _ _ _ _ _ _ _ _ _ _ _
      | exact ih2 _ _ _ _ _ _ _ _ _ _ _ _ _ _ _ _ _ _ _
      | exact ih3 _ _ _ _ _ _ _ _ _ _ _ _ _ _ _ _ _ _ _
      | exact dome_Set.mono _ _ _ _ _ _ _ _ _ _ _
      | exact dome_Step.mono _ _ _ _ _ _ _ _ _
      | exact spykeep2_turns.mono _
      | exact LeO.none _
      | refine LeO.ite ?_ ?_
      | refine LeO.bind ?_ (fun _ => ?_)
theorem spykeep2_DomeCloses.mono : ∀ a0 k, LeO (spykeep2_DomeCloses.f k a0) (spykeep2_DomeCloses.f (k + 1) a0) := by
  intro a0 k
  obtain ⟨ih0, ih1, ih2, ih3⟩ := spykeep2_DomeCloses.mono_l k
  unfold spykeep2_DomeCloses.f
  repeat' first
      | (with_reducible exact ih0 _ _ _ _ _ _ _ _ _ _ _)
      | (with_reducible exact ih1 _ _ _ _ _ _ _ _ _ _ _ _ _)
      | (with_reducible exact ih2 _ _ _ _ _ _ _ _ _ _ _ _ _ _ _ _ _ _ _)
      | (with_reducible exact ih3 _ _ _ _ _ _ _ _ _ _ _ _ _ _ _ _ _ _ _)
      | (with_reducible exact dome_Set.mono _ _ _ _ _ _ _ _ _ _ _)
      | (with_reducible exact dome_Step.mono _ _ _ _ _ _ _ _ _)
      | (with_reducible exact spykeep2_turns.mono _)
      | (with_reducible exact LeO.refl _)
      | (with_reducible exact LeO.none _)
      | (with_reducible refine LeO.ite ?_ ?_)
      | (with_reducible refine LeO.bind ?_ (fun _ => ?_))
      | exact ih0 _ _ _ _ _ _ _ _ _ _ _
      | exact ih1 _ _ _ _ _ _ _ _ _ _ _ _ _
      | exact ih2 _ _ _ _ _ _ _ _ _ _ _ _ _ _ _ _ _ _ _
      | exact ih3 _ _ _ _ _ _ _ _ _ _ _ _ _ _ _ _ _ _ _
      | exact dome_Set.mono _ _ _ _ _ _ _ _ _ _ _
      | exact dome_Step.mono _ _ _ _ _ _ _ _ _
      | exact spykeep2_turns.mono _
      | exact LeO.none _
      | refine LeO.ite ?_ ?_
      | refine LeO.bind ?_ (fun _ => ?_)
def spykeep2_DomeCloses.T7 : Bool × List (List Nat × List Nat) := (true, [([], []), ([], []), ([1], [1]), ([2], [2]), ([], []), ([4, 2], [4]), ([5], [5]), ([0, 3, 6, 5], [0, 3, 6]), ([7], [7]), ([8], [8]), ([8], [8]), ([9, 7, 0, 1, 2, 3, 4, 5, 6, 7, 8, 9], [9])])
def spykeep2_DomeCloses.B7 : List Nat := [0, 0, 2, 6, 0, 22, 54, 127, 255, 511, 511, 1023]
theorem spykeep2_DomeCloses.tab7 : rtab .any (opsOf Try.f3 7) = spykeep2_DomeCloses.T7 := by kernel_rfl
theorem spykeep2_DomeCloses.bits7 : waitsOk spykeep2_DomeCloses.T7.2 spykeep2_DomeCloses.B7 = true := by kernel_rfl
def spykeep2_DomeCloses.T13 : Bool × List (List Nat × List Nat) := (true, [([], []), ([], []), ([1], [1]), ([2], [2]), ([0, 3, 2], [0, 3]), ([4], [4]), ([5], [5]), ([5], [5]), ([], []), ([8, 6, 4, 0, 1, 2, 3, 4, 5, 6, 8], [6, 8]), ([7, 9, 0, 1, 2, 3, 4, 5, 6, 7, 8, 9], [7])])
def spykeep2_DomeCloses.B13 : List Nat := [0, 0, 2, 6, 15, 31, 63, 63, 0, 383, 1023]
theorem spykeep2_DomeCloses.tab13 : rtab .any (opsOf Try.f3 13) = spykeep2_DomeCloses.T13 := by kernel_rfl
theorem spykeep2_DomeCloses.bits13 : waitsOk spykeep2_DomeCloses.T13.2 spykeep2_DomeCloses.B13 = true := by kernel_rfl
set_option maxHeartbeats 8000000 in
set_option maxRecDepth 100000 in
theorem spykeep2_DomeCloses.calls (k : Nat) (A0 : Option Addr) (c0 : Nat) (l0 : List Int) (r : Bool) (w : World) (hr0 : Kd.C (Kd.int .i64) w A0 l0.length l0) (hc0 : l0.length ≤ c0) (h : spykeep2_DomeCloses.f k l0 = some r) :
    Calls Try.prog 3 #[.slice A0 l0.length c0] w fun e w' => e = .returned (.bool r) ∧ Below w.heap.size w w' := by
  have hu26 := Try.underlying26
  have hu30 := Try.underlying30
  have HR0 := Aside0.mk hr0
  have HC0 := Aside0.mk hc0
  clear hr0 hc0
  have HB := Aside0.mk (Below.refl w.heap.size w)
  have H : ((spykeep2_turns.f k).bind fun t177 => (if t177 = true then (spykeep2_DomeCloses.l0 k 0 l0 0 0 0 false false 0 0 0 false) else (some false))) = some r := h
  clear h
  replace H := Option.bind_eq_some_iff.mp H
  obtain ⟨t177, A20, H⟩ := H
  replace H : (if t177 = true then (spykeep2_DomeCloses.l0 k 0 l0 0 0 0 false false 0 0 0 false) else (some false)) = some r := H
  have A2 := Aside0.mk A20
  clear A20
  by_cases c3 : t177 = true
  · subst c3
    have H1 : (spykeep2_DomeCloses.l0 k 0 l0 0 0 0 false false 0 0 0 false) = some r := by rw [if_pos rfl] at H; exact H
    clear H
    have H := H1
    clear H1
    have H' := Aside0.mk H
    clear H
    go_enter Try.func3, Try.ntmps3
    go_wp2_with (first | ((with_reducible refine gate_callee (f := 10) rfl ?_); refine goesL_ (some 9) rfl rfl Try.func10 (by kernel_rfl) rfl #[] rfl (by (try simp only [List.map_toArray, List.map_cons, List.map_nil]); first | done | rfl | (simp only [List.length_drop, List.length_take]; rfl)) ?_; (with_reducible refine (spykeep2_turns.calls k  true _ A2.out).mono ?_); rintro e w4 ⟨rfl, hb⟩; refine ⟨_, rfl, ?_⟩; have n0_ := Aside0.mk (below_step (by exact HB.out) hb); clear HB; have HB := n0_; clear n0_; (try clear hb); (try clear hb2); (try clear hk); (try clear hi)) | ((with_reducible refine gate_dst (N := 13) rfl ?_); refine box_event ?hg (N := 13) ?hd (cs := #[.slice A0 l0.length c0, .int .i64 0]) (t := 26) ?hr ?_; (case hd => rfl); (case hg => rfl); (case hr => first | (go_simp; done) | (go_simp; rfl)); intro gb178 hg w5 hbox hb; have n0_ := Aside0.mk (below_step (by exact HB.out) hb); have n1_ := Aside0.mk ((by rw [hg]; exact (below_size (by exact HB.out)) : w.heap.size ≤ gb178)); have n2_ := Aside0.mk ((by rw [hg]; exact (below_size (by exact HB.out)) : w.heap.size ≤ gb178)); have n3_ := Aside0.mk ((show IsS26 w w5 gb178 l0 0 from ⟨_, _, hbox, (by rw [hg]; exact (below_size (by exact HB.out)) : w.heap.size ≤ gb178), HR0.out⟩)); clear HB; have HB := n0_; have GW178 := n1_; have GE178 := n2_; have HI178 := n3_; clear n0_ n1_ n2_ n3_; clear hb hbox hg) | ((with_reducible refine gate_dst (N := 4) rfl ?_); refine box_event ?hg (N := 4) ?hd (cs := #[.int .i64 0, .int .i64 0, .bool false, .bool false, .int .i64 0, .int .i64 0, .int .i64 0, .bool false]) (t := 30) ?hr ?_; (case hd => rfl); (case hg => rfl); (case hr => first | (go_simp; done) | (go_simp; rfl)); intro gb179 hg w6 hbox hb; have n0_ := Aside0.mk (IsS26.below (by exact HI178.out) hb); have n1_ := Aside0.mk (below_step (by exact HB.out) hb); have n2_ := Aside0.mk (hbox); have n3_ := Aside0.mk ((by rw [hg]; exact (below_size (by exact HB.out)) : w.heap.size ≤ gb179)); have n4_ := Aside0.mk ((by rw [hg]; exact (below_size (by exact HB.out)) : w.heap.size ≤ gb179)); have n5_ := Aside0.mk ((by rw [hg]; exact Nat.ne_of_lt (IsS26.lt (show IsS26 w _ gb178 l0 0 from by exact HI178.out)) : gb178 ≠ gb179)); have n6_ := Aside0.mk ((by rw [hg]; exact Nat.ne_of_gt (IsS26.lt (show IsS26 w _ gb178 l0 0 from by exact HI178.out)) : gb179 ≠ gb178)); clear HI178; clear HB; have HI178 := n0_; have HB := n1_; have BK179 := n2_; have GW179 := n3_; have GE179 := n4_; have NB178_179 := n5_; have NB179_178 := n6_; clear n0_ n1_ n2_ n3_ n4_ n5_ n6_; clear hb hbox hg))
    go_loopg [14] k (fun kq v14 w' => ∃ (x14_1 : Int) (x179001_1 : Int) (x180000_1 : Int) (x180001_1 : Int) (x180002_1 : Bool) (x180003_1 : Bool) (x180004_1 : Int) (x180005_1 : Int) (x180006_1 : Int) (x180007_1 : Bool), v14 = .int .i64 x14_1 ∧ Aside0 (spykeep2_DomeCloses.l0 kq x14_1 l0 x179001_1 x180000_1 x180001_1 x180002_1 x180003_1 x180004_1 x180005_1 x180006_1 x180007_1 = some r) ∧ Aside0 (kq ≤ k) ∧ Aside0 (w'.heap[gb179]? = some (.cells #[.int .i64 x180000_1, .int .i64 x180001_1, .bool x180002_1, .bool x180003_1, .int .i64 x180004_1, .int .i64 x180005_1, .int .i64 x180006_1, .bool x180007_1] 30 (0, 0))) ∧ Aside0 (IsS26 w w' gb178 l0 x179001_1) ∧ Aside0 (Below w.heap.size w w'))
    case atStart => exact ⟨(0), (0), (0), (0), (false), (false), (0), (0), (0), (false), (by first | rfl | (simp; done) | (simp [*]; done)), H', ⟨Nat.le_refl _⟩, ⟨by exact BK179.out⟩, ⟨by exact HI178.out⟩, ⟨by exact HB.out⟩⟩
    case round =>
      clear H'
      try clear c1
      try clear p2
      try clear c3
      obtain ⟨x14_1, x179001_1, x180000_1, x180001_1, x180002_1, x180003_1, x180004_1, x180005_1, x180006_1, x180007_1, rfl, HA, HK1, BK179, HI178, HB⟩ := hrel
      cases gk with
      | zero => exact absurd HA.out (by simp [spykeep2_DomeCloses.l0])
      | succ k1 =>
        have H := HA.out
        clear HA
        simp only [spykeep2_DomeCloses.l0] at H
        by_cases c7 : x14_1 < 2
        · rw [if_pos c7] at H
          have c7b0 : decide (x14_1 < 2) = true := decide_eq_true c7
          clear c7
          replace H := Option.bind_eq_some_iff.mp H
          obtain ⟨⟨t180, t181⟩, A80, H⟩ := H
          replace H : ((spymake_Stream_Next.f l0 t181 2).bind fun bt182 => ((dome_Set.f k1 x180000_1 x180001_1 x180002_1 x180003_1 x180004_1 x180005_1 x180006_1 x180007_1 (t180 == 0) (bt182.1 == 0)).bind fun bt184 => ((spymake_Stream_Next.f l0 bt182.2 60).bind fun bt193 => (spykeep2_DomeCloses.l1 k1 x14_1 bt193.1 0 l0 bt193.2 bt184.1 bt184.2.1 bt184.2.2.1 bt184.2.2.2.1 bt184.2.2.2.2.1 bt184.2.2.2.2.2.1 bt184.2.2.2.2.2.2.1 bt184.2.2.2.2.2.2.2.1)))) = some r := H
          have A8 := Aside0.mk A80
          clear A80
          replace H := Option.bind_eq_some_iff.mp H
          obtain ⟨⟨t182, t183⟩, A90, H⟩ := H
          replace H : ((dome_Set.f k1 x180000_1 x180001_1 x180002_1 x180003_1 x180004_1 x180005_1 x180006_1 x180007_1 (t180 == 0) (t182 == 0)).bind fun bt184 => ((spymake_Stream_Next.f l0 t183 60).bind fun bt193 => (spykeep2_DomeCloses.l1 k1 x14_1 bt193.1 0 l0 bt193.2 bt184.1 bt184.2.1 bt184.2.2.1 bt184.2.2.2.1 bt184.2.2.2.2.1 bt184.2.2.2.2.2.1 bt184.2.2.2.2.2.2.1 bt184.2.2.2.2.2.2.2.1))) = some r := H
          have A9 := Aside0.mk A90
          clear A90
          replace H := Option.bind_eq_some_iff.mp H
          obtain ⟨⟨t184, t185, t186, t187, t188, t189, t190, t191, t192⟩, A100, H⟩ := H
          replace H : ((spymake_Stream_Next.f l0 t183 60).bind fun bt193 => (spykeep2_DomeCloses.l1 k1 x14_1 bt193.1 0 l0 bt193.2 t184 t185 t186 t187 t188 t189 t190 t191)) = some r := H
          have A10 := Aside0.mk A100
          clear A100
          replace H := Option.bind_eq_some_iff.mp H
          obtain ⟨⟨t193, t194⟩, A110, H⟩ := H
          replace H : (spykeep2_DomeCloses.l1 k1 x14_1 t193 0 l0 t194 t184 t185 t186 t187 t188 t189 t190 t191) = some r := H
          have A11 := Aside0.mk A110
          clear A110
          have H' := Aside0.mk H
          clear H
          try go_wp2
          have n0_ := Aside0.mk (blk_drew BK179.out)
          have n1_ := Aside0.mk (IsS26.drew HI178.out)
          have n2_ := Aside0.mk (below_drew1 HB.out)
          clear BK179
          clear HI178
          clear HB
          have BK179 := n0_
          have HI178 := n1_
          have HB := n2_
          clear n0_ n1_ n2_
          refine start_ (n := 12) (S := fun w' => w'.cell? ⟨gb179, 0, none⟩ = some (.int .i64 x180000_1) ∧ w'.cell? ⟨gb179, 1, none⟩ = some (.int .i64 x180001_1) ∧ w'.cell? ⟨gb179, 2, none⟩ = some (.bool x180002_1) ∧ w'.cell? ⟨gb179, 3, none⟩ = some (.bool x180003_1) ∧ w'.cell? ⟨gb179, 4, none⟩ = some (.int .i64 x180004_1) ∧ w'.cell? ⟨gb179, 5, none⟩ = some (.int .i64 x180005_1) ∧ w'.cell? ⟨gb179, 6, none⟩ = some (.int .i64 x180006_1) ∧ w'.cell? ⟨gb179, 7, none⟩ = some (.bool x180007_1)) (ds := [11]) #[false, false, false, false, false, false, false, false, false, false, false, false] (by kernel_rfl) rfl rfl ⟨(blk_cell BK179.out 0).trans rfl, (blk_cell BK179.out 1).trans rfl, (blk_cell BK179.out 2).trans rfl, (blk_cell BK179.out 3).trans rfl, (blk_cell BK179.out 4).trans rfl, (blk_cell BK179.out 5).trans rfl, (blk_cell BK179.out 6).trans rfl, (blk_cell BK179.out 7).trans rfl⟩ (fun hHeld => ?_); refine with_tabW spykeep2_DomeCloses.tab7 spykeep2_DomeCloses.bits7 (fun HT_ HW_ => ?_)
          generalize wr.drew = w12 at BK179 HI178 HB hHeld ⊢
          refine pure_ (i := 1) (N := some 18) (v := ?_) (a' := ?_) #[false, true, false, false, false, false, false, false, false, false, false, false] rfl rfl (any_of HT_.out (by kernel_rfl)) (fun _ _ _ h => h) (Or.inl ⟨by rfl, ?_⟩) ?_ ?_
          rotate_left
          · intro w'
            go_simp
            with_reducible rfl
          rotate_left
          · simp only [Act.put, List.setIfInBounds_toArray, List.set_cons_zero, List.set_cons_succ, i64_w, i32_w]
            rfl
          refine pure_ (i := 4) (N := some 21) (v := ?_) (a' := ?_) #[false, true, false, false, true, false, false, false, false, false, false, false] rfl rfl (any_of HT_.out (by kernel_rfl)) (fun _ _ _ h => h) (Or.inl ⟨by rfl, ?_⟩) ?_ ?_
          rotate_left
          · intro w'
            go_simp
            with_reducible rfl
          rotate_left
          · simp only [Act.put, List.setIfInBounds_toArray, List.set_cons_zero, List.set_cons_succ, i64_w, i32_w]
            rfl
          refine take_ (i := 0) (N := some 17) (v := ?_) (a' := ?_) #[true, true, false, false, true, false, false, false, false, false, false, false] rfl rfl (take_ofW HT_.out HW_.out (by kernel_rfl)) (fun _ _ _ h => h) (Or.inl ⟨by rfl, ?_⟩) hHeld ?_ ?_
          rotate_left
          · rintro w' ⟨s0, s1, s2, s3, s4, s5, s6, s7⟩
            go_simp
            with_reducible rfl
          rotate_left
          · simp only [Act.put, List.setIfInBounds_toArray, List.set_cons_zero, List.set_cons_succ, i64_w, i32_w]
            rfl
          refine one_ (i := 2) (N := some 19) #[true, true, true, false, true, false, false, false, false, false, false, false] rfl rfl (one_of HT_.out (by kernel_rfl)) (by decide) (fun K hK => ?_)
          refine goes_ Try.func12 (by kernel_rfl) rfl #[.pointer (some ⟨gb178, 0, none⟩), .int .i64 2] (by rfl) rfl rfl (by (try simp only [List.map_toArray, List.map_cons, List.map_nil]); first | done | rfl | (simp only [List.length_drop, List.length_take]; rfl)) ?_
          with_reducible refine (spymake_Stream_Next.calls gb178 l0 x179001_1 2 t180 t181 w _ ?side1 ?side2 A8.out).mono ?_
          (case side1 => exact HI178.out)
          (case side2 => exact HB.out)
          rintro e w13 ⟨rfl, hi, hb, hk⟩
          refine ⟨_, rfl, ?_⟩
          have n0_ := Aside0.mk (KeepBut.blk hk BK179.out NB179_178.out (by simp))
          have n1_ := Aside0.mk (hb)
          have n2_ := Aside0.mk (hi)
          clear BK179
          clear HB
          clear HI178
          have BK179 := n0_
          have HB := n1_
          have HI178 := n2_
          clear n0_ n1_ n2_
          (try clear hb)
          (try clear hb2)
          (try clear hk)
          (try clear hi)
          refine hK.out _ _ ⟨(blk_cell BK179.out 0).trans rfl, (blk_cell BK179.out 1).trans rfl, (blk_cell BK179.out 2).trans rfl, (blk_cell BK179.out 3).trans rfl, (blk_cell BK179.out 4).trans rfl, (blk_cell BK179.out 5).trans rfl, (blk_cell BK179.out 6).trans rfl, (blk_cell BK179.out 7).trans rfl⟩ (fun hHeld => ?_)
          clear hK K
          refine norm_ (a' := ?_) ?_ ?_
          rotate_left
          · show Act.put _ (some 19) _ = _
            simp only [Act.put, List.setIfInBounds_toArray, List.set_cons_zero, List.set_cons_succ, i64_w, i32_w]
            rfl
          refine pure_ (i := 3) (N := some 20) (v := ?_) (a' := ?_) #[true, true, true, true, true, false, false, false, false, false, false, false] rfl rfl (any_of HT_.out (by kernel_rfl)) (fun _ _ _ h => h) (Or.inl ⟨by rfl, ?_⟩) ?_ ?_
          rotate_left
          · intro w'
            go_simp
            with_reducible rfl
          rotate_left
          · simp only [Act.put, List.setIfInBounds_toArray, List.set_cons_zero, List.set_cons_succ, i64_w, i32_w]
            rfl
          refine one_ (i := 5) (N := some 22) #[true, true, true, true, true, true, false, false, false, false, false, false] rfl rfl (one_of HT_.out (by kernel_rfl)) (by decide) (fun K hK => ?_)
          refine goes_ Try.func12 (by kernel_rfl) rfl #[.pointer (some ⟨gb178, 0, none⟩), .int .i64 2] (by rfl) rfl rfl (by (try simp only [List.map_toArray, List.map_cons, List.map_nil]); first | done | rfl | (simp only [List.length_drop, List.length_take]; rfl)) ?_
          with_reducible refine (spymake_Stream_Next.calls gb178 l0 t181 2 t182 t183 w _ ?side1 ?side2 A9.out).mono ?_
          (case side1 => exact HI178.out)
          (case side2 => exact HB.out)
          rintro e w14 ⟨rfl, hi, hb, hk⟩
          refine ⟨_, rfl, ?_⟩
          have n0_ := Aside0.mk (KeepBut.blk hk BK179.out NB179_178.out (by simp))
          have n1_ := Aside0.mk (hb)
          have n2_ := Aside0.mk (hi)
          clear BK179
          clear HB
          clear HI178
          have BK179 := n0_
          have HB := n1_
          have HI178 := n2_
          clear n0_ n1_ n2_
          (try clear hb)
          (try clear hb2)
          (try clear hk)
          (try clear hi)
          refine hK.out _ _ ⟨(blk_cell BK179.out 0).trans rfl, (blk_cell BK179.out 1).trans rfl, (blk_cell BK179.out 2).trans rfl, (blk_cell BK179.out 3).trans rfl, (blk_cell BK179.out 4).trans rfl, (blk_cell BK179.out 5).trans rfl, (blk_cell BK179.out 6).trans rfl, (blk_cell BK179.out 7).trans rfl⟩ (fun hHeld => ?_)
          clear hK K
          refine norm_ (a' := ?_) ?_ ?_
          rotate_left
          · show Act.put _ (some 22) _ = _
            simp only [Act.put, List.setIfInBounds_toArray, List.set_cons_zero, List.set_cons_succ, i64_w, i32_w]
            rfl
          refine pure_ (i := 6) (N := some 23) (v := ?_) (a' := ?_) #[true, true, true, true, true, true, true, false, false, false, false, false] rfl rfl (any_of HT_.out (by kernel_rfl)) (fun _ _ _ h => h) (Or.inl ⟨by rfl, ?_⟩) ?_ ?_
          rotate_left
          · intro w'
            go_simp
            with_reducible rfl
          rotate_left
          · simp only [Act.put, List.setIfInBounds_toArray, List.set_cons_zero, List.set_cons_succ, i64_w, i32_w]
            rfl
          refine one_ (i := 7) (N := some 24) #[true, true, true, true, true, true, true, true, false, false, false, false] rfl rfl (one_of HT_.out (by kernel_rfl)) (by decide) (fun K hK => ?_)
          refine goes_ Try.func11 (by kernel_rfl) rfl #[.agg #[.int .i64 x180000_1, .int .i64 x180001_1, .bool x180002_1, .bool x180003_1, .int .i64 x180004_1, .int .i64 x180005_1, .int .i64 x180006_1, .bool x180007_1], .bool (t180 == 0), .bool (t182 == 0)] (by rfl) rfl rfl (by (try simp only [List.map_toArray, List.map_cons, List.map_nil]); first | done | rfl | (simp only [List.length_drop, List.length_take]; rfl)) ?_
          with_reducible refine (dome_Set.calls k1 x180000_1 x180001_1 x180002_1 x180003_1 x180004_1 x180005_1 x180006_1 x180007_1 (t180 == 0) (t182 == 0) t184 t185 t186 t187 t188 t189 t190 t191 t192 _ A10.out).mono ?_
          rintro e w15 ⟨rfl, hb⟩
          refine ⟨_, rfl, ?_⟩
          have n0_ := Aside0.mk (blk_below BK179.out hb)
          have n1_ := Aside0.mk (IsS26.below (by exact HI178.out) hb)
          have n2_ := Aside0.mk (below_step (by exact HB.out) hb)
          clear BK179
          clear HI178
          clear HB
          have BK179 := n0_
          have HI178 := n1_
          have HB := n2_
          clear n0_ n1_ n2_
          (try clear hb)
          (try clear hb2)
          (try clear hk)
          (try clear hi)
          refine hK.out _ _ ⟨(blk_cell BK179.out 0).trans rfl, (blk_cell BK179.out 1).trans rfl, (blk_cell BK179.out 2).trans rfl, (blk_cell BK179.out 3).trans rfl, (blk_cell BK179.out 4).trans rfl, (blk_cell BK179.out 5).trans rfl, (blk_cell BK179.out 6).trans rfl, (blk_cell BK179.out 7).trans rfl⟩ (fun hHeld => ?_)
          clear hK K
          refine norm_ (a' := ?_) ?_ ?_
          rotate_left
          · show Act.put _ (some 24) _ = _
            simp only [Act.put, List.setIfInBounds_toArray, List.set_cons_zero, List.set_cons_succ, i64_w, i32_w]
            rfl
          refine pure_ (i := 8) (N := some 16) (v := ?_) (a' := ?_) #[true, true, true, true, true, true, true, true, true, false, false, false] rfl rfl (any_of HT_.out (by kernel_rfl)) (fun _ _ _ h => h) (Or.inl ⟨by rfl, ?_⟩) ?_ ?_
          rotate_left
          · intro w'
            go_simp
            with_reducible rfl
          rotate_left
          · simp only [Act.put, List.setIfInBounds_toArray, List.set_cons_zero, List.set_cons_succ, i64_w, i32_w]
            rfl
          refine pure_ (i := 9) (N := some 25) (v := ?_) (a' := ?_) #[true, true, true, true, true, true, true, true, true, true, false, false] rfl rfl (any_of HT_.out (by kernel_rfl)) (fun _ _ _ h => h) (Or.inl ⟨by rfl, ?_⟩) ?_ ?_
          rotate_left
          · intro w'
            go_simp
            with_reducible rfl
          rotate_left
          · simp only [Act.put, List.setIfInBounds_toArray, List.set_cons_zero, List.set_cons_succ, i64_w, i32_w]
            rfl
          refine pure_ (i := 10) (N := some 26) (v := ?_) (a' := ?_) #[true, true, true, true, true, true, true, true, true, true, true, false] rfl rfl (any_of HT_.out (by kernel_rfl)) (fun _ _ _ h => h) (Or.inl ⟨by rfl, ?_⟩) ?_ ?_
          rotate_left
          · intro w'
            go_simp
            with_reducible rfl
          rotate_left
          · simp only [Act.put, List.setIfInBounds_toArray, List.set_cons_zero, List.set_cons_succ, i64_w, i32_w]
            rfl
          refine last_ (i := 11) (N := none) #[true, true, true, true, true, true, true, true, true, true, true, true] rfl rfl (one_of HT_.out (by kernel_rfl)) (by decide) (fun K hK => ?_)
          have hs16 : w15.cell? ⟨gb179, 0, none⟩ = some (.int .i64 x180000_1) := (blk_cell BK179.out 0).trans rfl
          have hfs16 := blk_frozen BK179.out 0
          have hs17 : w15.cell? ⟨gb179, 1, none⟩ = some (.int .i64 x180001_1) := (blk_cell BK179.out 1).trans rfl
          have hfs17 := blk_frozen BK179.out 1
          have hs18 : w15.cell? ⟨gb179, 2, none⟩ = some (.bool x180002_1) := (blk_cell BK179.out 2).trans rfl
          have hfs18 := blk_frozen BK179.out 2
          have hs19 : w15.cell? ⟨gb179, 3, none⟩ = some (.bool x180003_1) := (blk_cell BK179.out 3).trans rfl
          have hfs19 := blk_frozen BK179.out 3
          have hs20 : w15.cell? ⟨gb179, 4, none⟩ = some (.int .i64 x180004_1) := (blk_cell BK179.out 4).trans rfl
          have hfs20 := blk_frozen BK179.out 4
          have hs21 : w15.cell? ⟨gb179, 5, none⟩ = some (.int .i64 x180005_1) := (blk_cell BK179.out 5).trans rfl
          have hfs21 := blk_frozen BK179.out 5
          have hs22 : w15.cell? ⟨gb179, 6, none⟩ = some (.int .i64 x180006_1) := (blk_cell BK179.out 6).trans rfl
          have hfs22 := blk_frozen BK179.out 6
          have hs23 : w15.cell? ⟨gb179, 7, none⟩ = some (.bool x180007_1) := (blk_cell BK179.out 7).trans rfl
          have hfs23 := blk_frozen BK179.out 7
          refine skip_ (w1 := ?_) (by rfl) rfl ?_ ?_
          rotate_left
          · go_simp
            rfl
          refine hK.out _ _ ?_
          clear hK K
          refine done_ (done_of HT_.out (by kernel_rfl)) ?_
          try go_wp2_with (first | ((with_reducible refine gate_callee (f := 12) rfl ?_); refine goesL_ (some 28) rfl rfl Try.func12 (by kernel_rfl) rfl #[.pointer (some ⟨gb178, 0, none⟩), .int .i64 60] rfl (by (try simp only [List.map_toArray, List.map_cons, List.map_nil]); first | done | rfl | (simp only [List.length_drop, List.length_take]; rfl)) ?_; (with_reducible refine (spymake_Stream_Next.calls gb178 l0 t183 60 t193 t194 w _ ?side1 ?side2 A11.out).mono ?_); (case side1 => repeat (first | (with_reducible first | exact HI178.out | apply IsS26.alloc | apply IsS26.drewN | apply IsS26.drew | apply IsS26.set_1 | refine IsS26.far ?_ NB178_179.out _) | exact HI178.out)); (case side2 => repeat (first | (with_reducible first | exact HB.out | apply below_alloc | apply pw_below_drewN | apply below_drew1 | refine below_set ?_ (IsS26.ge HI178.out) | refine below_set ?_ GE179.out) | exact HB.out)); rintro e w24 ⟨rfl, hi, hb, hk⟩; refine ⟨_, rfl, ?_⟩; have n0_ := Aside0.mk (KeepBut.blk hk (g' := gb179) (o := .cells #[.int .i64 t184, .int .i64 t185, .bool t186, .bool t187, .int .i64 t188, .int .i64 t189, .int .i64 t190, .bool t191] 30 (0, 0)) (by (with_reducible repeat (first | refine blk_drewN ?_ _ | refine blk_drew ?_ | refine blk_alloc ?_ _)); refine blk_put (cs := #[.int .i64 t184, .int .i64 t185, .bool t186, .bool t187, .int .i64 t188, .int .i64 t189, .int .i64 t190, .bool x180007_1]) ?_ 7 _ rfl; (with_reducible repeat (first | refine blk_drewN ?_ _ | refine blk_drew ?_ | refine blk_alloc ?_ _)); refine blk_put (cs := #[.int .i64 t184, .int .i64 t185, .bool t186, .bool t187, .int .i64 t188, .int .i64 t189, .int .i64 x180006_1, .bool x180007_1]) ?_ 6 _ rfl; (with_reducible repeat (first | refine blk_drewN ?_ _ | refine blk_drew ?_ | refine blk_alloc ?_ _)); refine blk_put (cs := #[.int .i64 t184, .int .i64 t185, .bool t186, .bool t187, .int .i64 t188, .int .i64 x180005_1, .int .i64 x180006_1, .bool x180007_1]) ?_ 5 _ rfl; (with_reducible repeat (first | refine blk_drewN ?_ _ | refine blk_drew ?_ | refine blk_alloc ?_ _)); refine blk_put (cs := #[.int .i64 t184, .int .i64 t185, .bool t186, .bool t187, .int .i64 x180004_1, .int .i64 x180005_1, .int .i64 x180006_1, .bool x180007_1]) ?_ 4 _ rfl; (with_reducible repeat (first | refine blk_drewN ?_ _ | refine blk_drew ?_ | refine blk_alloc ?_ _)); refine blk_put (cs := #[.int .i64 t184, .int .i64 t185, .bool t186, .bool x180003_1, .int .i64 x180004_1, .int .i64 x180005_1, .int .i64 x180006_1, .bool x180007_1]) ?_ 3 _ rfl; (with_reducible repeat (first | refine blk_drewN ?_ _ | refine blk_drew ?_ | refine blk_alloc ?_ _)); refine blk_put (cs := #[.int .i64 t184, .int .i64 t185, .bool x180002_1, .bool x180003_1, .int .i64 x180004_1, .int .i64 x180005_1, .int .i64 x180006_1, .bool x180007_1]) ?_ 2 _ rfl; (with_reducible repeat (first | refine blk_drewN ?_ _ | refine blk_drew ?_ | refine blk_alloc ?_ _)); refine blk_put (cs := #[.int .i64 t184, .int .i64 x180001_1, .bool x180002_1, .bool x180003_1, .int .i64 x180004_1, .int .i64 x180005_1, .int .i64 x180006_1, .bool x180007_1]) ?_ 1 _ rfl; (with_reducible repeat (first | refine blk_drewN ?_ _ | refine blk_drew ?_ | refine blk_alloc ?_ _)); refine blk_put (cs := #[.int .i64 x180000_1, .int .i64 x180001_1, .bool x180002_1, .bool x180003_1, .int .i64 x180004_1, .int .i64 x180005_1, .int .i64 x180006_1, .bool x180007_1]) ?_ 0 _ rfl; (with_reducible repeat (first | refine blk_drewN ?_ _ | refine blk_drew ?_ | refine blk_alloc ?_ _)); exact BK179.out) NB179_178.out (by simp)); have n1_ := Aside0.mk (hb); have n2_ := Aside0.mk (hi); clear BK179; clear HB; clear HI178; have BK179 := n0_; have HB := n1_; have HI178 := n2_; clear n0_ n1_ n2_; (try clear hb); (try clear hb2); (try clear hk); (try clear hi)))
          go_loopg [29] k1 (fun kq v29 w' => ∃ (x29_2 : Int) (x180000_2 : Int) (x180001_2 : Int) (x180002_2 : Bool) (x180003_2 : Bool) (x180004_2 : Int) (x180005_2 : Int) (x180006_2 : Int) (x180007_2 : Bool), v29 = .int .i64 x29_2 ∧ Aside0 (spykeep2_DomeCloses.l1 kq x14_1 t193 x29_2 l0 t194 x180000_2 x180001_2 x180002_2 x180003_2 x180004_2 x180005_2 x180006_2 x180007_2 = some r) ∧ Aside0 (kq ≤ k1) ∧ Aside0 (w'.heap[gb179]? = some (.cells #[.int .i64 x180000_2, .int .i64 x180001_2, .bool x180002_2, .bool x180003_2, .int .i64 x180004_2, .int .i64 x180005_2, .int .i64 x180006_2, .bool x180007_2] 30 (0, 0))) ∧ Aside0 (IsS26 w w' gb178 l0 t194) ∧ Aside0 (Below w.heap.size w w'))
          case atStart => exact ⟨(0), (t184), (t185), (t186), (t187), (t188), (t189), (t190), (t191), (by first | rfl | (simp; done) | (simp [*]; done)), H', ⟨Nat.le_refl _⟩, ⟨by exact BK179.out⟩, ⟨by exact HI178.out⟩, ⟨by exact HB.out⟩⟩
          case round =>
            clear H'
            try clear c1
            try clear p2
            try clear c3
            try clear c7
            try clear c7b0
            try clear c10
            try clear c11
            try clear c12
            try clear p2
            obtain ⟨x29_2, x180000_2, x180001_2, x180002_2, x180003_2, x180004_2, x180005_2, x180006_2, x180007_2, rfl, HA, HK2, BK179, HI178, HB⟩ := hrel
            cases gk with
            | zero => exact absurd HA.out (by simp [spykeep2_DomeCloses.l1])
            | succ k2 =>
              have H := HA.out
              clear HA
              simp only [spykeep2_DomeCloses.l1] at H
              by_cases c25 : x29_2 < t193
              · rw [if_pos c25] at H
                have c25b0 : decide (x29_2 < t193) = true := decide_eq_true c25
                clear c25
                replace H := Option.bind_eq_some_iff.mp H
                obtain ⟨⟨t195, t196, t197, t198, t199, t200, t201, t202⟩, A260, H⟩ := H
                replace H : (spykeep2_DomeCloses.l1 k2 x14_1 t193 (wrap64 (x29_2 + 1)) l0 t194 t195 t196 t197 t198 t199 t200 t201 t202) = some r := H
                have A26 := Aside0.mk A260
                clear A260
                have H' := Aside0.mk H
                clear H
                have hnb27 := NB179_178.out
                have hnc27 := NB178_179.out
                obtain ⟨hcz28_0, hcz28_1, hcz28_2, hcz28_3, hcz28_4, hcz28_5, hcz28_6, hcz28_7, hfz28_0, hfz28_1, hfz28_2, hfz28_3, hfz28_4, hfz28_5, hfz28_6, hfz28_7⟩ := tch8 BK179.out
                go_wp2_with (first | ((with_reducible refine gate_callee (f := 13) rfl ?_); refine goesL_ (some 32) rfl rfl Try.func13 (by kernel_rfl) rfl #[.agg #[.int .i64 x180000_2, .int .i64 x180001_2, .bool x180002_2, .bool x180003_2, .int .i64 x180004_2, .int .i64 x180005_2, .int .i64 x180006_2, .bool x180007_2]] rfl (by (try simp only [List.map_toArray, List.map_cons, List.map_nil]); first | done | rfl | (simp only [List.length_drop, List.length_take]; rfl)) ?_; (with_reducible refine (dome_Step.calls k2 x180000_2 x180001_2 x180002_2 x180003_2 x180004_2 x180005_2 x180006_2 x180007_2 t195 t196 t197 t198 t199 t200 t201 t202 _ A26.out).mono ?_); rintro e w29 ⟨rfl, hb⟩; refine ⟨_, rfl, ?_⟩; have n0_ := Aside0.mk (blk_below BK179.out hb); have n1_ := Aside0.mk (IsS26.below (by exact HI178.out) hb); have n2_ := Aside0.mk (below_step (by exact HB.out) hb); clear BK179; clear HI178; clear HB; have BK179 := n0_; have HI178 := n1_; have HB := n2_; clear n0_ n1_ n2_; (try clear hb); (try clear hb2); (try clear hk); (try clear hi); obtain ⟨hcz30_0, hcz30_1, hcz30_2, hcz30_3, hcz30_4, hcz30_5, hcz30_6, hcz30_7, hfz30_0, hfz30_1, hfz30_2, hfz30_3, hfz30_4, hfz30_5, hfz30_6, hfz30_7⟩ := tch8 BK179.out) | ((with_reducible refine gate_store (t := 30) (p := 4) rfl ?_); refine store_event (t := 30) (p := 4) (v := ?vo_w31) (w1 := ((((((((w29.setCell ⟨gb179, 0, none⟩ (.int .i64 t195)).setCell ⟨gb179, 1, none⟩ (.int .i64 t196)).setCell ⟨gb179, 2, none⟩ (.bool t197)).setCell ⟨gb179, 3, none⟩ (.bool t198)).setCell ⟨gb179, 4, none⟩ (.int .i64 t199)).setCell ⟨gb179, 5, none⟩ (.int .i64 t200)).setCell ⟨gb179, 6, none⟩ (.int .i64 t201)).setCell ⟨gb179, 7, none⟩ (.bool t202))) ?hg ?ho ?hn ?hr ?_; (case ho => rfl); (case hg => rfl); (case hn => rfl); (case hr => first | (go_simp; done) | (go_simp; rfl)); intro w31 hw; have n0_ : Aside0 (w31.heap[gb179]? = some (.cells #[.int .i64 t195, .int .i64 t196, .bool t197, .bool t198, .int .i64 t199, .int .i64 t200, .int .i64 t201, .bool t202] 30 (0, 0))) := ⟨(by rw [hw]; exact (by (with_reducible repeat (first | refine blk_drewN ?_ _ | refine blk_drew ?_ | refine blk_alloc ?_ _)); refine blk_put (cs := #[.int .i64 t195, .int .i64 t196, .bool t197, .bool t198, .int .i64 t199, .int .i64 t200, .int .i64 t201, .bool x180007_2]) ?_ 7 _ rfl; (with_reducible repeat (first | refine blk_drewN ?_ _ | refine blk_drew ?_ | refine blk_alloc ?_ _)); refine blk_put (cs := #[.int .i64 t195, .int .i64 t196, .bool t197, .bool t198, .int .i64 t199, .int .i64 t200, .int .i64 x180006_2, .bool x180007_2]) ?_ 6 _ rfl; (with_reducible repeat (first | refine blk_drewN ?_ _ | refine blk_drew ?_ | refine blk_alloc ?_ _)); refine blk_put (cs := #[.int .i64 t195, .int .i64 t196, .bool t197, .bool t198, .int .i64 t199, .int .i64 x180005_2, .int .i64 x180006_2, .bool x180007_2]) ?_ 5 _ rfl; (with_reducible repeat (first | refine blk_drewN ?_ _ | refine blk_drew ?_ | refine blk_alloc ?_ _)); refine blk_put (cs := #[.int .i64 t195, .int .i64 t196, .bool t197, .bool t198, .int .i64 x180004_2, .int .i64 x180005_2, .int .i64 x180006_2, .bool x180007_2]) ?_ 4 _ rfl; (with_reducible repeat (first | refine blk_drewN ?_ _ | refine blk_drew ?_ | refine blk_alloc ?_ _)); refine blk_put (cs := #[.int .i64 t195, .int .i64 t196, .bool t197, .bool x180003_2, .int .i64 x180004_2, .int .i64 x180005_2, .int .i64 x180006_2, .bool x180007_2]) ?_ 3 _ rfl; (with_reducible repeat (first | refine blk_drewN ?_ _ | refine blk_drew ?_ | refine blk_alloc ?_ _)); refine blk_put (cs := #[.int .i64 t195, .int .i64 t196, .bool x180002_2, .bool x180003_2, .int .i64 x180004_2, .int .i64 x180005_2, .int .i64 x180006_2, .bool x180007_2]) ?_ 2 _ rfl; (with_reducible repeat (first | refine blk_drewN ?_ _ | refine blk_drew ?_ | refine blk_alloc ?_ _)); refine blk_put (cs := #[.int .i64 t195, .int .i64 x180001_2, .bool x180002_2, .bool x180003_2, .int .i64 x180004_2, .int .i64 x180005_2, .int .i64 x180006_2, .bool x180007_2]) ?_ 1 _ rfl; (with_reducible repeat (first | refine blk_drewN ?_ _ | refine blk_drew ?_ | refine blk_alloc ?_ _)); refine blk_put (cs := #[.int .i64 x180000_2, .int .i64 x180001_2, .bool x180002_2, .bool x180003_2, .int .i64 x180004_2, .int .i64 x180005_2, .int .i64 x180006_2, .bool x180007_2]) ?_ 0 _ rfl; (with_reducible repeat (first | refine blk_drewN ?_ _ | refine blk_drew ?_ | refine blk_alloc ?_ _)); exact BK179.out))⟩; have n1_ : Aside0 (IsS26 w w31 gb178 l0 t194) := ⟨(by rw [hw]; exact (by repeat (first | (with_reducible first | exact HI178.out | apply IsS26.alloc | apply IsS26.drewN | apply IsS26.drew | apply IsS26.set_1 | refine IsS26.far ?_ NB178_179.out _) | exact HI178.out)))⟩; have n2_ : Aside0 (Below w.heap.size w w31) := ⟨(by rw [hw]; exact (by repeat (first | (with_reducible first | exact HB.out | apply below_alloc | apply pw_below_drewN | apply below_drew1 | refine below_set ?_ (IsS26.ge HI178.out) | refine below_set ?_ GE179.out) | exact HB.out)))⟩; clear hw; clear BK179; clear HI178; clear HB; have BK179 := n0_; have HI178 := n1_; have HB := n2_; clear n0_ n1_ n2_))
                go_roundg k2
                case measure => have := HK1.out; have := HK2.out; omega
                case rel => exact ⟨(wrap64 (x29_2 + 1)), (t195), (t196), (t197), (t198), (t199), (t200), (t201), (t202), (by first | rfl | (simp; done) | (simp [*]; done)), H', ⟨by have := HK1.out; have := HK2.out; omega⟩, ⟨by exact BK179.out⟩, ⟨by exact HI178.out⟩, ⟨by exact HB.out⟩⟩
              · rw [if_neg c25] at H
                have c25b0 : decide (x29_2 < t193) = false := decide_eq_false c25
                clear c25
                have H' := Aside0.mk H
                clear H
                go_wp2
                go_roundg k2
                case measure => have := HK1.out; have := HK2.out; omega
                case rel => exact ⟨(wrap64 (x14_1 + 1)), (t194), (x180000_2), (x180001_2), (x180002_2), (x180003_2), (x180004_2), (x180005_2), (x180006_2), (x180007_2), (by first | rfl | (simp; done) | (simp [*]; done)), H', ⟨by have := HK1.out; have := HK2.out; omega⟩, ⟨by exact BK179.out⟩, ⟨by exact HI178.out⟩, ⟨by exact HB.out⟩⟩
        · rw [if_neg c7] at H
          have c7b0 : decide (x14_1 < 2) = false := decide_eq_false c7
          clear c7
          replace H := Option.bind_eq_some_iff.mp H
          obtain ⟨⟨t203, t204⟩, A320, H⟩ := H
          replace H : ((dome_Set.f k1 x180000_1 x180001_1 x180002_1 x180003_1 x180004_1 x180005_1 x180006_1 x180007_1 false (t203 == 0)).bind fun bt205 => ((dome_Set.f k1 x180000_1 x180001_1 x180002_1 x180003_1 x180004_1 x180005_1 x180006_1 x180007_1 true true).bind fun bt215 => (spykeep2_DomeCloses.l2 k1 bt205.2.2.2.2.2.2.2.2 bt215.2.2.2.2.2.2.2.2 0 bt205.1 bt205.2.1 bt205.2.2.1 bt205.2.2.2.1 bt205.2.2.2.2.1 bt205.2.2.2.2.2.1 bt205.2.2.2.2.2.2.1 bt205.2.2.2.2.2.2.2.1 bt215.1 bt215.2.1 bt215.2.2.1 bt215.2.2.2.1 bt215.2.2.2.2.1 bt215.2.2.2.2.2.1 bt215.2.2.2.2.2.2.1 bt215.2.2.2.2.2.2.2.1))) = some r := H
          have A32 := Aside0.mk A320
          clear A320
          replace H := Option.bind_eq_some_iff.mp H
          obtain ⟨⟨t205, t206, t207, t208, t209, t210, t211, t212, t213⟩, A330, H⟩ := H
          replace H : ((dome_Set.f k1 x180000_1 x180001_1 x180002_1 x180003_1 x180004_1 x180005_1 x180006_1 x180007_1 true true).bind fun bt215 => (spykeep2_DomeCloses.l2 k1 t213 bt215.2.2.2.2.2.2.2.2 0 t205 t206 t207 t208 t209 t210 t211 t212 bt215.1 bt215.2.1 bt215.2.2.1 bt215.2.2.2.1 bt215.2.2.2.2.1 bt215.2.2.2.2.2.1 bt215.2.2.2.2.2.2.1 bt215.2.2.2.2.2.2.2.1)) = some r := H
          have A33 := Aside0.mk A330
          clear A330
          replace H := Option.bind_eq_some_iff.mp H
          obtain ⟨⟨t215, t216, t217, t218, t219, t220, t221, t222, t223⟩, A340, H⟩ := H
          replace H : (spykeep2_DomeCloses.l2 k1 t213 t223 0 t205 t206 t207 t208 t209 t210 t211 t212 t215 t216 t217 t218 t219 t220 t221 t222) = some r := H
          have A34 := Aside0.mk A340
          clear A340
          have H' := Aside0.mk H
          clear H
          try go_wp2
          have n0_ := Aside0.mk (blk_drew BK179.out)
          have n1_ := Aside0.mk (IsS26.drew HI178.out)
          have n2_ := Aside0.mk (below_drew1 HB.out)
          clear BK179
          clear HI178
          clear HB
          have BK179 := n0_
          have HI178 := n1_
          have HB := n2_
          clear n0_ n1_ n2_
          refine start_ (n := 11) (S := fun w' => w'.cell? ⟨gb179, 0, none⟩ = some (.int .i64 x180000_1) ∧ w'.cell? ⟨gb179, 1, none⟩ = some (.int .i64 x180001_1) ∧ w'.cell? ⟨gb179, 2, none⟩ = some (.bool x180002_1) ∧ w'.cell? ⟨gb179, 3, none⟩ = some (.bool x180003_1) ∧ w'.cell? ⟨gb179, 4, none⟩ = some (.int .i64 x180004_1) ∧ w'.cell? ⟨gb179, 5, none⟩ = some (.int .i64 x180005_1) ∧ w'.cell? ⟨gb179, 6, none⟩ = some (.int .i64 x180006_1) ∧ w'.cell? ⟨gb179, 7, none⟩ = some (.bool x180007_1)) (ds := []) #[false, false, false, false, false, false, false, false, false, false, false] (by kernel_rfl) rfl rfl ⟨(blk_cell BK179.out 0).trans rfl, (blk_cell BK179.out 1).trans rfl, (blk_cell BK179.out 2).trans rfl, (blk_cell BK179.out 3).trans rfl, (blk_cell BK179.out 4).trans rfl, (blk_cell BK179.out 5).trans rfl, (blk_cell BK179.out 6).trans rfl, (blk_cell BK179.out 7).trans rfl⟩ (fun hHeld => ?_); refine with_tabW spykeep2_DomeCloses.tab13 spykeep2_DomeCloses.bits13 (fun HT_ HW_ => ?_)
          generalize wr.drew = w35 at BK179 HI178 HB hHeld ⊢
          refine pure_ (i := 1) (N := some 37) (v := ?_) (a' := ?_) #[false, true, false, false, false, false, false, false, false, false, false] rfl rfl (any_of HT_.out (by kernel_rfl)) (fun _ _ _ h => h) (Or.inl ⟨by rfl, ?_⟩) ?_ ?_
          rotate_left
          · intro w'
            go_simp
            with_reducible rfl
          rotate_left
          · simp only [Act.put, List.setIfInBounds_toArray, List.set_cons_zero, List.set_cons_succ, i64_w, i32_w]
            rfl
          refine take_ (i := 0) (N := some 36) (v := ?_) (a' := ?_) #[true, true, false, false, false, false, false, false, false, false, false] rfl rfl (take_ofW HT_.out HW_.out (by kernel_rfl)) (fun _ _ _ h => h) (Or.inl ⟨by rfl, ?_⟩) hHeld ?_ ?_
          rotate_left
          · rintro w' ⟨s0, s1, s2, s3, s4, s5, s6, s7⟩
            go_simp
            with_reducible rfl
          rotate_left
          · simp only [Act.put, List.setIfInBounds_toArray, List.set_cons_zero, List.set_cons_succ, i64_w, i32_w]
            rfl
          refine join_ (σ := Nat) 2 #[true, true, true, true, true, true, true, true, true, false, false] (fun s_ => [(38, .int .i64 t203), (40, .tuple #[.agg #[.int .i64 t205, .int .i64 t206, .bool t207, .bool t208, .int .i64 t209, .int .i64 t210, .int .i64 t211, .bool t212], .int .i64 t213]), (5, .pointer (some ⟨s_, 0, none⟩)), (39, .bool (t203 == 0)), (35, .tuple #[.agg #[.int .i64 t205, .int .i64 t206, .bool t207, .bool t208, .int .i64 t209, .int .i64 t210, .int .i64 t211, .bool t212], .int .i64 t213]), (41, .agg #[.int .i64 t205, .int .i64 t206, .bool t207, .bool t208, .int .i64 t209, .int .i64 t210, .int .i64 t211, .bool t212]), (42, .int .i64 t213)]) (fun s_ w' => (w'.cell? ⟨gb179, 0, none⟩ = some (.int .i64 x180000_1) ∧ w'.cell? ⟨gb179, 1, none⟩ = some (.int .i64 x180001_1) ∧ w'.cell? ⟨gb179, 2, none⟩ = some (.bool x180002_1) ∧ w'.cell? ⟨gb179, 3, none⟩ = some (.bool x180003_1) ∧ w'.cell? ⟨gb179, 4, none⟩ = some (.int .i64 x180004_1) ∧ w'.cell? ⟨gb179, 5, none⟩ = some (.int .i64 x180005_1) ∧ w'.cell? ⟨gb179, 6, none⟩ = some (.int .i64 x180006_1) ∧ w'.cell? ⟨gb179, 7, none⟩ = some (.bool x180007_1)) ∧ (w'.heap[gb179]? = some (.cells #[.int .i64 x180000_1, .int .i64 x180001_1, .bool x180002_1, .bool x180003_1, .int .i64 x180004_1, .int .i64 x180005_1, .int .i64 x180006_1, .bool x180007_1] 30 (0, 0))) ∧ (w'.heap[s_]? = some (.cells #[.int .i64 0, .int .i64 0, .bool false, .bool false, .int .i64 0, .int .i64 0, .int .i64 0, .bool false] 30 (0, 0))) ∧ (w.heap.size ≤ s_) ∧ (w.heap.size ≤ s_) ∧ (gb178 ≠ s_) ∧ (s_ ≠ gb178) ∧ (gb179 ≠ s_) ∧ (s_ ≠ gb179) ∧ (IsS26 w w' gb178 l0 t204) ∧ (Below w.heap.size w w')) ?_ ?_
          rotate_left
          · intro hCont
            refine two_ (i := 2) (j := 8) (Ni := some 38) (Nj := some 5) #[true, true, true, false, false, false, false, false, false, false, false] #[true, true, false, false, false, false, false, false, true, false, false] rfl rfl rfl rfl (two_of HT_.out (by kernel_rfl)) (by decide) (by decide) (fun K hK => ?_) (fun K hK => ?_)
            · skip
              refine goes_ Try.func12 (by kernel_rfl) rfl #[.pointer (some ⟨gb178, 0, none⟩), .int .i64 2] (by rfl) rfl rfl (by (try simp only [List.map_toArray, List.map_cons, List.map_nil]); first | done | rfl | (simp only [List.length_drop, List.length_take]; rfl)) ?_
              with_reducible refine (spymake_Stream_Next.calls gb178 l0 x179001_1 2 t203 t204 w _ ?side1 ?side2 A32.out).mono ?_
              (case side1 => exact HI178.out)
              (case side2 => exact HB.out)
              rintro e w36 ⟨rfl, hi, hb, hk⟩
              refine ⟨_, rfl, ?_⟩
              have n0_ := Aside0.mk (KeepBut.blk hk BK179.out NB179_178.out (by simp))
              have n1_ := Aside0.mk (hb)
              have n2_ := Aside0.mk (hi)
              clear BK179
              clear HB
              clear HI178
              have BK179 := n0_
              have HB := n1_
              have HI178 := n2_
              clear n0_ n1_ n2_
              (try clear hb)
              (try clear hb2)
              (try clear hk)
              (try clear hi)
              refine hK.out _ _ ⟨(blk_cell BK179.out 0).trans rfl, (blk_cell BK179.out 1).trans rfl, (blk_cell BK179.out 2).trans rfl, (blk_cell BK179.out 3).trans rfl, (blk_cell BK179.out 4).trans rfl, (blk_cell BK179.out 5).trans rfl, (blk_cell BK179.out 6).trans rfl, (blk_cell BK179.out 7).trans rfl⟩ (fun hHeld => ?_)
              clear hK K
              refine norm_ (a' := ?_) ?_ ?_
              rotate_left
              · show Act.put _ (some 38) _ = _
                simp only [Act.put, List.setIfInBounds_toArray, List.set_cons_zero, List.set_cons_succ, i64_w, i32_w]
                rfl
              refine pure_ (i := 3) (N := some 39) (v := ?_) (a' := ?_) #[true, true, true, true, false, false, false, false, false, false, false] rfl rfl (any_of HT_.out (by kernel_rfl)) (fun _ _ _ h => h) (Or.inl ⟨by rfl, ?_⟩) ?_ ?_
              rotate_left
              · intro w'
                go_simp
                with_reducible rfl
              rotate_left
              · simp only [Act.put, List.setIfInBounds_toArray, List.set_cons_zero, List.set_cons_succ, i64_w, i32_w]
                rfl
              refine two_ (i := 4) (j := 8) (Ni := some 40) (Nj := some 5) #[true, true, true, true, true, false, false, false, false, false, false] #[true, true, true, true, false, false, false, false, true, false, false] rfl rfl rfl rfl (two_of HT_.out (by kernel_rfl)) (by decide) (by decide) (fun K hK => ?_) (fun K hK => ?_)
              · skip
                refine goes_ Try.func11 (by kernel_rfl) rfl #[.agg #[.int .i64 x180000_1, .int .i64 x180001_1, .bool x180002_1, .bool x180003_1, .int .i64 x180004_1, .int .i64 x180005_1, .int .i64 x180006_1, .bool x180007_1], .bool false, .bool (t203 == 0)] (by rfl) rfl rfl (by (try simp only [List.map_toArray, List.map_cons, List.map_nil]); first | done | rfl | (simp only [List.length_drop, List.length_take]; rfl)) ?_
                with_reducible refine (dome_Set.calls k1 x180000_1 x180001_1 x180002_1 x180003_1 x180004_1 x180005_1 x180006_1 x180007_1 false (t203 == 0) t205 t206 t207 t208 t209 t210 t211 t212 t213 _ A33.out).mono ?_
                rintro e w37 ⟨rfl, hb⟩
                refine ⟨_, rfl, ?_⟩
                have n0_ := Aside0.mk (blk_below BK179.out hb)
                have n1_ := Aside0.mk (IsS26.below (by exact HI178.out) hb)
                have n2_ := Aside0.mk (below_step (by exact HB.out) hb)
                clear BK179
                clear HI178
                clear HB
                have BK179 := n0_
                have HI178 := n1_
                have HB := n2_
                clear n0_ n1_ n2_
                (try clear hb)
                (try clear hb2)
                (try clear hk)
                (try clear hi)
                refine hK.out _ _ ⟨(blk_cell BK179.out 0).trans rfl, (blk_cell BK179.out 1).trans rfl, (blk_cell BK179.out 2).trans rfl, (blk_cell BK179.out 3).trans rfl, (blk_cell BK179.out 4).trans rfl, (blk_cell BK179.out 5).trans rfl, (blk_cell BK179.out 6).trans rfl, (blk_cell BK179.out 7).trans rfl⟩ (fun hHeld => ?_)
                clear hK K
                refine norm_ (a' := ?_) ?_ ?_
                rotate_left
                · show Act.put _ (some 40) _ = _
                  simp only [Act.put, List.setIfInBounds_toArray, List.set_cons_zero, List.set_cons_succ, i64_w, i32_w]
                  rfl
                refine pure_ (i := 5) (N := some 35) (v := ?_) (a' := ?_) #[true, true, true, true, true, true, false, false, false, false, false] rfl rfl (any_of HT_.out (by kernel_rfl)) (fun _ _ _ h => h) (Or.inl ⟨by rfl, ?_⟩) ?_ ?_
                rotate_left
                · intro w'
                  go_simp
                  with_reducible rfl
                rotate_left
                · simp only [Act.put, List.setIfInBounds_toArray, List.set_cons_zero, List.set_cons_succ, i64_w, i32_w]
                  rfl
                refine pure_ (i := 6) (N := some 41) (v := ?_) (a' := ?_) #[true, true, true, true, true, true, true, false, false, false, false] rfl rfl (any_of HT_.out (by kernel_rfl)) (fun _ _ _ h => h) (Or.inl ⟨by rfl, ?_⟩) ?_ ?_
                rotate_left
                · intro w'
                  go_simp
                  with_reducible rfl
                rotate_left
                · simp only [Act.put, List.setIfInBounds_toArray, List.set_cons_zero, List.set_cons_succ, i64_w, i32_w]
                  rfl
                refine pure_ (i := 7) (N := some 42) (v := ?_) (a' := ?_) #[true, true, true, true, true, true, true, true, false, false, false] rfl rfl (any_of HT_.out (by kernel_rfl)) (fun _ _ _ h => h) (Or.inl ⟨by rfl, ?_⟩) ?_ ?_
                rotate_left
                · intro w'
                  go_simp
                  with_reducible rfl
                rotate_left
                · simp only [Act.put, List.setIfInBounds_toArray, List.set_cons_zero, List.set_cons_succ, i64_w, i32_w]
                  rfl
                refine one_ (i := 8) (N := some 5) #[true, true, true, true, true, true, true, true, true, false, false] rfl rfl (one_of HT_.out (by kernel_rfl)) (by decide) (fun K hK => ?_)
                refine box_step ?hg (N := 5) ?hd (cs := #[.int .i64 0, .int .i64 0, .bool false, .bool false, .int .i64 0, .int .i64 0, .int .i64 0, .bool false]) (t := 30) ?hr ?_; (case hd => rfl); (case hg => rfl); (case hr => first | (go_simp; done) | (go_simp; rfl))
                intro gb214 hg w38 hbox hb
                have n0_ := Aside0.mk (blk_below BK179.out hb)
                have n1_ := Aside0.mk (IsS26.below (by exact HI178.out) hb)
                have n2_ := Aside0.mk (below_step (by exact HB.out) hb)
                have n3_ := Aside0.mk (hbox)
                have n4_ := Aside0.mk ((by rw [hg]; exact (below_size (by exact HB.out)) : w.heap.size ≤ gb214))
                have n5_ := Aside0.mk ((by rw [hg]; exact (below_size (by exact HB.out)) : w.heap.size ≤ gb214))
                have n6_ := Aside0.mk ((by rw [hg]; exact Nat.ne_of_lt (blk_lt BK179.out) : gb179 ≠ gb214))
                have n7_ := Aside0.mk ((by rw [hg]; exact Nat.ne_of_gt (blk_lt BK179.out) : gb214 ≠ gb179))
                have n8_ := Aside0.mk ((by rw [hg]; exact Nat.ne_of_lt (IsS26.lt (show IsS26 w _ gb178 l0 t204 from by exact HI178.out)) : gb178 ≠ gb214))
                have n9_ := Aside0.mk ((by rw [hg]; exact Nat.ne_of_gt (IsS26.lt (show IsS26 w _ gb178 l0 t204 from by exact HI178.out)) : gb214 ≠ gb178))
                clear BK179
                clear HI178
                clear HB
                have BK179 := n0_
                have HI178 := n1_
                have HB := n2_
                have BK214 := n3_
                have GW214 := n4_
                have GE214 := n5_
                have NB179_214 := n6_
                have NB214_179 := n7_
                have NB178_214 := n8_
                have NB214_178 := n9_
                clear n0_ n1_ n2_ n3_ n4_ n5_ n6_ n7_ n8_ n9_
                clear hb hbox hg
                refine hK.out _ _ ⟨(blk_cell BK179.out 0).trans rfl, (blk_cell BK179.out 1).trans rfl, (blk_cell BK179.out 2).trans rfl, (blk_cell BK179.out 3).trans rfl, (blk_cell BK179.out 4).trans rfl, (blk_cell BK179.out 5).trans rfl, (blk_cell BK179.out 6).trans rfl, (blk_cell BK179.out 7).trans rfl⟩ (fun hHeld => ?_)
                clear hK K
                refine norm_ (a' := ?_) ?_ ?_
                rotate_left
                · show Act.put _ (some 5) _ = _
                  simp only [Act.put, List.setIfInBounds_toArray, List.set_cons_zero, List.set_cons_succ, i64_w, i32_w]
                  rfl
                exact norm_ (by simp only [putAll, Act.put, List.setIfInBounds_toArray, List.set_cons_zero, List.set_cons_succ]) (hCont (gb214) _ ⟨hHeld, (by exact BK179.out), (by exact BK214.out), GW214.out, GE214.out, NB178_214.out, NB214_178.out, NB179_214.out, NB214_179.out, (by exact HI178.out), (by exact HB.out)⟩)
              · skip
                refine box_step ?hg (N := 5) ?hd (cs := #[.int .i64 0, .int .i64 0, .bool false, .bool false, .int .i64 0, .int .i64 0, .int .i64 0, .bool false]) (t := 30) ?hr ?_; (case hd => rfl); (case hg => rfl); (case hr => first | (go_simp; done) | (go_simp; rfl))
                intro gb214 hg w37 hbox hb
                have n0_ := Aside0.mk (blk_below BK179.out hb)
                have n1_ := Aside0.mk (IsS26.below (by exact HI178.out) hb)
                have n2_ := Aside0.mk (below_step (by exact HB.out) hb)
                have n3_ := Aside0.mk (hbox)
                have n4_ := Aside0.mk ((by rw [hg]; exact (below_size (by exact HB.out)) : w.heap.size ≤ gb214))
                have n5_ := Aside0.mk ((by rw [hg]; exact (below_size (by exact HB.out)) : w.heap.size ≤ gb214))
                have n6_ := Aside0.mk ((by rw [hg]; exact Nat.ne_of_lt (blk_lt BK179.out) : gb179 ≠ gb214))
                have n7_ := Aside0.mk ((by rw [hg]; exact Nat.ne_of_gt (blk_lt BK179.out) : gb214 ≠ gb179))
                have n8_ := Aside0.mk ((by rw [hg]; exact Nat.ne_of_lt (IsS26.lt (show IsS26 w _ gb178 l0 t204 from by exact HI178.out)) : gb178 ≠ gb214))
                have n9_ := Aside0.mk ((by rw [hg]; exact Nat.ne_of_gt (IsS26.lt (show IsS26 w _ gb178 l0 t204 from by exact HI178.out)) : gb214 ≠ gb178))
                clear BK179
                clear HI178
                clear HB
                have BK179 := n0_
                have HI178 := n1_
                have HB := n2_
                have BK214 := n3_
                have GW214 := n4_
                have GE214 := n5_
                have NB179_214 := n6_
                have NB214_179 := n7_
                have NB178_214 := n8_
                have NB214_178 := n9_
                clear n0_ n1_ n2_ n3_ n4_ n5_ n6_ n7_ n8_ n9_
                clear hb hbox hg
                refine hK.out _ _ ⟨(blk_cell BK179.out 0).trans rfl, (blk_cell BK179.out 1).trans rfl, (blk_cell BK179.out 2).trans rfl, (blk_cell BK179.out 3).trans rfl, (blk_cell BK179.out 4).trans rfl, (blk_cell BK179.out 5).trans rfl, (blk_cell BK179.out 6).trans rfl, (blk_cell BK179.out 7).trans rfl⟩ (fun hHeld => ?_)
                clear hK K
                refine norm_ (a' := ?_) ?_ ?_
                rotate_left
                · show Act.put _ (some 5) _ = _
                  simp only [Act.put, List.setIfInBounds_toArray, List.set_cons_zero, List.set_cons_succ, i64_w, i32_w]
                  rfl
                refine one_ (i := 4) (N := some 40) #[true, true, true, true, true, false, false, false, true, false, false] rfl rfl (one_of HT_.out (by kernel_rfl)) (by decide) (fun K hK => ?_)
                refine goes_ Try.func11 (by kernel_rfl) rfl #[.agg #[.int .i64 x180000_1, .int .i64 x180001_1, .bool x180002_1, .bool x180003_1, .int .i64 x180004_1, .int .i64 x180005_1, .int .i64 x180006_1, .bool x180007_1], .bool false, .bool (t203 == 0)] (by rfl) rfl rfl (by (try simp only [List.map_toArray, List.map_cons, List.map_nil]); first | done | rfl | (simp only [List.length_drop, List.length_take]; rfl)) ?_
                with_reducible refine (dome_Set.calls k1 x180000_1 x180001_1 x180002_1 x180003_1 x180004_1 x180005_1 x180006_1 x180007_1 false (t203 == 0) t205 t206 t207 t208 t209 t210 t211 t212 t213 _ A33.out).mono ?_
                rintro e w38 ⟨rfl, hb⟩
                refine ⟨_, rfl, ?_⟩
                have n0_ := Aside0.mk (blk_below BK179.out hb)
                have n1_ := Aside0.mk (IsS26.below (by exact HI178.out) hb)
                have n2_ := Aside0.mk (blk_below BK214.out hb)
                have n3_ := Aside0.mk (below_step (by exact HB.out) hb)
                clear BK179
                clear HI178
                clear BK214
                clear HB
                have BK179 := n0_
                have HI178 := n1_
                have BK214 := n2_
                have HB := n3_
                clear n0_ n1_ n2_ n3_
                (try clear hb)
                (try clear hb2)
                (try clear hk)
                (try clear hi)
                refine hK.out _ _ ⟨(blk_cell BK179.out 0).trans rfl, (blk_cell BK179.out 1).trans rfl, (blk_cell BK179.out 2).trans rfl, (blk_cell BK179.out 3).trans rfl, (blk_cell BK179.out 4).trans rfl, (blk_cell BK179.out 5).trans rfl, (blk_cell BK179.out 6).trans rfl, (blk_cell BK179.out 7).trans rfl⟩ (fun hHeld => ?_)
                clear hK K
                refine norm_ (a' := ?_) ?_ ?_
                rotate_left
                · show Act.put _ (some 40) _ = _
                  simp only [Act.put, List.setIfInBounds_toArray, List.set_cons_zero, List.set_cons_succ, i64_w, i32_w]
                  rfl
                refine pure_ (i := 5) (N := some 35) (v := ?_) (a' := ?_) #[true, true, true, true, true, true, false, false, true, false, false] rfl rfl (any_of HT_.out (by kernel_rfl)) (fun _ _ _ h => h) (Or.inl ⟨by rfl, ?_⟩) ?_ ?_
                rotate_left
                · intro w'
                  go_simp
                  with_reducible rfl
                rotate_left
                · simp only [Act.put, List.setIfInBounds_toArray, List.set_cons_zero, List.set_cons_succ, i64_w, i32_w]
                  rfl
                refine pure_ (i := 6) (N := some 41) (v := ?_) (a' := ?_) #[true, true, true, true, true, true, true, false, true, false, false] rfl rfl (any_of HT_.out (by kernel_rfl)) (fun _ _ _ h => h) (Or.inl ⟨by rfl, ?_⟩) ?_ ?_
                rotate_left
                · intro w'
                  go_simp
                  with_reducible rfl
                rotate_left
                · simp only [Act.put, List.setIfInBounds_toArray, List.set_cons_zero, List.set_cons_succ, i64_w, i32_w]
                  rfl
                refine pure_ (i := 7) (N := some 42) (v := ?_) (a' := ?_) #[true, true, true, true, true, true, true, true, true, false, false] rfl rfl (any_of HT_.out (by kernel_rfl)) (fun _ _ _ h => h) (Or.inl ⟨by rfl, ?_⟩) ?_ ?_
                rotate_left
                · intro w'
                  go_simp
                  with_reducible rfl
                rotate_left
                · simp only [Act.put, List.setIfInBounds_toArray, List.set_cons_zero, List.set_cons_succ, i64_w, i32_w]
                  rfl
                exact norm_ (by simp only [putAll, Act.put, List.setIfInBounds_toArray, List.set_cons_zero, List.set_cons_succ]) (hCont (gb214) _ ⟨hHeld, (by exact BK179.out), (by exact BK214.out), GW214.out, GE214.out, NB178_214.out, NB214_178.out, NB179_214.out, NB214_179.out, (by exact HI178.out), (by exact HB.out)⟩)
            · skip
              refine box_step ?hg (N := 5) ?hd (cs := #[.int .i64 0, .int .i64 0, .bool false, .bool false, .int .i64 0, .int .i64 0, .int .i64 0, .bool false]) (t := 30) ?hr ?_; (case hd => rfl); (case hg => rfl); (case hr => first | (go_simp; done) | (go_simp; rfl))
              intro gb214 hg w36 hbox hb
              have n0_ := Aside0.mk (blk_below BK179.out hb)
              have n1_ := Aside0.mk (IsS26.below (by exact HI178.out) hb)
              have n2_ := Aside0.mk (below_step (by exact HB.out) hb)
              have n3_ := Aside0.mk (hbox)
              have n4_ := Aside0.mk ((by rw [hg]; exact (below_size (by exact HB.out)) : w.heap.size ≤ gb214))
              have n5_ := Aside0.mk ((by rw [hg]; exact (below_size (by exact HB.out)) : w.heap.size ≤ gb214))
              have n6_ := Aside0.mk ((by rw [hg]; exact Nat.ne_of_lt (blk_lt BK179.out) : gb179 ≠ gb214))
              have n7_ := Aside0.mk ((by rw [hg]; exact Nat.ne_of_gt (blk_lt BK179.out) : gb214 ≠ gb179))
              have n8_ := Aside0.mk ((by rw [hg]; exact Nat.ne_of_lt (IsS26.lt (show IsS26 w _ gb178 l0 x179001_1 from by exact HI178.out)) : gb178 ≠ gb214))
              have n9_ := Aside0.mk ((by rw [hg]; exact Nat.ne_of_gt (IsS26.lt (show IsS26 w _ gb178 l0 x179001_1 from by exact HI178.out)) : gb214 ≠ gb178))
              clear BK179
              clear HI178
              clear HB
              have BK179 := n0_
              have HI178 := n1_
              have HB := n2_
              have BK214 := n3_
              have GW214 := n4_
              have GE214 := n5_
              have NB179_214 := n6_
              have NB214_179 := n7_
              have NB178_214 := n8_
              have NB214_178 := n9_
              clear n0_ n1_ n2_ n3_ n4_ n5_ n6_ n7_ n8_ n9_
              clear hb hbox hg
              refine hK.out _ _ ⟨(blk_cell BK179.out 0).trans rfl, (blk_cell BK179.out 1).trans rfl, (blk_cell BK179.out 2).trans rfl, (blk_cell BK179.out 3).trans rfl, (blk_cell BK179.out 4).trans rfl, (blk_cell BK179.out 5).trans rfl, (blk_cell BK179.out 6).trans rfl, (blk_cell BK179.out 7).trans rfl⟩ (fun hHeld => ?_)
              clear hK K
              refine norm_ (a' := ?_) ?_ ?_
              rotate_left
              · show Act.put _ (some 5) _ = _
                simp only [Act.put, List.setIfInBounds_toArray, List.set_cons_zero, List.set_cons_succ, i64_w, i32_w]
                rfl
              refine one_ (i := 2) (N := some 38) #[true, true, true, false, false, false, false, false, true, false, false] rfl rfl (one_of HT_.out (by kernel_rfl)) (by decide) (fun K hK => ?_)
              refine goes_ Try.func12 (by kernel_rfl) rfl #[.pointer (some ⟨gb178, 0, none⟩), .int .i64 2] (by rfl) rfl rfl (by (try simp only [List.map_toArray, List.map_cons, List.map_nil]); first | done | rfl | (simp only [List.length_drop, List.length_take]; rfl)) ?_
              with_reducible refine (spymake_Stream_Next.calls gb178 l0 x179001_1 2 t203 t204 w _ ?side1 ?side2 A32.out).mono ?_
              (case side1 => exact HI178.out)
              (case side2 => exact HB.out)
              rintro e w37 ⟨rfl, hi, hb, hk⟩
              refine ⟨_, rfl, ?_⟩
              have n0_ := Aside0.mk (KeepBut.blk hk BK179.out NB179_178.out (by simp))
              have n1_ := Aside0.mk (KeepBut.blk hk BK214.out NB214_178.out (by simp))
              have n2_ := Aside0.mk (hb)
              have n3_ := Aside0.mk (hi)
              clear BK179
              clear BK214
              clear HB
              clear HI178
              have BK179 := n0_
              have BK214 := n1_
              have HB := n2_
              have HI178 := n3_
              clear n0_ n1_ n2_ n3_
              (try clear hb)
              (try clear hb2)
              (try clear hk)
              (try clear hi)
              refine hK.out _ _ ⟨(blk_cell BK179.out 0).trans rfl, (blk_cell BK179.out 1).trans rfl, (blk_cell BK179.out 2).trans rfl, (blk_cell BK179.out 3).trans rfl, (blk_cell BK179.out 4).trans rfl, (blk_cell BK179.out 5).trans rfl, (blk_cell BK179.out 6).trans rfl, (blk_cell BK179.out 7).trans rfl⟩ (fun hHeld => ?_)
              clear hK K
              refine norm_ (a' := ?_) ?_ ?_
              rotate_left
              · show Act.put _ (some 38) _ = _
                simp only [Act.put, List.setIfInBounds_toArray, List.set_cons_zero, List.set_cons_succ, i64_w, i32_w]
                rfl
              refine pure_ (i := 3) (N := some 39) (v := ?_) (a' := ?_) #[true, true, true, true, false, false, false, false, true, false, false] rfl rfl (any_of HT_.out (by kernel_rfl)) (fun _ _ _ h => h) (Or.inl ⟨by rfl, ?_⟩) ?_ ?_
              rotate_left
              · intro w'
                go_simp
                with_reducible rfl
              rotate_left
              · simp only [Act.put, List.setIfInBounds_toArray, List.set_cons_zero, List.set_cons_succ, i64_w, i32_w]
                rfl
              refine one_ (i := 4) (N := some 40) #[true, true, true, true, true, false, false, false, true, false, false] rfl rfl (one_of HT_.out (by kernel_rfl)) (by decide) (fun K hK => ?_)
              refine goes_ Try.func11 (by kernel_rfl) rfl #[.agg #[.int .i64 x180000_1, .int .i64 x180001_1, .bool x180002_1, .bool x180003_1, .int .i64 x180004_1, .int .i64 x180005_1, .int .i64 x180006_1, .bool x180007_1], .bool false, .bool (t203 == 0)] (by rfl) rfl rfl (by (try simp only [List.map_toArray, List.map_cons, List.map_nil]); first | done | rfl | (simp only [List.length_drop, List.length_take]; rfl)) ?_
              with_reducible refine (dome_Set.calls k1 x180000_1 x180001_1 x180002_1 x180003_1 x180004_1 x180005_1 x180006_1 x180007_1 false (t203 == 0) t205 t206 t207 t208 t209 t210 t211 t212 t213 _ A33.out).mono ?_
              rintro e w38 ⟨rfl, hb⟩
              refine ⟨_, rfl, ?_⟩
              have n0_ := Aside0.mk (blk_below BK179.out hb)
              have n1_ := Aside0.mk (IsS26.below (by exact HI178.out) hb)
              have n2_ := Aside0.mk (blk_below BK214.out hb)
              have n3_ := Aside0.mk (below_step (by exact HB.out) hb)
              clear BK179
              clear HI178
              clear BK214
              clear HB
              have BK179 := n0_
              have HI178 := n1_
              have BK214 := n2_
              have HB := n3_
              clear n0_ n1_ n2_ n3_
              (try clear hb)
              (try clear hb2)
              (try clear hk)
              (try clear hi)
              refine hK.out _ _ ⟨(blk_cell BK179.out 0).trans rfl, (blk_cell BK179.out 1).trans rfl, (blk_cell BK179.out 2).trans rfl, (blk_cell BK179.out 3).trans rfl, (blk_cell BK179.out 4).trans rfl, (blk_cell BK179.out 5).trans rfl, (blk_cell BK179.out 6).trans rfl, (blk_cell BK179.out 7).trans rfl⟩ (fun hHeld => ?_)
              clear hK K
              refine norm_ (a' := ?_) ?_ ?_
              rotate_left
              · show Act.put _ (some 40) _ = _
                simp only [Act.put, List.setIfInBounds_toArray, List.set_cons_zero, List.set_cons_succ, i64_w, i32_w]
                rfl
              refine pure_ (i := 5) (N := some 35) (v := ?_) (a' := ?_) #[true, true, true, true, true, true, false, false, true, false, false] rfl rfl (any_of HT_.out (by kernel_rfl)) (fun _ _ _ h => h) (Or.inl ⟨by rfl, ?_⟩) ?_ ?_
              rotate_left
              · intro w'
                go_simp
                with_reducible rfl
              rotate_left
              · simp only [Act.put, List.setIfInBounds_toArray, List.set_cons_zero, List.set_cons_succ, i64_w, i32_w]
                rfl
              refine pure_ (i := 6) (N := some 41) (v := ?_) (a' := ?_) #[true, true, true, true, true, true, true, false, true, false, false] rfl rfl (any_of HT_.out (by kernel_rfl)) (fun _ _ _ h => h) (Or.inl ⟨by rfl, ?_⟩) ?_ ?_
              rotate_left
              · intro w'
                go_simp
                with_reducible rfl
              rotate_left
              · simp only [Act.put, List.setIfInBounds_toArray, List.set_cons_zero, List.set_cons_succ, i64_w, i32_w]
                rfl
              refine pure_ (i := 7) (N := some 42) (v := ?_) (a' := ?_) #[true, true, true, true, true, true, true, true, true, false, false] rfl rfl (any_of HT_.out (by kernel_rfl)) (fun _ _ _ h => h) (Or.inl ⟨by rfl, ?_⟩) ?_ ?_
              rotate_left
              · intro w'
                go_simp
                with_reducible rfl
              rotate_left
              · simp only [Act.put, List.setIfInBounds_toArray, List.set_cons_zero, List.set_cons_succ, i64_w, i32_w]
                rfl
              exact norm_ (by simp only [putAll, Act.put, List.setIfInBounds_toArray, List.set_cons_zero, List.set_cons_succ]) (hCont (gb214) _ ⟨hHeld, (by exact BK179.out), (by exact BK214.out), GW214.out, GE214.out, NB178_214.out, NB214_178.out, NB179_214.out, NB214_179.out, (by exact HI178.out), (by exact HB.out)⟩)
          rintro gb214 w39 ⟨hS_, h0_, h1_, h2_, h3_, h4_, h5_, h6_, h7_, h8_, h9_⟩
          have n0_ : Aside0 (w39.heap[gb179]? = some (.cells #[.int .i64 x180000_1, .int .i64 x180001_1, .bool x180002_1, .bool x180003_1, .int .i64 x180004_1, .int .i64 x180005_1, .int .i64 x180006_1, .bool x180007_1] 30 (0, 0))) := ⟨h0_⟩
          have n1_ : Aside0 (w39.heap[gb214]? = some (.cells #[.int .i64 0, .int .i64 0, .bool false, .bool false, .int .i64 0, .int .i64 0, .int .i64 0, .bool false] 30 (0, 0))) := ⟨h1_⟩
          have n2_ : Aside0 (w.heap.size ≤ gb214) := ⟨h2_⟩
          have n3_ : Aside0 (w.heap.size ≤ gb214) := ⟨h3_⟩
          have n4_ : Aside0 (gb178 ≠ gb214) := ⟨h4_⟩
          have n5_ : Aside0 (gb214 ≠ gb178) := ⟨h5_⟩
          have n6_ : Aside0 (gb179 ≠ gb214) := ⟨h6_⟩
          have n7_ : Aside0 (gb214 ≠ gb179) := ⟨h7_⟩
          have n8_ : Aside0 (IsS26 w w39 gb178 l0 t204) := ⟨h8_⟩
          have n9_ : Aside0 (Below w.heap.size w w39) := ⟨h9_⟩
          clear BK179
          clear HI178
          clear HB
          clear h0_ h1_ h2_ h3_ h4_ h5_ h6_ h7_ h8_ h9_
          have BK179 := n0_
          have BK214 := n1_
          have GW214 := n2_
          have GE214 := n3_
          have NB178_214 := n4_
          have NB214_178 := n5_
          have NB179_214 := n6_
          have NB214_179 := n7_
          have HI178 := n8_
          have HB := n9_
          clear n0_ n1_ n2_ n3_ n4_ n5_ n6_ n7_ n8_ n9_
          have hHeld : w39.cell? ⟨gb179, 0, none⟩ = some (.int .i64 x180000_1) ∧ w39.cell? ⟨gb179, 1, none⟩ = some (.int .i64 x180001_1) ∧ w39.cell? ⟨gb179, 2, none⟩ = some (.bool x180002_1) ∧ w39.cell? ⟨gb179, 3, none⟩ = some (.bool x180003_1) ∧ w39.cell? ⟨gb179, 4, none⟩ = some (.int .i64 x180004_1) ∧ w39.cell? ⟨gb179, 5, none⟩ = some (.int .i64 x180005_1) ∧ w39.cell? ⟨gb179, 6, none⟩ = some (.int .i64 x180006_1) ∧ w39.cell? ⟨gb179, 7, none⟩ = some (.bool x180007_1) := hS_
          refine norm_ (a' := ?_) ?_ ?_
          rotate_left
          · simp only [putAll, Act.put, List.setIfInBounds_toArray, List.set_cons_zero, List.set_cons_succ]
            rfl
          refine one_ (i := 9) (N := none) #[true, true, true, true, true, true, true, true, true, true, false] rfl rfl (one_of HT_.out (by kernel_rfl)) (by decide) (fun K hK => ?_)
          have hs40 : w39.cell? ⟨gb214, 0, none⟩ = some (.int .i64 0) := (blk_cell BK214.out 0).trans rfl
          have hfs40 := blk_frozen BK214.out 0
          have hns40_0 := NB179_214.out
          have hms40_0 := NB214_179.out
          have hs41 : w39.cell? ⟨gb214, 1, none⟩ = some (.int .i64 0) := (blk_cell BK214.out 1).trans rfl
          have hfs41 := blk_frozen BK214.out 1
          have hns41_0 := NB179_214.out
          have hms41_0 := NB214_179.out
          have hs42 : w39.cell? ⟨gb214, 2, none⟩ = some (.bool false) := (blk_cell BK214.out 2).trans rfl
          have hfs42 := blk_frozen BK214.out 2
          have hns42_0 := NB179_214.out
          have hms42_0 := NB214_179.out
          have hs43 : w39.cell? ⟨gb214, 3, none⟩ = some (.bool false) := (blk_cell BK214.out 3).trans rfl
          have hfs43 := blk_frozen BK214.out 3
          have hns43_0 := NB179_214.out
          have hms43_0 := NB214_179.out
          have hs44 : w39.cell? ⟨gb214, 4, none⟩ = some (.int .i64 0) := (blk_cell BK214.out 4).trans rfl
          have hfs44 := blk_frozen BK214.out 4
          have hns44_0 := NB179_214.out
          have hms44_0 := NB214_179.out
          have hs45 : w39.cell? ⟨gb214, 5, none⟩ = some (.int .i64 0) := (blk_cell BK214.out 5).trans rfl
          have hfs45 := blk_frozen BK214.out 5
          have hns45_0 := NB179_214.out
          have hms45_0 := NB214_179.out
          have hs46 : w39.cell? ⟨gb214, 6, none⟩ = some (.int .i64 0) := (blk_cell BK214.out 6).trans rfl
          have hfs46 := blk_frozen BK214.out 6
          have hns46_0 := NB179_214.out
          have hms46_0 := NB214_179.out
          have hs47 : w39.cell? ⟨gb214, 7, none⟩ = some (.bool false) := (blk_cell BK214.out 7).trans rfl
          have hfs47 := blk_frozen BK214.out 7
          have hns47_0 := NB179_214.out
          have hms47_0 := NB214_179.out
          refine skip_ (w1 := ?_) (by rfl) rfl ?_ ?_
          rotate_left
          · go_simp
            rfl
          refine hK.out _ _ ⟨((cell_far (p := ⟨gb214, _, none⟩) NB179_214.out _).trans (((cell_far (p := ⟨gb214, _, none⟩) NB179_214.out _).trans (((cell_far (p := ⟨gb214, _, none⟩) NB179_214.out _).trans (((cell_far (p := ⟨gb214, _, none⟩) NB179_214.out _).trans (((cell_far (p := ⟨gb214, _, none⟩) NB179_214.out _).trans (((cell_far (p := ⟨gb214, _, none⟩) NB179_214.out _).trans (((cell_far (p := ⟨gb214, _, none⟩) NB179_214.out _).trans (((cell_far (p := ⟨gb214, _, none⟩) NB179_214.out _).trans (hHeld.1)))))))))))))))), ((cell_far (p := ⟨gb214, _, none⟩) NB179_214.out _).trans (((cell_far (p := ⟨gb214, _, none⟩) NB179_214.out _).trans (((cell_far (p := ⟨gb214, _, none⟩) NB179_214.out _).trans (((cell_far (p := ⟨gb214, _, none⟩) NB179_214.out _).trans (((cell_far (p := ⟨gb214, _, none⟩) NB179_214.out _).trans (((cell_far (p := ⟨gb214, _, none⟩) NB179_214.out _).trans (((cell_far (p := ⟨gb214, _, none⟩) NB179_214.out _).trans (((cell_far (p := ⟨gb214, _, none⟩) NB179_214.out _).trans (hHeld.2.1)))))))))))))))), ((cell_far (p := ⟨gb214, _, none⟩) NB179_214.out _).trans (((cell_far (p := ⟨gb214, _, none⟩) NB179_214.out _).trans (((cell_far (p := ⟨gb214, _, none⟩) NB179_214.out _).trans (((cell_far (p := ⟨gb214, _, none⟩) NB179_214.out _).trans (((cell_far (p := ⟨gb214, _, none⟩) NB179_214.out _).trans (((cell_far (p := ⟨gb214, _, none⟩) NB179_214.out _).trans (((cell_far (p := ⟨gb214, _, none⟩) NB179_214.out _).trans (((cell_far (p := ⟨gb214, _, none⟩) NB179_214.out _).trans (hHeld.2.2.1)))))))))))))))), ((cell_far (p := ⟨gb214, _, none⟩) NB179_214.out _).trans (((cell_far (p := ⟨gb214, _, none⟩) NB179_214.out _).trans (((cell_far (p := ⟨gb214, _, none⟩) NB179_214.out _).trans (((cell_far (p := ⟨gb214, _, none⟩) NB179_214.out _).trans (((cell_far (p := ⟨gb214, _, none⟩) NB179_214.out _).trans (((cell_far (p := ⟨gb214, _, none⟩) NB179_214.out _).trans (((cell_far (p := ⟨gb214, _, none⟩) NB179_214.out _).trans (((cell_far (p := ⟨gb214, _, none⟩) NB179_214.out _).trans (hHeld.2.2.2.1)))))))))))))))), ((cell_far (p := ⟨gb214, _, none⟩) NB179_214.out _).trans (((cell_far (p := ⟨gb214, _, none⟩) NB179_214.out _).trans (((cell_far (p := ⟨gb214, _, none⟩) NB179_214.out _).trans (((cell_far (p := ⟨gb214, _, none⟩) NB179_214.out _).trans (((cell_far (p := ⟨gb214, _, none⟩) NB179_214.out _).trans (((cell_far (p := ⟨gb214, _, none⟩) NB179_214.out _).trans (((cell_far (p := ⟨gb214, _, none⟩) NB179_214.out _).trans (((cell_far (p := ⟨gb214, _, none⟩) NB179_214.out _).trans (hHeld.2.2.2.2.1)))))))))))))))), ((cell_far (p := ⟨gb214, _, none⟩) NB179_214.out _).trans (((cell_far (p := ⟨gb214, _, none⟩) NB179_214.out _).trans (((cell_far (p := ⟨gb214, _, none⟩) NB179_214.out _).trans (((cell_far (p := ⟨gb214, _, none⟩) NB179_214.out _).trans (((cell_far (p := ⟨gb214, _, none⟩) NB179_214.out _).trans (((cell_far (p := ⟨gb214, _, none⟩) NB179_214.out _).trans (((cell_far (p := ⟨gb214, _, none⟩) NB179_214.out _).trans (((cell_far (p := ⟨gb214, _, none⟩) NB179_214.out _).trans (hHeld.2.2.2.2.2.1)))))))))))))))), ((cell_far (p := ⟨gb214, _, none⟩) NB179_214.out _).trans (((cell_far (p := ⟨gb214, _, none⟩) NB179_214.out _).trans (((cell_far (p := ⟨gb214, _, none⟩) NB179_214.out _).trans (((cell_far (p := ⟨gb214, _, none⟩) NB179_214.out _).trans (((cell_far (p := ⟨gb214, _, none⟩) NB179_214.out _).trans (((cell_far (p := ⟨gb214, _, none⟩) NB179_214.out _).trans (((cell_far (p := ⟨gb214, _, none⟩) NB179_214.out _).trans (((cell_far (p := ⟨gb214, _, none⟩) NB179_214.out _).trans (hHeld.2.2.2.2.2.2.1)))))))))))))))), ((cell_far (p := ⟨gb214, _, none⟩) NB179_214.out _).trans (((cell_far (p := ⟨gb214, _, none⟩) NB179_214.out _).trans (((cell_far (p := ⟨gb214, _, none⟩) NB179_214.out _).trans (((cell_far (p := ⟨gb214, _, none⟩) NB179_214.out _).trans (((cell_far (p := ⟨gb214, _, none⟩) NB179_214.out _).trans (((cell_far (p := ⟨gb214, _, none⟩) NB179_214.out _).trans (((cell_far (p := ⟨gb214, _, none⟩) NB179_214.out _).trans (((cell_far (p := ⟨gb214, _, none⟩) NB179_214.out _).trans (hHeld.2.2.2.2.2.2.2))))))))))))))))⟩ (fun hHeld => ?_)
          clear hK K
          refine pure_ (i := 10) (N := some 6) (v := ?_) (a' := ?_) #[true, true, true, true, true, true, true, true, true, true, true] rfl rfl (any_of HT_.out (by kernel_rfl)) (fun _ _ _ h => h) (Or.inl ⟨by rfl, ?_⟩) ?_ ?_
          rotate_left
          · intro w'
            go_simp
            with_reducible rfl
          rotate_left
          · simp only [Act.put, List.setIfInBounds_toArray, List.set_cons_zero, List.set_cons_succ, i64_w, i32_w]
            rfl
          refine done_ (done_of HT_.out (by kernel_rfl)) ?_
          have hnb48 := NB179_214.out
          have hnc48 := NB214_179.out
          have hnb49 := NB179_178.out
          have hnc49 := NB178_179.out
          obtain ⟨hcz50_0, hcz50_1, hcz50_2, hcz50_3, hcz50_4, hcz50_5, hcz50_6, hcz50_7, hfz50_0, hfz50_1, hfz50_2, hfz50_3, hfz50_4, hfz50_5, hfz50_6, hfz50_7⟩ := tch8 BK179.out
          try go_wp2_with (first | ((with_reducible refine gate_callee (f := 11) rfl ?_); refine goesL_ (some 45) rfl rfl Try.func11 (by kernel_rfl) rfl #[.agg #[.int .i64 x180000_1, .int .i64 x180001_1, .bool x180002_1, .bool x180003_1, .int .i64 x180004_1, .int .i64 x180005_1, .int .i64 x180006_1, .bool x180007_1], .bool true, .bool true] rfl (by (try simp only [List.map_toArray, List.map_cons, List.map_nil]); first | done | rfl | (simp only [List.length_drop, List.length_take]; rfl)) ?_; (with_reducible refine (dome_Set.calls k1 x180000_1 x180001_1 x180002_1 x180003_1 x180004_1 x180005_1 x180006_1 x180007_1 true true t215 t216 t217 t218 t219 t220 t221 t222 t223 _ A34.out).mono ?_); rintro e w51 ⟨rfl, hb⟩; refine ⟨_, rfl, ?_⟩; have n0_ := Aside0.mk (blk_below (g := gb179) (o := .cells #[.int .i64 x180000_1, .int .i64 x180001_1, .bool x180002_1, .bool x180003_1, .int .i64 x180004_1, .int .i64 x180005_1, .int .i64 x180006_1, .bool x180007_1] 30 (0, 0)) (by (with_reducible repeat (first | refine blk_drewN ?_ _ | refine blk_drew ?_ | refine blk_alloc ?_ _)); refine blk_far ?_ NB179_214.out _; (with_reducible repeat (first | refine blk_drewN ?_ _ | refine blk_drew ?_ | refine blk_alloc ?_ _)); refine blk_far ?_ NB179_214.out _; (with_reducible repeat (first | refine blk_drewN ?_ _ | refine blk_drew ?_ | refine blk_alloc ?_ _)); refine blk_far ?_ NB179_214.out _; (with_reducible repeat (first | refine blk_drewN ?_ _ | refine blk_drew ?_ | refine blk_alloc ?_ _)); refine blk_far ?_ NB179_214.out _; (with_reducible repeat (first | refine blk_drewN ?_ _ | refine blk_drew ?_ | refine blk_alloc ?_ _)); refine blk_far ?_ NB179_214.out _; (with_reducible repeat (first | refine blk_drewN ?_ _ | refine blk_drew ?_ | refine blk_alloc ?_ _)); refine blk_far ?_ NB179_214.out _; (with_reducible repeat (first | refine blk_drewN ?_ _ | refine blk_drew ?_ | refine blk_alloc ?_ _)); refine blk_far ?_ NB179_214.out _; (with_reducible repeat (first | refine blk_drewN ?_ _ | refine blk_drew ?_ | refine blk_alloc ?_ _)); refine blk_far ?_ NB179_214.out _; (with_reducible repeat (first | refine blk_drewN ?_ _ | refine blk_drew ?_ | refine blk_alloc ?_ _)); exact BK179.out) hb); have n1_ := Aside0.mk (IsS26.below (show IsS26 w ((((((((w39.setCell ⟨gb214, 0, none⟩ (.int .i64 t205)).setCell ⟨gb214, 1, none⟩ (.int .i64 t206)).setCell ⟨gb214, 2, none⟩ (.bool t207)).setCell ⟨gb214, 3, none⟩ (.bool t208)).setCell ⟨gb214, 4, none⟩ (.int .i64 t209)).setCell ⟨gb214, 5, none⟩ (.int .i64 t210)).setCell ⟨gb214, 6, none⟩ (.int .i64 t211)).setCell ⟨gb214, 7, none⟩ (.bool t212)) gb178 l0 t204 from by repeat (first | (with_reducible first | exact HI178.out | apply IsS26.alloc | apply IsS26.drewN | apply IsS26.drew | apply IsS26.set_1 | refine IsS26.far ?_ NB178_179.out _ | refine IsS26.far ?_ NB178_214.out _) | exact HI178.out)) hb); have n2_ := Aside0.mk (blk_below (g := gb214) (o := .cells #[.int .i64 t205, .int .i64 t206, .bool t207, .bool t208, .int .i64 t209, .int .i64 t210, .int .i64 t211, .bool t212] 30 (0, 0)) (by (with_reducible repeat (first | refine blk_drewN ?_ _ | refine blk_drew ?_ | refine blk_alloc ?_ _)); refine blk_put (cs := #[.int .i64 t205, .int .i64 t206, .bool t207, .bool t208, .int .i64 t209, .int .i64 t210, .int .i64 t211, .bool false]) ?_ 7 _ rfl; (with_reducible repeat (first | refine blk_drewN ?_ _ | refine blk_drew ?_ | refine blk_alloc ?_ _)); refine blk_put (cs := #[.int .i64 t205, .int .i64 t206, .bool t207, .bool t208, .int .i64 t209, .int .i64 t210, .int .i64 0, .bool false]) ?_ 6 _ rfl; (with_reducible repeat (first | refine blk_drewN ?_ _ | refine blk_drew ?_ | refine blk_alloc ?_ _)); refine blk_put (cs := #[.int .i64 t205, .int .i64 t206, .bool t207, .bool t208, .int .i64 t209, .int .i64 0, .int .i64 0, .bool false]) ?_ 5 _ rfl; (with_reducible repeat (first | refine blk_drewN ?_ _ | refine blk_drew ?_ | refine blk_alloc ?_ _)); refine blk_put (cs := #[.int .i64 t205, .int .i64 t206, .bool t207, .bool t208, .int .i64 0, .int .i64 0, .int .i64 0, .bool false]) ?_ 4 _ rfl; (with_reducible repeat (first | refine blk_drewN ?_ _ | refine blk_drew ?_ | refine blk_alloc ?_ _)); refine blk_put (cs := #[.int .i64 t205, .int .i64 t206, .bool t207, .bool false, .int .i64 0, .int .i64 0, .int .i64 0, .bool false]) ?_ 3 _ rfl; (with_reducible repeat (first | refine blk_drewN ?_ _ | refine blk_drew ?_ | refine blk_alloc ?_ _)); refine blk_put (cs := #[.int .i64 t205, .int .i64 t206, .bool false, .bool false, .int .i64 0, .int .i64 0, .int .i64 0, .bool false]) ?_ 2 _ rfl; (with_reducible repeat (first | refine blk_drewN ?_ _ | refine blk_drew ?_ | refine blk_alloc ?_ _)); refine blk_put (cs := #[.int .i64 t205, .int .i64 0, .bool false, .bool false, .int .i64 0, .int .i64 0, .int .i64 0, .bool false]) ?_ 1 _ rfl; (with_reducible repeat (first | refine blk_drewN ?_ _ | refine blk_drew ?_ | refine blk_alloc ?_ _)); refine blk_put (cs := #[.int .i64 0, .int .i64 0, .bool false, .bool false, .int .i64 0, .int .i64 0, .int .i64 0, .bool false]) ?_ 0 _ rfl; (with_reducible repeat (first | refine blk_drewN ?_ _ | refine blk_drew ?_ | refine blk_alloc ?_ _)); exact BK214.out) hb); have n3_ := Aside0.mk (below_step (by repeat (first | (with_reducible first | exact HB.out | apply below_alloc | apply pw_below_drewN | apply below_drew1 | refine below_set ?_ (IsS26.ge HI178.out) | refine below_set ?_ GE179.out | refine below_set ?_ GE214.out) | exact HB.out)) hb); clear BK179; clear HI178; clear BK214; clear HB; have BK179 := n0_; have HI178 := n1_; have BK214 := n2_; have HB := n3_; clear n0_ n1_ n2_ n3_; (try clear hb); (try clear hb2); (try clear hk); (try clear hi)) | ((with_reducible refine gate_dst (N := 7) rfl ?_); refine box_event ?hg (N := 7) ?hd (cs := #[.int .i64 0, .int .i64 0, .bool false, .bool false, .int .i64 0, .int .i64 0, .int .i64 0, .bool false]) (t := 30) ?hr ?_; (case hd => rfl); (case hg => rfl); (case hr => first | (go_simp; done) | (go_simp; rfl)); intro gb224 hg w52 hbox hb; have n0_ := Aside0.mk (blk_below BK179.out hb); have n1_ := Aside0.mk (IsS26.below (by exact HI178.out) hb); have n2_ := Aside0.mk (blk_below BK214.out hb); have n3_ := Aside0.mk (below_step (by exact HB.out) hb); have n4_ := Aside0.mk (hbox); have n5_ := Aside0.mk ((by rw [hg]; exact (below_size (by exact HB.out)) : w.heap.size ≤ gb224)); have n6_ := Aside0.mk ((by rw [hg]; exact (below_size (by exact HB.out)) : w.heap.size ≤ gb224)); have n7_ := Aside0.mk ((by rw [hg]; exact Nat.ne_of_lt (blk_lt BK179.out) : gb179 ≠ gb224)); have n8_ := Aside0.mk ((by rw [hg]; exact Nat.ne_of_gt (blk_lt BK179.out) : gb224 ≠ gb179)); have n9_ := Aside0.mk ((by rw [hg]; exact Nat.ne_of_lt (blk_lt BK214.out) : gb214 ≠ gb224)); have n10_ := Aside0.mk ((by rw [hg]; exact Nat.ne_of_gt (blk_lt BK214.out) : gb224 ≠ gb214)); have n11_ := Aside0.mk ((by rw [hg]; exact Nat.ne_of_lt (IsS26.lt (show IsS26 w _ gb178 l0 t204 from by exact HI178.out)) : gb178 ≠ gb224)); have n12_ := Aside0.mk ((by rw [hg]; exact Nat.ne_of_gt (IsS26.lt (show IsS26 w _ gb178 l0 t204 from by exact HI178.out)) : gb224 ≠ gb178)); clear BK179; clear HI178; clear BK214; clear HB; have BK179 := n0_; have HI178 := n1_; have BK214 := n2_; have HB := n3_; have BK224 := n4_; have GW224 := n5_; have GE224 := n6_; have NB179_224 := n7_; have NB224_179 := n8_; have NB214_224 := n9_; have NB224_214 := n10_; have NB178_224 := n11_; have NB224_178 := n12_; clear n0_ n1_ n2_ n3_ n4_ n5_ n6_ n7_ n8_ n9_ n10_ n11_ n12_; clear hb hbox hg; have hnb53 := NB224_179.out; have hnc53 := NB179_224.out; have hnb54 := NB224_214.out; have hnc54 := NB214_224.out; have hnb55 := NB224_178.out; have hnc55 := NB178_224.out; obtain ⟨hcz56_0, hcz56_1, hcz56_2, hcz56_3, hcz56_4, hcz56_5, hcz56_6, hcz56_7, hfz56_0, hfz56_1, hfz56_2, hfz56_3, hfz56_4, hfz56_5, hfz56_6, hfz56_7⟩ := tch8 BK224.out) | ((with_reducible refine gate_store (t := 30) (p := 7) rfl ?_); refine store_event (t := 30) (p := 7) (v := ?vo_w57) (w1 := ((((((((w52.setCell ⟨gb224, 0, none⟩ (.int .i64 t215)).setCell ⟨gb224, 1, none⟩ (.int .i64 t216)).setCell ⟨gb224, 2, none⟩ (.bool t217)).setCell ⟨gb224, 3, none⟩ (.bool t218)).setCell ⟨gb224, 4, none⟩ (.int .i64 t219)).setCell ⟨gb224, 5, none⟩ (.int .i64 t220)).setCell ⟨gb224, 6, none⟩ (.int .i64 t221)).setCell ⟨gb224, 7, none⟩ (.bool t222))) ?hg ?ho ?hn ?hr ?_; (case ho => rfl); (case hg => rfl); (case hn => rfl); (case hr => first | (go_simp; done) | (go_simp; rfl)); intro w57 hw; have n0_ : Aside0 (w57.heap[gb179]? = some (.cells #[.int .i64 x180000_1, .int .i64 x180001_1, .bool x180002_1, .bool x180003_1, .int .i64 x180004_1, .int .i64 x180005_1, .int .i64 x180006_1, .bool x180007_1] 30 (0, 0))) := ⟨(by rw [hw]; exact (by (with_reducible repeat (first | refine blk_drewN ?_ _ | refine blk_drew ?_ | refine blk_alloc ?_ _)); refine blk_far ?_ NB179_224.out _; (with_reducible repeat (first | refine blk_drewN ?_ _ | refine blk_drew ?_ | refine blk_alloc ?_ _)); refine blk_far ?_ NB179_224.out _; (with_reducible repeat (first | refine blk_drewN ?_ _ | refine blk_drew ?_ | refine blk_alloc ?_ _)); refine blk_far ?_ NB179_224.out _; (with_reducible repeat (first | refine blk_drewN ?_ _ | refine blk_drew ?_ | refine blk_alloc ?_ _)); refine blk_far ?_ NB179_224.out _; (with_reducible repeat (first | refine blk_drewN ?_ _ | refine blk_drew ?_ | refine blk_alloc ?_ _)); refine blk_far ?_ NB179_224.out _; (with_reducible repeat (first | refine blk_drewN ?_ _ | refine blk_drew ?_ | refine blk_alloc ?_ _)); refine blk_far ?_ NB179_224.out _; (with_reducible repeat (first | refine blk_drewN ?_ _ | refine blk_drew ?_ | refine blk_alloc ?_ _)); refine blk_far ?_ NB179_224.out _; (with_reducible repeat (first | refine blk_drewN ?_ _ | refine blk_drew ?_ | refine blk_alloc ?_ _)); refine blk_far ?_ NB179_224.out _; (with_reducible repeat (first | refine blk_drewN ?_ _ | refine blk_drew ?_ | refine blk_alloc ?_ _)); exact BK179.out))⟩; have n1_ : Aside0 (w57.heap[gb214]? = some (.cells #[.int .i64 t205, .int .i64 t206, .bool t207, .bool t208, .int .i64 t209, .int .i64 t210, .int .i64 t211, .bool t212] 30 (0, 0))) := ⟨(by rw [hw]; exact (by (with_reducible repeat (first | refine blk_drewN ?_ _ | refine blk_drew ?_ | refine blk_alloc ?_ _)); refine blk_far ?_ NB214_224.out _; (with_reducible repeat (first | refine blk_drewN ?_ _ | refine blk_drew ?_ | refine blk_alloc ?_ _)); refine blk_far ?_ NB214_224.out _; (with_reducible repeat (first | refine blk_drewN ?_ _ | refine blk_drew ?_ | refine blk_alloc ?_ _)); refine blk_far ?_ NB214_224.out _; (with_reducible repeat (first | refine blk_drewN ?_ _ | refine blk_drew ?_ | refine blk_alloc ?_ _)); refine blk_far ?_ NB214_224.out _; (with_reducible repeat (first | refine blk_drewN ?_ _ | refine blk_drew ?_ | refine blk_alloc ?_ _)); refine blk_far ?_ NB214_224.out _; (with_reducible repeat (first | refine blk_drewN ?_ _ | refine blk_drew ?_ | refine blk_alloc ?_ _)); refine blk_far ?_ NB214_224.out _; (with_reducible repeat (first | refine blk_drewN ?_ _ | refine blk_drew ?_ | refine blk_alloc ?_ _)); refine blk_far ?_ NB214_224.out _; (with_reducible repeat (first | refine blk_drewN ?_ _ | refine blk_drew ?_ | refine blk_alloc ?_ _)); refine blk_far ?_ NB214_224.out _; (with_reducible repeat (first | refine blk_drewN ?_ _ | refine blk_drew ?_ | refine blk_alloc ?_ _)); exact BK214.out))⟩; have n2_ : Aside0 (w57.heap[gb224]? = some (.cells #[.int .i64 t215, .int .i64 t216, .bool t217, .bool t218, .int .i64 t219, .int .i64 t220, .int .i64 t221, .bool t222] 30 (0, 0))) := ⟨(by rw [hw]; exact (by (with_reducible repeat (first | refine blk_drewN ?_ _ | refine blk_drew ?_ | refine blk_alloc ?_ _)); refine blk_put (cs := #[.int .i64 t215, .int .i64 t216, .bool t217, .bool t218, .int .i64 t219, .int .i64 t220, .int .i64 t221, .bool false]) ?_ 7 _ rfl; (with_reducible repeat (first | refine blk_drewN ?_ _ | refine blk_drew ?_ | refine blk_alloc ?_ _)); refine blk_put (cs := #[.int .i64 t215, .int .i64 t216, .bool t217, .bool t218, .int .i64 t219, .int .i64 t220, .int .i64 0, .bool false]) ?_ 6 _ rfl; (with_reducible repeat (first | refine blk_drewN ?_ _ | refine blk_drew ?_ | refine blk_alloc ?_ _)); refine blk_put (cs := #[.int .i64 t215, .int .i64 t216, .bool t217, .bool t218, .int .i64 t219, .int .i64 0, .int .i64 0, .bool false]) ?_ 5 _ rfl; (with_reducible repeat (first | refine blk_drewN ?_ _ | refine blk_drew ?_ | refine blk_alloc ?_ _)); refine blk_put (cs := #[.int .i64 t215, .int .i64 t216, .bool t217, .bool t218, .int .i64 0, .int .i64 0, .int .i64 0, .bool false]) ?_ 4 _ rfl; (with_reducible repeat (first | refine blk_drewN ?_ _ | refine blk_drew ?_ | refine blk_alloc ?_ _)); refine blk_put (cs := #[.int .i64 t215, .int .i64 t216, .bool t217, .bool false, .int .i64 0, .int .i64 0, .int .i64 0, .bool false]) ?_ 3 _ rfl; (with_reducible repeat (first | refine blk_drewN ?_ _ | refine blk_drew ?_ | refine blk_alloc ?_ _)); refine blk_put (cs := #[.int .i64 t215, .int .i64 t216, .bool false, .bool false, .int .i64 0, .int .i64 0, .int .i64 0, .bool false]) ?_ 2 _ rfl; (with_reducible repeat (first | refine blk_drewN ?_ _ | refine blk_drew ?_ | refine blk_alloc ?_ _)); refine blk_put (cs := #[.int .i64 t215, .int .i64 0, .bool false, .bool false, .int .i64 0, .int .i64 0, .int .i64 0, .bool false]) ?_ 1 _ rfl; (with_reducible repeat (first | refine blk_drewN ?_ _ | refine blk_drew ?_ | refine blk_alloc ?_ _)); refine blk_put (cs := #[.int .i64 0, .int .i64 0, .bool false, .bool false, .int .i64 0, .int .i64 0, .int .i64 0, .bool false]) ?_ 0 _ rfl; (with_reducible repeat (first | refine blk_drewN ?_ _ | refine blk_drew ?_ | refine blk_alloc ?_ _)); exact BK224.out))⟩; have n3_ : Aside0 (IsS26 w w57 gb178 l0 t204) := ⟨(by rw [hw]; exact (by repeat (first | (with_reducible first | exact HI178.out | apply IsS26.alloc | apply IsS26.drewN | apply IsS26.drew | apply IsS26.set_1 | refine IsS26.far ?_ NB178_179.out _ | refine IsS26.far ?_ NB178_214.out _ | refine IsS26.far ?_ NB178_224.out _) | exact HI178.out)))⟩; have n4_ : Aside0 (Below w.heap.size w w57) := ⟨(by rw [hw]; exact (by repeat (first | (with_reducible first | exact HB.out | apply below_alloc | apply pw_below_drewN | apply below_drew1 | refine below_set ?_ (IsS26.ge HI178.out) | refine below_set ?_ GE179.out | refine below_set ?_ GE214.out | refine below_set ?_ GE224.out) | exact HB.out)))⟩; clear hw; clear BK179; clear BK214; clear BK224; clear HI178; clear HB; have BK179 := n0_; have BK214 := n1_; have BK224 := n2_; have HI178 := n3_; have HB := n4_; clear n0_ n1_ n2_ n3_ n4_))
          go_loopg [48] k1 (fun kq v48 w' => ∃ (x48_2 : Int) (x215000_2 : Int) (x215001_2 : Int) (x215002_2 : Bool) (x215003_2 : Bool) (x215004_2 : Int) (x215005_2 : Int) (x215006_2 : Int) (x215007_2 : Bool), v48 = .int .i64 x48_2 ∧ Aside0 (spykeep2_DomeCloses.l2 kq t213 t223 x48_2 x215000_2 x215001_2 x215002_2 x215003_2 x215004_2 x215005_2 x215006_2 x215007_2 t215 t216 t217 t218 t219 t220 t221 t222 = some r) ∧ Aside0 (kq ≤ k1) ∧ Aside0 (w'.heap[gb179]? = some (.cells #[.int .i64 x180000_1, .int .i64 x180001_1, .bool x180002_1, .bool x180003_1, .int .i64 x180004_1, .int .i64 x180005_1, .int .i64 x180006_1, .bool x180007_1] 30 (0, 0))) ∧ Aside0 (w'.heap[gb214]? = some (.cells #[.int .i64 x215000_2, .int .i64 x215001_2, .bool x215002_2, .bool x215003_2, .int .i64 x215004_2, .int .i64 x215005_2, .int .i64 x215006_2, .bool x215007_2] 30 (0, 0))) ∧ Aside0 (w'.heap[gb224]? = some (.cells #[.int .i64 t215, .int .i64 t216, .bool t217, .bool t218, .int .i64 t219, .int .i64 t220, .int .i64 t221, .bool t222] 30 (0, 0))) ∧ Aside0 (Below w.heap.size w w'))
          case atStart => exact ⟨(0), (t205), (t206), (t207), (t208), (t209), (t210), (t211), (t212), (by first | rfl | (simp; done) | (simp [*]; done)), H', ⟨Nat.le_refl _⟩, ⟨by exact BK179.out⟩, ⟨by exact BK214.out⟩, ⟨by exact BK224.out⟩, ⟨by exact HB.out⟩⟩
          case round =>
            clear H'
            try clear c1
            try clear c2
            try clear p2
            try clear c3
            try clear c4
            try clear c5
            try clear p6
            try clear c7
            try clear c7b0
            try clear c10
            try clear c11
            try clear c12
            try clear c13
            try clear c25
            try clear c25b0
            try clear c27
            try clear c48
            try clear c49
            try clear c53
            try clear c54
            try clear c55
            try clear hcz28_0
            try clear hcz28_1
            try clear hcz28_2
            try clear hcz28_3
            try clear hcz28_4
            try clear hcz28_5
            try clear hcz28_6
            try clear hcz28_7
            try clear hcz30_0
            try clear hcz30_1
            try clear hcz30_2
            try clear hcz30_3
            try clear hcz30_4
            try clear hcz30_5
            try clear hcz30_6
            try clear hcz30_7
            try clear hcz50_0
            try clear hcz50_1
            try clear hcz50_2
            try clear hcz50_3
            try clear hcz50_4
            try clear hcz50_5
            try clear hcz50_6
            try clear hcz50_7
            try clear hcz56_0
            try clear hcz56_1
            try clear hcz56_2
            try clear hcz56_3
            try clear hcz56_4
            try clear hcz56_5
            try clear hcz56_6
            try clear hcz56_7
            try clear hfz28_0
            try clear hfz28_1
            try clear hfz28_2
            try clear hfz28_3
            try clear hfz28_4
            try clear hfz28_5
            try clear hfz28_6
            try clear hfz28_7
            try clear hfz30_0
            try clear hfz30_1
            try clear hfz30_2
            try clear hfz30_3
            try clear hfz30_4
            try clear hfz30_5
            try clear hfz30_6
            try clear hfz30_7
            try clear hfz50_0
            try clear hfz50_1
            try clear hfz50_2
            try clear hfz50_3
            try clear hfz50_4
            try clear hfz50_5
            try clear hfz50_6
            try clear hfz50_7
            try clear hfz56_0
            try clear hfz56_1
            try clear hfz56_2
            try clear hfz56_3
            try clear hfz56_4
            try clear hfz56_5
            try clear hfz56_6
            try clear hfz56_7
            try clear p2
            obtain ⟨x48_2, x215000_2, x215001_2, x215002_2, x215003_2, x215004_2, x215005_2, x215006_2, x215007_2, rfl, HA, HK2, BK179, BK214, BK224, HB⟩ := hrel
            cases gk with
            | zero => exact absurd HA.out (by simp [spykeep2_DomeCloses.l2])
            | succ k2 =>
              have H := HA.out
              clear HA
              simp only [spykeep2_DomeCloses.l2] at H
              by_cases c58 : x48_2 < 30
              · rw [if_pos c58] at H
                have c58b0 : decide (x48_2 < 30) = true := decide_eq_true c58
                clear c58
                replace H := Option.bind_eq_some_iff.mp H
                obtain ⟨⟨t225, t226, t227, t228, t229, t230, t231, t232⟩, A590, H⟩ := H
                replace H : (spykeep2_DomeCloses.l2 k2 t213 t223 (wrap64 (x48_2 + 1)) t225 t226 t227 t228 t229 t230 t231 t232 t215 t216 t217 t218 t219 t220 t221 t222) = some r := H
                have A59 := Aside0.mk A590
                clear A590
                have H' := Aside0.mk H
                clear H
                have hnb60 := NB214_179.out
                have hnc60 := NB179_214.out
                have hnb61 := NB214_224.out
                have hnc61 := NB224_214.out
                obtain ⟨hcz62_0, hcz62_1, hcz62_2, hcz62_3, hcz62_4, hcz62_5, hcz62_6, hcz62_7, hfz62_0, hfz62_1, hfz62_2, hfz62_3, hfz62_4, hfz62_5, hfz62_6, hfz62_7⟩ := tch8 BK214.out
                go_wp2_with (first | ((with_reducible refine gate_callee (f := 13) rfl ?_); refine goesL_ (some 51) rfl rfl Try.func13 (by kernel_rfl) rfl #[.agg #[.int .i64 x215000_2, .int .i64 x215001_2, .bool x215002_2, .bool x215003_2, .int .i64 x215004_2, .int .i64 x215005_2, .int .i64 x215006_2, .bool x215007_2]] rfl (by (try simp only [List.map_toArray, List.map_cons, List.map_nil]); first | done | rfl | (simp only [List.length_drop, List.length_take]; rfl)) ?_; (with_reducible refine (dome_Step.calls k2 x215000_2 x215001_2 x215002_2 x215003_2 x215004_2 x215005_2 x215006_2 x215007_2 t225 t226 t227 t228 t229 t230 t231 t232 _ A59.out).mono ?_); rintro e w63 ⟨rfl, hb⟩; refine ⟨_, rfl, ?_⟩; have n0_ := Aside0.mk (blk_below BK179.out hb); have n1_ := Aside0.mk (blk_below BK214.out hb); have n2_ := Aside0.mk (blk_below BK224.out hb); have n3_ := Aside0.mk (below_step (by exact HB.out) hb); clear BK179; clear BK214; clear BK224; clear HB; have BK179 := n0_; have BK214 := n1_; have BK224 := n2_; have HB := n3_; clear n0_ n1_ n2_ n3_; (try clear hb); (try clear hb2); (try clear hk); (try clear hi); obtain ⟨hcz64_0, hcz64_1, hcz64_2, hcz64_3, hcz64_4, hcz64_5, hcz64_6, hcz64_7, hfz64_0, hfz64_1, hfz64_2, hfz64_3, hfz64_4, hfz64_5, hfz64_6, hfz64_7⟩ := tch8 BK214.out) | ((with_reducible refine gate_store (t := 30) (p := 5) rfl ?_); refine store_event (t := 30) (p := 5) (v := ?vo_w65) (w1 := ((((((((w63.setCell ⟨gb214, 0, none⟩ (.int .i64 t225)).setCell ⟨gb214, 1, none⟩ (.int .i64 t226)).setCell ⟨gb214, 2, none⟩ (.bool t227)).setCell ⟨gb214, 3, none⟩ (.bool t228)).setCell ⟨gb214, 4, none⟩ (.int .i64 t229)).setCell ⟨gb214, 5, none⟩ (.int .i64 t230)).setCell ⟨gb214, 6, none⟩ (.int .i64 t231)).setCell ⟨gb214, 7, none⟩ (.bool t232))) ?hg ?ho ?hn ?hr ?_; (case ho => rfl); (case hg => rfl); (case hn => rfl); (case hr => first | (go_simp; done) | (go_simp; rfl)); intro w65 hw; have n0_ : Aside0 (w65.heap[gb179]? = some (.cells #[.int .i64 x180000_1, .int .i64 x180001_1, .bool x180002_1, .bool x180003_1, .int .i64 x180004_1, .int .i64 x180005_1, .int .i64 x180006_1, .bool x180007_1] 30 (0, 0))) := ⟨(by rw [hw]; exact (by (with_reducible repeat (first | refine blk_drewN ?_ _ | refine blk_drew ?_ | refine blk_alloc ?_ _)); refine blk_far ?_ NB179_214.out _; (with_reducible repeat (first | refine blk_drewN ?_ _ | refine blk_drew ?_ | refine blk_alloc ?_ _)); refine blk_far ?_ NB179_214.out _; (with_reducible repeat (first | refine blk_drewN ?_ _ | refine blk_drew ?_ | refine blk_alloc ?_ _)); refine blk_far ?_ NB179_214.out _; (with_reducible repeat (first | refine blk_drewN ?_ _ | refine blk_drew ?_ | refine blk_alloc ?_ _)); refine blk_far ?_ NB179_214.out _; (with_reducible repeat (first | refine blk_drewN ?_ _ | refine blk_drew ?_ | refine blk_alloc ?_ _)); refine blk_far ?_ NB179_214.out _; (with_reducible repeat (first | refine blk_drewN ?_ _ | refine blk_drew ?_ | refine blk_alloc ?_ _)); refine blk_far ?_ NB179_214.out _; (with_reducible repeat (first | refine blk_drewN ?_ _ | refine blk_drew ?_ | refine blk_alloc ?_ _)); refine blk_far ?_ NB179_214.out _; (with_reducible repeat (first | refine blk_drewN ?_ _ | refine blk_drew ?_ | refine blk_alloc ?_ _)); refine blk_far ?_ NB179_214.out _; (with_reducible repeat (first | refine blk_drewN ?_ _ | refine blk_drew ?_ | refine blk_alloc ?_ _)); exact BK179.out))⟩; have n1_ : Aside0 (w65.heap[gb214]? = some (.cells #[.int .i64 t225, .int .i64 t226, .bool t227, .bool t228, .int .i64 t229, .int .i64 t230, .int .i64 t231, .bool t232] 30 (0, 0))) := ⟨(by rw [hw]; exact (by (with_reducible repeat (first | refine blk_drewN ?_ _ | refine blk_drew ?_ | refine blk_alloc ?_ _)); refine blk_put (cs := #[.int .i64 t225, .int .i64 t226, .bool t227, .bool t228, .int .i64 t229, .int .i64 t230, .int .i64 t231, .bool x215007_2]) ?_ 7 _ rfl; (with_reducible repeat (first | refine blk_drewN ?_ _ | refine blk_drew ?_ | refine blk_alloc ?_ _)); refine blk_put (cs := #[.int .i64 t225, .int .i64 t226, .bool t227, .bool t228, .int .i64 t229, .int .i64 t230, .int .i64 x215006_2, .bool x215007_2]) ?_ 6 _ rfl; (with_reducible repeat (first | refine blk_drewN ?_ _ | refine blk_drew ?_ | refine blk_alloc ?_ _)); refine blk_put (cs := #[.int .i64 t225, .int .i64 t226, .bool t227, .bool t228, .int .i64 t229, .int .i64 x215005_2, .int .i64 x215006_2, .bool x215007_2]) ?_ 5 _ rfl; (with_reducible repeat (first | refine blk_drewN ?_ _ | refine blk_drew ?_ | refine blk_alloc ?_ _)); refine blk_put (cs := #[.int .i64 t225, .int .i64 t226, .bool t227, .bool t228, .int .i64 x215004_2, .int .i64 x215005_2, .int .i64 x215006_2, .bool x215007_2]) ?_ 4 _ rfl; (with_reducible repeat (first | refine blk_drewN ?_ _ | refine blk_drew ?_ | refine blk_alloc ?_ _)); refine blk_put (cs := #[.int .i64 t225, .int .i64 t226, .bool t227, .bool x215003_2, .int .i64 x215004_2, .int .i64 x215005_2, .int .i64 x215006_2, .bool x215007_2]) ?_ 3 _ rfl; (with_reducible repeat (first | refine blk_drewN ?_ _ | refine blk_drew ?_ | refine blk_alloc ?_ _)); refine blk_put (cs := #[.int .i64 t225, .int .i64 t226, .bool x215002_2, .bool x215003_2, .int .i64 x215004_2, .int .i64 x215005_2, .int .i64 x215006_2, .bool x215007_2]) ?_ 2 _ rfl; (with_reducible repeat (first | refine blk_drewN ?_ _ | refine blk_drew ?_ | refine blk_alloc ?_ _)); refine blk_put (cs := #[.int .i64 t225, .int .i64 x215001_2, .bool x215002_2, .bool x215003_2, .int .i64 x215004_2, .int .i64 x215005_2, .int .i64 x215006_2, .bool x215007_2]) ?_ 1 _ rfl; (with_reducible repeat (first | refine blk_drewN ?_ _ | refine blk_drew ?_ | refine blk_alloc ?_ _)); refine blk_put (cs := #[.int .i64 x215000_2, .int .i64 x215001_2, .bool x215002_2, .bool x215003_2, .int .i64 x215004_2, .int .i64 x215005_2, .int .i64 x215006_2, .bool x215007_2]) ?_ 0 _ rfl; (with_reducible repeat (first | refine blk_drewN ?_ _ | refine blk_drew ?_ | refine blk_alloc ?_ _)); exact BK214.out))⟩; have n2_ : Aside0 (w65.heap[gb224]? = some (.cells #[.int .i64 t215, .int .i64 t216, .bool t217, .bool t218, .int .i64 t219, .int .i64 t220, .int .i64 t221, .bool t222] 30 (0, 0))) := ⟨(by rw [hw]; exact (by (with_reducible repeat (first | refine blk_drewN ?_ _ | refine blk_drew ?_ | refine blk_alloc ?_ _)); refine blk_far ?_ NB224_214.out _; (with_reducible repeat (first | refine blk_drewN ?_ _ | refine blk_drew ?_ | refine blk_alloc ?_ _)); refine blk_far ?_ NB224_214.out _; (with_reducible repeat (first | refine blk_drewN ?_ _ | refine blk_drew ?_ | refine blk_alloc ?_ _)); refine blk_far ?_ NB224_214.out _; (with_reducible repeat (first | refine blk_drewN ?_ _ | refine blk_drew ?_ | refine blk_alloc ?_ _)); refine blk_far ?_ NB224_214.out _; (with_reducible repeat (first | refine blk_drewN ?_ _ | refine blk_drew ?_ | refine blk_alloc ?_ _)); refine blk_far ?_ NB224_214.out _; (with_reducible repeat (first | refine blk_drewN ?_ _ | refine blk_drew ?_ | refine blk_alloc ?_ _)); refine blk_far ?_ NB224_214.out _; (with_reducible repeat (first | refine blk_drewN ?_ _ | refine blk_drew ?_ | refine blk_alloc ?_ _)); refine blk_far ?_ NB224_214.out _; (with_reducible repeat (first | refine blk_drewN ?_ _ | refine blk_drew ?_ | refine blk_alloc ?_ _)); refine blk_far ?_ NB224_214.out _; (with_reducible repeat (first | refine blk_drewN ?_ _ | refine blk_drew ?_ | refine blk_alloc ?_ _)); exact BK224.out))⟩; have n3_ : Aside0 (Below w.heap.size w w65) := ⟨(by rw [hw]; exact (by repeat (first | (with_reducible first | exact HB.out | apply below_alloc | apply pw_below_drewN | apply below_drew1 | refine below_set ?_ GE179.out | refine below_set ?_ GE214.out | refine below_set ?_ GE224.out) | exact HB.out)))⟩; clear hw; clear BK179; clear BK214; clear BK224; clear HB; have BK179 := n0_; have BK214 := n1_; have BK224 := n2_; have HB := n3_; clear n0_ n1_ n2_ n3_))
                go_roundg k2
                case measure => have := HK1.out; have := HK2.out; omega
                case rel => exact ⟨(wrap64 (x48_2 + 1)), (t225), (t226), (t227), (t228), (t229), (t230), (t231), (t232), (by first | rfl | (simp; done) | (simp [*]; done)), H', ⟨by have := HK1.out; have := HK2.out; omega⟩, ⟨by exact BK179.out⟩, ⟨by exact BK214.out⟩, ⟨by exact BK224.out⟩, ⟨by exact HB.out⟩⟩
              · rw [if_neg c58] at H
                have c58b0 : decide (x48_2 < 30) = false := decide_eq_false c58
                clear c58
                have H' := Aside0.mk H
                clear H
                go_wp2
                go_loopg [53] k2 (fun kq v53 w' => ∃ (x53_3 : Int) (x225000_3 : Int) (x225001_3 : Int) (x225002_3 : Bool) (x225003_3 : Bool) (x225004_3 : Int) (x225005_3 : Int) (x225006_3 : Int) (x225007_3 : Bool), v53 = .int .i64 x53_3 ∧ Aside0 (spykeep2_DomeCloses.l3 kq t213 t223 x53_3 x215000_2 x215001_2 x215002_2 x215003_2 x215004_2 x215005_2 x215006_2 x215007_2 x225000_3 x225001_3 x225002_3 x225003_3 x225004_3 x225005_3 x225006_3 x225007_3 = some r) ∧ Aside0 (kq ≤ k2) ∧ Aside0 (w'.heap[gb179]? = some (.cells #[.int .i64 x180000_1, .int .i64 x180001_1, .bool x180002_1, .bool x180003_1, .int .i64 x180004_1, .int .i64 x180005_1, .int .i64 x180006_1, .bool x180007_1] 30 (0, 0))) ∧ Aside0 (w'.heap[gb214]? = some (.cells #[.int .i64 x215000_2, .int .i64 x215001_2, .bool x215002_2, .bool x215003_2, .int .i64 x215004_2, .int .i64 x215005_2, .int .i64 x215006_2, .bool x215007_2] 30 (0, 0))) ∧ Aside0 (w'.heap[gb224]? = some (.cells #[.int .i64 x225000_3, .int .i64 x225001_3, .bool x225002_3, .bool x225003_3, .int .i64 x225004_3, .int .i64 x225005_3, .int .i64 x225006_3, .bool x225007_3] 30 (0, 0))) ∧ Aside0 (Below w.heap.size w w'))
                case atStart => exact ⟨(0), (t215), (t216), (t217), (t218), (t219), (t220), (t221), (t222), (by first | rfl | (simp; done) | (simp [*]; done)), H', ⟨Nat.le_refl _⟩, ⟨by exact BK179.out⟩, ⟨by exact BK214.out⟩, ⟨by exact BK224.out⟩, ⟨by exact HB.out⟩⟩
                case round =>
                  clear H'
                  try clear c1
                  try clear c2
                  try clear p2
                  try clear c3
                  try clear c4
                  try clear c5
                  try clear c6
                  try clear p6
                  try clear c7
                  try clear c7b0
                  try clear c10
                  try clear c11
                  try clear c12
                  try clear c13
                  try clear c25
                  try clear c25b0
                  try clear c27
                  try clear c48
                  try clear c49
                  try clear c53
                  try clear c54
                  try clear c55
                  try clear c58
                  try clear c58b0
                  try clear c60
                  try clear c61
                  try clear p64
                  try clear hcz28_0
                  try clear hcz28_1
                  try clear hcz28_2
                  try clear hcz28_3
                  try clear hcz28_4
                  try clear hcz28_5
                  try clear hcz28_6
                  try clear hcz28_7
                  try clear hcz30_0
                  try clear hcz30_1
                  try clear hcz30_2
                  try clear hcz30_3
                  try clear hcz30_4
                  try clear hcz30_5
                  try clear hcz30_6
                  try clear hcz30_7
                  try clear hcz50_0
                  try clear hcz50_1
                  try clear hcz50_2
                  try clear hcz50_3
                  try clear hcz50_4
                  try clear hcz50_5
                  try clear hcz50_6
                  try clear hcz50_7
                  try clear hcz56_0
                  try clear hcz56_1
                  try clear hcz56_2
                  try clear hcz56_3
                  try clear hcz56_4
                  try clear hcz56_5
                  try clear hcz56_6
                  try clear hcz56_7
                  try clear hcz62_0
                  try clear hcz62_1
                  try clear hcz62_2
                  try clear hcz62_3
                  try clear hcz62_4
                  try clear hcz62_5
                  try clear hcz62_6
                  try clear hcz62_7
                  try clear hcz64_0
                  try clear hcz64_1
                  try clear hcz64_2
                  try clear hcz64_3
                  try clear hcz64_4
                  try clear hcz64_5
                  try clear hcz64_6
                  try clear hcz64_7
                  try clear hfz28_0
                  try clear hfz28_1
                  try clear hfz28_2
                  try clear hfz28_3
                  try clear hfz28_4
                  try clear hfz28_5
                  try clear hfz28_6
                  try clear hfz28_7
                  try clear hfz30_0
                  try clear hfz30_1
                  try clear hfz30_2
                  try clear hfz30_3
                  try clear hfz30_4
                  try clear hfz30_5
                  try clear hfz30_6
                  try clear hfz30_7
                  try clear hfz50_0
                  try clear hfz50_1
                  try clear hfz50_2
                  try clear hfz50_3
                  try clear hfz50_4
                  try clear hfz50_5
                  try clear hfz50_6
                  try clear hfz50_7
                  try clear hfz56_0
                  try clear hfz56_1
                  try clear hfz56_2
                  try clear hfz56_3
                  try clear hfz56_4
                  try clear hfz56_5
                  try clear hfz56_6
                  try clear hfz56_7
                  try clear hfz62_0
                  try clear hfz62_1
                  try clear hfz62_2
                  try clear hfz62_3
                  try clear hfz62_4
                  try clear hfz62_5
                  try clear hfz62_6
                  try clear hfz62_7
                  try clear hfz64_0
                  try clear hfz64_1
                  try clear hfz64_2
                  try clear hfz64_3
                  try clear hfz64_4
                  try clear hfz64_5
                  try clear hfz64_6
                  try clear hfz64_7
                  try clear p2
                  try clear p6
                  obtain ⟨x53_3, x225000_3, x225001_3, x225002_3, x225003_3, x225004_3, x225005_3, x225006_3, x225007_3, rfl, HA, HK3, BK179, BK214, BK224, HB⟩ := hrel
                  cases gk with
                  | zero => exact absurd HA.out (by simp [spykeep2_DomeCloses.l3])
                  | succ k3 =>
                    have H := HA.out
                    clear HA
                    simp only [spykeep2_DomeCloses.l3] at H
                    by_cases c66 : x53_3 < 45
                    · rw [if_pos c66] at H
                      have c66b0 : decide (x53_3 < 45) = true := decide_eq_true c66
                      clear c66
                      replace H := Option.bind_eq_some_iff.mp H
                      obtain ⟨⟨t233, t234, t235, t236, t237, t238, t239, t240⟩, A670, H⟩ := H
                      replace H : (spykeep2_DomeCloses.l3 k3 t213 t223 (wrap64 (x53_3 + 1)) x215000_2 x215001_2 x215002_2 x215003_2 x215004_2 x215005_2 x215006_2 x215007_2 t233 t234 t235 t236 t237 t238 t239 t240) = some r := H
                      have A67 := Aside0.mk A670
                      clear A670
                      have H' := Aside0.mk H
                      clear H
                      have hnb68 := NB224_179.out
                      have hnc68 := NB179_224.out
                      have hnb69 := NB224_214.out
                      have hnc69 := NB214_224.out
                      obtain ⟨hcz70_0, hcz70_1, hcz70_2, hcz70_3, hcz70_4, hcz70_5, hcz70_6, hcz70_7, hfz70_0, hfz70_1, hfz70_2, hfz70_3, hfz70_4, hfz70_5, hfz70_6, hfz70_7⟩ := tch8 BK224.out
                      go_wp2_with (first | ((with_reducible refine gate_callee (f := 13) rfl ?_); refine goesL_ (some 56) rfl rfl Try.func13 (by kernel_rfl) rfl #[.agg #[.int .i64 x225000_3, .int .i64 x225001_3, .bool x225002_3, .bool x225003_3, .int .i64 x225004_3, .int .i64 x225005_3, .int .i64 x225006_3, .bool x225007_3]] rfl (by (try simp only [List.map_toArray, List.map_cons, List.map_nil]); first | done | rfl | (simp only [List.length_drop, List.length_take]; rfl)) ?_; (with_reducible refine (dome_Step.calls k3 x225000_3 x225001_3 x225002_3 x225003_3 x225004_3 x225005_3 x225006_3 x225007_3 t233 t234 t235 t236 t237 t238 t239 t240 _ A67.out).mono ?_); rintro e w71 ⟨rfl, hb⟩; refine ⟨_, rfl, ?_⟩; have n0_ := Aside0.mk (blk_below BK179.out hb); have n1_ := Aside0.mk (blk_below BK214.out hb); have n2_ := Aside0.mk (blk_below BK224.out hb); have n3_ := Aside0.mk (below_step (by exact HB.out) hb); clear BK179; clear BK214; clear BK224; clear HB; have BK179 := n0_; have BK214 := n1_; have BK224 := n2_; have HB := n3_; clear n0_ n1_ n2_ n3_; (try clear hb); (try clear hb2); (try clear hk); (try clear hi); obtain ⟨hcz72_0, hcz72_1, hcz72_2, hcz72_3, hcz72_4, hcz72_5, hcz72_6, hcz72_7, hfz72_0, hfz72_1, hfz72_2, hfz72_3, hfz72_4, hfz72_5, hfz72_6, hfz72_7⟩ := tch8 BK224.out) | ((with_reducible refine gate_store (t := 30) (p := 7) rfl ?_); refine store_event (t := 30) (p := 7) (v := ?vo_w73) (w1 := ((((((((w71.setCell ⟨gb224, 0, none⟩ (.int .i64 t233)).setCell ⟨gb224, 1, none⟩ (.int .i64 t234)).setCell ⟨gb224, 2, none⟩ (.bool t235)).setCell ⟨gb224, 3, none⟩ (.bool t236)).setCell ⟨gb224, 4, none⟩ (.int .i64 t237)).setCell ⟨gb224, 5, none⟩ (.int .i64 t238)).setCell ⟨gb224, 6, none⟩ (.int .i64 t239)).setCell ⟨gb224, 7, none⟩ (.bool t240))) ?hg ?ho ?hn ?hr ?_; (case ho => rfl); (case hg => rfl); (case hn => rfl); (case hr => first | (go_simp; done) | (go_simp; rfl)); intro w73 hw; have n0_ : Aside0 (w73.heap[gb179]? = some (.cells #[.int .i64 x180000_1, .int .i64 x180001_1, .bool x180002_1, .bool x180003_1, .int .i64 x180004_1, .int .i64 x180005_1, .int .i64 x180006_1, .bool x180007_1] 30 (0, 0))) := ⟨(by rw [hw]; exact (by (with_reducible repeat (first | refine blk_drewN ?_ _ | refine blk_drew ?_ | refine blk_alloc ?_ _)); refine blk_far ?_ NB179_224.out _; (with_reducible repeat (first | refine blk_drewN ?_ _ | refine blk_drew ?_ | refine blk_alloc ?_ _)); refine blk_far ?_ NB179_224.out _; (with_reducible repeat (first | refine blk_drewN ?_ _ | refine blk_drew ?_ | refine blk_alloc ?_ _)); refine blk_far ?_ NB179_224.out _; (with_reducible repeat (first | refine blk_drewN ?_ _ | refine blk_drew ?_ | refine blk_alloc ?_ _)); refine blk_far ?_ NB179_224.out _; (with_reducible repeat (first | refine blk_drewN ?_ _ | refine blk_drew ?_ | refine blk_alloc ?_ _)); refine blk_far ?_ NB179_224.out _; (with_reducible repeat (first | refine blk_drewN ?_ _ | refine blk_drew ?_ | refine blk_alloc ?_ _)); refine blk_far ?_ NB179_224.out _; (with_reducible repeat (first | refine blk_drewN ?_ _ | refine blk_drew ?_ | refine blk_alloc ?_ _)); refine blk_far ?_ NB179_224.out _; (with_reducible repeat (first | refine blk_drewN ?_ _ | refine blk_drew ?_ | refine blk_alloc ?_ _)); refine blk_far ?_ NB179_224.out _; (with_reducible repeat (first | refine blk_drewN ?_ _ | refine blk_drew ?_ | refine blk_alloc ?_ _)); exact BK179.out))⟩; have n1_ : Aside0 (w73.heap[gb214]? = some (.cells #[.int .i64 x215000_2, .int .i64 x215001_2, .bool x215002_2, .bool x215003_2, .int .i64 x215004_2, .int .i64 x215005_2, .int .i64 x215006_2, .bool x215007_2] 30 (0, 0))) := ⟨(by rw [hw]; exact (by (with_reducible repeat (first | refine blk_drewN ?_ _ | refine blk_drew ?_ | refine blk_alloc ?_ _)); refine blk_far ?_ NB214_224.out _; (with_reducible repeat (first | refine blk_drewN ?_ _ | refine blk_drew ?_ | refine blk_alloc ?_ _)); refine blk_far ?_ NB214_224.out _; (with_reducible repeat (first | refine blk_drewN ?_ _ | refine blk_drew ?_ | refine blk_alloc ?_ _)); refine blk_far ?_ NB214_224.out _; (with_reducible repeat (first | refine blk_drewN ?_ _ | refine blk_drew ?_ | refine blk_alloc ?_ _)); refine blk_far ?_ NB214_224.out _; (with_reducible repeat (first | refine blk_drewN ?_ _ | refine blk_drew ?_ | refine blk_alloc ?_ _)); refine blk_far ?_ NB214_224.out _; (with_reducible repeat (first | refine blk_drewN ?_ _ | refine blk_drew ?_ | refine blk_alloc ?_ _)); refine blk_far ?_ NB214_224.out _; (with_reducible repeat (first | refine blk_drewN ?_ _ | refine blk_drew ?_ | refine blk_alloc ?_ _)); refine blk_far ?_ NB214_224.out _; (with_reducible repeat (first | refine blk_drewN ?_ _ | refine blk_drew ?_ | refine blk_alloc ?_ _)); refine blk_far ?_ NB214_224.out _; (with_reducible repeat (first | refine blk_drewN ?_ _ | refine blk_drew ?_ | refine blk_alloc ?_ _)); exact BK214.out))⟩; have n2_ : Aside0 (w73.heap[gb224]? = some (.cells #[.int .i64 t233, .int .i64 t234, .bool t235, .bool t236, .int .i64 t237, .int .i64 t238, .int .i64 t239, .bool t240] 30 (0, 0))) := ⟨(by rw [hw]; exact (by (with_reducible repeat (first | refine blk_drewN ?_ _ | refine blk_drew ?_ | refine blk_alloc ?_ _)); refine blk_put (cs := #[.int .i64 t233, .int .i64 t234, .bool t235, .bool t236, .int .i64 t237, .int .i64 t238, .int .i64 t239, .bool x225007_3]) ?_ 7 _ rfl; (with_reducible repeat (first | refine blk_drewN ?_ _ | refine blk_drew ?_ | refine blk_alloc ?_ _)); refine blk_put (cs := #[.int .i64 t233, .int .i64 t234, .bool t235, .bool t236, .int .i64 t237, .int .i64 t238, .int .i64 x225006_3, .bool x225007_3]) ?_ 6 _ rfl; (with_reducible repeat (first | refine blk_drewN ?_ _ | refine blk_drew ?_ | refine blk_alloc ?_ _)); refine blk_put (cs := #[.int .i64 t233, .int .i64 t234, .bool t235, .bool t236, .int .i64 t237, .int .i64 x225005_3, .int .i64 x225006_3, .bool x225007_3]) ?_ 5 _ rfl; (with_reducible repeat (first | refine blk_drewN ?_ _ | refine blk_drew ?_ | refine blk_alloc ?_ _)); refine blk_put (cs := #[.int .i64 t233, .int .i64 t234, .bool t235, .bool t236, .int .i64 x225004_3, .int .i64 x225005_3, .int .i64 x225006_3, .bool x225007_3]) ?_ 4 _ rfl; (with_reducible repeat (first | refine blk_drewN ?_ _ | refine blk_drew ?_ | refine blk_alloc ?_ _)); refine blk_put (cs := #[.int .i64 t233, .int .i64 t234, .bool t235, .bool x225003_3, .int .i64 x225004_3, .int .i64 x225005_3, .int .i64 x225006_3, .bool x225007_3]) ?_ 3 _ rfl; (with_reducible repeat (first | refine blk_drewN ?_ _ | refine blk_drew ?_ | refine blk_alloc ?_ _)); refine blk_put (cs := #[.int .i64 t233, .int .i64 t234, .bool x225002_3, .bool x225003_3, .int .i64 x225004_3, .int .i64 x225005_3, .int .i64 x225006_3, .bool x225007_3]) ?_ 2 _ rfl; (with_reducible repeat (first | refine blk_drewN ?_ _ | refine blk_drew ?_ | refine blk_alloc ?_ _)); refine blk_put (cs := #[.int .i64 t233, .int .i64 x225001_3, .bool x225002_3, .bool x225003_3, .int .i64 x225004_3, .int .i64 x225005_3, .int .i64 x225006_3, .bool x225007_3]) ?_ 1 _ rfl; (with_reducible repeat (first | refine blk_drewN ?_ _ | refine blk_drew ?_ | refine blk_alloc ?_ _)); refine blk_put (cs := #[.int .i64 x225000_3, .int .i64 x225001_3, .bool x225002_3, .bool x225003_3, .int .i64 x225004_3, .int .i64 x225005_3, .int .i64 x225006_3, .bool x225007_3]) ?_ 0 _ rfl; (with_reducible repeat (first | refine blk_drewN ?_ _ | refine blk_drew ?_ | refine blk_alloc ?_ _)); exact BK224.out))⟩; have n3_ : Aside0 (Below w.heap.size w w73) := ⟨(by rw [hw]; exact (by repeat (first | (with_reducible first | exact HB.out | apply below_alloc | apply pw_below_drewN | apply below_drew1 | refine below_set ?_ GE179.out | refine below_set ?_ GE214.out | refine below_set ?_ GE224.out) | exact HB.out)))⟩; clear hw; clear BK179; clear BK214; clear BK224; clear HB; have BK179 := n0_; have BK214 := n1_; have BK224 := n2_; have HB := n3_; clear n0_ n1_ n2_ n3_))
                      go_roundg k3
                      case measure => have := HK1.out; have := HK2.out; have := HK3.out; omega
                      case rel => exact ⟨(wrap64 (x53_3 + 1)), (t233), (t234), (t235), (t236), (t237), (t238), (t239), (t240), (by first | rfl | (simp; done) | (simp [*]; done)), H', ⟨by have := HK1.out; have := HK2.out; have := HK3.out; omega⟩, ⟨by exact BK179.out⟩, ⟨by exact BK214.out⟩, ⟨by exact BK224.out⟩, ⟨by exact HB.out⟩⟩
                    · rw [if_neg c66] at H
                      have c66b0 : decide (x53_3 < 45) = false := decide_eq_false c66
                      clear c66
                      by_cases c74 : t213 = 0
                      · rw [if_pos c74] at H
                        have c74b0 : (t213 == 0) = true := beq_iff_eq.mpr c74
                        have c74b1 : (t213 != 0) = false := bne_eq_false_iff_eq.mpr c74
                        clear c74
                        by_cases c75 : t223 = 0
                        · rw [if_pos c75] at H
                          have c75b0 : (t223 == 0) = true := beq_iff_eq.mpr c75
                          have c75b1 : (t223 != 0) = false := bne_eq_false_iff_eq.mpr c75
                          clear c75
                          replace H := Option.bind_eq_some_iff.mp H
                          obtain ⟨t241, A760, H⟩ := H
                          replace H : (if t241 = true then ((dome_Clear.f x225000_3 x225001_3 x225002_3 x225003_3 x225004_3 x225005_3 x225006_3 x225007_3).bind fun t242 => (some t242)) else (some false)) = some r := H
                          have A76 := Aside0.mk A760
                          clear A760
                          by_cases c77 : t241 = true
                          · subst c77
                            have H1 : ((dome_Clear.f x225000_3 x225001_3 x225002_3 x225003_3 x225004_3 x225005_3 x225006_3 x225007_3).bind fun t242 => (some t242)) = some r := by rw [if_pos rfl] at H; exact H
                            clear H
                            have H := H1
                            clear H1
                            replace H := Option.bind_eq_some_iff.mp H
                            obtain ⟨t242, A780, H⟩ := H
                            replace H : (some t242) = some r := H
                            have A78 := Aside0.mk A780
                            clear A780
                            obtain rfl := Option.some.inj H
                            have hnb79 := NB214_179.out
                            have hnc79 := NB179_214.out
                            have hnb80 := NB214_224.out
                            have hnc80 := NB224_214.out
                            obtain ⟨hcz81_0, hcz81_1, hcz81_2, hcz81_3, hcz81_4, hcz81_5, hcz81_6, hcz81_7, hfz81_0, hfz81_1, hfz81_2, hfz81_3, hfz81_4, hfz81_5, hfz81_6, hfz81_7⟩ := tch8 BK214.out
                            go_wp2_with (first | (go_at_call 14; (with_reducible refine (dome_Closed.calls x215000_2 x215001_2 x215002_2 x215003_2 x215004_2 x215005_2 x215006_2 x215007_2 true _ A76.out).mono ?_); rintro e w82 ⟨rfl, hb⟩; have n0_ := Aside0.mk (blk_below BK179.out hb); have n1_ := Aside0.mk (blk_below BK214.out hb); have n2_ := Aside0.mk (blk_below BK224.out hb); have n3_ := Aside0.mk (below_step (by exact HB.out) hb); clear BK179; clear BK214; clear BK224; clear HB; have BK179 := n0_; have BK214 := n1_; have BK224 := n2_; have HB := n3_; clear n0_ n1_ n2_ n3_; (try clear hb); (try clear hb2); (try clear hk); (try clear hi); have hnb83 := NB224_179.out; have hnc83 := NB179_224.out; obtain ⟨hcz84_0, hcz84_1, hcz84_2, hcz84_3, hcz84_4, hcz84_5, hcz84_6, hcz84_7, hfz84_0, hfz84_1, hfz84_2, hfz84_3, hfz84_4, hfz84_5, hfz84_6, hfz84_7⟩ := tch8 BK224.out) | (go_at_call 15; (with_reducible refine (dome_Clear.calls x225000_3 x225001_3 x225002_3 x225003_3 x225004_3 x225005_3 x225006_3 x225007_3 t242 _ A78.out).mono ?_); rintro e w85 ⟨rfl, hb⟩; have n0_ := Aside0.mk (blk_below BK179.out hb); have n1_ := Aside0.mk (blk_below BK214.out hb); have n2_ := Aside0.mk (blk_below BK224.out hb); have n3_ := Aside0.mk (below_step (by exact HB.out) hb); clear BK179; clear BK214; clear BK224; clear HB; have BK179 := n0_; have BK214 := n1_; have BK224 := n2_; have HB := n3_; clear n0_ n1_ n2_ n3_; (try clear hb); (try clear hb2); (try clear hk); (try clear hi)))
                            go_ret
                            exact ⟨by first | rfl | (simp [errW_none, errW_some] <;> rfl) | (simp [*, errW_none, errW_some] <;> rfl), by exact HB.out⟩
                          · replace c77 := Bool.eq_false_iff.mpr c77
                            subst c77
                            have H1 : (some false) = some r := by rw [if_neg (show ¬ (false = true) by decide)] at H; exact H
                            clear H
                            have H := H1
                            clear H1
                            obtain rfl := Option.some.inj H
                            have hnb86 := NB214_179.out
                            have hnc86 := NB179_214.out
                            have hnb87 := NB214_224.out
                            have hnc87 := NB224_214.out
                            obtain ⟨hcz88_0, hcz88_1, hcz88_2, hcz88_3, hcz88_4, hcz88_5, hcz88_6, hcz88_7, hfz88_0, hfz88_1, hfz88_2, hfz88_3, hfz88_4, hfz88_5, hfz88_6, hfz88_7⟩ := tch8 BK214.out
                            go_wp2_with (first | (go_at_call 14; (with_reducible refine (dome_Closed.calls x215000_2 x215001_2 x215002_2 x215003_2 x215004_2 x215005_2 x215006_2 x215007_2 false _ A76.out).mono ?_); rintro e w89 ⟨rfl, hb⟩; have n0_ := Aside0.mk (blk_below BK179.out hb); have n1_ := Aside0.mk (blk_below BK214.out hb); have n2_ := Aside0.mk (blk_below BK224.out hb); have n3_ := Aside0.mk (below_step (by exact HB.out) hb); clear BK179; clear BK214; clear BK224; clear HB; have BK179 := n0_; have BK214 := n1_; have BK224 := n2_; have HB := n3_; clear n0_ n1_ n2_ n3_; (try clear hb); (try clear hb2); (try clear hk); (try clear hi)))
                            go_ret
                            exact ⟨by first | rfl | (simp [errW_none, errW_some] <;> rfl) | (simp [*, errW_none, errW_some] <;> rfl), by exact HB.out⟩
                        · rw [if_neg c75] at H
                          have c75b0 : (t223 == 0) = false := beq_eq_false_iff_ne.mpr c75
                          have c75b1 : (t223 != 0) = true := bne_iff_ne.mpr c75
                          obtain rfl := Option.some.inj H
                          go_wp2
                          go_ret
                          exact ⟨by first | rfl | (simp [errW_none, errW_some] <;> rfl) | (simp [*, errW_none, errW_some] <;> rfl), by exact HB.out⟩
                      · rw [if_neg c74] at H
                        have c74b0 : (t213 == 0) = false := beq_eq_false_iff_ne.mpr c74
                        have c74b1 : (t213 != 0) = true := bne_iff_ne.mpr c74
                        obtain rfl := Option.some.inj H
                        go_wp2
                        go_ret
                        exact ⟨by first | rfl | (simp [errW_none, errW_some] <;> rfl) | (simp [*, errW_none, errW_some] <;> rfl), by exact HB.out⟩
  · replace c3 := Bool.eq_false_iff.mpr c3
    subst c3
    have H1 : (some false) = some r := by rw [if_neg (show ¬ (false = true) by decide)] at H; exact H
    clear H
    have H := H1
    clear H1
    obtain rfl := Option.some.inj H
    go_enter Try.func3, Try.ntmps3
    go_wp2_with (first | ((with_reducible refine gate_callee (f := 10) rfl ?_); refine goesL_ (some 9) rfl rfl Try.func10 (by kernel_rfl) rfl #[] rfl (by (try simp only [List.map_toArray, List.map_cons, List.map_nil]); first | done | rfl | (simp only [List.length_drop, List.length_take]; rfl)) ?_; (with_reducible refine (spykeep2_turns.calls k  false _ A2.out).mono ?_); rintro e w90 ⟨rfl, hb⟩; refine ⟨_, rfl, ?_⟩; have n0_ := Aside0.mk (below_step (by exact HB.out) hb); clear HB; have HB := n0_; clear n0_; (try clear hb); (try clear hb2); (try clear hk); (try clear hi)))
    go_ret
    exact ⟨by first | rfl | (simp [errW_none, errW_some] <;> rfl) | (simp [*, errW_none, errW_some] <;> rfl), by exact HB.out⟩

/-- THE ONE PURE STATEMENT of spykeep2_DomeCloses: yours. -/
def spykeep2_DomeCloses.Pure : Prop := ∀ (l0 : List Int), l0.length ≤ maxLen → l0.length * 8 ≤ 140737488351232 → (∀ x ∈ l0, (Lit.int .i64 x).wf = true) → ∃ k, spykeep2_DomeCloses.f k l0 = some true
theorem spykeep2_DomeCloses.walk (P : spykeep2_DomeCloses.Pure) (a0 : Option Addr) (len0 cap0 : Nat) (z0 : List Int) (w : World) (w0 : (a0 = none ∧ len0 = 0 ∧ cap0 = 0 ∧ z0 = []) ∨ ∃ x, a0 = some x ∧ len0 ≤ cap0 ∧ cap0 ≤ maxLen ∧ z0.length = cap0 ∧ (∀ i, i < z0.length → w.cell? (x.add i) = some (.int .i64 (z0.getD i 0))) ∧ ∀ n ∈ z0, (Lit.int .i64 n).wf = true) (y0 : len0 * 8 ≤ 140737488351232) :
    Calls Try.prog 3 #[.slice a0 len0 cap0] w fun e w' => e = .returned (.bool true) ∧ Below w.heap.size w w' := by
  obtain ⟨l0, rfl, hr0, hm0, hw0, hc0⟩ := ReadsInt.ofRowC w0
  obtain ⟨k, h⟩ := P l0 hm0 y0 hw0
  refine (spykeep2_DomeCloses.calls k _ _ l0 true w (Kd.C_of_reads (d := (0 : Int)) (h1 := fun _ => rfl) hr0) hc0 h).mono ?_
  rintro e w' ⟨rfl, hd⟩
  exact ⟨rfl, hd⟩

end Go.Proofs.Ytdnnjbokdckilaa.PDomeCloses
