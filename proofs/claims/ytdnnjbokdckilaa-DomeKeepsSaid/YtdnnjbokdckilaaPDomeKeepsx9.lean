-- Written by a program of this session out of the translation (wip/tools).
import Derived.Test.YtdnnjbokdckilaaPDomeKeepsx0
import Derived.Test.YtdnnjbokdckilaaPDomeKeepsx3
import Derived.Test.YtdnnjbokdckilaaPDomeKeepsx5
import Derived.Test.YtdnnjbokdckilaaPDomeKeepsx6
import Derived.Test.YtdnnjbokdckilaaPDomeKeepsx7
import Derived.Test.YtdnnjbokdckilaaPDomeKeepsx8
namespace Go.Proofs.Ytdnnjbokdckilaa.PDomeKeeps
open Go.RowKit Go.Proofs.YtdnnjbokdckilaaW.PrintWords Go.Proofs.YtdnnjbokdckilaaW.PrintLast Go.Proofs.YtdnnjbokdckilaaW.PrintMore
attribute [local go_sem] max2_int min2_int max_two min_two max_three min_three max_four min_four   -- for this text's walks alone
set_option linter.unusedVariables false
set_option linter.unusedSimpArgs false

/-! ### spykeep2_DomeKeeps: function 8 -/
mutual
def spykeep2_DomeKeeps.l0 : Nat → Int → List Int → Int → Int → Int → Bool → Bool → Int → Int → Int → Bool → Option (Bool)
  | 0, _, _, _, _, _, _, _, _, _, _, _ => none
  | k + 1, x12, x224000, x224001, x225000, x225001, x225002, x225003, x225004, x225005, x225006, x225007 => if x12 < 120 then ((spymake_Stream_Next.f x224000 x224001 24).bind fun bt225 => (if bt225.1 = 0 then (spykeep2_DomeKeeps.j1 k 0 x12 bt225.1 (bt225.1 == 0) x224000 bt225.2 x225000 x225001 x225002 x225003 x225004 x225005 x225006 x225007) else (spykeep2_DomeKeeps.j1 k 0 x12 bt225.1 (bt225.1 == 1) x224000 bt225.2 x225000 x225001 x225002 x225003 x225004 x225005 x225006 x225007))) else (some true)
def spykeep2_DomeKeeps.j2 : Nat → Int → Int → List Int → Int → Int → Int → Bool → Bool → Int → Int → Int → Bool → Option (Bool)
  | 0, _, _, _, _, _, _, _, _, _, _, _, _ => none
  | k + 1, x5, x12, x224000, x224001, x225000, x225001, x225002, x225003, x225004, x225005, x225006, x225007 => (dome_Step.f k x225000 x225001 x225002 x225003 x225004 x225005 x225006 x225007).bind fun bt269 => (if x5 = 0 then ((dome_Check.f k bt269.1 bt269.2.1 bt269.2.2.1 bt269.2.2.2.1 bt269.2.2.2.2.1 bt269.2.2.2.2.2.1 bt269.2.2.2.2.2.2.1 bt269.2.2.2.2.2.2.2).bind fun t278 => (if t278 = 0 then (if bt269.2.1 > 0 then (if bt269.1 < 100 then (some false) else (if (mx (wrap64 (bt269.1 - x225000)) (wrap64 (x225000 - bt269.1))) > 5 then (some false) else (spykeep2_DomeKeeps.l0 k (wrap64 (x12 + 1)) x224000 x224001 bt269.1 bt269.2.1 bt269.2.2.1 bt269.2.2.2.1 bt269.2.2.2.2.1 bt269.2.2.2.2.2.1 bt269.2.2.2.2.2.2.1 bt269.2.2.2.2.2.2.2))) else (if (mx (wrap64 (bt269.1 - x225000)) (wrap64 (x225000 - bt269.1))) > 5 then (some false) else (spykeep2_DomeKeeps.l0 k (wrap64 (x12 + 1)) x224000 x224001 bt269.1 bt269.2.1 bt269.2.2.1 bt269.2.2.2.1 bt269.2.2.2.2.1 bt269.2.2.2.2.2.1 bt269.2.2.2.2.2.2.1 bt269.2.2.2.2.2.2.2))) else (some false))) else (some false))
def spykeep2_DomeKeeps.j1 : Nat → Int → Int → Int → Bool → List Int → Int → Int → Int → Bool → Bool → Int → Int → Int → Bool → Option (Bool)
  | 0, _, _, _, _, _, _, _, _, _, _, _, _, _, _ => none
  | k + 1, x5, x12, x15, x16, x224000, x224001, x225000, x225001, x225002, x225003, x225004, x225005, x225006, x225007 => if x16 = true then ((dome_Set.f k x225000 x225001 x225002 x225003 x225004 x225005 x225006 x225007 true true).bind fun bt227 => (spykeep2_DomeKeeps.j2 k bt227.2.2.2.2.2.2.2.2 x12 x224000 x224001 bt227.1 bt227.2.1 bt227.2.2.1 bt227.2.2.2.1 bt227.2.2.2.2.1 bt227.2.2.2.2.2.1 bt227.2.2.2.2.2.2.1 bt227.2.2.2.2.2.2.2.1)) else (if x15 = 2 then ((spymake_Stream_Next.f x224000 x224001 2).bind fun bt236 => ((spymake_Stream_Next.f x224000 bt236.2 2).bind fun bt238 => ((dome_Set.f k x225000 x225001 x225002 x225003 x225004 x225005 x225006 x225007 (bt236.1 == 0) (bt238.1 == 0)).bind fun bt240 => (spykeep2_DomeKeeps.j2 k bt240.2.2.2.2.2.2.2.2 x12 x224000 bt238.2 bt240.1 bt240.2.1 bt240.2.2.1 bt240.2.2.2.1 bt240.2.2.2.2.1 bt240.2.2.2.2.2.1 bt240.2.2.2.2.2.2.1 bt240.2.2.2.2.2.2.2.1)))) else (if x15 = 3 then ((spymake_Stream_Next.f x224000 x224001 1099511627776).bind fun bt249 => ((dome_Rotate.f k x225000 x225001 x225002 x225003 x225004 x225005 x225006 x225007 bt249.1).bind fun bt251 => (spykeep2_DomeKeeps.j2 k bt251.2.2.2.2.2.2.2.2 x12 x224000 bt249.2 bt251.1 bt251.2.1 bt251.2.2.1 bt251.2.2.2.1 bt251.2.2.2.2.1 bt251.2.2.2.2.2.1 bt251.2.2.2.2.2.2.1 bt251.2.2.2.2.2.2.2.1))) else (if x15 = 4 then ((dome_Brake.f k x225000 x225001 x225002 x225003 x225004 x225005 x225006 x225007).bind fun bt260 => (spykeep2_DomeKeeps.j2 k bt260.2.2.2.2.2.2.2.2 x12 x224000 x224001 bt260.1 bt260.2.1 bt260.2.2.1 bt260.2.2.2.1 bt260.2.2.2.2.1 bt260.2.2.2.2.2.1 bt260.2.2.2.2.2.2.1 bt260.2.2.2.2.2.2.2.1)) else (spykeep2_DomeKeeps.j2 k x5 x12 x224000 x224001 x225000 x225001 x225002 x225003 x225004 x225005 x225006 x225007))))
end
def spykeep2_DomeKeeps.f (k : Nat) (l0 : List Int) : Option (Bool) := (spykeep2_turns.f k).bind fun t222 => (if t222 = true then (spykeep2_DomeKeeps.l0 k 0 l0 0 0 0 false false 0 0 0 false) else (some false))
theorem spykeep2_DomeKeeps.mono_l : ∀ k, (∀ y0 y1 y2 y3 y4 y5 y6 y7 y8 y9 y10, LeO (spykeep2_DomeKeeps.l0 k y0 y1 y2 y3 y4 y5 y6 y7 y8 y9 y10) (spykeep2_DomeKeeps.l0 (k + 1) y0 y1 y2 y3 y4 y5 y6 y7 y8 y9 y10)) ∧ (∀ y0 y1 y2 y3 y4 y5 y6 y7 y8 y9 y10 y11, LeO (spykeep2_DomeKeeps.j2 k y0 y1 y2 y3 y4 y5 y6 y7 y8 y9 y10 y11) (spykeep2_DomeKeeps.j2 (k + 1) y0 y1 y2 y3 y4 y5 y6 y7 y8 y9 y10 y11)) ∧ (∀ y0 y1 y2 y3 y4 y5 y6 y7 y8 y9 y10 y11 y12 y13, LeO (spykeep2_DomeKeeps.j1 k y0 y1 y2 y3 y4 y5 y6 y7 y8 y9 y10 y11 y12 y13) (spykeep2_DomeKeeps.j1 (k + 1) y0 y1 y2 y3 y4 y5 y6 y7 y8 y9 y10 y11 y12 y13))
  | 0 => ⟨fun _ _ _ _ _ _ _ _ _ _ _ r h => by simp [spykeep2_DomeKeeps.l0] at h, fun _ _ _ _ _ _ _ _ _ _ _ _ r h => by simp [spykeep2_DomeKeeps.j2] at h, fun _ _ _ _ _ _ _ _ _ _ _ _ _ _ r h => by simp [spykeep2_DomeKeeps.j1] at h⟩
  | k + 1 => by
    obtain ⟨ih0, ih1, ih2⟩ := spykeep2_DomeKeeps.mono_l k
    refine ⟨?_, ?_, ?_⟩
    · intro y0 y1 y2 y3 y4 y5 y6 y7 y8 y9 y10
      unfold spykeep2_DomeKeeps.l0
      repeat' first
      | (with_reducible exact ih0 _ _ _ _ _ _ _ _ _ _ _)
      | (with_reducible exact ih1 _ _ _ _ _ _ _ _ _ _ _ _)
      | (with_reducible exact ih2 _ _ _ _ _ _ _ _ _ _ _ _ _ _)
      | (with_reducible exact dome_Brake.mono _ _ _ _ _ _ _ _ _)
      | (with_reducible exact dome_Check.mono _ _ _ _ _ _ _ _ _)
      | (with_reducible exact dome_Rotate.mono _ _ _ _ _ _ _ _ _ _)
      | (with_reducible exact dome_Set.mono _ _ _ _ _ _ _ _ _ _ _)
      | (with_reducible exact dome_Step.mono _ _ _ _ _ _ _ _ _)
      | (with_reducible exact spykeep2_turns.mono _)
      | (with_reducible exact LeO.refl _)
      | (with_reducible exact LeO.none _)
      | (with_reducible refine LeO.ite ?_ ?_)
      | (with_reducible refine LeO.bind ?_ (fun _ => ?_))
      | exact ih0 _ _ _ _ _ _ _ _ _ _ _
      | exact ih1 _ _ _ _ _ _ _ _ _ _ _ _
      | exact ih2 _ _ _ _ _ _ _ _ _ _ _ _ _ _
      | exact dome_Brake.mono _ _ _ _ _ _ _ _ _
      | exact dome_Check.mono _ _ _ _ _ _ _ _ _
      | exact dome_Rotate.mono _ _ _ _ _ _ _ _ _ _
      | exact dome_Set.mono _ _ _ _ _ _ _ _ _ _ _
      | exact dome_Step.mono _ _ _ _ _ _ _ _ _
      | exact spykeep2_turns.mono _
      | exact LeO.none _
      | refine LeO.ite ?_ ?_
      | refine LeO.bind ?_ (fun _ => ?_)
    · intro y0 y1 y2 y3 y4 y5 y6 y7 y8 y9 y10 y11
      unfold spykeep2_DomeKeeps.j2
      repeat' first
      | (with_reducible exact ih0 _ _ _ _ _ _ _ _ _ _ _)
      | (with_reducible exact ih1 _ _ _ _ _ _ _ _ _ _ _ _)
      | (with_reducible exact ih2 _ _ _ _ _ _ _ _ _ _ _ _ _ _)
      | (with_reducible exact dome_Brake.mono _ _ _ _ _ _ _ _ _)
      | (with_reducible exact dome_Check.mono _ _ _ _ _ _ _ _ _)
      | (with_reducible exact dome_Rotate.mono _ _ _ _ _ _ _ _ _ _)
      | (with_reducible exact dome_Set.mono _ _ _ _ _ _ _ _ _ _ _)
      | (with_reducible exact dome_Step.mono _ _ _ _ _ _ _ _ _)
      | (with_reducible exact spykeep2_turns.mono _)
      | (with_reducible exact LeO.refl _)
      | (with_reducible exact LeO.none _)
      | (with_reducible refine LeO.ite ?_ ?_)
      | (with_reducible refine LeO.bind ?_ (fun _ => ?_))
      | exact ih0 _ _ _ _ _ _ _ _ _ _ _
      | exact ih1 _ _ _ _ _ _ _ _ _ _ _ _
      | exact ih2 _ _ _ _ _ _ _ _ _ _ _ _ _ _
      | exact dome_Brake.mono _ _ _ _ _ _ _ _ _
      | exact dome_Check.mono _ _ _ _ _ _ _ _ _
      | exact dome_Rotate.mono _ _ _ _ _ _ _ _ _ _
      | exact dome_Set.mono _ _ _ _ _ _ _ _ _ _ _
      | exact dome_Step.mono _ _ _ _ _ _ _ _ _
      | exact spykeep2_turns.mono _
      | exact LeO.none _
      | refine LeO.ite ?_ ?_
      | refine LeO.bind ?_ (fun _ => ?_)
    · intro y0 y1 y2 y3 y4 y5 y6 y7 y8 y9 y10 y11 y12 y13
      unfold spykeep2_DomeKeeps.j1
      repeat' first
      | (with_reducible exact ih0 _ _ _ _ _ _ _ _ _ _ _)
      | (with_reducible exact ih1 _ _ _ _ _ _ _ _ _ _ _ _)
      | (with_reducible exact ih2 _ _ _ _ _ _ _ _ _ _ _ _ _ _)
      | (with_reducible exact dome_Brake.mono _ _ _ _ _ _ _ _ _)
      | (with_reducible exact dome_Check.mono _ _ _ _ _ _ _ _ _)
      | (with_reducible exact dome_Rotate.mono _ _ _ _ _ _ _ _ _ _)
      | (with_reducible exact dome_Set.mono _ _ _ _ _ _ _ _ _ _ _)
      | (with_reducible exact dome_Step.mono _ _ _ _ _ _ _ _ _)
      | (with_reducible exact spykeep2_turns.mono _)
      | (with_reducible exact LeO.refl _)
      | (with_reducible exact LeO.none _)
      | (with_reducible refine LeO.ite ?_ ?_)
      | (with_reducible refine LeO.bind ?_ (fun _ => ?_))
      | exact ih0 _ _ _ _ _ _ _ _ _ _ _
      | exact ih1 _ _ _ _ _ _ _ _ _ _ _ _
      | exact ih2 _ _ _ _ _ _ _ _ _ _ _ _ _ _
      | exact dome_Brake.mono _ _ _ _ _ _ _ _ _
      | exact dome_Check.mono _ _ _ _ _ _ _ _ _
      | exact dome_Rotate.mono _ _ _ _ _ _ _ _ _ _
      | exact dome_Set.mono _ _ _ _ _ _ _ _ _ _ _
      | exact dome_Step.mono _ _ _ _ _ _ _ _ _
      | exact spykeep2_turns.mono _
      | exact LeO.none _
      | refine LeO.ite ?_ ?_
      | refine LeO.bind ?_ (fun _ => ?_)
theorem spykeep2_DomeKeeps.mono : ∀ a0 k, LeO (spykeep2_DomeKeeps.f k a0) (spykeep2_DomeKeeps.f (k + 1) a0) := by
  intro a0 k
  obtain ⟨ih0, ih1, ih2⟩ := spykeep2_DomeKeeps.mono_l k
  unfold spykeep2_DomeKeeps.f
  repeat' first
      | (with_reducible exact ih0 _ _ _ _ _ _ _ _ _ _ _)
      | (with_reducible exact ih1 _ _ _ _ _ _ _ _ _ _ _ _)
      | (with_reducible exact ih2 _ _ _ _ _ _ _ _ _ _ _ _ _ _)
      | (with_reducible exact dome_Brake.mono _ _ _ _ _ _ _ _ _)
      | (with_reducible exact dome_Check.mono _ _ _ _ _ _ _ _ _)
      | (with_reducible exact dome_Rotate.mono _ _ _ _ _ _ _ _ _ _)
      | (with_reducible exact dome_Set.mono _ _ _ _ _ _ _ _ _ _ _)
      | (with_reducible exact dome_Step.mono _ _ _ _ _ _ _ _ _)
      | (with_reducible exact spykeep2_turns.mono _)
      | (with_reducible exact LeO.refl _)
      | (with_reducible exact LeO.none _)
      | (with_reducible refine LeO.ite ?_ ?_)
      | (with_reducible refine LeO.bind ?_ (fun _ => ?_))
      | exact ih0 _ _ _ _ _ _ _ _ _ _ _
      | exact ih1 _ _ _ _ _ _ _ _ _ _ _ _
      | exact ih2 _ _ _ _ _ _ _ _ _ _ _ _ _ _
      | exact dome_Brake.mono _ _ _ _ _ _ _ _ _
      | exact dome_Check.mono _ _ _ _ _ _ _ _ _
      | exact dome_Rotate.mono _ _ _ _ _ _ _ _ _ _
      | exact dome_Set.mono _ _ _ _ _ _ _ _ _ _ _
      | exact dome_Step.mono _ _ _ _ _ _ _ _ _
      | exact spykeep2_turns.mono _
      | exact LeO.none _
      | refine LeO.ite ?_ ?_
      | refine LeO.bind ?_ (fun _ => ?_)
def spykeep2_DomeKeeps.T13 : Bool × List (List Nat × List Nat) := (true, [([], []), ([], []), ([1], [1]), ([2], [2]), ([], []), ([4, 2], [4]), ([5], [5]), ([0, 3, 6, 5], [0, 3, 6]), ([7], [7]), ([8], [8]), ([8], [8]), ([9, 7, 0, 1, 2, 3, 4, 5, 6, 7, 8, 9], [9]), ([10, 11, 0, 1, 2, 3, 4, 5, 6, 7, 8, 9, 10, 11], [10])])
def spykeep2_DomeKeeps.B13 : List Nat := [0, 0, 2, 6, 0, 22, 54, 127, 255, 511, 511, 1023, 4095]
theorem spykeep2_DomeKeeps.tab13 : rtab .any (opsOf Try.f8 13) = spykeep2_DomeKeeps.T13 := by kernel_rfl
theorem spykeep2_DomeKeeps.bits13 : waitsOk spykeep2_DomeKeeps.T13.2 spykeep2_DomeKeeps.B13 = true := by kernel_rfl
def spykeep2_DomeKeeps.T15 : Bool × List (List Nat × List Nat) := (true, [([], []), ([], []), ([1], [1]), ([0, 2, 2], [0, 2]), ([3], [3]), ([4], [4]), ([4], [4]), ([5, 3, 0, 1, 2, 3, 4, 5], [5]), ([6, 7, 0, 1, 2, 3, 4, 5, 6, 7], [6])])
def spykeep2_DomeKeeps.B15 : List Nat := [0, 0, 2, 7, 15, 31, 31, 63, 255]
theorem spykeep2_DomeKeeps.tab15 : rtab .any (opsOf Try.f8 15) = spykeep2_DomeKeeps.T15 := by kernel_rfl
theorem spykeep2_DomeKeeps.bits15 : waitsOk spykeep2_DomeKeeps.T15.2 spykeep2_DomeKeeps.B15 = true := by kernel_rfl
set_option maxHeartbeats 8000000 in
set_option maxRecDepth 100000 in
theorem spykeep2_DomeKeeps.calls (k : Nat) (A0 : Option Addr) (c0 : Nat) (l0 : List Int) (r : Bool) (w : World) (hr0 : Kd.C (Kd.int .i64) w A0 l0.length l0) (hc0 : l0.length ≤ c0) (h : spykeep2_DomeKeeps.f k l0 = some r) :
    Calls Try.prog 8 #[.slice A0 l0.length c0] w fun e w' => e = .returned (.bool r) ∧ Below w.heap.size w w' := by
  have hu26 := Try.underlying26
  have hu30 := Try.underlying30
  have HR0 := Aside0.mk hr0
  have HC0 := Aside0.mk hc0
  clear hr0 hc0
  have HB := Aside0.mk (Below.refl w.heap.size w)
  have H : ((spykeep2_turns.f k).bind fun t222 => (if t222 = true then (spykeep2_DomeKeeps.l0 k 0 l0 0 0 0 false false 0 0 0 false) else (some false))) = some r := h
  clear h
  replace H := Option.bind_eq_some_iff.mp H
  obtain ⟨t222, A20, H⟩ := H
  replace H : (if t222 = true then (spykeep2_DomeKeeps.l0 k 0 l0 0 0 0 false false 0 0 0 false) else (some false)) = some r := H
  have A2 := Aside0.mk A20
  clear A20
  by_cases c3 : t222 = true
  · subst c3
    have H1 : (spykeep2_DomeKeeps.l0 k 0 l0 0 0 0 false false 0 0 0 false) = some r := by rw [if_pos rfl] at H; exact H
    clear H
    have H := H1
    clear H1
    have H' := Aside0.mk H
    clear H
    go_enter Try.func8, Try.ntmps8
    go_wp2_with (first | ((with_reducible refine gate_callee (f := 10) rfl ?_); refine goesL_ (some 7) rfl rfl Try.func10 (by kernel_rfl) rfl #[] rfl (by (try simp only [List.map_toArray, List.map_cons, List.map_nil]); first | done | rfl | (simp only [List.length_drop, List.length_take]; rfl)) ?_; (with_reducible refine (spykeep2_turns.calls k  true _ A2.out).mono ?_); rintro e w4 ⟨rfl, hb⟩; refine ⟨_, rfl, ?_⟩; have n0_ := Aside0.mk (below_step (by exact HB.out) hb); clear HB; have HB := n0_; clear n0_; (try clear hb); (try clear hb2); (try clear hk); (try clear hi)) | ((with_reducible refine gate_dst (N := 11) rfl ?_); (try (refine gate_guard (by rfl) ?_; dsimp only)); refine box_event ?hg (N := 11) ?hd (cs := #[.slice A0 l0.length c0, .int .i64 0]) (t := 26) ?hr ?_; (case hd => rfl); (case hg => rfl); (case hr => first | (go_simp; done) | (go_simp; rfl)); intro gb223 hg w5 hbox hb; have n0_ := Aside0.mk (below_step (by exact HB.out) hb); have n1_ := Aside0.mk ((by rw [hg]; exact (below_size (by exact HB.out)) : w.heap.size ≤ gb223)); have n2_ := Aside0.mk ((by rw [hg]; exact (below_size (by exact HB.out)) : w.heap.size ≤ gb223)); have n3_ := Aside0.mk ((show IsS26 w w5 gb223 l0 0 from ⟨_, _, hbox, (by rw [hg]; exact (below_size (by exact HB.out)) : w.heap.size ≤ gb223), HR0.out⟩)); clear HB; have HB := n0_; have GW223 := n1_; have GE223 := n2_; have HI223 := n3_; clear n0_ n1_ n2_ n3_; clear hb hbox hg) | ((with_reducible refine gate_dst (N := 4) rfl ?_); (try (refine gate_guard (by rfl) ?_; dsimp only)); refine box_event ?hg (N := 4) ?hd (cs := #[.int .i64 0, .int .i64 0, .bool false, .bool false, .int .i64 0, .int .i64 0, .int .i64 0, .bool false]) (t := 30) ?hr ?_; (case hd => rfl); (case hg => rfl); (case hr => first | (go_simp; done) | (go_simp; rfl)); intro gb224 hg w6 hbox hb; have n0_ := Aside0.mk (IsS26.below (by exact HI223.out) hb); have n1_ := Aside0.mk (below_step (by exact HB.out) hb); have n2_ := Aside0.mk (hbox); have n3_ := Aside0.mk ((by rw [hg]; exact (below_size (by exact HB.out)) : w.heap.size ≤ gb224)); have n4_ := Aside0.mk ((by rw [hg]; exact (below_size (by exact HB.out)) : w.heap.size ≤ gb224)); have n5_ := Aside0.mk ((by rw [hg]; exact Nat.ne_of_lt (IsS26.lt (show IsS26 w _ gb223 l0 0 from by exact HI223.out)) : gb223 ≠ gb224)); have n6_ := Aside0.mk ((by rw [hg]; exact Nat.ne_of_gt (IsS26.lt (show IsS26 w _ gb223 l0 0 from by exact HI223.out)) : gb224 ≠ gb223)); clear HI223; clear HB; have HI223 := n0_; have HB := n1_; have BK224 := n2_; have GW224 := n3_; have GE224 := n4_; have NB223_224 := n5_; have NB224_223 := n6_; clear n0_ n1_ n2_ n3_ n4_ n5_ n6_; clear hb hbox hg))
    go_loopg [12] k (fun kq v12 w' => ∃ (x12_1 : Int) (x224001_1 : Int) (x225000_1 : Int) (x225001_1 : Int) (x225002_1 : Bool) (x225003_1 : Bool) (x225004_1 : Int) (x225005_1 : Int) (x225006_1 : Int) (x225007_1 : Bool), v12 = .int .i64 x12_1 ∧ Aside0 (spykeep2_DomeKeeps.l0 kq x12_1 l0 x224001_1 x225000_1 x225001_1 x225002_1 x225003_1 x225004_1 x225005_1 x225006_1 x225007_1 = some r) ∧ Aside0 (kq ≤ k) ∧ Aside0 (w'.heap[gb224]? = some (.cells #[.int .i64 x225000_1, .int .i64 x225001_1, .bool x225002_1, .bool x225003_1, .int .i64 x225004_1, .int .i64 x225005_1, .int .i64 x225006_1, .bool x225007_1] 30 (0, 0))) ∧ Aside0 (IsS26 w w' gb223 l0 x224001_1) ∧ Aside0 (Below w.heap.size w w'))
    case atStart => exact ⟨(0), (0), (0), (0), (false), (false), (0), (0), (0), (false), (by first | rfl | (simp; done) | (simp [*]; done)), H', ⟨Nat.le_refl _⟩, ⟨by exact BK224.out⟩, ⟨by exact HI223.out⟩, ⟨by exact HB.out⟩⟩
    case round =>
      clear H'
      try clear c1
      try clear p2
      try clear c3
      obtain ⟨x12_1, x224001_1, x225000_1, x225001_1, x225002_1, x225003_1, x225004_1, x225005_1, x225006_1, x225007_1, rfl, HA, HK1, BK224, HI223, HB⟩ := hrel
      cases gk with
      | zero => exact absurd HA.out (by simp [spykeep2_DomeKeeps.l0])
      | succ k1 =>
        have H := HA.out
        clear HA
        simp only [spykeep2_DomeKeeps.l0] at H
        by_cases c7 : x12_1 < 120
        · rw [if_pos c7] at H
          have c7b0 : decide (x12_1 < 120) = true := decide_eq_true c7
          clear c7
          replace H := Option.bind_eq_some_iff.mp H
          obtain ⟨⟨t225, t226⟩, A80, H⟩ := H
          replace H : (if t225 = 0 then (spykeep2_DomeKeeps.j1 k1 0 x12_1 t225 (t225 == 0) l0 t226 x225000_1 x225001_1 x225002_1 x225003_1 x225004_1 x225005_1 x225006_1 x225007_1) else (spykeep2_DomeKeeps.j1 k1 0 x12_1 t225 (t225 == 1) l0 t226 x225000_1 x225001_1 x225002_1 x225003_1 x225004_1 x225005_1 x225006_1 x225007_1)) = some r := H
          have A8 := Aside0.mk A80
          clear A80
          have HC9 := Aside0.mk H
          clear H
          go_upto_block 2 with (first | ((with_reducible refine gate_callee (f := 12) rfl ?_); refine goesL_ (some 15) rfl rfl Try.func12 (by kernel_rfl) rfl #[.pointer (some ⟨gb223, 0, none⟩), .int .i64 24] rfl (by (try simp only [List.map_toArray, List.map_cons, List.map_nil]); first | done | rfl | (simp only [List.length_drop, List.length_take]; rfl)) ?_; (with_reducible refine (spymake_Stream_Next.calls gb223 l0 x224001_1 24 t225 t226 w _ ?side1 ?side2 A8.out).mono ?_); (case side1 => exact HI223.out); (case side2 => exact HB.out); rintro e w10 ⟨rfl, hi, hb, hk⟩; refine ⟨_, rfl, ?_⟩; have n0_ := Aside0.mk (KeepBut.blk hk BK224.out NB224_223.out (by simp)); have n1_ := Aside0.mk (hb); have n2_ := Aside0.mk (hi); clear BK224; clear HB; clear HI223; have BK224 := n0_; have HB := n1_; have HI223 := n2_; clear n0_ n1_ n2_; (try clear hb); (try clear hb2); (try clear hk); (try clear hi)))
          (try simp only [Act.put, List.setIfInBounds_toArray, List.set_cons_zero, List.set_cons_succ])
          go_cut [5] (fun v5 wc => ∃ (kq : Nat) (x5_8 : Int) (x224001_8 : Int) (x225000_8 : Int) (x225001_8 : Int) (x225002_8 : Bool) (x225003_8 : Bool) (x225004_8 : Int) (x225005_8 : Int) (x225006_8 : Int) (x225007_8 : Bool), v5 = .int .i64 x5_8 ∧ Aside0 (spykeep2_DomeKeeps.j2 kq x5_8 x12_1 l0 x224001_8 x225000_8 x225001_8 x225002_8 x225003_8 x225004_8 x225005_8 x225006_8 x225007_8 = some r) ∧ Aside0 (kq ≤ k1) ∧ Aside0 (wc.heap[gb224]? = some (.cells #[.int .i64 x225000_8, .int .i64 x225001_8, .bool x225002_8, .bool x225003_8, .int .i64 x225004_8, .int .i64 x225005_8, .int .i64 x225006_8, .bool x225007_8] 30 (0, 0))) ∧ Aside0 (IsS26 w wc gb223 l0 x224001_8) ∧ Aside0 (Below w.heap.size w wc))
          case first =>
            have H := HC9.out
            clear HC9
            have HC11 := Aside0.mk H
            clear H
            go_upto_if 16 with (fail)
            go_cut [16] (fun v16 wc => ∃ (kq : Nat) (x16_10 : Bool), v16 = .bool x16_10 ∧ Aside0 (spykeep2_DomeKeeps.j1 kq 0 x12_1 t225 x16_10 l0 t226 x225000_1 x225001_1 x225002_1 x225003_1 x225004_1 x225005_1 x225006_1 x225007_1 = some r) ∧ Aside0 (kq ≤ k1) ∧ Aside0 (wc.heap[gb224]? = some (.cells #[.int .i64 x225000_1, .int .i64 x225001_1, .bool x225002_1, .bool x225003_1, .int .i64 x225004_1, .int .i64 x225005_1, .int .i64 x225006_1, .bool x225007_1] 30 (0, 0))) ∧ Aside0 (IsS26 w wc gb223 l0 t226) ∧ Aside0 (Below w.heap.size w wc))
            case first =>
              have H := HC11.out
              clear HC11
              by_cases c12 : t225 = 0
              · rw [if_pos c12] at H
                have c12b0 : (t225 == 0) = true := beq_iff_eq.mpr c12
                have c12b1 : (t225 != 0) = false := bne_eq_false_iff_eq.mpr c12
                clear c12
                (first | rw [c12b0] | (simp only [i64_w, i32_w]; rw [c12b0]) | skip)
                have H' := Aside0.mk H
                clear H
                go_wp2
                go_meet
                case rel => exact ⟨_, ((t225 == 0)), (by first | rfl | (simp; done) | (simp [*]; done)), H', ⟨by have := HK1.out; first | omega | exact Nat.le_refl _⟩, ⟨by exact BK224.out⟩, ⟨by exact HI223.out⟩, ⟨by exact HB.out⟩⟩
              · rw [if_neg c12] at H
                have c12b0 : (t225 == 0) = false := beq_eq_false_iff_ne.mpr c12
                have c12b1 : (t225 != 0) = true := bne_iff_ne.mpr c12
                (first | rw [c12b0] | (simp only [i64_w, i32_w]; rw [c12b0]) | skip)
                have H' := Aside0.mk H
                clear H
                go_wp2
                go_meet
                case rel => exact ⟨_, ((t225 == 1)), (by first | rfl | (simp; done) | (simp [*]; done)), H', ⟨by have := HK1.out; first | omega | exact Nat.le_refl _⟩, ⟨by exact BK224.out⟩, ⟨by exact HI223.out⟩, ⟨by exact HB.out⟩⟩
            case rest =>
              clear HC11
              try clear c1
              try clear p2
              try clear c3
              try clear c7
              try clear c7b0
              try clear c8
              try clear c10
              try clear c12
              try clear c12b0
              try clear c12b1
              try clear p2
              obtain ⟨kq, x16_10, rfl, HA, HJ10, BK224, HI223, HB⟩ := hcut
              cases kq with
              | zero => exact absurd HA.out (by simp [spykeep2_DomeKeeps.j1])
              | succ kj10 =>
                have H := HA.out
                clear HA
                simp only [spykeep2_DomeKeeps.j1] at H
                by_cases c13 : x16_10 = true
                · subst c13
                  have H1 : ((dome_Set.f kj10 x225000_1 x225001_1 x225002_1 x225003_1 x225004_1 x225005_1 x225006_1 x225007_1 true true).bind fun bt227 => (spykeep2_DomeKeeps.j2 kj10 bt227.2.2.2.2.2.2.2.2 x12_1 l0 t226 bt227.1 bt227.2.1 bt227.2.2.1 bt227.2.2.2.1 bt227.2.2.2.2.1 bt227.2.2.2.2.2.1 bt227.2.2.2.2.2.2.1 bt227.2.2.2.2.2.2.2.1)) = some r := by rw [if_pos rfl] at H; exact H
                  clear H
                  have H := H1
                  clear H1
                  replace H := Option.bind_eq_some_iff.mp H
                  obtain ⟨⟨t227, t228, t229, t230, t231, t232, t233, t234, t235⟩, A140, H⟩ := H
                  replace H : (spykeep2_DomeKeeps.j2 kj10 t235 x12_1 l0 t226 t227 t228 t229 t230 t231 t232 t233 t234) = some r := H
                  have A14 := Aside0.mk A140
                  clear A140
                  have H' := Aside0.mk H
                  clear H
                  have hnb15 := NB224_223.out
                  have hnc15 := NB223_224.out
                  obtain ⟨hcz16_0, hcz16_1, hcz16_2, hcz16_3, hcz16_4, hcz16_5, hcz16_6, hcz16_7, hfz16_0, hfz16_1, hfz16_2, hfz16_3, hfz16_4, hfz16_5, hfz16_6, hfz16_7⟩ := tch8 BK224.out
                  go_wp2_with (first | ((with_reducible refine gate_callee (f := 11) rfl ?_); refine goesL_ (some 21) rfl rfl Try.func11 (by kernel_rfl) rfl #[.agg #[.int .i64 x225000_1, .int .i64 x225001_1, .bool x225002_1, .bool x225003_1, .int .i64 x225004_1, .int .i64 x225005_1, .int .i64 x225006_1, .bool x225007_1], .bool true, .bool true] rfl (by (try simp only [List.map_toArray, List.map_cons, List.map_nil]); first | done | rfl | (simp only [List.length_drop, List.length_take]; rfl)) ?_; (with_reducible refine (dome_Set.calls kj10 x225000_1 x225001_1 x225002_1 x225003_1 x225004_1 x225005_1 x225006_1 x225007_1 true true t227 t228 t229 t230 t231 t232 t233 t234 t235 _ A14.out).mono ?_); rintro e w17 ⟨rfl, hb⟩; refine ⟨_, rfl, ?_⟩; have n0_ := Aside0.mk (blk_below BK224.out hb); have n1_ := Aside0.mk (IsS26.below (by exact HI223.out) hb); have n2_ := Aside0.mk (below_step (by exact HB.out) hb); clear BK224; clear HI223; clear HB; have BK224 := n0_; have HI223 := n1_; have HB := n2_; clear n0_ n1_ n2_; (try clear hb); (try clear hb2); (try clear hk); (try clear hi); obtain ⟨hcz18_0, hcz18_1, hcz18_2, hcz18_3, hcz18_4, hcz18_5, hcz18_6, hcz18_7, hfz18_0, hfz18_1, hfz18_2, hfz18_3, hfz18_4, hfz18_5, hfz18_6, hfz18_7⟩ := tch8 BK224.out) | ((with_reducible refine gate_store (t := 30) (p := 4) rfl ?_); refine store_event (t := 30) (p := 4) (v := ?vo_w19) (w1 := ((((((((w17.setCell ⟨gb224, 0, none⟩ (.int .i64 t227)).setCell ⟨gb224, 1, none⟩ (.int .i64 t228)).setCell ⟨gb224, 2, none⟩ (.bool t229)).setCell ⟨gb224, 3, none⟩ (.bool t230)).setCell ⟨gb224, 4, none⟩ (.int .i64 t231)).setCell ⟨gb224, 5, none⟩ (.int .i64 t232)).setCell ⟨gb224, 6, none⟩ (.int .i64 t233)).setCell ⟨gb224, 7, none⟩ (.bool t234))) ?hg ?ho ?hn ?hr ?_; (case ho => rfl); (case hg => rfl); (case hn => rfl); (case hr => first | (go_simp; done) | (go_simp; rfl)); intro w19 hw; have n0_ : Aside0 (w19.heap[gb224]? = some (.cells #[.int .i64 t227, .int .i64 t228, .bool t229, .bool t230, .int .i64 t231, .int .i64 t232, .int .i64 t233, .bool t234] 30 (0, 0))) := ⟨(by rw [hw]; exact (by (with_reducible repeat (first | refine blk_drewN ?_ _ | refine blk_drew ?_ | refine blk_alloc ?_ _)); refine blk_put (cs := #[.int .i64 t227, .int .i64 t228, .bool t229, .bool t230, .int .i64 t231, .int .i64 t232, .int .i64 t233, .bool x225007_1]) ?_ 7 _ rfl; (with_reducible repeat (first | refine blk_drewN ?_ _ | refine blk_drew ?_ | refine blk_alloc ?_ _)); refine blk_put (cs := #[.int .i64 t227, .int .i64 t228, .bool t229, .bool t230, .int .i64 t231, .int .i64 t232, .int .i64 x225006_1, .bool x225007_1]) ?_ 6 _ rfl; (with_reducible repeat (first | refine blk_drewN ?_ _ | refine blk_drew ?_ | refine blk_alloc ?_ _)); refine blk_put (cs := #[.int .i64 t227, .int .i64 t228, .bool t229, .bool t230, .int .i64 t231, .int .i64 x225005_1, .int .i64 x225006_1, .bool x225007_1]) ?_ 5 _ rfl; (with_reducible repeat (first | refine blk_drewN ?_ _ | refine blk_drew ?_ | refine blk_alloc ?_ _)); refine blk_put (cs := #[.int .i64 t227, .int .i64 t228, .bool t229, .bool t230, .int .i64 x225004_1, .int .i64 x225005_1, .int .i64 x225006_1, .bool x225007_1]) ?_ 4 _ rfl; (with_reducible repeat (first | refine blk_drewN ?_ _ | refine blk_drew ?_ | refine blk_alloc ?_ _)); refine blk_put (cs := #[.int .i64 t227, .int .i64 t228, .bool t229, .bool x225003_1, .int .i64 x225004_1, .int .i64 x225005_1, .int .i64 x225006_1, .bool x225007_1]) ?_ 3 _ rfl; (with_reducible repeat (first | refine blk_drewN ?_ _ | refine blk_drew ?_ | refine blk_alloc ?_ _)); refine blk_put (cs := #[.int .i64 t227, .int .i64 t228, .bool x225002_1, .bool x225003_1, .int .i64 x225004_1, .int .i64 x225005_1, .int .i64 x225006_1, .bool x225007_1]) ?_ 2 _ rfl; (with_reducible repeat (first | refine blk_drewN ?_ _ | refine blk_drew ?_ | refine blk_alloc ?_ _)); refine blk_put (cs := #[.int .i64 t227, .int .i64 x225001_1, .bool x225002_1, .bool x225003_1, .int .i64 x225004_1, .int .i64 x225005_1, .int .i64 x225006_1, .bool x225007_1]) ?_ 1 _ rfl; (with_reducible repeat (first | refine blk_drewN ?_ _ | refine blk_drew ?_ | refine blk_alloc ?_ _)); refine blk_put (cs := #[.int .i64 x225000_1, .int .i64 x225001_1, .bool x225002_1, .bool x225003_1, .int .i64 x225004_1, .int .i64 x225005_1, .int .i64 x225006_1, .bool x225007_1]) ?_ 0 _ rfl; (with_reducible repeat (first | refine blk_drewN ?_ _ | refine blk_drew ?_ | refine blk_alloc ?_ _)); exact BK224.out))⟩; have n1_ : Aside0 (IsS26 w w19 gb223 l0 t226) := ⟨(by rw [hw]; exact (by repeat (first | (with_reducible first | exact HI223.out | apply IsS26.alloc | apply IsS26.drewN | apply IsS26.drew | apply IsS26.set_1 | refine IsS26.far ?_ NB223_224.out _) | exact HI223.out)))⟩; have n2_ : Aside0 (Below w.heap.size w w19) := ⟨(by rw [hw]; exact (by repeat (first | (with_reducible first | exact HB.out | apply below_alloc | apply pw_below_drewN | apply below_drew1 | refine below_set ?_ (IsS26.ge HI223.out) | refine below_set ?_ GE224.out) | exact HB.out)))⟩; clear hw; clear BK224; clear HI223; clear HB; have BK224 := n0_; have HI223 := n1_; have HB := n2_; clear n0_ n1_ n2_))
                  go_meet
                  case rel => exact ⟨_, (t235), (t226), (t227), (t228), (t229), (t230), (t231), (t232), (t233), (t234), (by first | rfl | (simp; done) | (simp [*]; done)), H', ⟨by have := HK1.out; have := HJ10.out; first | omega | exact Nat.le_refl _⟩, ⟨by exact BK224.out⟩, ⟨by exact HI223.out⟩, ⟨by exact HB.out⟩⟩
                · replace c13 := Bool.eq_false_iff.mpr c13
                  subst c13
                  have H1 : (if t225 = 2 then ((spymake_Stream_Next.f l0 t226 2).bind fun bt236 => ((spymake_Stream_Next.f l0 bt236.2 2).bind fun bt238 => ((dome_Set.f kj10 x225000_1 x225001_1 x225002_1 x225003_1 x225004_1 x225005_1 x225006_1 x225007_1 (bt236.1 == 0) (bt238.1 == 0)).bind fun bt240 => (spykeep2_DomeKeeps.j2 kj10 bt240.2.2.2.2.2.2.2.2 x12_1 l0 bt238.2 bt240.1 bt240.2.1 bt240.2.2.1 bt240.2.2.2.1 bt240.2.2.2.2.1 bt240.2.2.2.2.2.1 bt240.2.2.2.2.2.2.1 bt240.2.2.2.2.2.2.2.1)))) else (if t225 = 3 then ((spymake_Stream_Next.f l0 t226 1099511627776).bind fun bt249 => ((dome_Rotate.f kj10 x225000_1 x225001_1 x225002_1 x225003_1 x225004_1 x225005_1 x225006_1 x225007_1 bt249.1).bind fun bt251 => (spykeep2_DomeKeeps.j2 kj10 bt251.2.2.2.2.2.2.2.2 x12_1 l0 bt249.2 bt251.1 bt251.2.1 bt251.2.2.1 bt251.2.2.2.1 bt251.2.2.2.2.1 bt251.2.2.2.2.2.1 bt251.2.2.2.2.2.2.1 bt251.2.2.2.2.2.2.2.1))) else (if t225 = 4 then ((dome_Brake.f kj10 x225000_1 x225001_1 x225002_1 x225003_1 x225004_1 x225005_1 x225006_1 x225007_1).bind fun bt260 => (spykeep2_DomeKeeps.j2 kj10 bt260.2.2.2.2.2.2.2.2 x12_1 l0 t226 bt260.1 bt260.2.1 bt260.2.2.1 bt260.2.2.2.1 bt260.2.2.2.2.1 bt260.2.2.2.2.2.1 bt260.2.2.2.2.2.2.1 bt260.2.2.2.2.2.2.2.1)) else (spykeep2_DomeKeeps.j2 kj10 0 x12_1 l0 t226 x225000_1 x225001_1 x225002_1 x225003_1 x225004_1 x225005_1 x225006_1 x225007_1)))) = some r := by rw [if_neg (show ¬ (false = true) by decide)] at H; exact H
                  clear H
                  have H := H1
                  clear H1
                  by_cases c20 : t225 = 2
                  · rw [if_pos c20] at H
                    have c20b0 : (t225 == 2) = true := beq_iff_eq.mpr c20
                    have c20b1 : (t225 != 2) = false := bne_eq_false_iff_eq.mpr c20
                    clear c20
                    replace H := Option.bind_eq_some_iff.mp H
                    obtain ⟨⟨t236, t237⟩, A210, H⟩ := H
                    replace H : ((spymake_Stream_Next.f l0 t237 2).bind fun bt238 => ((dome_Set.f kj10 x225000_1 x225001_1 x225002_1 x225003_1 x225004_1 x225005_1 x225006_1 x225007_1 (t236 == 0) (bt238.1 == 0)).bind fun bt240 => (spykeep2_DomeKeeps.j2 kj10 bt240.2.2.2.2.2.2.2.2 x12_1 l0 bt238.2 bt240.1 bt240.2.1 bt240.2.2.1 bt240.2.2.2.1 bt240.2.2.2.2.1 bt240.2.2.2.2.2.1 bt240.2.2.2.2.2.2.1 bt240.2.2.2.2.2.2.2.1))) = some r := H
                    have A21 := Aside0.mk A210
                    clear A210
                    replace H := Option.bind_eq_some_iff.mp H
                    obtain ⟨⟨t238, t239⟩, A220, H⟩ := H
                    replace H : ((dome_Set.f kj10 x225000_1 x225001_1 x225002_1 x225003_1 x225004_1 x225005_1 x225006_1 x225007_1 (t236 == 0) (t238 == 0)).bind fun bt240 => (spykeep2_DomeKeeps.j2 kj10 bt240.2.2.2.2.2.2.2.2 x12_1 l0 t239 bt240.1 bt240.2.1 bt240.2.2.1 bt240.2.2.2.1 bt240.2.2.2.2.1 bt240.2.2.2.2.2.1 bt240.2.2.2.2.2.2.1 bt240.2.2.2.2.2.2.2.1)) = some r := H
                    have A22 := Aside0.mk A220
                    clear A220
                    replace H := Option.bind_eq_some_iff.mp H
                    obtain ⟨⟨t240, t241, t242, t243, t244, t245, t246, t247, t248⟩, A230, H⟩ := H
                    replace H : (spykeep2_DomeKeeps.j2 kj10 t248 x12_1 l0 t239 t240 t241 t242 t243 t244 t245 t246 t247) = some r := H
                    have A23 := Aside0.mk A230
                    clear A230
                    have H' := Aside0.mk H
                    clear H
                    try go_wp2
                    have n0_ := Aside0.mk (blk_drew BK224.out)
                    have n1_ := Aside0.mk (IsS26.drew HI223.out)
                    have n2_ := Aside0.mk (below_drew1 HB.out)
                    clear BK224
                    clear HI223
                    clear HB
                    have BK224 := n0_
                    have HI223 := n1_
                    have HB := n2_
                    clear n0_ n1_ n2_
                    refine start_ (n := 13) (S := fun w' => w'.cell? ⟨gb224, 0, none⟩ = some (.int .i64 x225000_1) ∧ w'.cell? ⟨gb224, 1, none⟩ = some (.int .i64 x225001_1) ∧ w'.cell? ⟨gb224, 2, none⟩ = some (.bool x225002_1) ∧ w'.cell? ⟨gb224, 3, none⟩ = some (.bool x225003_1) ∧ w'.cell? ⟨gb224, 4, none⟩ = some (.int .i64 x225004_1) ∧ w'.cell? ⟨gb224, 5, none⟩ = some (.int .i64 x225005_1) ∧ w'.cell? ⟨gb224, 6, none⟩ = some (.int .i64 x225006_1) ∧ w'.cell? ⟨gb224, 7, none⟩ = some (.bool x225007_1)) (ds := [11]) #[false, false, false, false, false, false, false, false, false, false, false, false, false] (by kernel_rfl) rfl rfl ⟨(blk_cell BK224.out 0).trans rfl, (blk_cell BK224.out 1).trans rfl, (blk_cell BK224.out 2).trans rfl, (blk_cell BK224.out 3).trans rfl, (blk_cell BK224.out 4).trans rfl, (blk_cell BK224.out 5).trans rfl, (blk_cell BK224.out 6).trans rfl, (blk_cell BK224.out 7).trans rfl⟩ (fun hHeld => ?_); refine with_tabW spykeep2_DomeKeeps.tab13 spykeep2_DomeKeeps.bits13 (fun HT_ HW_ => ?_)
                    generalize wc.drew = w24 at BK224 HI223 HB hHeld ⊢
                    refine pure_ (i := 1) (N := some 28) (v := ?_) (a' := ?_) #[false, true, false, false, false, false, false, false, false, false, false, false, false] rfl rfl (any_of HT_.out (by kernel_rfl)) (fun _ _ _ h => h) (Or.inl ⟨by rfl, ?_⟩) ?_ ?_
                    rotate_left
                    · intro w'
                      go_simp
                      with_reducible rfl
                    rotate_left
                    · simp only [Act.put, List.setIfInBounds_toArray, List.set_cons_zero, List.set_cons_succ, i64_w, i32_w]
                      rfl
                    refine pure_ (i := 4) (N := some 31) (v := ?_) (a' := ?_) #[false, true, false, false, true, false, false, false, false, false, false, false, false] rfl rfl (any_of HT_.out (by kernel_rfl)) (fun _ _ _ h => h) (Or.inl ⟨by rfl, ?_⟩) ?_ ?_
                    rotate_left
                    · intro w'
                      go_simp
                      with_reducible rfl
                    rotate_left
                    · simp only [Act.put, List.setIfInBounds_toArray, List.set_cons_zero, List.set_cons_succ, i64_w, i32_w]
                      rfl
                    refine take_ (i := 0) (N := some 27) (v := ?_) (a' := ?_) #[true, true, false, false, true, false, false, false, false, false, false, false, false] rfl rfl (take_ofW HT_.out HW_.out (by kernel_rfl)) (fun _ _ _ h => h) (Or.inl ⟨by rfl, ?_⟩) hHeld ?_ ?_
                    rotate_left
                    · rintro w' ⟨s0, s1, s2, s3, s4, s5, s6, s7⟩
                      go_simp
                      with_reducible rfl
                    rotate_left
                    · simp only [Act.put, List.setIfInBounds_toArray, List.set_cons_zero, List.set_cons_succ, i64_w, i32_w]
                      rfl
                    refine one_ (i := 2) (N := some 29) #[true, true, true, false, true, false, false, false, false, false, false, false, false] rfl rfl (one_of HT_.out (by kernel_rfl)) (by decide) (fun K hK => ?_)
                    refine goes_ Try.func12 (by kernel_rfl) rfl #[.pointer (some ⟨gb223, 0, none⟩), .int .i64 2] (by rfl) rfl rfl (by (try simp only [List.map_toArray, List.map_cons, List.map_nil]); first | done | rfl | (simp only [List.length_drop, List.length_take]; rfl)) ?_
                    with_reducible refine (spymake_Stream_Next.calls gb223 l0 t226 2 t236 t237 w _ ?side1 ?side2 A21.out).mono ?_
                    (case side1 => exact HI223.out)
                    (case side2 => exact HB.out)
                    rintro e w25 ⟨rfl, hi, hb, hk⟩
                    refine ⟨_, rfl, ?_⟩
                    have n0_ := Aside0.mk (KeepBut.blk hk BK224.out NB224_223.out (by simp))
                    have n1_ := Aside0.mk (hb)
                    have n2_ := Aside0.mk (hi)
                    clear BK224
                    clear HB
                    clear HI223
                    have BK224 := n0_
                    have HB := n1_
                    have HI223 := n2_
                    clear n0_ n1_ n2_
                    (try clear hb)
                    (try clear hb2)
                    (try clear hk)
                    (try clear hi)
                    refine hK.out _ _ ⟨(blk_cell BK224.out 0).trans rfl, (blk_cell BK224.out 1).trans rfl, (blk_cell BK224.out 2).trans rfl, (blk_cell BK224.out 3).trans rfl, (blk_cell BK224.out 4).trans rfl, (blk_cell BK224.out 5).trans rfl, (blk_cell BK224.out 6).trans rfl, (blk_cell BK224.out 7).trans rfl⟩ (fun hHeld => ?_)
                    clear hK K
                    refine norm_ (a' := ?_) ?_ ?_
                    rotate_left
                    · show Act.put _ (some 29) _ = _
                      simp only [Act.put, List.setIfInBounds_toArray, List.set_cons_zero, List.set_cons_succ, i64_w, i32_w]
                      rfl
                    refine pure_ (i := 3) (N := some 30) (v := ?_) (a' := ?_) #[true, true, true, true, true, false, false, false, false, false, false, false, false] rfl rfl (any_of HT_.out (by kernel_rfl)) (fun _ _ _ h => h) (Or.inl ⟨by rfl, ?_⟩) ?_ ?_
                    rotate_left
                    · intro w'
                      go_simp
                      with_reducible rfl
                    rotate_left
                    · simp only [Act.put, List.setIfInBounds_toArray, List.set_cons_zero, List.set_cons_succ, i64_w, i32_w]
                      rfl
                    refine one_ (i := 5) (N := some 32) #[true, true, true, true, true, true, false, false, false, false, false, false, false] rfl rfl (one_of HT_.out (by kernel_rfl)) (by decide) (fun K hK => ?_)
                    refine goes_ Try.func12 (by kernel_rfl) rfl #[.pointer (some ⟨gb223, 0, none⟩), .int .i64 2] (by rfl) rfl rfl (by (try simp only [List.map_toArray, List.map_cons, List.map_nil]); first | done | rfl | (simp only [List.length_drop, List.length_take]; rfl)) ?_
                    with_reducible refine (spymake_Stream_Next.calls gb223 l0 t237 2 t238 t239 w _ ?side1 ?side2 A22.out).mono ?_
                    (case side1 => exact HI223.out)
                    (case side2 => exact HB.out)
                    rintro e w26 ⟨rfl, hi, hb, hk⟩
                    refine ⟨_, rfl, ?_⟩
                    have n0_ := Aside0.mk (KeepBut.blk hk BK224.out NB224_223.out (by simp))
                    have n1_ := Aside0.mk (hb)
                    have n2_ := Aside0.mk (hi)
                    clear BK224
                    clear HB
                    clear HI223
                    have BK224 := n0_
                    have HB := n1_
                    have HI223 := n2_
                    clear n0_ n1_ n2_
                    (try clear hb)
                    (try clear hb2)
                    (try clear hk)
                    (try clear hi)
                    refine hK.out _ _ ⟨(blk_cell BK224.out 0).trans rfl, (blk_cell BK224.out 1).trans rfl, (blk_cell BK224.out 2).trans rfl, (blk_cell BK224.out 3).trans rfl, (blk_cell BK224.out 4).trans rfl, (blk_cell BK224.out 5).trans rfl, (blk_cell BK224.out 6).trans rfl, (blk_cell BK224.out 7).trans rfl⟩ (fun hHeld => ?_)
                    clear hK K
                    refine norm_ (a' := ?_) ?_ ?_
                    rotate_left
                    · show Act.put _ (some 32) _ = _
                      simp only [Act.put, List.setIfInBounds_toArray, List.set_cons_zero, List.set_cons_succ, i64_w, i32_w]
                      rfl
                    refine pure_ (i := 6) (N := some 33) (v := ?_) (a' := ?_) #[true, true, true, true, true, true, true, false, false, false, false, false, false] rfl rfl (any_of HT_.out (by kernel_rfl)) (fun _ _ _ h => h) (Or.inl ⟨by rfl, ?_⟩) ?_ ?_
                    rotate_left
                    · intro w'
                      go_simp
                      with_reducible rfl
                    rotate_left
                    · simp only [Act.put, List.setIfInBounds_toArray, List.set_cons_zero, List.set_cons_succ, i64_w, i32_w]
                      rfl
                    refine one_ (i := 7) (N := some 34) #[true, true, true, true, true, true, true, true, false, false, false, false, false] rfl rfl (one_of HT_.out (by kernel_rfl)) (by decide) (fun K hK => ?_)
                    refine goes_ Try.func11 (by kernel_rfl) rfl #[.agg #[.int .i64 x225000_1, .int .i64 x225001_1, .bool x225002_1, .bool x225003_1, .int .i64 x225004_1, .int .i64 x225005_1, .int .i64 x225006_1, .bool x225007_1], .bool (t236 == 0), .bool (t238 == 0)] (by rfl) rfl rfl (by (try simp only [List.map_toArray, List.map_cons, List.map_nil]); first | done | rfl | (simp only [List.length_drop, List.length_take]; rfl)) ?_
                    with_reducible refine (dome_Set.calls kj10 x225000_1 x225001_1 x225002_1 x225003_1 x225004_1 x225005_1 x225006_1 x225007_1 (t236 == 0) (t238 == 0) t240 t241 t242 t243 t244 t245 t246 t247 t248 _ A23.out).mono ?_
                    rintro e w27 ⟨rfl, hb⟩
                    refine ⟨_, rfl, ?_⟩
                    have n0_ := Aside0.mk (blk_below BK224.out hb)
                    have n1_ := Aside0.mk (IsS26.below (by exact HI223.out) hb)
                    have n2_ := Aside0.mk (below_step (by exact HB.out) hb)
                    clear BK224
                    clear HI223
                    clear HB
                    have BK224 := n0_
                    have HI223 := n1_
                    have HB := n2_
                    clear n0_ n1_ n2_
                    (try clear hb)
                    (try clear hb2)
                    (try clear hk)
                    (try clear hi)
                    refine hK.out _ _ ⟨(blk_cell BK224.out 0).trans rfl, (blk_cell BK224.out 1).trans rfl, (blk_cell BK224.out 2).trans rfl, (blk_cell BK224.out 3).trans rfl, (blk_cell BK224.out 4).trans rfl, (blk_cell BK224.out 5).trans rfl, (blk_cell BK224.out 6).trans rfl, (blk_cell BK224.out 7).trans rfl⟩ (fun hHeld => ?_)
                    clear hK K
                    refine norm_ (a' := ?_) ?_ ?_
                    rotate_left
                    · show Act.put _ (some 34) _ = _
                      simp only [Act.put, List.setIfInBounds_toArray, List.set_cons_zero, List.set_cons_succ, i64_w, i32_w]
                      rfl
                    refine pure_ (i := 8) (N := some 26) (v := ?_) (a' := ?_) #[true, true, true, true, true, true, true, true, true, false, false, false, false] rfl rfl (any_of HT_.out (by kernel_rfl)) (fun _ _ _ h => h) (Or.inl ⟨by rfl, ?_⟩) ?_ ?_
                    rotate_left
                    · intro w'
                      go_simp
                      with_reducible rfl
                    rotate_left
                    · simp only [Act.put, List.setIfInBounds_toArray, List.set_cons_zero, List.set_cons_succ, i64_w, i32_w]
                      rfl
                    refine pure_ (i := 9) (N := some 35) (v := ?_) (a' := ?_) #[true, true, true, true, true, true, true, true, true, true, false, false, false] rfl rfl (any_of HT_.out (by kernel_rfl)) (fun _ _ _ h => h) (Or.inl ⟨by rfl, ?_⟩) ?_ ?_
                    rotate_left
                    · intro w'
                      go_simp
                      with_reducible rfl
                    rotate_left
                    · simp only [Act.put, List.setIfInBounds_toArray, List.set_cons_zero, List.set_cons_succ, i64_w, i32_w]
                      rfl
                    refine pure_ (i := 10) (N := some 36) (v := ?_) (a' := ?_) #[true, true, true, true, true, true, true, true, true, true, true, false, false] rfl rfl (any_of HT_.out (by kernel_rfl)) (fun _ _ _ h => h) (Or.inl ⟨by rfl, ?_⟩) ?_ ?_
                    rotate_left
                    · intro w'
                      go_simp
                      with_reducible rfl
                    rotate_left
                    · simp only [Act.put, List.setIfInBounds_toArray, List.set_cons_zero, List.set_cons_succ, i64_w, i32_w]
                      rfl
                    refine last_ (i := 11) (N := none) #[true, true, true, true, true, true, true, true, true, true, true, true, false] rfl rfl (one_of HT_.out (by kernel_rfl)) (by decide) (fun K hK => ?_)
                    have hs28 : w27.cell? ⟨gb224, 0, none⟩ = some (.int .i64 x225000_1) := (blk_cell BK224.out 0).trans rfl
                    have hfs28 := blk_frozen BK224.out 0
                    have hs29 : w27.cell? ⟨gb224, 1, none⟩ = some (.int .i64 x225001_1) := (blk_cell BK224.out 1).trans rfl
                    have hfs29 := blk_frozen BK224.out 1
                    have hs30 : w27.cell? ⟨gb224, 2, none⟩ = some (.bool x225002_1) := (blk_cell BK224.out 2).trans rfl
                    have hfs30 := blk_frozen BK224.out 2
                    have hs31 : w27.cell? ⟨gb224, 3, none⟩ = some (.bool x225003_1) := (blk_cell BK224.out 3).trans rfl
                    have hfs31 := blk_frozen BK224.out 3
                    have hs32 : w27.cell? ⟨gb224, 4, none⟩ = some (.int .i64 x225004_1) := (blk_cell BK224.out 4).trans rfl
                    have hfs32 := blk_frozen BK224.out 4
                    have hs33 : w27.cell? ⟨gb224, 5, none⟩ = some (.int .i64 x225005_1) := (blk_cell BK224.out 5).trans rfl
                    have hfs33 := blk_frozen BK224.out 5
                    have hs34 : w27.cell? ⟨gb224, 6, none⟩ = some (.int .i64 x225006_1) := (blk_cell BK224.out 6).trans rfl
                    have hfs34 := blk_frozen BK224.out 6
                    have hs35 : w27.cell? ⟨gb224, 7, none⟩ = some (.bool x225007_1) := (blk_cell BK224.out 7).trans rfl
                    have hfs35 := blk_frozen BK224.out 7
                    refine skip_ (w1 := ?_) (by rfl) rfl ?_ ?_
                    rotate_left
                    · go_simp
                      rfl
                    refine hK.out _ _ ?_
                    clear hK K
                    refine pure_ (i := 12) (N := some 5) (v := ?_) (a' := ?_) #[true, true, true, true, true, true, true, true, true, true, true, true, true] rfl rfl (any_of HT_.out (by kernel_rfl)) (fun _ _ _ h => h) (Or.inl ⟨by rfl, ?_⟩) ?_ ?_
                    rotate_left
                    · intro w'
                      go_simp
                      with_reducible rfl
                    rotate_left
                    · simp only [Act.put, List.setIfInBounds_toArray, List.set_cons_zero, List.set_cons_succ, i64_w, i32_w]
                      rfl
                    refine done_ (done_of HT_.out (by kernel_rfl)) ?_
                    try go_wp2
                    go_meet
                    case rel => exact ⟨_, (t248), (t239), (t240), (t241), (t242), (t243), (t244), (t245), (t246), (t247), (by first | rfl | (simp; done) | (simp [*]; done)), H', ⟨by have := HK1.out; have := HJ10.out; first | omega | exact Nat.le_refl _⟩, ⟨by (with_reducible repeat (first | refine blk_drewN ?_ _ | refine blk_drew ?_ | refine blk_alloc ?_ _)); refine blk_put (cs := #[.int .i64 t240, .int .i64 t241, .bool t242, .bool t243, .int .i64 t244, .int .i64 t245, .int .i64 t246, .bool x225007_1]) ?_ 7 _ rfl; (with_reducible repeat (first | refine blk_drewN ?_ _ | refine blk_drew ?_ | refine blk_alloc ?_ _)); refine blk_put (cs := #[.int .i64 t240, .int .i64 t241, .bool t242, .bool t243, .int .i64 t244, .int .i64 t245, .int .i64 x225006_1, .bool x225007_1]) ?_ 6 _ rfl; (with_reducible repeat (first | refine blk_drewN ?_ _ | refine blk_drew ?_ | refine blk_alloc ?_ _)); refine blk_put (cs := #[.int .i64 t240, .int .i64 t241, .bool t242, .bool t243, .int .i64 t244, .int .i64 x225005_1, .int .i64 x225006_1, .bool x225007_1]) ?_ 5 _ rfl; (with_reducible repeat (first | refine blk_drewN ?_ _ | refine blk_drew ?_ | refine blk_alloc ?_ _)); refine blk_put (cs := #[.int .i64 t240, .int .i64 t241, .bool t242, .bool t243, .int .i64 x225004_1, .int .i64 x225005_1, .int .i64 x225006_1, .bool x225007_1]) ?_ 4 _ rfl; (with_reducible repeat (first | refine blk_drewN ?_ _ | refine blk_drew ?_ | refine blk_alloc ?_ _)); refine blk_put (cs := #[.int .i64 t240, .int .i64 t241, .bool t242, .bool x225003_1, .int .i64 x225004_1, .int .i64 x225005_1, .int .i64 x225006_1, .bool x225007_1]) ?_ 3 _ rfl; (with_reducible repeat (first | refine blk_drewN ?_ _ | refine blk_drew ?_ | refine blk_alloc ?_ _)); refine blk_put (cs := #[.int .i64 t240, .int .i64 t241, .bool x225002_1, .bool x225003_1, .int .i64 x225004_1, .int .i64 x225005_1, .int .i64 x225006_1, .bool x225007_1]) ?_ 2 _ rfl; (with_reducible repeat (first | refine blk_drewN ?_ _ | refine blk_drew ?_ | refine blk_alloc ?_ _)); refine blk_put (cs := #[.int .i64 t240, .int .i64 x225001_1, .bool x225002_1, .bool x225003_1, .int .i64 x225004_1, .int .i64 x225005_1, .int .i64 x225006_1, .bool x225007_1]) ?_ 1 _ rfl; (with_reducible repeat (first | refine blk_drewN ?_ _ | refine blk_drew ?_ | refine blk_alloc ?_ _)); refine blk_put (cs := #[.int .i64 x225000_1, .int .i64 x225001_1, .bool x225002_1, .bool x225003_1, .int .i64 x225004_1, .int .i64 x225005_1, .int .i64 x225006_1, .bool x225007_1]) ?_ 0 _ rfl; (with_reducible repeat (first | refine blk_drewN ?_ _ | refine blk_drew ?_ | refine blk_alloc ?_ _)); exact BK224.out⟩, ⟨by repeat (first | (with_reducible first | exact HI223.out | apply IsS26.alloc | apply IsS26.drewN | apply IsS26.drew | apply IsS26.set_1 | refine IsS26.far ?_ NB223_224.out _) | exact HI223.out)⟩, ⟨by repeat (first | (with_reducible first | exact HB.out | apply below_alloc | apply pw_below_drewN | apply below_drew1 | refine below_set ?_ (IsS26.ge HI223.out) | refine below_set ?_ GE224.out) | exact HB.out)⟩⟩
                  · rw [if_neg c20] at H
                    have c20b0 : (t225 == 2) = false := beq_eq_false_iff_ne.mpr c20
                    have c20b1 : (t225 != 2) = true := bne_iff_ne.mpr c20
                    by_cases c36 : t225 = 3
                    · rw [if_pos c36] at H
                      have c36b0 : (t225 == 3) = true := beq_iff_eq.mpr c36
                      have c36b1 : (t225 != 3) = false := bne_eq_false_iff_eq.mpr c36
                      clear c36
                      replace H := Option.bind_eq_some_iff.mp H
                      obtain ⟨⟨t249, t250⟩, A370, H⟩ := H
                      replace H : ((dome_Rotate.f kj10 x225000_1 x225001_1 x225002_1 x225003_1 x225004_1 x225005_1 x225006_1 x225007_1 t249).bind fun bt251 => (spykeep2_DomeKeeps.j2 kj10 bt251.2.2.2.2.2.2.2.2 x12_1 l0 t250 bt251.1 bt251.2.1 bt251.2.2.1 bt251.2.2.2.1 bt251.2.2.2.2.1 bt251.2.2.2.2.2.1 bt251.2.2.2.2.2.2.1 bt251.2.2.2.2.2.2.2.1)) = some r := H
                      have A37 := Aside0.mk A370
                      clear A370
                      replace H := Option.bind_eq_some_iff.mp H
                      obtain ⟨⟨t251, t252, t253, t254, t255, t256, t257, t258, t259⟩, A380, H⟩ := H
                      replace H : (spykeep2_DomeKeeps.j2 kj10 t259 x12_1 l0 t250 t251 t252 t253 t254 t255 t256 t257 t258) = some r := H
                      have A38 := Aside0.mk A380
                      clear A380
                      have H' := Aside0.mk H
                      clear H
                      try go_wp2
                      have n0_ := Aside0.mk (blk_drew BK224.out)
                      have n1_ := Aside0.mk (IsS26.drew HI223.out)
                      have n2_ := Aside0.mk (below_drew1 HB.out)
                      clear BK224
                      clear HI223
                      clear HB
                      have BK224 := n0_
                      have HI223 := n1_
                      have HB := n2_
                      clear n0_ n1_ n2_
                      refine start_ (n := 9) (S := fun w' => w'.cell? ⟨gb224, 0, none⟩ = some (.int .i64 x225000_1) ∧ w'.cell? ⟨gb224, 1, none⟩ = some (.int .i64 x225001_1) ∧ w'.cell? ⟨gb224, 2, none⟩ = some (.bool x225002_1) ∧ w'.cell? ⟨gb224, 3, none⟩ = some (.bool x225003_1) ∧ w'.cell? ⟨gb224, 4, none⟩ = some (.int .i64 x225004_1) ∧ w'.cell? ⟨gb224, 5, none⟩ = some (.int .i64 x225005_1) ∧ w'.cell? ⟨gb224, 6, none⟩ = some (.int .i64 x225006_1) ∧ w'.cell? ⟨gb224, 7, none⟩ = some (.bool x225007_1)) (ds := [7]) #[false, false, false, false, false, false, false, false, false] (by kernel_rfl) rfl rfl ⟨(blk_cell BK224.out 0).trans rfl, (blk_cell BK224.out 1).trans rfl, (blk_cell BK224.out 2).trans rfl, (blk_cell BK224.out 3).trans rfl, (blk_cell BK224.out 4).trans rfl, (blk_cell BK224.out 5).trans rfl, (blk_cell BK224.out 6).trans rfl, (blk_cell BK224.out 7).trans rfl⟩ (fun hHeld => ?_); refine with_tabW spykeep2_DomeKeeps.tab15 spykeep2_DomeKeeps.bits15 (fun HT_ HW_ => ?_)
                      generalize wc.drew = w39 at BK224 HI223 HB hHeld ⊢
                      refine pure_ (i := 1) (N := some 41) (v := ?_) (a' := ?_) #[false, true, false, false, false, false, false, false, false] rfl rfl (any_of HT_.out (by kernel_rfl)) (fun _ _ _ h => h) (Or.inl ⟨by rfl, ?_⟩) ?_ ?_
                      rotate_left
                      · intro w'
                        go_simp
                        with_reducible rfl
                      rotate_left
                      · simp only [Act.put, List.setIfInBounds_toArray, List.set_cons_zero, List.set_cons_succ, i64_w, i32_w]
                        rfl
                      refine take_ (i := 0) (N := some 40) (v := ?_) (a' := ?_) #[true, true, false, false, false, false, false, false, false] rfl rfl (take_ofW HT_.out HW_.out (by kernel_rfl)) (fun _ _ _ h => h) (Or.inl ⟨by rfl, ?_⟩) hHeld ?_ ?_
                      rotate_left
                      · rintro w' ⟨s0, s1, s2, s3, s4, s5, s6, s7⟩
                        go_simp
                        with_reducible rfl
                      rotate_left
                      · simp only [Act.put, List.setIfInBounds_toArray, List.set_cons_zero, List.set_cons_succ, i64_w, i32_w]
                        rfl
                      refine one_ (i := 2) (N := some 42) #[true, true, true, false, false, false, false, false, false] rfl rfl (one_of HT_.out (by kernel_rfl)) (by decide) (fun K hK => ?_)
                      refine goes_ Try.func12 (by kernel_rfl) rfl #[.pointer (some ⟨gb223, 0, none⟩), .int .i64 1099511627776] (by rfl) rfl rfl (by (try simp only [List.map_toArray, List.map_cons, List.map_nil]); first | done | rfl | (simp only [List.length_drop, List.length_take]; rfl)) ?_
                      with_reducible refine (spymake_Stream_Next.calls gb223 l0 t226 1099511627776 t249 t250 w _ ?side1 ?side2 A37.out).mono ?_
                      (case side1 => exact HI223.out)
                      (case side2 => exact HB.out)
                      rintro e w40 ⟨rfl, hi, hb, hk⟩
                      refine ⟨_, rfl, ?_⟩
                      have n0_ := Aside0.mk (KeepBut.blk hk BK224.out NB224_223.out (by simp))
                      have n1_ := Aside0.mk (hb)
                      have n2_ := Aside0.mk (hi)
                      clear BK224
                      clear HB
                      clear HI223
                      have BK224 := n0_
                      have HB := n1_
                      have HI223 := n2_
                      clear n0_ n1_ n2_
                      (try clear hb)
                      (try clear hb2)
                      (try clear hk)
                      (try clear hi)
                      refine hK.out _ _ ⟨(blk_cell BK224.out 0).trans rfl, (blk_cell BK224.out 1).trans rfl, (blk_cell BK224.out 2).trans rfl, (blk_cell BK224.out 3).trans rfl, (blk_cell BK224.out 4).trans rfl, (blk_cell BK224.out 5).trans rfl, (blk_cell BK224.out 6).trans rfl, (blk_cell BK224.out 7).trans rfl⟩ (fun hHeld => ?_)
                      clear hK K
                      refine norm_ (a' := ?_) ?_ ?_
                      rotate_left
                      · show Act.put _ (some 42) _ = _
                        simp only [Act.put, List.setIfInBounds_toArray, List.set_cons_zero, List.set_cons_succ, i64_w, i32_w]
                        rfl
                      refine one_ (i := 3) (N := some 43) #[true, true, true, true, false, false, false, false, false] rfl rfl (one_of HT_.out (by kernel_rfl)) (by decide) (fun K hK => ?_)
                      refine goes_ Try.func28 (by kernel_rfl) rfl #[.agg #[.int .i64 x225000_1, .int .i64 x225001_1, .bool x225002_1, .bool x225003_1, .int .i64 x225004_1, .int .i64 x225005_1, .int .i64 x225006_1, .bool x225007_1], .int .i64 t249] (by rfl) rfl rfl (by (try simp only [List.map_toArray, List.map_cons, List.map_nil]); first | done | rfl | (simp only [List.length_drop, List.length_take]; rfl)) ?_
                      with_reducible refine (dome_Rotate.calls kj10 x225000_1 x225001_1 x225002_1 x225003_1 x225004_1 x225005_1 x225006_1 x225007_1 t249 t251 t252 t253 t254 t255 t256 t257 t258 t259 _ A38.out).mono ?_
                      rintro e w41 ⟨rfl, hb⟩
                      refine ⟨_, rfl, ?_⟩
                      have n0_ := Aside0.mk (blk_below BK224.out hb)
                      have n1_ := Aside0.mk (IsS26.below (by exact HI223.out) hb)
                      have n2_ := Aside0.mk (below_step (by exact HB.out) hb)
                      clear BK224
                      clear HI223
                      clear HB
                      have BK224 := n0_
                      have HI223 := n1_
                      have HB := n2_
                      clear n0_ n1_ n2_
                      (try clear hb)
                      (try clear hb2)
                      (try clear hk)
                      (try clear hi)
                      refine hK.out _ _ ⟨(blk_cell BK224.out 0).trans rfl, (blk_cell BK224.out 1).trans rfl, (blk_cell BK224.out 2).trans rfl, (blk_cell BK224.out 3).trans rfl, (blk_cell BK224.out 4).trans rfl, (blk_cell BK224.out 5).trans rfl, (blk_cell BK224.out 6).trans rfl, (blk_cell BK224.out 7).trans rfl⟩ (fun hHeld => ?_)
                      clear hK K
                      refine norm_ (a' := ?_) ?_ ?_
                      rotate_left
                      · show Act.put _ (some 43) _ = _
                        simp only [Act.put, List.setIfInBounds_toArray, List.set_cons_zero, List.set_cons_succ, i64_w, i32_w]
                        rfl
                      refine pure_ (i := 4) (N := some 39) (v := ?_) (a' := ?_) #[true, true, true, true, true, false, false, false, false] rfl rfl (any_of HT_.out (by kernel_rfl)) (fun _ _ _ h => h) (Or.inl ⟨by rfl, ?_⟩) ?_ ?_
                      rotate_left
                      · intro w'
                        go_simp
                        with_reducible rfl
                      rotate_left
                      · simp only [Act.put, List.setIfInBounds_toArray, List.set_cons_zero, List.set_cons_succ, i64_w, i32_w]
                        rfl
                      refine pure_ (i := 5) (N := some 44) (v := ?_) (a' := ?_) #[true, true, true, true, true, true, false, false, false] rfl rfl (any_of HT_.out (by kernel_rfl)) (fun _ _ _ h => h) (Or.inl ⟨by rfl, ?_⟩) ?_ ?_
                      rotate_left
                      · intro w'
                        go_simp
                        with_reducible rfl
                      rotate_left
                      · simp only [Act.put, List.setIfInBounds_toArray, List.set_cons_zero, List.set_cons_succ, i64_w, i32_w]
                        rfl
                      refine pure_ (i := 6) (N := some 45) (v := ?_) (a' := ?_) #[true, true, true, true, true, true, true, false, false] rfl rfl (any_of HT_.out (by kernel_rfl)) (fun _ _ _ h => h) (Or.inl ⟨by rfl, ?_⟩) ?_ ?_
                      rotate_left
                      · intro w'
                        go_simp
                        with_reducible rfl
                      rotate_left
                      · simp only [Act.put, List.setIfInBounds_toArray, List.set_cons_zero, List.set_cons_succ, i64_w, i32_w]
                        rfl
                      refine last_ (i := 7) (N := none) #[true, true, true, true, true, true, true, true, false] rfl rfl (one_of HT_.out (by kernel_rfl)) (by decide) (fun K hK => ?_)
                      have hs42 : w41.cell? ⟨gb224, 0, none⟩ = some (.int .i64 x225000_1) := (blk_cell BK224.out 0).trans rfl
                      have hfs42 := blk_frozen BK224.out 0
                      have hs43 : w41.cell? ⟨gb224, 1, none⟩ = some (.int .i64 x225001_1) := (blk_cell BK224.out 1).trans rfl
                      have hfs43 := blk_frozen BK224.out 1
                      have hs44 : w41.cell? ⟨gb224, 2, none⟩ = some (.bool x225002_1) := (blk_cell BK224.out 2).trans rfl
                      have hfs44 := blk_frozen BK224.out 2
                      have hs45 : w41.cell? ⟨gb224, 3, none⟩ = some (.bool x225003_1) := (blk_cell BK224.out 3).trans rfl
                      have hfs45 := blk_frozen BK224.out 3
                      have hs46 : w41.cell? ⟨gb224, 4, none⟩ = some (.int .i64 x225004_1) := (blk_cell BK224.out 4).trans rfl
                      have hfs46 := blk_frozen BK224.out 4
                      have hs47 : w41.cell? ⟨gb224, 5, none⟩ = some (.int .i64 x225005_1) := (blk_cell BK224.out 5).trans rfl
                      have hfs47 := blk_frozen BK224.out 5
                      have hs48 : w41.cell? ⟨gb224, 6, none⟩ = some (.int .i64 x225006_1) := (blk_cell BK224.out 6).trans rfl
                      have hfs48 := blk_frozen BK224.out 6
                      have hs49 : w41.cell? ⟨gb224, 7, none⟩ = some (.bool x225007_1) := (blk_cell BK224.out 7).trans rfl
                      have hfs49 := blk_frozen BK224.out 7
                      refine skip_ (w1 := ?_) (by rfl) rfl ?_ ?_
                      rotate_left
                      · go_simp
                        rfl
                      refine hK.out _ _ ?_
                      clear hK K
                      refine pure_ (i := 8) (N := some 5) (v := ?_) (a' := ?_) #[true, true, true, true, true, true, true, true, true] rfl rfl (any_of HT_.out (by kernel_rfl)) (fun _ _ _ h => h) (Or.inl ⟨by rfl, ?_⟩) ?_ ?_
                      rotate_left
                      · intro w'
                        go_simp
                        with_reducible rfl
                      rotate_left
                      · simp only [Act.put, List.setIfInBounds_toArray, List.set_cons_zero, List.set_cons_succ, i64_w, i32_w]
                        rfl
                      refine done_ (done_of HT_.out (by kernel_rfl)) ?_
                      try go_wp2
                      go_meet
                      case rel => exact ⟨_, (t259), (t250), (t251), (t252), (t253), (t254), (t255), (t256), (t257), (t258), (by first | rfl | (simp; done) | (simp [*]; done)), H', ⟨by have := HK1.out; have := HJ10.out; first | omega | exact Nat.le_refl _⟩, ⟨by (with_reducible repeat (first | refine blk_drewN ?_ _ | refine blk_drew ?_ | refine blk_alloc ?_ _)); refine blk_put (cs := #[.int .i64 t251, .int .i64 t252, .bool t253, .bool t254, .int .i64 t255, .int .i64 t256, .int .i64 t257, .bool x225007_1]) ?_ 7 _ rfl; (with_reducible repeat (first | refine blk_drewN ?_ _ | refine blk_drew ?_ | refine blk_alloc ?_ _)); refine blk_put (cs := #[.int .i64 t251, .int .i64 t252, .bool t253, .bool t254, .int .i64 t255, .int .i64 t256, .int .i64 x225006_1, .bool x225007_1]) ?_ 6 _ rfl; (with_reducible repeat (first | refine blk_drewN ?_ _ | refine blk_drew ?_ | refine blk_alloc ?_ _)); refine blk_put (cs := #[.int .i64 t251, .int .i64 t252, .bool t253, .bool t254, .int .i64 t255, .int .i64 x225005_1, .int .i64 x225006_1, .bool x225007_1]) ?_ 5 _ rfl; (with_reducible repeat (first | refine blk_drewN ?_ _ | refine blk_drew ?_ | refine blk_alloc ?_ _)); refine blk_put (cs := #[.int .i64 t251, .int .i64 t252, .bool t253, .bool t254, .int .i64 x225004_1, .int .i64 x225005_1, .int .i64 x225006_1, .bool x225007_1]) ?_ 4 _ rfl; (with_reducible repeat (first | refine blk_drewN ?_ _ | refine blk_drew ?_ | refine blk_alloc ?_ _)); refine blk_put (cs := #[.int .i64 t251, .int .i64 t252, .bool t253, .bool x225003_1, .int .i64 x225004_1, .int .i64 x225005_1, .int .i64 x225006_1, .bool x225007_1]) ?_ 3 _ rfl; (with_reducible repeat (first | refine blk_drewN ?_ _ | refine blk_drew ?_ | refine blk_alloc ?_ _)); refine blk_put (cs := #[.int .i64 t251, .int .i64 t252, .bool x225002_1, .bool x225003_1, .int .i64 x225004_1, .int .i64 x225005_1, .int .i64 x225006_1, .bool x225007_1]) ?_ 2 _ rfl; (with_reducible repeat (first | refine blk_drewN ?_ _ | refine blk_drew ?_ | refine blk_alloc ?_ _)); refine blk_put (cs := #[.int .i64 t251, .int .i64 x225001_1, .bool x225002_1, .bool x225003_1, .int .i64 x225004_1, .int .i64 x225005_1, .int .i64 x225006_1, .bool x225007_1]) ?_ 1 _ rfl; (with_reducible repeat (first | refine blk_drewN ?_ _ | refine blk_drew ?_ | refine blk_alloc ?_ _)); refine blk_put (cs := #[.int .i64 x225000_1, .int .i64 x225001_1, .bool x225002_1, .bool x225003_1, .int .i64 x225004_1, .int .i64 x225005_1, .int .i64 x225006_1, .bool x225007_1]) ?_ 0 _ rfl; (with_reducible repeat (first | refine blk_drewN ?_ _ | refine blk_drew ?_ | refine blk_alloc ?_ _)); exact BK224.out⟩, ⟨by repeat (first | (with_reducible first | exact HI223.out | apply IsS26.alloc | apply IsS26.drewN | apply IsS26.drew | apply IsS26.set_1 | refine IsS26.far ?_ NB223_224.out _) | exact HI223.out)⟩, ⟨by repeat (first | (with_reducible first | exact HB.out | apply below_alloc | apply pw_below_drewN | apply below_drew1 | refine below_set ?_ (IsS26.ge HI223.out) | refine below_set ?_ GE224.out) | exact HB.out)⟩⟩
                    · rw [if_neg c36] at H
                      have c36b0 : (t225 == 3) = false := beq_eq_false_iff_ne.mpr c36
                      have c36b1 : (t225 != 3) = true := bne_iff_ne.mpr c36
                      by_cases c50 : t225 = 4
                      · rw [if_pos c50] at H
                        have c50b0 : (t225 == 4) = true := beq_iff_eq.mpr c50
                        have c50b1 : (t225 != 4) = false := bne_eq_false_iff_eq.mpr c50
                        clear c50
                        replace H := Option.bind_eq_some_iff.mp H
                        obtain ⟨⟨t260, t261, t262, t263, t264, t265, t266, t267, t268⟩, A510, H⟩ := H
                        replace H : (spykeep2_DomeKeeps.j2 kj10 t268 x12_1 l0 t226 t260 t261 t262 t263 t264 t265 t266 t267) = some r := H
                        have A51 := Aside0.mk A510
                        clear A510
                        have H' := Aside0.mk H
                        clear H
                        have hnb52 := NB224_223.out
                        have hnc52 := NB223_224.out
                        obtain ⟨hcz53_0, hcz53_1, hcz53_2, hcz53_3, hcz53_4, hcz53_5, hcz53_6, hcz53_7, hfz53_0, hfz53_1, hfz53_2, hfz53_3, hfz53_4, hfz53_5, hfz53_6, hfz53_7⟩ := tch8 BK224.out
                        go_wp2_with (first | ((with_reducible refine gate_callee (f := 29) rfl ?_); refine goesL_ (some 50) rfl rfl Try.func29 (by kernel_rfl) rfl #[.agg #[.int .i64 x225000_1, .int .i64 x225001_1, .bool x225002_1, .bool x225003_1, .int .i64 x225004_1, .int .i64 x225005_1, .int .i64 x225006_1, .bool x225007_1]] rfl (by (try simp only [List.map_toArray, List.map_cons, List.map_nil]); first | done | rfl | (simp only [List.length_drop, List.length_take]; rfl)) ?_; (with_reducible refine (dome_Brake.calls kj10 x225000_1 x225001_1 x225002_1 x225003_1 x225004_1 x225005_1 x225006_1 x225007_1 t260 t261 t262 t263 t264 t265 t266 t267 t268 _ A51.out).mono ?_); rintro e w54 ⟨rfl, hb⟩; refine ⟨_, rfl, ?_⟩; have n0_ := Aside0.mk (blk_below BK224.out hb); have n1_ := Aside0.mk (IsS26.below (by exact HI223.out) hb); have n2_ := Aside0.mk (below_step (by exact HB.out) hb); clear BK224; clear HI223; clear HB; have BK224 := n0_; have HI223 := n1_; have HB := n2_; clear n0_ n1_ n2_; (try clear hb); (try clear hb2); (try clear hk); (try clear hi); obtain ⟨hcz55_0, hcz55_1, hcz55_2, hcz55_3, hcz55_4, hcz55_5, hcz55_6, hcz55_7, hfz55_0, hfz55_1, hfz55_2, hfz55_3, hfz55_4, hfz55_5, hfz55_6, hfz55_7⟩ := tch8 BK224.out) | ((with_reducible refine gate_store (t := 30) (p := 4) rfl ?_); refine store_event (t := 30) (p := 4) (v := ?vo_w56) (w1 := ((((((((w54.setCell ⟨gb224, 0, none⟩ (.int .i64 t260)).setCell ⟨gb224, 1, none⟩ (.int .i64 t261)).setCell ⟨gb224, 2, none⟩ (.bool t262)).setCell ⟨gb224, 3, none⟩ (.bool t263)).setCell ⟨gb224, 4, none⟩ (.int .i64 t264)).setCell ⟨gb224, 5, none⟩ (.int .i64 t265)).setCell ⟨gb224, 6, none⟩ (.int .i64 t266)).setCell ⟨gb224, 7, none⟩ (.bool t267))) ?hg ?ho ?hn ?hr ?_; (case ho => rfl); (case hg => rfl); (case hn => rfl); (case hr => first | (go_simp; done) | (go_simp; rfl)); intro w56 hw; have n0_ : Aside0 (w56.heap[gb224]? = some (.cells #[.int .i64 t260, .int .i64 t261, .bool t262, .bool t263, .int .i64 t264, .int .i64 t265, .int .i64 t266, .bool t267] 30 (0, 0))) := ⟨(by rw [hw]; exact (by (with_reducible repeat (first | refine blk_drewN ?_ _ | refine blk_drew ?_ | refine blk_alloc ?_ _)); refine blk_put (cs := #[.int .i64 t260, .int .i64 t261, .bool t262, .bool t263, .int .i64 t264, .int .i64 t265, .int .i64 t266, .bool x225007_1]) ?_ 7 _ rfl; (with_reducible repeat (first | refine blk_drewN ?_ _ | refine blk_drew ?_ | refine blk_alloc ?_ _)); refine blk_put (cs := #[.int .i64 t260, .int .i64 t261, .bool t262, .bool t263, .int .i64 t264, .int .i64 t265, .int .i64 x225006_1, .bool x225007_1]) ?_ 6 _ rfl; (with_reducible repeat (first | refine blk_drewN ?_ _ | refine blk_drew ?_ | refine blk_alloc ?_ _)); refine blk_put (cs := #[.int .i64 t260, .int .i64 t261, .bool t262, .bool t263, .int .i64 t264, .int .i64 x225005_1, .int .i64 x225006_1, .bool x225007_1]) ?_ 5 _ rfl; (with_reducible repeat (first | refine blk_drewN ?_ _ | refine blk_drew ?_ | refine blk_alloc ?_ _)); refine blk_put (cs := #[.int .i64 t260, .int .i64 t261, .bool t262, .bool t263, .int .i64 x225004_1, .int .i64 x225005_1, .int .i64 x225006_1, .bool x225007_1]) ?_ 4 _ rfl; (with_reducible repeat (first | refine blk_drewN ?_ _ | refine blk_drew ?_ | refine blk_alloc ?_ _)); refine blk_put (cs := #[.int .i64 t260, .int .i64 t261, .bool t262, .bool x225003_1, .int .i64 x225004_1, .int .i64 x225005_1, .int .i64 x225006_1, .bool x225007_1]) ?_ 3 _ rfl; (with_reducible repeat (first | refine blk_drewN ?_ _ | refine blk_drew ?_ | refine blk_alloc ?_ _)); refine blk_put (cs := #[.int .i64 t260, .int .i64 t261, .bool x225002_1, .bool x225003_1, .int .i64 x225004_1, .int .i64 x225005_1, .int .i64 x225006_1, .bool x225007_1]) ?_ 2 _ rfl; (with_reducible repeat (first | refine blk_drewN ?_ _ | refine blk_drew ?_ | refine blk_alloc ?_ _)); refine blk_put (cs := #[.int .i64 t260, .int .i64 x225001_1, .bool x225002_1, .bool x225003_1, .int .i64 x225004_1, .int .i64 x225005_1, .int .i64 x225006_1, .bool x225007_1]) ?_ 1 _ rfl; (with_reducible repeat (first | refine blk_drewN ?_ _ | refine blk_drew ?_ | refine blk_alloc ?_ _)); refine blk_put (cs := #[.int .i64 x225000_1, .int .i64 x225001_1, .bool x225002_1, .bool x225003_1, .int .i64 x225004_1, .int .i64 x225005_1, .int .i64 x225006_1, .bool x225007_1]) ?_ 0 _ rfl; (with_reducible repeat (first | refine blk_drewN ?_ _ | refine blk_drew ?_ | refine blk_alloc ?_ _)); exact BK224.out))⟩; have n1_ : Aside0 (IsS26 w w56 gb223 l0 t226) := ⟨(by rw [hw]; exact (by repeat (first | (with_reducible first | exact HI223.out | apply IsS26.alloc | apply IsS26.drewN | apply IsS26.drew | apply IsS26.set_1 | refine IsS26.far ?_ NB223_224.out _) | exact HI223.out)))⟩; have n2_ : Aside0 (Below w.heap.size w w56) := ⟨(by rw [hw]; exact (by repeat (first | (with_reducible first | exact HB.out | apply below_alloc | apply pw_below_drewN | apply below_drew1 | refine below_set ?_ (IsS26.ge HI223.out) | refine below_set ?_ GE224.out) | exact HB.out)))⟩; clear hw; clear BK224; clear HI223; clear HB; have BK224 := n0_; have HI223 := n1_; have HB := n2_; clear n0_ n1_ n2_))
                        go_meet
                        case rel => exact ⟨_, (t268), (t226), (t260), (t261), (t262), (t263), (t264), (t265), (t266), (t267), (by first | rfl | (simp; done) | (simp [*]; done)), H', ⟨by have := HK1.out; have := HJ10.out; first | omega | exact Nat.le_refl _⟩, ⟨by exact BK224.out⟩, ⟨by exact HI223.out⟩, ⟨by exact HB.out⟩⟩
                      · rw [if_neg c50] at H
                        have c50b0 : (t225 == 4) = false := beq_eq_false_iff_ne.mpr c50
                        have c50b1 : (t225 != 4) = true := bne_iff_ne.mpr c50
                        have H' := Aside0.mk H
                        clear H
                        go_wp2
                        go_meet
                        case rel => exact ⟨_, (0), (t226), (x225000_1), (x225001_1), (x225002_1), (x225003_1), (x225004_1), (x225005_1), (x225006_1), (x225007_1), (by first | rfl | (simp; done) | (simp [*]; done)), H', ⟨by have := HK1.out; have := HJ10.out; first | omega | exact Nat.le_refl _⟩, ⟨by exact BK224.out⟩, ⟨by exact HI223.out⟩, ⟨by exact HB.out⟩⟩
          case rest =>
            clear HC9
            try clear c1
            try clear c2
            try clear p2
            try clear c3
            try clear c5
            try clear c7
            try clear c7b0
            try clear c8
            try clear c10
            try clear c11
            try clear c12
            try clear c12b0
            try clear c12b1
            try clear c13
            try clear c15
            try clear c20
            try clear c20b0
            try clear c20b1
            try clear c28
            try clear c29
            try clear c36
            try clear c36b0
            try clear c36b1
            try clear c50
            try clear c50b0
            try clear c50b1
            try clear c52
            try clear hcz16_0
            try clear hcz16_1
            try clear hcz16_2
            try clear hcz16_3
            try clear hcz16_4
            try clear hcz16_5
            try clear hcz16_6
            try clear hcz16_7
            try clear hcz18_0
            try clear hcz18_1
            try clear hcz18_2
            try clear hcz18_3
            try clear hcz18_4
            try clear hcz18_5
            try clear hcz18_6
            try clear hcz18_7
            try clear hcz53_0
            try clear hcz53_1
            try clear hcz53_2
            try clear hcz53_3
            try clear hcz53_4
            try clear hcz53_5
            try clear hcz53_6
            try clear hcz53_7
            try clear hcz55_0
            try clear hcz55_1
            try clear hcz55_2
            try clear hcz55_3
            try clear hcz55_4
            try clear hcz55_5
            try clear hcz55_6
            try clear hcz55_7
            try clear hfz16_0
            try clear hfz16_1
            try clear hfz16_2
            try clear hfz16_3
            try clear hfz16_4
            try clear hfz16_5
            try clear hfz16_6
            try clear hfz16_7
            try clear hfz18_0
            try clear hfz18_1
            try clear hfz18_2
            try clear hfz18_3
            try clear hfz18_4
            try clear hfz18_5
            try clear hfz18_6
            try clear hfz18_7
            try clear hfz53_0
            try clear hfz53_1
            try clear hfz53_2
            try clear hfz53_3
            try clear hfz53_4
            try clear hfz53_5
            try clear hfz53_6
            try clear hfz53_7
            try clear hfz55_0
            try clear hfz55_1
            try clear hfz55_2
            try clear hfz55_3
            try clear hfz55_4
            try clear hfz55_5
            try clear hfz55_6
            try clear hfz55_7
            try clear p2
            obtain ⟨kq, x5_8, x224001_8, x225000_8, x225001_8, x225002_8, x225003_8, x225004_8, x225005_8, x225006_8, x225007_8, rfl, HA, HJ8, BK224, HI223, HB⟩ := hcut
            cases kq with
            | zero => exact absurd HA.out (by simp [spykeep2_DomeKeeps.j2])
            | succ kj8 =>
              have H := HA.out
              clear HA
              simp only [spykeep2_DomeKeeps.j2] at H
              replace H := Option.bind_eq_some_iff.mp H
              obtain ⟨⟨t269, t270, t271, t272, t273, t274, t275, t276⟩, A570, H⟩ := H
              replace H : (if x5_8 = 0 then ((dome_Check.f kj8 t269 t270 t271 t272 t273 t274 t275 t276).bind fun t278 => (if t278 = 0 then (if t270 > 0 then (if t269 < 100 then (some false) else (if (mx (wrap64 (t269 - x225000_8)) (wrap64 (x225000_8 - t269))) > 5 then (some false) else (spykeep2_DomeKeeps.l0 kj8 (wrap64 (x12_1 + 1)) l0 x224001_8 t269 t270 t271 t272 t273 t274 t275 t276))) else (if (mx (wrap64 (t269 - x225000_8)) (wrap64 (x225000_8 - t269))) > 5 then (some false) else (spykeep2_DomeKeeps.l0 kj8 (wrap64 (x12_1 + 1)) l0 x224001_8 t269 t270 t271 t272 t273 t274 t275 t276))) else (some false))) else (some false)) = some r := H
              have A57 := Aside0.mk A570
              clear A570
              by_cases c58 : x5_8 = 0
              · rw [if_pos c58] at H
                have c58b0 : (x5_8 == 0) = true := beq_iff_eq.mpr c58
                have c58b1 : (x5_8 != 0) = false := bne_eq_false_iff_eq.mpr c58
                clear c58
                replace H := Option.bind_eq_some_iff.mp H
                obtain ⟨t278, A590, H⟩ := H
                replace H : (if t278 = 0 then (if t270 > 0 then (if t269 < 100 then (some false) else (if (mx (wrap64 (t269 - x225000_8)) (wrap64 (x225000_8 - t269))) > 5 then (some false) else (spykeep2_DomeKeeps.l0 kj8 (wrap64 (x12_1 + 1)) l0 x224001_8 t269 t270 t271 t272 t273 t274 t275 t276))) else (if (mx (wrap64 (t269 - x225000_8)) (wrap64 (x225000_8 - t269))) > 5 then (some false) else (spykeep2_DomeKeeps.l0 kj8 (wrap64 (x12_1 + 1)) l0 x224001_8 t269 t270 t271 t272 t273 t274 t275 t276))) else (some false)) = some r := H
                have A59 := Aside0.mk A590
                clear A590
                by_cases c60 : t278 = 0
                · rw [if_pos c60] at H
                  have c60b0 : (t278 == 0) = true := beq_iff_eq.mpr c60
                  have c60b1 : (t278 != 0) = false := bne_eq_false_iff_eq.mpr c60
                  clear c60
                  by_cases c61 : t270 > 0
                  · rw [if_pos c61] at H
                    have c61b0 : decide (0 < t270) = true := decide_eq_true c61
                    clear c61
                    by_cases c62 : t269 < 100
                    · rw [if_pos c62] at H
                      have c62b0 : decide (t269 < 100) = true := decide_eq_true c62
                      clear c62
                      obtain rfl := Option.some.inj H
                      have hnb63 := NB224_223.out
                      have hnc63 := NB223_224.out
                      obtain ⟨hcz64_0, hcz64_1, hcz64_2, hcz64_3, hcz64_4, hcz64_5, hcz64_6, hcz64_7, hfz64_0, hfz64_1, hfz64_2, hfz64_3, hfz64_4, hfz64_5, hfz64_6, hfz64_7⟩ := tch8 BK224.out
                      go_wp2_with (first | ((with_reducible refine gate_callee (f := 13) rfl ?_); refine goesL_ (some 54) rfl rfl Try.func13 (by kernel_rfl) rfl #[.agg #[.int .i64 x225000_8, .int .i64 x225001_8, .bool x225002_8, .bool x225003_8, .int .i64 x225004_8, .int .i64 x225005_8, .int .i64 x225006_8, .bool x225007_8]] rfl (by (try simp only [List.map_toArray, List.map_cons, List.map_nil]); first | done | rfl | (simp only [List.length_drop, List.length_take]; rfl)) ?_; (with_reducible refine (dome_Step.calls kj8 x225000_8 x225001_8 x225002_8 x225003_8 x225004_8 x225005_8 x225006_8 x225007_8 t269 t270 t271 t272 t273 t274 t275 t276 _ A57.out).mono ?_); rintro e w65 ⟨rfl, hb⟩; refine ⟨_, rfl, ?_⟩; have n0_ := Aside0.mk (blk_below BK224.out hb); have n1_ := Aside0.mk (IsS26.below (by exact HI223.out) hb); have n2_ := Aside0.mk (below_step (by exact HB.out) hb); clear BK224; clear HI223; clear HB; have BK224 := n0_; have HI223 := n1_; have HB := n2_; clear n0_ n1_ n2_; (try clear hb); (try clear hb2); (try clear hk); (try clear hi)) | ((with_reducible refine gate_dst (N := 6) rfl ?_); (try (refine gate_guard (by rfl) ?_; dsimp only)); refine box_event ?hg (N := 6) ?hd (cs := #[.int .i64 0, .int .i64 0, .bool false, .bool false, .int .i64 0, .int .i64 0, .int .i64 0, .bool false]) (t := 30) ?hr ?_; (case hd => rfl); (case hg => rfl); (case hr => first | (go_simp; done) | (go_simp; rfl)); intro gb277 hg w66 hbox hb; have n0_ := Aside0.mk (blk_below BK224.out hb); have n1_ := Aside0.mk (IsS26.below (by exact HI223.out) hb); have n2_ := Aside0.mk (below_step (by exact HB.out) hb); have n3_ := Aside0.mk (hbox); have n4_ := Aside0.mk ((by rw [hg]; exact (below_size (by exact HB.out)) : w.heap.size ≤ gb277)); have n5_ := Aside0.mk ((by rw [hg]; exact (below_size (by exact HB.out)) : w.heap.size ≤ gb277)); have n6_ := Aside0.mk ((by rw [hg]; exact Nat.ne_of_lt (blk_lt BK224.out) : gb224 ≠ gb277)); have n7_ := Aside0.mk ((by rw [hg]; exact Nat.ne_of_gt (blk_lt BK224.out) : gb277 ≠ gb224)); have n8_ := Aside0.mk ((by rw [hg]; exact Nat.ne_of_lt (IsS26.lt (show IsS26 w _ gb223 l0 x224001_8 from by exact HI223.out)) : gb223 ≠ gb277)); have n9_ := Aside0.mk ((by rw [hg]; exact Nat.ne_of_gt (IsS26.lt (show IsS26 w _ gb223 l0 x224001_8 from by exact HI223.out)) : gb277 ≠ gb223)); clear BK224; clear HI223; clear HB; have BK224 := n0_; have HI223 := n1_; have HB := n2_; have BK277 := n3_; have GW277 := n4_; have GE277 := n5_; have NB224_277 := n6_; have NB277_224 := n7_; have NB223_277 := n8_; have NB277_223 := n9_; clear n0_ n1_ n2_ n3_ n4_ n5_ n6_ n7_ n8_ n9_; clear hb hbox hg; have hnb67 := NB277_224.out; have hnc67 := NB224_277.out; have hnb68 := NB277_223.out; have hnc68 := NB223_277.out; obtain ⟨hcz69_0, hcz69_1, hcz69_2, hcz69_3, hcz69_4, hcz69_5, hcz69_6, hcz69_7, hfz69_0, hfz69_1, hfz69_2, hfz69_3, hfz69_4, hfz69_5, hfz69_6, hfz69_7⟩ := tch8 BK277.out) | ((with_reducible refine gate_store (t := 30) (p := 6) rfl ?_); refine store_event (t := 30) (p := 6) (v := ?vo_w70) (w1 := ((((((((w66.setCell ⟨gb277, 0, none⟩ (.int .i64 t269)).setCell ⟨gb277, 1, none⟩ (.int .i64 t270)).setCell ⟨gb277, 2, none⟩ (.bool t271)).setCell ⟨gb277, 3, none⟩ (.bool t272)).setCell ⟨gb277, 4, none⟩ (.int .i64 t273)).setCell ⟨gb277, 5, none⟩ (.int .i64 t274)).setCell ⟨gb277, 6, none⟩ (.int .i64 t275)).setCell ⟨gb277, 7, none⟩ (.bool t276))) ?hg ?ho ?hn ?hr ?_; (case ho => rfl); (case hg => rfl); (case hn => rfl); (case hr => first | (go_simp; done) | (go_simp; rfl)); intro w70 hw; have n0_ : Aside0 (w70.heap[gb224]? = some (.cells #[.int .i64 x225000_8, .int .i64 x225001_8, .bool x225002_8, .bool x225003_8, .int .i64 x225004_8, .int .i64 x225005_8, .int .i64 x225006_8, .bool x225007_8] 30 (0, 0))) := ⟨(by rw [hw]; exact (by (with_reducible repeat (first | refine blk_drewN ?_ _ | refine blk_drew ?_ | refine blk_alloc ?_ _)); refine blk_far ?_ NB224_277.out _; (with_reducible repeat (first | refine blk_drewN ?_ _ | refine blk_drew ?_ | refine blk_alloc ?_ _)); refine blk_far ?_ NB224_277.out _; (with_reducible repeat (first | refine blk_drewN ?_ _ | refine blk_drew ?_ | refine blk_alloc ?_ _)); refine blk_far ?_ NB224_277.out _; (with_reducible repeat (first | refine blk_drewN ?_ _ | refine blk_drew ?_ | refine blk_alloc ?_ _)); refine blk_far ?_ NB224_277.out _; (with_reducible repeat (first | refine blk_drewN ?_ _ | refine blk_drew ?_ | refine blk_alloc ?_ _)); refine blk_far ?_ NB224_277.out _; (with_reducible repeat (first | refine blk_drewN ?_ _ | refine blk_drew ?_ | refine blk_alloc ?_ _)); refine blk_far ?_ NB224_277.out _; (with_reducible repeat (first | refine blk_drewN ?_ _ | refine blk_drew ?_ | refine blk_alloc ?_ _)); refine blk_far ?_ NB224_277.out _; (with_reducible repeat (first | refine blk_drewN ?_ _ | refine blk_drew ?_ | refine blk_alloc ?_ _)); refine blk_far ?_ NB224_277.out _; (with_reducible repeat (first | refine blk_drewN ?_ _ | refine blk_drew ?_ | refine blk_alloc ?_ _)); exact BK224.out))⟩; have n1_ : Aside0 (w70.heap[gb277]? = some (.cells #[.int .i64 t269, .int .i64 t270, .bool t271, .bool t272, .int .i64 t273, .int .i64 t274, .int .i64 t275, .bool t276] 30 (0, 0))) := ⟨(by rw [hw]; exact (by (with_reducible repeat (first | refine blk_drewN ?_ _ | refine blk_drew ?_ | refine blk_alloc ?_ _)); refine blk_put (cs := #[.int .i64 t269, .int .i64 t270, .bool t271, .bool t272, .int .i64 t273, .int .i64 t274, .int .i64 t275, .bool false]) ?_ 7 _ rfl; (with_reducible repeat (first | refine blk_drewN ?_ _ | refine blk_drew ?_ | refine blk_alloc ?_ _)); refine blk_put (cs := #[.int .i64 t269, .int .i64 t270, .bool t271, .bool t272, .int .i64 t273, .int .i64 t274, .int .i64 0, .bool false]) ?_ 6 _ rfl; (with_reducible repeat (first | refine blk_drewN ?_ _ | refine blk_drew ?_ | refine blk_alloc ?_ _)); refine blk_put (cs := #[.int .i64 t269, .int .i64 t270, .bool t271, .bool t272, .int .i64 t273, .int .i64 0, .int .i64 0, .bool false]) ?_ 5 _ rfl; (with_reducible repeat (first | refine blk_drewN ?_ _ | refine blk_drew ?_ | refine blk_alloc ?_ _)); refine blk_put (cs := #[.int .i64 t269, .int .i64 t270, .bool t271, .bool t272, .int .i64 0, .int .i64 0, .int .i64 0, .bool false]) ?_ 4 _ rfl; (with_reducible repeat (first | refine blk_drewN ?_ _ | refine blk_drew ?_ | refine blk_alloc ?_ _)); refine blk_put (cs := #[.int .i64 t269, .int .i64 t270, .bool t271, .bool false, .int .i64 0, .int .i64 0, .int .i64 0, .bool false]) ?_ 3 _ rfl; (with_reducible repeat (first | refine blk_drewN ?_ _ | refine blk_drew ?_ | refine blk_alloc ?_ _)); refine blk_put (cs := #[.int .i64 t269, .int .i64 t270, .bool false, .bool false, .int .i64 0, .int .i64 0, .int .i64 0, .bool false]) ?_ 2 _ rfl; (with_reducible repeat (first | refine blk_drewN ?_ _ | refine blk_drew ?_ | refine blk_alloc ?_ _)); refine blk_put (cs := #[.int .i64 t269, .int .i64 0, .bool false, .bool false, .int .i64 0, .int .i64 0, .int .i64 0, .bool false]) ?_ 1 _ rfl; (with_reducible repeat (first | refine blk_drewN ?_ _ | refine blk_drew ?_ | refine blk_alloc ?_ _)); refine blk_put (cs := #[.int .i64 0, .int .i64 0, .bool false, .bool false, .int .i64 0, .int .i64 0, .int .i64 0, .bool false]) ?_ 0 _ rfl; (with_reducible repeat (first | refine blk_drewN ?_ _ | refine blk_drew ?_ | refine blk_alloc ?_ _)); exact BK277.out))⟩; have n2_ : Aside0 (IsS26 w w70 gb223 l0 x224001_8) := ⟨(by rw [hw]; exact (by repeat (first | (with_reducible first | exact HI223.out | apply IsS26.alloc | apply IsS26.drewN | apply IsS26.drew | apply IsS26.set_1 | refine IsS26.far ?_ NB223_224.out _ | refine IsS26.far ?_ NB223_277.out _) | exact HI223.out)))⟩; have n3_ : Aside0 (Below w.heap.size w w70) := ⟨(by rw [hw]; exact (by repeat (first | (with_reducible first | exact HB.out | apply below_alloc | apply pw_below_drewN | apply below_drew1 | refine below_set ?_ (IsS26.ge HI223.out) | refine below_set ?_ GE224.out | refine below_set ?_ GE277.out) | exact HB.out)))⟩; clear hw; clear BK224; clear BK277; clear HI223; clear HB; have BK224 := n0_; have BK277 := n1_; have HI223 := n2_; have HB := n3_; clear n0_ n1_ n2_ n3_; obtain ⟨hcz71_0, hcz71_1, hcz71_2, hcz71_3, hcz71_4, hcz71_5, hcz71_6, hcz71_7, hfz71_0, hfz71_1, hfz71_2, hfz71_3, hfz71_4, hfz71_5, hfz71_6, hfz71_7⟩ := tch8 BK277.out) | (go_at_call 30; (with_reducible refine (dome_Check.calls kj8 t269 t270 t271 t272 t273 t274 t275 t276 t278 _ A59.out).mono ?_); rintro e w72 ⟨rfl, hb⟩; have n0_ := Aside0.mk (blk_below BK224.out hb); have n1_ := Aside0.mk (IsS26.below (by exact HI223.out) hb); have n2_ := Aside0.mk (blk_below BK277.out hb); have n3_ := Aside0.mk (below_step (by exact HB.out) hb); clear BK224; clear HI223; clear BK277; clear HB; have BK224 := n0_; have HI223 := n1_; have BK277 := n2_; have HB := n3_; clear n0_ n1_ n2_ n3_; (try clear hb); (try clear hb2); (try clear hk); (try clear hi); obtain ⟨hcz73_0, hcz73_1, hcz73_2, hcz73_3, hcz73_4, hcz73_5, hcz73_6, hcz73_7, hfz73_0, hfz73_1, hfz73_2, hfz73_3, hfz73_4, hfz73_5, hfz73_6, hfz73_7⟩ := tch8 BK277.out))
                      go_ret
                      exact ⟨by first | rfl | (simp [errW_none, errW_some] <;> rfl) | (simp [*, errW_none, errW_some] <;> rfl), by exact HB.out⟩
                    · rw [if_neg c62] at H
                      have c62b0 : decide (t269 < 100) = false := decide_eq_false c62
                      clear c62
                      obtain ⟨ji74, hji74⟩ : ∃ j_ : Int, (mx (wrap64 (t269 - x225000_8)) (wrap64 (x225000_8 - t269))) = j_ := ⟨_, rfl⟩
                      replace H : (if (ji74) > 5 then (some false) else (spykeep2_DomeKeeps.l0 kj8 (wrap64 (x12_1 + 1)) l0 x224001_8 t269 t270 t271 t272 t273 t274 t275 t276)) = some r := by first | (rw [hji74] at H; exact H) | (simp only [hji74] at H ⊢; exact H)
                      (try rw [hji74] at A57)
                      (try rw [hji74] at A59)
                      have hji74_ : (if (wrap64 (t269 - x225000_8)) < (wrap64 (x225000_8 - t269)) then (wrap64 (x225000_8 - t269)) else (wrap64 (t269 - x225000_8))) = ji74 := hji74
                      by_cases c75 : (ji74) > 5
                      · rw [if_pos c75] at H
                        have c75b0 : decide (5 < (ji74)) = true := decide_eq_true c75
                        clear c75
                        obtain rfl := Option.some.inj H
                        have hnb76 := NB224_223.out
                        have hnc76 := NB223_224.out
                        obtain ⟨hcz77_0, hcz77_1, hcz77_2, hcz77_3, hcz77_4, hcz77_5, hcz77_6, hcz77_7, hfz77_0, hfz77_1, hfz77_2, hfz77_3, hfz77_4, hfz77_5, hfz77_6, hfz77_7⟩ := tch8 BK224.out
                        go_wp2_with (first | ((with_reducible refine gate_callee (f := 13) rfl ?_); refine goesL_ (some 54) rfl rfl Try.func13 (by kernel_rfl) rfl #[.agg #[.int .i64 x225000_8, .int .i64 x225001_8, .bool x225002_8, .bool x225003_8, .int .i64 x225004_8, .int .i64 x225005_8, .int .i64 x225006_8, .bool x225007_8]] rfl (by (try simp only [List.map_toArray, List.map_cons, List.map_nil]); first | done | rfl | (simp only [List.length_drop, List.length_take]; rfl)) ?_; (with_reducible refine (dome_Step.calls kj8 x225000_8 x225001_8 x225002_8 x225003_8 x225004_8 x225005_8 x225006_8 x225007_8 t269 t270 t271 t272 t273 t274 t275 t276 _ A57.out).mono ?_); rintro e w78 ⟨rfl, hb⟩; refine ⟨_, rfl, ?_⟩; have n0_ := Aside0.mk (blk_below BK224.out hb); have n1_ := Aside0.mk (IsS26.below (by exact HI223.out) hb); have n2_ := Aside0.mk (below_step (by exact HB.out) hb); clear BK224; clear HI223; clear HB; have BK224 := n0_; have HI223 := n1_; have HB := n2_; clear n0_ n1_ n2_; (try clear hb); (try clear hb2); (try clear hk); (try clear hi)) | ((with_reducible refine gate_dst (N := 6) rfl ?_); (try (refine gate_guard (by rfl) ?_; dsimp only)); refine box_event ?hg (N := 6) ?hd (cs := #[.int .i64 0, .int .i64 0, .bool false, .bool false, .int .i64 0, .int .i64 0, .int .i64 0, .bool false]) (t := 30) ?hr ?_; (case hd => rfl); (case hg => rfl); (case hr => first | (go_simp; done) | (go_simp; rfl)); intro gb277 hg w79 hbox hb; have n0_ := Aside0.mk (blk_below BK224.out hb); have n1_ := Aside0.mk (IsS26.below (by exact HI223.out) hb); have n2_ := Aside0.mk (below_step (by exact HB.out) hb); have n3_ := Aside0.mk (hbox); have n4_ := Aside0.mk ((by rw [hg]; exact (below_size (by exact HB.out)) : w.heap.size ≤ gb277)); have n5_ := Aside0.mk ((by rw [hg]; exact (below_size (by exact HB.out)) : w.heap.size ≤ gb277)); have n6_ := Aside0.mk ((by rw [hg]; exact Nat.ne_of_lt (blk_lt BK224.out) : gb224 ≠ gb277)); have n7_ := Aside0.mk ((by rw [hg]; exact Nat.ne_of_gt (blk_lt BK224.out) : gb277 ≠ gb224)); have n8_ := Aside0.mk ((by rw [hg]; exact Nat.ne_of_lt (IsS26.lt (show IsS26 w _ gb223 l0 x224001_8 from by exact HI223.out)) : gb223 ≠ gb277)); have n9_ := Aside0.mk ((by rw [hg]; exact Nat.ne_of_gt (IsS26.lt (show IsS26 w _ gb223 l0 x224001_8 from by exact HI223.out)) : gb277 ≠ gb223)); clear BK224; clear HI223; clear HB; have BK224 := n0_; have HI223 := n1_; have HB := n2_; have BK277 := n3_; have GW277 := n4_; have GE277 := n5_; have NB224_277 := n6_; have NB277_224 := n7_; have NB223_277 := n8_; have NB277_223 := n9_; clear n0_ n1_ n2_ n3_ n4_ n5_ n6_ n7_ n8_ n9_; clear hb hbox hg; have hnb80 := NB277_224.out; have hnc80 := NB224_277.out; have hnb81 := NB277_223.out; have hnc81 := NB223_277.out; obtain ⟨hcz82_0, hcz82_1, hcz82_2, hcz82_3, hcz82_4, hcz82_5, hcz82_6, hcz82_7, hfz82_0, hfz82_1, hfz82_2, hfz82_3, hfz82_4, hfz82_5, hfz82_6, hfz82_7⟩ := tch8 BK277.out) | ((with_reducible refine gate_store (t := 30) (p := 6) rfl ?_); refine store_event (t := 30) (p := 6) (v := ?vo_w83) (w1 := ((((((((w79.setCell ⟨gb277, 0, none⟩ (.int .i64 t269)).setCell ⟨gb277, 1, none⟩ (.int .i64 t270)).setCell ⟨gb277, 2, none⟩ (.bool t271)).setCell ⟨gb277, 3, none⟩ (.bool t272)).setCell ⟨gb277, 4, none⟩ (.int .i64 t273)).setCell ⟨gb277, 5, none⟩ (.int .i64 t274)).setCell ⟨gb277, 6, none⟩ (.int .i64 t275)).setCell ⟨gb277, 7, none⟩ (.bool t276))) ?hg ?ho ?hn ?hr ?_; (case ho => rfl); (case hg => rfl); (case hn => rfl); (case hr => first | (go_simp; done) | (go_simp; rfl)); intro w83 hw; have n0_ : Aside0 (w83.heap[gb224]? = some (.cells #[.int .i64 x225000_8, .int .i64 x225001_8, .bool x225002_8, .bool x225003_8, .int .i64 x225004_8, .int .i64 x225005_8, .int .i64 x225006_8, .bool x225007_8] 30 (0, 0))) := ⟨(by rw [hw]; exact (by (with_reducible repeat (first | refine blk_drewN ?_ _ | refine blk_drew ?_ | refine blk_alloc ?_ _)); refine blk_far ?_ NB224_277.out _; (with_reducible repeat (first | refine blk_drewN ?_ _ | refine blk_drew ?_ | refine blk_alloc ?_ _)); refine blk_far ?_ NB224_277.out _; (with_reducible repeat (first | refine blk_drewN ?_ _ | refine blk_drew ?_ | refine blk_alloc ?_ _)); refine blk_far ?_ NB224_277.out _; (with_reducible repeat (first | refine blk_drewN ?_ _ | refine blk_drew ?_ | refine blk_alloc ?_ _)); refine blk_far ?_ NB224_277.out _; (with_reducible repeat (first | refine blk_drewN ?_ _ | refine blk_drew ?_ | refine blk_alloc ?_ _)); refine blk_far ?_ NB224_277.out _; (with_reducible repeat (first | refine blk_drewN ?_ _ | refine blk_drew ?_ | refine blk_alloc ?_ _)); refine blk_far ?_ NB224_277.out _; (with_reducible repeat (first | refine blk_drewN ?_ _ | refine blk_drew ?_ | refine blk_alloc ?_ _)); refine blk_far ?_ NB224_277.out _; (with_reducible repeat (first | refine blk_drewN ?_ _ | refine blk_drew ?_ | refine blk_alloc ?_ _)); refine blk_far ?_ NB224_277.out _; (with_reducible repeat (first | refine blk_drewN ?_ _ | refine blk_drew ?_ | refine blk_alloc ?_ _)); exact BK224.out))⟩; have n1_ : Aside0 (w83.heap[gb277]? = some (.cells #[.int .i64 t269, .int .i64 t270, .bool t271, .bool t272, .int .i64 t273, .int .i64 t274, .int .i64 t275, .bool t276] 30 (0, 0))) := ⟨(by rw [hw]; exact (by (with_reducible repeat (first | refine blk_drewN ?_ _ | refine blk_drew ?_ | refine blk_alloc ?_ _)); refine blk_put (cs := #[.int .i64 t269, .int .i64 t270, .bool t271, .bool t272, .int .i64 t273, .int .i64 t274, .int .i64 t275, .bool false]) ?_ 7 _ rfl; (with_reducible repeat (first | refine blk_drewN ?_ _ | refine blk_drew ?_ | refine blk_alloc ?_ _)); refine blk_put (cs := #[.int .i64 t269, .int .i64 t270, .bool t271, .bool t272, .int .i64 t273, .int .i64 t274, .int .i64 0, .bool false]) ?_ 6 _ rfl; (with_reducible repeat (first | refine blk_drewN ?_ _ | refine blk_drew ?_ | refine blk_alloc ?_ _)); refine blk_put (cs := #[.int .i64 t269, .int .i64 t270, .bool t271, .bool t272, .int .i64 t273, .int .i64 0, .int .i64 0, .bool false]) ?_ 5 _ rfl; (with_reducible repeat (first | refine blk_drewN ?_ _ | refine blk_drew ?_ | refine blk_alloc ?_ _)); refine blk_put (cs := #[.int .i64 t269, .int .i64 t270, .bool t271, .bool t272, .int .i64 0, .int .i64 0, .int .i64 0, .bool false]) ?_ 4 _ rfl; (with_reducible repeat (first | refine blk_drewN ?_ _ | refine blk_drew ?_ | refine blk_alloc ?_ _)); refine blk_put (cs := #[.int .i64 t269, .int .i64 t270, .bool t271, .bool false, .int .i64 0, .int .i64 0, .int .i64 0, .bool false]) ?_ 3 _ rfl; (with_reducible repeat (first | refine blk_drewN ?_ _ | refine blk_drew ?_ | refine blk_alloc ?_ _)); refine blk_put (cs := #[.int .i64 t269, .int .i64 t270, .bool false, .bool false, .int .i64 0, .int .i64 0, .int .i64 0, .bool false]) ?_ 2 _ rfl; (with_reducible repeat (first | refine blk_drewN ?_ _ | refine blk_drew ?_ | refine blk_alloc ?_ _)); refine blk_put (cs := #[.int .i64 t269, .int .i64 0, .bool false, .bool false, .int .i64 0, .int .i64 0, .int .i64 0, .bool false]) ?_ 1 _ rfl; (with_reducible repeat (first | refine blk_drewN ?_ _ | refine blk_drew ?_ | refine blk_alloc ?_ _)); refine blk_put (cs := #[.int .i64 0, .int .i64 0, .bool false, .bool false, .int .i64 0, .int .i64 0, .int .i64 0, .bool false]) ?_ 0 _ rfl; (with_reducible repeat (first | refine blk_drewN ?_ _ | refine blk_drew ?_ | refine blk_alloc ?_ _)); exact BK277.out))⟩; have n2_ : Aside0 (IsS26 w w83 gb223 l0 x224001_8) := ⟨(by rw [hw]; exact (by repeat (first | (with_reducible first | exact HI223.out | apply IsS26.alloc | apply IsS26.drewN | apply IsS26.drew | apply IsS26.set_1 | refine IsS26.far ?_ NB223_224.out _ | refine IsS26.far ?_ NB223_277.out _) | exact HI223.out)))⟩; have n3_ : Aside0 (Below w.heap.size w w83) := ⟨(by rw [hw]; exact (by repeat (first | (with_reducible first | exact HB.out | apply below_alloc | apply pw_below_drewN | apply below_drew1 | refine below_set ?_ (IsS26.ge HI223.out) | refine below_set ?_ GE224.out | refine below_set ?_ GE277.out) | exact HB.out)))⟩; clear hw; clear BK224; clear BK277; clear HI223; clear HB; have BK224 := n0_; have BK277 := n1_; have HI223 := n2_; have HB := n3_; clear n0_ n1_ n2_ n3_; obtain ⟨hcz84_0, hcz84_1, hcz84_2, hcz84_3, hcz84_4, hcz84_5, hcz84_6, hcz84_7, hfz84_0, hfz84_1, hfz84_2, hfz84_3, hfz84_4, hfz84_5, hfz84_6, hfz84_7⟩ := tch8 BK277.out) | (go_at_call 30; (with_reducible refine (dome_Check.calls kj8 t269 t270 t271 t272 t273 t274 t275 t276 t278 _ A59.out).mono ?_); rintro e w85 ⟨rfl, hb⟩; have n0_ := Aside0.mk (blk_below BK224.out hb); have n1_ := Aside0.mk (IsS26.below (by exact HI223.out) hb); have n2_ := Aside0.mk (blk_below BK277.out hb); have n3_ := Aside0.mk (below_step (by exact HB.out) hb); clear BK224; clear HI223; clear BK277; clear HB; have BK224 := n0_; have HI223 := n1_; have BK277 := n2_; have HB := n3_; clear n0_ n1_ n2_ n3_; (try clear hb); (try clear hb2); (try clear hk); (try clear hi); obtain ⟨hcz86_0, hcz86_1, hcz86_2, hcz86_3, hcz86_4, hcz86_5, hcz86_6, hcz86_7, hfz86_0, hfz86_1, hfz86_2, hfz86_3, hfz86_4, hfz86_5, hfz86_6, hfz86_7⟩ := tch8 BK277.out; obtain ⟨hcz87_0, hcz87_1, hcz87_2, hcz87_3, hcz87_4, hcz87_5, hcz87_6, hcz87_7, hfz87_0, hfz87_1, hfz87_2, hfz87_3, hfz87_4, hfz87_5, hfz87_6, hfz87_7⟩ := tch8 BK224.out))
                        go_ret
                        exact ⟨by first | rfl | (simp [errW_none, errW_some] <;> rfl) | (simp only [← hji74]; first | rfl | (simp [errW_none, errW_some] <;> rfl)) | (simp [*, errW_none, errW_some] <;> rfl), by exact HB.out⟩
                      · rw [if_neg c75] at H
                        have c75b0 : decide (5 < (ji74)) = false := decide_eq_false c75
                        clear c75
                        have H' := Aside0.mk H
                        clear H
                        have hnb88 := NB224_223.out
                        have hnc88 := NB223_224.out
                        obtain ⟨hcz89_0, hcz89_1, hcz89_2, hcz89_3, hcz89_4, hcz89_5, hcz89_6, hcz89_7, hfz89_0, hfz89_1, hfz89_2, hfz89_3, hfz89_4, hfz89_5, hfz89_6, hfz89_7⟩ := tch8 BK224.out
                        go_wp2_with (first | ((with_reducible refine gate_callee (f := 13) rfl ?_); refine goesL_ (some 54) rfl rfl Try.func13 (by kernel_rfl) rfl #[.agg #[.int .i64 x225000_8, .int .i64 x225001_8, .bool x225002_8, .bool x225003_8, .int .i64 x225004_8, .int .i64 x225005_8, .int .i64 x225006_8, .bool x225007_8]] rfl (by (try simp only [List.map_toArray, List.map_cons, List.map_nil]); first | done | rfl | (simp only [List.length_drop, List.length_take]; rfl)) ?_; (with_reducible refine (dome_Step.calls kj8 x225000_8 x225001_8 x225002_8 x225003_8 x225004_8 x225005_8 x225006_8 x225007_8 t269 t270 t271 t272 t273 t274 t275 t276 _ A57.out).mono ?_); rintro e w90 ⟨rfl, hb⟩; refine ⟨_, rfl, ?_⟩; have n0_ := Aside0.mk (blk_below BK224.out hb); have n1_ := Aside0.mk (IsS26.below (by exact HI223.out) hb); have n2_ := Aside0.mk (below_step (by exact HB.out) hb); clear BK224; clear HI223; clear HB; have BK224 := n0_; have HI223 := n1_; have HB := n2_; clear n0_ n1_ n2_; (try clear hb); (try clear hb2); (try clear hk); (try clear hi)) | ((with_reducible refine gate_dst (N := 6) rfl ?_); (try (refine gate_guard (by rfl) ?_; dsimp only)); refine box_event ?hg (N := 6) ?hd (cs := #[.int .i64 0, .int .i64 0, .bool false, .bool false, .int .i64 0, .int .i64 0, .int .i64 0, .bool false]) (t := 30) ?hr ?_; (case hd => rfl); (case hg => rfl); (case hr => first | (go_simp; done) | (go_simp; rfl)); intro gb277 hg w91 hbox hb; have n0_ := Aside0.mk (blk_below BK224.out hb); have n1_ := Aside0.mk (IsS26.below (by exact HI223.out) hb); have n2_ := Aside0.mk (below_step (by exact HB.out) hb); have n3_ := Aside0.mk (hbox); have n4_ := Aside0.mk ((by rw [hg]; exact (below_size (by exact HB.out)) : w.heap.size ≤ gb277)); have n5_ := Aside0.mk ((by rw [hg]; exact (below_size (by exact HB.out)) : w.heap.size ≤ gb277)); have n6_ := Aside0.mk ((by rw [hg]; exact Nat.ne_of_lt (blk_lt BK224.out) : gb224 ≠ gb277)); have n7_ := Aside0.mk ((by rw [hg]; exact Nat.ne_of_gt (blk_lt BK224.out) : gb277 ≠ gb224)); have n8_ := Aside0.mk ((by rw [hg]; exact Nat.ne_of_lt (IsS26.lt (show IsS26 w _ gb223 l0 x224001_8 from by exact HI223.out)) : gb223 ≠ gb277)); have n9_ := Aside0.mk ((by rw [hg]; exact Nat.ne_of_gt (IsS26.lt (show IsS26 w _ gb223 l0 x224001_8 from by exact HI223.out)) : gb277 ≠ gb223)); clear BK224; clear HI223; clear HB; have BK224 := n0_; have HI223 := n1_; have HB := n2_; have BK277 := n3_; have GW277 := n4_; have GE277 := n5_; have NB224_277 := n6_; have NB277_224 := n7_; have NB223_277 := n8_; have NB277_223 := n9_; clear n0_ n1_ n2_ n3_ n4_ n5_ n6_ n7_ n8_ n9_; clear hb hbox hg; have hnb92 := NB277_224.out; have hnc92 := NB224_277.out; have hnb93 := NB277_223.out; have hnc93 := NB223_277.out; obtain ⟨hcz94_0, hcz94_1, hcz94_2, hcz94_3, hcz94_4, hcz94_5, hcz94_6, hcz94_7, hfz94_0, hfz94_1, hfz94_2, hfz94_3, hfz94_4, hfz94_5, hfz94_6, hfz94_7⟩ := tch8 BK277.out) | ((with_reducible refine gate_store (t := 30) (p := 6) rfl ?_); refine store_event (t := 30) (p := 6) (v := ?vo_w95) (w1 := ((((((((w91.setCell ⟨gb277, 0, none⟩ (.int .i64 t269)).setCell ⟨gb277, 1, none⟩ (.int .i64 t270)).setCell ⟨gb277, 2, none⟩ (.bool t271)).setCell ⟨gb277, 3, none⟩ (.bool t272)).setCell ⟨gb277, 4, none⟩ (.int .i64 t273)).setCell ⟨gb277, 5, none⟩ (.int .i64 t274)).setCell ⟨gb277, 6, none⟩ (.int .i64 t275)).setCell ⟨gb277, 7, none⟩ (.bool t276))) ?hg ?ho ?hn ?hr ?_; (case ho => rfl); (case hg => rfl); (case hn => rfl); (case hr => first | (go_simp; done) | (go_simp; rfl)); intro w95 hw; have n0_ : Aside0 (w95.heap[gb224]? = some (.cells #[.int .i64 x225000_8, .int .i64 x225001_8, .bool x225002_8, .bool x225003_8, .int .i64 x225004_8, .int .i64 x225005_8, .int .i64 x225006_8, .bool x225007_8] 30 (0, 0))) := ⟨(by rw [hw]; exact (by (with_reducible repeat (first | refine blk_drewN ?_ _ | refine blk_drew ?_ | refine blk_alloc ?_ _)); refine blk_far ?_ NB224_277.out _; (with_reducible repeat (first | refine blk_drewN ?_ _ | refine blk_drew ?_ | refine blk_alloc ?_ _)); refine blk_far ?_ NB224_277.out _; (with_reducible repeat (first | refine blk_drewN ?_ _ | refine blk_drew ?_ | refine blk_alloc ?_ _)); refine blk_far ?_ NB224_277.out _; (with_reducible repeat (first | refine blk_drewN ?_ _ | refine blk_drew ?_ | refine blk_alloc ?_ _)); refine blk_far ?_ NB224_277.out _; (with_reducible repeat (first | refine blk_drewN ?_ _ | refine blk_drew ?_ | refine blk_alloc ?_ _)); refine blk_far ?_ NB224_277.out _; (with_reducible repeat (first | refine blk_drewN ?_ _ | refine blk_drew ?_ | refine blk_alloc ?_ _)); refine blk_far ?_ NB224_277.out _; (with_reducible repeat (first | refine blk_drewN ?_ _ | refine blk_drew ?_ | refine blk_alloc ?_ _)); refine blk_far ?_ NB224_277.out _; (with_reducible repeat (first | refine blk_drewN ?_ _ | refine blk_drew ?_ | refine blk_alloc ?_ _)); refine blk_far ?_ NB224_277.out _; (with_reducible repeat (first | refine blk_drewN ?_ _ | refine blk_drew ?_ | refine blk_alloc ?_ _)); exact BK224.out))⟩; have n1_ : Aside0 (w95.heap[gb277]? = some (.cells #[.int .i64 t269, .int .i64 t270, .bool t271, .bool t272, .int .i64 t273, .int .i64 t274, .int .i64 t275, .bool t276] 30 (0, 0))) := ⟨(by rw [hw]; exact (by (with_reducible repeat (first | refine blk_drewN ?_ _ | refine blk_drew ?_ | refine blk_alloc ?_ _)); refine blk_put (cs := #[.int .i64 t269, .int .i64 t270, .bool t271, .bool t272, .int .i64 t273, .int .i64 t274, .int .i64 t275, .bool false]) ?_ 7 _ rfl; (with_reducible repeat (first | refine blk_drewN ?_ _ | refine blk_drew ?_ | refine blk_alloc ?_ _)); refine blk_put (cs := #[.int .i64 t269, .int .i64 t270, .bool t271, .bool t272, .int .i64 t273, .int .i64 t274, .int .i64 0, .bool false]) ?_ 6 _ rfl; (with_reducible repeat (first | refine blk_drewN ?_ _ | refine blk_drew ?_ | refine blk_alloc ?_ _)); refine blk_put (cs := #[.int .i64 t269, .int .i64 t270, .bool t271, .bool t272, .int .i64 t273, .int .i64 0, .int .i64 0, .bool false]) ?_ 5 _ rfl; (with_reducible repeat (first | refine blk_drewN ?_ _ | refine blk_drew ?_ | refine blk_alloc ?_ _)); refine blk_put (cs := #[.int .i64 t269, .int .i64 t270, .bool t271, .bool t272, .int .i64 0, .int .i64 0, .int .i64 0, .bool false]) ?_ 4 _ rfl; (with_reducible repeat (first | refine blk_drewN ?_ _ | refine blk_drew ?_ | refine blk_alloc ?_ _)); refine blk_put (cs := #[.int .i64 t269, .int .i64 t270, .bool t271, .bool false, .int .i64 0, .int .i64 0, .int .i64 0, .bool false]) ?_ 3 _ rfl; (with_reducible repeat (first | refine blk_drewN ?_ _ | refine blk_drew ?_ | refine blk_alloc ?_ _)); refine blk_put (cs := #[.int .i64 t269, .int .i64 t270, .bool false, .bool false, .int .i64 0, .int .i64 0, .int .i64 0, .bool false]) ?_ 2 _ rfl; (with_reducible repeat (first | refine blk_drewN ?_ _ | refine blk_drew ?_ | refine blk_alloc ?_ _)); refine blk_put (cs := #[.int .i64 t269, .int .i64 0, .bool false, .bool false, .int .i64 0, .int .i64 0, .int .i64 0, .bool false]) ?_ 1 _ rfl; (with_reducible repeat (first | refine blk_drewN ?_ _ | refine blk_drew ?_ | refine blk_alloc ?_ _)); refine blk_put (cs := #[.int .i64 0, .int .i64 0, .bool false, .bool false, .int .i64 0, .int .i64 0, .int .i64 0, .bool false]) ?_ 0 _ rfl; (with_reducible repeat (first | refine blk_drewN ?_ _ | refine blk_drew ?_ | refine blk_alloc ?_ _)); exact BK277.out))⟩; have n2_ : Aside0 (IsS26 w w95 gb223 l0 x224001_8) := ⟨(by rw [hw]; exact (by repeat (first | (with_reducible first | exact HI223.out | apply IsS26.alloc | apply IsS26.drewN | apply IsS26.drew | apply IsS26.set_1 | refine IsS26.far ?_ NB223_224.out _ | refine IsS26.far ?_ NB223_277.out _) | exact HI223.out)))⟩; have n3_ : Aside0 (Below w.heap.size w w95) := ⟨(by rw [hw]; exact (by repeat (first | (with_reducible first | exact HB.out | apply below_alloc | apply pw_below_drewN | apply below_drew1 | refine below_set ?_ (IsS26.ge HI223.out) | refine below_set ?_ GE224.out | refine below_set ?_ GE277.out) | exact HB.out)))⟩; clear hw; clear BK224; clear BK277; clear HI223; clear HB; have BK224 := n0_; have BK277 := n1_; have HI223 := n2_; have HB := n3_; clear n0_ n1_ n2_ n3_; obtain ⟨hcz96_0, hcz96_1, hcz96_2, hcz96_3, hcz96_4, hcz96_5, hcz96_6, hcz96_7, hfz96_0, hfz96_1, hfz96_2, hfz96_3, hfz96_4, hfz96_5, hfz96_6, hfz96_7⟩ := tch8 BK277.out) | (go_at_call 30; (with_reducible refine (dome_Check.calls kj8 t269 t270 t271 t272 t273 t274 t275 t276 t278 _ A59.out).mono ?_); rintro e w97 ⟨rfl, hb⟩; have n0_ := Aside0.mk (blk_below BK224.out hb); have n1_ := Aside0.mk (IsS26.below (by exact HI223.out) hb); have n2_ := Aside0.mk (blk_below BK277.out hb); have n3_ := Aside0.mk (below_step (by exact HB.out) hb); clear BK224; clear HI223; clear BK277; clear HB; have BK224 := n0_; have HI223 := n1_; have BK277 := n2_; have HB := n3_; clear n0_ n1_ n2_ n3_; (try clear hb); (try clear hb2); (try clear hk); (try clear hi); obtain ⟨hcz98_0, hcz98_1, hcz98_2, hcz98_3, hcz98_4, hcz98_5, hcz98_6, hcz98_7, hfz98_0, hfz98_1, hfz98_2, hfz98_3, hfz98_4, hfz98_5, hfz98_6, hfz98_7⟩ := tch8 BK277.out; obtain ⟨hcz99_0, hcz99_1, hcz99_2, hcz99_3, hcz99_4, hcz99_5, hcz99_6, hcz99_7, hfz99_0, hfz99_1, hfz99_2, hfz99_3, hfz99_4, hfz99_5, hfz99_6, hfz99_7⟩ := tch8 BK224.out) | ((with_reducible refine gate_store (t := 30) (p := 4) rfl ?_); refine store_event (t := 30) (p := 4) (v := ?vo_w100) (w1 := ((((((((w97.setCell ⟨gb224, 0, none⟩ (.int .i64 t269)).setCell ⟨gb224, 1, none⟩ (.int .i64 t270)).setCell ⟨gb224, 2, none⟩ (.bool t271)).setCell ⟨gb224, 3, none⟩ (.bool t272)).setCell ⟨gb224, 4, none⟩ (.int .i64 t273)).setCell ⟨gb224, 5, none⟩ (.int .i64 t274)).setCell ⟨gb224, 6, none⟩ (.int .i64 t275)).setCell ⟨gb224, 7, none⟩ (.bool t276))) ?hg ?ho ?hn ?hr ?_; (case ho => rfl); (case hg => rfl); (case hn => rfl); (case hr => first | (go_simp; done) | (go_simp; rfl)); intro w100 hw; have n0_ : Aside0 (w100.heap[gb224]? = some (.cells #[.int .i64 t269, .int .i64 t270, .bool t271, .bool t272, .int .i64 t273, .int .i64 t274, .int .i64 t275, .bool t276] 30 (0, 0))) := ⟨(by rw [hw]; exact (by (with_reducible repeat (first | refine blk_drewN ?_ _ | refine blk_drew ?_ | refine blk_alloc ?_ _)); refine blk_put (cs := #[.int .i64 t269, .int .i64 t270, .bool t271, .bool t272, .int .i64 t273, .int .i64 t274, .int .i64 t275, .bool x225007_8]) ?_ 7 _ rfl; (with_reducible repeat (first | refine blk_drewN ?_ _ | refine blk_drew ?_ | refine blk_alloc ?_ _)); refine blk_put (cs := #[.int .i64 t269, .int .i64 t270, .bool t271, .bool t272, .int .i64 t273, .int .i64 t274, .int .i64 x225006_8, .bool x225007_8]) ?_ 6 _ rfl; (with_reducible repeat (first | refine blk_drewN ?_ _ | refine blk_drew ?_ | refine blk_alloc ?_ _)); refine blk_put (cs := #[.int .i64 t269, .int .i64 t270, .bool t271, .bool t272, .int .i64 t273, .int .i64 x225005_8, .int .i64 x225006_8, .bool x225007_8]) ?_ 5 _ rfl; (with_reducible repeat (first | refine blk_drewN ?_ _ | refine blk_drew ?_ | refine blk_alloc ?_ _)); refine blk_put (cs := #[.int .i64 t269, .int .i64 t270, .bool t271, .bool t272, .int .i64 x225004_8, .int .i64 x225005_8, .int .i64 x225006_8, .bool x225007_8]) ?_ 4 _ rfl; (with_reducible repeat (first | refine blk_drewN ?_ _ | refine blk_drew ?_ | refine blk_alloc ?_ _)); refine blk_put (cs := #[.int .i64 t269, .int .i64 t270, .bool t271, .bool x225003_8, .int .i64 x225004_8, .int .i64 x225005_8, .int .i64 x225006_8, .bool x225007_8]) ?_ 3 _ rfl; (with_reducible repeat (first | refine blk_drewN ?_ _ | refine blk_drew ?_ | refine blk_alloc ?_ _)); refine blk_put (cs := #[.int .i64 t269, .int .i64 t270, .bool x225002_8, .bool x225003_8, .int .i64 x225004_8, .int .i64 x225005_8, .int .i64 x225006_8, .bool x225007_8]) ?_ 2 _ rfl; (with_reducible repeat (first | refine blk_drewN ?_ _ | refine blk_drew ?_ | refine blk_alloc ?_ _)); refine blk_put (cs := #[.int .i64 t269, .int .i64 x225001_8, .bool x225002_8, .bool x225003_8, .int .i64 x225004_8, .int .i64 x225005_8, .int .i64 x225006_8, .bool x225007_8]) ?_ 1 _ rfl; (with_reducible repeat (first | refine blk_drewN ?_ _ | refine blk_drew ?_ | refine blk_alloc ?_ _)); refine blk_put (cs := #[.int .i64 x225000_8, .int .i64 x225001_8, .bool x225002_8, .bool x225003_8, .int .i64 x225004_8, .int .i64 x225005_8, .int .i64 x225006_8, .bool x225007_8]) ?_ 0 _ rfl; (with_reducible repeat (first | refine blk_drewN ?_ _ | refine blk_drew ?_ | refine blk_alloc ?_ _)); exact BK224.out))⟩; have n1_ : Aside0 (w100.heap[gb277]? = some (.cells #[.int .i64 t269, .int .i64 t270, .bool t271, .bool t272, .int .i64 t273, .int .i64 t274, .int .i64 t275, .bool t276] 30 (0, 0))) := ⟨(by rw [hw]; exact (by (with_reducible repeat (first | refine blk_drewN ?_ _ | refine blk_drew ?_ | refine blk_alloc ?_ _)); refine blk_far ?_ NB277_224.out _; (with_reducible repeat (first | refine blk_drewN ?_ _ | refine blk_drew ?_ | refine blk_alloc ?_ _)); refine blk_far ?_ NB277_224.out _; (with_reducible repeat (first | refine blk_drewN ?_ _ | refine blk_drew ?_ | refine blk_alloc ?_ _)); refine blk_far ?_ NB277_224.out _; (with_reducible repeat (first | refine blk_drewN ?_ _ | refine blk_drew ?_ | refine blk_alloc ?_ _)); refine blk_far ?_ NB277_224.out _; (with_reducible repeat (first | refine blk_drewN ?_ _ | refine blk_drew ?_ | refine blk_alloc ?_ _)); refine blk_far ?_ NB277_224.out _; (with_reducible repeat (first | refine blk_drewN ?_ _ | refine blk_drew ?_ | refine blk_alloc ?_ _)); refine blk_far ?_ NB277_224.out _; (with_reducible repeat (first | refine blk_drewN ?_ _ | refine blk_drew ?_ | refine blk_alloc ?_ _)); refine blk_far ?_ NB277_224.out _; (with_reducible repeat (first | refine blk_drewN ?_ _ | refine blk_drew ?_ | refine blk_alloc ?_ _)); refine blk_far ?_ NB277_224.out _; (with_reducible repeat (first | refine blk_drewN ?_ _ | refine blk_drew ?_ | refine blk_alloc ?_ _)); exact BK277.out))⟩; have n2_ : Aside0 (IsS26 w w100 gb223 l0 x224001_8) := ⟨(by rw [hw]; exact (by repeat (first | (with_reducible first | exact HI223.out | apply IsS26.alloc | apply IsS26.drewN | apply IsS26.drew | apply IsS26.set_1 | refine IsS26.far ?_ NB223_224.out _ | refine IsS26.far ?_ NB223_277.out _) | exact HI223.out)))⟩; have n3_ : Aside0 (Below w.heap.size w w100) := ⟨(by rw [hw]; exact (by repeat (first | (with_reducible first | exact HB.out | apply below_alloc | apply pw_below_drewN | apply below_drew1 | refine below_set ?_ (IsS26.ge HI223.out) | refine below_set ?_ GE224.out | refine below_set ?_ GE277.out) | exact HB.out)))⟩; clear hw; clear BK224; clear BK277; clear HI223; clear HB; have BK224 := n0_; have BK277 := n1_; have HI223 := n2_; have HB := n3_; clear n0_ n1_ n2_ n3_))
                        go_roundg kj8
                        case measure => have := HK1.out; have := HJ8.out; omega
                        case rel => exact ⟨(wrap64 (x12_1 + 1)), (x224001_8), (t269), (t270), (t271), (t272), (t273), (t274), (t275), (t276), (by first | rfl | (simp; done) | (simp [*]; done)), H', ⟨by have := HK1.out; have := HJ8.out; omega⟩, ⟨by exact BK224.out⟩, ⟨by exact HI223.out⟩, ⟨by exact HB.out⟩⟩
                  · rw [if_neg c61] at H
                    have c61b0 : decide (0 < t270) = false := decide_eq_false c61
                    clear c61
                    obtain ⟨ji101, hji101⟩ : ∃ j_ : Int, (mx (wrap64 (t269 - x225000_8)) (wrap64 (x225000_8 - t269))) = j_ := ⟨_, rfl⟩
                    replace H : (if (ji101) > 5 then (some false) else (spykeep2_DomeKeeps.l0 kj8 (wrap64 (x12_1 + 1)) l0 x224001_8 t269 t270 t271 t272 t273 t274 t275 t276)) = some r := by first | (rw [hji101] at H; exact H) | (simp only [hji101] at H ⊢; exact H)
                    (try rw [hji101] at A57)
                    (try rw [hji101] at A59)
                    have hji101_ : (if (wrap64 (t269 - x225000_8)) < (wrap64 (x225000_8 - t269)) then (wrap64 (x225000_8 - t269)) else (wrap64 (t269 - x225000_8))) = ji101 := hji101
                    by_cases c102 : (ji101) > 5
                    · rw [if_pos c102] at H
                      have c102b0 : decide (5 < (ji101)) = true := decide_eq_true c102
                      clear c102
                      obtain rfl := Option.some.inj H
                      have hnb103 := NB224_223.out
                      have hnc103 := NB223_224.out
                      obtain ⟨hcz104_0, hcz104_1, hcz104_2, hcz104_3, hcz104_4, hcz104_5, hcz104_6, hcz104_7, hfz104_0, hfz104_1, hfz104_2, hfz104_3, hfz104_4, hfz104_5, hfz104_6, hfz104_7⟩ := tch8 BK224.out
                      go_wp2_with (first | ((with_reducible refine gate_callee (f := 13) rfl ?_); refine goesL_ (some 54) rfl rfl Try.func13 (by kernel_rfl) rfl #[.agg #[.int .i64 x225000_8, .int .i64 x225001_8, .bool x225002_8, .bool x225003_8, .int .i64 x225004_8, .int .i64 x225005_8, .int .i64 x225006_8, .bool x225007_8]] rfl (by (try simp only [List.map_toArray, List.map_cons, List.map_nil]); first | done | rfl | (simp only [List.length_drop, List.length_take]; rfl)) ?_; (with_reducible refine (dome_Step.calls kj8 x225000_8 x225001_8 x225002_8 x225003_8 x225004_8 x225005_8 x225006_8 x225007_8 t269 t270 t271 t272 t273 t274 t275 t276 _ A57.out).mono ?_); rintro e w105 ⟨rfl, hb⟩; refine ⟨_, rfl, ?_⟩; have n0_ := Aside0.mk (blk_below BK224.out hb); have n1_ := Aside0.mk (IsS26.below (by exact HI223.out) hb); have n2_ := Aside0.mk (below_step (by exact HB.out) hb); clear BK224; clear HI223; clear HB; have BK224 := n0_; have HI223 := n1_; have HB := n2_; clear n0_ n1_ n2_; (try clear hb); (try clear hb2); (try clear hk); (try clear hi)) | ((with_reducible refine gate_dst (N := 6) rfl ?_); (try (refine gate_guard (by rfl) ?_; dsimp only)); refine box_event ?hg (N := 6) ?hd (cs := #[.int .i64 0, .int .i64 0, .bool false, .bool false, .int .i64 0, .int .i64 0, .int .i64 0, .bool false]) (t := 30) ?hr ?_; (case hd => rfl); (case hg => rfl); (case hr => first | (go_simp; done) | (go_simp; rfl)); intro gb277 hg w106 hbox hb; have n0_ := Aside0.mk (blk_below BK224.out hb); have n1_ := Aside0.mk (IsS26.below (by exact HI223.out) hb); have n2_ := Aside0.mk (below_step (by exact HB.out) hb); have n3_ := Aside0.mk (hbox); have n4_ := Aside0.mk ((by rw [hg]; exact (below_size (by exact HB.out)) : w.heap.size ≤ gb277)); have n5_ := Aside0.mk ((by rw [hg]; exact (below_size (by exact HB.out)) : w.heap.size ≤ gb277)); have n6_ := Aside0.mk ((by rw [hg]; exact Nat.ne_of_lt (blk_lt BK224.out) : gb224 ≠ gb277)); have n7_ := Aside0.mk ((by rw [hg]; exact Nat.ne_of_gt (blk_lt BK224.out) : gb277 ≠ gb224)); have n8_ := Aside0.mk ((by rw [hg]; exact Nat.ne_of_lt (IsS26.lt (show IsS26 w _ gb223 l0 x224001_8 from by exact HI223.out)) : gb223 ≠ gb277)); have n9_ := Aside0.mk ((by rw [hg]; exact Nat.ne_of_gt (IsS26.lt (show IsS26 w _ gb223 l0 x224001_8 from by exact HI223.out)) : gb277 ≠ gb223)); clear BK224; clear HI223; clear HB; have BK224 := n0_; have HI223 := n1_; have HB := n2_; have BK277 := n3_; have GW277 := n4_; have GE277 := n5_; have NB224_277 := n6_; have NB277_224 := n7_; have NB223_277 := n8_; have NB277_223 := n9_; clear n0_ n1_ n2_ n3_ n4_ n5_ n6_ n7_ n8_ n9_; clear hb hbox hg; have hnb107 := NB277_224.out; have hnc107 := NB224_277.out; have hnb108 := NB277_223.out; have hnc108 := NB223_277.out; obtain ⟨hcz109_0, hcz109_1, hcz109_2, hcz109_3, hcz109_4, hcz109_5, hcz109_6, hcz109_7, hfz109_0, hfz109_1, hfz109_2, hfz109_3, hfz109_4, hfz109_5, hfz109_6, hfz109_7⟩ := tch8 BK277.out) | ((with_reducible refine gate_store (t := 30) (p := 6) rfl ?_); refine store_event (t := 30) (p := 6) (v := ?vo_w110) (w1 := ((((((((w106.setCell ⟨gb277, 0, none⟩ (.int .i64 t269)).setCell ⟨gb277, 1, none⟩ (.int .i64 t270)).setCell ⟨gb277, 2, none⟩ (.bool t271)).setCell ⟨gb277, 3, none⟩ (.bool t272)).setCell ⟨gb277, 4, none⟩ (.int .i64 t273)).setCell ⟨gb277, 5, none⟩ (.int .i64 t274)).setCell ⟨gb277, 6, none⟩ (.int .i64 t275)).setCell ⟨gb277, 7, none⟩ (.bool t276))) ?hg ?ho ?hn ?hr ?_; (case ho => rfl); (case hg => rfl); (case hn => rfl); (case hr => first | (go_simp; done) | (go_simp; rfl)); intro w110 hw; have n0_ : Aside0 (w110.heap[gb224]? = some (.cells #[.int .i64 x225000_8, .int .i64 x225001_8, .bool x225002_8, .bool x225003_8, .int .i64 x225004_8, .int .i64 x225005_8, .int .i64 x225006_8, .bool x225007_8] 30 (0, 0))) := ⟨(by rw [hw]; exact (by (with_reducible repeat (first | refine blk_drewN ?_ _ | refine blk_drew ?_ | refine blk_alloc ?_ _)); refine blk_far ?_ NB224_277.out _; (with_reducible repeat (first | refine blk_drewN ?_ _ | refine blk_drew ?_ | refine blk_alloc ?_ _)); refine blk_far ?_ NB224_277.out _; (with_reducible repeat (first | refine blk_drewN ?_ _ | refine blk_drew ?_ | refine blk_alloc ?_ _)); refine blk_far ?_ NB224_277.out _; (with_reducible repeat (first | refine blk_drewN ?_ _ | refine blk_drew ?_ | refine blk_alloc ?_ _)); refine blk_far ?_ NB224_277.out _; (with_reducible repeat (first | refine blk_drewN ?_ _ | refine blk_drew ?_ | refine blk_alloc ?_ _)); refine blk_far ?_ NB224_277.out _; (with_reducible repeat (first | refine blk_drewN ?_ _ | refine blk_drew ?_ | refine blk_alloc ?_ _)); refine blk_far ?_ NB224_277.out _; (with_reducible repeat (first | refine blk_drewN ?_ _ | refine blk_drew ?_ | refine blk_alloc ?_ _)); refine blk_far ?_ NB224_277.out _; (with_reducible repeat (first | refine blk_drewN ?_ _ | refine blk_drew ?_ | refine blk_alloc ?_ _)); refine blk_far ?_ NB224_277.out _; (with_reducible repeat (first | refine blk_drewN ?_ _ | refine blk_drew ?_ | refine blk_alloc ?_ _)); exact BK224.out))⟩; have n1_ : Aside0 (w110.heap[gb277]? = some (.cells #[.int .i64 t269, .int .i64 t270, .bool t271, .bool t272, .int .i64 t273, .int .i64 t274, .int .i64 t275, .bool t276] 30 (0, 0))) := ⟨(by rw [hw]; exact (by (with_reducible repeat (first | refine blk_drewN ?_ _ | refine blk_drew ?_ | refine blk_alloc ?_ _)); refine blk_put (cs := #[.int .i64 t269, .int .i64 t270, .bool t271, .bool t272, .int .i64 t273, .int .i64 t274, .int .i64 t275, .bool false]) ?_ 7 _ rfl; (with_reducible repeat (first | refine blk_drewN ?_ _ | refine blk_drew ?_ | refine blk_alloc ?_ _)); refine blk_put (cs := #[.int .i64 t269, .int .i64 t270, .bool t271, .bool t272, .int .i64 t273, .int .i64 t274, .int .i64 0, .bool false]) ?_ 6 _ rfl; (with_reducible repeat (first | refine blk_drewN ?_ _ | refine blk_drew ?_ | refine blk_alloc ?_ _)); refine blk_put (cs := #[.int .i64 t269, .int .i64 t270, .bool t271, .bool t272, .int .i64 t273, .int .i64 0, .int .i64 0, .bool false]) ?_ 5 _ rfl; (with_reducible repeat (first | refine blk_drewN ?_ _ | refine blk_drew ?_ | refine blk_alloc ?_ _)); refine blk_put (cs := #[.int .i64 t269, .int .i64 t270, .bool t271, .bool t272, .int .i64 0, .int .i64 0, .int .i64 0, .bool false]) ?_ 4 _ rfl; (with_reducible repeat (first | refine blk_drewN ?_ _ | refine blk_drew ?_ | refine blk_alloc ?_ _)); refine blk_put (cs := #[.int .i64 t269, .int .i64 t270, .bool t271, .bool false, .int .i64 0, .int .i64 0, .int .i64 0, .bool false]) ?_ 3 _ rfl; (with_reducible repeat (first | refine blk_drewN ?_ _ | refine blk_drew ?_ | refine blk_alloc ?_ _)); refine blk_put (cs := #[.int .i64 t269, .int .i64 t270, .bool false, .bool false, .int .i64 0, .int .i64 0, .int .i64 0, .bool false]) ?_ 2 _ rfl; (with_reducible repeat (first | refine blk_drewN ?_ _ | refine blk_drew ?_ | refine blk_alloc ?_ _)); refine blk_put (cs := #[.int .i64 t269, .int .i64 0, .bool false, .bool false, .int .i64 0, .int .i64 0, .int .i64 0, .bool false]) ?_ 1 _ rfl; (with_reducible repeat (first | refine blk_drewN ?_ _ | refine blk_drew ?_ | refine blk_alloc ?_ _)); refine blk_put (cs := #[.int .i64 0, .int .i64 0, .bool false, .bool false, .int .i64 0, .int .i64 0, .int .i64 0, .bool false]) ?_ 0 _ rfl; (with_reducible repeat (first | refine blk_drewN ?_ _ | refine blk_drew ?_ | refine blk_alloc ?_ _)); exact BK277.out))⟩; have n2_ : Aside0 (IsS26 w w110 gb223 l0 x224001_8) := ⟨(by rw [hw]; exact (by repeat (first | (with_reducible first | exact HI223.out | apply IsS26.alloc | apply IsS26.drewN | apply IsS26.drew | apply IsS26.set_1 | refine IsS26.far ?_ NB223_224.out _ | refine IsS26.far ?_ NB223_277.out _) | exact HI223.out)))⟩; have n3_ : Aside0 (Below w.heap.size w w110) := ⟨(by rw [hw]; exact (by repeat (first | (with_reducible first | exact HB.out | apply below_alloc | apply pw_below_drewN | apply below_drew1 | refine below_set ?_ (IsS26.ge HI223.out) | refine below_set ?_ GE224.out | refine below_set ?_ GE277.out) | exact HB.out)))⟩; clear hw; clear BK224; clear BK277; clear HI223; clear HB; have BK224 := n0_; have BK277 := n1_; have HI223 := n2_; have HB := n3_; clear n0_ n1_ n2_ n3_; obtain ⟨hcz111_0, hcz111_1, hcz111_2, hcz111_3, hcz111_4, hcz111_5, hcz111_6, hcz111_7, hfz111_0, hfz111_1, hfz111_2, hfz111_3, hfz111_4, hfz111_5, hfz111_6, hfz111_7⟩ := tch8 BK277.out) | (go_at_call 30; (with_reducible refine (dome_Check.calls kj8 t269 t270 t271 t272 t273 t274 t275 t276 t278 _ A59.out).mono ?_); rintro e w112 ⟨rfl, hb⟩; have n0_ := Aside0.mk (blk_below BK224.out hb); have n1_ := Aside0.mk (IsS26.below (by exact HI223.out) hb); have n2_ := Aside0.mk (blk_below BK277.out hb); have n3_ := Aside0.mk (below_step (by exact HB.out) hb); clear BK224; clear HI223; clear BK277; clear HB; have BK224 := n0_; have HI223 := n1_; have BK277 := n2_; have HB := n3_; clear n0_ n1_ n2_ n3_; (try clear hb); (try clear hb2); (try clear hk); (try clear hi); obtain ⟨hcz113_0, hcz113_1, hcz113_2, hcz113_3, hcz113_4, hcz113_5, hcz113_6, hcz113_7, hfz113_0, hfz113_1, hfz113_2, hfz113_3, hfz113_4, hfz113_5, hfz113_6, hfz113_7⟩ := tch8 BK277.out; obtain ⟨hcz114_0, hcz114_1, hcz114_2, hcz114_3, hcz114_4, hcz114_5, hcz114_6, hcz114_7, hfz114_0, hfz114_1, hfz114_2, hfz114_3, hfz114_4, hfz114_5, hfz114_6, hfz114_7⟩ := tch8 BK224.out))
                      go_ret
                      exact ⟨by first | rfl | (simp [errW_none, errW_some] <;> rfl) | (simp only [← hji101]; first | rfl | (simp [errW_none, errW_some] <;> rfl)) | (simp [*, errW_none, errW_some] <;> rfl), by exact HB.out⟩
                    · rw [if_neg c102] at H
                      have c102b0 : decide (5 < (ji101)) = false := decide_eq_false c102
                      clear c102
                      have H' := Aside0.mk H
                      clear H
                      have hnb115 := NB224_223.out
                      have hnc115 := NB223_224.out
                      obtain ⟨hcz116_0, hcz116_1, hcz116_2, hcz116_3, hcz116_4, hcz116_5, hcz116_6, hcz116_7, hfz116_0, hfz116_1, hfz116_2, hfz116_3, hfz116_4, hfz116_5, hfz116_6, hfz116_7⟩ := tch8 BK224.out
                      go_wp2_with (first | ((with_reducible refine gate_callee (f := 13) rfl ?_); refine goesL_ (some 54) rfl rfl Try.func13 (by kernel_rfl) rfl #[.agg #[.int .i64 x225000_8, .int .i64 x225001_8, .bool x225002_8, .bool x225003_8, .int .i64 x225004_8, .int .i64 x225005_8, .int .i64 x225006_8, .bool x225007_8]] rfl (by (try simp only [List.map_toArray, List.map_cons, List.map_nil]); first | done | rfl | (simp only [List.length_drop, List.length_take]; rfl)) ?_; (with_reducible refine (dome_Step.calls kj8 x225000_8 x225001_8 x225002_8 x225003_8 x225004_8 x225005_8 x225006_8 x225007_8 t269 t270 t271 t272 t273 t274 t275 t276 _ A57.out).mono ?_); rintro e w117 ⟨rfl, hb⟩; refine ⟨_, rfl, ?_⟩; have n0_ := Aside0.mk (blk_below BK224.out hb); have n1_ := Aside0.mk (IsS26.below (by exact HI223.out) hb); have n2_ := Aside0.mk (below_step (by exact HB.out) hb); clear BK224; clear HI223; clear HB; have BK224 := n0_; have HI223 := n1_; have HB := n2_; clear n0_ n1_ n2_; (try clear hb); (try clear hb2); (try clear hk); (try clear hi)) | ((with_reducible refine gate_dst (N := 6) rfl ?_); (try (refine gate_guard (by rfl) ?_; dsimp only)); refine box_event ?hg (N := 6) ?hd (cs := #[.int .i64 0, .int .i64 0, .bool false, .bool false, .int .i64 0, .int .i64 0, .int .i64 0, .bool false]) (t := 30) ?hr ?_; (case hd => rfl); (case hg => rfl); (case hr => first | (go_simp; done) | (go_simp; rfl)); intro gb277 hg w118 hbox hb; have n0_ := Aside0.mk (blk_below BK224.out hb); have n1_ := Aside0.mk (IsS26.below (by exact HI223.out) hb); have n2_ := Aside0.mk (below_step (by exact HB.out) hb); have n3_ := Aside0.mk (hbox); have n4_ := Aside0.mk ((by rw [hg]; exact (below_size (by exact HB.out)) : w.heap.size ≤ gb277)); have n5_ := Aside0.mk ((by rw [hg]; exact (below_size (by exact HB.out)) : w.heap.size ≤ gb277)); have n6_ := Aside0.mk ((by rw [hg]; exact Nat.ne_of_lt (blk_lt BK224.out) : gb224 ≠ gb277)); have n7_ := Aside0.mk ((by rw [hg]; exact Nat.ne_of_gt (blk_lt BK224.out) : gb277 ≠ gb224)); have n8_ := Aside0.mk ((by rw [hg]; exact Nat.ne_of_lt (IsS26.lt (show IsS26 w _ gb223 l0 x224001_8 from by exact HI223.out)) : gb223 ≠ gb277)); have n9_ := Aside0.mk ((by rw [hg]; exact Nat.ne_of_gt (IsS26.lt (show IsS26 w _ gb223 l0 x224001_8 from by exact HI223.out)) : gb277 ≠ gb223)); clear BK224; clear HI223; clear HB; have BK224 := n0_; have HI223 := n1_; have HB := n2_; have BK277 := n3_; have GW277 := n4_; have GE277 := n5_; have NB224_277 := n6_; have NB277_224 := n7_; have NB223_277 := n8_; have NB277_223 := n9_; clear n0_ n1_ n2_ n3_ n4_ n5_ n6_ n7_ n8_ n9_; clear hb hbox hg; have hnb119 := NB277_224.out; have hnc119 := NB224_277.out; have hnb120 := NB277_223.out; have hnc120 := NB223_277.out; obtain ⟨hcz121_0, hcz121_1, hcz121_2, hcz121_3, hcz121_4, hcz121_5, hcz121_6, hcz121_7, hfz121_0, hfz121_1, hfz121_2, hfz121_3, hfz121_4, hfz121_5, hfz121_6, hfz121_7⟩ := tch8 BK277.out) | ((with_reducible refine gate_store (t := 30) (p := 6) rfl ?_); refine store_event (t := 30) (p := 6) (v := ?vo_w122) (w1 := ((((((((w118.setCell ⟨gb277, 0, none⟩ (.int .i64 t269)).setCell ⟨gb277, 1, none⟩ (.int .i64 t270)).setCell ⟨gb277, 2, none⟩ (.bool t271)).setCell ⟨gb277, 3, none⟩ (.bool t272)).setCell ⟨gb277, 4, none⟩ (.int .i64 t273)).setCell ⟨gb277, 5, none⟩ (.int .i64 t274)).setCell ⟨gb277, 6, none⟩ (.int .i64 t275)).setCell ⟨gb277, 7, none⟩ (.bool t276))) ?hg ?ho ?hn ?hr ?_; (case ho => rfl); (case hg => rfl); (case hn => rfl); (case hr => first | (go_simp; done) | (go_simp; rfl)); intro w122 hw; have n0_ : Aside0 (w122.heap[gb224]? = some (.cells #[.int .i64 x225000_8, .int .i64 x225001_8, .bool x225002_8, .bool x225003_8, .int .i64 x225004_8, .int .i64 x225005_8, .int .i64 x225006_8, .bool x225007_8] 30 (0, 0))) := ⟨(by rw [hw]; exact (by (with_reducible repeat (first | refine blk_drewN ?_ _ | refine blk_drew ?_ | refine blk_alloc ?_ _)); refine blk_far ?_ NB224_277.out _; (with_reducible repeat (first | refine blk_drewN ?_ _ | refine blk_drew ?_ | refine blk_alloc ?_ _)); refine blk_far ?_ NB224_277.out _; (with_reducible repeat (first | refine blk_drewN ?_ _ | refine blk_drew ?_ | refine blk_alloc ?_ _)); refine blk_far ?_ NB224_277.out _; (with_reducible repeat (first | refine blk_drewN ?_ _ | refine blk_drew ?_ | refine blk_alloc ?_ _)); refine blk_far ?_ NB224_277.out _; (with_reducible repeat (first | refine blk_drewN ?_ _ | refine blk_drew ?_ | refine blk_alloc ?_ _)); refine blk_far ?_ NB224_277.out _; (with_reducible repeat (first | refine blk_drewN ?_ _ | refine blk_drew ?_ | refine blk_alloc ?_ _)); refine blk_far ?_ NB224_277.out _; (with_reducible repeat (first | refine blk_drewN ?_ _ | refine blk_drew ?_ | refine blk_alloc ?_ _)); refine blk_far ?_ NB224_277.out _; (with_reducible repeat (first | refine blk_drewN ?_ _ | refine blk_drew ?_ | refine blk_alloc ?_ _)); refine blk_far ?_ NB224_277.out _; (with_reducible repeat (first | refine blk_drewN ?_ _ | refine blk_drew ?_ | refine blk_alloc ?_ _)); exact BK224.out))⟩; have n1_ : Aside0 (w122.heap[gb277]? = some (.cells #[.int .i64 t269, .int .i64 t270, .bool t271, .bool t272, .int .i64 t273, .int .i64 t274, .int .i64 t275, .bool t276] 30 (0, 0))) := ⟨(by rw [hw]; exact (by (with_reducible repeat (first | refine blk_drewN ?_ _ | refine blk_drew ?_ | refine blk_alloc ?_ _)); refine blk_put (cs := #[.int .i64 t269, .int .i64 t270, .bool t271, .bool t272, .int .i64 t273, .int .i64 t274, .int .i64 t275, .bool false]) ?_ 7 _ rfl; (with_reducible repeat (first | refine blk_drewN ?_ _ | refine blk_drew ?_ | refine blk_alloc ?_ _)); refine blk_put (cs := #[.int .i64 t269, .int .i64 t270, .bool t271, .bool t272, .int .i64 t273, .int .i64 t274, .int .i64 0, .bool false]) ?_ 6 _ rfl; (with_reducible repeat (first | refine blk_drewN ?_ _ | refine blk_drew ?_ | refine blk_alloc ?_ _)); refine blk_put (cs := #[.int .i64 t269, .int .i64 t270, .bool t271, .bool t272, .int .i64 t273, .int .i64 0, .int .i64 0, .bool false]) ?_ 5 _ rfl; (with_reducible repeat (first | refine blk_drewN ?_ _ | refine blk_drew ?_ | refine blk_alloc ?_ _)); refine blk_put (cs := #[.int .i64 t269, .int .i64 t270, .bool t271, .bool t272, .int .i64 0, .int .i64 0, .int .i64 0, .bool false]) ?_ 4 _ rfl; (with_reducible repeat (first | refine blk_drewN ?_ _ | refine blk_drew ?_ | refine blk_alloc ?_ _)); refine blk_put (cs := #[.int .i64 t269, .int .i64 t270, .bool t271, .bool false, .int .i64 0, .int .i64 0, .int .i64 0, .bool false]) ?_ 3 _ rfl; (with_reducible repeat (first | refine blk_drewN ?_ _ | refine blk_drew ?_ | refine blk_alloc ?_ _)); refine blk_put (cs := #[.int .i64 t269, .int .i64 t270, .bool false, .bool false, .int .i64 0, .int .i64 0, .int .i64 0, .bool false]) ?_ 2 _ rfl; (with_reducible repeat (first | refine blk_drewN ?_ _ | refine blk_drew ?_ | refine blk_alloc ?_ _)); refine blk_put (cs := #[.int .i64 t269, .int .i64 0, .bool false, .bool false, .int .i64 0, .int .i64 0, .int .i64 0, .bool false]) ?_ 1 _ rfl; (with_reducible repeat (first | refine blk_drewN ?_ _ | refine blk_drew ?_ | refine blk_alloc ?_ _)); refine blk_put (cs := #[.int .i64 0, .int .i64 0, .bool false, .bool false, .int .i64 0, .int .i64 0, .int .i64 0, .bool false]) ?_ 0 _ rfl; (with_reducible repeat (first | refine blk_drewN ?_ _ | refine blk_drew ?_ | refine blk_alloc ?_ _)); exact BK277.out))⟩; have n2_ : Aside0 (IsS26 w w122 gb223 l0 x224001_8) := ⟨(by rw [hw]; exact (by repeat (first | (with_reducible first | exact HI223.out | apply IsS26.alloc | apply IsS26.drewN | apply IsS26.drew | apply IsS26.set_1 | refine IsS26.far ?_ NB223_224.out _ | refine IsS26.far ?_ NB223_277.out _) | exact HI223.out)))⟩; have n3_ : Aside0 (Below w.heap.size w w122) := ⟨(by rw [hw]; exact (by repeat (first | (with_reducible first | exact HB.out | apply below_alloc | apply pw_below_drewN | apply below_drew1 | refine below_set ?_ (IsS26.ge HI223.out) | refine below_set ?_ GE224.out | refine below_set ?_ GE277.out) | exact HB.out)))⟩; clear hw; clear BK224; clear BK277; clear HI223; clear HB; have BK224 := n0_; have BK277 := n1_; have HI223 := n2_; have HB := n3_; clear n0_ n1_ n2_ n3_; obtain ⟨hcz123_0, hcz123_1, hcz123_2, hcz123_3, hcz123_4, hcz123_5, hcz123_6, hcz123_7, hfz123_0, hfz123_1, hfz123_2, hfz123_3, hfz123_4, hfz123_5, hfz123_6, hfz123_7⟩ := tch8 BK277.out) | (go_at_call 30; (with_reducible refine (dome_Check.calls kj8 t269 t270 t271 t272 t273 t274 t275 t276 t278 _ A59.out).mono ?_); rintro e w124 ⟨rfl, hb⟩; have n0_ := Aside0.mk (blk_below BK224.out hb); have n1_ := Aside0.mk (IsS26.below (by exact HI223.out) hb); have n2_ := Aside0.mk (blk_below BK277.out hb); have n3_ := Aside0.mk (below_step (by exact HB.out) hb); clear BK224; clear HI223; clear BK277; clear HB; have BK224 := n0_; have HI223 := n1_; have BK277 := n2_; have HB := n3_; clear n0_ n1_ n2_ n3_; (try clear hb); (try clear hb2); (try clear hk); (try clear hi); obtain ⟨hcz125_0, hcz125_1, hcz125_2, hcz125_3, hcz125_4, hcz125_5, hcz125_6, hcz125_7, hfz125_0, hfz125_1, hfz125_2, hfz125_3, hfz125_4, hfz125_5, hfz125_6, hfz125_7⟩ := tch8 BK277.out; obtain ⟨hcz126_0, hcz126_1, hcz126_2, hcz126_3, hcz126_4, hcz126_5, hcz126_6, hcz126_7, hfz126_0, hfz126_1, hfz126_2, hfz126_3, hfz126_4, hfz126_5, hfz126_6, hfz126_7⟩ := tch8 BK224.out) | ((with_reducible refine gate_store (t := 30) (p := 4) rfl ?_); refine store_event (t := 30) (p := 4) (v := ?vo_w127) (w1 := ((((((((w124.setCell ⟨gb224, 0, none⟩ (.int .i64 t269)).setCell ⟨gb224, 1, none⟩ (.int .i64 t270)).setCell ⟨gb224, 2, none⟩ (.bool t271)).setCell ⟨gb224, 3, none⟩ (.bool t272)).setCell ⟨gb224, 4, none⟩ (.int .i64 t273)).setCell ⟨gb224, 5, none⟩ (.int .i64 t274)).setCell ⟨gb224, 6, none⟩ (.int .i64 t275)).setCell ⟨gb224, 7, none⟩ (.bool t276))) ?hg ?ho ?hn ?hr ?_; (case ho => rfl); (case hg => rfl); (case hn => rfl); (case hr => first | (go_simp; done) | (go_simp; rfl)); intro w127 hw; have n0_ : Aside0 (w127.heap[gb224]? = some (.cells #[.int .i64 t269, .int .i64 t270, .bool t271, .bool t272, .int .i64 t273, .int .i64 t274, .int .i64 t275, .bool t276] 30 (0, 0))) := ⟨(by rw [hw]; exact (by (with_reducible repeat (first | refine blk_drewN ?_ _ | refine blk_drew ?_ | refine blk_alloc ?_ _)); refine blk_put (cs := #[.int .i64 t269, .int .i64 t270, .bool t271, .bool t272, .int .i64 t273, .int .i64 t274, .int .i64 t275, .bool x225007_8]) ?_ 7 _ rfl; (with_reducible repeat (first | refine blk_drewN ?_ _ | refine blk_drew ?_ | refine blk_alloc ?_ _)); refine blk_put (cs := #[.int .i64 t269, .int .i64 t270, .bool t271, .bool t272, .int .i64 t273, .int .i64 t274, .int .i64 x225006_8, .bool x225007_8]) ?_ 6 _ rfl; (with_reducible repeat (first | refine blk_drewN ?_ _ | refine blk_drew ?_ | refine blk_alloc ?_ _)); refine blk_put (cs := #[.int .i64 t269, .int .i64 t270, .bool t271, .bool t272, .int .i64 t273, .int .i64 x225005_8, .int .i64 x225006_8, .bool x225007_8]) ?_ 5 _ rfl; (with_reducible repeat (first | refine blk_drewN ?_ _ | refine blk_drew ?_ | refine blk_alloc ?_ _)); refine blk_put (cs := #[.int .i64 t269, .int .i64 t270, .bool t271, .bool t272, .int .i64 x225004_8, .int .i64 x225005_8, .int .i64 x225006_8, .bool x225007_8]) ?_ 4 _ rfl; (with_reducible repeat (first | refine blk_drewN ?_ _ | refine blk_drew ?_ | refine blk_alloc ?_ _)); refine blk_put (cs := #[.int .i64 t269, .int .i64 t270, .bool t271, .bool x225003_8, .int .i64 x225004_8, .int .i64 x225005_8, .int .i64 x225006_8, .bool x225007_8]) ?_ 3 _ rfl; (with_reducible repeat (first | refine blk_drewN ?_ _ | refine blk_drew ?_ | refine blk_alloc ?_ _)); refine blk_put (cs := #[.int .i64 t269, .int .i64 t270, .bool x225002_8, .bool x225003_8, .int .i64 x225004_8, .int .i64 x225005_8, .int .i64 x225006_8, .bool x225007_8]) ?_ 2 _ rfl; (with_reducible repeat (first | refine blk_drewN ?_ _ | refine blk_drew ?_ | refine blk_alloc ?_ _)); refine blk_put (cs := #[.int .i64 t269, .int .i64 x225001_8, .bool x225002_8, .bool x225003_8, .int .i64 x225004_8, .int .i64 x225005_8, .int .i64 x225006_8, .bool x225007_8]) ?_ 1 _ rfl; (with_reducible repeat (first | refine blk_drewN ?_ _ | refine blk_drew ?_ | refine blk_alloc ?_ _)); refine blk_put (cs := #[.int .i64 x225000_8, .int .i64 x225001_8, .bool x225002_8, .bool x225003_8, .int .i64 x225004_8, .int .i64 x225005_8, .int .i64 x225006_8, .bool x225007_8]) ?_ 0 _ rfl; (with_reducible repeat (first | refine blk_drewN ?_ _ | refine blk_drew ?_ | refine blk_alloc ?_ _)); exact BK224.out))⟩; have n1_ : Aside0 (w127.heap[gb277]? = some (.cells #[.int .i64 t269, .int .i64 t270, .bool t271, .bool t272, .int .i64 t273, .int .i64 t274, .int .i64 t275, .bool t276] 30 (0, 0))) := ⟨(by rw [hw]; exact (by (with_reducible repeat (first | refine blk_drewN ?_ _ | refine blk_drew ?_ | refine blk_alloc ?_ _)); refine blk_far ?_ NB277_224.out _; (with_reducible repeat (first | refine blk_drewN ?_ _ | refine blk_drew ?_ | refine blk_alloc ?_ _)); refine blk_far ?_ NB277_224.out _; (with_reducible repeat (first | refine blk_drewN ?_ _ | refine blk_drew ?_ | refine blk_alloc ?_ _)); refine blk_far ?_ NB277_224.out _; (with_reducible repeat (first | refine blk_drewN ?_ _ | refine blk_drew ?_ | refine blk_alloc ?_ _)); refine blk_far ?_ NB277_224.out _; (with_reducible repeat (first | refine blk_drewN ?_ _ | refine blk_drew ?_ | refine blk_alloc ?_ _)); refine blk_far ?_ NB277_224.out _; (with_reducible repeat (first | refine blk_drewN ?_ _ | refine blk_drew ?_ | refine blk_alloc ?_ _)); refine blk_far ?_ NB277_224.out _; (with_reducible repeat (first | refine blk_drewN ?_ _ | refine blk_drew ?_ | refine blk_alloc ?_ _)); refine blk_far ?_ NB277_224.out _; (with_reducible repeat (first | refine blk_drewN ?_ _ | refine blk_drew ?_ | refine blk_alloc ?_ _)); refine blk_far ?_ NB277_224.out _; (with_reducible repeat (first | refine blk_drewN ?_ _ | refine blk_drew ?_ | refine blk_alloc ?_ _)); exact BK277.out))⟩; have n2_ : Aside0 (IsS26 w w127 gb223 l0 x224001_8) := ⟨(by rw [hw]; exact (by repeat (first | (with_reducible first | exact HI223.out | apply IsS26.alloc | apply IsS26.drewN | apply IsS26.drew | apply IsS26.set_1 | refine IsS26.far ?_ NB223_224.out _ | refine IsS26.far ?_ NB223_277.out _) | exact HI223.out)))⟩; have n3_ : Aside0 (Below w.heap.size w w127) := ⟨(by rw [hw]; exact (by repeat (first | (with_reducible first | exact HB.out | apply below_alloc | apply pw_below_drewN | apply below_drew1 | refine below_set ?_ (IsS26.ge HI223.out) | refine below_set ?_ GE224.out | refine below_set ?_ GE277.out) | exact HB.out)))⟩; clear hw; clear BK224; clear BK277; clear HI223; clear HB; have BK224 := n0_; have BK277 := n1_; have HI223 := n2_; have HB := n3_; clear n0_ n1_ n2_ n3_))
                      go_roundg kj8
                      case measure => have := HK1.out; have := HJ8.out; omega
                      case rel => exact ⟨(wrap64 (x12_1 + 1)), (x224001_8), (t269), (t270), (t271), (t272), (t273), (t274), (t275), (t276), (by first | rfl | (simp; done) | (simp [*]; done)), H', ⟨by have := HK1.out; have := HJ8.out; omega⟩, ⟨by exact BK224.out⟩, ⟨by exact HI223.out⟩, ⟨by exact HB.out⟩⟩
                · rw [if_neg c60] at H
                  have c60b0 : (t278 == 0) = false := beq_eq_false_iff_ne.mpr c60
                  have c60b1 : (t278 != 0) = true := bne_iff_ne.mpr c60
                  obtain rfl := Option.some.inj H
                  have hnb128 := NB224_223.out
                  have hnc128 := NB223_224.out
                  obtain ⟨hcz129_0, hcz129_1, hcz129_2, hcz129_3, hcz129_4, hcz129_5, hcz129_6, hcz129_7, hfz129_0, hfz129_1, hfz129_2, hfz129_3, hfz129_4, hfz129_5, hfz129_6, hfz129_7⟩ := tch8 BK224.out
                  go_wp2_with (first | ((with_reducible refine gate_callee (f := 13) rfl ?_); refine goesL_ (some 54) rfl rfl Try.func13 (by kernel_rfl) rfl #[.agg #[.int .i64 x225000_8, .int .i64 x225001_8, .bool x225002_8, .bool x225003_8, .int .i64 x225004_8, .int .i64 x225005_8, .int .i64 x225006_8, .bool x225007_8]] rfl (by (try simp only [List.map_toArray, List.map_cons, List.map_nil]); first | done | rfl | (simp only [List.length_drop, List.length_take]; rfl)) ?_; (with_reducible refine (dome_Step.calls kj8 x225000_8 x225001_8 x225002_8 x225003_8 x225004_8 x225005_8 x225006_8 x225007_8 t269 t270 t271 t272 t273 t274 t275 t276 _ A57.out).mono ?_); rintro e w130 ⟨rfl, hb⟩; refine ⟨_, rfl, ?_⟩; have n0_ := Aside0.mk (blk_below BK224.out hb); have n1_ := Aside0.mk (IsS26.below (by exact HI223.out) hb); have n2_ := Aside0.mk (below_step (by exact HB.out) hb); clear BK224; clear HI223; clear HB; have BK224 := n0_; have HI223 := n1_; have HB := n2_; clear n0_ n1_ n2_; (try clear hb); (try clear hb2); (try clear hk); (try clear hi)) | ((with_reducible refine gate_dst (N := 6) rfl ?_); (try (refine gate_guard (by rfl) ?_; dsimp only)); refine box_event ?hg (N := 6) ?hd (cs := #[.int .i64 0, .int .i64 0, .bool false, .bool false, .int .i64 0, .int .i64 0, .int .i64 0, .bool false]) (t := 30) ?hr ?_; (case hd => rfl); (case hg => rfl); (case hr => first | (go_simp; done) | (go_simp; rfl)); intro gb277 hg w131 hbox hb; have n0_ := Aside0.mk (blk_below BK224.out hb); have n1_ := Aside0.mk (IsS26.below (by exact HI223.out) hb); have n2_ := Aside0.mk (below_step (by exact HB.out) hb); have n3_ := Aside0.mk (hbox); have n4_ := Aside0.mk ((by rw [hg]; exact (below_size (by exact HB.out)) : w.heap.size ≤ gb277)); have n5_ := Aside0.mk ((by rw [hg]; exact (below_size (by exact HB.out)) : w.heap.size ≤ gb277)); have n6_ := Aside0.mk ((by rw [hg]; exact Nat.ne_of_lt (blk_lt BK224.out) : gb224 ≠ gb277)); have n7_ := Aside0.mk ((by rw [hg]; exact Nat.ne_of_gt (blk_lt BK224.out) : gb277 ≠ gb224)); have n8_ := Aside0.mk ((by rw [hg]; exact Nat.ne_of_lt (IsS26.lt (show IsS26 w _ gb223 l0 x224001_8 from by exact HI223.out)) : gb223 ≠ gb277)); have n9_ := Aside0.mk ((by rw [hg]; exact Nat.ne_of_gt (IsS26.lt (show IsS26 w _ gb223 l0 x224001_8 from by exact HI223.out)) : gb277 ≠ gb223)); clear BK224; clear HI223; clear HB; have BK224 := n0_; have HI223 := n1_; have HB := n2_; have BK277 := n3_; have GW277 := n4_; have GE277 := n5_; have NB224_277 := n6_; have NB277_224 := n7_; have NB223_277 := n8_; have NB277_223 := n9_; clear n0_ n1_ n2_ n3_ n4_ n5_ n6_ n7_ n8_ n9_; clear hb hbox hg; have hnb132 := NB277_224.out; have hnc132 := NB224_277.out; have hnb133 := NB277_223.out; have hnc133 := NB223_277.out; obtain ⟨hcz134_0, hcz134_1, hcz134_2, hcz134_3, hcz134_4, hcz134_5, hcz134_6, hcz134_7, hfz134_0, hfz134_1, hfz134_2, hfz134_3, hfz134_4, hfz134_5, hfz134_6, hfz134_7⟩ := tch8 BK277.out) | ((with_reducible refine gate_store (t := 30) (p := 6) rfl ?_); refine store_event (t := 30) (p := 6) (v := ?vo_w135) (w1 := ((((((((w131.setCell ⟨gb277, 0, none⟩ (.int .i64 t269)).setCell ⟨gb277, 1, none⟩ (.int .i64 t270)).setCell ⟨gb277, 2, none⟩ (.bool t271)).setCell ⟨gb277, 3, none⟩ (.bool t272)).setCell ⟨gb277, 4, none⟩ (.int .i64 t273)).setCell ⟨gb277, 5, none⟩ (.int .i64 t274)).setCell ⟨gb277, 6, none⟩ (.int .i64 t275)).setCell ⟨gb277, 7, none⟩ (.bool t276))) ?hg ?ho ?hn ?hr ?_; (case ho => rfl); (case hg => rfl); (case hn => rfl); (case hr => first | (go_simp; done) | (go_simp; rfl)); intro w135 hw; have n0_ : Aside0 (w135.heap[gb224]? = some (.cells #[.int .i64 x225000_8, .int .i64 x225001_8, .bool x225002_8, .bool x225003_8, .int .i64 x225004_8, .int .i64 x225005_8, .int .i64 x225006_8, .bool x225007_8] 30 (0, 0))) := ⟨(by rw [hw]; exact (by (with_reducible repeat (first | refine blk_drewN ?_ _ | refine blk_drew ?_ | refine blk_alloc ?_ _)); refine blk_far ?_ NB224_277.out _; (with_reducible repeat (first | refine blk_drewN ?_ _ | refine blk_drew ?_ | refine blk_alloc ?_ _)); refine blk_far ?_ NB224_277.out _; (with_reducible repeat (first | refine blk_drewN ?_ _ | refine blk_drew ?_ | refine blk_alloc ?_ _)); refine blk_far ?_ NB224_277.out _; (with_reducible repeat (first | refine blk_drewN ?_ _ | refine blk_drew ?_ | refine blk_alloc ?_ _)); refine blk_far ?_ NB224_277.out _; (with_reducible repeat (first | refine blk_drewN ?_ _ | refine blk_drew ?_ | refine blk_alloc ?_ _)); refine blk_far ?_ NB224_277.out _; (with_reducible repeat (first | refine blk_drewN ?_ _ | refine blk_drew ?_ | refine blk_alloc ?_ _)); refine blk_far ?_ NB224_277.out _; (with_reducible repeat (first | refine blk_drewN ?_ _ | refine blk_drew ?_ | refine blk_alloc ?_ _)); refine blk_far ?_ NB224_277.out _; (with_reducible repeat (first | refine blk_drewN ?_ _ | refine blk_drew ?_ | refine blk_alloc ?_ _)); refine blk_far ?_ NB224_277.out _; (with_reducible repeat (first | refine blk_drewN ?_ _ | refine blk_drew ?_ | refine blk_alloc ?_ _)); exact BK224.out))⟩; have n1_ : Aside0 (w135.heap[gb277]? = some (.cells #[.int .i64 t269, .int .i64 t270, .bool t271, .bool t272, .int .i64 t273, .int .i64 t274, .int .i64 t275, .bool t276] 30 (0, 0))) := ⟨(by rw [hw]; exact (by (with_reducible repeat (first | refine blk_drewN ?_ _ | refine blk_drew ?_ | refine blk_alloc ?_ _)); refine blk_put (cs := #[.int .i64 t269, .int .i64 t270, .bool t271, .bool t272, .int .i64 t273, .int .i64 t274, .int .i64 t275, .bool false]) ?_ 7 _ rfl; (with_reducible repeat (first | refine blk_drewN ?_ _ | refine blk_drew ?_ | refine blk_alloc ?_ _)); refine blk_put (cs := #[.int .i64 t269, .int .i64 t270, .bool t271, .bool t272, .int .i64 t273, .int .i64 t274, .int .i64 0, .bool false]) ?_ 6 _ rfl; (with_reducible repeat (first | refine blk_drewN ?_ _ | refine blk_drew ?_ | refine blk_alloc ?_ _)); refine blk_put (cs := #[.int .i64 t269, .int .i64 t270, .bool t271, .bool t272, .int .i64 t273, .int .i64 0, .int .i64 0, .bool false]) ?_ 5 _ rfl; (with_reducible repeat (first | refine blk_drewN ?_ _ | refine blk_drew ?_ | refine blk_alloc ?_ _)); refine blk_put (cs := #[.int .i64 t269, .int .i64 t270, .bool t271, .bool t272, .int .i64 0, .int .i64 0, .int .i64 0, .bool false]) ?_ 4 _ rfl; (with_reducible repeat (first | refine blk_drewN ?_ _ | refine blk_drew ?_ | refine blk_alloc ?_ _)); refine blk_put (cs := #[.int .i64 t269, .int .i64 t270, .bool t271, .bool false, .int .i64 0, .int .i64 0, .int .i64 0, .bool false]) ?_ 3 _ rfl; (with_reducible repeat (first | refine blk_drewN ?_ _ | refine blk_drew ?_ | refine blk_alloc ?_ _)); refine blk_put (cs := #[.int .i64 t269, .int .i64 t270, .bool false, .bool false, .int .i64 0, .int .i64 0, .int .i64 0, .bool false]) ?_ 2 _ rfl; (with_reducible repeat (first | refine blk_drewN ?_ _ | refine blk_drew ?_ | refine blk_alloc ?_ _)); refine blk_put (cs := #[.int .i64 t269, .int .i64 0, .bool false, .bool false, .int .i64 0, .int .i64 0, .int .i64 0, .bool false]) ?_ 1 _ rfl; (with_reducible repeat (first | refine blk_drewN ?_ _ | refine blk_drew ?_ | refine blk_alloc ?_ _)); refine blk_put (cs := #[.int .i64 0, .int .i64 0, .bool false, .bool false, .int .i64 0, .int .i64 0, .int .i64 0, .bool false]) ?_ 0 _ rfl; (with_reducible repeat (first | refine blk_drewN ?_ _ | refine blk_drew ?_ | refine blk_alloc ?_ _)); exact BK277.out))⟩; have n2_ : Aside0 (IsS26 w w135 gb223 l0 x224001_8) := ⟨(by rw [hw]; exact (by repeat (first | (with_reducible first | exact HI223.out | apply IsS26.alloc | apply IsS26.drewN | apply IsS26.drew | apply IsS26.set_1 | refine IsS26.far ?_ NB223_224.out _ | refine IsS26.far ?_ NB223_277.out _) | exact HI223.out)))⟩; have n3_ : Aside0 (Below w.heap.size w w135) := ⟨(by rw [hw]; exact (by repeat (first | (with_reducible first | exact HB.out | apply below_alloc | apply pw_below_drewN | apply below_drew1 | refine below_set ?_ (IsS26.ge HI223.out) | refine below_set ?_ GE224.out | refine below_set ?_ GE277.out) | exact HB.out)))⟩; clear hw; clear BK224; clear BK277; clear HI223; clear HB; have BK224 := n0_; have BK277 := n1_; have HI223 := n2_; have HB := n3_; clear n0_ n1_ n2_ n3_; obtain ⟨hcz136_0, hcz136_1, hcz136_2, hcz136_3, hcz136_4, hcz136_5, hcz136_6, hcz136_7, hfz136_0, hfz136_1, hfz136_2, hfz136_3, hfz136_4, hfz136_5, hfz136_6, hfz136_7⟩ := tch8 BK277.out) | (go_at_call 30; (with_reducible refine (dome_Check.calls kj8 t269 t270 t271 t272 t273 t274 t275 t276 t278 _ A59.out).mono ?_); rintro e w137 ⟨rfl, hb⟩; have n0_ := Aside0.mk (blk_below BK224.out hb); have n1_ := Aside0.mk (IsS26.below (by exact HI223.out) hb); have n2_ := Aside0.mk (blk_below BK277.out hb); have n3_ := Aside0.mk (below_step (by exact HB.out) hb); clear BK224; clear HI223; clear BK277; clear HB; have BK224 := n0_; have HI223 := n1_; have BK277 := n2_; have HB := n3_; clear n0_ n1_ n2_ n3_; (try clear hb); (try clear hb2); (try clear hk); (try clear hi)))
                  go_ret
                  exact ⟨by first | rfl | (simp [errW_none, errW_some] <;> rfl) | (simp [*, errW_none, errW_some] <;> rfl), by exact HB.out⟩
              · rw [if_neg c58] at H
                have c58b0 : (x5_8 == 0) = false := beq_eq_false_iff_ne.mpr c58
                have c58b1 : (x5_8 != 0) = true := bne_iff_ne.mpr c58
                obtain rfl := Option.some.inj H
                have hnb138 := NB224_223.out
                have hnc138 := NB223_224.out
                obtain ⟨hcz139_0, hcz139_1, hcz139_2, hcz139_3, hcz139_4, hcz139_5, hcz139_6, hcz139_7, hfz139_0, hfz139_1, hfz139_2, hfz139_3, hfz139_4, hfz139_5, hfz139_6, hfz139_7⟩ := tch8 BK224.out
                go_wp2_with (first | ((with_reducible refine gate_callee (f := 13) rfl ?_); refine goesL_ (some 54) rfl rfl Try.func13 (by kernel_rfl) rfl #[.agg #[.int .i64 x225000_8, .int .i64 x225001_8, .bool x225002_8, .bool x225003_8, .int .i64 x225004_8, .int .i64 x225005_8, .int .i64 x225006_8, .bool x225007_8]] rfl (by (try simp only [List.map_toArray, List.map_cons, List.map_nil]); first | done | rfl | (simp only [List.length_drop, List.length_take]; rfl)) ?_; (with_reducible refine (dome_Step.calls kj8 x225000_8 x225001_8 x225002_8 x225003_8 x225004_8 x225005_8 x225006_8 x225007_8 t269 t270 t271 t272 t273 t274 t275 t276 _ A57.out).mono ?_); rintro e w140 ⟨rfl, hb⟩; refine ⟨_, rfl, ?_⟩; have n0_ := Aside0.mk (blk_below BK224.out hb); have n1_ := Aside0.mk (IsS26.below (by exact HI223.out) hb); have n2_ := Aside0.mk (below_step (by exact HB.out) hb); clear BK224; clear HI223; clear HB; have BK224 := n0_; have HI223 := n1_; have HB := n2_; clear n0_ n1_ n2_; (try clear hb); (try clear hb2); (try clear hk); (try clear hi)) | ((with_reducible refine gate_dst (N := 6) rfl ?_); (try (refine gate_guard (by rfl) ?_; dsimp only)); refine box_event ?hg (N := 6) ?hd (cs := #[.int .i64 0, .int .i64 0, .bool false, .bool false, .int .i64 0, .int .i64 0, .int .i64 0, .bool false]) (t := 30) ?hr ?_; (case hd => rfl); (case hg => rfl); (case hr => first | (go_simp; done) | (go_simp; rfl)); intro gb277 hg w141 hbox hb; have n0_ := Aside0.mk (blk_below BK224.out hb); have n1_ := Aside0.mk (IsS26.below (by exact HI223.out) hb); have n2_ := Aside0.mk (below_step (by exact HB.out) hb); have n3_ := Aside0.mk (hbox); have n4_ := Aside0.mk ((by rw [hg]; exact (below_size (by exact HB.out)) : w.heap.size ≤ gb277)); have n5_ := Aside0.mk ((by rw [hg]; exact (below_size (by exact HB.out)) : w.heap.size ≤ gb277)); have n6_ := Aside0.mk ((by rw [hg]; exact Nat.ne_of_lt (blk_lt BK224.out) : gb224 ≠ gb277)); have n7_ := Aside0.mk ((by rw [hg]; exact Nat.ne_of_gt (blk_lt BK224.out) : gb277 ≠ gb224)); have n8_ := Aside0.mk ((by rw [hg]; exact Nat.ne_of_lt (IsS26.lt (show IsS26 w _ gb223 l0 x224001_8 from by exact HI223.out)) : gb223 ≠ gb277)); have n9_ := Aside0.mk ((by rw [hg]; exact Nat.ne_of_gt (IsS26.lt (show IsS26 w _ gb223 l0 x224001_8 from by exact HI223.out)) : gb277 ≠ gb223)); clear BK224; clear HI223; clear HB; have BK224 := n0_; have HI223 := n1_; have HB := n2_; have BK277 := n3_; have GW277 := n4_; have GE277 := n5_; have NB224_277 := n6_; have NB277_224 := n7_; have NB223_277 := n8_; have NB277_223 := n9_; clear n0_ n1_ n2_ n3_ n4_ n5_ n6_ n7_ n8_ n9_; clear hb hbox hg; have hnb142 := NB277_224.out; have hnc142 := NB224_277.out; have hnb143 := NB277_223.out; have hnc143 := NB223_277.out; obtain ⟨hcz144_0, hcz144_1, hcz144_2, hcz144_3, hcz144_4, hcz144_5, hcz144_6, hcz144_7, hfz144_0, hfz144_1, hfz144_2, hfz144_3, hfz144_4, hfz144_5, hfz144_6, hfz144_7⟩ := tch8 BK277.out) | ((with_reducible refine gate_store (t := 30) (p := 6) rfl ?_); refine store_event (t := 30) (p := 6) (v := ?vo_w145) (w1 := ((((((((w141.setCell ⟨gb277, 0, none⟩ (.int .i64 t269)).setCell ⟨gb277, 1, none⟩ (.int .i64 t270)).setCell ⟨gb277, 2, none⟩ (.bool t271)).setCell ⟨gb277, 3, none⟩ (.bool t272)).setCell ⟨gb277, 4, none⟩ (.int .i64 t273)).setCell ⟨gb277, 5, none⟩ (.int .i64 t274)).setCell ⟨gb277, 6, none⟩ (.int .i64 t275)).setCell ⟨gb277, 7, none⟩ (.bool t276))) ?hg ?ho ?hn ?hr ?_; (case ho => rfl); (case hg => rfl); (case hn => rfl); (case hr => first | (go_simp; done) | (go_simp; rfl)); intro w145 hw; have n0_ : Aside0 (w145.heap[gb224]? = some (.cells #[.int .i64 x225000_8, .int .i64 x225001_8, .bool x225002_8, .bool x225003_8, .int .i64 x225004_8, .int .i64 x225005_8, .int .i64 x225006_8, .bool x225007_8] 30 (0, 0))) := ⟨(by rw [hw]; exact (by (with_reducible repeat (first | refine blk_drewN ?_ _ | refine blk_drew ?_ | refine blk_alloc ?_ _)); refine blk_far ?_ NB224_277.out _; (with_reducible repeat (first | refine blk_drewN ?_ _ | refine blk_drew ?_ | refine blk_alloc ?_ _)); refine blk_far ?_ NB224_277.out _; (with_reducible repeat (first | refine blk_drewN ?_ _ | refine blk_drew ?_ | refine blk_alloc ?_ _)); refine blk_far ?_ NB224_277.out _; (with_reducible repeat (first | refine blk_drewN ?_ _ | refine blk_drew ?_ | refine blk_alloc ?_ _)); refine blk_far ?_ NB224_277.out _; (with_reducible repeat (first | refine blk_drewN ?_ _ | refine blk_drew ?_ | refine blk_alloc ?_ _)); refine blk_far ?_ NB224_277.out _; (with_reducible repeat (first | refine blk_drewN ?_ _ | refine blk_drew ?_ | refine blk_alloc ?_ _)); refine blk_far ?_ NB224_277.out _; (with_reducible repeat (first | refine blk_drewN ?_ _ | refine blk_drew ?_ | refine blk_alloc ?_ _)); refine blk_far ?_ NB224_277.out _; (with_reducible repeat (first | refine blk_drewN ?_ _ | refine blk_drew ?_ | refine blk_alloc ?_ _)); refine blk_far ?_ NB224_277.out _; (with_reducible repeat (first | refine blk_drewN ?_ _ | refine blk_drew ?_ | refine blk_alloc ?_ _)); exact BK224.out))⟩; have n1_ : Aside0 (w145.heap[gb277]? = some (.cells #[.int .i64 t269, .int .i64 t270, .bool t271, .bool t272, .int .i64 t273, .int .i64 t274, .int .i64 t275, .bool t276] 30 (0, 0))) := ⟨(by rw [hw]; exact (by (with_reducible repeat (first | refine blk_drewN ?_ _ | refine blk_drew ?_ | refine blk_alloc ?_ _)); refine blk_put (cs := #[.int .i64 t269, .int .i64 t270, .bool t271, .bool t272, .int .i64 t273, .int .i64 t274, .int .i64 t275, .bool false]) ?_ 7 _ rfl; (with_reducible repeat (first | refine blk_drewN ?_ _ | refine blk_drew ?_ | refine blk_alloc ?_ _)); refine blk_put (cs := #[.int .i64 t269, .int .i64 t270, .bool t271, .bool t272, .int .i64 t273, .int .i64 t274, .int .i64 0, .bool false]) ?_ 6 _ rfl; (with_reducible repeat (first | refine blk_drewN ?_ _ | refine blk_drew ?_ | refine blk_alloc ?_ _)); refine blk_put (cs := #[.int .i64 t269, .int .i64 t270, .bool t271, .bool t272, .int .i64 t273, .int .i64 0, .int .i64 0, .bool false]) ?_ 5 _ rfl; (with_reducible repeat (first | refine blk_drewN ?_ _ | refine blk_drew ?_ | refine blk_alloc ?_ _)); refine blk_put (cs := #[.int .i64 t269, .int .i64 t270, .bool t271, .bool t272, .int .i64 0, .int .i64 0, .int .i64 0, .bool false]) ?_ 4 _ rfl; (with_reducible repeat (first | refine blk_drewN ?_ _ | refine blk_drew ?_ | refine blk_alloc ?_ _)); refine blk_put (cs := #[.int .i64 t269, .int .i64 t270, .bool t271, .bool false, .int .i64 0, .int .i64 0, .int .i64 0, .bool false]) ?_ 3 _ rfl; (with_reducible repeat (first | refine blk_drewN ?_ _ | refine blk_drew ?_ | refine blk_alloc ?_ _)); refine blk_put (cs := #[.int .i64 t269, .int .i64 t270, .bool false, .bool false, .int .i64 0, .int .i64 0, .int .i64 0, .bool false]) ?_ 2 _ rfl; (with_reducible repeat (first | refine blk_drewN ?_ _ | refine blk_drew ?_ | refine blk_alloc ?_ _)); refine blk_put (cs := #[.int .i64 t269, .int .i64 0, .bool false, .bool false, .int .i64 0, .int .i64 0, .int .i64 0, .bool false]) ?_ 1 _ rfl; (with_reducible repeat (first | refine blk_drewN ?_ _ | refine blk_drew ?_ | refine blk_alloc ?_ _)); refine blk_put (cs := #[.int .i64 0, .int .i64 0, .bool false, .bool false, .int .i64 0, .int .i64 0, .int .i64 0, .bool false]) ?_ 0 _ rfl; (with_reducible repeat (first | refine blk_drewN ?_ _ | refine blk_drew ?_ | refine blk_alloc ?_ _)); exact BK277.out))⟩; have n2_ : Aside0 (IsS26 w w145 gb223 l0 x224001_8) := ⟨(by rw [hw]; exact (by repeat (first | (with_reducible first | exact HI223.out | apply IsS26.alloc | apply IsS26.drewN | apply IsS26.drew | apply IsS26.set_1 | refine IsS26.far ?_ NB223_224.out _ | refine IsS26.far ?_ NB223_277.out _) | exact HI223.out)))⟩; have n3_ : Aside0 (Below w.heap.size w w145) := ⟨(by rw [hw]; exact (by repeat (first | (with_reducible first | exact HB.out | apply below_alloc | apply pw_below_drewN | apply below_drew1 | refine below_set ?_ (IsS26.ge HI223.out) | refine below_set ?_ GE224.out | refine below_set ?_ GE277.out) | exact HB.out)))⟩; clear hw; clear BK224; clear BK277; clear HI223; clear HB; have BK224 := n0_; have BK277 := n1_; have HI223 := n2_; have HB := n3_; clear n0_ n1_ n2_ n3_))
                go_ret
                exact ⟨by first | rfl | (simp [errW_none, errW_some] <;> rfl) | (simp [*, errW_none, errW_some] <;> rfl), by exact HB.out⟩
        · rw [if_neg c7] at H
          have c7b0 : decide (x12_1 < 120) = false := decide_eq_false c7
          clear c7
          obtain rfl := Option.some.inj H
          go_wp2
          go_ret
          exact ⟨by first | rfl | (simp [errW_none, errW_some] <;> rfl) | (simp [*, errW_none, errW_some] <;> rfl), by exact HB.out⟩
  · replace c3 := Bool.eq_false_iff.mpr c3
    subst c3
    have H1 : (some false) = some r := by rw [if_neg (show ¬ (false = true) by decide)] at H; exact H
    clear H
    have H := H1
    clear H1
    obtain rfl := Option.some.inj H
    go_enter Try.func8, Try.ntmps8
    go_wp2_with (first | ((with_reducible refine gate_callee (f := 10) rfl ?_); refine goesL_ (some 7) rfl rfl Try.func10 (by kernel_rfl) rfl #[] rfl (by (try simp only [List.map_toArray, List.map_cons, List.map_nil]); first | done | rfl | (simp only [List.length_drop, List.length_take]; rfl)) ?_; (with_reducible refine (spykeep2_turns.calls k  false _ A2.out).mono ?_); rintro e w146 ⟨rfl, hb⟩; refine ⟨_, rfl, ?_⟩; have n0_ := Aside0.mk (below_step (by exact HB.out) hb); clear HB; have HB := n0_; clear n0_; (try clear hb); (try clear hb2); (try clear hk); (try clear hi)))
    go_ret
    exact ⟨by first | rfl | (simp [errW_none, errW_some] <;> rfl) | (simp [*, errW_none, errW_some] <;> rfl), by exact HB.out⟩

/-- THE ONE PURE STATEMENT of spykeep2_DomeKeeps: yours. -/
def spykeep2_DomeKeeps.Pure : Prop := ∀ (l0 : List Int), l0.length ≤ maxLen → l0.length * 8 ≤ 140737488351232 → (∀ x ∈ l0, (Lit.int .i64 x).wf = true) → ∃ k, spykeep2_DomeKeeps.f k l0 = some true
theorem spykeep2_DomeKeeps.walk (P : spykeep2_DomeKeeps.Pure) (a0 : Option Addr) (len0 cap0 : Nat) (z0 : List Int) (w : World) (w0 : (a0 = none ∧ len0 = 0 ∧ cap0 = 0 ∧ z0 = []) ∨ ∃ x, a0 = some x ∧ len0 ≤ cap0 ∧ cap0 ≤ maxLen ∧ z0.length = cap0 ∧ (∀ i, i < z0.length → w.cell? (x.add i) = some (.int .i64 (z0.getD i 0))) ∧ ∀ n ∈ z0, (Lit.int .i64 n).wf = true) (y0 : len0 * 8 ≤ 140737488351232) :
    Calls Try.prog 8 #[.slice a0 len0 cap0] w fun e w' => e = .returned (.bool true) ∧ Below w.heap.size w w' := by
  obtain ⟨l0, rfl, hr0, hm0, hw0, hc0⟩ := ReadsInt.ofRowC w0
  obtain ⟨k, h⟩ := P l0 hm0 y0 hw0
  refine (spykeep2_DomeKeeps.calls k _ _ l0 true w (Kd.C_of_reads (d := (0 : Int)) (h1 := fun _ => rfl) hr0) hc0 h).mono ?_
  rintro e w' ⟨rfl, hd⟩
  exact ⟨rfl, hd⟩

end Go.Proofs.Ytdnnjbokdckilaa.PDomeKeeps
