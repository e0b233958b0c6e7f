-- Written by a program of this session out of the translation (wip/tools).
import Derived.Test.YtmdphfjpocmooaaPSlewNearestx0
import Derived.Test.YtmdphfjpocmooaaPSlewNearestx1
import Derived.Test.YtmdphfjpocmooaaPSlewNearestx2
import Derived.Test.YtmdphfjpocmooaaPSlewNearestx3
namespace Go.Proofs.Ytmdphfjpocmooaa.PSlewNearest
open Go.RowKit Go.Proofs.YtmdphfjpocmooaaW.PrintWords Go.Proofs.YtmdphfjpocmooaaW.PrintLast Go.Proofs.YtmdphfjpocmooaaW.PrintMore
attribute [local go_sem] Instr.makeFunc max2_int min2_int max_two min_two max_three min_three max_four min_four   -- for this text's walks alone
set_option linter.unusedVariables false
set_option linter.unusedSimpArgs false

def spykeep2_near.f (q p fr : Int) : Option Bool := some (decide ((mx (wrap64 (p - fr)) (wrap64 (fr - p))) ≤ (mx (wrap64 (q - fr)) (wrap64 (fr - q)))))
set_option maxHeartbeats 8000000 in
theorem spykeep2_near.calls (q p fr : Int) (g8 g7 : Nat) (r : Bool) (w : World) (h8 : w.cell? ⟨g8, 0, none⟩ = some (.int .i64 p)) (h7 : w.cell? ⟨g7, 0, none⟩ = some (.int .i64 fr)) (h : spykeep2_near.f q p fr = some r) :
    Calls Try.prog 15 #[.int .i64 q, .pointer (some ⟨g8, 0, none⟩), .pointer (some ⟨g7, 0, none⟩)] w fun e w' => e = .returned (.bool r) ∧ w' = w := by
  obtain rfl := Option.some.inj h
  have e1 : ∃ a, (if wrap64 (p - fr) < wrap64 (fr - p) then wrap64 (fr - p) else wrap64 (p - fr)) = a := ⟨_, rfl⟩
  have e2 : ∃ a, (if wrap64 (q - fr) < wrap64 (fr - q) then wrap64 (fr - q) else wrap64 (q - fr)) = a := ⟨_, rfl⟩
  obtain ⟨a, ha⟩ := e1
  obtain ⟨b, hb⟩ := e2
  have hab : (mx (wrap64 (p - fr)) (wrap64 (fr - p))) = a ∧ (mx (wrap64 (q - fr)) (wrap64 (fr - q))) = b := ⟨ha, hb⟩
  rw [hab.1, hab.2]
  clear hab
  go_enter Try.func15, Try.ntmps15
  go_wp2
  go_ret
  exact ⟨rfl, rfl⟩
theorem szi2 : (Try.prog.info? 2).map (·.size) = some 1 := by kernel_rfl
/-! ### spykeep2_SlewNearest: function 3 -/
mutual
def spykeep2_SlewNearest.j1 : Nat → Bool → Int → Int → Int → Int → Int → Int → Option (Bool)
  | 0, _, _, _, _, _, _, _ => none
  | k + 1, x65, x167000, x167001, x167002, x167003, x170000, x173000 => if x65 = true then (some false) else (spykeep2_SlewNearest.l1 k (-8) x167000 x167001 x167002 x167003 x170000 x173000)
def spykeep2_SlewNearest.l1 : Nat → Int → Int → Int → Int → Int → Int → Int → Option (Bool)
  | 0, _, _, _, _, _, _, _ => none
  | k + 1, x13, x167000, x167001, x167002, x167003, x170000, x173000 => if x13 ≤ 8 then ((slew_In.f x167000 x167001 x167002 x167003 (wrap64 (x173000 + (wrap64 (x13 * 4294967296))))).bind fun t175 => (if t175 = true then ((spykeep2_near.f (wrap64 (x173000 + (wrap64 (x13 * 4294967296)))) x173000 x170000).bind fun t176 => (if t176 = true then (spykeep2_SlewNearest.l1 k (wrap64 (x13 + 1)) x167000 x167001 x167002 x167003 x170000 x173000) else (some false))) else (spykeep2_SlewNearest.l1 k (wrap64 (x13 + 1)) x167000 x167001 x167002 x167003 x170000 x173000))) else (some true)
def spykeep2_SlewNearest.l0 : Nat → Int → Int → Int → Int → Int → Int → Int → Int → Option (Bool)
  | 0, _, _, _, _, _, _, _, _ => none
  | k + 1, x9, x11, x12, x167000, x167001, x167002, x167003, x173000 => if x12 ≤ 6 then ((slew_In.f x167000 x167001 x167002 x167003 (wrap64 (x11 + (wrap64 (x12 * 4294967296))))).bind fun t173 => (if t173 = true then (some false) else (spykeep2_SlewNearest.l0 k x9 x11 (wrap64 (x12 + 1)) x167000 x167001 x167002 x167003 x173000))) else (if x9 = 4 then (some (x173000 == 0)) else (some false))
end
def spykeep2_SlewNearest.f (k : Nat) (l0 : List Int) (a1 : Int) : Option (Bool) := (spykeep2_slews.f k).bind fun t159 => (if t159 = true then ((spymake_Stream_Axis.f k l0 0).bind fun bt161 => ((spymake_Stream_Inside.f l0 bt161.2.2.2.2 bt161.1 bt161.2.1 bt161.2.2.1 bt161.2.2.2.1).bind fun bt167 => ((slew_Target.f k bt161.1 bt161.2.1 bt161.2.2.1 bt161.2.2.2.1 bt167.1 a1).bind fun bt170 => (if bt170.2 = 0 then ((slew_In.f bt161.1 bt161.2.1 bt161.2.2.1 bt161.2.2.2.1 bt170.1).bind fun t174 => (if t174 = true then (spykeep2_SlewNearest.j1 k ((Int.tmod (wrap64 ((Int.tmod bt170.1 4294967296) - (Int.tmod a1 4294967296))) 4294967296) != 0) bt161.1 bt161.2.1 bt161.2.2.1 bt161.2.2.2.1 bt167.1 bt170.1) else (spykeep2_SlewNearest.j1 k true bt161.1 bt161.2.1 bt161.2.2.1 bt161.2.2.2.1 bt167.1 bt170.1))) else (spykeep2_SlewNearest.l0 k bt170.2 (Int.tmod a1 4294967296) (-6) bt161.1 bt161.2.1 bt161.2.2.1 bt161.2.2.2.1 bt170.1))))) else (some false))
theorem spykeep2_SlewNearest.mono_l : ∀ k, (∀ y0 y1 y2 y3 y4 y5 y6, LeO (spykeep2_SlewNearest.j1 k y0 y1 y2 y3 y4 y5 y6) (spykeep2_SlewNearest.j1 (k + 1) y0 y1 y2 y3 y4 y5 y6)) ∧ (∀ y0 y1 y2 y3 y4 y5 y6, LeO (spykeep2_SlewNearest.l1 k y0 y1 y2 y3 y4 y5 y6) (spykeep2_SlewNearest.l1 (k + 1) y0 y1 y2 y3 y4 y5 y6)) ∧ (∀ y0 y1 y2 y3 y4 y5 y6 y7, LeO (spykeep2_SlewNearest.l0 k y0 y1 y2 y3 y4 y5 y6 y7) (spykeep2_SlewNearest.l0 (k + 1) y0 y1 y2 y3 y4 y5 y6 y7))
  | 0 => ⟨fun _ _ _ _ _ _ _ r h => by simp [spykeep2_SlewNearest.j1] at h, fun _ _ _ _ _ _ _ r h => by simp [spykeep2_SlewNearest.l1] at h, fun _ _ _ _ _ _ _ _ r h => by simp [spykeep2_SlewNearest.l0] at h⟩
  | k + 1 => by
    obtain ⟨ih0, ih1, ih2⟩ := spykeep2_SlewNearest.mono_l k
    refine ⟨?_, ?_, ?_⟩
    · intro y0 y1 y2 y3 y4 y5 y6
      unfold spykeep2_SlewNearest.j1
      repeat' first
      | (with_reducible exact ih0 _ _ _ _ _ _ _)
      | (with_reducible exact ih1 _ _ _ _ _ _ _)
      | (with_reducible exact ih2 _ _ _ _ _ _ _ _)
      | (with_reducible exact slew_Target.mono _ _ _ _ _ _ _)
      | (with_reducible exact spykeep2_slews.mono _)
      | (with_reducible exact spymake_Stream_Axis.mono _ _ _)
      | (with_reducible exact LeO.refl _)
      | (with_reducible exact LeO.none _)
      | (with_reducible refine LeO.ite ?_ ?_)
      | (with_reducible refine LeO.bind ?_ (fun _ => ?_))
      | exact ih0 _ _ _ _ _ _ _
      | exact ih1 _ _ _ _ _ _ _
      | exact ih2 _ _ _ _ _ _ _ _
      | exact slew_Target.mono _ _ _ _ _ _ _
      | exact spykeep2_slews.mono _
      | exact spymake_Stream_Axis.mono _ _ _
      | exact LeO.none _
      | refine LeO.ite ?_ ?_
      | refine LeO.bind ?_ (fun _ => ?_)
    · intro y0 y1 y2 y3 y4 y5 y6
      unfold spykeep2_SlewNearest.l1
      repeat' first
      | (with_reducible exact ih0 _ _ _ _ _ _ _)
      | (with_reducible exact ih1 _ _ _ _ _ _ _)
      | (with_reducible exact ih2 _ _ _ _ _ _ _ _)
      | (with_reducible exact slew_Target.mono _ _ _ _ _ _ _)
      | (with_reducible exact spykeep2_slews.mono _)
      | (with_reducible exact spymake_Stream_Axis.mono _ _ _)
      | (with_reducible exact LeO.refl _)
      | (with_reducible exact LeO.none _)
      | (with_reducible refine LeO.ite ?_ ?_)
      | (with_reducible refine LeO.bind ?_ (fun _ => ?_))
      | exact ih0 _ _ _ _ _ _ _
      | exact ih1 _ _ _ _ _ _ _
      | exact ih2 _ _ _ _ _ _ _ _
      | exact slew_Target.mono _ _ _ _ _ _ _
      | exact spykeep2_slews.mono _
      | exact spymake_Stream_Axis.mono _ _ _
      | exact LeO.none _
      | refine LeO.ite ?_ ?_
      | refine LeO.bind ?_ (fun _ => ?_)
    · intro y0 y1 y2 y3 y4 y5 y6 y7
      unfold spykeep2_SlewNearest.l0
      repeat' first
      | (with_reducible exact ih0 _ _ _ _ _ _ _)
      | (with_reducible exact ih1 _ _ _ _ _ _ _)
      | (with_reducible exact ih2 _ _ _ _ _ _ _ _)
      | (with_reducible exact slew_Target.mono _ _ _ _ _ _ _)
      | (with_reducible exact spykeep2_slews.mono _)
      | (with_reducible exact spymake_Stream_Axis.mono _ _ _)
      | (with_reducible exact LeO.refl _)
      | (with_reducible exact LeO.none _)
      | (with_reducible refine LeO.ite ?_ ?_)
      | (with_reducible refine LeO.bind ?_ (fun _ => ?_))
      | exact ih0 _ _ _ _ _ _ _
      | exact ih1 _ _ _ _ _ _ _
      | exact ih2 _ _ _ _ _ _ _ _
      | exact slew_Target.mono _ _ _ _ _ _ _
      | exact spykeep2_slews.mono _
      | exact spymake_Stream_Axis.mono _ _ _
      | exact LeO.none _
      | refine LeO.ite ?_ ?_
      | refine LeO.bind ?_ (fun _ => ?_)
theorem spykeep2_SlewNearest.mono : ∀ a0 a1 k, LeO (spykeep2_SlewNearest.f k a0 a1) (spykeep2_SlewNearest.f (k + 1) a0 a1) := by
  intro a0 a1 k
  obtain ⟨ih0, ih1, ih2⟩ := spykeep2_SlewNearest.mono_l k
  unfold spykeep2_SlewNearest.f
  repeat' first
      | (with_reducible exact ih0 _ _ _ _ _ _ _)
      | (with_reducible exact ih1 _ _ _ _ _ _ _)
      | (with_reducible exact ih2 _ _ _ _ _ _ _ _)
      | (with_reducible exact slew_Target.mono _ _ _ _ _ _ _)
      | (with_reducible exact spykeep2_slews.mono _)
      | (with_reducible exact spymake_Stream_Axis.mono _ _ _)
      | (with_reducible exact LeO.refl _)
      | (with_reducible exact LeO.none _)
      | (with_reducible refine LeO.ite ?_ ?_)
      | (with_reducible refine LeO.bind ?_ (fun _ => ?_))
      | exact ih0 _ _ _ _ _ _ _
      | exact ih1 _ _ _ _ _ _ _
      | exact ih2 _ _ _ _ _ _ _ _
      | exact slew_Target.mono _ _ _ _ _ _ _
      | exact spykeep2_slews.mono _
      | exact spymake_Stream_Axis.mono _ _ _
      | exact LeO.none _
      | refine LeO.ite ?_ ?_
      | refine LeO.bind ?_ (fun _ => ?_)
set_option maxHeartbeats 8000000 in
set_option maxRecDepth 100000 in
theorem spykeep2_SlewNearest.calls (k : Nat) (A0 : Option Addr) (c0 : Nat) (l0 : List Int) (a1 : Int) (r : Bool) (w : World) (hr0 : Kd.C (Kd.int .i64) w A0 l0.length l0) (hc0 : l0.length ≤ c0) (h : spykeep2_SlewNearest.f k l0 a1 = some r) :
    Calls Try.prog 3 #[.slice A0 l0.length c0, .int .i64 a1] w fun e w' => e = .returned (.bool r) ∧ Below w.heap.size w w' := by
  have hu26 := Try.underlying26
  have hu28 := Try.underlying28
  have HR0 := Aside0.mk hr0
  have HC0 := Aside0.mk hc0
  clear hr0 hc0
  have HB := Aside0.mk (Below.refl w.heap.size w)
  have H : ((spykeep2_slews.f k).bind fun t159 => (if t159 = true then ((spymake_Stream_Axis.f k l0 0).bind fun bt161 => ((spymake_Stream_Inside.f l0 bt161.2.2.2.2 bt161.1 bt161.2.1 bt161.2.2.1 bt161.2.2.2.1).bind fun bt167 => ((slew_Target.f k bt161.1 bt161.2.1 bt161.2.2.1 bt161.2.2.2.1 bt167.1 a1).bind fun bt170 => (if bt170.2 = 0 then ((slew_In.f bt161.1 bt161.2.1 bt161.2.2.1 bt161.2.2.2.1 bt170.1).bind fun t174 => (if t174 = true then (spykeep2_SlewNearest.j1 k ((Int.tmod (wrap64 ((Int.tmod bt170.1 4294967296) - (Int.tmod a1 4294967296))) 4294967296) != 0) bt161.1 bt161.2.1 bt161.2.2.1 bt161.2.2.2.1 bt167.1 bt170.1) else (spykeep2_SlewNearest.j1 k true bt161.1 bt161.2.1 bt161.2.2.1 bt161.2.2.2.1 bt167.1 bt170.1))) else (spykeep2_SlewNearest.l0 k bt170.2 (Int.tmod a1 4294967296) (-6) bt161.1 bt161.2.1 bt161.2.2.1 bt161.2.2.2.1 bt170.1))))) else (some false))) = some r := h
  clear h
  replace H := Option.bind_eq_some_iff.mp H
  obtain ⟨t159, A30, H⟩ := H
  replace H : (if t159 = true then ((spymake_Stream_Axis.f k l0 0).bind fun bt161 => ((spymake_Stream_Inside.f l0 bt161.2.2.2.2 bt161.1 bt161.2.1 bt161.2.2.1 bt161.2.2.2.1).bind fun bt167 => ((slew_Target.f k bt161.1 bt161.2.1 bt161.2.2.1 bt161.2.2.2.1 bt167.1 a1).bind fun bt170 => (if bt170.2 = 0 then ((slew_In.f bt161.1 bt161.2.1 bt161.2.2.1 bt161.2.2.2.1 bt170.1).bind fun t174 => (if t174 = true then (spykeep2_SlewNearest.j1 k ((Int.tmod (wrap64 ((Int.tmod bt170.1 4294967296) - (Int.tmod a1 4294967296))) 4294967296) != 0) bt161.1 bt161.2.1 bt161.2.2.1 bt161.2.2.2.1 bt167.1 bt170.1) else (spykeep2_SlewNearest.j1 k true bt161.1 bt161.2.1 bt161.2.2.1 bt161.2.2.2.1 bt167.1 bt170.1))) else (spykeep2_SlewNearest.l0 k bt170.2 (Int.tmod a1 4294967296) (-6) bt161.1 bt161.2.1 bt161.2.2.1 bt161.2.2.2.1 bt170.1))))) else (some false)) = some r := H
  have A3 := Aside0.mk A30
  clear A30
  by_cases c4 : t159 = true
  · subst c4
    have H1 : ((spymake_Stream_Axis.f k l0 0).bind fun bt161 => ((spymake_Stream_Inside.f l0 bt161.2.2.2.2 bt161.1 bt161.2.1 bt161.2.2.1 bt161.2.2.2.1).bind fun bt167 => ((slew_Target.f k bt161.1 bt161.2.1 bt161.2.2.1 bt161.2.2.2.1 bt167.1 a1).bind fun bt170 => (if bt170.2 = 0 then ((slew_In.f bt161.1 bt161.2.1 bt161.2.2.1 bt161.2.2.2.1 bt170.1).bind fun t174 => (if t174 = true then (spykeep2_SlewNearest.j1 k ((Int.tmod (wrap64 ((Int.tmod bt170.1 4294967296) - (Int.tmod a1 4294967296))) 4294967296) != 0) bt161.1 bt161.2.1 bt161.2.2.1 bt161.2.2.2.1 bt167.1 bt170.1) else (spykeep2_SlewNearest.j1 k true bt161.1 bt161.2.1 bt161.2.2.1 bt161.2.2.2.1 bt167.1 bt170.1))) else (spykeep2_SlewNearest.l0 k bt170.2 (Int.tmod a1 4294967296) (-6) bt161.1 bt161.2.1 bt161.2.2.1 bt161.2.2.2.1 bt170.1))))) = some r := by rw [if_pos rfl] at H; exact H
    clear H
    have H := H1
    clear H1
    replace H := Option.bind_eq_some_iff.mp H
    obtain ⟨⟨t161, t162, t163, t164, t165⟩, A50, H⟩ := H
    replace H : ((spymake_Stream_Inside.f l0 t165 t161 t162 t163 t164).bind fun bt167 => ((slew_Target.f k t161 t162 t163 t164 bt167.1 a1).bind fun bt170 => (if bt170.2 = 0 then ((slew_In.f t161 t162 t163 t164 bt170.1).bind fun t174 => (if t174 = true then (spykeep2_SlewNearest.j1 k ((Int.tmod (wrap64 ((Int.tmod bt170.1 4294967296) - (Int.tmod a1 4294967296))) 4294967296) != 0) t161 t162 t163 t164 bt167.1 bt170.1) else (spykeep2_SlewNearest.j1 k true t161 t162 t163 t164 bt167.1 bt170.1))) else (spykeep2_SlewNearest.l0 k bt170.2 (Int.tmod a1 4294967296) (-6) t161 t162 t163 t164 bt170.1)))) = some r := H
    have A5 := Aside0.mk A50
    clear A50
    replace H := Option.bind_eq_some_iff.mp H
    obtain ⟨⟨t167, t168⟩, A60, H⟩ := H
    replace H : ((slew_Target.f k t161 t162 t163 t164 t167 a1).bind fun bt170 => (if bt170.2 = 0 then ((slew_In.f t161 t162 t163 t164 bt170.1).bind fun t174 => (if t174 = true then (spykeep2_SlewNearest.j1 k ((Int.tmod (wrap64 ((Int.tmod bt170.1 4294967296) - (Int.tmod a1 4294967296))) 4294967296) != 0) t161 t162 t163 t164 t167 bt170.1) else (spykeep2_SlewNearest.j1 k true t161 t162 t163 t164 t167 bt170.1))) else (spykeep2_SlewNearest.l0 k bt170.2 (Int.tmod a1 4294967296) (-6) t161 t162 t163 t164 bt170.1))) = some r := H
    have A6 := Aside0.mk A60
    clear A60
    replace H := Option.bind_eq_some_iff.mp H
    obtain ⟨⟨t170, t171⟩, A70, H⟩ := H
    replace H : (if t171 = 0 then ((slew_In.f t161 t162 t163 t164 t170).bind fun t174 => (if t174 = true then (spykeep2_SlewNearest.j1 k ((Int.tmod (wrap64 ((Int.tmod t170 4294967296) - (Int.tmod a1 4294967296))) 4294967296) != 0) t161 t162 t163 t164 t167 t170) else (spykeep2_SlewNearest.j1 k true t161 t162 t163 t164 t167 t170))) else (spykeep2_SlewNearest.l0 k t171 (Int.tmod a1 4294967296) (-6) t161 t162 t163 t164 t170)) = some r := H
    have A7 := Aside0.mk A70
    clear A70
    have HC8 := Aside0.mk H
    clear H
    go_enter Try.func3, Try.ntmps3
    go_upto_if 34 with (first | ((with_reducible refine gate_callee (f := 11) rfl ?_); refine goesL_ (some 15) rfl rfl Try.func11 (by kernel_rfl) rfl #[] rfl (by (try simp only [List.map_toArray, List.map_cons, List.map_nil]); first | done | rfl | (simp only [List.length_drop, List.length_take]; rfl)) ?_; (with_reducible refine (spykeep2_slews.calls k  true _ A3.out).mono ?_); rintro e w9 ⟨rfl, hb⟩; refine ⟨_, rfl, ?_⟩; have n0_ := Aside0.mk (below_step (by exact HB.out) hb); clear HB; have HB := n0_; clear n0_; (try clear hb); (try clear hb2); (try clear hk); (try clear hi)) | ((with_reducible refine gate_dst (N := 19) rfl ?_); refine box_event ?hg (N := 19) ?hd (cs := #[.slice A0 l0.length c0, .int .i64 0]) (t := 26) ?hr ?_; (case hd => rfl); (case hg => rfl); (case hr => first | (go_simp; done) | (go_simp; rfl)); intro gb160 hg w10 hbox hb; have n0_ := Aside0.mk (below_step (by exact HB.out) hb); have n1_ := Aside0.mk ((by rw [hg]; exact (below_size (by exact HB.out)) : w.heap.size ≤ gb160)); have n2_ := Aside0.mk ((by rw [hg]; exact (below_size (by exact HB.out)) : w.heap.size ≤ gb160)); have n3_ := Aside0.mk ((show IsS26 w w10 gb160 l0 0 from ⟨_, _, hbox, (by rw [hg]; exact (below_size (by exact HB.out)) : w.heap.size ≤ gb160), HR0.out⟩)); clear HB; have HB := n0_; have GW160 := n1_; have GE160 := n2_; have HI160 := n3_; clear n0_ n1_ n2_ n3_; clear hb hbox hg) | ((with_reducible refine gate_callee (f := 12) rfl ?_); refine goesL_ (some 21) rfl rfl Try.func12 (by kernel_rfl) rfl #[.pointer (some ⟨gb160, 0, none⟩)] rfl (by (try simp only [List.map_toArray, List.map_cons, List.map_nil]); first | done | rfl | (simp only [List.length_drop, List.length_take]; rfl)) ?_; (with_reducible refine (spymake_Stream_Axis.calls k gb160 l0 0 t161 t162 t163 t164 t165 w _ ?side1 ?side2 A5.out).mono ?_); (case side1 => exact HI160.out); (case side2 => exact HB.out); rintro e w11 ⟨rfl, hi, hb, hk⟩; refine ⟨_, rfl, ?_⟩; have n0_ := Aside0.mk (hb); have n1_ := Aside0.mk (hi); clear HB; clear HI160; have HB := n0_; have HI160 := n1_; clear n0_ n1_; (try clear hb); (try clear hb2); (try clear hk); (try clear hi)) | ((with_reducible refine gate_dst (N := 6) rfl ?_); refine box_event ?hg (N := 6) ?hd (cs := #[.int .i64 0, .int .i64 0, .int .i64 0, .int .i64 0]) (t := 28) ?hr ?_; (case hd => rfl); (case hg => rfl); (case hr => first | (go_simp; done) | (go_simp; rfl)); intro gb166 hg w12 hbox hb; have n0_ := Aside0.mk (IsS26.below (by exact HI160.out) hb); have n1_ := Aside0.mk (below_step (by exact HB.out) hb); have n2_ := Aside0.mk (hbox); have n3_ := Aside0.mk ((by rw [hg]; exact (below_size (by exact HB.out)) : w.heap.size ≤ gb166)); have n4_ := Aside0.mk ((by rw [hg]; exact (below_size (by exact HB.out)) : w.heap.size ≤ gb166)); have n5_ := Aside0.mk ((by rw [hg]; exact Nat.ne_of_lt (IsS26.lt (show IsS26 w _ gb160 l0 t165 from by exact HI160.out)) : gb160 ≠ gb166)); have n6_ := Aside0.mk ((by rw [hg]; exact Nat.ne_of_gt (IsS26.lt (show IsS26 w _ gb160 l0 t165 from by exact HI160.out)) : gb166 ≠ gb160)); clear HI160; clear HB; have HI160 := n0_; have HB := n1_; have BK166 := n2_; have GW166 := n3_; have GE166 := n4_; have NB160_166 := n5_; have NB166_160 := n6_; clear n0_ n1_ n2_ n3_ n4_ n5_ n6_; clear hb hbox hg) | ((with_reducible refine gate_store (t := 28) (p := 6) rfl ?_); refine store_row (t := 28) (p := 6) (v := ?vo_w13) ?hgd ?ho ?hN gb166 0 #[.int .i64 0, .int .i64 0, .int .i64 0, .int .i64 0] [.int .i64 t161, .int .i64 t162, .int .i64 t163, .int .i64 t164] #[.int .i64 t161, .int .i64 t162, .int .i64 t163, .int .i64 t164] ?hx ?hy (by exact BK166.out) szi28 (Nat.le_of_ble_eq_true rfl) ?h1 ?hnew ?_; (case ho => rfl); (case hgd => rfl); (case hN => rfl); (case hx => rfl); (case hy => first | rfl | (go_simp; done) | (go_simp; rfl)); (case h1 => rfl); (case hnew => rfl); intro w13 hbox hg; have n0_ := Aside0.mk (IsS26.grown (by exact HI160.out) hg (fun e_ => NB160_166.out (Option.some.inj e_))); have n1_ := Aside0.mk (pw_below_grown (by exact HB.out) (some gb166) (below_size (by exact HB.out)) hg (fun k_ e_ => by cases e_; exact GE166.out)); have n2_ := Aside0.mk (hbox); clear HI160; clear HB; clear BK166; have HI160 := n0_; have HB := n1_; have BK166 := n2_; clear n0_ n1_ n2_; clear hbox hg; have hcz14_0 := tch4 BK166.out) | ((with_reducible refine gate_callee (f := 13) rfl ?_); refine goesL_ (some 24) rfl rfl Try.func13 (by kernel_rfl) rfl #[.pointer (some ⟨gb160, 0, none⟩), .agg #[.int .i64 t161, .int .i64 t162, .int .i64 t163, .int .i64 t164]] rfl (by (try simp only [List.map_toArray, List.map_cons, List.map_nil]); first | done | rfl | (simp only [List.length_drop, List.length_take]; rfl)) ?_; (with_reducible refine (spymake_Stream_Inside.calls gb160 l0 t165 t161 t162 t163 t164 t167 t168 w _ ?side1 ?side2 A6.out).mono ?_); (case side1 => exact HI160.out); (case side2 => exact HB.out); rintro e w15 ⟨rfl, hi, hb, hk⟩; refine ⟨_, rfl, ?_⟩; have n0_ := Aside0.mk (KeepBut.blk hk BK166.out NB166_160.out (by simp)); have n1_ := Aside0.mk (hb); have n2_ := Aside0.mk (hi); clear BK166; clear HB; clear HI160; have BK166 := n0_; have HB := n1_; have HI160 := n2_; clear n0_ n1_ n2_; (try clear hb); (try clear hb2); (try clear hk); (try clear hi)) | ((with_reducible refine gate_dst (N := 7) rfl ?_); refine box_event ?hg (N := 7) ?hd (cs := #[.int .i64 0]) (t := 2) ?hr ?_; (case hd => rfl); (case hg => rfl); (case hr => first | (go_simp; done) | (go_simp; rfl)); intro gb169 hg w16 hbox hb; have n0_ := Aside0.mk (IsS26.below (by exact HI160.out) hb); have n1_ := Aside0.mk (blk_below BK166.out hb); have n2_ := Aside0.mk (below_step (by exact HB.out) hb); have n3_ := Aside0.mk (hbox); have n4_ := Aside0.mk ((by rw [hg]; exact (below_size (by exact HB.out)) : w.heap.size ≤ gb169)); have n5_ := Aside0.mk ((by rw [hg]; exact (below_size (by exact HB.out)) : w.heap.size ≤ gb169)); have n6_ := Aside0.mk ((by rw [hg]; exact Nat.ne_of_lt (blk_lt BK166.out) : gb166 ≠ gb169)); have n7_ := Aside0.mk ((by rw [hg]; exact Nat.ne_of_lt (IsS26.lt (show IsS26 w _ gb160 l0 t168 from by exact HI160.out)) : gb160 ≠ gb169)); clear HI160; clear BK166; clear HB; have HI160 := n0_; have BK166 := n1_; have HB := n2_; have BK169 := n3_; have GW169 := n4_; have GE169 := n5_; have NB166_169 := n6_; have NB160_169 := n7_; clear n0_ n1_ n2_ n3_ n4_ n5_ n6_ n7_; clear hb hbox hg) | ((with_reducible refine gate_store (t := 2) (p := 7) rfl ?_); refine store_row (t := 2) (p := 7) (v := ?vo_w17) ?hgd ?ho ?hN gb169 0 #[.int .i64 0] [.int .i64 t167] #[.int .i64 t167] ?hx ?hy (by exact BK169.out) szi2 (Nat.le_of_ble_eq_true rfl) ?h1 ?hnew ?_; (case ho => rfl); (case hgd => rfl); (case hN => rfl); (case hx => rfl); (case hy => first | rfl | (go_simp; done) | (go_simp; rfl)); (case h1 => rfl); (case hnew => rfl); intro w17 hbox hg; have n0_ := Aside0.mk (blk_grown BK166.out hg (fun e_ => NB166_169.out (Option.some.inj e_))); have n1_ := Aside0.mk (IsS26.grown (by exact HI160.out) hg (fun e_ => NB160_169.out (Option.some.inj e_))); have n2_ := Aside0.mk (pw_below_grown (by exact HB.out) (some gb169) (below_size (by exact HB.out)) hg (fun k_ e_ => by cases e_; exact GE169.out)); have n3_ := Aside0.mk (hbox); clear BK166; clear HI160; clear HB; clear BK169; have BK166 := n0_; have HI160 := n1_; have HB := n2_; have BK169 := n3_; clear n0_ n1_ n2_ n3_; clear hbox hg; have hcz18_0 := tch4 BK166.out; have hcz19_0 : w17.cell? ⟨gb169, 0, none⟩ = some (.int .i64 t167) := (blk_cell BK169.out 0).trans rfl; have hfz19_0 := blk_frozen BK169.out 0) | ((with_reducible refine gate_callee (f := 14) rfl ?_); refine goesL_ (some 29) rfl rfl Try.func14 (by kernel_rfl) rfl #[.agg #[.int .i64 t161, .int .i64 t162, .int .i64 t163, .int .i64 t164], .int .i64 t167, .int .i64 a1] rfl (by (try simp only [List.map_toArray, List.map_cons, List.map_nil]); first | done | rfl | (simp only [List.length_drop, List.length_take]; rfl)) ?_; (with_reducible refine (slew_Target.calls k t161 t162 t163 t164 t167 a1 t170 t171 _ A7.out).mono ?_); rintro e w20 ⟨rfl, hb⟩; refine ⟨_, rfl, ?_⟩; have n0_ := Aside0.mk (IsS26.below (by exact HI160.out) hb); have n1_ := Aside0.mk (blk_below BK166.out hb); have n2_ := Aside0.mk (blk_below BK169.out hb); have n3_ := Aside0.mk (below_step (by exact HB.out) hb); clear HI160; clear BK166; clear BK169; clear HB; have HI160 := n0_; have BK166 := n1_; have BK169 := n2_; have HB := n3_; clear n0_ n1_ n2_ n3_; (try clear hb); (try clear hb2); (try clear hk); (try clear hi)) | ((with_reducible refine gate_dst (N := 8) rfl ?_); refine box_event ?hg (N := 8) ?hd (cs := #[.int .i64 0]) (t := 2) ?hr ?_; (case hd => rfl); (case hg => rfl); (case hr => first | (go_simp; done) | (go_simp; rfl)); intro gb172 hg w21 hbox hb; have n0_ := Aside0.mk (IsS26.below (by exact HI160.out) hb); have n1_ := Aside0.mk (blk_below BK166.out hb); have n2_ := Aside0.mk (blk_below BK169.out hb); have n3_ := Aside0.mk (below_step (by exact HB.out) hb); have n4_ := Aside0.mk (hbox); have n5_ := Aside0.mk ((by rw [hg]; exact (below_size (by exact HB.out)) : w.heap.size ≤ gb172)); have n6_ := Aside0.mk ((by rw [hg]; exact (below_size (by exact HB.out)) : w.heap.size ≤ gb172)); have n7_ := Aside0.mk ((by rw [hg]; exact Nat.ne_of_lt (blk_lt BK166.out) : gb166 ≠ gb172)); have n8_ := Aside0.mk ((by rw [hg]; exact Nat.ne_of_lt (blk_lt BK169.out) : gb169 ≠ gb172)); have n9_ := Aside0.mk ((by rw [hg]; exact Nat.ne_of_lt (IsS26.lt (show IsS26 w _ gb160 l0 t168 from by exact HI160.out)) : gb160 ≠ gb172)); clear HI160; clear BK166; clear BK169; clear HB; have HI160 := n0_; have BK166 := n1_; have BK169 := n2_; have HB := n3_; have BK172 := n4_; have GW172 := n5_; have GE172 := n6_; have NB166_172 := n7_; have NB169_172 := n8_; have NB160_172 := n9_; clear n0_ n1_ n2_ n3_ n4_ n5_ n6_ n7_ n8_ n9_; clear hb hbox hg) | ((with_reducible refine gate_store (t := 2) (p := 8) rfl ?_); refine store_row (t := 2) (p := 8) (v := ?vo_w22) ?hgd ?ho ?hN gb172 0 #[.int .i64 0] [.int .i64 t170] #[.int .i64 t170] ?hx ?hy (by exact BK172.out) szi2 (Nat.le_of_ble_eq_true rfl) ?h1 ?hnew ?_; (case ho => rfl); (case hgd => rfl); (case hN => rfl); (case hx => rfl); (case hy => first | rfl | (go_simp; done) | (go_simp; rfl)); (case h1 => rfl); (case hnew => rfl); intro w22 hbox hg; have n0_ := Aside0.mk (blk_grown BK166.out hg (fun e_ => NB166_172.out (Option.some.inj e_))); have n1_ := Aside0.mk (blk_grown BK169.out hg (fun e_ => NB169_172.out (Option.some.inj e_))); have n2_ := Aside0.mk (IsS26.grown (by exact HI160.out) hg (fun e_ => NB160_172.out (Option.some.inj e_))); have n3_ := Aside0.mk (pw_below_grown (by exact HB.out) (some gb172) (below_size (by exact HB.out)) hg (fun k_ e_ => by cases e_; exact GE172.out)); have n4_ := Aside0.mk (hbox); clear BK166; clear BK169; clear HI160; clear HB; clear BK172; have BK166 := n0_; have BK169 := n1_; have HI160 := n2_; have HB := n3_; have BK172 := n4_; clear n0_ n1_ n2_ n3_ n4_; clear hbox hg))
    have H := HC8.out
    clear HC8
    by_cases c23 : t171 = 0
    · rw [if_pos c23] at H
      have c23b0 : (t171 == 0) = true := beq_iff_eq.mpr c23
      have c23b1 : (t171 != 0) = false := bne_eq_false_iff_eq.mpr c23
      clear c23
      (first | rw [c23b0] | (simp only [i64_w, i32_w]; rw [c23b0]) | skip)
      have HC24 := Aside0.mk H
      clear H
      go_upto_region 16 with (fail)
      go_cut [65] (fun v65 wc => ∃ (kq : Nat) (x65_23 : Bool), v65 = .bool x65_23 ∧ Aside0 (spykeep2_SlewNearest.j1 kq x65_23 t161 t162 t163 t164 t167 t170 = some r) ∧ Aside0 (kq ≤ k) ∧ Aside0 (wc.heap[gb166]? = some (.cells #[.int .i64 t161, .int .i64 t162, .int .i64 t163, .int .i64 t164] 28 (0, 0))) ∧ Aside0 (wc.heap[gb169]? = some (.cells #[.int .i64 t167] 2 (0, 0))) ∧ Aside0 (wc.heap[gb172]? = some (.cells #[.int .i64 t170] 2 (0, 0))) ∧ Aside0 (Below w.heap.size w wc))
      case first =>
        have H := HC24.out
        clear HC24
        replace H := Option.bind_eq_some_iff.mp H
        obtain ⟨t174, A250, H⟩ := H
        replace H : (if t174 = true then (spykeep2_SlewNearest.j1 k ((Int.tmod (wrap64 ((Int.tmod t170 4294967296) - (Int.tmod a1 4294967296))) 4294967296) != 0) t161 t162 t163 t164 t167 t170) else (spykeep2_SlewNearest.j1 k true t161 t162 t163 t164 t167 t170)) = some r := H
        have A25 := Aside0.mk A250
        clear A250
        by_cases c26 : t174 = true
        · subst c26
          have H1 : (spykeep2_SlewNearest.j1 k ((Int.tmod (wrap64 ((Int.tmod t170 4294967296) - (Int.tmod a1 4294967296))) 4294967296) != 0) t161 t162 t163 t164 t167 t170) = some r := by rw [if_pos rfl] at H; exact H
          clear H
          have H := H1
          clear H1
          have H' := Aside0.mk H
          clear H
          have hcz27_0 := tch4 BK166.out
          have hcz28_0 : w22.cell? ⟨gb172, 0, none⟩ = some (.int .i64 t170) := (blk_cell BK172.out 0).trans rfl
          have hfz28_0 := blk_frozen BK172.out 0
          go_wp2_with (first | ((with_reducible refine gate_callee (f := 16) rfl ?_); refine goesL_ (some 55) rfl rfl Try.func16 (by kernel_rfl) rfl #[.agg #[.int .i64 t161, .int .i64 t162, .int .i64 t163, .int .i64 t164], .int .i64 t170] rfl (by (try simp only [List.map_toArray, List.map_cons, List.map_nil]); first | done | rfl | (simp only [List.length_drop, List.length_take]; rfl)) ?_; (with_reducible refine (slew_In.calls t161 t162 t163 t164 t170 true _ A25.out).mono ?_); rintro e w29 ⟨rfl, hb⟩; refine ⟨_, rfl, ?_⟩; have n0_ := Aside0.mk (IsS26.below (by exact HI160.out) hb); have n1_ := Aside0.mk (blk_below BK166.out hb); have n2_ := Aside0.mk (blk_below BK169.out hb); have n3_ := Aside0.mk (blk_below BK172.out hb); have n4_ := Aside0.mk (below_step (by exact HB.out) hb); clear HI160; clear BK166; clear BK169; clear BK172; clear HB; have HI160 := n0_; have BK166 := n1_; have BK169 := n2_; have BK172 := n3_; have HB := n4_; clear n0_ n1_ n2_ n3_ n4_; (try clear hb); (try clear hb2); (try clear hk); (try clear hi); have hcz30_0 : w29.cell? ⟨gb172, 0, none⟩ = some (.int .i64 t170) := (blk_cell BK172.out 0).trans rfl; have hfz30_0 := blk_frozen BK172.out 0))
          go_meet
          case rel => exact ⟨_, (((Int.tmod (wrap64 ((Int.tmod t170 4294967296) - (Int.tmod a1 4294967296))) 4294967296) != 0)), (by first | rfl | (simp; done) | (simp [*]; done)), H', ⟨by first | omega | exact Nat.le_refl _⟩, ⟨by exact BK166.out⟩, ⟨by exact BK169.out⟩, ⟨by exact BK172.out⟩, ⟨by exact HB.out⟩⟩
        · replace c26 := Bool.eq_false_iff.mpr c26
          subst c26
          have H1 : (spykeep2_SlewNearest.j1 k true t161 t162 t163 t164 t167 t170) = some r := by rw [if_neg (show ¬ (false = true) by decide)] at H; exact H
          clear H
          have H := H1
          clear H1
          have H' := Aside0.mk H
          clear H
          have hcz31_0 := tch4 BK166.out
          have hcz32_0 : w22.cell? ⟨gb172, 0, none⟩ = some (.int .i64 t170) := (blk_cell BK172.out 0).trans rfl
          have hfz32_0 := blk_frozen BK172.out 0
          go_wp2_with (first | ((with_reducible refine gate_callee (f := 16) rfl ?_); refine goesL_ (some 55) rfl rfl Try.func16 (by kernel_rfl) rfl #[.agg #[.int .i64 t161, .int .i64 t162, .int .i64 t163, .int .i64 t164], .int .i64 t170] rfl (by (try simp only [List.map_toArray, List.map_cons, List.map_nil]); first | done | rfl | (simp only [List.length_drop, List.length_take]; rfl)) ?_; (with_reducible refine (slew_In.calls t161 t162 t163 t164 t170 false _ A25.out).mono ?_); rintro e w33 ⟨rfl, hb⟩; refine ⟨_, rfl, ?_⟩; have n0_ := Aside0.mk (IsS26.below (by exact HI160.out) hb); have n1_ := Aside0.mk (blk_below BK166.out hb); have n2_ := Aside0.mk (blk_below BK169.out hb); have n3_ := Aside0.mk (blk_below BK172.out hb); have n4_ := Aside0.mk (below_step (by exact HB.out) hb); clear HI160; clear BK166; clear BK169; clear BK172; clear HB; have HI160 := n0_; have BK166 := n1_; have BK169 := n2_; have BK172 := n3_; have HB := n4_; clear n0_ n1_ n2_ n3_ n4_; (try clear hb); (try clear hb2); (try clear hk); (try clear hi)))
          go_meet
          case rel => exact ⟨_, (true), (by first | rfl | (simp; done) | (simp [*]; done)), H', ⟨by first | omega | exact Nat.le_refl _⟩, ⟨by exact BK166.out⟩, ⟨by exact BK169.out⟩, ⟨by exact BK172.out⟩, ⟨by exact HB.out⟩⟩
      case rest =>
        clear HC24
        try clear c1
        try clear c2
        try clear p2
        try clear c3
        try clear c4
        try clear p6
        try clear c11
        try clear c12
        try clear c13
        try clear c14
        try clear c16
        try clear c23
        try clear c23b0
        try clear c23b1
        try clear c26
        try clear hcz14_0
        try clear hcz18_0
        try clear hcz19_0
        try clear hcz27_0
        try clear hcz28_0
        try clear hcz30_0
        try clear hcz31_0
        try clear hcz32_0
        try clear hfz19_0
        try clear hfz28_0
        try clear hfz30_0
        try clear hfz32_0
        obtain ⟨kq, x65_23, rfl, HA, HJ23, BK166, BK169, BK172, HB⟩ := hcut
        cases kq with
        | zero => exact absurd HA.out (by simp [spykeep2_SlewNearest.j1])
        | succ kj23 =>
          have H := HA.out
          clear HA
          simp only [spykeep2_SlewNearest.j1] at H
          by_cases c34 : x65_23 = true
          · subst c34
            have H1 : (some false) = some r := by rw [if_pos rfl] at H; exact H
            clear H
            have H := H1
            clear H1
            obtain rfl := Option.some.inj H
            go_wp2
            go_ret
            exact ⟨by first | rfl | (simp [errW_none, errW_some] <;> rfl) | (simp [*, errW_none, errW_some] <;> rfl), by exact HB.out⟩
          · replace c34 := Bool.eq_false_iff.mpr c34
            subst c34
            have H1 : (spykeep2_SlewNearest.l1 kj23 (-8) t161 t162 t163 t164 t167 t170) = some r := by rw [if_neg (show ¬ (false = true) by decide)] at H; exact H
            clear H
            have H := H1
            clear H1
            have H' := Aside0.mk H
            clear H
            go_wp2
            go_loopg [13] kj23 (fun kq v13 w' => ∃ (x13_2 : Int), v13 = .int .i64 x13_2 ∧ Aside0 (spykeep2_SlewNearest.l1 kq x13_2 t161 t162 t163 t164 t167 t170 = some r) ∧ Aside0 (kq ≤ kj23) ∧ Aside0 (w'.heap[gb166]? = some (.cells #[.int .i64 t161, .int .i64 t162, .int .i64 t163, .int .i64 t164] 28 (0, 0))) ∧ Aside0 (w'.heap[gb169]? = some (.cells #[.int .i64 t167] 2 (0, 0))) ∧ Aside0 (w'.heap[gb172]? = some (.cells #[.int .i64 t170] 2 (0, 0))) ∧ Aside0 (Below w.heap.size w w'))
            case atStart => exact ⟨((-8)), (by first | rfl | (simp; done) | (simp [*]; done)), H', ⟨Nat.le_refl _⟩, ⟨by exact BK166.out⟩, ⟨by exact BK169.out⟩, ⟨by exact BK172.out⟩, ⟨by exact HB.out⟩⟩
            case round =>
              clear H'
              try clear c1
              try clear c2
              try clear p2
              try clear c3
              try clear c4
              try clear p6
              try clear c11
              try clear c12
              try clear c13
              try clear c14
              try clear c16
              try clear c23
              try clear c23b0
              try clear c23b1
              try clear c26
              try clear c34
              try clear hcz14_0
              try clear hcz18_0
              try clear hcz19_0
              try clear hcz27_0
              try clear hcz28_0
              try clear hcz30_0
              try clear hcz31_0
              try clear hcz32_0
              try clear hfz19_0
              try clear hfz28_0
              try clear hfz30_0
              try clear hfz32_0
              try clear p2
              try clear p6
              obtain ⟨x13_2, rfl, HA, HK2, BK166, BK169, BK172, HB⟩ := hrel
              cases gk with
              | zero => exact absurd HA.out (by simp [spykeep2_SlewNearest.l1])
              | succ k2 =>
                have H := HA.out
                clear HA
                simp only [spykeep2_SlewNearest.l1] at H
                by_cases c35 : x13_2 ≤ 8
                · rw [if_pos c35] at H
                  have c35b0 : decide (x13_2 ≤ 8) = true := decide_eq_true c35
                  clear c35
                  replace H := Option.bind_eq_some_iff.mp H
                  obtain ⟨t175, A360, H⟩ := H
                  replace H : (if t175 = true then ((spykeep2_near.f (wrap64 (t170 + (wrap64 (x13_2 * 4294967296)))) t170 t167).bind fun t176 => (if t176 = true then (spykeep2_SlewNearest.l1 k2 (wrap64 (x13_2 + 1)) t161 t162 t163 t164 t167 t170) else (some false))) else (spykeep2_SlewNearest.l1 k2 (wrap64 (x13_2 + 1)) t161 t162 t163 t164 t167 t170)) = some r := H
                  have A36 := Aside0.mk A360
                  clear A360
                  by_cases c37 : t175 = true
                  · subst c37
                    have H1 : ((spykeep2_near.f (wrap64 (t170 + (wrap64 (x13_2 * 4294967296)))) t170 t167).bind fun t176 => (if t176 = true then (spykeep2_SlewNearest.l1 k2 (wrap64 (x13_2 + 1)) t161 t162 t163 t164 t167 t170) else (some false))) = some r := by rw [if_pos rfl] at H; exact H
                    clear H
                    have H := H1
                    clear H1
                    replace H := Option.bind_eq_some_iff.mp H
                    obtain ⟨t176, A380, H⟩ := H
                    replace H : (if t176 = true then (spykeep2_SlewNearest.l1 k2 (wrap64 (x13_2 + 1)) t161 t162 t163 t164 t167 t170) else (some false)) = some r := H
                    have A38 := Aside0.mk A380
                    clear A380
                    have HC39 := Aside0.mk H
                    clear H
                    have hcz40_0 : wr.cell? ⟨gb172, 0, none⟩ = some (.int .i64 t170) := (blk_cell BK172.out 0).trans rfl
                    have hfz40_0 := blk_frozen BK172.out 0
                    have hcz41_0 := tch4 BK166.out
                    go_upto_if 82 with (first | ((with_reducible refine gate_callee (f := 16) rfl ?_); refine goesL_ (some 76) rfl rfl Try.func16 (by kernel_rfl) rfl #[.agg #[.int .i64 t161, .int .i64 t162, .int .i64 t163, .int .i64 t164], .int .i64 (wrap64 (t170 + (wrap64 (x13_2 * 4294967296))))] rfl (by (try simp only [List.map_toArray, List.map_cons, List.map_nil]); first | done | rfl | (simp only [List.length_drop, List.length_take]; rfl)) ?_; (with_reducible refine (slew_In.calls t161 t162 t163 t164 (wrap64 (t170 + (wrap64 (x13_2 * 4294967296)))) true _ A36.out).mono ?_); rintro e w42 ⟨rfl, hb⟩; refine ⟨_, rfl, ?_⟩; have n0_ := Aside0.mk (blk_below BK166.out hb); have n1_ := Aside0.mk (blk_below BK169.out hb); have n2_ := Aside0.mk (blk_below BK172.out hb); have n3_ := Aside0.mk (below_step (by exact HB.out) hb); clear BK166; clear BK169; clear BK172; clear HB; have BK166 := n0_; have BK169 := n1_; have BK172 := n2_; have HB := n3_; clear n0_ n1_ n2_ n3_; (try clear hb); (try clear hb2); (try clear hk); (try clear hi)) | (go_at_call 15; (with_reducible refine (spykeep2_near.calls (wrap64 (t170 + (wrap64 (x13_2 * 4294967296)))) t170 t167 gb172 gb169 t176 _ ?side1 ?side2 A38.out).mono ?_); (case side1 => exact (blk_cell (by exact BK172.out) 0).trans rfl); (case side2 => exact (blk_cell (by exact BK169.out) 0).trans rfl); rintro e w' ⟨rfl, rfl⟩))
                    have H := HC39.out
                    clear HC39
                    by_cases c43 : t176 = true
                    · subst c43
                      have H1 : (spykeep2_SlewNearest.l1 k2 (wrap64 (x13_2 + 1)) t161 t162 t163 t164 t167 t170) = some r := by rw [if_pos rfl] at H; exact H
                      clear H
                      have H := H1
                      clear H1
                      have H' := Aside0.mk H
                      clear H
                      go_wp2
                      go_roundg k2
                      case measure => have := HJ23.out; have := HK2.out; omega
                      case rel => exact ⟨(wrap64 (x13_2 + 1)), (by first | rfl | (simp; done) | (simp [*]; done)), H', ⟨by have := HJ23.out; have := HK2.out; omega⟩, ⟨by exact BK166.out⟩, ⟨by exact BK169.out⟩, ⟨by exact BK172.out⟩, ⟨by exact HB.out⟩⟩
                    · replace c43 := Bool.eq_false_iff.mpr c43
                      subst c43
                      have H1 : (some false) = some r := by rw [if_neg (show ¬ (false = true) by decide)] at H; exact H
                      clear H
                      have H := H1
                      clear H1
                      obtain rfl := Option.some.inj H
                      go_wp2
                      go_ret
                      exact ⟨by first | rfl | (simp [errW_none, errW_some] <;> rfl) | (simp [*, errW_none, errW_some] <;> rfl), by exact HB.out⟩
                  · replace c37 := Bool.eq_false_iff.mpr c37
                    subst c37
                    have H1 : (spykeep2_SlewNearest.l1 k2 (wrap64 (x13_2 + 1)) t161 t162 t163 t164 t167 t170) = some r := by rw [if_neg (show ¬ (false = true) by decide)] at H; exact H
                    clear H
                    have H := H1
                    clear H1
                    have H' := Aside0.mk H
                    clear H
                    have hcz44_0 : wr.cell? ⟨gb172, 0, none⟩ = some (.int .i64 t170) := (blk_cell BK172.out 0).trans rfl
                    have hfz44_0 := blk_frozen BK172.out 0
                    have hcz45_0 := tch4 BK166.out
                    go_wp2_with (first | ((with_reducible refine gate_callee (f := 16) rfl ?_); refine goesL_ (some 76) rfl rfl Try.func16 (by kernel_rfl) rfl #[.agg #[.int .i64 t161, .int .i64 t162, .int .i64 t163, .int .i64 t164], .int .i64 (wrap64 (t170 + (wrap64 (x13_2 * 4294967296))))] rfl (by (try simp only [List.map_toArray, List.map_cons, List.map_nil]); first | done | rfl | (simp only [List.length_drop, List.length_take]; rfl)) ?_; (with_reducible refine (slew_In.calls t161 t162 t163 t164 (wrap64 (t170 + (wrap64 (x13_2 * 4294967296)))) false _ A36.out).mono ?_); rintro e w46 ⟨rfl, hb⟩; refine ⟨_, rfl, ?_⟩; have n0_ := Aside0.mk (blk_below BK166.out hb); have n1_ := Aside0.mk (blk_below BK169.out hb); have n2_ := Aside0.mk (blk_below BK172.out hb); have n3_ := Aside0.mk (below_step (by exact HB.out) hb); clear BK166; clear BK169; clear BK172; clear HB; have BK166 := n0_; have BK169 := n1_; have BK172 := n2_; have HB := n3_; clear n0_ n1_ n2_ n3_; (try clear hb); (try clear hb2); (try clear hk); (try clear hi)))
                    go_roundg k2
                    case measure => have := HJ23.out; have := HK2.out; omega
                    case rel => exact ⟨(wrap64 (x13_2 + 1)), (by first | rfl | (simp; done) | (simp [*]; done)), H', ⟨by have := HJ23.out; have := HK2.out; omega⟩, ⟨by exact BK166.out⟩, ⟨by exact BK169.out⟩, ⟨by exact BK172.out⟩, ⟨by exact HB.out⟩⟩
                · rw [if_neg c35] at H
                  have c35b0 : decide (x13_2 ≤ 8) = false := decide_eq_false c35
                  clear c35
                  obtain rfl := Option.some.inj H
                  go_wp2
                  go_ret
                  exact ⟨by first | rfl | (simp [errW_none, errW_some] <;> rfl) | (simp [*, errW_none, errW_some] <;> rfl), by exact HB.out⟩
    · rw [if_neg c23] at H
      have c23b0 : (t171 == 0) = false := beq_eq_false_iff_ne.mpr c23
      have c23b1 : (t171 != 0) = true := bne_iff_ne.mpr c23
      (try rw [c23b1])
      (first | rw [c23b0] | (simp only [i64_w, i32_w]; rw [c23b0]) | skip)
      have H' := Aside0.mk H
      clear H
      go_wp2
      go_loopg [12] k (fun kq v12 w' => ∃ (x12_1 : Int), v12 = .int .i64 x12_1 ∧ Aside0 (spykeep2_SlewNearest.l0 kq t171 (Int.tmod a1 4294967296) x12_1 t161 t162 t163 t164 t170 = some r) ∧ Aside0 (kq ≤ k) ∧ Aside0 (w'.heap[gb166]? = some (.cells #[.int .i64 t161, .int .i64 t162, .int .i64 t163, .int .i64 t164] 28 (0, 0))) ∧ Aside0 (w'.heap[gb169]? = some (.cells #[.int .i64 t167] 2 (0, 0))) ∧ Aside0 (w'.heap[gb172]? = some (.cells #[.int .i64 t170] 2 (0, 0))) ∧ Aside0 (Below w.heap.size w w'))
      case atStart => exact ⟨((-6)), (by first | rfl | (simp; done) | (simp [*]; done)), H', ⟨Nat.le_refl _⟩, ⟨by exact BK166.out⟩, ⟨by exact BK169.out⟩, ⟨by exact BK172.out⟩, ⟨by exact HB.out⟩⟩
      case round =>
        clear H'
        try clear c1
        try clear c2
        try clear p2
        try clear c3
        try clear c4
        try clear p6
        try clear c11
        try clear c12
        try clear c13
        try clear c14
        try clear c16
        try clear c23
        try clear c23b0
        try clear c23b1
        try clear c26
        try clear c34
        try clear c35
        try clear c35b0
        try clear c37
        try clear c43
        try clear hcz14_0
        try clear hcz18_0
        try clear hcz19_0
        try clear hcz27_0
        try clear hcz28_0
        try clear hcz30_0
        try clear hcz31_0
        try clear hcz32_0
        try clear hcz40_0
        try clear hcz41_0
        try clear hcz44_0
        try clear hcz45_0
        try clear hfz19_0
        try clear hfz28_0
        try clear hfz30_0
        try clear hfz32_0
        try clear hfz40_0
        try clear hfz44_0
        try clear p2
        try clear p6
        obtain ⟨x12_1, rfl, HA, HK1, BK166, BK169, BK172, HB⟩ := hrel
        cases gk with
        | zero => exact absurd HA.out (by simp [spykeep2_SlewNearest.l0])
        | succ k1 =>
          have H := HA.out
          clear HA
          simp only [spykeep2_SlewNearest.l0] at H
          by_cases c47 : x12_1 ≤ 6
          · rw [if_pos c47] at H
            have c47b0 : decide (x12_1 ≤ 6) = true := decide_eq_true c47
            clear c47
            replace H := Option.bind_eq_some_iff.mp H
            obtain ⟨t173, A480, H⟩ := H
            replace H : (if t173 = true then (some false) else (spykeep2_SlewNearest.l0 k1 t171 (Int.tmod a1 4294967296) (wrap64 (x12_1 + 1)) t161 t162 t163 t164 t170)) = some r := H
            have A48 := Aside0.mk A480
            clear A480
            by_cases c49 : t173 = true
            · subst c49
              have H1 : (some false) = some r := by rw [if_pos rfl] at H; exact H
              clear H
              have H := H1
              clear H1
              obtain rfl := Option.some.inj H
              have hcz50_0 := tch4 BK166.out
              go_wp2_with (first | ((with_reducible refine gate_callee (f := 16) rfl ?_); refine goesL_ (some 46) rfl rfl Try.func16 (by kernel_rfl) rfl #[.agg #[.int .i64 t161, .int .i64 t162, .int .i64 t163, .int .i64 t164], .int .i64 (wrap64 ((Int.tmod a1 4294967296) + (wrap64 (x12_1 * 4294967296))))] rfl (by (try simp only [List.map_toArray, List.map_cons, List.map_nil]); first | done | rfl | (simp only [List.length_drop, List.length_take]; rfl)) ?_; (with_reducible refine (slew_In.calls t161 t162 t163 t164 (wrap64 ((Int.tmod a1 4294967296) + (wrap64 (x12_1 * 4294967296)))) true _ A48.out).mono ?_); rintro e w51 ⟨rfl, hb⟩; refine ⟨_, rfl, ?_⟩; have n0_ := Aside0.mk (blk_below BK166.out hb); have n1_ := Aside0.mk (blk_below BK169.out hb); have n2_ := Aside0.mk (blk_below BK172.out hb); have n3_ := Aside0.mk (below_step (by exact HB.out) hb); clear BK166; clear BK169; clear BK172; clear HB; have BK166 := n0_; have BK169 := n1_; have BK172 := n2_; have HB := n3_; clear n0_ n1_ n2_ n3_; (try clear hb); (try clear hb2); (try clear hk); (try clear hi)))
              go_ret
              exact ⟨by first | rfl | (simp [errW_none, errW_some] <;> rfl) | (simp [*, errW_none, errW_some] <;> rfl), by exact HB.out⟩
            · replace c49 := Bool.eq_false_iff.mpr c49
              subst c49
              have H1 : (spykeep2_SlewNearest.l0 k1 t171 (Int.tmod a1 4294967296) (wrap64 (x12_1 + 1)) t161 t162 t163 t164 t170) = some r := by rw [if_neg (show ¬ (false = true) by decide)] at H; exact H
              clear H
              have H := H1
              clear H1
              have H' := Aside0.mk H
              clear H
              have hcz52_0 := tch4 BK166.out
              go_wp2_with (first | ((with_reducible refine gate_callee (f := 16) rfl ?_); refine goesL_ (some 46) rfl rfl Try.func16 (by kernel_rfl) rfl #[.agg #[.int .i64 t161, .int .i64 t162, .int .i64 t163, .int .i64 t164], .int .i64 (wrap64 ((Int.tmod a1 4294967296) + (wrap64 (x12_1 * 4294967296))))] rfl (by (try simp only [List.map_toArray, List.map_cons, List.map_nil]); first | done | rfl | (simp only [List.length_drop, List.length_take]; rfl)) ?_; (with_reducible refine (slew_In.calls t161 t162 t163 t164 (wrap64 ((Int.tmod a1 4294967296) + (wrap64 (x12_1 * 4294967296)))) false _ A48.out).mono ?_); rintro e w53 ⟨rfl, hb⟩; refine ⟨_, rfl, ?_⟩; have n0_ := Aside0.mk (blk_below BK166.out hb); have n1_ := Aside0.mk (blk_below BK169.out hb); have n2_ := Aside0.mk (blk_below BK172.out hb); have n3_ := Aside0.mk (below_step (by exact HB.out) hb); clear BK166; clear BK169; clear BK172; clear HB; have BK166 := n0_; have BK169 := n1_; have BK172 := n2_; have HB := n3_; clear n0_ n1_ n2_ n3_; (try clear hb); (try clear hb2); (try clear hk); (try clear hi)))
              go_roundg k1
              case measure => have := HK1.out; omega
              case rel => exact ⟨(wrap64 (x12_1 + 1)), (by first | rfl | (simp; done) | (simp [*]; done)), H', ⟨by have := HK1.out; omega⟩, ⟨by exact BK166.out⟩, ⟨by exact BK169.out⟩, ⟨by exact BK172.out⟩, ⟨by exact HB.out⟩⟩
          · rw [if_neg c47] at H
            have c47b0 : decide (x12_1 ≤ 6) = false := decide_eq_false c47
            clear c47
            by_cases c54 : t171 = 4
            · rw [if_pos c54] at H
              have c54b0 : (t171 == 4) = true := beq_iff_eq.mpr c54
              have c54b1 : (t171 != 4) = false := bne_eq_false_iff_eq.mpr c54
              clear c54
              obtain rfl := Option.some.inj H
              have hcz55_0 : wr.cell? ⟨gb172, 0, none⟩ = some (.int .i64 t170) := (blk_cell BK172.out 0).trans rfl
              have hfz55_0 := blk_frozen BK172.out 0
              go_wp2
              go_ret
              exact ⟨by first | rfl | (simp [errW_none, errW_some] <;> rfl) | (simp [*, errW_none, errW_some] <;> rfl), by exact HB.out⟩
            · rw [if_neg c54] at H
              have c54b0 : (t171 == 4) = false := beq_eq_false_iff_ne.mpr c54
              have c54b1 : (t171 != 4) = true := bne_iff_ne.mpr c54
              obtain rfl := Option.some.inj H
              go_wp2
              go_ret
              exact ⟨by first | rfl | (simp [errW_none, errW_some] <;> rfl) | (simp [*, errW_none, errW_some] <;> rfl), by exact HB.out⟩
  · replace c4 := Bool.eq_false_iff.mpr c4
    subst c4
    have H1 : (some false) = some r := by rw [if_neg (show ¬ (false = true) by decide)] at H; exact H
    clear H
    have H := H1
    clear H1
    obtain rfl := Option.some.inj H
    go_enter Try.func3, Try.ntmps3
    go_wp2_with (first | ((with_reducible refine gate_callee (f := 11) rfl ?_); refine goesL_ (some 15) rfl rfl Try.func11 (by kernel_rfl) rfl #[] rfl (by (try simp only [List.map_toArray, List.map_cons, List.map_nil]); first | done | rfl | (simp only [List.length_drop, List.length_take]; rfl)) ?_; (with_reducible refine (spykeep2_slews.calls k  false _ A3.out).mono ?_); rintro e w56 ⟨rfl, hb⟩; refine ⟨_, rfl, ?_⟩; have n0_ := Aside0.mk (below_step (by exact HB.out) hb); clear HB; have HB := n0_; clear n0_; (try clear hb); (try clear hb2); (try clear hk); (try clear hi)))
    go_ret
    exact ⟨by first | rfl | (simp [errW_none, errW_some] <;> rfl) | (simp [*, errW_none, errW_some] <;> rfl), by exact HB.out⟩

/-- THE ONE PURE STATEMENT of spykeep2_SlewNearest: yours. -/
def spykeep2_SlewNearest.Pure : Prop := ∀ (l0 : List Int) (a1 : Int), l0.length ≤ maxLen → l0.length * 8 ≤ 140737488351232 → (∀ x ∈ l0, (Lit.int .i64 x).wf = true) → (Lit.int .i64 a1).wf = true → ∃ k, spykeep2_SlewNearest.f k l0 a1 = some true
theorem spykeep2_SlewNearest.walk (P : spykeep2_SlewNearest.Pure) (a0 : Option Addr) (len0 cap0 : Nat) (z0 : List Int) (a1 : Int) (w : World) (w0 : (a0 = none ∧ len0 = 0 ∧ cap0 = 0 ∧ z0 = []) ∨ ∃ x, a0 = some x ∧ len0 ≤ cap0 ∧ cap0 ≤ maxLen ∧ z0.length = cap0 ∧ (∀ i, i < z0.length → w.cell? (x.add i) = some (.int .i64 (z0.getD i 0))) ∧ ∀ n ∈ z0, (Lit.int .i64 n).wf = true) (y0 : len0 * 8 ≤ 140737488351232) (w1 : (Lit.int .i64 a1).wf = true) :
    Calls Try.prog 3 #[.slice a0 len0 cap0, .int .i64 a1] w fun e w' => e = .returned (.bool true) ∧ Below w.heap.size w w' := by
  obtain ⟨l0, rfl, hr0, hm0, hw0, hc0⟩ := ReadsInt.ofRowC w0
  obtain ⟨k, h⟩ := P l0 a1 hm0 y0 hw0 w1
  refine (spykeep2_SlewNearest.calls k _ _ l0 a1 true w (Kd.C_of_reads (d := (0 : Int)) (h1 := fun _ => rfl) hr0) hc0 h).mono ?_
  rintro e w' ⟨rfl, hd⟩
  exact ⟨rfl, hd⟩

end Go.Proofs.Ytmdphfjpocmooaa.PSlewNearest
